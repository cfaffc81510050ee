import PyProof.Rows.All
import Wide.All
import OpenK.AllK
import Wide.FinOn
import HandS.ForMost
import HandS.Wide
import HandS.IsInst
import HandS.TupAny
import HandS.TupLe
import HandS.Conv
import HandS.TupMul
import HandS.Zip
import HandS.Walk
import HandS.Exc
import HandS.ExcOwn
import HandS.TryOnly
import HandS.Defaults
import HandS.Dict
import HandS.Text
import HandS.Deep
import HandS.RaiseMore
import HandS.Iter
import KE.GoesMore
import KE.GoesEnum
import HandS.ExcInit
import HandS.ExcField
import HandS.TryMany
import HandS.Flow
import HandS.HeadHook1
import HandS.HeadWalk
import HandS.WordsExc
import KE.KStateDown
import HandS.Head0
import HandS.Head1
import HandS.Head2
import HandS.HeadEnd
import HandS.HeadHook2
import PySem.Challenge.RW_sharetrail_k02_loads_and_deeds
set_option Elab.async false
set_option linter.all false
set_option maxRecDepth 100000
namespace VM
open PySem L2

/-! values without addresses of tuples; lists stand in a heap of our own -/
inductive D where
  | non | bl (b : Bool) | int (i : Int) | str (s : Str) | tup (ds : List D) | ref (i : Nat)
  deriving Inhabited
mutual
def D.eqb : D → D → Bool
  | .non, .non => true
  | .bl a, .bl b => a == b
  | .int a, .int b => a == b
  | .str a, .str b => a == b
  | .tup a, .tup b => D.eqbs a b
  | .ref a, .ref b => a == b
  | _, _ => false
def D.eqbs : List D → List D → Bool
  | [], [] => true
  | x :: xs, y :: ys => D.eqb x y && D.eqbs xs ys
  | _, _ => false
end
mutual
theorem D.eqb_iff : ∀ (a b : D), D.eqb a b = true ↔ a = b
  | .non, b => by cases b <;> simp [D.eqb]
  | .bl x, b => by cases b <;> simp [D.eqb]
  | .int x, b => by cases b <;> simp [D.eqb]
  | .str x, b => by cases b <;> simp [D.eqb]
  | .ref x, b => by cases b <;> simp [D.eqb]
  | .tup x, b => by
    cases b with
    | tup y => simp only [D.eqb, D.tup.injEq]; exact D.eqbs_iff x y
    | _ => simp [D.eqb]
theorem D.eqbs_iff : ∀ (a b : List D), D.eqbs a b = true ↔ a = b
  | [], b => by cases b <;> simp [D.eqbs]
  | x :: xs, b => by
    cases b with
    | nil => simp [D.eqbs]
    | cons y ys => simp only [D.eqbs, Bool.and_eq_true, List.cons.injEq]; rw [D.eqb_iff x y, D.eqbs_iff xs ys]
end
instance : DecidableEq D := fun a b => decidable_of_iff _ (D.eqb_iff a b)
mutual
/-- no list within -/
def D.gr : D → Bool
  | .ref _ => false
  | .tup ds => D.grs ds
  | _ => true
def D.grs : List D → Bool
  | [] => true
  | d :: ds => D.gr d && D.grs ds
end
abbrev DKey := Int ⊕ Str
inductive Ob where
  | lst (ds : List D)
  | ro (ds : List D)
  | dct (kvs : List (DKey × D))
  deriving Inhabited, DecidableEq
def Ob.gr : Ob → Bool
  | .lst ds => D.grs ds
  | .ro ds => D.grs ds
  | .dct kvs => D.grs (kvs.map (·.2))
abbrev Hv := List Ob
inductive R (α : Type) where
  | ok (a : α) (h : Hv) | exc (c : Str) (d : D) (h : Hv) | stuck
def R.bind {α β : Type} (r : R α) (f : α → Hv → R β) : R β := match r with
  | .ok a h => f a h
  | .exc c d h => .exc c d h
  | .stuck => .stuck
abbrev Env := List (Option D)
abbrev Or := Str → List D → Hv → R D
abbrev EF := Or → Env → Hv → R D
abbrev TF := D → Env → Hv → Option Env
inductive SR where
  | nx (e : Env) (h : Hv) | rt (d : D) (h : Hv) | bk (e : Env) (h : Hv) | ct (e : Env) (h : Hv) | exc (c : Str) (d : D) (e : Env) (h : Hv) | stuck
abbrev SF := Or → Env → Hv → SR
abbrev Guards := List (Nat × List D)
abbrev IF := Or → Env → Hv → R (List D × Guards)
def R.thenS (r : R D) (e : Env) (f : D → Hv → SR) : SR := match r with
  | .ok a h => f a h
  | .exc c d h => .exc c d e h
  | .stuck => .stuck

def szl : Nat := 1000000
def big64 : Nat := 2 ^ 64
def bigM : Nat := 2 ^ 400000
def bigD : Nat := 2 ^ 8900

/-! expressions -/
def varF (i : Nat) : EF := fun _ env h => match env[i]? with
  | some (some d) => .ok d h
  | _ => .stuck
def conF (d : D) : EF := fun _ _ h => .ok d h
def un1F (op : D → Hv → R D) (a : EF) : EF := fun C env h => (a C env h).bind op
def binF (op : D → D → Hv → R D) (a b : EF) : EF := fun C env h => (a C env h).bind fun x h1 => (b C env h1).bind fun y h2 => op x y h2
def andF (a b : EF) : EF := fun C env h => (a C env h).bind fun x h1 => match x with
  | .bl true => b C env h1
  | .bl false => .ok (.bl false) h1
  | _ => .stuck
def orF (a b : EF) : EF := fun C env h => (a C env h).bind fun x h1 => match x with
  | .bl true => .ok (.bl true) h1
  | .bl false => b C env h1
  | _ => .stuck
def chainF (op op' : D → D → Hv → R D) (a b c : EF) : EF := fun C env h => (a C env h).bind fun x h1 => (b C env h1).bind fun y h2 => (op x y h2).bind fun z h3 => match z with
  | .bl true => (c C env h3).bind fun w h4 => op' y w h4
  | .bl false => .ok (.bl false) h3
  | _ => .stuck
def iteF (c a b : EF) : EF := fun C env h => (c C env h).bind fun x h1 => match x with
  | .bl true => a C env h1
  | .bl false => b C env h1
  | _ => .stuck
def listF : List EF → Or → Env → Hv → R (List D)
  | [], _, _, h => .ok [] h
  | e :: es, C, env, h => (e C env h).bind fun x h1 => (listF es C env h1).bind fun xs h2 => .ok (x :: xs) h2
def tupF (es : List EF) : EF := fun C env h => (listF es C env h).bind fun ds h1 => if ds.length ≤ szl then .ok (.tup ds) h1 else .stuck
def lstF (es : List EF) : EF := fun C env h => (listF es C env h).bind fun ds h1 => if ds.length ≤ szl then .ok (.ref h1.length) (h1 ++ [.lst ds]) else .stuck
def callF (f : Str) (es : List EF) : EF := fun C env h => (listF es C env h).bind fun ds h1 => C f ds h1
def bltF (g : List D → Hv → R D) (es : List EF) : EF := fun C env h => (listF es C env h).bind g
def optF : Option EF → Or → Env → Hv → R (Option Int)
  | none, _, _, h => .ok none h
  | some e, C, env, h => (e C env h).bind fun x h1 => match x with
    | .int i => .ok (some i) h1
    | _ => .stuck
def slcF (op : D → Option Int → Option Int → Hv → R D) (a : EF) (lo hi : Option EF) : EF := fun C env h => (a C env h).bind fun x h1 => (optF lo C env h1).bind fun l h2 => (optF hi C env h2).bind fun u h3 => op x l u h3
def wipeD (env : Env) : List Nat → Env
  | [] => env
  | v :: vs => (wipeD env vs).set v none
def guardsOk (gs : Guards) (h : Hv) : Bool := gs.all fun g => decide (h[g.1]? = some (.lst g.2) ∨ h[g.1]? = some (.ro g.2))
/-- [elt for tg in items if t]: the new list stands at n -/
def lcLoop (C : Or) (env : Env) (tg : TF) (t : EF) (elt : EF) (gs : Guards) (n : Nat) : List D → Hv → R Unit
  | [], h => if guardsOk gs h then .ok () h else .stuck
  | x :: xs, h => if guardsOk gs h then (match tg x env h with
    | some env1 => (t C env1 h).bind fun b h1 => match b with
      | .bl true => (elt C env1 h1).bind fun y h2 => (match h2[n]? with
        | some (.lst acc) => if acc.length < szl then lcLoop C env tg t elt gs n xs (h2.set n (.lst (acc ++ [y]))) else .stuck
        | _ => .stuck)
      | .bl false => lcLoop C env tg t elt gs n xs h1
      | _ => .stuck
    | none => .stuck) else .stuck
def R.noexc {α : Type} : R α → R α
  | .exc _ _ _ => .stuck
  | r => r
def lcF (it : IF) (tg : TF) (own : List Nat) (t elt : EF) : EF := fun C env h => (it C env h).bind fun z h1 =>
  ((lcLoop C (wipeD env own) tg t elt z.2 h1.length z.1 (h1 ++ [.lst []])).noexc).bind fun _ h2 => .ok (.ref h1.length) h2

/-! what is walked -/
def seqOf (d : D) (h : Hv) : Option (List D × Guards) := match d with
  | .tup ds => some (ds, [])
  | .ref i => (match h[i]? with
    | some (.lst ds) => some (ds, [(i, ds)])
    | some (.ro ds) => some (ds, [(i, ds)])
    | _ => none)
  | _ => none
/-- a dict's keys: ints and texts -/
def keyD : D → Option DKey
  | .int i => some (.inl i)
  | .str z => some (.inr z)
  | _ => none
def kD : DKey → D
  | .inl i => .int i
  | .inr z => .str z
def dctAt (d : D) (h : Hv) : Option (List (DKey × D)) := match d with
  | .ref p => (match h[p]? with
    | some (.dct kvs) => some kvs
    | _ => none)
  | _ => none
def getD_ (kvs : List (DKey × D)) (k : DKey) : Option D := (kvs.find? fun kv => decide (kv.1 = k)).map (·.2)
def putD_ (kvs : List (DKey × D)) (k : DKey) (d : D) : List (DKey × D) :=
  if (kvs.any fun kv => decide (kv.1 = k)) = true then kvs.map (fun kv => if kv.1 = k then (kv.1, d) else kv) else kvs ++ [(k, d)]
def signsD (z : Str) : List D := z.cps.toList.map fun c => .str ⟨#[c]⟩
def itE (e : EF) : IF := fun C env h => (e C env h).bind fun x h1 => match seqOf x h1 with
  | some z => .ok z h1
  | none => (match x with
    | .str z => if z.length ≤ szl then .ok (signsD z, []) h1 else .stuck
    | _ => .stuck)
def rng (lo : Int) (n : Nat) : List D := (List.range n).map fun i => .int (lo + (i : Nat))
def it1F (e : EF) : IF := fun C env h => (e C env h).bind fun x h1 => match x with
  | .int j => if -(2 ^ 60) ≤ j ∧ j ≤ 2 ^ 60 then .ok (rng 0 j.toNat, []) h1 else .stuck
  | _ => .stuck
def it2F (a b : EF) : IF := fun C env h => (a C env h).bind fun x h1 => (b C env h1).bind fun y h2 => match x, y with
  | .int i, .int j => if (-(2 ^ 60) ≤ i ∧ i ≤ 2 ^ 60) ∧ -(2 ^ 60) ≤ j ∧ j ≤ 2 ^ 60 then .ok (rng i (j - i).toNat, []) h2 else .stuck
  | _, _ => .stuck
def zipD : List D → List D → List D
  | x :: xs, y :: ys => .tup [x, y] :: zipD xs ys
  | _, _ => []
def enumD : Nat → List D → List D
  | _, [] => []
  | i, x :: xs => .tup [.int (i : Nat), x] :: enumD (i + 1) xs
def itZ (a b : EF) : IF := fun C env h => (a C env h).bind fun x h1 => (b C env h1).bind fun y h2 => match seqOf x h2, seqOf y h2 with
  | some z, some w => .ok (zipD z.1 w.1, z.2 ++ w.2) h2
  | _, _ => .stuck
def itN (a : EF) : IF := fun C env h => (a C env h).bind fun x h1 => match seqOf x h1 with
  | some z => .ok (enumD 0 z.1, z.2) h1
  | none => .stuck

/-! targets -/
def nmT (i : Nat) : TF := fun d env _ => if i < env.length then some (env.set i (some d)) else none
def tgsT : List TF → List D → Env → Hv → Option Env
  | [], [], env, _ => some env
  | t :: ts, d :: ds, env, h => match t d env h with
    | some env1 => tgsT ts ds env1 h
    | none => none
  | _, _, _, _ => none
def tupT (ts : List TF) : TF := fun d env h => match d with
  | .tup ds => tgsT ts ds env h
  | .ref i => (match h[i]? with
    | some (.lst ds) => tgsT ts ds env h
    | _ => none)
  | _ => none

/-! statements -/
def nxS : SF := fun _ env h => .nx env h
def bkS : SF := fun _ env h => .bk env h
def ctS : SF := fun _ env h => .ct env h
def seqS (a b : SF) : SF := fun C env h => match a C env h with
  | .nx env1 h1 => b C env1 h1
  | r => r
def expS (e : EF) : SF := fun C env h => (e C env h).thenS env fun _ h1 => .nx env h1
def asgS (t : TF) (e : EF) : SF := fun C env h => (e C env h).thenS env fun d h1 => match t d env h1 with
  | some env1 => .nx env1 h1
  | none => .stuck
/-- o[i] = e -/
def setL (o i d : D) (h : Hv) : Option Hv := match o with
  | .ref p => (match h[p]? with
    | some (.lst ds) => (match i with
      | .int k => (match ixN ds.length k with
        | some j => some (h.set p (.lst (ds.set j d)))
        | none => none)
      | _ => none)
    | some (.dct kvs) => (match keyD i with
      | some k => if kvs.length < szl then some (h.set p (.dct (putD_ kvs k d))) else none
      | none => none)
    | _ => none)
  | _ => none
def setS (o i e : EF) : SF := fun C env h => (e C env h).thenS env fun d h1 => (o C env h1).thenS env fun x h2 => (i C env h2).thenS env fun k h3 => match setL x k d h3 with
  | some h4 => .nx env h4
  | none => .stuck
/-- a, b = x, y (plain local names) -/
def parS (i j : Nat) (a b : EF) : SF := fun C env h => (a C env h).thenS env fun x h1 => (b C env h1).thenS env fun y h2 => if i < env.length ∧ j < env.length then .nx ((env.set i (some x)).set j (some y)) h2 else .stuck
def retS (e : EF) : SF := fun C env h => (e C env h).thenS env fun d h1 => .rt d h1
def retN : SF := fun _ _ h => .rt .non h
def ifS (c : EF) (a b : SF) : SF := fun C env h => (c C env h).thenS env fun x h1 => match x with
  | .bl true => a C env h1
  | .bl false => b C env h1
  | _ => .stuck
def forL (C : Or) (tg : TF) (body : SF) (gs : Guards) : List D → Env → Hv → SR
  | [], env, h => if guardsOk gs h then .nx env h else .stuck
  | x :: xs, env, h => if guardsOk gs h then (match tg x env h with
    | some env1 => (match body C env1 h with
      | .nx env2 h2 => forL C tg body gs xs env2 h2
      | .ct env2 h2 => forL C tg body gs xs env2 h2
      | .bk env2 h2 => .nx env2 h2
      | r => r)
    | none => .stuck) else .stuck
def R.thenI (r : R (List D × Guards)) (e : Env) (f : List D × Guards → Hv → SR) : SR := match r with
  | .ok a h => f a h
  | .exc c d h => .exc c d e h
  | .stuck => .stuck
def forS (it : IF) (tg : TF) (body : SF) : SF := fun C env h => (it C env h).thenI env fun z h1 => forL C tg body z.2 z.1 env h1
def whileL (C : Or) (c : EF) (body : SF) : Nat → Env → Hv → SR
  | 0, _, _ => .stuck
  | n + 1, env, h => (c C env h).thenS env fun x h1 => match x with
    | .bl true => (match body C env h1 with
      | .nx env2 h2 => whileL C c body n env2 h2
      | .ct env2 h2 => whileL C c body n env2 h2
      | .bk env2 h2 => .nx env2 h2
      | r => r)
    | .bl false => .nx env h1
    | _ => .stuck
def wfuel : Nat := 1000000
def whileS (c : EF) (body : SF) : SF := fun C env h => whileL C c body wfuel env h
def raiS (c : Str) (e : EF) : SF := fun C env h => (e C env h).thenS env fun d h1 => .exc c d env h1

/-- an except clause: its suite; return e.at; return (s, e.at) -/
inductive Hd where
  | su (f : SF) | at_ (i : Nat) | pr (i : Nat) (s : Str)
def runHd : Hd → D → SF
  | .su f, _ => f
  | .at_ i, d => fun _ env h => if d = .non ∨ env.length ≤ i then .stuck else .rt d h
  | .pr i s, d => fun _ env h => if d = .non ∨ env.length ≤ i then .stuck else .rt (.tup [.str s, d]) h
def SR.noexc : SR → SR
  | .exc _ _ _ _ => .stuck
  | r => r
/-- try: body, its clauses by the classes' names; ks: the classes known -/
def tryS (ks : List Str) (body : SF) (hs : List (Str × Hd)) : SF := fun C env h => match body C env h with
  | .exc c d env1 h1 => if ks.contains c = true then (match hs.lookup c with
    | some g => (runHd g d C env1 h1).noexc
    | none => .exc c d env1 h1) else .stuck
  | r => r
/-- x or y, of tuples -/
def orT (a b : EF) : EF := fun C env h => (a C env h).bind fun x h1 => match x with
  | .tup [] => b C env h1
  | .tup (d :: ds) => .ok (.tup (d :: ds)) h1
  | _ => .stuck
/-! defs -/
structure FnRec where
  np : Nat
  nl : Nat
  body : SF
/-- what a def has made and no one can see any more is forgotten -/
def sameOrGr (h h' : Hv) : Bool := (List.range h.length).all fun i => decide (h'[i]? = h[i]?) || (match h'[i]? with
  | some o => o.gr
  | none => false)
def gc (h : Hv) (d : D) (h' : Hv) : R D :=
  if h.length ≤ h'.length ∧ sameOrGr h h' = true then
    (if d.gr then .ok d (h'.take h.length) else match d with
      | .ref i => (match h'[i]? with
        | some (.lst ds) => if h.length ≤ i ∧ D.grs ds = true then .ok (.ref h.length) (h'.take h.length ++ [.lst ds]) else .ok d h'
        | _ => .ok d h')
      | _ => .ok d h')
  else .ok d h'
def runFn (r : FnRec) (C : Or) (args : List D) (h : Hv) : R D :=
  if args.length = r.np then (match r.body C (args.map some ++ List.replicate (r.nl - r.np) none) h with
    | .nx _ h' => gc h .non h'
    | .rt d h' => gc h d h'
    | .exc c d _ h' => .exc c d h'
    | _ => .stuck) else .stuck
def callK (tbl : Str → Option FnRec) : Nat → Or
  | 0 => fun _ _ _ => .stuck
  | k + 1 => fun f args h => match tbl f with
    | some r => runFn r (callK tbl k) args h
    | none => .stuck

/-! operators -/
def opAdd : D → D → Hv → R D := fun x y h => match x, y with
  | .int i, .int j => .ok (.int (i + j)) h
  | .str a, .str b => if a.length + b.length ≤ szl then .ok (.str (a ++ b)) h else .stuck
  | .tup a, .tup b => if a.length + b.length ≤ szl then .ok (.tup (a ++ b)) h else .stuck
  | .ref p, .ref q => (match h[p]?, h[q]? with
    | some (.lst a), some (.lst b) => if a.length + b.length ≤ szl then .ok (.ref h.length) (h ++ [.lst (a ++ b)]) else .stuck
    | _, _ => .stuck)
  | _, _ => .stuck
def opSub : D → D → Hv → R D := fun x y h => match x, y with
  | .int i, .int j => .ok (.int (i - j)) h
  | _, _ => .stuck
def opMul : D → D → Hv → R D := fun x y h => match x, y with
  | .int i, .int j => if i.natAbs < big64 ∨ j.natAbs < big64 ∨ (i.natAbs < bigM ∧ j.natAbs < bigM) then .ok (.int (i * j)) h else .stuck
  | .ref p, .int k => (match h[p]? with
    | some (.lst a) => if 0 ≤ k ∧ k ≤ 1000 ∧ a.length ≤ 1000 then .ok (.ref h.length) (h ++ [.lst (List.replicate k.toNat a).flatten]) else .stuck
    | _ => .stuck)
  | .tup a, .int k => if k = 0 then .ok (.tup []) h else if k = 1 then .ok (.tup a) h else if a ≠ [] ∧ 2 ≤ k ∧ k ≤ 1000 ∧ a.length ≤ 1000 then .ok (.tup (List.replicate k.toNat a).flatten) h else .stuck
  | _, _ => .stuck
def opFdiv : D → D → Hv → R D := fun x y h => match x, y with
  | .int i, .int j => if 0 < j ∧ j.natAbs < bigD then .ok (.int (i / j)) h else .stuck
  | _, _ => .stuck
def opMod : D → D → Hv → R D := fun x y h => match x, y with
  | .int i, .int j => if 0 < j then .ok (.int (i % j)) h else .stuck
  | _, _ => .stuck
def opPow : D → D → Hv → R D := fun x y h => match x, y with
  | .int i, .int j => if 0 ≤ j ∧ j ≤ 1000 ∧ i.natAbs < big64 then .ok (.int (i ^ j.toNat)) h else .stuck
  | _, _ => .stuck
def opNeg : D → Hv → R D := fun x h => match x with
  | .int i => .ok (.int (-i)) h
  | _ => .stuck
def opNot : D → Hv → R D := fun x h => match x with
  | .bl b => .ok (.bl (!b)) h
  | _ => .stuck
def cmpI (p : Int → Int → Bool) : D → D → Hv → R D := fun x y h => match x, y with
  | .int i, .int j => .ok (.bl (p i j)) h
  | _, _ => .stuck
def opLt := cmpI fun i j => decide (i < j)
def opLe : D → D → Hv → R D := fun x y h => match x, y with
  | .str a, .str b => .ok (.bl (!decide (b.cps.toList < a.cps.toList))) h
  | x, y => cmpI (fun i j => decide (i ≤ j)) x y h
def opGt := cmpI fun i j => decide (j < i)
def opGe := cmpI fun i j => decide (j ≤ i)
/-! == -/
mutual
/-- the data of a value; lists are read, n deep -/
def toP (h : Hv) : Nat → D → Option PyData
  | _, .non => some .none
  | _, .bl b => some (.bool b)
  | _, .int i => some (.int i)
  | _, .str s => if PyData.strOk s = true then some (.str s) else none
  | n + 1, .tup ds => (toPs h n ds).map .tuple
  | n + 1, .ref i => match h[i]? with
    | some (.lst ds) => (toPs h n ds).map .list
    | _ => none
  | 0, _ => none
def toPs (h : Hv) : Nat → List D → Option (List PyData)
  | _, [] => some []
  | n, d :: ds => match toP h n d with
    | some p => (match toPs h n ds with
      | some ps => some (p :: ps)
      | none => none)
    | none => none
end
def opEqD (neg : Bool) : D → D → Hv → R D := fun x y h => match toP h 60 x, toP h 60 y with
  | some p, some q => .ok (.bl (if neg then !PyData.eqv p q else PyData.eqv p q)) h
  | _, _ => .stuck
def opIs (neg : Bool) : D → D → Hv → R D := fun x y h => match x, y with
  | .bl a, .bl b => .ok (.bl (if neg then !decide (a = b) else decide (a = b))) h
  | x, .non => .ok (.bl (if neg then !decide (x = .non) else decide (x = .non))) h
  | _, _ => .stuck
def flatD : D → Bool
  | .non => true | .bl _ => true | .int _ => true | .str _ => true
  | _ => false
def eqD : D → D → Bool
  | .non, .non => true
  | .bl a, .bl b => a == b
  | .bl a, .int b => (if a then 1 else 0) == b
  | .int a, .bl b => a == (if b then 1 else 0)
  | .int a, .int b => a == b
  | .str a, .str b => a == b
  | _, _ => false
/-- of a list whose things are of any kind -/
def inP (neg : Bool) (x y : D) (h : Hv) : R D := match toP h 50 x, toP h 50 y with
  | some p, some (.list ds) => .ok (.bl (if neg then !(ds.any fun z => PyData.eqv z p) else ds.any fun z => PyData.eqv z p)) h
  | _, _ => .stuck
def opIn (neg : Bool) : D → D → Hv → R D := fun x y h => match seqOf y h with
  | some z => if flatD x = true ∧ z.1.all flatD = true then .ok (.bl (if neg then !(z.1.any fun y => eqD y x) else z.1.any fun y => eqD y x)) h else inP neg x y h
  | none => (match dctAt y h, keyD x with
    | some kvs, some k => .ok (.bl (if neg then !(getD_ kvs k).isSome else (getD_ kvs k).isSome)) h
    | _, _ => .stuck)
/-! subscripts -/
/-- of a dict -/
def ixK (x y : D) (h : Hv) : R D := match dctAt x h, keyD y with
  | some kvs, some k => (match getD_ kvs k with
    | some d => .ok d h
    | none => .stuck)
  | _, _ => .stuck
def opIx : D → D → Hv → R D := fun x y h => match y with
  | .int i => (match x with
    | .str z => if z.length ≤ szl then (match atI z.cps.toList i with
      | some c => .ok (.str ⟨#[c]⟩) h
      | none => .stuck) else .stuck
    | _ => (match seqOf x h with
      | some z => (match atI z.1 i with
        | some d => .ok d h
        | none => .stuck)
      | none => ixK x y h))
  | _ => ixK x y h
def cutD {α : Type} (xs : List α) (lo hi : Option Int) : List α := (xs.drop (HT.sIx xs.length 0 lo)).take (HT.sIx xs.length xs.length hi - HT.sIx xs.length 0 lo)
def opSl : D → Option Int → Option Int → Hv → R D := fun x lo hi h => match x with
  | .tup ds => .ok (.tup (cutD ds lo hi)) h
  | .ref p => (match h[p]? with
    | some (.lst ds) => .ok (.ref h.length) (h ++ [.lst (cutD ds lo hi)])
    | _ => .stuck)
  | .str z => if z.length ≤ szl then .ok (.str (cutS z lo hi)) h else .stuck
  | _ => .stuck
/-- x[::-1] -/
def opRev : D → Hv → R D := fun x h => match x with
  | .tup ds => .ok (.tup ds.reverse) h
  | .ref p => (match h[p]? with
    | some (.lst ds) => .ok (.ref h.length) (h ++ [.lst ds.reverse])
    | _ => .stuck)
  | _ => .stuck
/-! texts' methods -/
def smth0 (g : Str → Option D) : D → Hv → R D := fun x h => match x with
  | .str z => (match g z with
    | some d => .ok d h
    | none => .stuck)
  | _ => .stuck
def mUpper (z : Str) : Option D := if z.length ≤ szl then some (.str (Txt.upper z)) else none
def mIsdigit (z : Str) : Option D := some (.bl (Txt.isdigit z))
/-! built-ins -/
def bLen : List D → Hv → R D := fun xs h => match xs with
  | [.str z] => if z.length ≤ szl then .ok (.int z.length) h else .stuck
  | [x] => (match seqOf x h with
    | some z => .ok (.int z.1.length) h
    | none => .stuck)
  | _ => .stuck
def bAbs : List D → Hv → R D := fun xs h => match xs with
  | [.int i] => .ok (.int (if i < 0 then -i else i)) h
  | _ => .stuck
def bInt : List D → Hv → R D := fun xs h => match xs with
  | [.int i] => .ok (.int i) h
  | [.bl b] => .ok (.int (if b then 1 else 0)) h
  | [.str z] => if z.length ≤ 640 then (match PySem.intText? z with
    | some n => .ok (.int n) h
    | none => .stuck) else .stuck
  | _ => .stuck
/-- str(x) -/
def bStr : List D → Hv → R D := fun xs h => match xs with
  | [.int i] => if i.natAbs.log2 < 1920 then .ok (.str (toString i)) h else .stuck
  | [.str z] => .ok (.str z) h
  | _ => .stuck
def bMax : List D → Hv → R D := fun xs h => match xs with
  | [.int i, .int j] => .ok (.int (if j > i then j else i)) h
  | _ => .stuck
def bMin : List D → Hv → R D := fun xs h => match xs with
  | [.int i, .int j] => .ok (.int (if j < i then j else i)) h
  | _ => .stuck
def intsD : List D → Option (List Int)
  | [] => some []
  | .int i :: r => (intsD r).map (i :: ·)
  | _ => none
def blsD : List D → Option (List Bool)
  | [] => some []
  | .bl i :: r => (blsD r).map (i :: ·)
  | _ => none
def lstAt (d : D) (h : Hv) : Option (List D) := match d with
  | .ref p => (match h[p]? with
    | some (.lst ds) => some ds
    | some (.ro ds) => some ds
    | _ => none)
  | _ => none
def bSum : List D → Hv → R D := fun xs h => match xs with
  | [x] => (match (lstAt x h).bind intsD with
    | some ns => .ok (.int ns.sum) h
    | none => .stuck)
  | _ => .stuck
def bAll : List D → Hv → R D := fun xs h => match xs with
  | [x] => (match (lstAt x h).bind blsD with
    | some bs => .ok (.bl (bs.all id)) h
    | none => .stuck)
  | _ => .stuck
def bAny : List D → Hv → R D := fun xs h => match xs with
  | [x] => (match (lstAt x h).bind blsD with
    | some bs => .ok (.bl (bs.any id)) h
    | none => .stuck)
  | _ => .stuck
def bTuple : List D → Hv → R D := fun xs h => match xs with
  | [x] => (match seqOf x h with
    | some z => .ok (.tup z.1) h
    | none => .stuck)
  | _ => .stuck
def bList : List D → Hv → R D := fun xs h => match xs with
  | [x] => (match seqOf x h with
    | some z => .ok (.ref h.length) (h ++ [.lst z.1])
    | none => (match dctAt x h with
      | some kvs => .ok (.ref h.length) (h ++ [.lst (kvs.map fun kv => kD kv.1)])
      | none => .stuck))
  | _ => .stuck
/-! methods of lists -/
def mAppend : D → List D → Hv → R D := fun o xs h => match o, xs with
  | .ref p, [d] => (match h[p]? with
    | some (.lst ds) => if ds.length < szl then .ok .non (h.set p (.lst (ds ++ [d]))) else .stuck
    | _ => .stuck)
  | _, _ => .stuck
def mReverse : D → List D → Hv → R D := fun o xs h => match o, xs with
  | .ref p, [] => (match h[p]? with
    | some (.lst ds) => .ok .non (h.set p (.lst ds.reverse))
    | _ => .stuck)
  | _, _ => .stuck
def isLst (d : D) (h : Hv) : Bool := match d with
  | .ref p => (match h[p]? with
    | some (.lst _) => true
    | some (.ro _) => true
    | _ => false)
  | _ => false
/-- d.m(..) of a dict -/
def methD (g : D → List D → Hv → R D) (o : EF) (es : List EF) : EF := fun C env h => (o C env h).bind fun x h1 => match dctAt x h1 with
  | some _ => (listF es C env h1).bind fun ds h2 => g x ds h2
  | none => .stuck
def mGet : D → List D → Hv → R D := fun o xs h => match dctAt o h, xs with
  | some kvs, [k] => (match keyD k with
    | some k => .ok ((getD_ kvs k).getD .non) h
    | none => .stuck)
  | some kvs, [k, d] => (match keyD k with
    | some k => .ok ((getD_ kvs k).getD d) h
    | none => .stuck)
  | _, _ => .stuck
def pairsF : List (EF × EF) → Or → Env → Hv → R (List (DKey × D))
  | [], _, _, h => .ok [] h
  | p :: r, C, env, h => (p.1 C env h).bind fun x h1 => (p.2 C env h1).bind fun y h2 => (pairsF r C env h2).bind fun ps h3 => match keyD x with
    | some k => .ok ((k, y) :: ps) h3
    | none => .stuck
def mergeD (kvs more : List (DKey × D)) : List (DKey × D) := more.foldl (fun acc kv => putD_ acc kv.1 kv.2) kvs
/-- {k: v, ..} -/
def dctF (es : List (EF × EF)) : EF := fun C env h => (pairsF es C env (h ++ [.dct []])).bind fun ps h2 => if h2[h.length]? = some (.dct []) ∧ ps.length ≤ 15 then .ok (.ref h.length) (h2.set h.length (.dct (mergeD [] ps))) else .stuck
def methF (g : D → List D → Hv → R D) (o : EF) (es : List EF) : EF := fun C env h => (o C env h).bind fun x h1 => if isLst x h1 = true then (listF es C env h1).bind fun ds h2 => g x ds h2 else .stuck
def mExtend : D → List D → Hv → R D := fun o xs h => match o, xs with
  | .ref p, [.tup es] => (match h[p]? with
    | some (.lst ds) => if ds.length + es.length ≤ szl then .ok .non (h.set p (.lst (ds ++ es))) else .stuck
    | _ => .stuck)
  | .ref p, [.ref q] => (match h[p]?, h[q]? with
    | some (.lst ds), some (.lst es) => if ds.length + es.length ≤ szl then .ok .non (h.set p (.lst (ds ++ es))) else .stuck
    | _, _ => .stuck)
  | _, _ => .stuck
def mClear : D → List D → Hv → R D := fun o xs h => match o, xs with
  | .ref p, [] => (match h[p]? with
    | some (.lst _) => .ok .non (h.set p (.lst []))
    | _ => .stuck)
  | _, _ => .stuck
/-- l.pop(i), i from 0 on -/
def mPop : D → List D → Hv → R D := fun o xs h => match o, xs with
  | .ref p, [.int i] => (match h[p]? with
    | some (.lst ds) => if 0 ≤ i ∧ i ≤ 1000 then (match ds[i.toNat]? with
      | some d => .ok d (h.set p (.lst (ds.eraseIdx i.toNat)))
      | none => .stuck) else .stuck
    | _ => .stuck)
  | _, _ => .stuck
/-- list(range(a)) -/
def lrF (a : EF) : EF := fun C env h => (a C env h).bind fun x h1 => match x with
  | .int j => if 0 ≤ j ∧ j ≤ 1000 then .ok (.ref h1.length) (h1 ++ [.lst (rng 0 j.toNat)]) else .stuck
  | _ => .stuck
/-! isinstance, by the name of a built-in class -/
def tyD (d : D) (h : Hv) : Option String := match d with
  | .non => some "NoneType"
  | .bl _ => some "bool"
  | .int _ => some "int"
  | .str _ => some "str"
  | .tup _ => some "tuple"
  | .ref p => (match h[p]? with
    | some (.dct _) => some "dict"
    | some _ => some "list"
    | none => none)
def isiD (t T : String) : Bool := t == T || (t == "bool" && T == "int")
def isiF (T : String) : D → Hv → R D := fun x h => match tyD x h with
  | some t => .ok (.bl (isiD t T)) h
  | none => .stuck
end VM

set_option maxRecDepth 100000
set_option maxHeartbeats 1000000
namespace VM
open PySem L2
/-! isinstance of a tuple of two classes -/
def isi2F (T U : String) : D → Hv → R D := fun x h => match tyD x h with
  | some t => .ok (.bl (isiD t T || isiD t U)) h
  | none => .stuck
end VM

set_option maxRecDepth 100000
set_option maxHeartbeats 1000000
namespace VM
open PySem PySem.Spec PyProof.Rows L2

/-! what a value of ours is over there -/
mutual
inductive Rel (K : PySem.W.Frag) (L : List Addr) (H : Hp) : D → V → Prop
  | non : Rel K L H .non .non
  | bl (b : Bool) : Rel K L H (.bl b) (.bl b)
  | int (i : Int) : Rel K L H (.int i) (.int i)
  | str (s : Str) : Rel K L H (.str s) (.str s)
  | tup {ds : List D} {a : Addr} {xs : List V} : SqT K H a xs → Rels K L H ds xs → Rel K L H (.tup ds) (.ref a)
  | ref {i : Nat} {a : Addr} : L[i]? = some a → Rel K L H (.ref i) (.ref a)
inductive Rels (K : PySem.W.Frag) (L : List Addr) (H : Hp) : List D → List V → Prop
  | nil : Rels K L H [] []
  | cons {d : D} {ds : List D} {v : V} {vs : List V} : Rel K L H d v → Rels K L H ds vs → Rels K L H (d :: ds) (v :: vs)
end
def LE (L L' : List Addr) : Prop := ∀ (i : Nat) (a : Addr), L[i]? = some a → L'[i]? = some a
theorem LE.refl (L : List Addr) : LE L L := fun _ _ h => h
theorem LE.trans {L L1 L2 : List Addr} (a : LE L L1) (b : LE L1 L2) : LE L L2 := fun i x h => b i x (a i x h)
theorem LE.app (L M : List Addr) : LE L (L ++ M) := fun i a h => by
  have hi : i < L.length := (List.getElem?_eq_some_iff.mp h).1
  rw [List.getElem?_append_left hi]; exact h
structure Keep (K : PySem.W.Frag) (H H' : Hp) : Prop where
  tup : ∀ a xs, SqT K H a xs → SqT K H' a xs
  frz : ∀ a o u, H a = some (.frz o u) → H' a = some (.frz o u)
theorem Keep.refl {K : PySem.W.Frag} (H : Hp) : Keep K H H := ⟨fun _ _ h => h, fun _ _ _ h => h⟩
theorem Keep.trans {K : PySem.W.Frag} {H H1 H2 : Hp} (a : Keep K H H1) (b : Keep K H1 H2) : Keep K H H2 :=
  ⟨fun x xs h => b.tup x xs (a.tup x xs h), fun x o u h => b.frz x o u (a.frz x o u h)⟩
theorem Keep.new {K : PySem.W.Frag} {H : Hp} {p : Addr} {o : HO} (h : H p = none) : Keep K H (upd H p o) := by
  refine ⟨fun a xs q => ?_, fun a ob u q => ?_⟩
  · rcases q with (q | ⟨ob, q⟩) | q
    · exact .inl (.inl (by rw [upd_ne (ne_of_none q h)]; exact q))
    · exact .inl (.inr ⟨ob, by rw [upd_ne (ne_of_none q h)]; exact q⟩)
    · exact .inr q
  · rw [upd_ne (ne_of_none q h)]; exact q
theorem Keep.setL {K : PySem.W.Frag} {H : Hp} {p : Addr} {xs ys : List V} (h : H p = some (.lst xs)) : Keep K H (upd H p (.lst ys)) := by
  refine ⟨fun a zs q => ?_, fun a ob u q => ?_⟩
  · rcases q with (q | ⟨ob, q⟩) | q
    · exact .inl (.inl (by rw [upd_ne (ne_of q h (by intro z; cases z))]; exact q))
    · exact .inl (.inr ⟨ob, by rw [upd_ne (ne_of q h (by intro z; cases z))]; exact q⟩)
    · exact .inr q
  · rw [upd_ne (ne_of q h (by intro z; cases z))]; exact q
theorem Keep.setD {K : PySem.W.Frag} {H : Hp} {p : Addr} {xs ys : List (Key × V)} (h : H p = some (.dK xs)) : Keep K H (upd H p (.dK ys)) := by
  refine ⟨fun a zs q => ?_, fun a ob u q => ?_⟩
  · rcases q with (q | ⟨ob, q⟩) | q
    · exact .inl (.inl (by rw [upd_ne (ne_of q h (by intro z; cases z))]; exact q))
    · exact .inl (.inr ⟨ob, by rw [upd_ne (ne_of q h (by intro z; cases z))]; exact q⟩)
    · exact .inr q
  · rw [upd_ne (ne_of q h (by intro z; cases z))]; exact q
section
variable {K : PySem.W.Frag} {L L' : List Addr} {H H' : Hp}
mutual
theorem Rel.mono (le : LE L L') (kp : Keep K H H') : ∀ {d : D} {v : V}, Rel K L H d v → Rel K L' H' d v
  | _, _, .non => .non
  | _, _, .bl b => .bl b
  | _, _, .int i => .int i
  | _, _, .str s => .str s
  | _, _, .tup h r => .tup (kp.tup _ _ h) (Rels.mono le kp r)
  | _, _, .ref h => .ref (le _ _ h)
theorem Rels.mono (le : LE L L') (kp : Keep K H H') : ∀ {ds : List D} {vs : List V}, Rels K L H ds vs → Rels K L' H' ds vs
  | _, _, .nil => .nil
  | _, _, .cons r t => .cons (Rel.mono le kp r) (Rels.mono le kp t)
end
theorem Rels.len : ∀ {ds : List D} {vs : List V}, Rels K L H ds vs → ds.length = vs.length
  | _, _, .nil => rfl
  | _, _, .cons _ t => congrArg Nat.succ t.len
theorem Rels.get : ∀ {ds : List D} {vs : List V} {i : Nat} {d : D}, Rels K L H ds vs → ds[i]? = some d → ∃ v, vs[i]? = some v ∧ Rel K L H d v
  | _, _, _, _, .nil, e => by simp at e
  | _, _, 0, _, .cons r _, e => by simp at e; subst e; exact ⟨_, rfl, r⟩
  | _, _, i + 1, _, .cons _ t, e => by simpa using t.get (by simpa using e)
theorem Rels.getV : ∀ {ds : List D} {vs : List V} {i : Nat} {v : V}, Rels K L H ds vs → vs[i]? = some v → ∃ d, ds[i]? = some d ∧ Rel K L H d v
  | _, _, _, _, .nil, e => by simp at e
  | _, _, 0, _, .cons r _, e => by simp at e; subst e; exact ⟨_, rfl, r⟩
  | _, _, i + 1, _, .cons _ t, e => by simpa using t.getV (by simpa using e)
theorem Rels.app : ∀ {ds : List D} {vs : List V} {es : List D} {us : List V}, Rels K L H ds vs → Rels K L H es us → Rels K L H (ds ++ es) (vs ++ us)
  | _, _, _, _, .nil, s => s
  | _, _, _, _, .cons r t, s => .cons r (t.app s)
theorem Rels.set {d : D} {v : V} (r : Rel K L H d v) : ∀ {ds : List D} {vs : List V} (i : Nat), Rels K L H ds vs → Rels K L H (ds.set i d) (vs.set i v)
  | _, _, _, .nil => .nil
  | _, _, 0, .cons _ t => .cons r t
  | _, _, i + 1, .cons q t => .cons q (t.set r i)
theorem Rels.take : ∀ {ds : List D} {vs : List V} (n : Nat), Rels K L H ds vs → Rels K L H (ds.take n) (vs.take n)
  | _, _, 0, _ => .nil
  | _, _, _ + 1, .nil => .nil
  | _, _, n + 1, .cons r t => .cons r (t.take n)
theorem Rels.drop : ∀ {ds : List D} {vs : List V} (n : Nat), Rels K L H ds vs → Rels K L H (ds.drop n) (vs.drop n)
  | _, _, 0, r => r
  | _, _, _ + 1, .nil => .nil
  | _, _, n + 1, .cons _ t => t.drop n
theorem Rels.erase : ∀ {ds : List D} {vs : List V} (i : Nat), Rels K L H ds vs → Rels K L H (ds.eraseIdx i) (vs.eraseIdx i)
  | _, _, _, .nil => by simpa using Rels.nil
  | _, _, 0, .cons r t => by simpa using t
  | _, _, i + 1, .cons r t => by simpa using Rels.cons r (Rels.erase i t)
theorem Rels.ints (f : Nat → Int) : ∀ ns : List Nat, Rels K L H (ns.map fun i => .int (f i)) (ns.map fun i => V.int (f i))
  | [] => .nil
  | n :: ns => .cons (.int _) (Rels.ints f ns)
theorem Rels.rev : ∀ {ds : List D} {vs : List V}, Rels K L H ds vs → Rels K L H ds.reverse vs.reverse
  | _, _, .nil => .nil
  | _, _, .cons r t => by rw [List.reverse_cons, List.reverse_cons]; exact t.rev.app (.cons r .nil)
theorem Rels.rep {ds : List D} {vs : List V} (r : Rels K L H ds vs) : ∀ k : Nat, Rels K L H (List.replicate k ds).flatten (List.replicate k vs).flatten
  | 0 => .nil
  | k + 1 => by rw [List.replicate_succ, List.replicate_succ, List.flatten_cons, List.flatten_cons]; exact r.app (r.rep k)
theorem Rels.cut {ds : List D} {vs : List V} (r : Rels K L H ds vs) (lo hi : Option Int) : Rels K L H (cutD ds lo hi) (cutV vs lo hi) := by
  unfold cutD cutV
  rw [r.len]
  exact (r.drop _).take _
end
/-- the script: read, never written -/
def RoL (K : PySem.W.Frag) (H : Hp) (a : Addr) (xs : List V) : Prop := (∃ o, H a = some (.frz o (.lst xs))) ∨
  ∃ (o : Obj) (its : Array Value) (n : Nat), K.lookup a = some o ∧ o.cls = .type "list" ∧ o.dict = none ∧ o.data = .seq its n ∧ its.size ≤ sizeLine ∧ Vals xs its.toList
theorem RoL.seq {K : PySem.W.Frag} {H : Hp} {a : Addr} {xs : List V} (h : RoL K H a xs) : SqL K H a xs := by
  rcases h with ⟨o, h⟩ | h
  · exact .inl (.inr ⟨o, h⟩)
  · exact .inr h
theorem RoL.keep {K : PySem.W.Frag} {H H' : Hp} {a : Addr} {xs : List V} (kp : Keep K H H') (h : RoL K H a xs) : RoL K H' a xs := by
  rcases h with ⟨o, h⟩ | h
  · exact .inl ⟨o, kp.frz _ _ _ h⟩
  · exact .inr h
/-- a dict: the same keys, in the same order -/
def KRs (K : PySem.W.Frag) (L : List Addr) (H : Hp) (kvs : List (DKey × D)) (us : List (Key × V)) : Prop := kvs.map (·.1) = us.map (·.1) ∧ Rels K L H (kvs.map (·.2)) (us.map (·.2))
theorem KRs.mono {K : PySem.W.Frag} {L L' : List Addr} {H H' : Hp} {kvs : List (DKey × D)} {us : List (Key × V)} (r : KRs K L H kvs us) (le : LE L L') (kp : Keep K H H') : KRs K L' H' kvs us := ⟨r.1, r.2.mono le kp⟩
theorem KRs.len {K : PySem.W.Frag} {L : List Addr} {H : Hp} {kvs : List (DKey × D)} {us : List (Key × V)} (r : KRs K L H kvs us) : kvs.length = us.length := by
  have := congrArg List.length r.1
  simpa using this
theorem KRs.nil {K : PySem.W.Frag} {L : List Addr} {H : Hp} : KRs K L H [] [] := ⟨rfl, .nil⟩
theorem KRs.cons {K : PySem.W.Frag} {L : List Addr} {H : Hp} {k : DKey} {d : D} {v : V} {kvs : List (DKey × D)} {us : List (Key × V)} (r : Rel K L H d v) (t : KRs K L H kvs us) : KRs K L H ((k, d) :: kvs) ((k, v) :: us) := ⟨by simp only [List.map_cons]; rw [t.1], .cons r t.2⟩
theorem KRs.get {K : PySem.W.Frag} {L : List Addr} {H : Hp} (k : DKey) : ∀ {kvs : List (DKey × D)} {us : List (Key × V)}, KRs K L H kvs us → (getD_ kvs k = none ∧ valV us k = none) ∨ ∃ d v, getD_ kvs k = some d ∧ valV us k = some v ∧ Rel K L H d v
  | [], [], _ => .inl ⟨rfl, rfl⟩
  | [], q :: us, r => by have := r.len; simp at this
  | p :: kvs, [], r => by have := r.len; simp at this
  | (a, d) :: kvs, (b, v) :: us, r => by
    obtain ⟨e, r⟩ := r
    simp only [List.map_cons, List.cons.injEq] at e r
    obtain ⟨rfl, e⟩ := e
    cases r with
    | cons r t =>
      by_cases h : a = k
      · exact .inr ⟨d, v, by simp [getD_, h], by simp [valV, h], r⟩
      · have ih := KRs.get k (kvs := kvs) (us := us) ⟨e, t⟩
        have e1 : getD_ ((a, d) :: kvs) k = getD_ kvs k := by simp [getD_, h]
        have e2 : valV ((a, v) :: us) k = valV us k := by simp [valV, h]
        rw [e1, e2]
        exact ih
theorem KRs.any {K : PySem.W.Frag} {L : List Addr} {H : Hp} (k : DKey) : ∀ {kvs : List (DKey × D)} {us : List (Key × V)}, KRs K L H kvs us → (kvs.any fun kv => decide (kv.1 = k)) = us.any fun kv => decide (kv.1 = k)
  | [], [], _ => rfl
  | [], q :: us, r => by have := r.len; simp at this
  | p :: kvs, [], r => by have := r.len; simp at this
  | (a, d) :: kvs, (b, v) :: us, r => by
    obtain ⟨e, r⟩ := r
    simp only [List.map_cons, List.cons.injEq] at e r
    obtain ⟨rfl, e⟩ := e
    cases r with
    | cons r t => rw [List.any_cons, List.any_cons, KRs.any k (kvs := kvs) (us := us) ⟨e, t⟩]
theorem KRs.app {K : PySem.W.Frag} {L : List Addr} {H : Hp} {kvs lvs : List (DKey × D)} {us ws : List (Key × V)} (r : KRs K L H kvs us) (t : KRs K L H lvs ws) : KRs K L H (kvs ++ lvs) (us ++ ws) :=
  ⟨by rw [List.map_append, List.map_append, r.1, t.1], by rw [List.map_append, List.map_append]; exact r.2.app t.2⟩
theorem KRs.repl {K : PySem.W.Frag} {L : List Addr} {H : Hp} (k : DKey) {d : D} {v : V} (q : Rel K L H d v) : ∀ {kvs : List (DKey × D)} {us : List (Key × V)}, KRs K L H kvs us →
    KRs K L H (kvs.map fun kv => if kv.1 = k then (kv.1, d) else kv) (us.map fun kv => if kv.1 = k then (kv.1, v) else kv)
  | [], [], _ => KRs.nil
  | [], q :: us, r => by have := r.len; simp at this
  | p :: kvs, [], r => by have := r.len; simp at this
  | (a, e) :: kvs, (b, u) :: us, r => by
    obtain ⟨ek, r⟩ := r
    simp only [List.map_cons, List.cons.injEq] at ek r
    obtain ⟨rfl, ek⟩ := ek
    cases r with
    | cons r t =>
      have ih := KRs.repl k q (kvs := kvs) (us := us) ⟨ek, t⟩
      rw [List.map_cons, List.map_cons]
      by_cases h : a = k
      · simp only [h, if_true]; exact KRs.cons q ih
      · simp only [h, if_false]; exact KRs.cons r ih
theorem KRs.put {K : PySem.W.Frag} {L : List Addr} {H : Hp} (k : DKey) {d : D} {v : V} (q : Rel K L H d v) {kvs : List (DKey × D)} {us : List (Key × V)} (r : KRs K L H kvs us) : KRs K L H (putD_ kvs k d) (putK us k v) := by
  unfold putD_ putK
  rw [r.any k]
  split
  · exact r.repl k q
  · exact r.app (KRs.cons q KRs.nil)
structure HR (K : PySem.W.Frag) (L : List Addr) (H : Hp) (h : Hv) : Prop where
  len : L.length = h.length
  lst : ∀ (i : Nat) (a : Addr) (ds : List D), h[i]? = some (Ob.lst ds) → L[i]? = some a → ∃ xs, H a = some (.lst xs) ∧ Rels K L H ds xs
  ro : ∀ (i : Nat) (a : Addr) (ds : List D), h[i]? = some (Ob.ro ds) → L[i]? = some a → ∃ xs, RoL K H a xs ∧ Rels K L H ds xs
  inj : ∀ (i j : Nat) (a : Addr) (ds es : List D), h[i]? = some (Ob.lst ds) → h[j]? = some (Ob.lst es) → L[i]? = some a → L[j]? = some a → i = j
  dct : ∀ (i : Nat) (a : Addr) (kvs : List (DKey × D)), h[i]? = some (Ob.dct kvs) → L[i]? = some a → ∃ us, H a = some (.dK us) ∧ KRs K L H kvs us
  injD : ∀ (i j : Nat) (a : Addr) (ds es : List (DKey × D)), h[i]? = some (Ob.dct ds) → h[j]? = some (Ob.dct es) → L[i]? = some a → L[j]? = some a → i = j
section
variable {K : PySem.W.Frag} {L L' : List Addr} {H H' : Hp} {h h' : Hv}
theorem HR.addr (hr : HR K L H h) {i : Nat} {o : Ob} (e : h[i]? = some o) : ∃ a, L[i]? = some a := by
  have hi : i < h.length := (List.getElem?_eq_some_iff.mp e).1
  exact ⟨_, List.getElem?_eq_getElem (by rw [hr.len]; exact hi)⟩
theorem HR.ob (hr : HR K L H h) {i : Nat} {a : Addr} (e : L[i]? = some a) : ∃ o, h[i]? = some o := by
  have hi : i < L.length := (List.getElem?_eq_some_iff.mp e).1
  exact ⟨_, List.getElem?_eq_getElem (by rw [← hr.len]; exact hi)⟩
/-- something new that is no list of ours -/
theorem HR.new {p : Addr} {o : HO} (hr : HR K L H h) (n : H p = none) : HR K L (upd H p o) h := by
  have kp : Keep K H (upd H p o) := Keep.new n
  refine ⟨hr.len, fun i a ds e1 e2 => ?_, fun i a ds e1 e2 => ?_, hr.inj, fun i a ds e1 e2 => ?_, hr.injD⟩
  · obtain ⟨xs, q, r⟩ := hr.lst i a ds e1 e2
    exact ⟨xs, by rw [upd_ne (ne_of_none q n)]; exact q, r.mono (LE.refl L) kp⟩
  · obtain ⟨xs, q, r⟩ := hr.ro i a ds e1 e2
    exact ⟨xs, q.keep kp, r.mono (LE.refl L) kp⟩
  · obtain ⟨xs, q, r⟩ := hr.dct i a ds e1 e2
    exact ⟨xs, by rw [upd_ne (ne_of_none q n)]; exact q, r.mono (LE.refl L) kp⟩
theorem HR.alloc {p : Addr} {ds : List D} {xs : List V} (hr : HR K L H h) (n : H p = none) (r : Rels K L H ds xs) : HR K (L ++ [p]) (upd H p (.lst xs)) (h ++ [.lst ds]) := by
  have kp : Keep K H (upd H p (.lst xs)) := Keep.new n
  have le := LE.app L [p]
  have old : ∀ {i : Nat} {o : Ob}, (h ++ [.lst ds])[i]? = some o → (i < h.length ∧ h[i]? = some o) ∨ (i = h.length ∧ o = .lst ds) := fun {i o} e => by
    by_cases hi : i < h.length
    · rw [List.getElem?_append_left hi] at e; exact .inl ⟨hi, e⟩
    · have e2 : i < h.length + 1 := by have := (List.getElem?_eq_some_iff.mp e).1; simpa using this
      have e3 : i = h.length := by omega
      subst e3
      simp at e
      exact .inr ⟨rfl, e.symm⟩
  have oldL : ∀ {i : Nat} {a : Addr}, i < h.length → (L ++ [p])[i]? = some a → L[i]? = some a := fun {i a} hi e => by
    rw [List.getElem?_append_left (by rw [hr.len]; exact hi)] at e; exact e
  have newL : ∀ {a : Addr}, (L ++ [p])[h.length]? = some a → a = p := fun {a} e => by
    rw [← hr.len] at e; simp at e; exact e.symm
  refine ⟨by simp [hr.len], fun i a es e1 e2 => ?_, fun i a es e1 e2 => ?_, fun i j a es fs e1 e2 e3 e4 => ?_, fun i a es e1 e2 => ?_, fun i j a es fs e1 e2 e3 e4 => ?_⟩
  rotate_left 3
  · rcases old e1 with ⟨hi, e1⟩ | ⟨rfl, e9⟩
    · obtain ⟨ys, q, s⟩ := hr.dct i a es e1 (oldL hi e2)
      exact ⟨ys, by rw [upd_ne (ne_of_none q n)]; exact q, s.mono le kp⟩
    · cases e9
  · rcases old e1 with ⟨hi, e1⟩ | ⟨rfl, e9⟩
    · rcases old e2 with ⟨hj, e2⟩ | ⟨rfl, e9⟩
      · exact hr.injD i j a es fs e1 e2 (oldL hi e3) (oldL hj e4)
      · cases e9
    · cases e9
  · rcases old e1 with ⟨hi, e1⟩ | ⟨rfl, e9⟩
    · obtain ⟨ys, q, s⟩ := hr.lst i a es e1 (oldL hi e2)
      exact ⟨ys, by rw [upd_ne (ne_of_none q n)]; exact q, s.mono le kp⟩
    · cases e9
      obtain rfl := newL e2
      exact ⟨xs, upd_same, r.mono le kp⟩
  · rcases old e1 with ⟨hi, e1⟩ | ⟨rfl, e9⟩
    · obtain ⟨ys, q, s⟩ := hr.ro i a es e1 (oldL hi e2)
      exact ⟨ys, q.keep kp, s.mono le kp⟩
    · cases e9
  · rcases old e1 with ⟨hi, e1⟩ | ⟨rfl, e9⟩
    · rcases old e2 with ⟨hj, e2⟩ | ⟨rfl, e9⟩
      · exact hr.inj i j a es fs e1 e2 (oldL hi e3) (oldL hj e4)
      · obtain rfl := newL e4
        obtain ⟨ys, q, s⟩ := hr.lst i _ es e1 (oldL hi e3)
        rw [n] at q; cases q
    · rcases old e2 with ⟨hj, e2⟩ | ⟨rfl, e9⟩
      · obtain rfl := newL e3
        obtain ⟨ys, q, s⟩ := hr.lst j _ fs e2 (oldL hj e4)
        rw [n] at q; cases q
      · rfl
theorem HR.set {i : Nat} {a : Addr} {ds0 ds : List D} {xs : List V} (hr : HR K L H h) (e : h[i]? = some (.lst ds0)) (ea : L[i]? = some a) (r : Rels K L H ds xs) : HR K L (upd H a (.lst xs)) (h.set i (.lst ds)) := by
  obtain ⟨xs0, q0, r0⟩ := hr.lst i a ds0 e ea
  have kp : Keep K H (upd H a (.lst xs)) := Keep.setL q0
  have hi : i < h.length := (List.getElem?_eq_some_iff.mp e).1
  have old : ∀ {j : Nat} {o : Ob}, (h.set i (.lst ds))[j]? = some o → (j ≠ i ∧ h[j]? = some o) ∨ (j = i ∧ o = .lst ds) := fun {j o} e => by
    by_cases hj : j = i
    · subst hj
      rw [List.getElem?_set_self hi] at e
      exact .inr ⟨rfl, (Option.some.inj e).symm⟩
    · rw [List.getElem?_set_ne (Ne.symm hj)] at e
      exact .inl ⟨hj, e⟩
  refine ⟨by rw [List.length_set]; exact hr.len, fun j b es e1 e2 => ?_, fun j b es e1 e2 => ?_, fun j k b es fs e1 e2 e3 e4 => ?_, fun j b es e1 e2 => ?_, fun j k b es fs e1 e2 e3 e4 => ?_⟩
  rotate_left 3
  · rcases old e1 with ⟨hj, e1⟩ | ⟨rfl, e9⟩
    · obtain ⟨ys, q, s⟩ := hr.dct j b es e1 e2
      exact ⟨ys, by rw [upd_ne (ne_of q q0 (by intro z; cases z))]; exact q, s.mono (LE.refl L) kp⟩
    · cases e9
  · rcases old e1 with ⟨hj, e1⟩ | ⟨rfl, e9⟩
    · rcases old e2 with ⟨hk, e2⟩ | ⟨rfl, e9⟩
      · exact hr.injD j k b es fs e1 e2 e3 e4
      · cases e9
    · cases e9
  · rcases old e1 with ⟨hj, e1⟩ | ⟨rfl, e9⟩
    · obtain ⟨ys, q, s⟩ := hr.lst j b es e1 e2
      have hb : b ≠ a := fun z => by subst z; exact hj (hr.inj j i b es ds0 e1 e e2 ea)
      exact ⟨ys, by rw [upd_ne hb]; exact q, s.mono (LE.refl L) kp⟩
    · cases e9
      rw [ea] at e2; cases e2
      exact ⟨xs, upd_same, r.mono (LE.refl L) kp⟩
  · rcases old e1 with ⟨hj, e1⟩ | ⟨rfl, e9⟩
    · obtain ⟨ys, q, s⟩ := hr.ro j b es e1 e2
      exact ⟨ys, q.keep kp, s.mono (LE.refl L) kp⟩
    · cases e9
  · have l1 : ∃ es', h[j]? = some (.lst es') := by
      rcases old e1 with ⟨_, e1⟩ | ⟨rfl, _⟩
      · exact ⟨es, e1⟩
      · exact ⟨ds0, e⟩
    have l2 : ∃ es', h[k]? = some (.lst es') := by
      rcases old e2 with ⟨_, e2⟩ | ⟨rfl, _⟩
      · exact ⟨fs, e2⟩
      · exact ⟨ds0, e⟩
    obtain ⟨es', l1⟩ := l1
    obtain ⟨fs', l2⟩ := l2
    exact hr.inj j k b es' fs' l1 l2 e3 e4
end
section
variable {K : PySem.W.Frag} {L L' : List Addr} {H H' : Hp} {h h' : Hv}
theorem HR.allocD {p : Addr} {ds : List (DKey × D)} {xs : List (Key × V)} (hr : HR K L H h) (n : H p = none) (r : KRs K L H ds xs) : HR K (L ++ [p]) (upd H p (.dK xs)) (h ++ [.dct ds]) := by
  have kp : Keep K H (upd H p (.dK xs)) := Keep.new n
  have le := LE.app L [p]
  have old : ∀ {i : Nat} {o : Ob}, (h ++ [.dct ds])[i]? = some o → (i < h.length ∧ h[i]? = some o) ∨ (i = h.length ∧ o = .dct ds) := fun {i o} e => by
    by_cases hi : i < h.length
    · rw [List.getElem?_append_left hi] at e; exact .inl ⟨hi, e⟩
    · have e2 : i < h.length + 1 := by have := (List.getElem?_eq_some_iff.mp e).1; simpa using this
      have e3 : i = h.length := by omega
      subst e3
      simp at e
      exact .inr ⟨rfl, e.symm⟩
  have oldL : ∀ {i : Nat} {a : Addr}, i < h.length → (L ++ [p])[i]? = some a → L[i]? = some a := fun {i a} hi e => by
    rw [List.getElem?_append_left (by rw [hr.len]; exact hi)] at e; exact e
  have newL : ∀ {a : Addr}, (L ++ [p])[h.length]? = some a → a = p := fun {a} e => by
    rw [← hr.len] at e; simp at e; exact e.symm
  refine ⟨by simp [hr.len], fun i a es e1 e2 => ?_, fun i a es e1 e2 => ?_, fun i j a es fs e1 e2 e3 e4 => ?_, fun i a es e1 e2 => ?_, fun i j a es fs e1 e2 e3 e4 => ?_⟩
  · rcases old e1 with ⟨hi, e1⟩ | ⟨rfl, e9⟩
    · obtain ⟨ys, q, s⟩ := hr.lst i a es e1 (oldL hi e2)
      exact ⟨ys, by rw [upd_ne (ne_of_none q n)]; exact q, s.mono le kp⟩
    · cases e9
  · rcases old e1 with ⟨hi, e1⟩ | ⟨rfl, e9⟩
    · obtain ⟨ys, q, s⟩ := hr.ro i a es e1 (oldL hi e2)
      exact ⟨ys, q.keep kp, s.mono le kp⟩
    · cases e9
  · rcases old e1 with ⟨hi, e1⟩ | ⟨rfl, e9⟩
    · rcases old e2 with ⟨hj, e2⟩ | ⟨rfl, e9⟩
      · exact hr.inj i j a es fs e1 e2 (oldL hi e3) (oldL hj e4)
      · cases e9
    · cases e9
  · rcases old e1 with ⟨hi, e1⟩ | ⟨rfl, e9⟩
    · obtain ⟨ys, q, s⟩ := hr.dct i a es e1 (oldL hi e2)
      exact ⟨ys, by rw [upd_ne (ne_of_none q n)]; exact q, s.mono le kp⟩
    · cases e9
      obtain rfl := newL e2
      exact ⟨xs, upd_same, r.mono le kp⟩
  · rcases old e1 with ⟨hi, e1⟩ | ⟨rfl, e9⟩
    · rcases old e2 with ⟨hj, e2⟩ | ⟨rfl, e9⟩
      · exact hr.injD i j a es fs e1 e2 (oldL hi e3) (oldL hj e4)
      · obtain rfl := newL e4
        obtain ⟨ys, q, s⟩ := hr.dct i _ es e1 (oldL hi e3)
        rw [n] at q; cases q
    · rcases old e2 with ⟨hj, e2⟩ | ⟨rfl, e9⟩
      · obtain rfl := newL e3
        obtain ⟨ys, q, s⟩ := hr.dct j _ fs e2 (oldL hj e4)
        rw [n] at q; cases q
      · rfl
theorem HR.setD {i : Nat} {a : Addr} {ds0 ds : List (DKey × D)} {xs : List (Key × V)} (hr : HR K L H h) (e : h[i]? = some (.dct ds0)) (ea : L[i]? = some a) (r : KRs K L H ds xs) : HR K L (upd H a (.dK xs)) (h.set i (.dct ds)) := by
  obtain ⟨xs0, q0, r0⟩ := hr.dct i a ds0 e ea
  have kp : Keep K H (upd H a (.dK xs)) := Keep.setD q0
  have hi : i < h.length := (List.getElem?_eq_some_iff.mp e).1
  have old : ∀ {j : Nat} {o : Ob}, (h.set i (.dct ds))[j]? = some o → (j ≠ i ∧ h[j]? = some o) ∨ (j = i ∧ o = .dct ds) := fun {j o} e => by
    by_cases hj : j = i
    · subst hj
      rw [List.getElem?_set_self hi] at e
      exact .inr ⟨rfl, (Option.some.inj e).symm⟩
    · rw [List.getElem?_set_ne (Ne.symm hj)] at e
      exact .inl ⟨hj, e⟩
  refine ⟨by rw [List.length_set]; exact hr.len, fun j b es e1 e2 => ?_, fun j b es e1 e2 => ?_, fun j k b es fs e1 e2 e3 e4 => ?_, fun j b es e1 e2 => ?_, fun j k b es fs e1 e2 e3 e4 => ?_⟩
  · rcases old e1 with ⟨hj, e1⟩ | ⟨rfl, e9⟩
    · obtain ⟨ys, q, s⟩ := hr.lst j b es e1 e2
      exact ⟨ys, by rw [upd_ne (ne_of q q0 (by intro z; cases z))]; exact q, s.mono (LE.refl L) kp⟩
    · cases e9
  · rcases old e1 with ⟨hj, e1⟩ | ⟨rfl, e9⟩
    · obtain ⟨ys, q, s⟩ := hr.ro j b es e1 e2
      exact ⟨ys, q.keep kp, s.mono (LE.refl L) kp⟩
    · cases e9
  · rcases old e1 with ⟨hj, e1⟩ | ⟨rfl, e9⟩
    · rcases old e2 with ⟨hk, e2⟩ | ⟨rfl, e9⟩
      · exact hr.inj j k b es fs e1 e2 e3 e4
      · cases e9
    · cases e9
  · rcases old e1 with ⟨hj, e1⟩ | ⟨rfl, e9⟩
    · obtain ⟨ys, q, s⟩ := hr.dct j b es e1 e2
      have hb : b ≠ a := fun z => by subst z; exact hj (hr.injD j i b es ds0 e1 e e2 ea)
      exact ⟨ys, by rw [upd_ne hb]; exact q, s.mono (LE.refl L) kp⟩
    · cases e9
      rw [ea] at e2; cases e2
      exact ⟨xs, upd_same, r.mono (LE.refl L) kp⟩
  · have l1 : ∃ es', h[j]? = some (.dct es') := by
      rcases old e1 with ⟨_, e1⟩ | ⟨rfl, _⟩
      · exact ⟨es, e1⟩
      · exact ⟨ds0, e⟩
    have l2 : ∃ es', h[k]? = some (.dct es') := by
      rcases old e2 with ⟨_, e2⟩ | ⟨rfl, _⟩
      · exact ⟨fs, e2⟩
      · exact ⟨ds0, e⟩
    obtain ⟨es', l1⟩ := l1
    obtain ⟨fs', l2⟩ := l2
    exact hr.injD j k b es' fs' l1 l2 e3 e4
end
/-- the slots -/
structure SRel (K : PySem.W.Frag) (L : List Addr) (H : Hp) (env : Env) (σ : L2.St) : Prop where
  len : env.length = σ.length
  at_ : ∀ (i : Nat) d, env[i]? = some (some d) → ∃ v, σ[i]? = some (some v) ∧ Rel K L H d v
theorem SRel.mono {K : PySem.W.Frag} {L L' : List Addr} {H H' : Hp} {env : Env} {σ : L2.St} (s : SRel K L H env σ) (le : LE L L') (kp : Keep K H H') : SRel K L' H' env σ :=
  ⟨s.len, fun i d e => let ⟨v, e1, r⟩ := s.at_ i d e; ⟨v, e1, r.mono le kp⟩⟩
theorem SRel.set {K : PySem.W.Frag} {L : List Addr} {H : Hp} {env : Env} {σ : L2.St} {i : Nat} {d : D} {v : V} (s : SRel K L H env σ) (r : Rel K L H d v) : SRel K L H (env.set i (some d)) (σ.set i (some v)) := by
  refine ⟨by rw [List.length_set, List.length_set]; exact s.len, fun j e h => ?_⟩
  by_cases hj : i = j
  · subst hj
    have hi : i < env.length := by have := (List.getElem?_eq_some_iff.mp h).1; simpa using this
    rw [List.getElem?_set_self hi] at h
    cases h
    exact ⟨v, by rw [List.getElem?_set_self (by rw [← s.len]; exact hi)], r⟩
  · rw [List.getElem?_set_ne hj] at h
    obtain ⟨u, e1, q⟩ := s.at_ j e h
    exact ⟨u, by rw [List.getElem?_set_ne hj]; exact e1, q⟩
theorem SRel.wipe {K : PySem.W.Frag} {L : List Addr} {H : Hp} {env : Env} {σ : L2.St} (s : SRel K L H env σ) : ∀ vs : List Nat, SRel K L H (wipeD env vs) (wipe σ vs)
  | [] => s
  | v :: vs => by
    have ih := s.wipe vs
    unfold wipeD L2.wipe
    refine ⟨by rw [List.length_set, List.length_set]; exact ih.len, fun j e h => ?_⟩
    by_cases hj : v = j
    · subst hj
      by_cases hv : v < (wipeD env vs).length
      · rw [List.getElem?_set_self hv] at h; cases h
      · rw [List.getElem?_eq_none (by simpa using hv)] at h; cases h
    · rw [List.getElem?_set_ne hj] at h
      obtain ⟨u, e1, q⟩ := ih.at_ j e h
      exact ⟨u, by rw [List.getElem?_set_ne hj]; exact e1, q⟩

/-! ends -/
/-- an exception of ours over there: its class by the module's name, what it bears -/
def ExR (K : PySem.W.Frag) (mg : Str → Option Value) (L : List Addr) (H : Hp) (c : Str) (d : D) (cv : Value) (dx : Option Addr) : Prop :=
  mg c = some cv ∧ ((d = .non ∧ dx = none) ∨ ∃ p v, dx = some p ∧ H p = some (.xd [("at", v)]) ∧ Rel K L H d v)
/-- a wish at the end of what gives an a: b over there, as ρ says -/
def pRg {α β : Type} (ρ : List Addr → Hp → α → β → Prop) (K : PySem.W.Frag) (mg : Str → Option Value) (L : List Addr) (H : Hp) (W : WX) (σ : L2.St) (Q : β → Hp → Prop) : R α → Prop
  | .ok a h' => ∀ L' H' b, LE L L' → Keep K H H' → HR K L' H' h' → ρ L' H' a b → Q b H'
  | .exc c d h' => ∀ L' H' cv dx, LE L L' → Keep K H H' → HR K L' H' h' → ExR K mg L' H' c d cv dx → W cv dx σ H'
  | .stuck => False
section
variable {K : PySem.W.Frag} {mg : Str → Option Value} {L L' : List Addr} {H H' : Hp} {h h' : Hv} {W : WX} {σ : L2.St} {α β γ δ : Type} {ρ : List Addr → Hp → α → β → Prop} {ρ' : List Addr → Hp → γ → δ → Prop} {Q : δ → Hp → Prop}
theorem pRg.mono {r : R γ} (p : pRg ρ' K mg L H W σ Q r) (le : LE L L') (kp : Keep K H H') : pRg ρ' K mg L' H' W σ Q r := by
  cases r with
  | ok a h1 => exact fun L2 H2 b l k => p L2 H2 b (le.trans l) (kp.trans k)
  | exc c d h1 => exact fun L2 H2 cv dx l k => p L2 H2 cv dx (le.trans l) (kp.trans k)
  | stuck => exact p
theorem pRg.then_ {r : R α} {g : α → Hv → R γ} {REST : β → Hp → Prop} (p : pRg ρ' K mg L H W σ Q (r.bind g))
    (k : ∀ a h1 L1 H1 b, LE L L1 → Keep K H H1 → HR K L1 H1 h1 → ρ L1 H1 a b → pRg ρ' K mg L1 H1 W σ Q (g a h1) → REST b H1) : pRg ρ K mg L H W σ REST r := by
  cases r with
  | ok a h1 => exact fun L1 H1 b le kp hr rl => k a h1 L1 H1 b le kp hr rl (pRg.mono p le kp)
  | exc c d h1 => exact p
  | stuck => exact p
end
abbrev pR (K : PySem.W.Frag) (mg : Str → Option Value) (L : List Addr) (H : Hp) (W : WX) (σ : L2.St) (Q : VK) : R D → Prop := pRg (Rel K) K mg L H W σ Q
abbrev pA (K : PySem.W.Frag) (mg : Str → Option Value) (L : List Addr) (H : Hp) (W : WX) (σ : L2.St) (Q : List V → Hp → Prop) : R (List D) → Prop := pRg (Rels K) K mg L H W σ Q
abbrev pO (K : PySem.W.Frag) (mg : Str → Option Value) (L : List Addr) (H : Hp) (W : WX) (σ : L2.St) (Q : Option Int → Hp → Prop) : R (Option Int) → Prop := pRg (fun _ _ a b => a = b) K mg L H W σ Q
abbrev Fe := Env → Hv → R D
/-- the reading of ours -/
def tE (X : Cx) (W : WX) (f : Fe) : TE := fun σ H Q => ∃ L h env, HR X.K L H h ∧ SRel X.K L H env σ ∧ pR X.K X.mg L H W σ Q (f env h)
def tA (X : Cx) (W : WX) (f : Env → Hv → R (List D)) : TA := fun σ H Q => ∃ L h env, HR X.K L H h ∧ SRel X.K L H env σ ∧ pA X.K X.mg L H W σ Q (f env h)
def tO (X : Cx) (W : WX) (f : Env → Hv → R (Option Int)) : TO := fun σ H Q => ∃ L h env, HR X.K L H h ∧ SRel X.K L H env σ ∧ pO X.K X.mg L H W σ Q (f env h)
/-- a test -/
def tT (X : Cx) (W : WX) (f : Fe) : TT := fun σ H Q => ∃ L h env, HR X.K L H h ∧ SRel X.K L H env σ ∧ pRg (fun _ _ d b => d = D.bl b) X.K X.mg L H W σ Q (f env h) ∧ ∀ d h', f env h = .ok d h' → ∃ b, d = D.bl b
theorem PE.weak {X : Cx} {e : Expr} {t t' : TE} (h : PE X e t) (w : ∀ σ H Q, t' σ H Q → t σ H Q) : PE X e t' := ⟨fun pins s σ H Q I q => h.run pins s σ H Q I (w σ H Q q)⟩
theorem PT.weak {X : Cx} {e : Expr} {t t' : TT} (h : PT X e t) (w : ∀ σ H Q, t' σ H Q → t σ H Q) : PT X e t' := ⟨fun pins s σ H Q I q => h.run pins s σ H Q I (w σ H Q q)⟩
theorem PW.weak {X : Cx} {e : Expr} {t t' : TT} (h : PW X e t) (w : ∀ σ H Q, t' σ H Q → t σ H Q) : PW X e t' := ⟨fun wh pins s σ H Q I q => h.run wh pins s σ H Q I (w σ H Q q)⟩
theorem PA.weak {X : Cx} {e : List Expr} {t t' : TA} (h : PA X e t) (w : ∀ σ H Q, t' σ H Q → t σ H Q) : PA X e t' := ⟨fun pos pins s σ H Q I q => h.run pos pins s σ H Q I (w σ H Q q)⟩
theorem PO.weak {X : Cx} {e : Option Expr} {t t' : TO} (h : PO X e t) (w : ∀ σ H Q, t' σ H Q → t σ H Q) : PO X e t' := ⟨fun pins s σ H Q I q => h.run pins s σ H Q I (w σ H Q q)⟩
theorem PS.weak {X : Cx} {e : Stmt} {t t' : TS} (h : PS X e t) (w : ∀ D σ H, t' D σ H → t D σ H) : PS X e t' := ⟨fun pins s σ H D I q => h.run pins s σ H D I (w D σ H q)⟩
theorem PSs.weak {X : Cx} {e : List Stmt} {t t' : TS} (h : PSs X e t) (w : ∀ D σ H, t' D σ H → t D σ H) : PSs X e t' := ⟨fun pins s σ H D I q => h.run pins s σ H D I (w D σ H q)⟩
end VM

set_option maxRecDepth 100000
set_option maxHeartbeats 1000000
namespace VM
open PySem PySem.Spec PyProof.Rows L2

/-! tests -/
def pT (K : PySem.W.Frag) (mg : Str → Option Value) (L : List Addr) (H : Hp) (W : WX) (σ : L2.St) (Q : Bool → Hp → Prop) : R D → Prop
  | .ok (.bl b) h' => ∀ L' H', LE L L' → Keep K H H' → HR K L' H' h' → Q b H'
  | .exc c d h' => ∀ L' H' cv dx, LE L L' → Keep K H H' → HR K L' H' h' → ExR K mg L' H' c d cv dx → W cv dx σ H'
  | _ => False
def tB (X : Cx) (W : WX) (f : Fe) : TT := fun σ H Q => ∃ L h env, HR X.K L H h ∧ SRel X.K L H env σ ∧ pT X.K X.mg L H W σ Q (f env h)
section
variable {K : PySem.W.Frag} {mg : Str → Option Value} {L L' : List Addr} {H H' : Hp} {h h' : Hv} {W : WX} {σ : L2.St}
theorem pT.toR {Q : Bool → Hp → Prop} {r : R D} (p : pT K mg L H W σ Q r) : pR K mg L H W σ (fun x H1 => ∃ c, x = .bl c ∧ Q c H1) r := by
  cases r with
  | ok d h1 =>
    cases d with
    | bl b =>
      intro L' H' v le kp hr rel
      cases rel
      exact ⟨b, rfl, p L' H' le kp hr⟩
    | _ => exact p.elim
  | exc c d h1 => exact p
  | stuck => exact p.elim
/-- a test's use -/
theorem pT.use {α β : Type} {ρ : List Addr → Hp → α → β → Prop} {Q : β → Hp → Prop} {REST : Bool → Hp → Prop} {r : R D} {g : D → Hv → R α} (p : pRg ρ K mg L H W σ Q (r.bind g)) (st : ∀ d h, (∀ b, d ≠ .bl b) → g d h = .stuck)
    (k : ∀ b h1 L1 H1, LE L L1 → Keep K H H1 → HR K L1 H1 h1 → pRg ρ K mg L1 H1 W σ Q (g (.bl b) h1) → REST b H1) : pT K mg L H W σ REST r := by
  cases r with
  | ok d h1 =>
    have p' : pRg ρ K mg L H W σ Q (g d h1) := p
    cases d with
    | bl b => exact fun L1 H1 le kp hr => k b h1 L1 H1 le kp hr (p'.mono le kp)
    | _ => exact absurd p' (by rw [st _ h1 (by intro b z; cases z)]; exact id)
  | exc c d h1 => exact p
  | stuck => exact p
theorem pT.useT {REST Q : Bool → Hp → Prop} {r : R D} {g : D → Hv → R D} (p : pT K mg L H W σ Q (r.bind g)) (st : ∀ d h, (∀ b, d ≠ .bl b) → g d h = .stuck)
    (k : ∀ b h1 L1 H1, LE L L1 → Keep K H H1 → HR K L1 H1 h1 → pT K mg L1 H1 W σ Q (g (.bl b) h1) → REST b H1) : pT K mg L H W σ REST r := by
  have mono : ∀ {r : R D} {L1 H1}, pT K mg L H W σ Q r → LE L L1 → Keep K H H1 → pT K mg L1 H1 W σ Q r := fun {r L1 H1} q le kp => by
    cases r with
    | ok d h1 =>
      cases d with
      | bl b => exact fun L2 H2 l kk => q L2 H2 (le.trans l) (kp.trans kk)
      | _ => exact q.elim
    | exc c d h1 => exact fun L2 H2 cv dx l kk => q L2 H2 cv dx (le.trans l) (kp.trans kk)
    | stuck => exact q.elim
  cases r with
  | ok d h1 =>
    have p' : pT K mg L H W σ Q (g d h1) := p
    cases d with
    | bl b => exact fun L1 H1 le kp hr => k b h1 L1 H1 le kp hr (mono p' le kp)
    | _ => exact absurd p' (by rw [st _ h1 (by intro b z; cases z)]; exact id)
  | exc c d h1 => exact p
  | stuck => exact p
end

/-! expressions -/
section
variable {X : Cx} {W : WX} {a b c e : Expr} {fa fb fc : Fe} {pos : Pos}
theorem here {Q : VK} {L : List Addr} {H : Hp} {h : Hv} {σ : L2.St} {d : D} {v : V} (hr : HR X.K L H h) (hp : pR X.K X.mg L H W σ Q (.ok d h)) (r : Rel X.K L H d v) : Q v H := hp L H v (LE.refl L) (Keep.refl H) hr r
theorem r_var {i : Nat} {x : Str} (C : Or) (hN : X.N[i]? = some x) (hv : Vis X.env.scope x) (hd : (x == ("__debug__" : Str)) = false) (hcd : (x == ("__classdict__" : Str)) = false) : PE X (.Name x pos) (tE X W (varF i C)) := by
  refine PE.weak (pe_var hN hv hd hcd) fun σ H Q ⟨L, h, env, hr, sr, hp⟩ => ?_
  unfold varF at hp
  split at hp
  · rename_i d e
    obtain ⟨v, e1, r⟩ := sr.at_ i d e
    exact ⟨v, e1, here hr hp r⟩
  · exact hp.elim
theorem r_int {i : Int} {j : Nat} (C : Or) : PE X (.Constant (.int i) j pos) (tE X W (conF (.int i) C)) := PE.weak pe_int fun σ H Q ⟨L, h, env, hr, sr, hp⟩ => here hr hp (.int i)
theorem r_bl {i : Bool} {j : Nat} (C : Or) : PE X (.Constant (.bool i) j pos) (tE X W (conF (.bl i) C)) := PE.weak pe_bl fun σ H Q ⟨L, h, env, hr, sr, hp⟩ => here hr hp (.bl i)
theorem r_str {i : Str} {j : Nat} (C : Or) : PE X (.Constant (.str i) j pos) (tE X W (conF (.str i) C)) := PE.weak pe_str fun σ H Q ⟨L, h, env, hr, sr, hp⟩ => here hr hp (.str i)
theorem r_non {j : Nat} (C : Or) : PE X (.Constant .none j pos) (tE X W (conF .non C)) := PE.weak pe_non fun σ H Q ⟨L, h, env, hr, sr, hp⟩ => here hr hp .non
theorem r_glob {x : Str} {d : D} {u : Value} {v : V} (C : Or) (hg : Gl X x) (hm : X.mg x = some u) (rv : RelV v u) (rel : ∀ L H, Rel X.K L H d v) (hd : (x == ("__debug__" : Str)) = false) : PE X (.Name x pos) (tE X W (conF d C)) :=
  PE.weak (pe_glob hg hm rv hd) fun σ H Q ⟨L, h, env, hr, sr, hp⟩ => here hr hp (rel L H)
/-- what a two-place operation asks is what ours gives -/
def OkR (X : Cx) (W : WX) (g : D → D → Hv → R D) (r : R2) : Prop := ∀ L H h σ d1 d2 v1 v2 Q, HR X.K L H h → Rel X.K L H d1 v1 → Rel X.K L H d2 v2 → pR X.K X.mg L H W σ Q (g d1 d2 h) → r v1 v2 H Q
def OkU (X : Cx) (W : WX) (g : D → Hv → R D) (r : V → Hp → VK → Prop) : Prop := ∀ L H h σ d v Q, HR X.K L H h → Rel X.K L H d v → pR X.K X.mg L H W σ Q (g d h) → r v H Q
def OkC (X : Cx) (W : WX) (g : List D → Hv → R D) (r : List V → Hp → VK → Prop) : Prop := ∀ L H h σ ds vs Q, HR X.K L H h → Rels X.K L H ds vs → pR X.K X.mg L H W σ Q (g ds h) → r vs H Q
/-- two in a row -/
theorem two {g : D → D → Hv → R D} {r : R2} (o : OkR X W g r) {σ : L2.St} {H : Hp} {Q : VK} {L : List Addr} {h : Hv} {env : Env} (hr : HR X.K L H h) (sr : SRel X.K L H env σ)
    (hp : pR X.K X.mg L H W σ Q ((fa env h).bind fun x h1 => (fb env h1).bind fun y h2 => g x y h2)) : tE X W fa σ H fun x H1 => tE X W fb σ H1 fun y H2 => r x y H2 Q :=
  ⟨L, h, env, hr, sr, hp.then_ fun d1 h1 L1 H1 v1 le kp hr1 r1 hp1 => ⟨L1, h1, env, hr1, sr.mono le kp, hp1.then_ fun d2 h2 L2 H2 v2 le2 kp2 hr2 r2 hp2 => o L2 H2 h2 σ d1 d2 v1 v2 Q hr2 (r1.mono le2 kp2) r2 hp2⟩⟩
theorem r_op {op : Operator} {g : D → D → Hv → R D} {r : R2} (C : Or) {fa fb : EF} (o : OkR X W g r) (ho : OpR X (binaryOp op) r) (ha : PE X a (tE X W (fa C))) (hb : PE X b (tE X W (fb C))) : PE X (.BinOp a op b pos) (tE X W (binF g fa fb C)) :=
  PE.weak (pe_op ho ha hb) fun σ H Q ⟨L, h, env, hr, sr, hp⟩ => two o hr sr hp
theorem r_cmp {op : CmpOp} {g : D → D → Hv → R D} {r : R2} (C : Or) {fa fb : EF} (o : OkR X W g r) (ho : OpR X (compareOp op) r) (hm : behindInMarks op b = false) (ha : PE X a (tE X W (fa C))) (hb : PE X b (tE X W (fb C))) : PE X (.Compare a [op] [b] pos) (tE X W (binF g fa fb C)) :=
  PE.weak (pe_cmpR ho ha hb hm) fun σ H Q ⟨L, h, env, hr, sr, hp⟩ => two o hr sr hp
theorem r_ix {g : D → D → Hv → R D} {r : R2} (C : Or) {fa fb : EF} (o : OkR X W g r) (ho : IxR X r) (ha : PE X a (tE X W (fa C))) (hb : PE X b (tE X W (fb C))) (hs : PlainIx b) : PE X (.Subscript a b pos) (tE X W (binF g fa fb C)) :=
  PE.weak (pe_ix ho ha hb hs) fun σ H Q ⟨L, h, env, hr, sr, hp⟩ => two o hr sr hp
theorem r_un {op : UnaryOp} {g : D → Hv → R D} {r : V → Hp → VK → Prop} (C : Or) {fa : EF} (o : OkU X W g r) (ho : UnR X (unaryOp op) r) (ha : PE X a (tE X W (fa C))) : PE X (.UnaryOp op a pos) (tE X W (un1F g fa C)) :=
  PE.weak (pe_un ho ha) fun σ H Q ⟨L, h, env, hr, sr, hp⟩ => ⟨L, h, env, hr, sr, pRg.then_ hp fun d1 h1 L1 H1 v1 le kp hr1 r1 hp1 => o L1 H1 h1 σ d1 v1 Q hr1 r1 hp1⟩
theorem r_not (C : Or) {fa : EF} (ha : PE X a (tE X W (fa C))) : PE X (.UnaryOp .Not a pos) (tE X W (un1F opNot fa C)) :=
  PE.weak (pe_not ha) fun σ H Q ⟨L, h, env, hr, sr, hp⟩ => ⟨L, h, env, hr, sr, pRg.then_ hp fun d1 h1 L1 H1 v1 le kp hr1 r1 hp1 => by
    cases r1 with
    | bl b => exact ⟨b, rfl, here hr1 hp1 (.bl _)⟩
    | _ => exact hp1.elim⟩
theorem r_one {op : BoolOp} {f : Fe} (ha : PE X a (tE X W f)) : PE X (.BoolOp op [a] pos) (tE X W f) := pe_one ha
theorem r_and {rest : List Expr} (C : Or) {fa fb : EF} (ha : PE X a (tE X W (fa C))) (hb : PE X (.BoolOp .And (b :: rest) pos) (tE X W (fb C))) : PE X (.BoolOp .And (a :: b :: rest) pos) (tE X W (andF fa fb C)) :=
  PE.weak (pe_and ha hb) fun σ H Q ⟨L, h, env, hr, sr, hp⟩ => ⟨L, h, env, hr, sr, pRg.then_ hp fun d1 h1 L1 H1 v1 le kp hr1 r1 hp1 => by
    cases r1 with
    | bl b =>
      refine ⟨b, rfl, ?_⟩
      cases b with
      | true => exact ⟨L1, h1, env, hr1, sr.mono le kp, hp1⟩
      | false => exact here hr1 hp1 (.bl _)
    | _ => exact hp1.elim⟩
theorem r_or {rest : List Expr} (C : Or) {fa fb : EF} (ha : PE X a (tE X W (fa C))) (hb : PE X (.BoolOp .Or (b :: rest) pos) (tE X W (fb C))) : PE X (.BoolOp .Or (a :: b :: rest) pos) (tE X W (orF fa fb C)) :=
  PE.weak (pe_or ha hb) fun σ H Q ⟨L, h, env, hr, sr, hp⟩ => ⟨L, h, env, hr, sr, pRg.then_ hp fun d1 h1 L1 H1 v1 le kp hr1 r1 hp1 => by
    cases r1 with
    | bl b =>
      refine ⟨b, rfl, ?_⟩
      cases b with
      | false => exact ⟨L1, h1, env, hr1, sr.mono le kp, hp1⟩
      | true => exact here hr1 hp1 (.bl _)
    | _ => exact hp1.elim⟩
theorem chain_ {g g' : D → D → Hv → R D} {r r' : R2} (o : OkR X W g r) (o' : OkR X W g' r') (C : Or) {fa fb fc : EF} {σ : L2.St} {H : Hp} {Q : VK} {L : List Addr} {h : Hv} {env : Env} (hr : HR X.K L H h) (sr : SRel X.K L H env σ)
    (hp : pR X.K X.mg L H W σ Q (chainF g g' fa fb fc C env h)) : tChain r r' (tE X W (fa C)) (tE X W (fb C)) (tE X W (fc C)) σ H Q := by
  refine ⟨L, h, env, hr, sr, pRg.then_ hp fun d1 h1 L1 H1 v1 le kp hr1 r1 hp1 => ⟨L1, h1, env, hr1, sr.mono le kp, pRg.then_ hp1 fun d2 h2 L2 H2 v2 le2 kp2 hr2 r2 hp2 => ?_⟩⟩
  refine o L2 H2 h2 σ d1 d2 v1 v2 _ hr2 (r1.mono le2 kp2) r2 (pRg.then_ hp2 fun d3 h3 L3 H3 v3 le3 kp3 hr3 r3 hp3 => ?_)
  cases r3 with
  | bl k =>
    refine ⟨k, rfl, ?_⟩
    cases k with
    | true => exact ⟨L3, h3, env, hr3, (sr.mono le kp).mono (le2.trans le3) (kp2.trans kp3), pRg.then_ hp3 fun d4 h4 L4 H4 v4 le4 kp4 hr4 r4 hp4 => o' L4 H4 h4 σ d2 d4 v2 v4 Q hr4 (r2.mono (le3.trans le4) (kp3.trans kp4)) r4 hp4⟩
    | false => exact here hr3 hp3 (.bl _)
  | _ => exact hp3.elim
theorem r_chain {op op' : CmpOp} {g g' : D → D → Hv → R D} {r r' : R2} (C : Or) {fa fb fc : EF} (o : OkR X W g r) (o' : OkR X W g' r') (ho : OpR X (compareOp op) r) (ho' : OpR X (compareOp op') r') (hm : behindInMarks op' c = false)
    (ha : PE X a (tE X W (fa C))) (hb : PE X b (tE X W (fb C))) (hc : PE X c (tE X W (fc C))) : PE X (.Compare a [op, op'] [b, c] pos) (tE X W (chainF g g' fa fb fc C)) :=
  PE.weak (pe_chain ho ho' ha hb hc hm) fun σ H Q ⟨L, h, env, hr, sr, hp⟩ => chain_ o o' C hr sr hp
/-! tests -/
theorem t_val {f : Fe} (h : PE X e (tE X W f)) (he : ∀ whole, isTrue e X.env whole = (do let v ← whole; standAt e.pos; holding [v] (truthy v))) : PT X e (tB X W f) :=
  PT.weak (pt_val h he) fun σ H Q ⟨L, h, env, hr, sr, hp⟩ => ⟨L, h, env, hr, sr, hp.toR⟩
theorem t_cmp {op : CmpOp} {g : D → D → Hv → R D} {r : R2} (C : Or) {fa fb : EF} (o : OkR X W g r) (ho : OpR X (compareOp op) r) (hm : behindInMarks op b = false) (ha : PE X a (tE X W (fa C))) (hb : PE X b (tE X W (fb C))) : PT X (.Compare a [op] [b] pos) (tB X W (binF g fa fb C)) :=
  PT.weak (pt_cmpR ho ha hb hm) fun σ H Q ⟨L, h, env, hr, sr, hp⟩ => two o hr sr hp.toR
theorem t_chain {op op' : CmpOp} {g g' : D → D → Hv → R D} {r r' : R2} (C : Or) {fa fb fc : EF} (o : OkR X W g r) (o' : OkR X W g' r') (ho : OpR X (compareOp op) r) (ho' : OpR X (compareOp op') r') (hm : behindInMarks op' c = false)
    (ha : PE X a (tE X W (fa C))) (hb : PE X b (tE X W (fb C))) (hc : PE X c (tE X W (fc C))) : PT X (.Compare a [op, op'] [b, c] pos) (tB X W (chainF g g' fa fb fc C)) :=
  PT.weak (pt_chain ho ho' ha hb hc hm) fun σ H Q ⟨L, h, env, hr, sr, hp⟩ => chain_ o o' C hr sr hp.toR
theorem t_not (C : Or) {fa : EF} (ha : PT X a (tB X W (fa C))) : PT X (.UnaryOp .Not a pos) (tB X W (un1F opNot fa C)) :=
  PT.weak (pt_not ha) fun σ H Q ⟨L, h, env, hr, sr, hp⟩ => ⟨L, h, env, hr, sr, pT.useT hp (fun d h n => by cases d <;> first | rfl | exact absurd rfl (n _)) fun b h1 L1 H1 le kp hr1 hp1 => hp1 L1 H1 (LE.refl _) (Keep.refl _) hr1⟩
theorem t_and1 {f : Fe} (ha : PT X a (tB X W f)) : PW X (.BoolOp .And [a] pos) (tB X W f) := pw_and1 ha
theorem t_or1 {f : Fe} (ha : PT X a (tB X W f)) : PW X (.BoolOp .Or [a] pos) (tB X W f) := pw_or1 ha
theorem t_and {rest : List Expr} (C : Or) {fa fb : EF} (ha : PT X a (tB X W (fa C))) (hb : PW X (.BoolOp .And (b :: rest) pos) (tB X W (fb C))) : PW X (.BoolOp .And (a :: b :: rest) pos) (tB X W (andF fa fb C)) :=
  PW.weak (pw_and ha hb) fun σ H Q ⟨L, h, env, hr, sr, hp⟩ => ⟨L, h, env, hr, sr, pT.useT hp (fun d h n => by cases d <;> first | rfl | exact absurd rfl (n _)) fun b h1 L1 H1 le kp hr1 hp1 => by
    cases b with
    | true => exact ⟨L1, h1, env, hr1, sr.mono le kp, hp1⟩
    | false => exact hp1 L1 H1 (LE.refl _) (Keep.refl _) hr1⟩
theorem t_or {rest : List Expr} (C : Or) {fa fb : EF} (ha : PT X a (tB X W (fa C))) (hb : PW X (.BoolOp .Or (b :: rest) pos) (tB X W (fb C))) : PW X (.BoolOp .Or (a :: b :: rest) pos) (tB X W (orF fa fb C)) :=
  PW.weak (pw_or ha hb) fun σ H Q ⟨L, h, env, hr, sr, hp⟩ => ⟨L, h, env, hr, sr, pT.useT hp (fun d h n => by cases d <;> first | rfl | exact absurd rfl (n _)) fun b h1 L1 H1 le kp hr1 hp1 => by
    cases b with
    | false => exact ⟨L1, h1, env, hr1, sr.mono le kp, hp1⟩
    | true => exact hp1 L1 H1 (LE.refl _) (Keep.refl _) hr1⟩
theorem r_ite (C : Or) {fc fa fb : EF} (hc : PT X c (tB X W (fc C))) (ha : PE X a (tE X W (fa C))) (hb : PE X b (tE X W (fb C))) : PE X (.IfExp c a b pos) (tE X W (iteF fc fa fb C)) :=
  PE.weak (pe_ifExp hc ha hb) fun σ H Q ⟨L, h, env, hr, sr, hp⟩ => ⟨L, h, env, hr, sr, pT.use hp (fun d h n => by cases d <;> first | rfl | exact absurd rfl (n _)) fun b h1 L1 H1 le kp hr1 hp1 => by
    cases b with
    | true => exact ⟨L1, h1, env, hr1, sr.mono le kp, hp1⟩
    | false => exact ⟨L1, h1, env, hr1, sr.mono le kp, hp1⟩⟩
/-! lists of expressions -/
theorem a_nil (C : Or) : PA X [] (tA X W (listF [] C)) := PA.weak pa_nil fun σ H Q ⟨L, h, env, hr, sr, hp⟩ => hp L H [] (LE.refl L) (Keep.refl H) hr .nil
theorem a_cons {es : List Expr} (C : Or) {f : EF} {fs : List EF} (ha : PE X e (tE X W (f C))) (hr : PA X es (tA X W (listF fs C))) (hs : starEach (e :: es) X.env = (false, eval e X.env) :: starEach es X.env) : PA X (e :: es) (tA X W (listF (f :: fs) C)) :=
  PA.weak (pa_cons ha hr hs) fun σ H Q ⟨L, h, env, hr, sr, hp⟩ => ⟨L, h, env, hr, sr, pRg.then_ hp fun d1 h1 L1 H1 v1 le kp hr1 r1 hp1 => ⟨L1, h1, env, hr1, sr.mono le kp, pRg.then_ hp1 fun ds h2 L2 H2 vs le2 kp2 hr2 r2 hp2 => hp2 L2 H2 _ (LE.refl _) (Keep.refl _) hr2 (.cons (r1.mono le2 kp2) r2)⟩⟩
theorem szl_le : szl ≤ sizeLine := by rw [sizeLine_eq]; decide
theorem r_tup {es : List Expr} {k : Nat} (C : Or) {fs : List EF} (ha : PA X es (tA X W (listF fs C))) : PE X (.Tuple es k pos) (tE X W (tupF fs C)) :=
  PE.weak (pe_tup ha) fun σ H Q ⟨L, h, env, hr, sr, hp⟩ => ⟨L, h, env, hr, sr, pRg.then_ hp fun ds h1 L1 H1 vs le kp hr1 r1 hp1 => by
    split at hp1
    · rename_i hz
      exact ⟨Nat.le_trans (by rw [← r1.len]; exact hz) szl_le, fun p np => hp1 L1 _ _ (LE.refl _) (Keep.new np) (hr1.new np) (.tup (.inl (.inl upd_same)) (r1.mono (LE.refl _) (Keep.new np)))⟩
    · exact hp1.elim⟩
theorem allocd {L : List Addr} {H : Hp} {h : Hv} {σ : L2.St} {Q : VK} {ds : List D} {vs : List V} {p : Addr} (hr : HR X.K L H h) (r : Rels X.K L H ds vs) (np : H p = none) (hp : pR X.K X.mg L H W σ Q (.ok (.ref h.length) (h ++ [.lst ds]))) : Q (.ref p) (upd H p (.lst vs)) :=
  hp (L ++ [p]) _ _ (LE.app _ _) (Keep.new np) (hr.alloc np r) (.ref (by rw [← hr.len]; simp))
theorem r_lst {es : List Expr} (C : Or) {fs : List EF} (ha : PA X es (tA X W (listF fs C))) : PE X (.List es pos) (tE X W (lstF fs C)) :=
  PE.weak (pe_lst ha) fun σ H Q ⟨L, h, env, hr, sr, hp⟩ => ⟨L, h, env, hr, sr, pRg.then_ hp fun ds h1 L1 H1 vs le kp hr1 r1 hp1 => by
    split at hp1
    · rename_i hz
      exact ⟨Nat.le_trans (by rw [← r1.len]; exact hz) szl_le, fun p np => allocd hr1 r1 np hp1⟩
    · exact hp1.elim⟩
/-! calls -/
def spOf (K : PySem.W.Frag) (mg : Str → Option Value) (np : Nat) (F : List D → Hv → R D) : Sp := fun vs H Q E => vs.length = np ∧ ∃ L h ds, HR K L H h ∧ Rels K L H ds vs ∧ pR K mg L H (fun cv dx _ H' => E cv dx H') [] Q (F ds h)
theorem pR.at_ {K : PySem.W.Frag} {mg : Str → Option Value} {L : List Addr} {H : Hp} {σ τ : L2.St} {W W' : WX} {Q : VK} {r : R D} (p : pR K mg L H W σ Q r) (w : ∀ cv dx H', W cv dx σ H' → W' cv dx τ H') : pR K mg L H W' τ Q r := by
  cases r with
  | ok d h => exact p
  | exc c d h => exact fun L' H' cv dx l k hr x => w _ _ _ (p L' H' cv dx l k hr x)
  | stuck => exact p
theorem r_call {x : Str} {p : Pos} {es : List Expr} (C : Or) {fs : List EF} {k : Nat} {f : Addr} {fd : FuncData} {ps : List Str} (tk : Takes X W)
    (F : FnOk X.prog X.w X.K X.mg X.base (L2.CX X.prog X.w) k f fd ps (spOf X.K X.mg ps.length (C x))) (hl : ∀ ds h, ds.length ≠ ps.length → C x ds h = .stuck) (hr : Room k X.A) (hg : Gl X x) (hm : X.mg x = some (.ref f)) (hk : PySem.W.keepIn X.K (.ref f) = true) (hb : Binds X.K fd ps [])
    (ha : PA X (e :: es) (tA X W (listF fs C))) (hdb : (x == ("__debug__" : Str)) = false) (he : starEach (e :: es) X.env = (false, eval e X.env) :: starEach es X.env) (hpl : (backTo pos (starEach es X.env)).any (·.1) = false) :
    PE X (.Call (.Name x p) (e :: es) [] pos) (tE X W (callF x fs C)) :=
  PE.weak (pe_callS F hr hg hm hk hb (fun σ => passAt tk σ) ha hdb he hpl) fun σ H Q ⟨L, h, env, hr, sr, hp⟩ => ⟨L, h, env, hr, sr, pRg.then_ hp fun ds h1 L1 H1 vs le kp hr1 r1 hp1 => by
    refine ⟨?_, L1, h1, ds, hr1, r1, pR.at_ hp1 fun _ _ _ w => w⟩
    by_cases q : ds.length = ps.length
    · rw [← r1.len]; exact q
    · have hp2 : pR X.K X.mg L1 H1 W σ Q (C x ds h1) := hp1
      rw [hl ds h1 q] at hp2
      exact hp2.elim⟩
theorem r_cb {x : Str} {id : String} {p : Pos} {es : List Expr} {g : List D → Hv → R D} {r : List V → Hp → VK → Prop} (C : Or) {fs : List EF} (o : OkC X W g r) (hc : CallR X (.builtin id) r) (hg : Gl X x) (hm : X.mg x = none) (hv : bootBuiltins x = some (.builtin id)) (ha : PA X (e :: es) (tA X W (listF fs C)))
    (hn : x ≠ "__name__") (hdb : (x == ("__debug__" : Str)) = false) (he : starEach (e :: es) X.env = (false, eval e X.env) :: starEach es X.env) (hpl : (backTo pos (starEach es X.env)).any (·.1) = false) : PE X (.Call (.Name x p) (e :: es) [] pos) (tE X W (bltF g fs C)) :=
  PE.weak (pe_callB hc hg hm hv ha hn hdb he hpl) fun σ H Q ⟨L, h, env, hr, sr, hp⟩ => ⟨L, h, env, hr, sr, pRg.then_ hp fun ds h1 L1 H1 vs le kp hr1 r1 hp1 => o L1 H1 h1 σ ds vs Q hr1 r1 hp1⟩
theorem r_ct {x : Str} {T : String} {p : Pos} {es : List Expr} {g : List D → Hv → R D} {r : List V → Hp → VK → Prop} (C : Or) {fs : List EF} (o : OkC X W g r) (hc : CallR X (.type T) r) (hg : Gl X x) (hm : X.mg x = none) (hv : bootBuiltins x = some (.type T)) (ha : PA X (e :: es) (tA X W (listF fs C)))
    (hn : x ≠ "__name__") (hdb : (x == ("__debug__" : Str)) = false) (he : starEach (e :: es) X.env = (false, eval e X.env) :: starEach es X.env) (hpl : (backTo pos (starEach es X.env)).any (·.1) = false) : PE X (.Call (.Name x p) (e :: es) [] pos) (tE X W (bltF g fs C)) :=
  PE.weak (pe_callTy hc hg hm hv ha hn hdb he hpl) fun σ H Q ⟨L, h, env, hr, sr, hp⟩ => ⟨L, h, env, hr, sr, pRg.then_ hp fun ds h1 L1 H1 vs le kp hr1 r1 hp1 => o L1 H1 h1 σ ds vs Q hr1 r1 hp1⟩
/-! slices -/
theorem o_none (C : Or) : PO X none (tO X W (optF none C)) := PO.weak po_none fun σ H Q ⟨L, h, env, hr, sr, hp⟩ => hp L H none (LE.refl _) (Keep.refl _) hr rfl
theorem o_some (C : Or) {fa : EF} (ha : PE X a (tE X W (fa C))) : PO X (some a) (tO X W (optF (some fa) C)) :=
  PO.weak (po_some ha) fun σ H Q ⟨L, h, env, hr, sr, hp⟩ => ⟨L, h, env, hr, sr, pRg.then_ hp fun d1 h1 L1 H1 v1 le kp hr1 r1 hp1 => by
    cases r1 with
    | int i => exact ⟨i, rfl, hp1 L1 H1 _ (LE.refl _) (Keep.refl _) hr1 rfl⟩
    | _ => exact hp1.elim⟩
theorem r_slc {lo hi : Option Expr} {p2 : Pos} {g : D → Option Int → Option Int → Hv → R D} {r : V → Option Int → Option Int → Hp → VK → Prop} (C : Or) {fa : EF} {fl fh : Option EF}
    (o : ∀ L H h σ d v l u Q, HR X.K L H h → Rel X.K L H d v → pR X.K X.mg L H W σ Q (g d l u h) → r v l u H Q) (hs : SlR X r) (ha : PE X a (tE X W (fa C))) (hl : PO X lo (tO X W (optF fl C))) (hh : PO X hi (tO X W (optF fh C))) :
    PE X (.Subscript a (.Slice lo hi none p2) pos) (tE X W (slcF g fa fl fh C)) :=
  PE.weak (pe_slice hs ha hl hh) fun σ H Q ⟨L, h, env, hr, sr, hp⟩ => ⟨L, h, env, hr, sr, pRg.then_ hp fun d1 h1 L1 H1 v1 le kp hr1 r1 hp1 => ⟨L1, h1, env, hr1, sr.mono le kp, pRg.then_ hp1 fun l h2 L2 H2 l' le2 kp2 hr2 e2 hp2 => by
    subst e2
    exact ⟨L2, h2, env, hr2, (sr.mono le kp).mono le2 kp2, pRg.then_ hp2 fun u h3 L3 H3 u' le3 kp3 hr3 e3 hp3 => by
      subst e3
      exact o L3 H3 h3 σ d1 v1 l u Q hr3 (r1.mono (le2.trans le3) (kp2.trans kp3)) hp3⟩⟩⟩
end
end VM

set_option maxRecDepth 100000
set_option maxHeartbeats 1000000
namespace VM
open PySem PySem.Spec PyProof.Rows L2
section
variable {X : Cx} {W : WX}
def rAddA (K : PySem.W.Frag) : R2 := fun x y H Q => rI0 (fun i j => .int (i + j)) x y H Q ∨ ((fun x y H Q => ∃ i j, x = .str i ∧ y = .str j ∧ i.length + j.length ≤ sizeLine ∧ Q (.str (i ++ j)) H) : R2) x y H Q ∨ rCatA K x y H Q ∨ rCat x y H Q
theorem op_addA : OpR X (binaryOp .Add) (rAddA X.K) := op_add.or (op_add_str.or (op_catA.or op_cat))
theorem o_add : OkR X W opAdd (rAddA X.K) := by
  intro L H h σ d1 d2 v1 v2 Q hr r1 r2 hp
  cases r1 with
  | int i =>
    cases r2 with
    | int j => exact .inl ⟨i, j, rfl, rfl, here hr hp (.int _)⟩
    | _ => exact hp.elim
  | str i =>
    cases r2 with
    | str j =>
      simp only [opAdd] at hp
      split at hp
      · rename_i hz
        exact .inr (.inl ⟨i, j, rfl, rfl, Nat.le_trans hz szl_le, here hr hp (.str _)⟩)
      · exact hp.elim
    | _ => exact hp.elim
  | @tup ds a xs ha ra =>
    cases r2 with
    | @tup es b ys hb rb =>
      simp only [opAdd] at hp
      split at hp
      · rename_i hz
        refine .inr (.inr (.inl ⟨a, b, xs, ys, rfl, rfl, ha, hb, ?_, fun e => ?_, fun e e2 => ?_, fun e e2 p np => ?_⟩))
        · rw [← ra.len, ← rb.len]; exact Nat.le_trans hz szl_le
        · refine here hr hp (.tup hb ?_)
          subst e
          cases ra
          exact rb
        · refine here hr hp (.tup ha ?_)
          subst e2
          cases rb
          rw [List.append_nil]
          exact ra
        · exact hp L _ _ (LE.refl _) (Keep.new np) (hr.new np) (.tup (.inl (.inl upd_same)) ((ra.app rb).mono (LE.refl _) (Keep.new np)))
      · exact hp.elim
    | _ => exact hp.elim
  | @ref i a ea =>
    cases r2 with
    | @ref j b eb =>
      simp only [opAdd] at hp
      split at hp
      · rename_i ds es e1 e2
        split at hp
        · rename_i hz
          obtain ⟨xs, q1, s1⟩ := hr.lst i a ds e1 ea
          obtain ⟨ys, q2, s2⟩ := hr.lst j b es e2 eb
          exact .inr (.inr (.inr ⟨a, b, xs, ys, rfl, rfl, q1, q2, by rw [← s1.len, ← s2.len]; exact Nat.le_trans hz szl_le, fun p np => allocd hr (s1.app s2) np hp⟩))
        · exact hp.elim
      · exact hp.elim
    | _ => exact hp.elim
  | _ => exact hp.elim
theorem o_sub : OkR X W opSub (rI0 fun i j => .int (i - j)) := by
  intro L H h σ d1 d2 v1 v2 Q hr r1 r2 hp
  cases r1 <;> cases r2 <;> first
    | exact hp.elim
    | exact ⟨_, _, rfl, rfl, here hr hp (.int _)⟩
theorem o_cmpI (p : Int → Int → Bool) : OkR X W (cmpI p) (rI0 fun i j => .bl (p i j)) := by
  intro L H h σ d1 d2 v1 v2 Q hr r1 r2 hp
  cases r1 <;> cases r2 <;> first
    | exact hp.elim
    | exact ⟨_, _, rfl, rfl, here hr hp (.bl _)⟩
def rLeV : R2 := fun x y H Q => rI0 (fun i j => .bl (decide (i ≤ j))) x y H Q ∨ ((fun x y H Q => ∃ i j, x = .str i ∧ y = .str j ∧ Q (.bl (!decide (j.cps.toList < i.cps.toList))) H) : R2) x y H Q
theorem op_leV : OpR X (compareOp .LtE) rLeV := op_le.or op_le_str
theorem o_le : OkR X W opLe rLeV := by
  intro L H h σ d1 d2 v1 v2 Q hr r1 r2 hp
  cases r1 <;> cases r2 <;> first
    | exact hp.elim
    | exact .inl ⟨_, _, rfl, rfl, here hr hp (.bl _)⟩
    | exact .inr ⟨_, _, rfl, rfl, here hr hp (.bl _)⟩
theorem o_mod : OkR X W opMod (rI (fun _ j => 0 < j) fun i j => .int (i % j)) := by
  intro L H h σ d1 d2 v1 v2 Q hr r1 r2 hp
  cases r1 <;> cases r2 <;> try exact hp.elim
  simp only [opMod] at hp
  split at hp
  · rename_i hz
    exact ⟨_, _, rfl, rfl, hz, here hr hp (.int _)⟩
  · exact hp.elim
theorem o_fdiv : OkR X W opFdiv (rI CDivW fun i j => .int (i / j)) := by
  intro L H h σ d1 d2 v1 v2 Q hr r1 r2 hp
  cases r1 <;> cases r2 <;> try exact hp.elim
  simp only [opFdiv] at hp
  split at hp
  · rename_i hz
    exact ⟨_, _, rfl, rfl, wide_div hz.1 hz.2 (by decide) (by decide), here hr hp (.int _)⟩
  · exact hp.elim
theorem o_pow : OkR X W opPow (rI CPow fun i j => .int (i ^ j.toNat)) := by
  intro L H h σ d1 d2 v1 v2 Q hr r1 r2 hp
  cases r1 <;> cases r2 <;> try exact hp.elim
  simp only [opPow] at hp
  split at hp
  · rename_i hz
    exact ⟨_, _, rfl, rfl, ⟨hz.1, by omega, hz.2.2⟩, here hr hp (.int _)⟩
  · exact hp.elim
theorem o_neg : OkU X W opNeg (rU fun i => .int (-i)) := by
  intro L H h σ d v Q hr r hp
  cases r <;> first
    | exact hp.elim
    | exact ⟨_, rfl, here hr hp (.int _)⟩
theorem o_is : OkR X W (opIs false) (fun x y H Q => (∃ a b, x = .bl a ∧ y = .bl b ∧ Q (.bl (decide (a = b))) H) ∨ (y = .non ∧ Q (.bl (decide (x = .non))) H)) := by
  intro L H h σ d1 d2 v1 v2 Q hr r1 r2 hp
  cases r2 <;> cases r1 <;> first
    | exact hp.elim
    | exact .inl ⟨_, _, rfl, rfl, here hr hp (.bl _)⟩
    | exact .inr ⟨rfl, here hr hp (by simp <;> exact .bl _)⟩
theorem o_isnot : OkR X W (opIs true) (fun x y H Q => (∃ a b, x = .bl a ∧ y = .bl b ∧ Q (.bl (!decide (a = b))) H) ∨ (y = .non ∧ Q (.bl (!decide (x = .non))) H)) := by
  intro L H h σ d1 d2 v1 v2 Q hr r1 r2 hp
  cases r2 <;> cases r1 <;> first
    | exact hp.elim
    | exact .inl ⟨_, _, rfl, rfl, here hr hp (.bl _)⟩
    | exact .inr ⟨rfl, here hr hp (by simp <;> exact .bl _)⟩
theorem op_is2 : OpR X (compareOp .Is) (fun x y H Q => (∃ a b, x = .bl a ∧ y = .bl b ∧ Q (.bl (decide (a = b))) H) ∨ (y = .non ∧ Q (.bl (decide (x = .non))) H)) := by
  intro pins s σ H x y v u Q I rx ry h
  rcases h with h | h
  · exact op_is_bl pins s σ H x y v u Q I rx ry h
  · exact op_isN pins s σ H x y v u Q I rx ry h
theorem op_isnot2 : OpR X (compareOp .IsNot) (fun x y H Q => (∃ a b, x = .bl a ∧ y = .bl b ∧ Q (.bl (!decide (a = b))) H) ∨ (y = .non ∧ Q (.bl (!decide (x = .non))) H)) := by
  intro pins s σ H x y v u Q I rx ry h
  rcases h with h | h
  · exact op_isnot_bl pins s σ H x y v u Q I rx ry h
  · exact op_notN pins s σ H x y v u Q I rx ry h
/-! == -/
mutual
theorem dp_of {K : PySem.W.Frag} {L : List Addr} {H : Hp} {h : Hv} (hr : HR K L H h) : ∀ (n : Nat) (d : D) (v : V) (p : PyData), Rel K L H d v → toP h n d = some p → Dp K H v p ∧ p.canLay0 = true ∧ p.depth ≤ n
  | n, .non, _, p, r, e => by cases r; cases n <;> (simp only [toP, Option.some.injEq] at e; subst e; exact ⟨.non, rfl, Nat.zero_le _⟩)
  | n, .bl b, _, p, r, e => by cases r; cases n <;> (simp only [toP, Option.some.injEq] at e; subst e; exact ⟨.bl b, rfl, Nat.zero_le _⟩)
  | n, .int b, _, p, r, e => by cases r; cases n <;> (simp only [toP, Option.some.injEq] at e; subst e; exact ⟨.int b, rfl, Nat.zero_le _⟩)
  | n, .str b, _, p, r, e => by
    cases r
    have e2 : (if PyData.strOk b = true then some (PyData.str b) else none) = some p := by cases n <;> (simp only [toP] at e; exact e)
    split at e2
    · rename_i z
      cases e2
      exact ⟨.str b, by simp only [PyData.canLay0]; exact z, Nat.zero_le _⟩
    · cases e2
  | 0, .tup ds, _, p, r, e => by simp [toP] at e
  | n + 1, .tup ds, _, p, r, e => by
    cases r with
    | tup ha ra =>
      simp only [toP, Option.map_eq_some_iff] at e
      obtain ⟨ps, e1, rfl⟩ := e
      obtain ⟨h1, h2, h3⟩ := dps_of hr n ds _ ps ra e1
      exact ⟨.tup ha h1, by simp only [PyData.canLay0]; exact h2, by simp only [PyData.depth]; omega⟩
  | 0, .ref i, _, p, r, e => by simp [toP] at e
  | n + 1, .ref i, _, p, r, e => by
    cases r with
    | ref ea =>
      simp only [toP] at e
      split at e
      · rename_i ds e0
        simp only [Option.map_eq_some_iff] at e
        obtain ⟨ps, e1, rfl⟩ := e
        obtain ⟨xs, q, s⟩ := hr.lst i _ ds e0 ea
        obtain ⟨h1, h2, h3⟩ := dps_of hr n ds _ ps s e1
        exact ⟨.lst (SqL.of q) h1, by simp only [PyData.canLay0]; exact h2, by simp only [PyData.depth]; omega⟩
      · cases e
termination_by n d => (n, 0, sizeOf d)
theorem dps_of {K : PySem.W.Frag} {L : List Addr} {H : Hp} {h : Hv} (hr : HR K L H h) : ∀ (n : Nat) (ds : List D) (vs : List V) (ps : List PyData), Rels K L H ds vs → toPs h n ds = some ps → DpAll K H vs ps ∧ PyData.canLayAll0 ps = true ∧ PyData.depthAll ps ≤ n
  | n, [], _, ps, r, e => by
    cases r
    have e2 : (some [] : Option (List PyData)) = some ps := by cases n <;> (simp only [toPs] at e; exact e)
    cases e2
    exact ⟨.nil, rfl, Nat.zero_le _⟩
  | n, d :: ds, _, ps, r, e => by
    cases r with
    | cons r1 r2 =>
      have e2 : (match toP h n d with
        | some p => (match toPs h n ds with
          | some ps => some (p :: ps)
          | none => none)
        | none => none) = some ps := by cases n <;> (simp only [toPs] at e; exact e)
      split at e2
      · rename_i p ep
        split at e2
        · rename_i qs eq
          cases e2
          obtain ⟨h1, h2, h3⟩ := dp_of hr n d _ p r1 ep
          obtain ⟨k1, k2, k3⟩ := dps_of hr n ds _ qs r2 eq
          exact ⟨.cons h1 k1, by simp only [PyData.canLayAll0, h2, k2, Bool.and_self], by simp only [PyData.depthAll]; omega⟩
        · cases e2
      · cases e2
termination_by n ds => (n, 1, sizeOf ds)
end
theorem shaped_of {p : PyData} (h : p.canLay0 = true) (h2 : p.depth ≤ 60) : SeqAt.shaped p = true := by
  unfold SeqAt.shaped
  rw [h, Bool.true_and]
  exact decide_eq_true (by omega)
theorem o_eq : OkR X W (opEqD false) (rEqD X.K) := by
  intro L H h σ d1 d2 v1 v2 Q hr r1 r2 hp
  simp only [opEqD] at hp
  split at hp
  · rename_i p q e1 e2
    obtain ⟨a1, a2, a3⟩ := dp_of hr 60 d1 v1 p r1 e1
    obtain ⟨b1, b2, b3⟩ := dp_of hr 60 d2 v2 q r2 e2
    exact ⟨p, q, a1, b1, shaped_of a2 a3, shaped_of b2 b3, here hr hp (.bl _)⟩
  · exact hp.elim
theorem o_ne : OkR X W (opEqD true) (rNeD X.K) := by
  intro L H h σ d1 d2 v1 v2 Q hr r1 r2 hp
  simp only [opEqD] at hp
  split at hp
  · rename_i p q e1 e2
    obtain ⟨a1, a2, a3⟩ := dp_of hr 60 d1 v1 p r1 e1
    obtain ⟨b1, b2, b3⟩ := dp_of hr 60 d2 v2 q r2 e2
    exact ⟨p, q, a1, b1, shaped_of a2 a3, shaped_of b2 b3, here hr hp (.bl _)⟩
  · exact hp.elim
/-! sequences -/
theorem seq_of {K : PySem.W.Frag} {L : List Addr} {H : Hp} {h : Hv} (hr : HR K L H h) {d : D} {v : V} (r : Rel K L H d v) {z : List D × Guards} (e : seqOf d h = some z) :
    ∃ a xs, v = .ref a ∧ (SqL K H a xs ∨ SqT K H a xs) ∧ Rels K L H z.1 xs := by
  cases r with
  | tup ha ra =>
    simp only [seqOf, Option.some.injEq] at e
    subst e
    exact ⟨_, _, rfl, .inr ha, ra⟩
  | @ref i a ea =>
    simp only [seqOf] at e
    split at e
    · rename_i ds e0
      cases e
      obtain ⟨xs, q, s⟩ := hr.lst i a ds e0 ea
      exact ⟨a, xs, rfl, .inl (SqL.of q), s⟩
    · rename_i ds e0
      cases e
      obtain ⟨xs, q, s⟩ := hr.ro i a ds e0 ea
      exact ⟨a, xs, rfl, .inl q.seq, s⟩
    · cases e
  | _ => cases e
theorem flat_of {K : PySem.W.Frag} {L : List Addr} {H : Hp} {d : D} {v : V} (r : Rel K L H d v) (f : flatD d = true) : flatV v = true := by
  cases r <;> first
    | rfl
    | cases f
theorem flats_of {K : PySem.W.Frag} {L : List Addr} {H : Hp} : ∀ {ds : List D} {vs : List V}, Rels K L H ds vs → ds.all flatD = true → vs.all flatV = true
  | _, _, .nil, _ => rfl
  | _, _, .cons r t, f => by
    rw [List.all_cons, Bool.and_eq_true] at f
    rw [List.all_cons, flat_of r f.1, flats_of t f.2]; rfl
theorem eqV_of {K : PySem.W.Frag} {L : List Addr} {H : Hp} {d e : D} {v u : V} (r : Rel K L H d v) (q : Rel K L H e u) (f : flatD d = true) (g : flatD e = true) : eqV v u = eqD d e := by
  cases r <;> cases q <;> first
    | rfl
    | cases f
    | cases g
theorem inV_of {K : PySem.W.Frag} {L : List Addr} {H : Hp} {d : D} {v : V} (r : Rel K L H d v) (f : flatD d = true) : ∀ {ds : List D} {vs : List V}, Rels K L H ds vs → ds.all flatD = true → inV v vs = ds.any fun y => eqD y d
  | _, _, .nil, _ => rfl
  | _, _, .cons q t, g => by
    rw [List.all_cons, Bool.and_eq_true] at g
    have ih := inV_of r f t g.2
    unfold inV at ih ⊢
    rw [List.any_cons, List.any_cons, ih, eqV_of q r g.1 f]
/-- a dict's keys, over there -/
theorem key_rel {K : PySem.W.Frag} {L : List Addr} {H : Hp} {d : D} {v : V} (r : Rel K L H d v) {k : DKey} (e : keyD d = some k) : v = kV k := by
  cases r <;> cases e <;> rfl
theorem dct_of {K : PySem.W.Frag} {L : List Addr} {H : Hp} {h : Hv} (hr : HR K L H h) {d : D} {v : V} (r : Rel K L H d v) {kvs : List (DKey × D)} (e : dctAt d h = some kvs) : ∃ i a us, d = .ref i ∧ v = .ref a ∧ L[i]? = some a ∧ h[i]? = some (.dct kvs) ∧ H a = some (.dK us) ∧ KRs K L H kvs us := by
  cases r with
  | @ref i a ea =>
    simp only [dctAt] at e
    split at e
    · rename_i ds e0
      cases e
      obtain ⟨us, q, s⟩ := hr.dct i a _ e0 ea
      exact ⟨i, a, us, rfl, rfl, ea, e0, q, s⟩
    · cases e
  | _ => cases e
def rInK (neg : Bool) : R2 := fun x y H Q => ∃ a us k, y = .ref a ∧ H a = some (.dK us) ∧ x = kV k ∧ Q (.bl (if neg then !(valV us k).isSome else (valV us k).isSome)) H
theorem in_dct : OpR X (compareOp .In) (rInK false) := by
  intro pins s σ H x y v u Q I rx ry h
  obtain ⟨a, us, k, rfl, e, rfl, q⟩ := h
  cases ry
  obtain ⟨z, hd, vs, rel, dd⟩ := dk_of I.hok e
  refine wpAny_in_of (kV_is rx) hd dd.mapOf ?_
  rw [← (rel.val k).isSome_eq]
  exact ⟨.bl _, H, I.tok _, rfl, q⟩
theorem notIn_dct : OpR X (compareOp .NotIn) (rInK true) := by
  intro pins s σ H x y v u Q I rx ry h
  obtain ⟨a, us, k, rfl, e, rfl, q⟩ := h
  cases ry
  obtain ⟨z, hd, vs, rel, dd⟩ := dk_of I.hok e
  refine wpAny_notIn_of (kV_is rx) hd dd.mapOf ?_
  rw [← (rel.val k).isSome_eq]
  exact ⟨.bl _, H, I.tok _, rfl, q⟩
def rIxK : R2 := fun x y H Q => ∃ a us k v, x = .ref a ∧ H a = some (.dK us) ∧ y = kV k ∧ valV us k = some v ∧ Q v H
theorem ix_dct : IxR X rIxK := by
  intro value slice pins s σ H x y v u Q I rx ry h hs
  obtain ⟨a, us, k, z, rfl, e, rfl, l, q⟩ := h
  cases rx
  obtain ⟨_, hd, vs, rel, dd⟩ := dk_of I.hok e
  obtain ⟨w', hw, rw'⟩ := RelO.some_of (v := z) (o := valueAt vs k) (by rw [← l]; exact rel.val k)
  exact subscriptTail_builtinR (x := w') dd.typeIs PySem.F.slot_dict_getitem.lookup (wpAny_getItem_of (kV_is ry) dd.mapOf hw ⟨rfl, z, H, I.tok _, rw', q⟩) hs
def rSetK : V → V → V → Hp → (Hp → Prop) → Prop := fun o i v H Q => ∃ p us k, o = .ref p ∧ H p = some (.dK us) ∧ i = kV k ∧ us.length < sizeLine ∧ Q (upd H p (.dK (putK us k v)))
theorem set_dct : PSet X rSetK := by
  intro pins s σ H o i v ov iv u Q I ro ri rv h
  obtain ⟨p, us, k, rfl, e, rfl, l, q⟩ := h
  cases ro
  obtain ⟨z, hd, vs, rel, dd⟩ := dk_of I.hok e
  have hz : vs.length ≤ sizeLine := by rw [← rel.length]; exact z
  have hl : (putK us k v).length ≤ sizeLine := by have := length_putK us k v; omega
  refine wpAny_setItem_pairs (hsz := hz) (kV_is ri) dd fun h' dd' hs => ⟨_, ?_, q⟩
  have he : ∃ q, h'.get? p = some q := let ⟨q, _, _, hq, _⟩ := dd'; ⟨q, hq⟩
  exact d_write I (by rw [e]; exact True.intro) hs he (dk_new hl hd (rel.put k rv) dd')
def rSetV : V → V → V → Hp → (Hp → Prop) → Prop := fun o i v H Q => rSetL o i v H Q ∨ rSetK o i v H Q
theorem set_any : PSet X rSetV := by
  intro pins s σ H o i v ov iv u Q I ro ri rv h
  rcases h with h | h
  · exact set_list pins s σ H o i v ov iv u Q I ro ri rv h
  · exact set_dct pins s σ H o i v ov iv u Q I ro ri rv h
def rInP (K : PySem.W.Frag) (neg : Bool) : R2 := fun x y H Q => ∃ d ds, Dp K H x d ∧ Dp K H y (.list ds) ∧ SeqAt.shaped d = true ∧ SeqAt.shaped (.list ds) = true ∧ Q (.bl (if neg then !(ds.any fun z => PyData.eqv z d) else ds.any fun z => PyData.eqv z d)) H
def rInV (K : PySem.W.Frag) (neg : Bool) : R2 := fun x y H Q => rIn K neg x y H Q ∨ rInK neg x y H Q ∨ rInP K neg x y H Q
theorem op_inV (hu : X.A.units + 65 < cLine) : OpR X (compareOp .In) (rInV X.K false) := op_in_seq.or (in_dct.or (op_inD hu))
theorem op_notInV (hu : X.A.units + 65 < cLine) : OpR X (compareOp .NotIn) (rInV X.K true) := op_notIn_seq.or (notIn_dct.or (op_notInD hu))
theorem inP_ok (neg : Bool) {L : List Addr} {H : Hp} {h : Hv} {σ : L2.St} {d1 d2 : D} {v1 v2 : V} {Q : VK} (hr : HR X.K L H h) (r1 : Rel X.K L H d1 v1) (r2 : Rel X.K L H d2 v2) (hp : pR X.K X.mg L H W σ Q (inP neg d1 d2 h)) : rInP X.K neg v1 v2 H Q := by
  unfold inP at hp
  split at hp
  · rename_i p ds e1 e2
    obtain ⟨a1, a2, a3⟩ := dp_of hr 50 d1 v1 p r1 e1
    obtain ⟨b1, b2, b3⟩ := dp_of hr 50 d2 v2 _ r2 e2
    exact ⟨p, ds, a1, b1, shaped_of a2 (by omega), shaped_of b2 (by omega), here hr hp (.bl _)⟩
  · exact hp.elim
def rIxV (K : PySem.W.Frag) : R2 := fun x y H Q => rIx K x y H Q ∨ rIxK x y H Q
theorem o_in (neg : Bool) : OkR X W (opIn neg) (rInV X.K neg) := by
  intro L H h σ d1 d2 v1 v2 Q hr r1 r2 hp
  simp only [opIn] at hp
  split at hp
  · rename_i z e
    split at hp
    · rename_i f
      obtain ⟨a, xs, rfl, sq, s⟩ := seq_of hr r2 e
      refine .inl ⟨a, xs, rfl, sq, flat_of r1 f.1, flats_of s f.2, ?_⟩
      rw [inV_of r1 f.1 s f.2]
      exact here hr hp (.bl _)
    · exact .inr (.inr (inP_ok neg hr r1 r2 hp))
  · split at hp
    · rename_i kvs k e1 e2
      obtain ⟨i, a, us, rfl, rfl, ea, e0, q, s⟩ := dct_of hr r2 e1
      refine .inr (.inl ⟨a, us, k, rfl, q, key_rel r1 e2, ?_⟩)
      have ee : (getD_ kvs k).isSome = (valV us k).isSome := by
        rcases s.get k with ⟨g1, g2⟩ | ⟨d, v, g1, g2, _⟩ <;> (rw [g1, g2]; rfl)
      rw [← ee]
      exact here hr hp (.bl _)
    · exact hp.elim
theorem atI_of {K : PySem.W.Frag} {L : List Addr} {H : Hp} {ds : List D} {vs : List V} (r : Rels K L H ds vs) {i : Int} {d : D} (e : atI ds i = some d) : ∃ v, atI vs i = some v ∧ Rel K L H d v := by
  unfold atI at e ⊢
  rw [r.len] at e
  cases q : ixN vs.length i with
  | none => rw [q] at e; cases e
  | some j =>
    rw [q] at e
    exact r.get e
theorem ixK_ok {L : List Addr} {H : Hp} {h : Hv} {σ : L2.St} {d1 d2 : D} {v1 v2 : V} {Q : VK} (hr : HR X.K L H h) (r1 : Rel X.K L H d1 v1) (r2 : Rel X.K L H d2 v2) (hp : pR X.K X.mg L H W σ Q (ixK d1 d2 h)) : rIxK v1 v2 H Q := by
  unfold ixK at hp
  split at hp
  · rename_i kvs k e1 e2
    obtain ⟨i, a, us, rfl, rfl, ea, e0, q, s⟩ := dct_of hr r1 e1
    split at hp
    · rename_i d e3
      rcases s.get k with ⟨g1, g2⟩ | ⟨d', v, g1, g2, r⟩
      · rw [g1] at e3; cases e3
      · rw [g1] at e3; cases e3
        exact ⟨a, us, k, v, rfl, q, key_rel r2 e2, g2, here hr hp r⟩
    · exact hp.elim
  · exact hp.elim
theorem o_ix : OkR X W opIx (rIxV X.K) := by
  intro L H h σ d1 d2 v1 v2 Q hr r1 r2 hp
  cases r2 with
  | int i =>
    have gen : ∀ {z : List D × Guards}, seqOf d1 h = some z → ∀ {d}, atI z.1 i = some d → pR X.K X.mg L H W σ Q (.ok d h) → rIxV X.K v1 (.int i) H Q := fun {z} ez {d} ed hq => by
      obtain ⟨a, xs, rfl, sq, s⟩ := seq_of hr r1 ez
      obtain ⟨v, e1, r⟩ := atI_of s ed
      rcases sq with sq | sq
      · exact .inl (.inl ⟨a, xs, i, v, rfl, rfl, sq, e1, here hr hq r⟩)
      · exact .inl (.inr (.inl ⟨a, xs, i, v, rfl, rfl, sq, e1, here hr hq r⟩))
    cases r1 with
    | str z =>
      simp only [opIx] at hp
      split at hp
      · rename_i hz
        split at hp
        · rename_i c e
          exact .inl (.inr (.inr ⟨z, i, c, rfl, rfl, Nat.le_trans hz szl_le, e, here hr hp (.str _)⟩))
        · exact hp.elim
      · exact hp.elim
    | tup ha ra =>
      simp only [opIx] at hp
      split at hp
      · rename_i z e
        split at hp
        · rename_i d e2
          exact gen e e2 hp
        · exact hp.elim
      · exact .inr (ixK_ok hr (.tup ha ra) (.int i) hp)
    | ref ea =>
      simp only [opIx] at hp
      split at hp
      · rename_i z e
        split at hp
        · rename_i d e2
          exact gen e e2 hp
        · exact hp.elim
      · exact .inr (ixK_ok hr (.ref ea) (.int i) hp)
    | non => exact .inr (ixK_ok hr .non (.int i) (by simpa only [opIx, seqOf] using hp))
    | bl b => exact .inr (ixK_ok hr (.bl b) (.int i) (by simpa only [opIx, seqOf] using hp))
    | int j => exact .inr (ixK_ok hr (.int j) (.int i) (by simpa only [opIx, seqOf] using hp))
  | str z => exact .inr (ixK_ok hr r1 (.str z) (by simpa only [opIx] using hp))
  | non => exact .inr (ixK_ok hr r1 .non (by simpa only [opIx] using hp))
  | bl b => exact .inr (ixK_ok hr r1 (.bl b) (by simpa only [opIx] using hp))
  | tup ha ra => exact .inr (ixK_ok hr r1 (.tup ha ra) (by simpa only [opIx] using hp))
  | ref ea => exact .inr (ixK_ok hr r1 (.ref ea) (by simpa only [opIx] using hp))
def rSlB (K : PySem.W.Frag) : V → Option Int → Option Int → Hp → VK → Prop := fun x lo hi H Q => rSlA K x lo hi H Q ∨ rSlL K x lo hi H Q ∨ rSlS x lo hi H Q
theorem sl_B : SlR X (rSlB X.K) := sl_tupA.or (sl_list.or sl_str)
theorem o_sl : ∀ L H h (σ : L2.St) d v l u Q, HR X.K L H h → Rel X.K L H d v → pR X.K X.mg L H W σ Q (opSl d l u h) → rSlB X.K v l u H Q := by
  intro L H h σ d v l u Q hr r hp
  cases r with
  | @tup ds a xs ha ra =>
    refine .inl ⟨a, xs, rfl, ha, fun e => here hr hp (.tup ha ?_), fun e p np => hp L _ _ (LE.refl _) (Keep.new np) (hr.new np) (.tup (.inl (.inl upd_same)) ((ra.cut l u).mono (LE.refl _) (Keep.new np)))⟩
    have z := ra.cut l u
    unfold cutV at z
    rw [e.1, e.2, List.drop_zero, Nat.sub_zero, List.take_length] at z
    exact z
  | @ref i a ea =>
    simp only [opSl] at hp
    split at hp
    · rename_i ds e0
      obtain ⟨xs, q, s⟩ := hr.lst i a ds e0 ea
      exact .inr (.inl ⟨a, xs, rfl, SqL.of q, fun p np => allocd hr (s.cut l u) np hp⟩)
    · exact hp.elim
  | str z =>
    simp only [opSl] at hp
    split at hp
    · rename_i hz
      exact .inr (.inr ⟨z, rfl, Nat.le_trans hz szl_le, here hr hp (.str _)⟩)
    · exact hp.elim
  | _ => exact hp.elim
/-! built-ins -/
def rLenB (K : PySem.W.Frag) : List V → Hp → VK → Prop := fun xs H Q => (∃ p ys, xs = [V.ref p] ∧ (SqL K H p ys ∨ SqT K H p ys) ∧ Q (.int ys.length) H) ∨ ∃ z : Str, xs = [V.str z] ∧ z.length ≤ sizeLine ∧ Q (.int z.length) H
theorem c_len : CallR X (.builtin "len") (rLenB X.K) := call_len_seq.or call_len_str
theorem one_of {K : PySem.W.Frag} {L : List Addr} {H : Hp} {d : D} {vs : List V} (r : Rels K L H [d] vs) : ∃ v, vs = [v] ∧ Rel K L H d v := by
  cases r with
  | cons a b => cases b; exact ⟨_, rfl, a⟩
theorem o_len : OkC X W bLen (rLenB X.K) := by
  intro L H h σ ds vs Q hr rs hp
  have gen : ∀ {d : D}, ds = [d] → ∀ {z}, seqOf d h = some z → pR X.K X.mg L H W σ Q (.ok (.int z.1.length) h) → rLenB X.K vs H Q := fun {d} e1 {z} e2 hq => by
    subst e1
    obtain ⟨v, rfl, r⟩ := one_of rs
    obtain ⟨a, xs, rfl, sq, s⟩ := seq_of hr r e2
    exact .inl ⟨a, xs, rfl, sq, here hr hq (by rw [s.len]; exact .int _)⟩
  unfold bLen at hp
  split at hp
  · rename_i z
    split at hp
    · rename_i hz
      obtain ⟨v, rfl, r⟩ := one_of rs
      cases r
      exact .inr ⟨z, rfl, Nat.le_trans hz szl_le, here hr hp (.int _)⟩
    · exact hp.elim
  · split at hp
    · rename_i z e
      exact gen rfl e hp
    · exact hp.elim
  · exact hp.elim
theorem o_abs : OkC X W bAbs (fun xs H Q => ∃ i, xs = [V.int i] ∧ Q (.int (if i < 0 then -i else i)) H) := by
  intro L H h σ ds vs Q hr rs hp
  unfold bAbs at hp
  split at hp
  · obtain ⟨v, rfl, r⟩ := one_of rs
    cases r
    exact ⟨_, rfl, here hr hp (.int _)⟩
  · exact hp.elim
def rIntB : List V → Hp → VK → Prop := fun xs H Q => ((∃ i, xs = [V.int i] ∧ Q (.int i) H) ∨ ∃ k, xs = [V.bl k] ∧ Q (.int (if k then 1 else 0)) H) ∨ ∃ a n, xs = [.str a] ∧ PySem.intText? a = some n ∧ a.length ≤ 640 ∧ Q (.int n) H
theorem c_int : CallR X (.type "int") rIntB := call_int1.or call_int_str
theorem o_int : OkC X W bInt rIntB := by
  intro L H h σ ds vs Q hr rs hp
  unfold bInt at hp
  split at hp
  · obtain ⟨v, rfl, r⟩ := one_of rs
    cases r
    exact .inl (.inl ⟨_, rfl, here hr hp (.int _)⟩)
  · obtain ⟨v, rfl, r⟩ := one_of rs
    cases r
    exact .inl (.inr ⟨_, rfl, here hr hp (.int _)⟩)
  · rename_i z
    split at hp
    · rename_i hz
      split at hp
      · rename_i n en
        obtain ⟨v, rfl, r⟩ := one_of rs
        cases r
        exact .inr ⟨z, n, rfl, en, hz, here hr hp (.int _)⟩
      · exact hp.elim
    · exact hp.elim
  · exact hp.elim
def rStrB : List V → Hp → VK → Prop := fun xs H Q => (∃ i, xs = [V.int i] ∧ i.natAbs.log2 < 1920 ∧ Q (.str (toString i)) H) ∨ ∃ a, xs = [.str a] ∧ Q (.str a) H
theorem c_str : CallR X (.type "str") rStrB := call_str_int.or SkE.call_str_str
theorem o_str : OkC X W bStr rStrB := by
  intro L H h σ ds vs Q hr rs hp
  unfold bStr at hp
  split at hp
  · rename_i i
    split at hp
    · rename_i hz
      obtain ⟨v, rfl, r⟩ := one_of rs
      cases r
      exact .inl ⟨_, rfl, hz, here hr hp (.str _)⟩
    · exact hp.elim
  · obtain ⟨v, rfl, r⟩ := one_of rs
    cases r
    exact .inr ⟨_, rfl, here hr hp (.str _)⟩
  · exact hp.elim
theorem two_of {K : PySem.W.Frag} {L : List Addr} {H : Hp} {d e : D} {vs : List V} (r : Rels K L H [d, e] vs) : ∃ v u, vs = [v, u] ∧ Rel K L H d v ∧ Rel K L H e u := by
  cases r with
  | cons a b =>
    obtain ⟨u, rfl, q⟩ := one_of b
    exact ⟨_, u, rfl, a, q⟩
theorem o_max : OkC X W bMax (fun xs H Q => ∃ i j, xs = [V.int i, .int j] ∧ Q (.int (if j > i then j else i)) H) := by
  intro L H h σ ds vs Q hr rs hp
  unfold bMax at hp
  split at hp
  · obtain ⟨v, u, rfl, r, q⟩ := two_of rs
    cases r
    cases q
    exact ⟨_, _, rfl, here hr hp (.int _)⟩
  · exact hp.elim
theorem o_min : OkC X W bMin (fun xs H Q => ∃ i j, xs = [V.int i, .int j] ∧ Q (.int (if j < i then j else i)) H) := by
  intro L H h σ ds vs Q hr rs hp
  unfold bMin at hp
  split at hp
  · obtain ⟨v, u, rfl, r, q⟩ := two_of rs
    cases r
    cases q
    exact ⟨_, _, rfl, here hr hp (.int _)⟩
  · exact hp.elim
theorem ints_of {K : PySem.W.Frag} {L : List Addr} {H : Hp} : ∀ {ds : List D} {vs : List V} {ns : List Int}, Rels K L H ds vs → intsD ds = some ns → vs = ns.map V.int
  | _, _, _, .nil, e => by simp only [intsD, Option.some.injEq] at e; subst e; rfl
  | d :: ds, _, _, .cons r t, e => by
    cases r with
    | int i =>
      simp only [intsD, Option.map_eq_some_iff] at e
      obtain ⟨ms, e1, rfl⟩ := e
      rw [List.map_cons, ints_of t e1]
    | _ => simp [intsD] at e
theorem bls_of {K : PySem.W.Frag} {L : List Addr} {H : Hp} : ∀ {ds : List D} {vs : List V} {ns : List Bool}, Rels K L H ds vs → blsD ds = some ns → vs = ns.map V.bl
  | _, _, _, .nil, e => by simp only [blsD, Option.some.injEq] at e; subst e; rfl
  | d :: ds, _, _, .cons r t, e => by
    cases r with
    | bl i =>
      simp only [blsD, Option.map_eq_some_iff] at e
      obtain ⟨ms, e1, rfl⟩ := e
      rw [List.map_cons, bls_of t e1]
    | _ => simp [blsD] at e
theorem lst_of {K : PySem.W.Frag} {L : List Addr} {H : Hp} {h : Hv} (hr : HR K L H h) {d : D} {v : V} (r : Rel K L H d v) {z : List D} (e : lstAt d h = some z) : ∃ a xs, v = .ref a ∧ SqL K H a xs ∧ Rels K L H z xs := by
  cases r with
  | @ref i a ea =>
    simp only [lstAt] at e
    split at e
    · rename_i ds e0
      cases e
      obtain ⟨xs, q, s⟩ := hr.lst i a _ e0 ea
      exact ⟨a, xs, rfl, SqL.of q, s⟩
    · rename_i ds e0
      cases e
      obtain ⟨xs, q, s⟩ := hr.ro i a _ e0 ea
      exact ⟨a, xs, rfl, q.seq, s⟩
    · cases e
  | _ => cases e
theorem o_sum : OkC X W bSum (rSum X.K) := by
  intro L H h σ ds vs Q hr rs hp
  unfold bSum at hp
  split at hp
  · split at hp
    · rename_i ns e
      obtain ⟨v, rfl, r⟩ := one_of rs
      obtain ⟨z, e1, e2⟩ := Option.bind_eq_some_iff.mp e
      obtain ⟨a, xs, rfl, sq, s⟩ := lst_of hr r e1
      have e3 := ints_of s e2
      subst e3
      exact ⟨a, ns, rfl, sq, here hr hp (.int _)⟩
    · exact hp.elim
  · exact hp.elim
theorem o_all : OkC X W bAll (rAll X.K) := by
  intro L H h σ ds vs Q hr rs hp
  unfold bAll at hp
  split at hp
  · split at hp
    · rename_i ns e
      obtain ⟨v, rfl, r⟩ := one_of rs
      obtain ⟨z, e1, e2⟩ := Option.bind_eq_some_iff.mp e
      obtain ⟨a, xs, rfl, sq, s⟩ := lst_of hr r e1
      have e3 := bls_of s e2
      subst e3
      exact ⟨a, ns, rfl, sq, here hr hp (.bl _)⟩
    · exact hp.elim
  · exact hp.elim
theorem o_any : OkC X W bAny (rAny X.K) := by
  intro L H h σ ds vs Q hr rs hp
  unfold bAny at hp
  split at hp
  · split at hp
    · rename_i ns e
      obtain ⟨v, rfl, r⟩ := one_of rs
      obtain ⟨z, e1, e2⟩ := Option.bind_eq_some_iff.mp e
      obtain ⟨a, xs, rfl, sq, s⟩ := lst_of hr r e1
      have e3 := bls_of s e2
      subst e3
      exact ⟨a, ns, rfl, sq, here hr hp (.bl _)⟩
    · exact hp.elim
  · exact hp.elim
theorem o_tuple : OkC X W bTuple (fun xs H Q => ∃ p ys, xs = [V.ref p] ∧ ((SqL X.K H p ys ∧ ∀ l, H l = none → Q (.ref l) (upd H l (.tup ys))) ∨ (SqT X.K H p ys ∧ Q (.ref p) H))) := by
  intro L H h σ ds vs Q hr rs hp
  unfold bTuple at hp
  split at hp
  · split at hp
    · rename_i z e
      obtain ⟨v, rfl, r⟩ := one_of rs
      obtain ⟨a, xs, rfl, sq, s⟩ := seq_of hr r e
      refine ⟨a, xs, rfl, ?_⟩
      rcases sq with sq | sq
      · exact .inl ⟨sq, fun p np => hp L _ _ (LE.refl _) (Keep.new np) (hr.new np) (.tup (.inl (.inl upd_same)) (s.mono (LE.refl _) (Keep.new np)))⟩
      · exact .inr ⟨sq, here hr hp (.tup sq s)⟩
    · exact hp.elim
  · exact hp.elim
theorem kD_rel {K : PySem.W.Frag} {L : List Addr} {H : Hp} (k : DKey) : Rel K L H (kD k) (kV k) := by
  cases k
  · exact .int _
  · exact .str _
theorem KRs.keys {K : PySem.W.Frag} {L L' : List Addr} {H H' : Hp} : ∀ {kvs : List (DKey × D)} {us : List (Key × V)}, KRs K L H kvs us → Rels K L' H' (kvs.map fun kv => kD kv.1) (us.map fun kv => kV kv.1)
  | [], [], _ => .nil
  | [], q :: us, r => by have := r.len; simp at this
  | p :: kvs, [], r => by have := r.len; simp at this
  | (a, e) :: kvs, (b, u) :: us, r => by
    obtain ⟨ek, r⟩ := r
    simp only [List.map_cons, List.cons.injEq] at ek r
    obtain ⟨rfl, ek⟩ := ek
    cases r with
    | cons r t => exact .cons (kD_rel a) (KRs.keys (kvs := kvs) (us := us) ⟨ek, t⟩)
def rListB (K : PySem.W.Frag) : List V → Hp → VK → Prop := fun xs H Q => (∃ p ys, xs = [V.ref p] ∧ (SqL K H p ys ∨ SqT K H p ys) ∧ ∀ l, H l = none → Q (.ref l) (upd H l (.lst ys))) ∨ rListD xs H Q
theorem c_list (hc : X.calm = true) : CallR X (.type "list") (rListB X.K) := call_list_of.or (call_list_dK hc)
theorem o_list : OkC X W bList (rListB X.K) := by
  intro L H h σ ds vs Q hr rs hp
  unfold bList at hp
  split at hp
  · split at hp
    · rename_i z e
      obtain ⟨v, rfl, r⟩ := one_of rs
      obtain ⟨a, xs, rfl, sq, s⟩ := seq_of hr r e
      exact .inl ⟨a, xs, rfl, sq, fun p np => allocd hr s np hp⟩
    · split at hp
      · rename_i kvs e2
        obtain ⟨v, rfl, r⟩ := one_of rs
        obtain ⟨i, a, us, rfl, rfl, ea, e0, q, s⟩ := dct_of hr r e2
        exact .inr ⟨a, us, rfl, q, fun p np => allocd hr s.keys np hp⟩
      · exact hp.elim
  · exact hp.elim
end
end VM

set_option maxRecDepth 100000
set_option maxHeartbeats 1000000
namespace VM
open PySem PySem.Spec PyProof.Rows L2

/-! ends of statements -/
def pS (K : PySem.W.Frag) (mg : Str → Option Value) (L : List Addr) (H : Hp) (W : WX) (D_ : Ends) : SR → Prop
  | .nx env h' => ∀ L' H' σ', LE L L' → Keep K H H' → HR K L' H' h' → SRel K L' H' env σ' → D_.nx σ' H'
  | .bk env h' => ∀ L' H' σ', LE L L' → Keep K H H' → HR K L' H' h' → SRel K L' H' env σ' → D_.bk σ' H'
  | .ct env h' => ∀ L' H' σ', LE L L' → Keep K H H' → HR K L' H' h' → SRel K L' H' env σ' → D_.ct σ' H'
  | .rt d h' => ∀ L' H' v, LE L L' → Keep K H H' → HR K L' H' h' → Rel K L' H' d v → D_.rt v H'
  | .exc c d env h' => ∀ L' H' σ' cv dx, LE L L' → Keep K H H' → HR K L' H' h' → SRel K L' H' env σ' → ExR K mg L' H' c d cv dx → W cv dx σ' H'
  | .stuck => False
abbrev Fs := Env → Hv → SR
def tS (X : Cx) (W : WX) (f : Fs) : TS := fun D_ σ H => ∃ L h env, HR X.K L H h ∧ SRel X.K L H env σ ∧ pS X.K X.mg L H W D_ (f env h)
section
variable {K : PySem.W.Frag} {mg : Str → Option Value} {L L' : List Addr} {H H' : Hp} {h h' : Hv} {W : WX} {σ : L2.St} {D_ : Ends}
theorem pS.mono {r : SR} (p : pS K mg L H W D_ r) (le : LE L L') (kp : Keep K H H') : pS K mg L' H' W D_ r := by
  cases r with
  | nx e h1 => exact fun L2 H2 s l k => p L2 H2 s (le.trans l) (kp.trans k)
  | bk e h1 => exact fun L2 H2 s l k => p L2 H2 s (le.trans l) (kp.trans k)
  | ct e h1 => exact fun L2 H2 s l k => p L2 H2 s (le.trans l) (kp.trans k)
  | rt d h1 => exact fun L2 H2 s l k => p L2 H2 s (le.trans l) (kp.trans k)
  | exc c d e h1 => exact fun L2 H2 s cv dx l k => p L2 H2 s cv dx (le.trans l) (kp.trans k)
  | stuck => exact p
/-- an expression first -/
theorem pS.then_ {r : R D} {env : Env} {g : D → Hv → SR} {REST : VK} (sr : SRel K L H env σ) (p : pS K mg L H W D_ (r.thenS env g))
    (k : ∀ a h1 L1 H1 b, LE L L1 → Keep K H H1 → HR K L1 H1 h1 → Rel K L1 H1 a b → pS K mg L1 H1 W D_ (g a h1) → REST b H1) : pR K mg L H W σ REST r := by
  cases r with
  | ok a h1 => exact fun L1 H1 b le kp hr rl => k a h1 L1 H1 b le kp hr rl (pS.mono p le kp)
  | exc c d h1 => exact fun L1 H1 cv dx le kp hr ex => p L1 H1 σ cv dx le kp hr (sr.mono le kp) ex
  | stuck => exact p
theorem pS.thenT {r : R D} {env : Env} {g : D → Hv → SR} {REST : Bool → Hp → Prop} (sr : SRel K L H env σ) (p : pS K mg L H W D_ (r.thenS env g)) (st : ∀ d h, (∀ b, d ≠ .bl b) → g d h = .stuck)
    (k : ∀ b h1 L1 H1, LE L L1 → Keep K H H1 → HR K L1 H1 h1 → pS K mg L1 H1 W D_ (g (.bl b) h1) → REST b H1) : pT K mg L H W σ REST r := by
  cases r with
  | ok d h1 =>
    have p' : pS K mg L H W D_ (g d h1) := p
    cases d with
    | bl b => exact fun L1 H1 le kp hr => k b h1 L1 H1 le kp hr (p'.mono le kp)
    | _ => exact absurd p' (by rw [st _ h1 (by intro b z; cases z)]; exact id)
  | exc c d h1 => exact fun L1 H1 cv dx le kp hr ex => p L1 H1 σ cv dx le kp hr (sr.mono le kp) ex
  | stuck => exact p
end

/-! targets -/
def Off (fp : List Nat) (σ σ' : L2.St) : Prop := σ'.length = σ.length ∧ ∀ j, j ∉ fp → σ'[j]? = σ[j]?
theorem Off.trans {fp fq : List Nat} {σ σ1 σ2 : L2.St} (a : Off fp σ σ1) (b : Off fq σ1 σ2) : Off (fp ++ fq) σ σ2 :=
  ⟨b.1.trans a.1, fun j hj => (b.2 j fun z => hj (List.mem_append_right _ z)).trans (a.2 j fun z => hj (List.mem_append_left _ z))⟩
def tG (K : PySem.W.Frag) (fp : List Nat) (f : TF) : TG := fun v σ H Q => ∃ L h env d env', HR K L H h ∧ SRel K L H env σ ∧ Rel K L H d v ∧ f d env h = some env' ∧ ∀ σ', SRel K L H env' σ' → Off fp σ σ' → Q σ' H
def tGs (K : PySem.W.Frag) (fp : List Nat) (fs : List TF) : TGs := fun vs σ H Q => ∃ L h env ds env', HR K L H h ∧ SRel K L H env σ ∧ Rels K L H ds vs ∧ tgsT fs ds env h = some env' ∧ ∀ σ', SRel K L H env' σ' → Off fp σ σ' → Q σ' H
theorem PG.weak {X : Cx} {e : Expr} {t t' : TG} (h : PG X e t) (w : ∀ v σ H Q, t' v σ H Q → t v σ H Q) : PG X e t' := ⟨fun pins s σ H v u Q I r q => h.run pins s σ H v u Q I r (w v σ H Q q)⟩
theorem PGs.weak {X : Cx} {e : List Expr} {t t' : TGs} (h : PGs X e t) (w : ∀ v σ H Q, t' v σ H Q → t v σ H Q) : PGs X e t' := ⟨fun pins s σ H v u Q I r q => h.run pins s σ H v u Q I r (w v σ H Q q)⟩
section
variable {X : Cx} {W : WX} {pos : Pos}
theorem g_name {i : Nat} {x : Str} (hN : X.N.Nodup) (hi : X.N[i]? = some x) (hx : Loc X.env.scope x) (hf : X.fn x = true ∨ X.env.scope.names.lookup x = some .local) : PG X (.Name x pos) (tG X.K [i] (nmT i)) :=
  PG.weak (pg_name hN hi hx hf) fun v σ H Q ⟨L, h, env, d, env', hr, sr, r, e, q⟩ => by
    unfold nmT at e
    split at e
    · cases e
      exact q _ (sr.set r) ⟨List.length_set .., fun j hj => List.getElem?_set_ne (fun z => hj (by simp [z]))⟩
    · cases e
theorem gs_nil : PGs X [] (tGs X.K [] []) := PGs.weak pgs_nil fun v σ H Q ⟨L, h, env, ds, env', hr, sr, r, e, q⟩ => by
  cases r with
  | nil =>
    have e2 : some env = some env' := e
    cases e2
    exact ⟨rfl, q σ sr ⟨rfl, fun _ _ => rfl⟩⟩
  | cons _ _ => cases e
theorem gs_cons {e : Expr} {es : List Expr} {fp fq : List Nat} {f : TF} {fs : List TF} (h1 : PG X e (tG X.K fp f)) (h2 : PGs X es (tGs X.K fq fs)) (hs : (assignEach (e :: es) X.env).map (·.2) = assign e X.env :: (assignEach es X.env).map (·.2)) :
    PGs X (e :: es) (tGs X.K (fp ++ fq) (f :: fs)) := PGs.weak (pgs_cons h1 h2 hs) fun v σ H Q ⟨L, h, env, ds, env', hr, sr, r, e, q⟩ => by
  cases r with
  | nil => cases e
  | @cons d ds u us rd rs =>
    have e2 : (match f d env h with
      | some env1 => tgsT fs ds env1 h
      | none => none) = some env' := e
    split at e2
    · rename_i env1 e1
      exact ⟨u, us, rfl, L, h, env, d, env1, hr, sr, rd, e1, fun σ1 s1 o1 => ⟨L, h, env1, ds, env', hr, s1, rs, e2, fun σ2 s2 o2 => q σ2 s2 (o1.trans o2)⟩⟩
    · cases e2
theorem g_tup {es : List Expr} {k : Nat} {fp : List Nat} {fs : List TF} (hc : X.calm = true) (h : PGs X es (tGs X.K fp fs)) (hn : (assignEach es X.env).length = fs.length) (hst : (assignEach es X.env).findIdx? (·.1) = none) : PG X (.Tuple es k pos) (tG X.K fp (tupT fs)) := by
  have len : ∀ (fs : List TF) (ds : List D) (env env' : Env) (h : Hv), tgsT fs ds env h = some env' → ds.length = fs.length := by
    intro fs
    induction fs with
    | nil => intro ds env env' h e; cases ds with | nil => rfl | cons _ _ => cases e
    | cons f fs ih =>
      intro ds env env' h e
      cases ds with
      | nil => cases e
      | cons d ds =>
        simp only [tgsT] at e
        split at e
        · simp only [List.length_cons]; rw [ih _ _ _ _ e]
        · cases e
  refine ⟨fun pins s σ H v u Q I r hq => ?_⟩
  obtain ⟨L, h0, env, d, env', hr, sr, rd, e, q⟩ := hq
  cases rd with
  | @tup ds a xs ha ra =>
    have e2 : tgsT fs ds env h0 = some env' := e
    exact (pg_tup hc h hn hst).run pins s σ H _ u Q I r ⟨a, xs, rfl, ha, by rw [← ra.len]; exact len _ _ _ _ _ e2, L, h0, env, ds, env', hr, sr, ra, e2, q⟩
  | @ref i a ea =>
    simp only [tupT] at e
    split at e
    · rename_i ds e0
      obtain ⟨xs, q1, ra⟩ := hr.lst i a ds e0 ea
      exact (pg_lst hc h hn hst).run pins s σ H _ u Q I r ⟨a, xs, rfl, SqL.of q1, by rw [← ra.len]; exact len _ _ _ _ _ e, L, h0, env, ds, env', hr, sr, ra, e, q⟩
    · cases e
  | _ => cases e

/-! statements -/
variable {e c : Expr} {st : Stmt} {sts bs cs : List Stmt}
theorem s_nil : PSs X [] (tS X W fun env h => .nx env h) := PSs.weak pss_nil fun D_ σ H ⟨L, h, env, hr, sr, hp⟩ => hp L H σ (LE.refl _) (Keep.refl _) hr sr
theorem s_cons (C : Or) {f g : SF} (h1 : PS X st (tS X W (f C))) (h2 : PSs X sts (tS X W (g C))) : PSs X (st :: sts) (tS X W (seqS f g C)) :=
  PSs.weak (pss_cons h1 h2) fun D_ σ H ⟨L, h, env, hr, sr, hp⟩ => ⟨L, h, env, hr, sr, by
    unfold seqS at hp
    split at hp
    · rename_i env1 h1 e1
      rw [e1]
      exact fun L1 H1 σ1 le kp hr1 sr1 => ⟨L1, h1, env1, hr1, sr1, pS.mono hp le kp⟩
    · rename_i q
      cases z : f C env h with
      | nx e1 h1 => exact absurd z (q e1 h1)
      | bk _ _ => rw [z] at hp; exact hp
      | ct _ _ => rw [z] at hp; exact hp
      | rt _ _ => rw [z] at hp; exact hp
      | exc _ _ _ _ => rw [z] at hp; exact hp
      | stuck => rw [z] at hp; exact hp⟩
theorem s_pass (C : Or) : PS X (.Pass pos) (tS X W (nxS C)) := PS.weak ps_pass fun D_ σ H ⟨L, h, env, hr, sr, hp⟩ => hp L H σ (LE.refl _) (Keep.refl _) hr sr
theorem s_break (C : Or) : PS X (.Break pos) (tS X W (bkS C)) := PS.weak ps_break fun D_ σ H ⟨L, h, env, hr, sr, hp⟩ => hp L H σ (LE.refl _) (Keep.refl _) hr sr
theorem s_cont (C : Or) : PS X (.Continue pos) (tS X W (ctS C)) := PS.weak ps_continue fun D_ σ H ⟨L, h, env, hr, sr, hp⟩ => hp L H σ (LE.refl _) (Keep.refl _) hr sr
theorem s_exp (C : Or) {f : EF} (he : PE X e (tE X W (f C))) (hs : swapsWith e none pos.line X.env = pure false) : PS X (.Expr e pos) (tS X W (expS f C)) :=
  PS.weak (ps_expr he hs) fun D_ σ H ⟨L, h, env, hr, sr, hp⟩ => ⟨L, h, env, hr, sr, pS.then_ sr hp fun d h1 L1 H1 v le kp hr1 r1 hp1 => hp1 L1 H1 σ (LE.refl _) (Keep.refl _) hr1 (sr.mono le kp)⟩
theorem s_ret (C : Or) {f : EF} (he : PE X e (tE X W (f C))) : PS X (.Return (some e) pos) (tS X W (retS f C)) :=
  PS.weak (ps_ret he) fun D_ σ H ⟨L, h, env, hr, sr, hp⟩ => ⟨L, h, env, hr, sr, pS.then_ sr hp fun d h1 L1 H1 v le kp hr1 r1 hp1 => hp1 L1 H1 v (LE.refl _) (Keep.refl _) hr1 r1⟩
theorem s_retN (C : Or) : PS X (.Return none pos) (tS X W (retN C)) := PS.weak ps_retN fun D_ σ H ⟨L, h, env, hr, sr, hp⟩ => hp L H .non (LE.refl _) (Keep.refl _) hr .non
theorem s_if (C : Or) {fc : EF} {f g : SF} (hc : PT X c (tB X W (fc C))) (h1 : PSs X bs (tS X W (f C))) (h2 : PSs X cs (tS X W (g C))) : PS X (.If c bs cs pos) (tS X W (ifS fc f g C)) :=
  PS.weak (ps_if hc h1 h2) fun D_ σ H ⟨L, h, env, hr, sr, hp⟩ => ⟨L, h, env, hr, sr, pS.thenT sr hp (fun d h n => by cases d <;> first | rfl | exact absurd rfl (n _)) fun b h1 L1 H1 le kp hr1 hp1 => by
    cases b with
    | true => exact ⟨L1, h1, env, hr1, sr.mono le kp, hp1⟩
    | false => exact ⟨L1, h1, env, hr1, sr.mono le kp, hp1⟩⟩
/-- the wish of an assignment -/
theorem asg_ {t : TF} {fp : List Nat} (C : Or) {f : EF} {D_ : Ends} {σ : L2.St} {H : Hp} (q : tS X W (asgS t f C) D_ σ H) : tE X W (f C) σ H fun x H1 => tG X.K fp t x σ H1 D_.nx := by
  obtain ⟨L, h, env, hr, sr, hp⟩ := q
  refine ⟨L, h, env, hr, sr, pS.then_ sr hp fun d h1 L1 H1 v le kp hr1 r1 hp1 => ?_⟩
  split at hp1
  · rename_i env1 e1
    exact ⟨L1, h1, env, d, env1, hr1, sr.mono le kp, r1, e1, fun σ' sr' _ => hp1 L1 H1 σ' (LE.refl _) (Keep.refl _) hr1 sr'⟩
  · exact hp1.elim
theorem s_asg {tg : Expr} {t : TF} {fp : List Nat} (C : Or) {f : EF} (he : PE X e (tE X W (f C))) (hg : PG X tg (tG X.K fp t)) (hs : swapsWithSole [tg] e pos.line X.env = pure false) (hw : swappedStores [tg] e X.env = pure none)
    (h1 : (assignEach [tg] X.env).map (·.2) = [assign tg X.env]) : PS X (.Assign [tg] e pos) (tS X W (asgS t f C)) := PS.weak (ps_asg he hg hs hw h1) fun D_ σ H q => asg_ C q
theorem s_set {i : Nat} {x : Str} {pos' : Pos} (C : Or) {f : EF} (hN : X.N.Nodup) (hi : X.N[i]? = some x) (hx : Loc X.env.scope x) (he : PE X e (tE X W (f C))) (hs : swapsWith e (some (.Name x pos')) pos.line X.env = pure false) (hf : X.fn x = true ∨ X.env.scope.names.lookup x = some .local) :
    PS X (.Assign [.Name x pos'] e pos) (tS X W (asgS (nmT i) f C)) := PS.weak (ps_set hN hi hx he hs hf) fun D_ σ H ⟨L, h, env, hr, sr, hp⟩ => ⟨L, h, env, hr, sr, pS.then_ sr hp fun d h1 L1 H1 v le kp hr1 r1 hp1 => by
  unfold nmT at hp1
  split at hp1
  · rename_i env1 e1
    split at e1
    · cases e1
      exact hp1 L1 H1 _ (LE.refl _) (Keep.refl _) hr1 ((sr.mono le kp).set r1)
    · cases e1
  · exact hp1.elim⟩
theorem s_par {i j : Nat} {x y : Str} {a b : Expr} {px py pt : Pos} {kt k2 : Nat} {pt2 : Pos} (C : Or) {fa fb : EF} (hc : X.calm = true) (hN : X.N.Nodup) (hi : X.N[i]? = some x) (hj : X.N[j]? = some y) (hij : i ≠ j)
    (hx : X.env.scope.names.lookup x = some .local) (hy : X.env.scope.names.lookup y = some .local) (ha : PE X a (tE X W (fa C))) (hb : PE X b (tE X W (fb C)))
    (s1 : starEach (a :: [b]) X.env = (false, eval a X.env) :: starEach [b] X.env) (s2 : starEach (b :: []) X.env = (false, eval b X.env) :: starEach [] X.env)
    (hw : swappedStores [.Tuple [.Name x px, .Name y py] kt pt] (.Tuple [a, b] k2 pt2) X.env = pure (some [x, y]))
    (hs : swapsWithSole [.Tuple [.Name x px, .Name y py] kt pt] (.Tuple [a, b] k2 pt2) pos.line X.env = pure false) :
    PS X (.Assign [.Tuple [.Name x px, .Name y py] kt pt] (.Tuple [a, b] k2 pt2) pos) (tS X W (parS i j fa fb C)) :=
  PS.weak (ps_par hc hN hi hj hij hx hy (pa_cons ha (pa_cons hb pa_nil s2) s1) hw hs) fun D_ σ H ⟨L, h, env, hr, sr, hp⟩ => ⟨L, h, env, hr, sr, pS.then_ sr hp fun d h1 L1 H1 v le kp hr1 r1 hp1 => ⟨L1, h1, env, hr1, sr.mono le kp, pS.then_ (sr.mono le kp) hp1 fun d2 h2 L2 H2 v2 le2 kp2 hr2 r2 hp2 => by
    split at hp2
    · exact ⟨v, v2, rfl, hp2 L2 H2 _ (LE.refl _) (Keep.refl _) hr2 ((((sr.mono le kp).mono le2 kp2).set (r1.mono le2 kp2)).set r2)⟩
    · exact hp2.elim⟩⟩
/-- o[i] = e -/
theorem s_setL {o i : Expr} {tpos : Pos} (C : Or) {fo fi f : EF} (he : PE X e (tE X W (f C))) (ho : PE X o (tE X W (fo C))) (hi : PE X i (tE X W (fi C)))
    (ha : ∀ v, assign (.Subscript o i tpos) X.env v = (do
      let ov ← holding [v] (eval o X.env)
      let iv ← holding [v, ov] (eval i X.env)
      standAt tpos
      holding [v, ov, iv] (setItem ov iv v)
      release [v, ov, iv] [])) (hs : swapsWithSole [.Subscript o i tpos] e pos.line X.env = pure false) (hw : swappedStores [.Subscript o i tpos] e X.env = pure none)
    (h1 : (assignEach [.Subscript o i tpos] X.env).map (·.2) = [assign (.Subscript o i tpos) X.env]) : PS X (.Assign [.Subscript o i tpos] e pos) (tS X W (setS fo fi f C)) :=
  PS.weak (ps_asg he (pg_sub ho hi set_any ha) hs hw h1) fun D_ σ H ⟨L, h, env, hr, sr, hp⟩ => ⟨L, h, env, hr, sr, pS.then_ sr hp fun d h1 L1 H1 v le kp hr1 r1 hp1 => ⟨L1, h1, env, hr1, sr.mono le kp, pS.then_ (sr.mono le kp) hp1 fun x h2 L2 H2 vx le2 kp2 hr2 r2 hp2 =>
    ⟨L2, h2, env, hr2, (sr.mono le kp).mono le2 kp2, pS.then_ ((sr.mono le kp).mono le2 kp2) hp2 fun k h3 L3 H3 vk le3 kp3 hr3 r3 hp3 => by
      split at hp3
      · rename_i h4 e4
        have r1' := (r1.mono le2 kp2).mono le3 kp3
        have r2' := r2.mono le3 kp3
        cases r2' with
        | @ref p a ea =>
          simp only [setL] at e4
          split at e4
          · rename_i ds e0
            cases r3 with
            | int z =>
              simp only at e4
              split at e4
              · rename_i j ej
                cases e4
                obtain ⟨xs, q, s⟩ := hr3.lst p a ds e0 ea
                exact .inl ⟨a, xs, z, j, rfl, rfl, q, by rw [← s.len]; exact ej, hp3 L3 _ σ (LE.refl _) (Keep.setL q) (hr3.set e0 ea (s.set r1' j)) ((((sr.mono le kp).mono le2 kp2).mono le3 kp3).mono (LE.refl _) (Keep.setL q))⟩
              · cases e4
            | _ => cases e4
          · rename_i kvs e0
            split at e4
            · rename_i key ek
              split at e4
              · rename_i hl
                cases e4
                obtain ⟨us, q, s⟩ := hr3.dct p a kvs e0 ea
                exact .inr ⟨a, us, key, rfl, q, key_rel r3 ek, Nat.lt_of_lt_of_le (by rw [← s.len]; exact hl) szl_le, hp3 L3 _ σ (LE.refl _) (Keep.setD q) (hr3.setD e0 ea (s.put key r1')) ((((sr.mono le kp).mono le2 kp2).mono le3 kp3).mono (LE.refl _) (Keep.setD q))⟩
              · cases e4
            · cases e4
          · cases e4
        | _ => cases e4
      · exact hp3.elim⟩⟩⟩

/-! what is walked -/
theorem guards_at {gs : Guards} {h : Hv} (g : guardsOk gs h = true) {i : Nat} {ds : List D} (m : (i, ds) ∈ gs) : h[i]? = some (.lst ds) ∨ h[i]? = some (.ro ds) := of_decide_eq_true (List.all_eq_true.mp g _ m)
def WalkOk (K : PySem.W.Frag) (L0 : List Addr) (H0 : Hp) (J : It) (items : List D) (gs : Guards) : Prop := ∀ L H h i, LE L0 L → Keep K H0 H → HR K L H h → guardsOk gs h = true →
  (∀ d, items[i]? = some d → J.go i H ∧ ∀ x H', J.yld i H x H' → Keep K H H' ∧ HR K L H' h ∧ Rel K L H' d x) ∧ (i = items.length → J.stop i H)
def tI (X : Cx) (W : WX) (f : Env → Hv → R (List D × Guards)) : TI := fun σ H Q => ∃ L h env, HR X.K L H h ∧ SRel X.K L H env σ ∧ pRg (fun L H (z : List D × Guards) J => WalkOk X.K L H J z.1 z.2) X.K X.mg L H W σ Q (f env h)
theorem PI.weak {X : Cx} {tg e : Expr} {t t' : TI} (h : PI X tg e t) (w : ∀ σ H Q, t' σ H Q → t σ H Q) : PI X tg e t' := ⟨fun pins s σ H Q I q => h.run pins s σ H Q I (w σ H Q q)⟩
theorem walk_tupW {K : PySem.W.Frag} {L : List Addr} {H : Hp} {a : Addr} {ds : List D} {xs : List V} (ha : SqT K H a xs) (r : Rels K L H ds xs) : WalkOk K L H (Itt K a) ds [] := by
  intro L1 H1 h i le kp hr _
  refine ⟨fun d e => ?_, fun e => ?_⟩
  · obtain ⟨v, e1, rv⟩ := r.get e
    refine ⟨⟨xs, v, kp.tup _ _ ha, e1⟩, fun x H' y => ?_⟩
    obtain ⟨rfl, f⟩ := y
    have e2 := f xs (kp.tup _ _ ha)
    rw [e1] at e2
    cases e2
    exact ⟨Keep.refl _, hr, rv.mono le kp⟩
  · exact ⟨xs, kp.tup _ _ ha, by rw [e, r.len]; exact Nat.le_refl _⟩
theorem walk_lstW {K : PySem.W.Frag} {L : List Addr} {H : Hp} {a : Addr} {p : Nat} {ds : List D} (ea : L[p]? = some a) : WalkOk K L H (Itl K a) ds [(p, ds)] := by
  intro L1 H1 h i le kp hr g
  have at_ : ∃ xs, SqL K H1 a xs ∧ Rels K L1 H1 ds xs := by
    rcases guards_at g (List.mem_cons_self ..) with z | z
    · obtain ⟨xs, q, r⟩ := hr.lst p a ds z (le _ _ ea)
      exact ⟨xs, SqL.of q, r⟩
    · obtain ⟨xs, q, r⟩ := hr.ro p a ds z (le _ _ ea)
      exact ⟨xs, q.seq, r⟩
  obtain ⟨xs, sq, r⟩ := at_
  refine ⟨fun d e => ?_, fun e => ⟨xs, sq, by rw [e, r.len]; exact Nat.le_refl _⟩⟩
  obtain ⟨v, e1, rv⟩ := r.get e
  refine ⟨⟨xs, v, sq, e1⟩, fun x H' y => ?_⟩
  obtain ⟨rfl, f⟩ := y
  have e2 := f xs sq
  rw [e1] at e2
  cases e2
  exact ⟨Keep.refl _, hr, rv⟩
theorem rng_get {lo : Int} {n i : Nat} {d : D} (e : (rng lo n)[i]? = some d) : i < n ∧ d = .int (lo + (i : Nat)) := by
  unfold rng at e
  rw [List.getElem?_map] at e
  cases q : (List.range n)[i]? with
  | none => rw [q] at e; cases e
  | some j =>
    rw [q] at e
    obtain ⟨h1, h2⟩ := List.getElem?_eq_some_iff.mp q
    rw [List.getElem_range] at h2
    subst h2
    exact ⟨by simpa using h1, (Option.some.inj e).symm⟩
theorem walk_rngW {K : PySem.W.Frag} {L : List Addr} {H : Hp} {lo : Int} {n : Nat} : WalkOk K L H (Itr lo n) (rng lo n) [] := by
  intro L1 H1 h i le kp hr g
  refine ⟨fun d e => ?_, fun e => by rw [e]; unfold rng; rw [List.length_map, List.length_range]; exact Nat.le_refl _⟩
  obtain ⟨hi, rfl⟩ := rng_get e
  refine ⟨hi, fun x H' y => ?_⟩
  obtain ⟨rfl, rfl⟩ := y
  exact ⟨Keep.refl _, hr, .int _⟩
theorem walk_strW {K : PySem.W.Frag} {L : List Addr} {H : Hp} {z : Str} : WalkOk K L H (Its z) (signsD z) [] := by
  have ln : (signsD z).length = z.cps.size := by simp [signsD]
  have at_ : ∀ i : Nat, (signsD z)[i]? = (z.cps[i]?).map fun c => D.str ⟨#[c]⟩ := fun i => by
    unfold signsD
    rw [List.getElem?_map, Array.getElem?_toList]
  intro L1 H1 h i le kp hr g
  refine ⟨fun d e => ?_, fun e => by rw [e, ln]; exact Nat.le_refl _⟩
  rw [at_, Option.map_eq_some_iff] at e
  obtain ⟨c, e1, rfl⟩ := e
  refine ⟨by obtain ⟨h1, _⟩ := Array.getElem?_eq_some_iff.mp e1; exact h1, fun x H' y => ?_⟩
  obtain ⟨rfl, c', e2, rfl⟩ := y
  rw [e1] at e2
  cases e2
  exact ⟨Keep.refl _, hr, .str _⟩
theorem i_e {tg : Expr} (C : Or) {f : EF} (he : PE X e (tE X W (f C))) : PI X tg e (tI X W (itE f C)) := by
  refine ⟨fun pins s σ H R_ I q => ?_⟩
  obtain ⟨L, h, env, hr, sr, hp⟩ := q
  have go : tE X W (f C) σ H fun x H1 => (∃ a, x = .ref a ∧ ((∃ xs, SqL X.K H1 a xs ∧ R_ (Itl X.K a) H1) ∨ ∃ xs, SqT X.K H1 a xs ∧ R_ (Itt X.K a) H1)) ∨ ∃ z, x = .str z ∧ R_ (Its z) H1 := by
    refine ⟨L, h, env, hr, sr, pRg.then_ hp fun d h1 L1 H1 v le kp hr1 r1 hp1 => ?_⟩
    split at hp1
    · rename_i z ez
      cases r1 with
      | @tup ds a xs ha ra =>
        cases ez
        exact .inl ⟨a, rfl, .inr ⟨xs, ha, hp1 L1 H1 _ (LE.refl _) (Keep.refl _) hr1 (walk_tupW ha ra)⟩⟩
      | @ref p a ea =>
        simp only [seqOf] at ez
        split at ez
        · rename_i ds e0
          cases ez
          obtain ⟨xs, q, s⟩ := hr1.lst p a ds e0 ea
          exact .inl ⟨a, rfl, .inl ⟨xs, SqL.of q, hp1 L1 H1 _ (LE.refl _) (Keep.refl _) hr1 (walk_lstW ea)⟩⟩
        · rename_i ds e0
          cases ez
          obtain ⟨xs, q, s⟩ := hr1.ro p a ds e0 ea
          exact .inl ⟨a, rfl, .inl ⟨xs, q.seq, hp1 L1 H1 _ (LE.refl _) (Keep.refl _) hr1 (walk_lstW ea)⟩⟩
        · cases ez
      | _ => cases ez
    · split at hp1
      · rename_i z _
        split at hp1
        · cases r1
          exact .inr ⟨z, rfl, hp1 L1 H1 _ (LE.refl _) (Keep.refl _) hr1 walk_strW⟩
        · exact hp1.elim
      · exact hp1.elim
  refine thn (he.run pins s σ H _ I go) fun v s1 ⟨x, H1, I1, r1, q0⟩ => ?_
  rcases q0 with ⟨a, ex, q1⟩ | ⟨z, ez, q1⟩
  rotate_left
  · subst ez
    obtain ⟨t, rfl⟩ := r1
    cases ha : z.cps.all (· < 128)
    · exact wpAny_pyIter_wide ha (pi_one (tk := s1.toks) I1 _ (turn_str _ z t "str_iterator" (.inr rfl)) ⟨_, Heap.get?_push_size _ rfl, rfl, rfl⟩ q1)
    · exact wpAny_pyIter_ascii ha (pi_one (tk := s1.toks) I1 _ (turn_str _ z t "str_ascii_iterator" (.inl rfl)) ⟨_, Heap.get?_push_size _ rfl, rfl, rfl⟩ q1)
  subst ex
  rcases q1 with ⟨xs, sq, q1⟩ | ⟨xs, sq, q1⟩
  · have t : PI X tg e (iList X.K fun _ H Q => H = H1 ∧ Q (.ref a) H) → True := fun _ => trivial
    cases r1
    obtain ⟨its, rv, pl, hz⟩ := I1.list sq
    refine wpAny_pyIter_list pl.isList ?_
    refine ⟨s1.heap.objs.size, [s1.heap.objs.size], _, _, H1, rfl, I1.kept (t' := s1.toks) fun b o e => Heap.get?_push_of_some _ e, turn_list a _, ⟨_, Heap.get?_push_size _ rfl, rfl, rfl⟩, fun b hb => ?_, q1⟩
    obtain rfl : b = s1.heap.objs.size := by simpa using hb
    exact I1.fpOk (Nat.le_refl _) (I1.hok.fresh (Nat.le_refl _))
  · cases r1
    obtain ⟨its, rv, pl, hz⟩ := I1.tuple sq
    refine wpAny_pyIter_tuple (show s1.heap.IsTuple a its.toArray from pl) ?_
    refine ⟨s1.heap.objs.size, [s1.heap.objs.size], _, _, H1, rfl, I1.kept (t' := s1.toks) fun b o e => Heap.get?_push_of_some _ e, turn_tuple a _, ⟨_, Heap.get?_push_size _ rfl, rfl, rfl⟩, fun b hb => ?_, q1⟩
    obtain rfl : b = s1.heap.objs.size := by simpa using hb
    exact I1.fpOk (Nat.le_refl _) (I1.hok.fresh (Nat.le_refl _))
theorem i_r1 {tg a : Expr} {p : Pos} (C : Or) {fa : EF} (hg : Gl X "range") (hm : X.mg "range" = none) (ha : PE X a (tE X W (fa C))) (s1 : starEach [a] X.env = (false, eval a X.env) :: starEach [] X.env) : PI X tg (.Call (.Name "range" p) [a] [] pos) (tI X W (it1F fa C)) :=
  PI.weak (pi_range1 hg hm (pa_cons ha pa_nil s1) (by rw [s1]; rfl)) fun σ H Q ⟨L, h, env, hr, sr, hp⟩ => ⟨L, h, env, hr, sr, pRg.then_ hp fun d h1 L1 H1 v le kp hr1 r1 hp1 => by
    cases r1 with
    | int j =>
      simp only at hp1
      split at hp1
      · rename_i hz
        exact ⟨j, rfl, by omega, by omega, hp1 L1 H1 _ (LE.refl _) (Keep.refl _) hr1 walk_rngW⟩
      · exact hp1.elim
    | _ => exact hp1.elim⟩
theorem i_r2 {tg a b : Expr} {p : Pos} (C : Or) {fa fb : EF} (hg : Gl X "range") (hm : X.mg "range" = none) (ha : PE X a (tE X W (fa C))) (hb : PE X b (tE X W (fb C))) (s1 : starEach [a, b] X.env = (false, eval a X.env) :: starEach [b] X.env) (s2 : starEach [b] X.env = (false, eval b X.env) :: starEach [] X.env) :
    PI X tg (.Call (.Name "range" p) [a, b] [] pos) (tI X W (it2F fa fb C)) :=
  PI.weak (pi_range2 hg hm (pa_cons ha (pa_cons hb pa_nil s2) s1) (by rw [s1, s2]; rfl) (by rw [s2]; rfl)) fun σ H Q ⟨L, h, env, hr, sr, hp⟩ => ⟨L, h, env, hr, sr, pRg.then_ hp fun d h1 L1 H1 v le kp hr1 r1 hp1 => ⟨L1, h1, env, hr1, sr.mono le kp, pRg.then_ hp1 fun d2 h2 L2 H2 v2 le2 kp2 hr2 r2 hp2 => by
    cases r1 with
    | int i =>
      cases r2 with
      | int j =>
        simp only at hp2
        split at hp2
        · rename_i hz
          exact ⟨i, j, rfl, ⟨by omega, by omega, by omega, by omega⟩, hp2 L2 H2 _ (LE.refl _) (Keep.refl _) hr2 walk_rngW⟩
        · exact hp2.elim
      | _ => exact hp2.elim
    | _ => exact hp2.elim⟩⟩
end
end VM

set_option maxRecDepth 100000
set_option maxHeartbeats 1000000
namespace VM
open PySem PySem.Spec PyProof.Rows L2
section
variable {X : Cx} {W : WX} {pos : Pos} {bs : List Stmt} {c : Expr}
/-- the walked thing first -/
theorem pS.thenI {K : PySem.W.Frag} {mg : Str → Option Value} {L : List Addr} {H : Hp} {σ : L2.St} {D_ : Ends} {r : R (List D × Guards)} {env : Env} {g : List D × Guards → Hv → SR} {REST : It → Hp → Prop} (sr : SRel K L H env σ) (p : pS K mg L H W D_ (r.thenI env g))
    (k : ∀ z h1 L1 H1 J, LE L L1 → Keep K H H1 → HR K L1 H1 h1 → WalkOk K L1 H1 J z.1 z.2 → pS K mg L1 H1 W D_ (g z h1) → REST J H1) : pRg (fun L H (z : List D × Guards) J => WalkOk K L H J z.1 z.2) K mg L H W σ REST r := by
  cases r with
  | ok a h1 => exact fun L1 H1 J le kp hr wk => k a h1 L1 H1 J le kp hr wk (pS.mono p le kp)
  | exc c d h1 => exact fun L1 H1 cv dx le kp hr ex => p L1 H1 σ cv dx le kp hr (sr.mono le kp) ex
  | stuck => exact p
theorem s_for {tg iter : Expr} {t : TF} {fp : List Nat} (C : Or) {fi : IF} {f : SF} (hp0 : PassesOwn (model X.prog X.w) X.A X.env X.xe) (hc : X.calm = true) (hi : PI X tg iter (tI X W (fi C))) (hg : PG X tg (tG X.K fp t)) (hb : PSs X bs (tS X W (f C)))
    (hs : ∀ x, foldedSetIterable iter X.env x = pure x) : PS X (.For tg iter bs [] pos) (tS X W (forS fi t f C)) := by
  refine PS.weak (ps_for hp0 hc hi hg hb hs) fun D_ σ H ⟨L, h, env, hr, sr, hp⟩ => ⟨L, h, env, hr, sr, pS.thenI sr hp fun z h1 L1 H1 J le kp hr1 wk hp1 => ?_⟩
  refine ⟨fun i m σ' H' => m = z.1.length - i ∧ i ≤ z.1.length ∧ ∃ L' h' env', LE L1 L' ∧ Keep X.K H1 H' ∧ HR X.K L' H' h' ∧ SRel X.K L' H' env' σ' ∧ pS X.K X.mg L' H' W D_ (forL C t (f) z.2 (z.1.drop i) env' h'), ⟨z.1.length, by simp, Nat.zero_le _, L1, h1, env, LE.refl _, Keep.refl _, hr1, sr.mono le kp, by rw [List.drop_zero]; exact hp1⟩, ?_⟩
  rintro i m σ' H' ⟨rfl, hi, L2, h2, env2, le2, kp2, hr2, sr2, hp2⟩
  by_cases hlt : i < z.1.length
  · rw [List.drop_eq_getElem_cons hlt] at hp2
    simp only [forL] at hp2
    split at hp2
    · rename_i gd
      obtain ⟨w1, _⟩ := wk L2 H' h2 i le2 kp2 hr2 gd
      obtain ⟨go, yl⟩ := w1 _ (List.getElem?_eq_getElem hlt)
      split at hp2
      · rename_i env3 e3
        refine .inr ⟨go, fun σ4 H4 => ∃ L' h' env', LE L1 L' ∧ Keep X.K H1 H4 ∧ HR X.K L' H4 h' ∧ SRel X.K L' H4 env' σ4 ∧ pS X.K X.mg L' H4 W D_ (forL C t (f) z.2 (z.1.drop (i + 1)) env' h'), fun σ4 H4 q => ⟨z.1.length - (i + 1), by omega, rfl, hlt, q⟩, fun x H3 y => ?_⟩
        obtain ⟨kp3, hr3, rx⟩ := yl x H3 y
        refine ⟨L2, h2, env2, _, env3, hr3, sr2.mono (LE.refl _) kp3, rx, e3, fun σ4 sr4 _ => ⟨L2, h2, env3, hr3, sr4, ?_⟩⟩
        have hp3 := pS.mono hp2 (LE.refl _) kp3
        cases q : f C env3 h2 with
        | nx env5 h5 =>
          rw [q] at hp3
          exact fun L5 H5 σ5 le5 kp5 hr5 sr5 => ⟨L5, h5, env5, le2.trans le5, (kp2.trans kp3).trans kp5, hr5, sr5, pS.mono hp3 le5 kp5⟩
        | ct env5 h5 =>
          rw [q] at hp3
          exact fun L5 H5 σ5 le5 kp5 hr5 sr5 => ⟨L5, h5, env5, le2.trans le5, (kp2.trans kp3).trans kp5, hr5, sr5, pS.mono hp3 le5 kp5⟩
        | bk env5 h5 => rw [q] at hp3; exact hp3
        | rt d h5 => rw [q] at hp3; exact hp3
        | exc c d e h5 => rw [q] at hp3; exact hp3
        | stuck => rw [q] at hp3; exact hp3
      · exact hp2.elim
    · exact hp2.elim
  · have e : i = z.1.length := by omega
    rw [List.drop_eq_nil_of_le (by omega)] at hp2
    simp only [forL] at hp2
    split at hp2
    · rename_i gd
      obtain ⟨_, w2⟩ := wk L2 H' h2 i le2 kp2 hr2 gd
      exact .inl ⟨w2 e, hp2 L2 H' σ' (LE.refl _) (Keep.refl _) hr2 sr2⟩
    · exact hp2.elim
theorem s_while (C : Or) {fc : EF} {f : SF} (hp0 : PassesOwn (model X.prog X.w) X.A X.env X.xe) (hc : PT X c (tB X W (fc C))) (hb : PSs X bs (tS X W (f C))) : PS X (.While c bs [] pos) (tS X W (whileS fc f C)) := by
  refine PS.weak (ps_while hp0 hc hb) fun D_ σ H ⟨L, h, env, hr, sr, hp⟩ => ?_
  refine ⟨fun m σ' H' => ∃ L' h' env', HR X.K L' H' h' ∧ SRel X.K L' H' env' σ' ∧ pS X.K X.mg L' H' W D_ (whileL C fc f m env' h'), ⟨wfuel, L, h, env, hr, sr, hp⟩, ?_⟩
  rintro m σ' H' ⟨L1, h1, env1, hr1, sr1, hp1⟩
  cases m with
  | zero => exact hp1.elim
  | succ m =>
    refine ⟨L1, h1, env1, hr1, sr1, pS.thenT sr1 hp1 (fun d h n => by cases d <;> first | rfl | exact absurd rfl (n _)) fun b h2 L2 H2 le2 kp2 hr2 hp2 => ?_⟩
    cases b with
    | true =>
      refine ⟨fun σ4 H4 => ∃ L' h' env', HR X.K L' H4 h' ∧ SRel X.K L' H4 env' σ4 ∧ pS X.K X.mg L' H4 W D_ (whileL C fc f m env' h'), fun σ4 H4 q => ⟨m, Nat.lt_succ_self m, q⟩, L2, h2, env1, hr2, sr1.mono le2 kp2, ?_⟩
      have hp3 : pS X.K X.mg L2 H2 W D_ (match f C env1 h2 with
        | .nx env2 h2 => whileL C fc f m env2 h2
        | .ct env2 h2 => whileL C fc f m env2 h2
        | .bk env2 h2 => .nx env2 h2
        | r => r) := hp2
      cases q : f C env1 h2 with
      | nx env5 h5 =>
        rw [q] at hp3
        exact fun L5 H5 σ5 le5 kp5 hr5 sr5 => ⟨L5, h5, env5, hr5, sr5, pS.mono hp3 le5 kp5⟩
      | ct env5 h5 =>
        rw [q] at hp3
        exact fun L5 H5 σ5 le5 kp5 hr5 sr5 => ⟨L5, h5, env5, hr5, sr5, pS.mono hp3 le5 kp5⟩
      | bk env5 h5 => rw [q] at hp3; exact hp3
      | rt d h5 => rw [q] at hp3; exact hp3
      | exc c d e h5 => rw [q] at hp3; exact hp3
      | stuck => rw [q] at hp3; exact hp3
    | false => exact hp2 L2 H2 σ' (LE.refl _) (Keep.refl _) hr2 (sr1.mono le2 kp2)
/-! comprehensions -/
theorem wipe_at (σ : L2.St) : ∀ (vs : List Nat) (j : Nat), (wipe σ vs)[j]? = if j ∈ vs then (σ[j]?).map (fun _ => none) else σ[j]?
  | [], j => by simp [wipe]
  | v :: vs, j => by
    unfold wipe
    by_cases hj : v = j
    · subst hj
      rw [if_pos (List.mem_cons_self ..)]
      by_cases hv : v < σ.length
      · rw [List.getElem?_set_self (by rw [wipe_length]; exact hv), List.getElem?_eq_getElem hv]; rfl
      · rw [List.getElem?_eq_none (by rw [List.length_set, wipe_length]; omega), List.getElem?_eq_none (by omega)]; rfl
    · rw [List.getElem?_set_ne hj, wipe_at σ vs j]
      by_cases hm : j ∈ vs
      · rw [if_pos hm, if_pos (List.mem_cons_of_mem _ hm)]
      · rw [if_neg hm, if_neg (by simp only [List.mem_cons, not_or]; exact ⟨fun z => hj z.symm, hm⟩)]
theorem wipe_off {σ σ' : L2.St} {fp vs : List Nat} (o : Off fp (wipe σ vs) σ') (sub : ∀ j ∈ fp, j ∈ vs) : wipe σ' vs = wipe σ vs := by
  apply List.ext_getElem?
  intro j
  by_cases hm : j ∈ vs
  · rw [wipe_at, wipe_at, if_pos hm, if_pos hm]
    have hl : σ'.length = σ.length := by rw [o.1, wipe_length]
    by_cases hj : j < σ.length
    · rw [List.getElem?_eq_getElem hj, List.getElem?_eq_getElem (by omega)]; rfl
    · rw [List.getElem?_eq_none (by omega), List.getElem?_eq_none (by omega)]
  · rw [wipe_at, if_neg hm]
    exact o.2 j fun z => hm (sub j z)
theorem pRg.noexc {α β : Type} {ρ : List Addr → Hp → α → β → Prop} {K : PySem.W.Frag} {mg : Str → Option Value} {L : List Addr} {H : Hp} {W W' : WX} {σ τ : L2.St} {Q : β → Hp → Prop} {r : R α} (p : pRg ρ K mg L H W σ Q r.noexc) : pRg ρ K mg L H W' τ Q r := by
  cases r with
  | ok a h => exact p
  | exc c d h => exact p.elim
  | stuck => exact p
abbrev W0 : WX := fun _ _ _ _ => False
theorem lc_read {own : List (Str × Nat)} {t : TF} {fp : List Nat} (C : Or) {fi : IF} {ft fe : EF} (sub : ∀ j ∈ fp, j ∈ own.map fun (q : Str × Nat) => q.2) : ∀ σ H Q, tE X W (lcF fi t (own.map fun (q : Str × Nat) => q.2) ft fe C) σ H Q → tLc (tI X W (fi C)) (tG X.K fp t) (tB X W0 (ft C)) (tE X W0 (fe C)) (own.map fun (q : Str × Nat) => q.2) σ H Q := by
  intro σ H Q ⟨L, h, env, hr, sr, hp⟩
  refine ⟨L, h, env, hr, sr, pRg.then_ hp fun z h1 L1 H1 J le kp hr1 wk hp1 => ?_⟩
  intro p np
  have hrN := hr1.alloc np (Rels.nil (K := X.K) (L := L1) (H := H1))
  have kpN : Keep X.K H1 (upd H1 p (.lst [])) := Keep.new np
  have leN := LE.app L1 [p]
  have atN : (L1 ++ [p])[h1.length]? = some p := by rw [← hr1.len]; simp
  have srN : SRel X.K (L1 ++ [p]) (upd H1 p (.lst [])) (wipeD env (own.map fun (q : Str × Nat) => q.2)) (wipe σ (own.map fun (q : Str × Nat) => q.2)) := ((sr.mono le kp).mono leN kpN).wipe _
  generalize hL : L1 ++ [p] = LN at *
  generalize hH : upd H1 p (.lst []) = HN at *
  have hp2 := pRg.mono hp1 leN kpN
  refine ⟨fun i m H' => m = z.1.length - i ∧ i ≤ z.1.length ∧ ∃ L' h', LE LN L' ∧ Keep X.K HN H' ∧ HR X.K L' H' h' ∧ pR X.K X.mg L' H' W σ Q ((lcLoop C (wipeD env (own.map fun (q : Str × Nat) => q.2)) t ft fe z.2 h1.length (z.1.drop i) h').noexc.bind fun _ h2 => .ok (.ref h1.length) h2),
    ⟨z.1.length, by simp, Nat.zero_le _, LN, _, LE.refl _, Keep.refl _, hrN, by rw [List.drop_zero]; exact hp2⟩, ?_⟩
  rintro i m H' ⟨rfl, hi, L2, h2, le2, kp2, hr2, hq2⟩
  by_cases hlt : i < z.1.length
  · rw [List.drop_eq_getElem_cons hlt] at hq2
    simp only [lcLoop] at hq2
    split at hq2
    · rename_i gd
      obtain ⟨w1, _⟩ := wk L2 H' h2 i (leN.trans le2) (kpN.trans kp2) hr2 gd
      obtain ⟨go, yl⟩ := w1 _ (List.getElem?_eq_getElem hlt)
      split at hq2
      · rename_i env3 e3
        refine .inr ⟨go, fun H4 => ∃ L' h', LE LN L' ∧ Keep X.K HN H4 ∧ HR X.K L' H4 h' ∧ pR X.K X.mg L' H4 W σ Q ((lcLoop C (wipeD env (own.map fun (q : Str × Nat) => q.2)) t ft fe z.2 h1.length (z.1.drop (i + 1)) h').noexc.bind fun _ h2 => .ok (.ref h1.length) h2), fun H4 q => ⟨z.1.length - (i + 1), by omega, rfl, hlt, q⟩, fun x H3 y => ?_⟩
        obtain ⟨kp3, hr3, rx⟩ := yl x H3 y
        refine ⟨L2, h2, _, _, env3, hr3, (srN.mono le2 kp2).mono (LE.refl _) kp3, rx, e3, fun σ4 sr4 off => ⟨wipe_off off sub, L2, h2, env3, hr3, sr4, ?_⟩⟩
        have hq3 := pRg.mono hq2 (LE.refl _) kp3
        -- the test
        cases qt : ft C env3 h2 with
        | stuck => rw [qt] at hq3; exact hq3.elim
        | exc c d h5 => rw [qt] at hq3; exact hq3.elim
        | ok d h5 =>
          rw [qt] at hq3
          cases d with
          | bl b =>
            intro L5 H5 le5 kp5 hr5
            have hq5 := pRg.mono hq3 le5 kp5
            cases b with
            | false =>
              refine (if_neg Bool.false_ne_true).mpr ?_
              exact ⟨L5, h5, le2.trans le5, (kp2.trans kp3).trans kp5, hr5, hq5⟩
            | true =>
              refine (if_pos rfl).mpr ?_
              refine ⟨L5, h5, env3, hr5, sr4.mono le5 kp5, ?_⟩
              cases qe : fe C env3 h5 with
              | stuck =>
                have z2 : pR X.K X.mg L5 H5 W σ Q (((fe C env3 h5).bind fun y h2 => (match h2[h1.length]? with
                  | some (.lst acc) => if acc.length < szl then lcLoop C (wipeD env (own.map fun (q : Str × Nat) => q.2)) t ft fe z.2 h1.length (z.1.drop (i + 1)) (h2.set h1.length (.lst (acc ++ [y]))) else .stuck
                  | _ => .stuck)).noexc.bind fun _ h2 => .ok (.ref h1.length) h2) := hq5
                rw [qe] at z2; exact z2.elim
              | exc c d h6 =>
                have z2 : pR X.K X.mg L5 H5 W σ Q (((fe C env3 h5).bind fun y h2 => (match h2[h1.length]? with
                  | some (.lst acc) => if acc.length < szl then lcLoop C (wipeD env (own.map fun (q : Str × Nat) => q.2)) t ft fe z.2 h1.length (z.1.drop (i + 1)) (h2.set h1.length (.lst (acc ++ [y]))) else .stuck
                  | _ => .stuck)).noexc.bind fun _ h2 => .ok (.ref h1.length) h2) := hq5
                rw [qe] at z2; exact z2.elim
              | ok y h6 =>
                have z2 : pR X.K X.mg L5 H5 W σ Q (((fe C env3 h5).bind fun y h2 => (match h2[h1.length]? with
                  | some (.lst acc) => if acc.length < szl then lcLoop C (wipeD env (own.map fun (q : Str × Nat) => q.2)) t ft fe z.2 h1.length (z.1.drop (i + 1)) (h2.set h1.length (.lst (acc ++ [y]))) else .stuck
                  | _ => .stuck)).noexc.bind fun _ h2 => .ok (.ref h1.length) h2) := hq5
                rw [qe] at z2
                intro L6 H6 vy le6 kp6 hr6 ry
                have z3 := pRg.mono z2 le6 kp6
                have z4 : pR X.K X.mg L6 H6 W σ Q ((match h6[h1.length]? with
                  | some (.lst acc) => if acc.length < szl then lcLoop C (wipeD env (own.map fun (q : Str × Nat) => q.2)) t ft fe z.2 h1.length (z.1.drop (i + 1)) (h6.set h1.length (.lst (acc ++ [y]))) else .stuck
                  | _ => .stuck).noexc.bind fun _ h2 => .ok (.ref h1.length) h2) := z3
                split at z4
                · rename_i acc ea
                  split at z4
                  · rename_i hz
                    have at6 : L6[h1.length]? = some p := le6 _ _ (le5 _ _ (le2 _ _ atN))
                    obtain ⟨xs, q, s⟩ := hr6.lst _ p acc ea at6
                    refine ⟨xs, q, Nat.lt_of_lt_of_le (by rw [← s.len]; exact hz) szl_le, L6, _, (le2.trans le5).trans le6, (((kp2.trans kp3).trans kp5).trans kp6).trans (Keep.setL q), hr6.set ea at6 (s.app (.cons ry .nil)), pRg.mono z4 (LE.refl _) (Keep.setL q)⟩
                  · exact z4.elim
                · exact z4.elim
          | _ => exact hq3.elim
      · exact hq2.elim
    · exact hq2.elim
  · have e : i = z.1.length := by omega
    rw [List.drop_eq_nil_of_le (by omega)] at hq2
    simp only [lcLoop] at hq2
    split at hq2
    · rename_i gd
      obtain ⟨_, w2⟩ := wk L2 H' h2 i (leN.trans le2) (kpN.trans kp2) hr2 gd
      exact .inl ⟨w2 e, hq2 L2 H' _ (LE.refl _) (Keep.refl _) hr2 (.ref (le2 _ _ atN))⟩
    · exact hq2.elim
end
end VM

set_option maxRecDepth 100000
set_option maxHeartbeats 4000000
/-! zip over inner iterators of either kind; one step of zip, whatever comes of it -/
namespace ZM
open PySem PySem.Spec PyProof.Rows L2
open PySem.Sem (wp)
def Cur (t : Bool) (h : Heap) (i l : Addr) (k : Nat) : Prop := match t with
  | true => h.IsTupleIter i l k
  | false => h.IsListIter i l k
def Src (t : Bool) (h : Heap) (l : Addr) (xs : Array Value) : Prop := match t with
  | true => h.IsTuple l xs
  | false => h.IsList l xs
theorem Cur.ext {t : Bool} {h g : Heap} {b i l : Addr} {k : Nat} (c : Cur t h i l k) (e : Heap.ExtBut b h g) (n : i ≠ b) : Cur t g i l k := by
  cases t
  · exact Heap.IsListIter.extBut c e n
  · exact Heap.IsTupleIter.extBut c e n
theorem Src.ext {t : Bool} {h g : Heap} {b l : Addr} {xs : Array Value} (c : Src t h l xs) (e : Heap.ExtBut b h g) (n : l ≠ b) : Src t g l xs := by
  cases t
  · exact Heap.IsList.extBut c e n
  · exact Heap.IsTuple.extBut c e n
theorem Cur.mv {t : Bool} {h g : Heap} {i l : Addr} {k : Nat} (c : Cur t h i l k) (e : ∀ o, h.get? i = some o → g.get? i = some o) : Cur t g i l k := by
  cases t
  · exact Heap.IsListIter.at c e
  · exact Heap.IsTupleIter.at c e
theorem Cur.obj {t : Bool} {h : Heap} {i l : Addr} {k : Nat} (c : Cur t h i l k) : ∃ o, h.get? i = some o ∧ ∀ v, o.data ≠ .cell v := by
  cases t
  · obtain ⟨o, e, _, d⟩ := c
    exact ⟨o, e, fun v q => by rw [d] at q; cases q⟩
  · obtain ⟨o, e, _, d⟩ := c
    exact ⟨o, e, fun v q => by rw [d] at q; cases q⟩
section
variable {prog : Program} {w : World} {A : Around} {E : Value → Shared → Prop} {s : Shared}
theorem cur_get {t : Bool} {i l : Addr} {k : Nat} {xs : Array Value} {x : Value} {Q : Value → Shared → Prop} (c : Cur t s.heap i l k) (d : Src t s.heap l xs) (hx : xs[k]? = some x)
    (hQ : ∀ g, Cur t g i l (k + 1) → Heap.SameBut i s.heap g → Q x { s with heap := g }) : wpAny (model prog w) A (Builtin.SmallTypes.nextOf (.ref i)) Q E s := by
  cases t
  · exact wpAny_nextOf_list_item c d hx hQ
  · exact RZ.nextOf_tuple_item c d hx hQ
theorem cur_out {t : Bool} {i l : Addr} {k : Nat} {xs : Array Value} {Q : Value → Shared → Prop} (hh : A.handled = none) (c : Cur t s.heap i l k) (d : Src t s.heap l xs) (hx : xs[k]? = none)
    (hE : ∀ g e, Heap.ExtBut i s.heap g → (∃ o, g.get? e = some o ∧ o.cls = .type "StopIteration") → E (.ref e) { s with heap := g }) : wpAny (model prog w) A (Builtin.SmallTypes.nextOf (.ref i)) Q E s := by
  cases t
  · exact wpAny_nextOf_list_end hh c d hx hE
  · exact RZ.nextOf_tuple_end hh c d hx hE
/-- what stays: all but the zip, the tuple it keeps, and the two inner iterators -/
def Rest (h g : Heap) (z to u v : Addr) : Prop := ∀ c o, c ≠ z → c ≠ to → c ≠ u → c ≠ v → h.get? c = some o → g.get? c = some o
theorem next_any {tu tv : Bool} {z ti to u v p q : Addr} {m n : Nat} {xs ys : Array Value} {a b : Value} {R : Fin → Shared → Prop} (hh : A.handled = none) (D : ZipApart z ti to u v p q)
    (gz : IsZip s.heap z ti to .none) (gi : IsPair s.heap ti (.ref u) (.ref v)) (go : IsPair s.heap to a b)
    (cu : Cur tu s.heap u p m) (cv : Cur tv s.heap v q n) (su : Src tu s.heap p xs) (sv : Src tv s.heap q ys)
    (hret : ∀ x y g, xs[m]? = some x → ys[n]? = some y → IsZip g z ti to (rawInt s.heap.objs.size) → IsPair g to x y → Cur tu g u p (m + 1) → Cur tv g v q (n + 1) → IsPair g s.heap.objs.size x y →
      g.objs.size = s.heap.objs.size + 1 → Rest s.heap g z to u v → R (.done (.ret (.ref s.heap.objs.size))) { s with heap := g })
    (hstop : (xs[m]? = none ∨ ys[n]? = none) → ∀ g e, Rest s.heap g z to u v → (∃ o, g.get? e = some o ∧ o.cls = .type "StopIteration") → E (.ref e) { s with heap := g }) :
    wpAny (model prog w) A (Builtin.«zip.__next__» ⟨[.ref z], []⟩) R E s := by
  show wpAny _ _ (field (.ref z) 2 >>= _) R E s
  refine wpAny_bind (wpAny_field gz rfl (x := .bool false) rfl ?_)
  show wpAny _ _ (field (.ref z) 3 >>= _) R E s
  refine wpAny_bind (wpAny_field gz rfl (x := .ref ti) rfl (wpAny_bind (wpAny_seqItems gi rfl ?_)))
  show wpAny _ _ (Builtin.SmallTypes.ownedTupleIsFree (.ref z) >>= _) R E s
  unfold Builtin.SmallTypes.ownedTupleIsFree
  refine wpAny_bind (wpAny_bind (wpAny_field gz rfl (x := .none) rfl (wpAny_pure ?_)))
  rw [if_pos (by rfl)]
  refine wpAny_bind (wpAny_rule (wpAny_bind (wpAny_field gz rfl (x := .ref to) rfl ?_)))
  refine wpAny_bind (wpAny_setField_rec gz (by simp) fun A1 z1 k1 => ?_)
  have z1 : IsZip A1 z ti to .ellipsis := z1
  simp only [List.zipIdx_cons, List.zipIdx_nil, List.forIn_cons, List.forIn_nil]
  refine wpAny_bind (wpAny_bind (wpAny_bind (wpAny_onRaise ?_)))
  show wpAny _ _ (Builtin.SmallTypes.nextOf (.ref u) >>= _) _ _ _
  have cu1 := cu.ext k1.extBut D.i1z
  have su1 := su.ext k1.extBut D.l1z
  rcases hx : xs[m]? with _ | x
  · refine wpAny_bind (cur_out hh cu1 su1 hx fun A2 e k2 ⟨oe, e1, e2⟩ => ?_)
    have z2 : IsZip A2 z ti to .ellipsis := k2 _ _ D.i1z.symm z1
    have ne : e ≠ z := by
      rintro rfl
      rw [z2] at e1
      cases e1
      simp at e2
    exact wpAny_setField_rec z2 (by simp) fun A3 _ k3 => hstop (.inl hx) A3 e (fun c o c1 _ c3 _ y => k3.extBut _ _ c1 (k2 _ _ c3 (k1.extBut _ _ c1 y))) ⟨oe, k3.extBut _ _ ne e1, e2⟩
  · refine wpAny_bind (cur_get cu1 su1 hx fun A2 cu2 k2 => wpAny_pure ?_)
    have o2 : IsPair A2 to a b := k2.extBut _ _ D.TOi1 (k1.extBut _ _ D.TOz go)
    refine wpAny_bind (wpAny_seqItems o2 rfl (wpAny_bind (wpAny_updateSeq_pair o2 fun A3 o3 k3 => ?_)))
    have o3 : IsPair A3 to x b := o3
    refine wpAny_bind (wpAny_letGo (wpAny_pure (wpAny_bind (wpAny_bind (wpAny_onRaise ?_)))))
    show wpAny _ _ (Builtin.SmallTypes.nextOf (.ref v) >>= _) _ _ _
    have cv3 := ((cv.ext k1.extBut D.i2z).ext k2.extBut D.i12.symm).ext k3.extBut D.TOi2.symm
    have sv3 := ((sv.ext k1.extBut D.l2z).ext k2.extBut D.l2i1).ext k3.extBut D.l2TO
    have z3 : IsZip A3 z ti to .ellipsis := k3.extBut _ _ D.TOz.symm (k2.extBut _ _ D.i1z.symm z1)
    have r3 : ∀ c o, c ≠ z → c ≠ to → c ≠ u → s.heap.get? c = some o → A3.get? c = some o := fun c o c1 c2 c3 y => k3.extBut _ _ c2 (k2.extBut _ _ c3 (k1.extBut _ _ c1 y))
    rcases hy : ys[n]? with _ | y
    · refine wpAny_bind (cur_out hh cv3 sv3 hy fun A4 e k4 ⟨oe, e1, e2⟩ => ?_)
      have z4 : IsZip A4 z ti to .ellipsis := k4 _ _ D.i2z.symm z3
      have ne : e ≠ z := by
        rintro rfl
        rw [z4] at e1
        cases e1
        simp at e2
      exact wpAny_setField_rec z4 (by simp) fun A5 _ k5 => hstop (.inr hy) A5 e (fun c o c1 c2 c3 c4 y => k5.extBut _ _ c1 (k4 _ _ c4 (r3 c o c1 c2 c3 y))) ⟨oe, k5.extBut _ _ ne e1, e2⟩
    · refine wpAny_bind (cur_get cv3 sv3 hy fun A4 cv4 k4 => wpAny_pure ?_)
      have o4 : IsPair A4 to x b := k4.extBut _ _ D.TOi2 o3
      refine wpAny_bind (wpAny_seqItems o4 rfl (wpAny_bind (wpAny_updateSeq_pair o4 fun A5 o5 k5 => ?_)))
      have o5 : IsPair A5 to x y := o5
      refine wpAny_bind (wpAny_letGo (wpAny_pure (wpAny_pure (wpAny_bind (wpAny_seqItems o5 rfl (wpAny_bind (wpAny_newTuple ?_)))))))
      have sz : A5.objs.size = s.heap.objs.size := by rw [k5.1, k4.1, k3.1, k2.1, k1.1]
      have z5 : IsZip A5 z ti to .ellipsis := k5.extBut _ _ D.TOz.symm (k4.extBut _ _ D.i2z.symm z3)
      have r5 : Rest s.heap A5 z to u v := fun c o c1 c2 c3 c4 y => k5.extBut _ _ c2 (k4.extBut _ _ c4 (r3 c o c1 c2 c3 y))
      have cu5 := ((cu2.ext k3.extBut D.TOi1.symm).ext k4.extBut D.i12).ext k5.extBut D.TOi1.symm
      have cv5 := cv4.ext k5.extBut D.TOi2.symm
      show wpAny _ _ (Builtin.SmallTypes.ownedTupleHandOut (.ref z) (.ref A5.objs.size) >>= _) _ _ _
      unfold Builtin.SmallTypes.ownedTupleHandOut
      have z6 : IsZip (A5.push { cls := .type "tuple", data := .seq #[x, y] }) z ti to .ellipsis := Heap.get?_push_of_some _ z5
      refine wpAny_bind (wpAny_bind (wpAny_setField_rec z6 (by simp) fun A7 z7 k7 => ?_))
      have z7 : IsZip A7 z ti to (rawInt A5.objs.size) := z7
      refine wpAny_setField_rec z7 (by simp) fun A8 z8 k8 => ?_
      have z8 : IsZip A8 z ti to (rawInt A5.objs.size) := z8
      have up : ∀ c o, c ≠ z → A5.get? c = some o → A8.get? c = some o := fun c o c1 e => k8.extBut _ _ c1 (k7.extBut _ _ c1 (Heap.get?_push_of_some _ e))
      have far : A5.objs.size ≠ z := Nat.ne_of_gt (Heap.lt_size z5)
      have t8 : IsPair A8 A5.objs.size x y := k8.extBut _ _ far (k7.extBut _ _ far (Heap.get?_push_size _ rfl))
      have s8 : A8.objs.size = A5.objs.size + 1 := by rw [k8.1, k7.1, Heap.size_push]
      rw [sz] at z8 t8 s8
      refine wpAny_pure ?_
      show R (.done (.ret (.ref A5.objs.size))) _
      rw [sz]
      exact hret x y A8 hx hy z8 (up _ _ D.TOz o5) (cu5.mv fun o e => up _ o D.i1z e) (cv5.mv fun o e => up _ o D.i2z e) t8 s8 fun c o c1 c2 c3 c4 e => up c o c1 (r5 c o c1 c2 c3 c4 e)
end
end ZM

set_option maxRecDepth 100000
set_option maxHeartbeats 4000000
namespace ZM
open PySem PySem.Spec PyProof.Rows L2
open PySem.Sem (wp)
section
variable {prog : Program} {w : World} {A : Around} {E : Value → Shared → Prop} {s : Shared}
theorem py_any {tu tv : Bool} {z ti to u v p q : Addr} {m n : Nat} {xs ys : Array Value} {a b : Value} {Q : Option Value → Shared → Prop} (hh : A.handled = none) (D : ZipApart z ti to u v p q)
    (gz : IsZip s.heap z ti to .none) (gi : IsPair s.heap ti (.ref u) (.ref v)) (go : IsPair s.heap to a b)
    (cu : Cur tu s.heap u p m) (cv : Cur tv s.heap v q n) (su : Src tu s.heap p xs) (sv : Src tv s.heap q ys)
    (hret : ∀ x y g, xs[m]? = some x → ys[n]? = some y → IsZip g z ti to (rawInt s.heap.objs.size) → IsPair g to x y → Cur tu g u p (m + 1) → Cur tv g v q (n + 1) → IsPair g s.heap.objs.size x y →
      g.objs.size = s.heap.objs.size + 1 → Rest s.heap g z to u v → Q (some (.ref s.heap.objs.size)) { s with heap := g })
    (hstop : (xs[m]? = none ∨ ys[n]? = none) → ∀ g, Rest s.heap g z to u v → Q none { s with heap := g }) : wpAny (model prog w) A (pyNext (.ref z)) Q E s := by
  have tz : s.TypeIs (.ref z) "zip" := ⟨_, gz, rfl⟩
  unfold pyNext
  refine wpAny_bind (wpAny_attempt (wpAny_callSpecial?_slot (name := Str.ofString "__next__") tz F.slot_zip_next (wpAny_call_entry F.slot_zip_next tz F.entry_zip_next
    (next_any hh D gz gi go cu cv su sv (fun x y g a1 a2 a3 a4 a5 a6 a7 a8 a9 => ⟨_, rfl, wpAny_pure (hret x y g a1 a2 a3 a4 a5 a6 a7 a8 a9)⟩) fun he g e r ⟨o, e1, e2⟩ => ?_) (F.args_zip_next_1 _))))
  exact wpAny_bind (wpAny_isInstance (T := "StopIteration") (b := true) ⟨o, e1, e2⟩ isSubtype_stop (wpAny_pure (hstop he _ r)))
end
def itOb (t : Bool) (l : Addr) : Obj := match t with
  | true => { cls := .type "tuple_iterator", data := .fields #[.ref l, .int 0 0] }
  | false => { cls := .type "list_iterator", data := .fields #[.ref l, .int 0 0] }
abbrev N1 (tu : Bool) (h : Heap) (p : Addr) : Heap := h.push (itOb tu p)
abbrev N2 (tu tv : Bool) (h : Heap) (p q : Addr) : Heap := (N1 tu h p).push (itOb tv q)
abbrev N3 (tu tv : Bool) (h : Heap) (p q : Addr) : Heap := (N2 tu tv h p q).push { cls := .type "tuple", data := .seq #[.ref h.objs.size, .ref (N1 tu h p).objs.size] }
abbrev N4 (tu tv : Bool) (h : Heap) (p q : Addr) : Heap := (N3 tu tv h p q).push { cls := .type "tuple", data := .seq #[.none, .none] }
abbrev N5 (tu tv : Bool) (h : Heap) (p q : Addr) : Heap := (N4 tu tv h p q).push { cls := .type "zip", data := .fields #[.none, .bool false, .bool false, .ref (N2 tu tv h p q).objs.size, .ref (N3 tu tv h p q).objs.size] }
theorem new_any (tu tv : Bool) (p q : Addr) (xs ys : Array Value) :
    Meets (Builtin.«zip.__new__» ⟨[.type "zip", .ref p, .ref q], []⟩) (fun _ R s => Src tu s.heap p xs ∧ Src tv s.heap q ys ∧ R (.ok (.ret (.ref (N4 tu tv s.heap p q).objs.size))) { s with heap := N5 tu tv s.heap p q }) :=
  .of_wp fun prog w A R s h => by
    obtain ⟨hp, g, d, tk, os⟩ := s
    obtain ⟨a1, a2, h⟩ := h
    have below := sub_zip
    cases tu <;> cases tv
    · have b1 : Heap.IsList (Shared.heap ⟨hp, g, d, tk, os⟩) p xs := a1
      have b2 : Heap.IsList (Shared.heap ⟨hp.push { cls := .type "list_iterator", data := .fields #[.ref p, .int 0 0] }, g, d, tk, os⟩) q ys := Heap.IsList.push a2 _
      wp_walk using wpAny_pyIter_list b1, wpAny_pyIter_list b2
      exact ⟨_, rfl, h⟩
    · have b1 : Heap.IsList (Shared.heap ⟨hp, g, d, tk, os⟩) p xs := a1
      have b2 : Heap.IsTuple (Shared.heap ⟨hp.push { cls := .type "list_iterator", data := .fields #[.ref p, .int 0 0] }, g, d, tk, os⟩) q ys := Heap.IsTuple.push a2 _
      wp_walk using wpAny_pyIter_list b1, wpAny_pyIter_tuple b2
      exact ⟨_, rfl, h⟩
    · have b1 : Heap.IsTuple (Shared.heap ⟨hp, g, d, tk, os⟩) p xs := a1
      have b2 : Heap.IsList (Shared.heap ⟨hp.push { cls := .type "tuple_iterator", data := .fields #[.ref p, .int 0 0] }, g, d, tk, os⟩) q ys := Heap.IsList.push a2 _
      wp_walk using wpAny_pyIter_tuple b1, wpAny_pyIter_list b2
      exact ⟨_, rfl, h⟩
    · have b1 : Heap.IsTuple (Shared.heap ⟨hp, g, d, tk, os⟩) p xs := a1
      have b2 : Heap.IsTuple (Shared.heap ⟨hp.push { cls := .type "tuple_iterator", data := .fields #[.ref p, .int 0 0] }, g, d, tk, os⟩) q ys := Heap.IsTuple.push a2 _
      wp_walk using wpAny_pyIter_tuple b1, wpAny_pyIter_tuple b2
      exact ⟨_, rfl, h⟩
theorem cur_new {t : Bool} {h : Heap} {i l : Addr} (e : h.get? i = some (itOb t l)) : Cur t h i l 0 := by
  cases t
  · exact ⟨_, e, rfl, rfl⟩
  · exact ⟨_, e, rfl, rfl⟩
section
variable {prog : Program} {w : World} {A : Around} {E : Value → Shared → Prop} {s : Shared}
theorem call_any {tu tv : Bool} {p q : Addr} {xs ys : Array Value} {Q : Value → Shared → Prop} (su : Src tu s.heap p xs) (sv : Src tv s.heap q ys)
    (hQ : ∀ g, IsZip g (s.heap.objs.size + 4) (s.heap.objs.size + 2) (s.heap.objs.size + 3) .none → IsPair g (s.heap.objs.size + 2) (.ref s.heap.objs.size) (.ref (s.heap.objs.size + 1)) →
      IsPair g (s.heap.objs.size + 3) .none .none → Cur tu g s.heap.objs.size p 0 → Cur tv g (s.heap.objs.size + 1) q 0 → (∀ c o, s.heap.get? c = some o → g.get? c = some o) → Q (.ref (s.heap.objs.size + 4)) { s with heap := g }) :
    wpAny (model prog w) A (call (.type "zip") [.ref p, .ref q]) Q E s := by
  refine callType_new F.called_zip (by decide) (F.typeCall_zip_2 _ _) (F.newCall_zip_2 _ _) (fun obj => F.args_object_init_3 obj _ _) F.entry_zip_new (new_any tu tv p q xs ys) ⟨su, sv, ?_⟩
  have f1 : (itOb tu p).isFreed = false := by cases tu <;> rfl
  have f2 : (itOb tv q).isFreed = false := by cases tv <;> rfl
  have n1 : (N1 tu s.heap p).objs.size = s.heap.objs.size + 1 := Heap.size_push ..
  have n2 : (N2 tu tv s.heap p q).objs.size = s.heap.objs.size + 2 := by rw [Heap.size_push, n1]
  have n3 : (N3 tu tv s.heap p q).objs.size = s.heap.objs.size + 3 := by rw [Heap.size_push, n2]
  have n4 : (N4 tu tv s.heap p q).objs.size = s.heap.objs.size + 4 := by rw [Heap.size_push, n3]
  have u5 : ∀ {c o}, (N4 tu tv s.heap p q).get? c = some o → (N5 tu tv s.heap p q).get? c = some o := fun e => Heap.get?_push_of_some _ e
  have u4 : ∀ {c o}, (N3 tu tv s.heap p q).get? c = some o → (N5 tu tv s.heap p q).get? c = some o := fun e => u5 (Heap.get?_push_of_some _ e)
  have u3 : ∀ {c o}, (N2 tu tv s.heap p q).get? c = some o → (N5 tu tv s.heap p q).get? c = some o := fun e => u4 (Heap.get?_push_of_some _ e)
  have u2 : ∀ {c o}, (N1 tu s.heap p).get? c = some o → (N5 tu tv s.heap p q).get? c = some o := fun e => u3 (Heap.get?_push_of_some _ e)
  have c5 : (N5 tu tv s.heap p q).get? (N4 tu tv s.heap p q).objs.size = some _ := Heap.get?_push_size _ rfl
  have c4 : (N5 tu tv s.heap p q).get? (N3 tu tv s.heap p q).objs.size = some _ := u5 (Heap.get?_push_size _ rfl)
  have c3 : (N5 tu tv s.heap p q).get? (N2 tu tv s.heap p q).objs.size = some _ := u4 (Heap.get?_push_size _ rfl)
  have c2 : (N5 tu tv s.heap p q).get? (N1 tu s.heap p).objs.size = some (itOb tv q) := u3 (Heap.get?_push_size _ f2)
  have c1 : (N5 tu tv s.heap p q).get? s.heap.objs.size = some (itOb tu p) := u2 (Heap.get?_push_size _ f1)
  show _ ∧ _
  rw [n2, n3, n4] at c5
  rw [n1, n2] at c3
  rw [n3] at c4
  rw [n1] at c2
  rw [n4]
  exact ⟨⟨_, c5, rfl⟩, hQ _ c5 c3 c4 (cur_new c1) (cur_new c2) fun c o e => u2 (Heap.get?_push_of_some _ e)⟩
end
def SqG (t : Bool) (K : PySem.W.Frag) (H : Hp) (a : Addr) (xs : List V) : Prop := match t with
  | true => SqT K H a xs
  | false => SqL K H a xs
theorem src_of {X : Cx} {pins : List (Addr × Obj)} {σ : L2.St} {H : Hp} {s : Shared} {t : Bool} {a : Addr} {xs : List V} (I : Inv X pins σ H s) (h : SqG t X.K H a xs) : ∃ its : List Value, Vals xs its ∧ Src t s.heap a its.toArray ∧ a < s.heap.objs.size := by
  cases t
  · obtain ⟨its, rv, p, _⟩ := I.list h
    exact ⟨its, rv, p.isList, p.lt⟩
  · obtain ⟨its, rv, p, _⟩ := I.tuple h
    obtain ⟨o, e, _⟩ := id p
    exact ⟨its, rv, p, Heap.lt_size e⟩
theorem sq_one {X : Cx} {pins : List (Addr × Obj)} {σ : L2.St} {H : Hp} {s : Shared} {t : Bool} {a : Addr} {xs ys : List V} (I : Inv X pins σ H s) (h : SqG t X.K H a xs) (h' : SqG t X.K H a ys) : xs = ys := by
  cases t
  · exact I.list_inj h h'
  · exact I.tuple_inj h h'
/-- a and b, each a list or a tuple, as they stand at each turn -/
def Itg (K : PySem.W.Frag) (tu tv : Bool) (a b : Addr) : It :=
  ⟨fun i H => ∃ (xs ys : List V) (x y : V), SqG tu K H a xs ∧ SqG tv K H b ys ∧ xs[i]? = some x ∧ ys[i]? = some y,
    fun i H v G => ∃ N x y, v = .ref N ∧ H N = none ∧ G = upd H N (.tup [x, y]) ∧ (∀ xs, SqG tu K H a xs → xs[i]? = some x) ∧ ∀ ys, SqG tv K H b ys → ys[i]? = some y,
    fun i H => ∃ xs ys : List V, SqG tu K H a xs ∧ SqG tv K H b ys ∧ (xs.length ≤ i ∨ ys.length ≤ i)⟩
theorem turn_any {P : Program} {w : World} {K : PySem.W.Frag} {elts : List Expr} {kk : Nat} {tpos : Pos} {tu tv : Bool} {a b z ti to u v : Addr} (D : ZipApart z ti to u v a b) :
    Turn P w K (.Tuple elts kk tpos) (Itg K tu tv a b) [z, ti, to, u, v] z (fun i h => IsZip h z ti to .none ∧ IsPair h ti (.ref u) (.ref v) ∧ (∃ x y, IsPair h to x y) ∧ Cur tu h u a i ∧ Cur tv h v b i) where
  mem := List.mem_cons_self ..
  obj := fun i h st c hc => by
    obtain ⟨gz, gi, ⟨x, y, go⟩, cu, cv⟩ := st
    simp only [List.mem_cons, List.not_mem_nil, or_false] at hc
    rcases hc with rfl | rfl | rfl | rfl | rfl
    · exact ⟨_, gz, fun _ q => nomatch q⟩
    · exact ⟨_, gi, fun _ q => nomatch q⟩
    · exact ⟨_, go, fun _ q => nomatch q⟩
    · exact cu.obj
    · exact cv.obj
  keep := fun i h g st k => by
    obtain ⟨gz, gi, ⟨x, y, go⟩, cu, cv⟩ := st
    exact ⟨k z (by simp) _ gz, k ti (by simp) _ gi, ⟨x, y, k to (by simp) _ go⟩, cu.mv (k u (by simp)), cv.mv (k v (by simp))⟩
  item := by
    rintro X rfl rfl rfl hc i pins s σ H E I hf ⟨gz, gi, ⟨x0, y0, go⟩, cu, cv⟩ ⟨xs, ys, x, y, qx, qy, ex, ey⟩
    obtain ⟨as, rx, sx, lx⟩ := src_of I qx
    obtain ⟨bs, ry, sy, ly⟩ := src_of I qy
    obtain ⟨n1, en1, r1⟩ := rx.get ex
    obtain ⟨n2, en2, r2⟩ := ry.get ey
    have zl : z < s.heap.objs.size := Heap.lt_size gz
    refine py_any (I.ok.hd hc) D gz gi go cu cv sx sy (fun x' y' g e1 e2 z' go' cu' cv' gt gs rest => ?_) (fun he => ?_)
    · rw [List.getElem?_toArray, en1] at e1
      rw [List.getElem?_toArray, en2] at e2
      cases e1
      cases e2
      refine ⟨_, rfl, wpAny_letOwnedTupleGo_zip (s := { s with heap := g }) z' fun g2 z2 sb => ?_⟩
      have gt2 : g2.get? s.heap.objs.size = some { cls := .type "tuple", data := .seq #[n1, n2] } := (sb.2 _ (Nat.ne_of_gt zl)).trans gt
      have ob : ObjOk X.prog X.w (upd H s.heap.objs.size (.tup [x, y])) g2 s.heap.objs.size (.tup [x, y]) := ⟨by show 2 ≤ sizeLine; decide, [n1, n2], .cons r1 (.cons r2 .nil), ⟨_, gt2, rfl, _, rfl⟩⟩
      have far : ∀ c o, c ∉ [z, ti, to, u, v] → s.heap.get? c = some o → g2.get? c = some o := fun c o hb e => by
        simp only [List.mem_cons, List.not_mem_nil, or_false, not_or] at hb
        exact (sb.2 c hb.1).trans (rest c o hb.1 hb.2.2.1 hb.2.2.2.1 hb.2.2.2.2 e)
      refine ⟨.ref s.heap.objs.size, _, I.turnedNew (t' := s.toks) (ch := [z, ti, to, u, v]) far hf (Nat.le_refl _) ob, rfl, ⟨_, x, y, rfl, I.hok.fresh (Nat.le_refl _), rfl, fun l hl => by rw [sq_one I hl qx]; exact ex, fun l hl => by rw [sq_one I hl qy]; exact ey⟩,
        ⟨z2, (sb.2 _ D.TIz).trans (rest _ _ D.TIz D.TITO D.TIi1 D.TIi2 gi), ⟨n1, n2, (sb.2 _ D.TOz).trans go'⟩, cu'.mv fun o e => (sb.2 _ D.i1z).trans e, cv'.mv fun o e => (sb.2 _ D.i2z).trans e⟩, fun c hcm => ?_⟩
      have hlt : c < s.heap.objs.size := by
        obtain ⟨o1, f1, _⟩ := cu.obj
        obtain ⟨o2, f2, _⟩ := cv.obj
        have hcm' := hcm
        simp only [List.mem_cons, List.not_mem_nil, or_false] at hcm'
        rcases hcm' with rfl | rfl | rfl | rfl | rfl
        · exact zl
        · exact Heap.lt_size gi
        · exact Heap.lt_size go
        · exact Heap.lt_size f1
        · exact Heap.lt_size f2
      rw [upd_ne (Nat.ne_of_lt hlt)]
      exact (hf c hcm).1
    · exfalso
      rw [List.getElem?_toArray, List.getElem?_toArray, en1, en2] at he
      rcases he with he | he <;> cases he
  done := by
    rintro X rfl rfl rfl hc i pins s σ H E I hf ⟨gz, gi, ⟨x0, y0, go⟩, cu, cv⟩ ⟨xs, ys, qx, qy, he⟩
    obtain ⟨as, rx, sx, lx⟩ := src_of I qx
    obtain ⟨bs, ry, sy, ly⟩ := src_of I qy
    have l1 := rx.length
    have l2 := ry.length
    refine py_any (I.ok.hd hc) D gz gi go cu cv sx sy (fun x' y' g e1 e2 _ _ _ _ _ _ _ => ?_) (fun _ g rest => ⟨rfl, ?_⟩)
    · exfalso
      rw [List.getElem?_toArray] at e1 e2
      have m1 := (List.getElem?_eq_some_iff.1 e1).1
      have m2 := (List.getElem?_eq_some_iff.1 e2).1
      rcases he with he | he <;> omega
    · exact I.turnedL (t' := s.toks) (ch := [z, ti, to, u, v]) (fun c o hb e => by
        simp only [List.mem_cons, List.not_mem_nil, or_false, not_or] at hb
        exact rest c o hb.1 hb.2.2.1 hb.2.2.2.1 hb.2.2.2.2 e) hf
  self := fun A i s Q E st h => wpAny_pyIter_zip st.1 h
def iZipG (K : PySem.W.Frag) (ta : TA) : TI := fun σ H R => ta σ H fun vs H1 => ∃ tu tv a b xs ys, vs = [.ref a, .ref b] ∧ SqG tu K H1 a xs ∧ SqG tv K H1 b ys ∧ R (Itg K tu tv a b) H1
theorem pi_zipG {X : Cx} {e e2 : Expr} {ta : TA} {p pos tpos : Pos} {elts : List Expr} {kk : Nat} (hg : Gl X "zip") (hm : X.mg "zip" = none) (ha : PA X [e, e2] ta)
    (hs : starEach [e, e2] X.env = (false, eval e X.env) :: starEach [e2] X.env) (hpl : (backTo pos (starEach [e2] X.env)).any (·.1) = false) :
    PI X (.Tuple elts kk tpos) (.Call (.Name "zip" p) [e, e2] [] pos) (iZipG X.K ta) := by
  constructor
  intro pins s σ H R I h
  refine Call_ (ld_blt I hg hm PyProof.Rows.boot_zip (PyProof.Rows.callWith_type1 (thn (ha.run pos pins s σ H _ I h) fun us s1 ⟨vs, H1, I1, r1, tu, tv, a, b, xs, ys, ev, qa, qb, q⟩ => ?_) hs hpl))
  subst ev
  rcases r1 with _ | ⟨ru, _ | ⟨rv, _ | _⟩⟩
  cases ru
  cases rv
  obtain ⟨as, rx, sx, lx⟩ := src_of I1 qa
  obtain ⟨bs, ry, sy, ly⟩ := src_of I1 qb
  refine call_any sx sy fun g gz gi go cu cv keep => wpAny_pyIter_zip gz ?_
  have I2 : Inv X pins σ H1 { s1 with heap := g } := I1.kept (t' := s1.toks) keep
  refine ⟨_, [s1.heap.objs.size + 4, s1.heap.objs.size + 2, s1.heap.objs.size + 3, s1.heap.objs.size, s1.heap.objs.size + 1], _, _, H1, rfl, I2, turn_any (PySem.W.ktu_apart s1.heap.objs.size a b lx ly), ⟨gz, gi, ⟨_, _, go⟩, cu, cv⟩, fun c hc => ?_, q⟩
  have le : s1.heap.objs.size ≤ c := by
    simp only [List.mem_cons, List.not_mem_nil, or_false] at hc
    rcases hc with rfl | rfl | rfl | rfl | rfl <;> simp
  exact I1.fpOk le (I1.hok.fresh le)
end ZM

set_option maxRecDepth 100000
set_option maxHeartbeats 4000000
namespace VM
open PySem PySem.Spec PyProof.Rows L2
/-! zip -/
theorem zipD_get : ∀ {ds es : List D} {i : Nat} {d : D}, (zipD ds es)[i]? = some d → ∃ x y, d = .tup [x, y] ∧ ds[i]? = some x ∧ es[i]? = some y
  | [], _, i, d, e => by cases i <;> simp [zipD] at e
  | _ :: _, [], i, d, e => by cases i <;> simp [zipD] at e
  | x :: xs, y :: ys, 0, d, e => by simp [zipD] at e; exact ⟨x, y, e.symm, rfl, rfl⟩
  | x :: xs, y :: ys, i + 1, d, e => by
    have e2 : (zipD xs ys)[i]? = some d := by simpa [zipD] using e
    simpa using zipD_get e2
theorem zipD_len : ∀ (ds es : List D), (zipD ds es).length = min ds.length es.length
  | [], _ => by simp [zipD]
  | _ :: _, [] => by simp [zipD]
  | x :: xs, y :: ys => by simp only [zipD, List.length_cons, zipD_len xs ys]; omega
theorem pairRel {K : PySem.W.Frag} {L : List Addr} {H : Hp} {h : Hv} {T : Addr} {d e : D} {x y : V} (hr : HR K L H h) (hT : H T = none) (rd : Rel K L H d x) (re : Rel K L H e y) :
    Keep K H (upd H T (.tup [x, y])) ∧ HR K L (upd H T (.tup [x, y])) h ∧ Rel K L (upd H T (.tup [x, y])) (.tup [d, e]) (.ref T) :=
  ⟨Keep.new hT, hr.new hT, .tup (.inl (.inl upd_same)) (.cons (rd.mono (LE.refl _) (Keep.new hT)) (.cons (re.mono (LE.refl _) (Keep.new hT)) .nil))⟩
theorem seq_src {K : PySem.W.Frag} {L : List Addr} {H : Hp} {h : Hv} {d : D} {v : V} {z : List D × Guards} (hr : HR K L H h) (r : Rel K L H d v) (ez : seqOf d h = some z) : ∃ t a, v = .ref a ∧ (∃ xs, ZM.SqG t K H a xs) ∧
    ∀ L1 H1 h1, LE L L1 → Keep K H H1 → HR K L1 H1 h1 → guardsOk z.2 h1 = true → ∃ xs, ZM.SqG t K H1 a xs ∧ Rels K L1 H1 z.1 xs := by
  cases r with
  | @tup ds a xs ha ra =>
    cases ez
    exact ⟨true, a, rfl, ⟨xs, ha⟩, fun L1 H1 h1 le kp _ _ => ⟨xs, kp.tup _ _ ha, ra.mono le kp⟩⟩
  | @ref p a ea =>
    have look : ∀ {L1 H1 h1} {ds : List D}, LE L L1 → HR K L1 H1 h1 → (h1[p]? = some (.lst ds) ∨ h1[p]? = some (.ro ds)) → ∃ xs, ZM.SqG false K H1 a xs ∧ Rels K L1 H1 ds xs := fun {L1 H1 h1 ds} le hr1 q => by
      rcases q with q | q
      · obtain ⟨xs, q, r⟩ := hr1.lst p a ds q (le _ _ ea)
        exact ⟨xs, SqL.of q, r⟩
      · obtain ⟨xs, q, r⟩ := hr1.ro p a ds q (le _ _ ea)
        exact ⟨xs, q.seq, r⟩
    have go : ∀ ds, (h[p]? = some (.lst ds) ∨ h[p]? = some (.ro ds)) → z = (ds, [(p, ds)]) → ∃ t b, Value.ref a = .ref b ∧ (∃ xs, ZM.SqG t K H b xs) ∧ ∀ L1 H1 h1, LE L L1 → Keep K H H1 → HR K L1 H1 h1 → guardsOk z.2 h1 = true → ∃ xs, ZM.SqG t K H1 b xs ∧ Rels K L1 H1 z.1 xs := fun ds e0 e1 => by
      subst e1
      obtain ⟨xs, q, _⟩ := look (LE.refl _) hr e0
      exact ⟨false, a, rfl, ⟨xs, q⟩, fun L1 H1 h1 le _ hr1 g => look le hr1 (guards_at g (List.mem_cons_self ..))⟩
    simp only [seqOf] at ez
    split at ez
    · rename_i ds e0
      obtain ⟨t, b, e, q⟩ := go ds (.inl e0) (by cases ez; rfl)
      exact ⟨t, b, by cases e; rfl, q⟩
    · rename_i ds e0
      obtain ⟨t, b, e, q⟩ := go ds (.inr e0) (by cases ez; rfl)
      exact ⟨t, b, by cases e; rfl, q⟩
    · cases ez
  | _ => cases ez
theorem walk_zipG {K : PySem.W.Frag} {L : List Addr} {H : Hp} {a b : Addr} {tu tv : Bool} {ds es : List D} {g1 g2 : Guards}
    (ha : ∀ L1 H1 h1, LE L L1 → Keep K H H1 → HR K L1 H1 h1 → guardsOk g1 h1 = true → ∃ xs, ZM.SqG tu K H1 a xs ∧ Rels K L1 H1 ds xs)
    (hb : ∀ L1 H1 h1, LE L L1 → Keep K H H1 → HR K L1 H1 h1 → guardsOk g2 h1 = true → ∃ xs, ZM.SqG tv K H1 b xs ∧ Rels K L1 H1 es xs) :
    WalkOk K L H (ZM.Itg K tu tv a b) (zipD ds es) (g1 ++ g2) := by
  intro L1 H1 h i le kp hr g
  have g' : guardsOk g1 h = true ∧ guardsOk g2 h = true := by simpa only [guardsOk, List.all_append, Bool.and_eq_true] using g
  obtain ⟨xs, sx, rx⟩ := ha L1 H1 h le kp hr g'.1
  obtain ⟨ys, sy, ry⟩ := hb L1 H1 h le kp hr g'.2
  refine ⟨fun d e => ?_, fun e => ⟨xs, ys, sx, sy, by rw [e, zipD_len, rx.len, ry.len]; omega⟩⟩
  obtain ⟨x, y, rfl, e1, e2⟩ := zipD_get e
  obtain ⟨u, f1, r1⟩ := rx.get e1
  obtain ⟨w, f2, r2⟩ := ry.get e2
  refine ⟨⟨xs, ys, u, w, sx, sy, f1, f2⟩, fun v H' yl => ?_⟩
  obtain ⟨T, u', w', rfl, hT, rfl, q1, q2⟩ := yl
  have z1 := q1 xs sx
  have z2 := q2 ys sy
  rw [f1] at z1
  rw [f2] at z2
  cases z1
  cases z2
  exact pairRel hr hT r1 r2
/-! enumerate -/
theorem enumD_get : ∀ {ds : List D} {k i : Nat} {d : D}, (enumD k ds)[i]? = some d → ∃ x, d = .tup [.int ((k + i : Nat) : Int), x] ∧ ds[i]? = some x
  | [], _, i, d, e => by cases i <;> simp [enumD] at e
  | x :: xs, k, 0, d, e => by simp [enumD] at e; exact ⟨x, e.symm, rfl⟩
  | x :: xs, k, i + 1, d, e => by
    have e2 : (enumD (k + 1) xs)[i]? = some d := by simpa [enumD] using e
    obtain ⟨y, h1, h2⟩ := enumD_get e2
    exact ⟨y, by rw [h1]; congr 4; omega, by simpa using h2⟩
theorem enumD_len : ∀ (ds : List D) (k : Nat), (enumD k ds).length = ds.length
  | [], _ => rfl
  | x :: xs, k => by simp only [enumD, List.length_cons, enumD_len xs (k + 1)]
theorem walk_enumL {K : PySem.W.Frag} {L : List Addr} {H : Hp} {a : Addr} {p : Nat} {ds : List D} (ea : L[p]? = some a) : WalkOk K L H (Ite K a) (enumD 0 ds) [(p, ds)] := by
  intro L1 H1 h i le kp hr g
  have at_ : ∃ xs, SqL K H1 a xs ∧ Rels K L1 H1 ds xs := by
    rcases guards_at g (List.mem_cons_self ..) with z | z
    · obtain ⟨xs, q, r⟩ := hr.lst p a ds z (le _ _ ea)
      exact ⟨xs, SqL.of q, r⟩
    · obtain ⟨xs, q, r⟩ := hr.ro p a ds z (le _ _ ea)
      exact ⟨xs, q.seq, r⟩
  obtain ⟨xs, sq, r⟩ := at_
  refine ⟨fun d e => ?_, fun e => ⟨xs, sq, by rw [e, enumD_len, r.len]; exact Nat.le_refl _⟩⟩
  obtain ⟨x, rfl, e1⟩ := enumD_get e
  obtain ⟨v, e2, rv⟩ := r.get e1
  refine ⟨⟨xs, v, sq, e2⟩, fun y H' yl => ?_⟩
  obtain ⟨T, u, rfl, hT, rfl, f⟩ := yl
  have z := f xs sq
  rw [e2] at z
  cases z
  exact pairRel hr hT (by rw [Nat.zero_add]; exact .int _) rv
/-- the tuple at a, each item in a new pair -/
def IteT (K : PySem.W.Frag) (a : Addr) : It :=
  ⟨fun i H => ∃ (xs : List V) (x : V), SqT K H a xs ∧ xs[i]? = some x, fun i H v H' => ∃ T x, v = .ref T ∧ H T = none ∧ H' = upd H T (.tup [.int (i : Nat), x]) ∧ ∀ xs, SqT K H a xs → xs[i]? = some x, fun i H => ∃ xs : List V, SqT K H a xs ∧ xs.length ≤ i⟩
theorem walk_enumT {K : PySem.W.Frag} {L : List Addr} {H : Hp} {a : Addr} {ds : List D} {xs : List V} (ha : SqT K H a xs) (r : Rels K L H ds xs) : WalkOk K L H (IteT K a) (enumD 0 ds) [] := by
  intro L1 H1 h i le kp hr g
  have sq := kp.tup _ _ ha
  refine ⟨fun d e => ?_, fun e => ⟨xs, sq, by rw [e, enumD_len, r.len]; exact Nat.le_refl _⟩⟩
  obtain ⟨x, rfl, e1⟩ := enumD_get e
  obtain ⟨v, e2, rv⟩ := r.get e1
  refine ⟨⟨xs, v, sq, e2⟩, fun y H' yl => ?_⟩
  obtain ⟨T, u, rfl, hT, rfl, f⟩ := yl
  have z := f xs sq
  rw [e2] at z
  cases z
  exact pairRel hr hT (by rw [Nat.zero_add]; exact .int _) (rv.mono le kp)
/-- enumerate over a tuple: how its parts turn -/
theorem turn_enumT {P : Program} {w : World} {K : PySem.W.Frag} {elts : List Expr} {kk : Nat} {tpos : Pos} (a e it : Addr) (ha : a < it) :
    Turn P w K (.Tuple elts kk tpos) (IteT K a) [e, it] e (fun i h => (∃ old, IsEnum h e it ((i : Nat) : Int) old) ∧ h.IsTupleIter it a i ∧ e ≠ it ∧ a ≠ e) where
  mem := List.mem_cons_self ..
  obj := by
    rintro i h ⟨⟨old, he⟩, ⟨o, ho, hc, hd⟩, _⟩ b hb
    rcases List.mem_cons.mp hb with rfl | hb
    · exact ⟨_, he, fun v q => nomatch q⟩
    · obtain rfl : b = it := by simpa using hb
      exact ⟨o, ho, fun v q => by rw [hd] at q; cases q⟩
  keep := by
    rintro i h h' ⟨⟨old, he⟩, hi, hne⟩ k
    exact ⟨⟨old, k e (List.mem_cons_self ..) _ he⟩, hi.at fun o q => k it (by simp) o q, hne⟩
  item := by
    intro X hP hw hK hc i pins s σ H E I hf st hg
    subst hP hw hK
    obtain ⟨⟨old, he⟩, hit, hne, hae⟩ := st
    obtain ⟨xs, x, hq, hx⟩ := hg
    obtain ⟨its, rv, tp, hz⟩ := I.tuple hq
    obtain ⟨u, hu, ru⟩ := rv.get hx
    have hel : e < s.heap.objs.size := Heap.lt_size he
    have hil : it < s.heap.objs.size := let ⟨_, q, _⟩ := hit; Heap.lt_size q
    have hi : i < its.toArray.size := by
      have := (List.getElem?_eq_some_iff.mp hu).1
      simpa using this
    have Dr := Draws.tuple (prog := X.prog) (w := X.w) (A := X.A.in1) (by show X.A.handled = none; exact I.ok.hd hc) it a (Nat.ne_of_lt ha) its.toArray
    refine wpAny_pyNext_enum_itemD Dr he ⟨hit, tp⟩ hi hne (by simp only [List.mem_cons, List.not_mem_nil, or_false, not_or]; exact ⟨hne, hae.symm⟩) fun y h' tk hy ho hst hT hsz hk => ?_
    obtain rfl : u = y := by
      have z : its[i]? = some y := by simpa using hy
      rw [hu] at z
      exact Option.some.inj z
    refine ⟨_, rfl, wpAny_letOwnedTupleGo_enum (s := { s with heap := h', toks := tk + 1 }) ho fun h2 he2 sb => ?_⟩
    have hT2 : h2.get? s.heap.objs.size = some { cls := .type "tuple", data := .seq #[.int i tk, u] } := (sb.2 _ (Nat.ne_of_gt hel)).trans hT
    have nw : ObjOk X.prog X.w (upd H s.heap.objs.size (.tup [.int (i : Nat), x])) h2 s.heap.objs.size (.tup [.int (i : Nat), x]) :=
      ⟨by rw [sizeLine_eq]; exact (by decide : 2 ≤ 16777216), [.int i tk, u], .cons ⟨tk, rfl⟩ (.cons ru .nil), ⟨_, hT2, rfl, 0, rfl⟩⟩
    have I1 : Inv X pins σ (upd H s.heap.objs.size (.tup [.int (i : Nat), x])) { s with heap := h2, toks := tk + 1 } := by
      refine I.turnedNew (ch := [e, it]) (fun b ob hb q => ?_) hf (Nat.le_refl _) nw
      have n1 : b ≠ e := fun z => hb (by rw [z]; exact List.mem_cons_self ..)
      have n2 : b ≠ it := fun z => hb (by rw [z]; simp)
      exact (sb.2 b n1).trans (hk b ob n1 n2 q)
    refine ⟨.ref s.heap.objs.size, _, I1, rfl, ⟨_, x, rfl, I.hok.fresh (Nat.le_refl _), rfl, fun ys hy => by rw [I.tuple_inj hy hq]; exact hx⟩, ⟨⟨u, ?_⟩, hst.1.at fun o q => (sb.2 it (Ne.symm hne)).trans q, hne, hae⟩, fun b hb => ?_⟩
    · have e1 : ((i + 1 : Nat) : Int) = (i : Int) + 1 := by omega
      rw [e1]
      exact he2
    · have lt : b < s.heap.objs.size := by
        rcases List.mem_cons.mp hb with rfl | hb
        · exact hel
        · obtain rfl : b = it := by simpa using hb
          exact hil
      rw [upd_ne (Nat.ne_of_lt lt)]
      exact (hf b hb).1
  done := by
    intro X hP hw hK hc i pins s σ H E I hf st hg
    subst hP hw hK
    obtain ⟨⟨old, he⟩, hit, hne, hae⟩ := st
    obtain ⟨xs, hq, hx⟩ := hg
    obtain ⟨its, rv, tp, hz⟩ := I.tuple hq
    obtain ⟨f0, f1, f2, f3, f4, f5⟩ := hf it (by simp)
    have hl := rv.length
    have len : its.toArray.size ≤ i := by rw [List.size_toArray]; omega
    have end_ : wpAny (model X.prog X.w) X.A.in1 (Builtin.SmallTypes.nextOf (.ref it)) (fun _ _ => False) (fun v s' => ∃ h' x, v = .ref x ∧ Heap.ExtBut it s.heap h' ∧ (∃ o, h'.get? x = some o ∧ o.cls = .type "StopIteration") ∧ s' = { s with heap := h' }) s :=
      wpAny_nextOf_tuple_end (I.ok.hd hc) hit tp (Array.getElem?_eq_none len) fun h' x e1 e2 => ⟨h', x, rfl, e1, e2, rfl⟩
    have hT : s.TypeIs (.ref e) "enumerate" := ⟨_, he, rfl⟩
    unfold pyNext
    refine wpAny_bind (wpAny_attempt (wpAny_callSpecial?_slot (name := Str.ofString "__next__") hT F.slot_enumerate_next (wpAny_call_entry F.slot_enumerate_next hT F.entry_enumerate_next ?_ (F.args_enumerate_next_1 _))))
    show wpAny _ _ (field (.ref e) 2 >>= _) _ _ s
    refine wpAny_bind (wpAny_field he rfl (x := .ref it) rfl ?_)
    refine wpAny_bind (wpAny_mono end_ (fun _ _ z => z.elim) fun v s' z => ?_)
    obtain ⟨h', x, rfl, eb, ⟨o, ho, hcl⟩, rfl⟩ := z
    refine wpAny_bind (wpAny_isInstance (T := "StopIteration") (b := true) ⟨o, ho, hcl⟩ isSubtype_stop ?_)
    exact wpAny_pure ⟨rfl, I.turned (t' := s.toks) (fun b o hb q => eb b o hb q) f0 f1 f3 f4 f5⟩
  self := fun A i s Q E st h => let ⟨⟨_, he⟩, _⟩ := st; wpAny_pyIter_enum he h
theorem enum_newT (l : Addr) (items : Array Value) (n : Nat) (dct : Option Addr) (sl : Array (Option Value)) :
    Meets (Builtin.«enumerate.__new__» ⟨[.type "enumerate", .ref l], []⟩) (fun _ R s => s.heap.get? l = some { cls := .type "tuple", dict := dct, data := .seq items n, slots := sl } ∧
      R (.ok (.ret (.ref (s.heap.push { cls := .type "tuple_iterator", data := .fields #[.ref l, .int 0 0] }).objs.size)))
        { s with heap := (s.heap.push { cls := .type "tuple_iterator", data := .fields #[.ref l, .int 0 0] }).push { cls := .type "enumerate", data := .fields #[.none, .bool false, .ref s.heap.objs.size, rawInt 0, .none, .none] } }) := by
  refine .of_wp fun prog w A R s hh => ?_
  rcases s with ⟨hp, g, d, tk, os⟩
  rcases hh with ⟨hl, h⟩
  have hsub := sub_enumerate
  have hL : Heap.IsTuple (Shared.heap ⟨hp, g, d, tk, os⟩) l items := ⟨_, hl, rfl, n, rfl⟩
  wp_walk using AutoSeq1.wpAny_loadPart' hl
  refine wpAny_stack_any fun st => wpAny_pure ?_
  split
  · rename_i c _ _ _ _ _
    cases (c == Value.type "enumerate") <;> (wp_walk using AutoSeq1.wpAny_loadPart' hl, wpAny_pyIter_tuple hL; exact ⟨_, rfl, h⟩)
  · (wp_walk using AutoSeq1.wpAny_loadPart' hl, wpAny_pyIter_tuple hL); exact ⟨_, rfl, h⟩
theorem call_enumT {prog : Program} {w : World} {A : Around} {E : Value → Shared → Prop} {s : Shared} {l : Addr} {items : Array Value} {Q : Value → Shared → Prop} (hL : IsTup s.heap l items)
    (h : ∀ h', IsEnum h' (s.heap.objs.size + 1) s.heap.objs.size 0 .none → h'.IsTupleIter s.heap.objs.size l 0 → (∀ b o, s.heap.get? b = some o → h'.get? b = some o) → Q (.ref (s.heap.objs.size + 1)) { s with heap := h' }) :
    wpAny (model prog w) A (call (.type "enumerate") [.ref l]) Q E s := by
  rcases hL with ⟨⟨c, dct, dt, sl⟩, hl, hc, n, hd⟩
  cases (show c = .type "tuple" from hc)
  cases (show dt = .seq items n from hd)
  refine callType_new F.called_enumerate (by decide) (F.typeCall_enumerate_1 _) (F.newCall_enumerate_1 _) (fun obj => F.args_object_init_2 obj _) F.entry_enumerate_new (enum_newT l items n dct sl) ⟨hl, ?_⟩
  have sz : (s.heap.push { cls := .type "tuple_iterator", data := .fields #[.ref l, .int 0 0] }).objs.size = s.heap.objs.size + 1 := Heap.size_push ..
  show _ ∧ _
  rw [sz]
  have he : IsEnum ((s.heap.push { cls := .type "tuple_iterator", data := .fields #[.ref l, .int 0 0] }).push { cls := .type "enumerate", data := .fields #[.none, .bool false, .ref s.heap.objs.size, rawInt 0, .none, .none] }) (s.heap.objs.size + 1) s.heap.objs.size 0 .none := by
    have z := Heap.get?_push_size (s.heap.push { cls := .type "tuple_iterator", data := .fields #[.ref l, .int 0 0] }) (o := { cls := .type "enumerate", data := .fields #[.none, .bool false, .ref s.heap.objs.size, rawInt 0, .none, .none] }) rfl
    rw [sz] at z
    exact z
  exact ⟨⟨_, he, rfl⟩, h _ he ⟨_, Heap.get?_push_of_some _ (Heap.get?_push_size _ rfl), rfl, rfl⟩ fun b o x => Heap.get?_push_of_some _ (Heap.get?_push_of_some _ x)⟩
section
variable {X : Cx} {W : WX} {pos : Pos}
theorem i_enum {a : Expr} {elts : List Expr} {kk : Nat} {p tpos : Pos} (C : Or) {fa : EF} (hg : Gl X "enumerate") (hm : X.mg "enumerate" = none) (ha : PE X a (tE X W (fa C))) (s1 : starEach [a] X.env = (false, eval a X.env) :: starEach [] X.env) :
    PI X (.Tuple elts kk tpos) (.Call (.Name "enumerate" p) [a] [] pos) (tI X W (itN fa C)) := by
  refine ⟨fun pins s σ H R_ I q => ?_⟩
  obtain ⟨L, h, env, hr, sr, hp⟩ := q
  have go : tE X W (fa C) σ H fun x H1 => ∃ a, x = .ref a ∧ ((∃ xs, SqL X.K H1 a xs ∧ R_ (Ite X.K a) H1) ∨ ∃ xs, SqT X.K H1 a xs ∧ R_ (IteT X.K a) H1) := by
    refine ⟨L, h, env, hr, sr, pRg.then_ hp fun d h1 L1 H1 v le kp hr1 r1 hp1 => ?_⟩
    split at hp1
    · rename_i z ez
      cases r1 with
      | @tup ds a xs ha ra =>
        cases ez
        exact ⟨a, rfl, .inr ⟨xs, ha, hp1 L1 H1 _ (LE.refl _) (Keep.refl _) hr1 (walk_enumT ha ra)⟩⟩
      | @ref p a ea =>
        simp only [seqOf] at ez
        split at ez
        · rename_i ds e0
          cases ez
          obtain ⟨xs, q, s⟩ := hr1.lst p a ds e0 ea
          exact ⟨a, rfl, .inl ⟨xs, SqL.of q, hp1 L1 H1 _ (LE.refl _) (Keep.refl _) hr1 (walk_enumL ea)⟩⟩
        · rename_i ds e0
          cases ez
          obtain ⟨xs, q, s⟩ := hr1.ro p a ds e0 ea
          exact ⟨a, rfl, .inl ⟨xs, q.seq, hp1 L1 H1 _ (LE.refl _) (Keep.refl _) hr1 (walk_enumL ea)⟩⟩
        · cases ez
      | _ => cases ez
    · exact hp1.elim
  have hA : PA X [a] (fun σ H Q => tE X W (fa C) σ H fun x H1 => Q [x] H1) := PA.weak (pa_cons ha pa_nil s1) fun σ H Q z => z
  refine Call_ (ld_blt I hg hm boot_enumerate (PyProof.Rows.callWith_type1 (thn (hA.run pos pins s σ H (fun vs H1 => ∃ a, vs = [.ref a] ∧ ((∃ xs, SqL X.K H1 a xs ∧ R_ (Ite X.K a) H1) ∨ ∃ xs, SqT X.K H1 a xs ∧ R_ (IteT X.K a) H1)) I ?_) fun us s1 ⟨vs, H1, I1, r1, q1⟩ => ?_) (by rw [s1] <;> rfl) rfl))
  · obtain ⟨L, h, env, hr, sr, hp⟩ := go
    exact ⟨L, h, env, hr, sr, pRg.then_ (g := fun d h => R.ok d h) (ρ' := Rel X.K) (Q := fun x H1 => ∃ a, x = .ref a ∧ ((∃ xs, SqL X.K H1 a xs ∧ R_ (Ite X.K a) H1) ∨ ∃ xs, SqT X.K H1 a xs ∧ R_ (IteT X.K a) H1)) (by
      cases z : fa C env h with
      | ok d h1 => rw [z] at hp; exact hp
      | exc c d h1 => rw [z] at hp; exact hp
      | stuck => rw [z] at hp; exact hp) fun d h1 L1 H1 v le kp hr1 r1 hp1 => by
        obtain ⟨a, rfl, z⟩ := hp1 L1 H1 v (LE.refl _) (Keep.refl _) hr1 r1
        exact ⟨a, rfl, z⟩⟩
  · obtain ⟨a, ev, q1⟩ := q1
    subst ev
    obtain ⟨u, rfl, ru⟩ := Vals.one r1
    cases (show u = Value.ref a from ru)
    rcases q1 with ⟨xs, sq, q1⟩ | ⟨xs, sq, q1⟩
    · obtain ⟨its, rv, pl, hz⟩ := I1.list sq
      refine call_enumerate_list pl.isList fun h' he hit hsz hk => wpAny_pyIter_enum he ?_
      have I2 : Inv X pins σ H1 { s1 with heap := h' } := I1.kept (t' := s1.toks) hk
      refine ⟨s1.heap.objs.size + 1, [s1.heap.objs.size + 1, s1.heap.objs.size], _, _, H1, rfl, I2, turn_enum a (s1.heap.objs.size + 1) s1.heap.objs.size, ⟨⟨.none, he⟩, hit, Nat.succ_ne_self _⟩, fun b hb => ?_, q1⟩
      have le : s1.heap.objs.size ≤ b := by
        have z : b = s1.heap.objs.size + 1 ∨ b = s1.heap.objs.size := by simpa using hb
        rcases z with z | z <;> rw [z]
        · exact Nat.le_succ _
        · exact Nat.le_refl _
      exact I1.fpOk le (I1.hok.fresh le)
    · obtain ⟨its, rv, tp, hz⟩ := I1.tuple sq
      have al : a < s1.heap.objs.size := let ⟨_, q, _⟩ := tp; Heap.lt_size q
      refine call_enumT tp fun h' he hit hk => wpAny_pyIter_enum he ?_
      have I2 : Inv X pins σ H1 { s1 with heap := h' } := I1.kept (t' := s1.toks) hk
      refine ⟨s1.heap.objs.size + 1, [s1.heap.objs.size + 1, s1.heap.objs.size], _, _, H1, rfl, I2, turn_enumT a (s1.heap.objs.size + 1) s1.heap.objs.size al, ⟨⟨.none, he⟩, hit, Nat.succ_ne_self _, Nat.ne_of_lt (Nat.lt_succ_of_lt al)⟩, fun b hb => ?_, q1⟩
      have le : s1.heap.objs.size ≤ b := by
        have z : b = s1.heap.objs.size + 1 ∨ b = s1.heap.objs.size := by simpa using hb
        rcases z with z | z <;> rw [z]
        · exact Nat.le_succ _
        · exact Nat.le_refl _
      exact I1.fpOk le (I1.hok.fresh le)
theorem i_zip {a b : Expr} {elts : List Expr} {kk : Nat} {p tpos : Pos} (C : Or) {fa fb : EF} (hg : Gl X "zip") (hm : X.mg "zip" = none) (ha : PE X a (tE X W (fa C))) (hb : PE X b (tE X W (fb C)))
    (s1 : starEach [a, b] X.env = (false, eval a X.env) :: starEach [b] X.env) (s2 : starEach [b] X.env = (false, eval b X.env) :: starEach [] X.env) : PI X (.Tuple elts kk tpos) (.Call (.Name "zip" p) [a, b] [] pos) (tI X W (itZ fa fb C)) :=
  PI.weak (ZM.pi_zipG hg hm (pa_cons ha (pa_cons hb pa_nil s2) s1) s1 (by rw [s2]; rfl)) fun σ H Q ⟨L, h, env, hr, sr, hp⟩ => ⟨L, h, env, hr, sr, pRg.then_ hp fun d h1 L1 H1 v le kp hr1 r1 hp1 => ⟨L1, h1, env, hr1, sr.mono le kp, pRg.then_ hp1 fun d2 h2 L2 H2 v2 le2 kp2 hr2 r2 hp2 => by
    have r1' := r1.mono le2 kp2
    split at hp2
    · rename_i z w ez ew
      obtain ⟨tu, a, rfl, ⟨xs, qa⟩, ka⟩ := seq_src hr2 r1' ez
      obtain ⟨tv, b, rfl, ⟨ys, qb⟩, kb⟩ := seq_src hr2 r2 ew
      exact ⟨tu, tv, a, b, xs, ys, rfl, qa, qb, hp2 L2 H2 _ (LE.refl _) (Keep.refl _) hr2 (walk_zipG ka kb)⟩
    · exact hp2.elim⟩⟩
/-! isinstance -/
theorem kit_isi {K : PySem.W.Frag} {t T : String} (ht : t ∈ ["NoneType", "bool", "int", "str", "tuple", "list", "dict"]) (hT : T ∈ ["bool", "int", "str", "tuple", "list", "dict"]) : PySem.W.kitOne K (.type t) (.type T) = some (isiD t T) := by
  have z : kitB t T = some (isiD t T) := by
    have all : ∀ t ∈ ["NoneType", "bool", "int", "str", "tuple", "list", "dict"], ∀ T ∈ ["bool", "int", "str", "tuple", "list", "dict"], kitB t T = some (isiD t T) := by decide +kernel
    exact all t ht T hT
  exact kit_ty z
theorem ty_of {K : PySem.W.Frag} {L : List Addr} {H : Hp} {h : Hv} (hr : HR K L H h) {d : D} {v : V} (r : Rel K L H d v) {t : String} (e : tyD d h = some t) : TyX K H v (.type t) ∧ t ∈ ["NoneType", "bool", "int", "str", "tuple", "list", "dict"] := by
  cases r with
  | non => cases e; exact ⟨.base .non, by decide⟩
  | bl b => cases e; exact ⟨.base (.bl b), by decide⟩
  | int b => cases e; exact ⟨.base (.int b), by decide⟩
  | str b => cases e; exact ⟨.base (.str b), by decide⟩
  | @tup ds a xs ha ra =>
    cases e
    refine ⟨?_, by decide⟩
    rcases ha with (ha | ⟨o, ha⟩) | ⟨o, its, n, hk, hc, _⟩
    · exact .base (.tup ha)
    · exact .fTuple ha
    · exact .kTuple hk hc
  | @ref p a ea =>
    simp only [tyD] at e
    split at e
    · rename_i kvs e0
      cases e
      obtain ⟨us, q, s⟩ := hr.dct p a kvs e0 ea
      exact ⟨.base (.dK q), by decide⟩
    · rename_i ob _ e0
      cases e
      refine ⟨?_, by decide⟩
      cases ob with
      | lst ds =>
        obtain ⟨xs, q, s⟩ := hr.lst p a ds e0 ea
        exact .base (.lst q)
      | ro ds =>
        obtain ⟨xs, q, s⟩ := hr.ro p a ds e0 ea
        rcases q with ⟨o, q⟩ | ⟨o, its, n, hk, hc, _⟩
        · exact .base (.frz q)
        · exact .kList hk hc
      | dct kvs => rename_i nd; exact (nd kvs rfl).elim
    · cases e
theorem r_isi {a : Expr} {T : Str} {Ts : String} {p p2 : Pos} (C : Or) {fa : EF} (hg : Gl X "isinstance") (hm : X.mg "isinstance" = none) (hgT : Gl X T) (hmT : X.mg T = none) (hv : bootBuiltins T = some (.type Ts)) (hT : Ts ∈ ["bool", "int", "str", "tuple", "list", "dict"]) (hn : T ≠ "__name__") (hd : (T == ("__debug__" : Str)) = false)
    (ha : PE X a (tE X W (fa C))) (s1 : starEach [a, .Name T p2] X.env = (false, eval a X.env) :: starEach [.Name T p2] X.env) : PE X (.Call (.Name "isinstance" p) [a, .Name T p2] [] pos) (tE X W (un1F (isiF Ts) fa C)) :=
  PE.weak (pe_callB call_isi hg hm boot_isinstance (pa_cons ha (pa_cons (pe_bltn (v := .ty Ts) hgT hmT hv rfl hn hd) pa_nil rfl) s1) (by decide) (by decide) s1 rfl) fun σ H Q ⟨L, h, env, hr, sr, hp⟩ => ⟨L, h, env, hr, sr, pRg.then_ hp fun d h1 L1 H1 v le kp hr1 r1 hp1 => by
    unfold isiF at hp1
    split at hp1
    · rename_i t e
      obtain ⟨ty, mem⟩ := ty_of hr1 r1 e
      exact ⟨v, .ty Ts, _, _, _, rfl, .ty Ts, ty, kit_isi mem hT, here hr1 hp1 (.bl _)⟩
    · exact hp1.elim⟩
end
end VM

set_option maxRecDepth 100000
set_option maxHeartbeats 4000000
namespace VM
open PySem PySem.Spec PyProof.Rows L2
/-! tuple times 0, times 1 -/
theorem tmul_same (l : Addr) (items : Array Value) (n : Nat) (dd : Option Addr) (sl : Array (Option Value)) (x : Int) (u : Tok) (q0 : (decide (x < -(2 ^ 63)) || decide (x ≥ 2 ^ 63)) = false) (q1 : (items.isEmpty || x == 1) = true) :
    Meets (Builtin.«tuple.__mul__» ⟨[.ref l, .int x u], []⟩) (fun _ R s => s.heap.get? l = some { cls := .type "tuple", dict := dd, data := .seq items n, slots := sl } ∧ R (.ok (.ret (Value.ref l))) s) := by
  refine .of_wp fun prog w A R s hh => ?_
  rcases s with ⟨hp, g, d, tk, os⟩
  rcases hh with ⟨hl, h⟩
  have f1 := AutoSeq1.idx_int
  wp_walk using AutoSeq1.wpAny_loadPart' hl
  repeat (first
    | (refine wpAny_ite_false (decide_eq_false (by rw [q0]; exact Bool.false_ne_true)) ?_; wp_walk using AutoSeq1.wpAny_loadPart' hl)
    | (refine wpAny_ite_true (decide_eq_true q1) ?_; wp_walk using AutoSeq1.wpAny_loadPart' hl))
  exact ⟨_, rfl, h⟩
theorem tmul_none (l : Addr) (items : Array Value) (n : Nat) (dd : Option Addr) (sl : Array (Option Value)) (x : Int) (u : Tok) (q0 : (decide (x < -(2 ^ 63)) || decide (x ≥ 2 ^ 63)) = false) (q1 : (items.isEmpty || x == 1) = false) (q2 : (decide (x ≤ 0) || items.isEmpty) = true) :
    Meets (Builtin.«tuple.__mul__» ⟨[.ref l, .int x u], []⟩) (fun _ R s => s.heap.get? l = some { cls := .type "tuple", dict := dd, data := .seq items n, slots := sl } ∧
      R (.ok (.ret (Value.ref s.heap.objs.size))) { s with heap := s.heap.push { cls := Value.type "tuple", data := Data.seq #[] }, toks := s.toks }) := by
  refine .of_wp fun prog w A R s hh => ?_
  rcases s with ⟨hp, g, d, tk, os⟩
  rcases hh with ⟨hl, h⟩
  have f1 := AutoSeq1.idx_int
  wp_walk using AutoSeq1.wpAny_loadPart' hl
  repeat (first
    | (refine wpAny_ite_false (decide_eq_false (by rw [q0]; exact Bool.false_ne_true)) ?_; wp_walk using AutoSeq1.wpAny_loadPart' hl)
    | (refine wpAny_ite_false (decide_eq_false (by rw [q1]; exact Bool.false_ne_true)) ?_; wp_walk using AutoSeq1.wpAny_loadPart' hl)
    | (refine wpAny_ite_true (decide_eq_true q2) ?_; wp_walk using AutoSeq1.wpAny_loadPart' hl))
  exact ⟨_, rfl, h⟩
/-- the tuple where it is empty or once; a new empty one -/
def rRep01 (K : PySem.W.Frag) : R2 := fun x y H Q => ∃ l k xs, x = .ref l ∧ y = .int k ∧ SqT K H l xs ∧ ((k = 1 ∧ Q (.ref l) H) ∨ (k = 0 ∧ (xs = [] → Q (.ref l) H) ∧ (xs ≠ [] → ∀ p, H p = none → Q (.ref p) (upd H p (.tup [])))))
theorem op_rep01 {X : Cx} : OpR X (binaryOp .Mult) (rRep01 X.K) := by
  intro pins s σ H x y v u Q I rx ry h
  obtain ⟨l, k, xs, rfl, rfl, hT, q⟩ := h
  cases rx
  obtain ⟨t, rfl⟩ := ry
  obtain ⟨its, r, ⟨⟨cls, dd, data, sl⟩, ho, hc, n, hd⟩, hs⟩ := I.tuple hT
  cases (show cls = .type "tuple" from hc)
  cases (show data = .seq its.toArray n from hd)
  have len : its.length = xs.length := r.length.symm
  have hk : k = 0 ∨ k = 1 := by
    rcases q with ⟨rfl, _⟩ | ⟨rfl, _⟩
    · exact .inr rfl
    · exact .inl rfl
  have q0 : (decide (k < -(2 ^ 63)) || decide (k ≥ 2 ^ 63)) = false := by
    rcases hk with rfl | rfl <;> decide
  have run : ∀ {Q' : Value → Shared → Prop}, (∀ A, codeAny (model X.prog X.w) A (.builtin "tuple.__mul__" ⟨[.ref l, .int k t], []⟩) (fun r s' => ∃ v, r = .ok (.ret v) ∧ Q' v s') s → True) → True := fun _ => trivial
  have same : (its.toArray.isEmpty || k == 1) = true → Q (.ref l) H → wpAny (model X.prog X.w) X.A (binaryOp .Mult (.ref l) (.int k t)) (EP X pins σ Q) X.xe s := fun q1 qq => by
    refine wpAny_binaryOp_repeat_ref (T := "tuple") (U := "int") (by decide) ⟨_, ho, rfl⟩ (fun s' => typeIs_int s' k t) noFill_tuple_mul F.fills_int_mul F.slot_int_rmul repeat_tuple F.slot_int_index.lookup
      (call_meets F.slot_int_rmul (typeIs_int s k t) F.entry_int_rmul (F.args_int_rmul_2 _ _) (int_rmul_tuple k t l its.toArray n dd sl)
        ⟨ho, rfl, ⟨_, ho, rfl⟩, call_meets F.slot_tuple_mul ⟨_, ho, rfl⟩ F.entry_tuple_mul (F.args_tuple_mul_2 _ _) (tmul_same l its.toArray n dd sl k t q0 q1) ⟨ho, ?_⟩⟩)
    exact ⟨.ref l, H, I, rfl, qq⟩
  rcases q with ⟨rfl, qq⟩ | ⟨rfl, qe, qn⟩
  · exact same (by simp) qq
  · cases its with
    | nil =>
      have e : xs = [] := by cases xs with | nil => rfl | cons _ _ => simp at len
      exact same (by simp) (qe e)
    | cons i0 ir =>
      have e : xs ≠ [] := by intro z; subst z; simp at len
      refine wpAny_binaryOp_repeat_ref (T := "tuple") (U := "int") (by decide) ⟨_, ho, rfl⟩ (fun s' => typeIs_int s' 0 t) noFill_tuple_mul F.fills_int_mul F.slot_int_rmul repeat_tuple F.slot_int_index.lookup
        (call_meets F.slot_int_rmul (typeIs_int s 0 t) F.entry_int_rmul (F.args_int_rmul_2 _ _) (int_rmul_tuple 0 t l (i0 :: ir).toArray n dd sl)
          ⟨ho, rfl, ⟨_, ho, rfl⟩, call_meets F.slot_tuple_mul ⟨_, ho, rfl⟩ F.entry_tuple_mul (F.args_tuple_mul_2 _ _) (tmul_none l (i0 :: ir).toArray n dd sl 0 t q0 (by simp) (by simp)) ⟨ho, ?_⟩⟩)
      refine ⟨.ref s.heap.objs.size, _, I.laid (t' := s.toks) (o := .tup []) (fun b ob q => Heap.get?_push_of_some _ q) (Nat.le_refl _) ?_, rfl, qn e _ (I.hok.fresh (Nat.le_refl _))⟩
      exact ⟨Nat.zero_le _, [], .nil, IsTup.new _ _⟩
section
variable {X : Cx} {W : WX} {pos : Pos}
def rMulA (K : PySem.W.Frag) : R2 := fun x y H Q => rI CMul (fun i j => .int (i * j)) x y H Q ∨ rI CMulW (fun i j => .int (i * j)) x y H Q ∨ rRep x y H Q ∨ rRepT K x y H Q ∨ rRep01 K x y H Q
theorem op_mulA : OpR X (binaryOp .Mult) (rMulA X.K) := op_mul.or (op_mulW.or (op_rep.or (op_repT.or op_rep01)))
theorem o_mul : OkR X W opMul (rMulA X.K) := by
  intro L H h σ d1 d2 v1 v2 Q hr r1 r2 hp
  cases r1 with
  | int i =>
    cases r2 with
    | int j =>
      simp only [opMul] at hp
      split at hp
      · rename_i hz
        have big : ∀ {z : Int}, z.natAbs < big64 → -(2 ^ 64) < z ∧ z < 2 ^ 64 := fun {z} q => by
          have q2 : z.natAbs < 18446744073709551616 := q
          omega
        rcases hz with hz | hz | ⟨h1, h2⟩
        · exact .inl ⟨i, j, rfl, rfl, .inl (big hz), here hr hp (.int _)⟩
        · exact .inl ⟨i, j, rfl, rfl, .inr (big hz), here hr hp (.int _)⟩
        · exact .inr (.inl ⟨i, j, rfl, rfl, wide_mul h1 h2 (by decide) (by decide) (by decide), here hr hp (.int _)⟩)
      · exact hp.elim
    | _ => exact hp.elim
  | @ref p a ea =>
    cases r2 with
    | int k =>
      simp only [opMul] at hp
      split at hp
      · rename_i ds e0
        split at hp
        · rename_i hz
          obtain ⟨xs, q, s⟩ := hr.lst p a ds e0 ea
          refine .inr (.inr (.inl ⟨a, k, xs, rfl, rfl, q, by omega, by omega, ?_, fun b nb => allocd hr (s.rep _) nb hp⟩))
          have z : xs.length * k.toNat ≤ 1000 * 1000 := Nat.mul_le_mul (by rw [← s.len]; exact hz.2.2) (by omega)
          rw [sizeLine_eq]; omega
        · exact hp.elim
      · exact hp.elim
    | _ => exact hp.elim
  | @tup ds a xs ha ra =>
    cases r2 with
    | int k =>
      simp only [opMul] at hp
      split at hp
      · rename_i hk
        subst hk
        refine .inr (.inr (.inr (.inr ⟨a, 0, xs, rfl, rfl, ha, .inr ⟨rfl, fun e => here hr hp (.tup ha ?_), fun e p np => hp L _ _ (LE.refl _) (Keep.new np) (hr.new np) (.tup (.inl (.inl upd_same)) .nil)⟩⟩)))
        subst e
        exact .nil
      · split at hp
        · rename_i hk
          subst hk
          exact .inr (.inr (.inr (.inr ⟨a, 1, xs, rfl, rfl, ha, .inl ⟨rfl, here hr hp (.tup ha ra)⟩⟩)))
        · split at hp
          · rename_i hz
            refine .inr (.inr (.inr (.inl ⟨a, k, xs, rfl, rfl, ha, fun z => hz.1 (by subst z; cases ra; rfl), hz.2.1, hz.2.2.1, by rw [← ra.len]; exact hz.2.2.2, fun p np => hp L _ _ (LE.refl _) (Keep.new np) (hr.new np) (.tup (.inl (.inl upd_same)) ((ra.rep _).mono (LE.refl _) (Keep.new np)))⟩)))
          · exact hp.elim
    | _ => exact hp.elim
  | _ => exact hp.elim
/-! methods of lists -/
theorem ext_tupW (l : Addr) (items : Array Value) (n : Nat) (b : Addr) (items2 : Array Value) (n2 : Nat) (dd : Option Addr) (sl : Array (Option Value)) (q0 : ¬(!items.isEmpty && Builtin.List.listTooLong (items.size + items2.size)) = true) (q1 : items.size ≤ sizeLine) (q2 : items.size + items2.size ≤ sizeLine + 1) :
    Meets (Builtin.«list.extend» ⟨[.ref l, .ref b], []⟩) (fun _ R s => s.heap.get? l = some { cls := .type "list", dict := none, data := .seq items n, slots := #[] } ∧ s.heap.get? b = some { cls := .type "tuple", dict := dd, data := .seq items2 n2, slots := sl } ∧
      R (.ok (.ret Value.none)) { s with heap := s.heap.update l (Obj.mapSeq fun x => x ++ items2), toks := s.toks }) := by
  refine .of_wp fun prog w A R s hh => ?_
  rcases s with ⟨hp, g, d, tk, os⟩
  rcases hh with ⟨hl, hb, h⟩
  have f1 := AutoSeq1.idx_int
  have f2 := AutoSeq1.sub_tuple_tuple
  have f3 := AutoSeq1.sub_list_list
  have f4 := AutoSeq1.sub_tuple_list
  have f5 := AutoSeq1.sub_list_tuple
  have hz' : (items ++ items2).size ≤ sizeLine + 1 := by rw [Array.size_append]; exact q2
  wp_walk using (wpAny_updateSeq hl rfl (hz := q1) (_hz' := hz')), AutoSeq1.wpAny_loadPart' hl, AutoSeq1.wpAny_loadPart' hb
  exact ⟨_, rfl, h⟩
def rExtT (K : PySem.W.Frag) : V → List V → Hp → VK → Prop := fun x vs H Q => ∃ l b xs zs, x = .ref l ∧ vs = [.ref b] ∧ H l = some (.lst xs) ∧ SqT K H b zs ∧ xs.length + zs.length ≤ sizeLine ∧ Q .non (upd H l (.lst (xs ++ zs)))
theorem mt_extT : MtR X "list.extend" (rExtT X.K) := by
  intro pins s σ H x vs v us Q I rx rv h
  obtain ⟨l, b, xs, zs, rfl, rfl, hH, hB, hz, q⟩ := h
  cases rx
  obtain ⟨u, rfl, ru⟩ := Vals.one rv
  cases ru
  obtain ⟨z, its, n, r, hl, e⟩ := I.lstM hH
  obtain ⟨its2, r2, ⟨⟨cls, dd, data, sl⟩, ho, hc, n2, hd⟩, hz2⟩ := I.tuple hB
  cases (show cls = .type "tuple" from hc)
  cases (show data = .seq its2.toArray n2 from hd)
  have l2 := r2.length
  have sz : its.toArray.size + its2.toArray.size ≤ sizeLine := by rw [List.size_toArray, List.size_toArray]; omega
  have q0 : ¬ (!its.toArray.isEmpty && Builtin.List.listTooLong (its.toArray.size + its2.toArray.size)) = true := by
    rw [notLongL sz, Bool.and_false]
    exact Bool.false_ne_true
  refine call_meets F.slot_list_extend ⟨_, e, rfl⟩ F.entry_list_extend (F.args_list_extend_2 _ _) (ext_tupW l its.toArray n b its2.toArray n2 dd sl q0 (by rw [List.size_toArray]; omega) (by omega)) ⟨e, ho, ?_⟩
  exact ⟨.non, _, I.lset (its' := its ++ its2) hH e (by simp) (r.append r2) (by rw [List.length_append]; omega), rfl, q⟩
def OkM (X : Cx) (W : WX) (g : D → List D → Hv → R D) (r : V → List V → Hp → VK → Prop) : Prop := ∀ L H h (σ : L2.St) d v ds vs Q, HR X.K L H h → Rel X.K L H d v → Rels X.K L H ds vs → pR X.K X.mg L H W σ Q (g d ds h) → r v vs H Q
theorem tyL {L : List Addr} {H : Hp} {h : Hv} {d : D} {v : V} (hr : HR X.K L H h) (r : Rel X.K L H d v) (e : isLst d h = true) : tyV X.K "list" v H := by
  cases r with
  | @ref p a ea =>
    obtain ⟨o, eo⟩ := hr.ob ea
    cases o with
    | lst ds =>
      obtain ⟨xs, q, s⟩ := hr.lst p a ds eo ea
      exact .inl ⟨rfl, xs, SqL.of q⟩
    | ro ds =>
      obtain ⟨xs, q, s⟩ := hr.ro p a ds eo ea
      exact .inl ⟨rfl, xs, q.seq⟩
    | dct kvs => simp only [isLst, eo] at e; cases e
  | _ => cases e
theorem r_meth {o e : Expr} {es : List Expr} {name : Str} {apos : Pos} {id : String} {g : D → List D → Hv → R D} {r : V → List V → Hp → VK → Prop} (C : Or) {fo : EF} {fs : List EF}
    (ok : OkM X W g r) (slot : Slot "list" name id) (hty : typeOf (.builtin id) = pure (.type "method_descriptor")) (hm : MtR X id r) (ho : PE X o (tE X W (fo C))) (ha : PA X (e :: es) (tA X W (listF fs C)))
    (hbase : attributeBase o name X.env (eval o X.env) = eval o X.env) (hfew : ((backTo pos (starEach (e :: es) X.env)).all (fun x => !x.1) && (backToKw pos (keywordEach [] X.env)).all (fun x => x.1.isSome)
      && decide ((e :: es).length + ([] : List Keyword).length + (if ([] : List Keyword).isEmpty then 0 else 1) < 30)) = true) (hline : (apos.endLine == pos.line) = true)
    (hs : starEach (e :: es) X.env = (false, eval e X.env) :: starEach es X.env) (hplain : (backTo pos (starEach es X.env)).any (·.1) = false) : PE X (.Call (.Attribute o name apos) (e :: es) [] pos) (tE X W (methF g fo fs C)) :=
  PE.weak (pe_bm PySem.F.plainAttrs_list slot hty hm ho ha hbase hfew hline hs hplain) fun σ H Q ⟨L, h, env, hr, sr, hp⟩ => ⟨L, h, env, hr, sr, pRg.then_ hp fun d h1 L1 H1 v le kp hr1 r1 hp1 => by
    split at hp1
    · rename_i il
      exact ⟨tyL hr1 r1 il, L1, h1, env, hr1, sr.mono le kp, pRg.then_ hp1 fun ds h2 L2 H2 vs le2 kp2 hr2 r2 hp2 => ok L2 H2 h2 σ d v ds vs Q hr2 (r1.mono le2 kp2) r2 hp2⟩
    · exact hp1.elim⟩
theorem r_meth0 {o : Expr} {name : Str} {apos : Pos} {id : String} {g : D → List D → Hv → R D} {r : V → List V → Hp → VK → Prop} (C : Or) {fo : EF}
    (ok : OkM X W g r) (slot : Slot "list" name id) (hty : typeOf (.builtin id) = pure (.type "method_descriptor")) (hm : MtR X id r) (ho : PE X o (tE X W (fo C)))
    (hbase : attributeBase o name X.env (eval o X.env) = eval o X.env) (hline : (apos.endLine == pos.line) = true) : PE X (.Call (.Attribute o name apos) [] [] pos) (tE X W (methF g fo [] C)) :=
  PE.weak (pe_bm0 PySem.F.plainAttrs_list slot hty hm ho hbase hline) fun σ H Q ⟨L, h, env, hr, sr, hp⟩ => ⟨L, h, env, hr, sr, pRg.then_ hp fun d h1 L1 H1 v le kp hr1 r1 hp1 => by
    split at hp1
    · rename_i il
      exact ⟨tyL hr1 r1 il, ok L1 H1 h1 σ d v [] [] Q hr1 r1 .nil hp1⟩
    · exact hp1.elim⟩
theorem m_append : OkM X W mAppend rAppend := by
  intro L H h σ d v ds vs Q hr r rs hp
  unfold mAppend at hp
  split at hp
  · rename_i p d
    split at hp
    · rename_i ds e0
      split at hp
      · rename_i hz
        cases r with
        | @ref _ a ea =>
          obtain ⟨u, rfl, ru⟩ := one_of rs
          obtain ⟨xs, q, s⟩ := hr.lst p a ds e0 ea
          exact ⟨a, xs, u, rfl, rfl, q, Nat.lt_of_lt_of_le (by rw [← s.len]; exact hz) szl_le, hp L _ _ (LE.refl _) (Keep.setL q) (hr.set e0 ea (s.app (.cons ru .nil))) .non⟩
      · exact hp.elim
    · exact hp.elim
  · exact hp.elim
theorem m_pop : OkM X W mPop rPopAt := by
  intro L H h σ d v ds vs Q hr r rs hp
  unfold mPop at hp
  split at hp
  · rename_i p i
    split at hp
    · rename_i ds e0
      split at hp
      · rename_i hz
        split at hp
        · rename_i d hd
          cases r with
          | @ref _ a ea =>
            obtain ⟨u, rfl, ru⟩ := one_of rs
            cases ru
            obtain ⟨xs, q, s⟩ := hr.lst p a ds e0 ea
            obtain ⟨y, hy, ry⟩ := s.get hd
            have hlt := (List.getElem?_eq_some_iff.1 hy).1
            refine ⟨a, xs, i, i.toNat, y, rfl, rfl, q, by omega, by omega, ?_, hy, hp L _ _ (LE.refl _) (Keep.setL q) (hr.set e0 ea (s.erase _)) (ry.mono (LE.refl _) (Keep.setL q))⟩
            unfold seqIndex?
            simp only []
            rw [if_neg (show ¬ i < 0 by omega)]
            have hb : (decide (0 ≤ i) && decide (i < (xs.length : Int))) = true := by
              rw [Bool.and_eq_true, decide_eq_true_eq, decide_eq_true_eq]
              omega
            rw [if_pos hb]
        · exact hp.elim
      · exact hp.elim
    · exact hp.elim
  · exact hp.elim
theorem r_lrg {p p2 pos pos2 : Pos} {a : Expr} (C : Or) {fa : EF} (hc : X.calm = true) (hg : Gl X "list") (hm : X.mg "list" = none) (hg2 : Gl X "range") (hm2 : X.mg "range" = none) (ha : PE X a (tE X W (fa C))) (na : starEach [a] X.env = (false, eval a X.env) :: starEach [] X.env) :
    PE X (.Call (.Name "list" p) [.Call (.Name "range" p2) [a] [] pos2] [] pos) (tE X W (lrF fa C)) :=
  PE.weak (pe_listRg hc hg hm (prg_1 hg2 hm2 ha na)) fun σ H Q ⟨L, h, env, hr, sr, hp⟩ => ⟨L, h, env, hr, sr, hp.then_ fun d h1 L1 H1 v le kp hr1 r1 hp1 => by
    cases r1 <;> try exact hp1.elim
    rename_i j
    simp only at hp1
    split at hp1
    · rename_i hz
      refine ⟨j, rfl, RgOk.of_le (by omega) (by omega) (by omega) (by omega), fun q np => allocd hr1 ?_ np hp1⟩
      unfold rng rgV
      rw [Int.sub_zero]
      exact Rels.ints (fun i => 0 + (i : Nat)) _
    · exact hp1.elim⟩
theorem m_reverse : OkM X W mReverse rReverse := by
  intro L H h σ d v ds vs Q hr r rs hp
  unfold mReverse at hp
  split at hp
  · rename_i p
    split at hp
    · rename_i ds e0
      cases r with
      | @ref _ a ea =>
        cases rs
        obtain ⟨xs, q, s⟩ := hr.lst p a ds e0 ea
        exact ⟨a, xs, rfl, rfl, q, hp L _ _ (LE.refl _) (Keep.setL q) (hr.set e0 ea s.rev) .non⟩
    · exact hp.elim
  · exact hp.elim
theorem m_clear : OkM X W mClear rClear := by
  intro L H h σ d v ds vs Q hr r rs hp
  unfold mClear at hp
  split at hp
  · rename_i p
    split at hp
    · rename_i ds e0
      cases r with
      | @ref _ a ea =>
        cases rs
        obtain ⟨xs, q, s⟩ := hr.lst p a ds e0 ea
        exact ⟨a, xs, rfl, rfl, q, hp L _ _ (LE.refl _) (Keep.setL q) (hr.set e0 ea .nil) .non⟩
    · exact hp.elim
  · exact hp.elim
def rExtA (K : PySem.W.Frag) : V → List V → Hp → VK → Prop := fun x vs H Q => rExtend x vs H Q ∨ rExtT K x vs H Q
theorem mt_extA : MtR X "list.extend" (rExtA X.K) := MtR.or mt_extend mt_extT
theorem m_extend : OkM X W mExtend (rExtA X.K) := by
  intro L H h σ d v ds vs Q hr r rs hp
  unfold mExtend at hp
  split at hp
  · rename_i p es
    split at hp
    · rename_i ds e0
      split at hp
      · rename_i hz
        cases r with
        | @ref _ a ea =>
          obtain ⟨u, rfl, ru⟩ := one_of rs
          cases ru with
          | @tup _ b ys hb rb =>
            obtain ⟨xs, q, s⟩ := hr.lst p a ds e0 ea
            exact .inr ⟨a, b, xs, ys, rfl, rfl, q, hb, Nat.le_trans (by rw [← s.len, ← rb.len]; exact hz) szl_le, hp L _ _ (LE.refl _) (Keep.setL q) (hr.set e0 ea (s.app rb)) .non⟩
      · exact hp.elim
    · exact hp.elim
  · rename_i p q'
    split at hp
    · rename_i ds es e0 e1
      split at hp
      · rename_i hz
        cases r with
        | @ref _ a ea =>
          obtain ⟨u, rfl, ru⟩ := one_of rs
          cases ru with
          | @ref _ b eb =>
            obtain ⟨xs, q, s⟩ := hr.lst p a ds e0 ea
            obtain ⟨ys, qb, sb⟩ := hr.lst _ b es e1 eb
            exact .inl ⟨a, b, xs, ys, rfl, rfl, q, qb, Nat.le_trans (by rw [← s.len, ← sb.len]; exact hz) szl_le, hp L _ _ (LE.refl _) (Keep.setL q) (hr.set e0 ea (s.app sb)) .non⟩
      · exact hp.elim
    · exact hp.elim
  · exact hp.elim
end
end VM

set_option maxRecDepth 100000
set_option maxHeartbeats 4000000
namespace VM
open PySem PySem.Spec PyProof.Rows L2
section
variable {X : Cx} {W : WX} {pos : Pos}
/-! x or y, of tuples -/
theorem r_orT {a b : Expr} (C : Or) {fa fb : EF} (ha : PE X a (tE X W (fa C))) (hb : PE X (.BoolOp .Or [b] pos) (tE X W (fb C))) : PE X (.BoolOp .Or [a, b] pos) (tE X W (orT fa fb C)) :=
  PE.weak (pe_orT ha hb) fun σ H Q ⟨L, h, env, hr, sr, hp⟩ => ⟨L, h, env, hr, sr, pRg.then_ hp fun d1 h1 L1 H1 v1 le kp hr1 r1 hp1 => by
    cases r1 with
    | @tup ds a xs ha ra =>
      cases ra with
      | nil => exact ⟨false, .inr (.inl ⟨[], ha, rfl⟩), by rw [if_neg (by decide)]; exact ⟨L1, h1, env, hr1, sr.mono le kp, hp1⟩⟩
      | cons r t => exact ⟨true, .inr (.inl ⟨_, ha, rfl⟩), by rw [if_pos rfl]; exact here hr1 hp1 (.tup ha (.cons r t))⟩
    | _ => exact hp1.elim⟩
/-! an exception with a place: its __init__ -/
/-- self, a fresh exception of the class at C, gets its at -/
def spInit (K : PySem.W.Frag) : Sp := fun vs H Q _ => ∃ (a C : Addr) (y : V), vs = [.ref a, y] ∧ OexC K C ∧ PySem.W.findIn K (.ref C) "at" = some none ∧ H a = some (exo a C none) ∧
  ∀ dx, H dx = none → dx ≠ a → Q .non (upd (upd H dx (exd dx [("at", y)])) a (exo a C (some dx)))
/-- the class above it, whose __init__ is ValueError's -/
structure TeOk (K : PySem.W.Frag) (C : Addr) (mc : Value) : Prop where
  ga : PySem.W.specialIn K (.ref C) "__getattribute__" = some (some (.builtin "type.__getattribute__"))
  ty : PySem.W.typeIn K (.ref C) = some mc
  rd : PySem.W.readsIn K C mc = true
  fi : PySem.W.findCls K (.ref C) mc "__init__" = some (.val (.builtin "ValueError.__init__"))
theorem pe_oinit {x : Str} {C : Addr} {mc : Value} {e : Expr} {es : List Expr} {ta : TA} {p1 p2 : Pos} (T : TeOk X.K C mc) (hg : Gl X x) (hm : X.mg x = some (.ref C)) (hd : (x == ("__debug__" : Str)) = false) (ha : PA X (e :: es) ta)
    (hf : methodCallForm ((e :: es).length + ([] : List Keyword).length) (backTo pos (starEach (e :: es) X.env)) (backToKw pos (keywordEach [] X.env)) = true) (hl : (p2.endLine == pos.line) = true)
    (s1 : starEach (e :: es) X.env = (false, eval e X.env) :: starEach es X.env) (s2 : (backTo pos (starEach es X.env)).any (·.1) = false) :
    PE X (.Call (.Attribute (.Name x p1) "__init__" p2) (e :: es) [] pos) (tVeI X.K ta) := by
  refine ⟨fun pins s σ H Q I w => ?_⟩
  have ev : eval (.Call (.Attribute (.Name x p1) "__init__" p2) (e :: es) [] pos) X.env = (do
      let ov ← eval (.Name x p1) X.env
      standAt p2.atName
      let (f, first) ← holding [ov] (getMethod ov "__init__" (plainOf (.Name x p1) X.env))
      callWith pos f first (backTo pos (starEach (e :: es) X.env)) (backToKw pos (keywordEach [] X.env))) := by
    rw [arm_eval_Call, show attributeBase (.Name x p1) "__init__" X.env (eval (.Name x p1) X.env) = eval (.Name x p1) X.env from rfl]
    simp only [mcall_line hf hl]
  refine PySem.W.methodCall_KW (ld_glob I hg hm ?_ hd) ev
  obtain ⟨m, fr⟩ := I.fr
  refine PySem.W.method_of_cls fr I.ok.mod.kin T.ga (PySem.W.cls_val fr I.ok.mod.kin T.ty T.rd T.fi (by decide +kernel) ?_)
  refine PyProof.Rows.callWith_method1 (thn (ha.run pos pins _ σ H _ (I.tok _) w) fun us s1 hh => ?_) s1 s2
  obtain ⟨vs, H1, I1, r1, a, C, ws, rfl, hl, T1, ea, q⟩ := hh
  cases r1 with
  | @cons _ u0 _ ur ra rw' =>
    cases (show u0 = Value.ref a from ra)
    have hn := Paired.length rw'
    exact oinit_ok T1 I1 ea (by rw [← hn, sizeLine_eq]; omega) fun s' J => ⟨.non, H1, J, rfl, q⟩
end
/-- the def __init__ -/
theorem init_ok {P : Program} {w : World} {K : PySem.W.Frag} {mg : Str → Option Value} {base : Heap} {qual x m : Str} {args : Arguments} {scope : Scope} {f : Addr} {fd : FuncData} {C0 : Addr} {mc : Value} {j : Nat} {p1 p2 p3 p4 p5 p6 p7 p8 p9 p10 : Pos}
    (F : FunD K "__init__" qual args [.Expr (.Call (.Attribute (.Name x p1) "__init__" p2) [.Name "self" p3, .Constant (.str m) j p4] [] p5) p6, .Assign [.Attribute (.Name "self" p7) "at" p8] (.Name "at" p9) p10] scope [] [] f fd)
    (sc : FnScope ["self", "at"] ["self", "at"] scope) (hg : scope.names.lookup x = some .globalImplicit) (hv1 : scope.names.lookup ("self" : Str) = some .local) (hv2 : scope.names.lookup ("at" : Str) = some .local) (hm : mg x = some (.ref C0)) (hd : (x == ("__debug__" : Str)) = false) (T : TeOk K C0 mc) (hl : (p2.endLine == p5.line) = true) :
    FnOk P w K mg base (L2.CX P w) 1 f fd ["self", "at"] (spInit K) := by
  refine F.ok sc (fun vs H Q E h => by obtain ⟨a, C, y, rfl, _⟩ := h; rfl) (fun cdv A outer s H vs Q E hr h => ?_)
  obtain ⟨a, C, y, rfl, T1, no, ea, hq⟩ := h
  refine ⟨_, pss_cons (ps_expr (pe_oinit T hg hm hd (pa_cons (pe_var (i := 0) rfl (.inl hv1) (by decide) (by decide)) (pa_cons pe_str pa_nil)) rfl hl (by rfl) (by rfl)) (by rfl)) (pss_one (ps_ost (pe_var (i := 0) rfl (.inl hv1) (by decide) (by decide)) (pe_var (i := 1) rfl (.inl hv2) (by decide) (by decide)) rfl)), ?_⟩
  refine ⟨.ref a, rfl, a, C, _, rfl, by show 1 ≤ 1000; decide, T1, ea, y, rfl, .ref a, rfl, a, C, rfl, T1, no, .inl ⟨ea, hq⟩⟩
/-- what the text says of a class: raise x("..") -/
structure X0Ok (K : PySem.W.Frag) (Ca : Addr) : Prop where
  ex : PySem.W.excIn K Ca He.veBase "ValueError.__new__" = true
  kp : PySem.W.keepIn K (.ref Ca) = true
  sb : PySem.W.subIn K (.ref Ca) (.type "BaseException") = some true
  ty : PySem.W.typeIn K (.ref Ca) = some (.type "type")
/-- raise x(e), e is its at -/
def X1Ok (X : Cx) (Ca : Addr) : Prop := (∃ (fI : Addr) (fd : FuncData), PySem.W.findIn X.K (.ref Ca) "__init__" = some (some (.ref fI)) ∧ PySem.W.typeIn X.K (.ref fI) = some (.type "function") ∧
    Binds X.K fd ["self", "at"] [] ∧ (X.calm = true → Room 2 X.A) ∧ FnOk X.prog X.w X.K X.mg X.base (L2.CX X.prog X.w) 1 fI fd ["self", "at"] (spInit X.K)) ∧ OexC X.K Ca ∧ PySem.W.findIn X.K (.ref Ca) "at" = some none ∧ XfC X.K Ca
def XOk (X : Cx) (b : Bool) (Ca : Addr) : Prop := if b = true then X1Ok X Ca else X0Ok X.K Ca
section
variable {X : Cx} {W : WX} {pos : Pos}
theorem r_raise0 {x m : Str} {j : Nat} {p p2 p3 : Pos} {Ca : Addr} (C : Or) (hc : X.calm = true) (tk : Takes X W) (hg : Gl X x) (hm : X.mg x = some (.ref Ca)) (o : X0Ok X.K Ca) (hd : (x == ("__debug__" : Str)) = false) :
    PS X (.Raise (some (.Call (.Name x p) [.Constant (.str m) j p2] [] p3)) none pos) (tS X W (raiS x (conF .non) C)) :=
  PS.weak (ps_raise hc tk (pmk_own PySem.F.excBase_ValueError o.ex hm o.kp (raises_own o.sb o.ty) hg hd)) fun D_ σ H ⟨L, h, env, hr, sr, hp⟩ => hp L H σ (.ref Ca) none (LE.refl _) (Keep.refl _) hr sr ⟨hm, .inl ⟨rfl, rfl⟩⟩
theorem xd_heap {H1 : Hp} {a dx : Addr} {e0 e1 D u : HO} (ha : H1 a = none) (hne : dx ≠ a) : upd (del (upd (upd (upd H1 a e0) dx D) a e1) a) dx u = upd H1 dx u := by
  funext b
  by_cases hb : b = dx
  · subst hb; rw [upd_same, upd_same]
  · rw [upd_ne hb, upd_ne hb]
    by_cases hb2 : b = a
    · subst hb2; rw [del_same, ha]
    · rw [del_ne hb2, upd_ne hb2, upd_ne hb, upd_ne hb2]
theorem r_raise1 {x : Str} {e : Expr} {p p3 : Pos} {Ca : Addr} (C : Or) {fe : EF} (hc : X.calm = true) (tk : Takes X W) (hg : Gl X x) (hm : X.mg x = some (.ref Ca)) (o : X1Ok X Ca) (hd : (x == ("__debug__" : Str)) = false) (he : PE X e (tE X W (fe C)))
    (s1 : starEach [e] X.env = (false, eval e X.env) :: starEach [] X.env) : PS X (.Raise (some (.Call (.Name x p) [e] [] p3)) none pos) (tS X W (raiS x fe C)) := by
  obtain ⟨⟨fI, fd, iC, tI, bd, rm, F1⟩, T, no, xf⟩ := o
  refine PS.weak (ps_raise hc tk (pmk_oex T iC tI F1 (rm hc) bd .nil (passes_call tk (E := fun _ _ _ => False) fun _ _ _ _ z => z.elim) hg hm (a_cons (W := W) C he (a_nil C) s1) hd s1 rfl)) fun D_ σ H ⟨L, h, env, hr, sr, hp⟩ => ⟨L, h, env, hr, sr, ?_⟩
  have hp' : pS X.K X.mg L H W D_ ((fe C env h).thenS env fun d h1 => .exc x d env h1) := hp
  show pA X.K X.mg L H W σ _ ((fe C env h).bind fun d h1 => .ok [d] h1)
  cases q : fe C env h with
  | stuck => rw [q] at hp'; exact hp'.elim
  | exc c d h1 =>
    rw [q] at hp'
    exact fun L1 H1 cv dx le kp hr1 ex => hp' L1 H1 σ cv dx le kp hr1 (sr.mono le kp) ex
  | ok d h1 =>
    rw [q] at hp'
    intro L1 H1 vs le kp hr1 rs
    obtain ⟨v, rfl, rv⟩ := one_of rs
    refine ⟨by show 1 ≤ 1000; decide, fun a na => ⟨a, Ca, v, rfl, T, no, upd_same, fun dx ndx hne => ?_⟩⟩
    have n1 : H1 dx = none := by rw [upd_ne hne] at ndx; exact ndx
    refine ⟨rfl, dx, [("at", v)], upd_same, by rw [upd_ne hne]; exact upd_same, n1, ?_⟩
    rw [xd_heap na hne]
    have kN : Keep X.K H1 (upd H1 dx (.xd [("at", v)])) := Keep.new n1
    exact hp' L1 _ σ (.ref Ca) (some dx) le (kp.trans kN) (hr1.new n1) (sr.mono le (kp.trans kN)) ⟨hm, .inr ⟨dx, v, rfl, upd_same, rv.mono (LE.refl _) kN⟩⟩
/-! try -/
theorem pS.noexc {K : PySem.W.Frag} {mg : Str → Option Value} {L : List Addr} {H : Hp} {W W' : WX} {D_ : Ends} {r : SR} (p : pS K mg L H W D_ r.noexc) : pS K mg L H W' D_ r := by
  cases r with
  | exc _ _ _ _ => exact p.elim
  | _ => exact p
/-- the clauses without a name -/
inductive HRel (X : Cx) (C : Or) (ks : List Str) : List ExceptHandler → List (Str × Hd) → List (Value × (Addr → Value → Option Addr → TS)) → Prop
  | nil : HRel X C ks [] [] []
  | cons {x : Str} {Cx_ : Addr} {b₀ : Stmt} {suite : List Stmt} {np pos' : Pos} {hds : List ExceptHandler} {hs : List (Str × Hd)} {l : List (Value × (Addr → Value → Option Addr → TS))} {f : SF} (hk : x ∈ ks) (hm : X.mg x = some (.ref Cx_)) (hc : Names X x (.ref Cx_))
      (hsu : ∀ (a : Addr) (oe : Obj) (cls : Value) (d : Option Addr) (pn : List (Addr × Obj)), Zc cls d oe → (∃ vs, oe.data = .fields vs) → PSs (X.suite a ((a, oe) :: pn)) (b₀ :: suite) (tS X W0 (f C))) (r : HRel X C ks hds hs l) :
      HRel X C ks (.ExceptHandler (some (.Name x np)) none (b₀ :: suite) pos' :: hds) ((x, .su f) :: hs) ((.ref Cx_, fun _ _ _ => tS X W0 (f C)) :: l)
theorem HRel.ok {C : Or} {ks : List Str} {hds : List ExceptHandler} {hs : List (Str × Hd)} {l : List (Value × (Addr → Value → Option Addr → TS))} (r : HRel X C ks hds hs l) : HdsOk X hds l := by
  induction r with
  | nil => exact .nil
  | cons hk hm hc hsu r ih => exact .cons hc hsu ih
/-- the classes that are known -/
def KnX (X : Cx) (ks : List Str) : Prop := ∀ x ∈ ks, ∀ y ∈ ks, ∃ Cx Cy, X.mg x = some (.ref Cx) ∧ X.mg y = some (.ref Cy) ∧ PySem.W.exmOne X.K (.ref Cx) (.ref Cy) = some (decide (x = y))
theorem s_try {body : List Stmt} {h0 : ExceptHandler} {hds : List ExceptHandler} {ks : List Str} {hs : List (Str × Hd)} {l : List (Value × (Addr → Value → Option Addr → TS))} (C : Or) {fb : SF} (hst : X.stack = X.env :: X.outer) (hfr : X.env.frame = some X.env.locals) (tk : Takes X W) (kn : KnX X ks)
    (hb : ∀ (W' : WX) (pn : List (Addr × Obj)) (xe : Value → Shared → Prop), Takes (X.tr pn xe) W' → PassesOwn (model X.prog X.w) X.A X.env xe → PSs (X.tr pn xe) body (tS X W' (fb C)))
    (hh : HRel X C ks (h0 :: hds) hs l) : PS X (.Try body (h0 :: hds) [] [] pos) (tS X W (tryS ks fb hs C)) := by
  refine PS.weak (ps_try_many (tb := fun W' => tS X W' (fb C)) hst hfr tk hb hh.ok) fun D_ σ H ⟨L, h, env, hr, sr, hp⟩ => ⟨L, h, env, hr, sr, ?_⟩
  unfold tryS at hp
  cases q : fb C env h with
  | nx _ _ => rw [q] at hp; exact hp
  | bk _ _ => rw [q] at hp; exact hp
  | ct _ _ => rw [q] at hp; exact hp
  | rt _ _ => rw [q] at hp; exact hp
  | stuck => rw [q] at hp; exact hp
  | exc c d env1 h1 =>
    rw [q] at hp
    simp only at hp
    split at hp
    · rename_i hc
      have hc' : c ∈ ks := List.contains_iff_mem.mp hc
      intro L1 H1 σ1 cv dx le kp hr1 sr1 ex
      have go : ∀ {hds' : List ExceptHandler} {hs' : List (Str × Hd)} {l' : List (Value × (Addr → Value → Option Addr → TS))}, HRel X C ks hds' hs' l' → pS X.K X.mg L H W D_ (match hs'.lookup c with
          | some g => (runHd g d C env1 h1).noexc
          | none => .exc c d env1 h1) → wMany X.K W D_ l' cv dx σ1 H1 := by
        intro hds' hs' l' r
        induction r with
        | nil => exact fun hp => hp L1 H1 σ1 cv dx le kp hr1 sr1 ex
        | @cons x Cx_ b₀ suite np pos' hds hs l f hk hm _ hsu r ih =>
          intro hp
          obtain ⟨Cc, Cy, m1, m2, em⟩ := kn c hc' x hk
          have e1 : cv = .ref Cc := by have z := ex.1; rw [m1] at z; cases z; rfl
          rw [hm] at m2
          cases m2
          refine ⟨decide (c = x), by rw [e1]; exact em, fun hb a na => ?_, fun hb => ?_⟩
          · have ecx := of_decide_eq_true hb
            subst ecx
            rw [List.lookup_cons, beq_self_eq_true] at hp
            exact ⟨L1, h1, env1, hr1, sr1, (pS.mono (pS.noexc (W' := W0) hp) le kp)⟩
          · have ecx := of_decide_eq_false hb
            have eb : (c == x) = false := by simpa using ecx
            rw [List.lookup_cons, eb] at hp
            exact ih hp
      exact go hh hp
    · exact hp.elim
/-- except x as n: return n.at -/
theorem s_tryAt {body : List Stmt} {x n : Str} {i : Nat} {ks : List Str} {g : Hd} {st : Stmt} {np pos' p1 p2 p3 p4 p5 : Pos} {j kk : Nat} {m : Str} {Ca : Addr} (C : Or) {fb : SF} (hst : X.stack = X.env :: X.outer) (hfr : X.env.frame = some X.env.locals) (tk : Takes X W) (kn : KnX X ks)
    (hb : ∀ (W' : WX) (pn : List (Addr × Obj)) (xe : Value → Shared → Prop), Takes (X.tr pn xe) W' → PassesOwn (model X.prog X.w) X.A X.env xe → PSs (X.tr pn xe) body (tS X W' (fb C)))
    (hN : X.N.Nodup) (hi : X.N[i]? = some n) (hl : X.env.scope.names.lookup n = some .local) (hk : x ∈ ks) (hm : X.mg x = some (.ref Ca)) (hc : Names X x (.ref Ca)) (xf : XfC X.K Ca) (no : PySem.W.findIn X.K (.ref Ca) "at" = some none) (d1 : (n == ("__debug__" : Str)) = false) (d2 : (n == ("__classdict__" : Str)) = false)
    (hg : (g = .at_ i ∧ st = .Return (some (.Attribute (.Name n p1) "at" p2)) p3) ∨ (g = .pr i m ∧ st = .Return (some (.Tuple [.Constant (.str m) j p4, .Attribute (.Name n p1) "at" p2] kk p5)) p3)) :
    PS X (.Try body [.ExceptHandler (some (.Name x np)) (some n) [st] pos'] [] [] pos) (tS X W (tryS ks fb [(x, g)] C)) := by
  have at_ : ∀ (a : Addr) (oe : Obj) (cls : Value) (d : Option Addr) (pn : List (Addr × Obj)), Zc cls d oe → (∃ vs, oe.data = .fields vs) → PE (X.suite a ((a, oe) :: pn)) (.Attribute (.Name n p1) "at" p2) (tXf a cls d Ca "at" fun σ H Q => ∃ v, σ[i]? = some (some v) ∧ Q v H) := fun a oe cls d pn hz hf =>
    pe_xf xf no hz hf (pe_var (X := X.suite a ((a, oe) :: pn)) hi (.inl hl) d1 d2)
  have suite_ : ∃ ts : Addr → Value → Option Addr → TS, (∀ (a : Addr) (oe : Obj) (cls : Value) (d : Option Addr) (pn : List (Addr × Obj)), Zc cls d oe → (∃ vs, oe.data = .fields vs) → PSs (X.suite a ((a, oe) :: pn)) [st] (ts a cls d)) ∧
      ∀ (a dd : Addr) (v : V) (dv : D) (D_ : Ends) (σ : L2.St) (H : Hp) (L : List Addr) (h1 : Hv) (env : Env), i < env.length → dv ≠ .non → H dd = some (.xd [("at", v)]) → HR X.K L H h1 → Rel X.K L H dv v → pS X.K X.mg L H W D_ (runHd g dv C env h1) → i < σ.length → ts a (.ref Ca) (some dd) D_ (σ.set i (some (.ref a))) H := by
    rcases hg with ⟨rfl, rfl⟩ | ⟨rfl, rfl⟩
    · refine ⟨_, fun a oe cls d pn hz hf => pss_one (ps_ret (at_ a oe cls d pn hz hf)), fun a dd v dv D_ σ H L h1 env hi2 nd hH hr rv hp hs => ?_⟩
      simp only [runHd] at hp
      rw [if_neg (by simp only [not_or]; exact ⟨nd, by omega⟩)] at hp
      exact ⟨.ref a, by rw [List.getElem?_set_self hs], rfl, rfl, dd, _, v, rfl, hH, rfl, hp L H v (LE.refl _) (Keep.refl _) hr rv⟩
    · refine ⟨_, fun a oe cls d pn hz hf => pss_one (ps_ret (pe_tup (pa_cons pe_str (pa_cons (at_ a oe cls d pn hz hf) pa_nil)))), fun a dd v dv D_ σ H L h1 env hi2 nd hH hr rv hp hs => ?_⟩
      simp only [runHd] at hp
      rw [if_neg (by simp only [not_or]; exact ⟨nd, by omega⟩)] at hp
      refine ⟨.ref a, by rw [List.getElem?_set_self hs], rfl, rfl, dd, _, v, rfl, hH, rfl, by rw [sizeLine_eq]; show 2 ≤ _; decide, fun p np => ?_⟩
      exact hp L _ _ (LE.refl _) (Keep.new np) (hr.new np) (.tup (.inl (.inl upd_same)) (.cons (.str m) (.cons (rv.mono (LE.refl _) (Keep.new np)) .nil)))
  obtain ⟨ts, su1, su2⟩ := suite_
  refine PS.weak (ps_try_as (tb := fun W' => tS X W' (fb C)) hst hfr hN hi hl hc tk hb su1) fun D_ σ H ⟨L, h, env, hr, sr, hp⟩ => ⟨L, h, env, hr, sr, ?_⟩
  unfold tryS at hp
  cases q : fb C env h with
  | nx _ _ => rw [q] at hp; exact hp
  | bk _ _ => rw [q] at hp; exact hp
  | ct _ _ => rw [q] at hp; exact hp
  | rt _ _ => rw [q] at hp; exact hp
  | stuck => rw [q] at hp; exact hp
  | exc c d env1 h1 =>
    rw [q] at hp
    simp only at hp
    split at hp
    · rename_i hc2
      intro L1 H1 σ1 cv dx le kp hr1 sr1 ex
      obtain ⟨Cc, Cy, m1, m2, em⟩ := kn c (List.contains_iff_mem.mp hc2) x hk
      have e1 : cv = .ref Cc := by have z := ex.1; rw [m1] at z; cases z; rfl
      rw [hm] at m2
      cases m2
      refine ⟨decide (c = x), by rw [e1]; exact em, fun hb a na => ?_, fun hb => ?_⟩
      · have ecx := of_decide_eq_true hb
        subst ecx
        rw [List.lookup_cons, beq_self_eq_true] at hp
        rw [hm] at m1
        cases m1
        have hp2 : pS X.K X.mg L H W D_ (runHd g d C env1 h1) := pS.noexc hp
        have ok : d ≠ .non ∧ i < env1.length := by
          rcases hg with ⟨rfl, _⟩ | ⟨rfl, _⟩
          all_goals
            simp only [runHd] at hp2
            split at hp2
            · exact hp2.elim
            · rename_i z; simp only [not_or] at z; exact ⟨z.1, by omega⟩
        rcases ex.2 with ⟨z, _⟩ | ⟨pp, v, rfl, hH, rv⟩
        · exact absurd z ok.1
        · rw [e1]
          have := su2 a pp v d { nx := fun σ' H' => D_.nx (σ'.set i none) H', rt := D_.rt, bk := fun σ' H' => D_.bk (σ'.set i none) H', ct := fun σ' H' => D_.ct (σ'.set i none) H' } σ1 H1 L1 h1 env1 ok.2 ok.1 hH hr1 rv (by
            have hp3 := pS.mono hp2 le kp
            rcases hg with ⟨rfl, _⟩ | ⟨rfl, _⟩
            all_goals
              have nn : ¬ (d = .non ∨ env1.length ≤ i) := by simp only [not_or]; exact ⟨ok.1, by omega⟩
              simp only [runHd] at hp3 ⊢
              rw [if_neg nn] at hp3 ⊢
              exact hp3) (by rw [← sr1.len]; exact ok.2)
          exact this
      · have ecx := of_decide_eq_false hb
        have eb : (c == x) = false := by simpa using ecx
        rw [List.lookup_cons, eb] at hp
        exact hp L1 H1 σ1 cv dx le kp hr1 sr1 ex
    · exact hp.elim
end
end VM

set_option maxRecDepth 100000
set_option maxHeartbeats 1000000
namespace VM
open PySem PySem.Spec PyProof.Rows L2
/-! dicts: displays, get -/
section
variable {X : Cx} {W : WX} {pos : Pos}
theorem KRs.merge {K : PySem.W.Frag} {L : List Addr} {H : Hp} : ∀ {more : List (DKey × D)} {ws : List (Key × V)} {kvs : List (DKey × D)} {us : List (Key × V)}, KRs K L H more ws → KRs K L H kvs us → KRs K L H (mergeD kvs more) (mergeK us ws)
  | [], [], _, _, _, r => r
  | [], q :: us, _, _, r, _ => by have := r.len; simp at this
  | p :: kvs, [], _, _, r, _ => by have := r.len; simp at this
  | (a, d) :: more, (b, v) :: ws, kvs, us, r, t => by
    obtain ⟨e, r⟩ := r
    simp only [List.map_cons, List.cons.injEq] at e r
    obtain ⟨rfl, e⟩ := e
    cases r with
    | cons r q => exact KRs.merge (more := more) (ws := ws) ⟨e, q⟩ (t.put a r)
theorem pairs_ok (C : Or) {env : Env} {σ : L2.St} : ∀ (es : List (EF × EF)) {L : List Addr} {H : Hp} {h : Hv} {Q2 : List (Key × V) → Hp → Prop} {Q : List (V × V) → Hp → Prop}, HR X.K L H h → SRel X.K L H env σ → pRg (KRs X.K) X.K X.mg L H W σ Q2 (pairsF es C env h) →
    (∀ us H', Q2 us H' → Q (us.map fun kv => (kV kv.1, kv.2)) H') → tPairs (es.map fun p => (tE X W (p.1 C), tE X W (p.2 C))) σ H Q
  | [], L, H, h, Q2, Q, hr, sr, hp, w => w [] H (hp L H [] (LE.refl L) (Keep.refl H) hr KRs.nil)
  | p :: r, L, H, h, Q2, Q, hr, sr, hp, w =>
    ⟨L, h, env, hr, sr, pRg.then_ hp fun x h1 L1 H1 v le kp hr1 r1 hp1 => ⟨L1, h1, env, hr1, sr.mono le kp, pRg.then_ hp1 fun y h2 L2 H2 u le2 kp2 hr2 r2 hp2 => by
      refine pairs_ok C r (Q2 := fun us' H3 => Q ((v, u) :: us'.map fun kv => (kV kv.1, kv.2)) H3) hr2 ((sr.mono le kp).mono le2 kp2) (pRg.then_ hp2 fun ps h3 L3 H3 us le3 kp3 hr3 r3 hp3 => ?_) fun us H' q => q
      split at hp3
      · rename_i k ek
        rw [key_rel r1 ek]
        exact w ((k, u) :: us) H3 (hp3 L3 H3 ((k, u) :: us) (LE.refl _) (Keep.refl _) hr3 (KRs.cons (r2.mono le3 kp3) r3))
      · exact hp3.elim⟩⟩
theorem r_disp {keys : List (Option Expr)} {values : List Expr} (C : Or) (es : List (EF × EF)) (h : PPs X pos keys values (es.map fun p => (tE X W (p.1 C), tE X W (p.2 C)))) (hall : keys.all (·.isSome) = true) (hl : keys.length = values.length) (h0 : keys ≠ [])
    (h15 : keys.length ≤ 15) : PE X (.Dict keys values pos) (tE X W (dctF es C)) :=
  PE.weak (pe_disp h hall hl h0 h15) fun σ H Q ⟨L, h, env, hr, sr, hp⟩ => fun p np => by
    have le := LE.app L [p]
    have kp : Keep X.K H (upd H p (.dK [])) := Keep.new np
    refine pairs_ok C es (Q2 := fun us H2 => H2 p = some (.dK []) ∧ us.length ≤ 15 ∧ Q (.ref p) (upd H2 p (.dK (mergeK [] us)))) (hr.allocD np KRs.nil) (sr.mono le kp) (pRg.then_ (pRg.mono hp le kp) fun ps h2 L2 H2 us le2 kp2 hr2 r2 hp2 => ?_) fun us H' ⟨q1, q2, q3⟩ => ⟨q1, us, rfl, q2, q3⟩
    split at hp2
    · rename_i hc
      have ea : L2[h.length]? = some p := le2 _ _ (by rw [← hr.len]; simp)
      obtain ⟨us0, q, s⟩ := hr2.dct h.length p [] hc.1 ea
      have e0 : us0 = [] := by have := s.len; simpa using this.symm
      subst e0
      exact ⟨q, by rw [← r2.len]; exact hc.2, hp2 L2 _ (.ref p) (LE.refl _) (Keep.setD q) (hr2.setD hc.1 ea (KRs.merge r2 KRs.nil)) (.ref ea)⟩
    · exact hp2.elim
theorem r_disp0 (C : Or) : PE X (.Dict [] [] pos) (tE X W (dctF [] C)) :=
  PE.weak pe_dnewK fun σ H Q ⟨L, h, env, hr, sr, hp⟩ => fun p np => by
    unfold dctF pairsF at hp
    simp only [R.bind] at hp
    split at hp
    · have z := hr.allocD np (ds := []) KRs.nil
      have e : (h ++ [Ob.dct []]).set h.length (.dct (mergeD [] [])) = h ++ [Ob.dct []] := by simp [mergeD, List.set_append]
      rw [e] at hp
      exact hp (L ++ [p]) _ (.ref p) (LE.app L [p]) (Keep.new np) z (.ref (by rw [← hr.len]; simp))
    · exact hp.elim
def rGetK : V → List V → Hp → VK → Prop := fun x xs H Q => ∃ a us k, x = .ref a ∧ H a = some (.dK us) ∧ ((xs = [kV k] ∧ Q ((valV us k).getD .non) H) ∨ ∃ d, xs = [kV k, d] ∧ Q ((valV us k).getD d) H)
theorem mt_get : MtR X "dict.get" rGetK := by
  intro pins s σ H x xs v us Q I rx rs h
  obtain ⟨a, kvs, k, rfl, e, h⟩ := h
  cases rx
  obtain ⟨z, hd, vs, rel, dd⟩ := dk_of I.hok e
  rcases h with ⟨rfl, q⟩ | ⟨d, rfl, q⟩
  · obtain ⟨u, rfl, ru⟩ := vals1 rs
    exact call_meetsIn PySem.F.slot_dict_get dd.typeIs PySem.F.entry_dict_get (PySem.F.args_dict_get_2 _ _) (meets_dict_get (mixKind X.prog X.w) a (kV_is ru) hd) ⟨_, dd.mapOf, (valV kvs k).getD .non, H, I.tok _, (rel.val k).getD (show RelV .non Value.none from rfl), q⟩
  · obtain ⟨u, r, rfl, ru, rd⟩ := vals2 rs
    exact call_meetsIn PySem.F.slot_dict_get dd.typeIs PySem.F.entry_dict_get (PySem.F.args_dict_get_3 _ _ _) (meets_dict_get_default (mixKind X.prog X.w) a (kV_is ru) hd r) ⟨_, dd.mapOf, (valV kvs k).getD d, H, I.tok _, (rel.val k).getD rd, q⟩
theorem m_get : OkM X W mGet rGetK := by
  intro L H h σ d v ds vs Q hr r rs hp
  unfold mGet at hp
  split at hp
  · rename_i kvs k e
    obtain ⟨i, a, us, rfl, rfl, ea, e0, q, s⟩ := dct_of hr r e
    split at hp
    · rename_i key ek
      obtain ⟨u, rfl, ru⟩ := one_of rs
      refine ⟨a, us, key, rfl, q, .inl ⟨by rw [key_rel ru ek], ?_⟩⟩
      rcases s.get key with ⟨g1, g2⟩ | ⟨d, v, g1, g2, rd⟩
      · rw [g1] at hp; rw [g2]; exact here hr hp .non
      · rw [g1] at hp; rw [g2]; exact here hr hp rd
    · exact hp.elim
  · rename_i kvs k d e
    obtain ⟨i, a, us, rfl, rfl, ea, e0, q, s⟩ := dct_of hr r e
    split at hp
    · rename_i key ek
      cases rs with
      | cons ru rs =>
        cases rs with
        | cons rd rs =>
          cases rs
          refine ⟨a, us, key, rfl, q, .inr ⟨_, by rw [key_rel ru ek], ?_⟩⟩
          rcases s.get key with ⟨g1, g2⟩ | ⟨d, v, g1, g2, rg⟩
          · rw [g1] at hp; rw [g2]; exact here hr hp rd
          · rw [g1] at hp; rw [g2]; exact here hr hp rg
    · exact hp.elim
  · exact hp.elim
theorem r_methD {o e : Expr} {es : List Expr} {name : Str} {apos : Pos} {id : String} {g : D → List D → Hv → R D} {r : V → List V → Hp → VK → Prop} (C : Or) {fo : EF} {fs : List EF}
    (ok : OkM X W g r) (slot : Slot "dict" name id) (hty : typeOf (.builtin id) = pure (.type "method_descriptor")) (hm : MtR X id r) (ho : PE X o (tE X W (fo C))) (ha : PA X (e :: es) (tA X W (listF fs C)))
    (hbase : attributeBase o name X.env (eval o X.env) = eval o X.env) (hfew : ((backTo pos (starEach (e :: es) X.env)).all (fun x => !x.1) && (backToKw pos (keywordEach [] X.env)).all (fun x => x.1.isSome)
      && decide ((e :: es).length + ([] : List Keyword).length + (if ([] : List Keyword).isEmpty then 0 else 1) < 30)) = true) (hline : (apos.endLine == pos.line) = true)
    (hs : starEach (e :: es) X.env = (false, eval e X.env) :: starEach es X.env) (hplain : (backTo pos (starEach es X.env)).any (·.1) = false) : PE X (.Call (.Attribute o name apos) (e :: es) [] pos) (tE X W (methD g fo fs C)) :=
  PE.weak (pe_bm PySem.F.plainAttrs_dict slot hty hm ho ha hbase hfew hline hs hplain) fun σ H Q ⟨L, h, env, hr, sr, hp⟩ => ⟨L, h, env, hr, sr, pRg.then_ hp fun d h1 L1 H1 v le kp hr1 r1 hp1 => by
    split at hp1
    · rename_i kvs il
      obtain ⟨i, a, us, rfl, rfl, ea, e0, q, s⟩ := dct_of hr1 r1 il
      exact ⟨.inr (.inr (.inl ⟨rfl, .inl ⟨us, q⟩⟩)), L1, h1, env, hr1, sr.mono le kp, pRg.then_ hp1 fun ds h2 L2 H2 vs le2 kp2 hr2 r2 hp2 => ok L2 H2 h2 σ _ _ ds vs Q hr2 ((Rel.ref ea).mono le2 kp2) r2 hp2⟩
    · exact hp1.elim⟩
end
end VM

set_option maxRecDepth 100000
set_option maxHeartbeats 1000000
namespace VM
open PySem PySem.Spec PyProof.Rows L2 HT
/-! x[::-1] -/
section
variable {prog : Program} {w : World} {A : Around} {E : Value → Shared → Prop} {s : Shared}
theorem adjust_rev (n : Nat) : Builtin.Slice.sliceAdjust none none (-1) (n : Int) = ((n : Int) - 1, -1) := rfl
theorem places_rev (n : Nat) : Builtin.Slice.slicePlaces ((n : Int) - 1) (-1) (-1) = n := by
  unfold Builtin.Slice.slicePlaces
  have h1 : ¬ ((-1 : Int) > 0) := by omega
  have e : (- -1 : Int) = 1 := by decide
  simp only [h1, if_false, e, Int.ediv_one]
  split <;> omega
theorem sliceApplied_rev {sl : Addr} {vl vu vs : Value} {n : Nat} {Q : Int × Int × Nat → Shared → Prop} (hs : s.heap.IsSliceOf sl vl vu vs) (pl : IsPart vl none) (pu : IsPart vu none) (ps : IsPart vs (some (-1)))
    (h : Q ((n : Int) - 1, -1, n) s) : wpAny (model prog w) A (Builtin.Slice.sliceApplied (.ref sl) (pure (n : Int))) Q E s := by
  obtain ⟨os, hos, hcs, hds⟩ := id hs
  unfold Builtin.Slice.sliceApplied Builtin.Slice.sliceFields
  refine wpAny_bind (wpAny_bind (wpAny_field hos hds (x := vl) rfl (wpAny_bind (wpAny_field hos hds (x := vu) rfl (wpAny_bind (wpAny_field hos hds (x := vs) rfl (wpAny_pure ?_)))))))
  refine wpAny_bind (slicePart_ ps ?_)
  show wpAny _ _ (if ((-1 : Int) == 0) = true then _ else _) _ _ s
  rw [if_neg (by decide)]
  refine wpAny_bind (slicePart_ pl (wpAny_bind (slicePart_ pu (wpAny_bind (wpAny_pure ?_)))))
  show wpAny _ _ (match Builtin.Slice.sliceAdjust none none (-1) (n : Int) with | (lo, hi) => pure (lo, (-1 : Int), Builtin.Slice.slicePlaces lo hi (-1))) _ _ s
  rw [adjust_rev n]
  show wpAny _ _ (pure ((n : Int) - 1, (-1 : Int), Builtin.Slice.slicePlaces ((n : Int) - 1) (-1) (-1))) _ _ s
  rw [places_rev]
  exact wpAny_pure h
theorem pick_rev (xs : Array Value) : ((List.range xs.size).filterMap fun (m : Nat) => xs[(((xs.size : Int) - 1) + (m : Int) * (-1)).toNat]?).toArray = xs.toList.reverse.toArray := by
  congr 1
  have e : ∀ m ∈ List.range xs.size, (xs[(((xs.size : Int) - 1) + (m : Int) * (-1)).toNat]?) = (fun i => xs[i]?) (xs.size - 1 - m) := fun m hm => by
    have := List.mem_range.mp hm
    have e : (((xs.size : Int) - 1) + (m : Int) * (-1)).toNat = xs.size - 1 - m := by omega
    rw [e]
  have e2 : ((List.range xs.size).filterMap fun (m : Nat) => xs[(((xs.size : Int) - 1) + (m : Int) * (-1)).toNat]?) = ((List.range xs.size).map fun m => xs.size - 1 - m).filterMap fun i => xs[i]? := by
    rw [List.filterMap_map]
    have aux : ∀ l : List Nat, (∀ m ∈ l, xs[(((xs.size : Int) - 1) + (m : Int) * (-1)).toNat]? = (fun i => xs[i]?) (xs.size - 1 - m)) → l.filterMap (fun (m : Nat) => xs[(((xs.size : Int) - 1) + (m : Int) * (-1)).toNat]?) = l.filterMap ((fun i => xs[i]?) ∘ fun m => xs.size - 1 - m) := by
      intro l
      induction l with
      | nil => intro _; rfl
      | cons m l ih =>
        intro hl
        rw [List.filterMap_cons, List.filterMap_cons, hl m (List.mem_cons_self ..), ih fun k hk => hl k (List.mem_cons_of_mem _ hk)]
        rfl
    exact aux _ e
  rw [e2, PySem.W.krv_range, List.filterMap_reverse, PySem.W.krv_all]
theorem getItem_tuple_rev {t sl : Addr} {items : Array Value} {vl vu vs : Value} {Q : Value → Shared → Prop} (ht : IsTup s.heap t items) (hs : s.heap.IsSliceOf sl vl vu vs) (pl : IsPart vl none) (pu : IsPart vu none) (ps : IsPart vs (some (-1)))
    (h : Q (.ref s.heap.objs.size) { s with heap := s.heap.push { cls := .type "tuple", data := .seq items.toList.reverse.toArray } })
    (hsz : items.size ≤ sizeLine) : wpAny (model prog w) A (getItem (.ref t) (.ref sl)) Q E s := by
  have htake : sizeOk (.seq items.toList.reverse.toArray) := by
    show items.toList.reverse.toArray.size ≤ sizeLine
    rw [List.size_toArray, List.length_reverse, Array.length_toList]
    exact hsz
  obtain ⟨os, hos, hcs, hds⟩ := id hs
  have hTs : s.TypeIs (.ref sl) "slice" := ⟨os, hos, hcs⟩
  unfold getItem
  try with_reducible refine wpAny_holding ?_
  first | refine wpAny_bind (wpAny_pure ?_) | skip
  refine wpAny_bind (wpAny_sequenceKey ht.typeIs (by decide) ?_)
  refine wpAny_bind (wpAny_callSpecial?_slot (name := Str.ofString "__getitem__") ht.typeIs PyProof.Rows.slot_tuple_getitem
    (wpAny_call_entry PyProof.Rows.slot_tuple_getitem ht.typeIs entry_tuple_getitem ?_ (args_tuple_getitem _ _)))
  show wpAny _ _ (Builtin.Tuple.tupleItemsOf (.ref t) >>= _) _ _ s
  refine wpAny_bind (tupleItemsOf_ ht ?_)
  refine wpAny_bind (wpAny_typeOf hTs ?_)
  rw [if_pos (by decide)]
  refine wpAny_bind (sliceApplied_rev hs pl pu ps ?_)
  show wpAny _ _ (if (((items.size : Int) - 1) == 0 && (-1 : Int) == 1 && items.size == items.size) = true then _ else _) _ _ s
  have hno : ¬ ((((items.size : Int) - 1) == 0 && (-1 : Int) == 1 && items.size == items.size) = true) := by
    intro q
    rw [Bool.and_eq_true, Bool.and_eq_true] at q
    exact absurd q.1.2 (by decide)
  rw [if_neg hno, pick_rev]
  first
    | exact wpAny_bind (m := Builtin.Tuple.tupleExact _) (wpAny_newObj_type (wpAny_pure ⟨_, rfl, wpAny_pure h⟩) htake)
    | exact wpAny_bind (m := Builtin.Tuple.tupleExact _) (wpAny_newObj_type (wpAny_bind (wpAny_pure (wpAny_pure ⟨_, rfl, wpAny_pure h⟩))) htake)
end
section
variable {X : Cx} {W : WX} {pos : Pos}
def tRevA (K : PySem.W.Frag) (te : TE) : TE := fun σ H Q => te σ H fun x H1 => ∃ a xs, x = .ref a ∧ ((SqL K H1 a xs ∧ ∀ p, H1 p = none → Q (.ref p) (upd H1 p (.lst xs.reverse))) ∨ (SqT K H1 a xs ∧ ∀ p, H1 p = none → Q (.ref p) (upd H1 p (.tup xs.reverse))))
theorem pe_revA {e : Expr} {te : TE} {k : Nat} {p1 p2 p3 pos : Pos} (he : PE X e te) : PE X (.Subscript e (.Slice none none (some (.UnaryOp .USub (.Constant (.int 1) k p1) p2)) p3) pos) (tRevA X.K te) := by
  refine ⟨fun pins s σ H Q I h => ?_⟩
  refine Subscript_ (thn (he.run pins s σ H _ I h) fun v s1 ⟨x, H1, I1, r1, q1⟩ => ?_)
  obtain ⟨a, xs, ex, hx⟩ := q1
  subst ex
  cases r1
  have hst : PO X (some (.UnaryOp .USub (.Constant (.int 1) k p1) p2)) (tPart (tUn (rU fun i => .int (-i)) (tC (.int 1)))) := po_some (pe_un un_neg pe_int)
  refine wpAny_Slice (thn (po_none.run pins s1 σ H1 (fun o H2 => o = none ∧ H2 = H1) I1 ⟨rfl, rfl⟩) fun vl s2 ⟨l, H2, I2, pl, el, e2⟩ => ?_)
  subst el e2
  refine thn (po_none.run pins s2 σ H2 (fun o H3 => o = none ∧ H3 = H2) I2 ⟨rfl, rfl⟩) fun vu s3 ⟨u, H3, I3, pu, eu, e3⟩ => ?_
  subst eu e3
  refine thn (hst.run pins s3 σ H3 (fun o H4 => o = some (-1) ∧ H4 = H3) I3 ⟨1, rfl, -1, rfl, rfl, rfl⟩) fun vs s4 ⟨o, H4, I4, ps, eo, e4⟩ => ?_
  subst eo e4
  have I5 : Inv X pins σ H4 { s4 with heap := s4.heap.push { cls := .type "slice", data := .fields #[vl, vu, vs] } } := I4.kept (t' := s4.toks) fun b ob q => Heap.get?_push_of_some _ q
  show wpAny (model X.prog X.w) X.A (subscriptTail e (.Slice none none (some (.UnaryOp .USub (.Constant (.int 1) k p1) p2)) p3) (.ref a) (.ref s4.heap.objs.size)) (EP X pins σ Q) X.xe { s4 with heap := s4.heap.push { cls := .type "slice", data := .fields #[vl, vu, vs] } }
  rcases hx with ⟨hx, q⟩ | ⟨hx, q⟩
  · obtain ⟨its, r, ht, hz⟩ := I5.list hx
    have hlen := r.length
    refine tail_any (ops := [.ref a, .ref s4.heap.objs.size]) ht.isList.typeIs (PySem.slot_list_getitem.lookup) ?_ (by with_unfolding_all rfl)
    refine wpAny_getItem_list_slice ht.isList (Heap.IsSliceOf.new _ vl vu vs) pl pu ps (by decide) ?_ (by rw [List.size_toArray]; omega)
    rw [PySem.W.krv_pick]
    refine ⟨.ref _, _, I5.laid (t' := s4.toks) (o := .lst xs.reverse) (fun b ob q => Heap.get?_push_of_some _ q) (Nat.le_refl _) ?_, rfl, q _ (I5.hok.fresh (Nat.le_refl _))⟩
    exact ⟨by rw [List.length_reverse]; exact hz, _, 0, r.reverse, Heap.get?_push_size _ rfl⟩
  · obtain ⟨its, r, ht, hz⟩ := I5.tuple hx
    have hlen := r.length
    refine tail_any (ops := [.ref a, .ref s4.heap.objs.size]) ht.typeIs (PyProof.Rows.slot_tuple_getitem.lookup) ?_ (by with_unfolding_all rfl)
    refine getItem_tuple_rev ht (Heap.IsSliceOf.new _ vl vu vs) pl pu ps ?_ (by rw [List.size_toArray]; omega)
    refine ⟨.ref _, _, I5.laid (t' := s4.toks) (o := .tup xs.reverse) (fun b ob q => Heap.get?_push_of_some _ q) (Nat.le_refl _) ?_, rfl, q _ (I5.hok.fresh (Nat.le_refl _))⟩
    exact ⟨by rw [List.length_reverse]; exact hz, _, r.reverse, IsTup.new _ _⟩
theorem r_rev {e : Expr} {k : Nat} {p1 p2 p3 : Pos} (C : Or) {fa : EF} (he : PE X e (tE X W (fa C))) : PE X (.Subscript e (.Slice none none (some (.UnaryOp .USub (.Constant (.int 1) k p1) p2)) p3) pos) (tE X W (un1F opRev fa C)) :=
  PE.weak (pe_revA he) fun σ H Q ⟨L, h, env, hr, sr, hp⟩ => ⟨L, h, env, hr, sr, pRg.then_ hp fun d h1 L1 H1 v le kp hr1 r1 hp1 => by
    cases r1 with
    | @tup ds a xs ha ra => exact ⟨a, xs, rfl, .inr ⟨ha, fun p np => hp1 L1 _ _ (LE.refl _) (Keep.new np) (hr1.new np) (.tup (.inl (.inl upd_same)) (ra.rev.mono (LE.refl _) (Keep.new np)))⟩⟩
    | @ref p a ea =>
      simp only [opRev] at hp1
      split at hp1
      · rename_i ds e0
        obtain ⟨xs, q, s⟩ := hr1.lst p a ds e0 ea
        exact ⟨a, xs, rfl, .inl ⟨SqL.of q, fun b nb => allocd hr1 s.rev nb hp1⟩⟩
      · exact hp1.elim
    | _ => exact hp1.elim⟩
/-! methods of texts without arguments -/
def rSm (g : Str → Option D) : V → List V → Hp → VK → Prop := fun x xs H Q => ∃ a d v, x = .str a ∧ xs = [] ∧ g a = some d ∧ (∀ K L, Rel K L H d v) ∧ Q v H
theorem r_smeth0 {o : Expr} {name : Str} {apos : Pos} {id : String} {g : Str → Option D} (C : Or) {fo : EF} (slot : Slot "str" name id) (hty : typeOf (.builtin id) = pure (.type "method_descriptor")) (hm : MtR X id (rSm g)) (hv : ∀ z d, g z = some d → ∃ v : V, ∀ K L H, Rel K L H d v) (ho : PE X o (tE X W (fo C)))
    (hbase : attributeBase o name X.env (eval o X.env) = eval o X.env) (hline : (apos.endLine == pos.line) = true) : PE X (.Call (.Attribute o name apos) [] [] pos) (tE X W (un1F (smth0 g) fo C)) :=
  PE.weak (pe_m0 slot hty hm ho hbase hline) fun σ H Q ⟨L, h, env, hr, sr, hp⟩ => ⟨L, h, env, hr, sr, pRg.then_ hp fun d h1 L1 H1 v le kp hr1 r1 hp1 => by
    cases r1 with
    | str z =>
      refine ⟨⟨z, rfl⟩, ?_⟩
      simp only [smth0] at hp1
      split at hp1
      · rename_i d e
        obtain ⟨v, rv⟩ := hv z d e
        exact ⟨z, d, v, rfl, rfl, e, fun K L => rv K L _, here hr1 hp1 (rv _ _ _)⟩
      · exact hp1.elim
    | _ => exact hp1.elim⟩
theorem mt_upperD : MtR X "str.upper" (rSm mUpper) := by
  intro pins s σ H x xs v us Q I rx rs h
  obtain ⟨a, d, v2, rfl, rfl, e, rv, q⟩ := h
  unfold mUpper at e
  split at e
  · rename_i hz
    cases e
    have z := rv X.K []
    cases z
    exact mt_upper pins s σ H _ _ v us Q I rx rs ⟨a, rfl, rfl, Nat.le_trans hz (by decide), q⟩
  · cases e
theorem mt_isdigitD : MtR X "str.isdigit" (rSm mIsdigit) := by
  intro pins s σ H x xs v us Q I rx rs h
  obtain ⟨a, d, v2, rfl, rfl, e, rv, q⟩ := h
  unfold mIsdigit at e
  cases e
  have z := rv X.K []
  cases z
  exact mt_isdigit pins s σ H _ _ v us Q I rx rs ⟨a, rfl, rfl, True.intro, q⟩
theorem mUpper_v : ∀ z d, mUpper z = some d → ∃ v : V, ∀ K L H, Rel K L H d v := fun z d e => by
  unfold mUpper at e
  split at e
  · cases e; exact ⟨.str _, fun _ _ _ => .str _⟩
  · cases e
theorem mIsdigit_v : ∀ z d, mIsdigit z = some d → ∃ v : V, ∀ K L H, Rel K L H d v := fun z d e => by
  unfold mIsdigit at e
  cases e
  exact ⟨.bl _, fun _ _ _ => .bl _⟩
/-! isinstance of a tuple of two classes -/
theorem r_isi2 {a : Expr} {T U : Str} {Ts Us : String} {p p2 p3 p4 : Pos} {kk : Nat} (C : Or) {fa : EF} (hg : Gl X "isinstance") (hm : X.mg "isinstance" = none) (hgT : Gl X T) (hmT : X.mg T = none) (hv : bootBuiltins T = some (.type Ts)) (hT : Ts ∈ ["bool", "int", "str", "tuple", "list", "dict"]) (hn : T ≠ "__name__") (hd : (T == ("__debug__" : Str)) = false)
    (hgU : Gl X U) (hmU : X.mg U = none) (hvU : bootBuiltins U = some (.type Us)) (hU : Us ∈ ["bool", "int", "str", "tuple", "list", "dict"]) (hnU : U ≠ "__name__") (hdU : (U == ("__debug__" : Str)) = false)
    (ha : PE X a (tE X W (fa C))) (s1 : ∀ es, starEach (a :: es) X.env = (false, eval a X.env) :: starEach es X.env) : PE X (.Call (.Name "isinstance" p) [a, .Tuple [.Name T p2, .Name U p3] kk p4] [] pos) (tE X W (un1F (isi2F Ts Us) fa C)) :=
  PE.weak (pe_callB call_isiT hg hm boot_isinstance (pa_cons ha (pa_cons (pe_tup (pa_cons (pe_bltn (v := .ty Ts) hgT hmT hv rfl hn hd) (pa_cons (pe_bltn (v := .ty Us) hgU hmU hvU rfl hnU hdU) pa_nil rfl) rfl)) pa_nil rfl) (s1 _)) (by decide) (by decide) (s1 _) rfl) fun σ H Q ⟨L, h, env, hr, sr, hp⟩ => ⟨L, h, env, hr, sr, pRg.then_ hp fun d h1 L1 H1 v le kp hr1 r1 hp1 => by
    unfold isi2F at hp1
    split at hp1
    · rename_i t e
      refine ⟨by rw [sizeLine_eq]; show 2 ≤ _; decide, fun tp np => ?_⟩
      obtain ⟨ty, mem⟩ := ty_of (hr1.new (o := .tup [.ty Ts, .ty Us]) np) (r1.mono (LE.refl _) (Keep.new np)) e
      refine ⟨v, tp, [.ty Ts, .ty Us], _, [.type Ts, .type Us], _, rfl, upd_same, .cons (.ty Ts) (.cons (.ty Us) .nil), ty, ?_, hp1 L1 _ _ (LE.refl _) (Keep.new np) (hr1.new np) (.bl _)⟩
      refine kitAny_cons (kit_isi mem hT) (fun hb => ?_) (fun hb => by rw [hb]; rfl)
      rw [hb, Bool.false_or]
      exact kitAny_cons (kit_isi mem hU) (fun hb => by rw [hb]; exact kitAny_nil) (fun hb => hb)
    · exact hp1.elim⟩
end
end VM

set_option maxRecDepth 100000
set_option maxHeartbeats 4000000
namespace VM
open PySem PySem.Spec PyProof.Rows L2
/-! from a text to ours -/
inductive GV where
  | con (d : D) | fn (np : Nat) | blt | exc (arg : Bool)
structure CC where
  N : List Str
  sc : Scope
  fn : Str → Bool
  gl : Str → Option GV
  calm : Bool
  ex : List Str
def okNm (x : Str) : Bool := !(x == ("__debug__" : Str)) && (!(x == ("__classdict__" : Str)) && !decide (x = "__name__"))
def isVis (sc : Scope) (x : Str) : Bool := match sc.names.lookup x with
  | some .local => true | some .cell => true | some .free => true
  | _ => false
def isGlo (sc : Scope) (x : Str) : Bool := match sc.names.lookup x with
  | some .globalImplicit => true
  | _ => false
def isBlt (cc : CC) (x : Str) : Bool := isGlo cc.sc x && (okNm x && match cc.gl x with
  | some .blt => true
  | _ => false)
def slot (cc : CC) (x : Str) : Option Nat := match cc.N.idxOf? x with
  | some i => if cc.N[i]? = some x then some i else none
  | none => none
def guardO {α : Type} (b : Bool) (x : Option α) : Option α := if b = true then x else none
def opTab : Operator → Option (D → D → Hv → R D)
  | .Add => some opAdd | .Sub => some opSub | .Mult => some opMul | .FloorDiv => some opFdiv | .Mod => some opMod | .Pow => some opPow
  | _ => none
def cmpTab : CmpOp → Option (D → D → Hv → R D)
  | .Lt => some opLt | .LtE => some opLe | .Gt => some opGt | .GtE => some opGe | .Eq => some (opEqD false) | .NotEq => some (opEqD true)
  | .Is => some (opIs false) | .IsNot => some (opIs true) | .In => some (opIn false) | .NotIn => some (opIn true)
def compL (f : Expr → Option EF) : List Expr → Option (List EF)
  | [] => some []
  | e :: es => (f e).bind fun a => (compL f es).bind fun as => some (a :: as)
def andL : List EF → Option EF
  | [] => none
  | [f] => some f
  | f :: g :: r => (andL (g :: r)).map (andF f)
def orL : List EF → Option EF
  | [] => none
  | [f] => some f
  | f :: g :: r => (orL (g :: r)).map (orF f)
def notSl : Expr → Bool
  | .Slice _ _ _ _ => false
  | _ => true
def notCall : Expr → Bool
  | .Call _ _ _ _ => false
  | _ => true
def isTupE : Expr → Bool
  | .Tuple _ _ _ => true
  | _ => false
def tyTab (x : Str) : Option String :=
  if x = "int" then some "int" else if x = "tuple" then some "tuple" else if x = "bool" then some "bool" else if x = "str" then some "str" else if x = "list" then some "list" else none
def bltTab (x : Str) : Option (List D → Hv → R D) :=
  if x = "len" then some bLen else if x = "tuple" then some bTuple else if x = "int" then some bInt else if x = "sum" then some bSum else if x = "abs" then some bAbs else if x = "list" then some bList
  else if x = "max" then some bMax else if x = "min" then some bMin else if x = "all" then some bAll else if x = "any" then some bAny else if x = "str" then some bStr else none
def mthTab (x : Str) : Option (D → List D → Hv → R D) := if x = "append" then some mAppend else if x = "extend" then some mExtend else if x = "pop" then some mPop else none
def mthTab0 (x : Str) : Option (D → List D → Hv → R D) := if x = "reverse" then some mReverse else if x = "clear" then some mClear else none
def smthTab0 (x : Str) : Option (Str → Option D) := if x = "upper" then some mUpper else if x = "isdigit" then some mIsdigit else none
def mthTabD (x : Str) : Option (D → List D → Hv → R D) := if x = "get" then some mGet else none
/-- a dict display's pairs -/
def compPs (f : Expr → Option EF) : List (Option Expr) → List Expr → Option (List (EF × EF))
  | [], [] => some []
  | some k :: ks, v :: vs => (f k).bind fun a => (f v).bind fun b => (compPs f ks vs).map ((a, b) :: ·)
  | _, _ => none
def compTs (f : Expr → Option (TF × List Nat)) : List Expr → Option (List TF × List Nat)
  | [] => some ([], [])
  | e :: es => (f e).bind fun a => (compTs f es).bind fun as => some (a.1 :: as.1, a.2 ++ as.2)
/-- a target: what it does, the slots that it stores -/
def compT : Nat → CC → Expr → Option (TF × List Nat)
  | n + 1, cc, e => (match e with
    | .Name x _ => (slot cc x).bind fun i => guardO (match cc.sc.names.lookup x with
      | some .local => true
      | some .cell => cc.fn x
      | _ => false) (some (nmT i, [i]))
    | .Tuple es _ _ => guardO cc.calm ((compTs (compT n cc) es).map fun z => (tupT z.1, z.2))
    | _ => none)
  | 0, _, _ => none
/-- a block's own names, by their slots -/
def ownOf (cc : CC) (scope : Scope) : List (Str × Nat) := scope.names.filterMap fun y => match y.2 with
  | .local => (slot cc y.1).map fun i => (y.1, i)
  | .cell => (slot cc y.1).map fun i => (y.1, i)
  | _ => none
def blkCC (cc : CC) (scope : Scope) : CC := { cc with sc := relS scope cc.sc, fn := fun x => scope.names.lookup x == some .cell }
/-- where isTrue does what the value does -/
def testable : Nat → Expr → Bool
  | n + 1, e => (match e with
    | .UnaryOp .Not a _ => testable n a
    | .BoolOp _ es _ => es.all (testable n)
    | .IfExp _ _ _ _ => false
    | _ => true)
  | 0, _ => false
def compI (f : Expr → Option EF) (cc : CC) (tg iter : Expr) : Option IF := match iter with
  | .Call (.Name x _) [a] [] _ => if isBlt cc x = true ∧ x = "range" then (f a).map it1F else if isBlt cc x = true ∧ x = "enumerate" ∧ isTupE tg = true then (f a).map itN else (f iter).map itE
  | .Call (.Name x _) [a, b] [] _ => if isBlt cc x = true ∧ x = "range" then (f a).bind fun fa => (f b).map (it2F fa) else if isBlt cc x = true ∧ x = "zip" ∧ isTupE tg = true then (f a).bind fun fa => (f b).map (itZ fa) else (f iter).map itE
  | _ => (f iter).map itE
def compOpt (f : Expr → Option EF) : Option Expr → Option (Option EF)
  | none => some none
  | some e => (f e).map some
def compLc (f : CC → Expr → Option EF) (tb : Expr → Bool) (n : Nat) (cc : CC) (elt tg iter : Expr) (ifs : List Expr) (scope : Scope) : Option EF :=
  guardO (cc.calm && blkC cc.N cc.sc scope (ownOf cc scope)) ((compI (f cc) cc tg iter).bind fun fi => (compT n (blkCC cc scope) tg).bind fun t =>
    guardO (t.2.all fun j => ((ownOf cc scope).map fun (q : Str × Nat) => q.2).contains j) ((match ifs with
      | [] => some (conF (.bl true))
      | [c] => guardO (tb c) (f (blkCC cc scope) c)
      | _ => none).bind fun ft => (f (blkCC cc scope) elt).map fun fe => lcF fi t.1 ((ownOf cc scope).map fun (q : Str × Nat) => q.2) ft fe))
/-- what list(range(..)) goes to -/
def lrgA (cc : CC) (x : Str) (a : Expr) (as : List Expr) : Option Expr := if x = "list" then (match a, as with
  | .Call (.Name y _) [c] [] _, [] => if isBlt cc y = true ∧ y = "range" then some c else none
  | _, _ => none) else none
def compE : Nat → CC → Expr → Option EF
  | n + 1, cc, e => (match e with
    | .Name x _ => guardO (okNm x) (if isVis cc.sc x = true then (slot cc x).map varF else guardO (isGlo cc.sc x) (match cc.gl x with
      | some (.con d) => some (conF d)
      | _ => none))
    | .Constant (.int i) _ _ => some (conF (.int i))
    | .Constant (.str i) _ _ => some (conF (.str i))
    | .Constant (.bool i) _ _ => some (conF (.bl i))
    | .Constant .none _ _ => some (conF .non)
    | .BinOp a op b _ => (compE n cc a).bind fun fa => (compE n cc b).bind fun fb => (opTab op).map fun g => binF g fa fb
    | .UnaryOp .Not a _ => (compE n cc a).map (un1F opNot)
    | .UnaryOp .USub a _ => (compE n cc a).map (un1F opNeg)
    | .Compare a [op] [b] _ => (compE n cc a).bind fun fa => (compE n cc b).bind fun fb => (cmpTab op).map fun g => binF g fa fb
    | .Compare a [op, op'] [b, c] _ => (compE n cc a).bind fun fa => (compE n cc b).bind fun fb => (compE n cc c).bind fun fc => (cmpTab op).bind fun g => (cmpTab op').map fun g' => chainF g g' fa fb fc
    | .BoolOp .And es _ => (compL (compE n cc) es).bind andL
    | .BoolOp .Or es _ => (compL (compE n cc) es).bind orL
    | .IfExp c a b _ => guardO (testable n c) ((compE n cc c).bind fun fc => (compE n cc a).bind fun fa => (compE n cc b).map fun fb => iteF fc fa fb)
    | .Tuple es _ _ => (compL (compE n cc) es).map tupF
    | .List es _ => (compL (compE n cc) es).map lstF
    | .Subscript (.BoolOp .Or [a, b] _) (.Slice lo hi none _) _ => (compE n cc a).bind fun fa => (compE n cc b).bind fun fb => (compOpt (compE n cc) lo).bind fun fl => (compOpt (compE n cc) hi).map fun fh => slcF opSl (orT fa fb) fl fh
    | .Subscript a (.Slice none none (some (.UnaryOp .USub (.Constant (.int 1) _ _) _)) _) _ => (compE n cc a).map (un1F opRev)
    | .Subscript a (.Slice lo hi none _) _ => (compE n cc a).bind fun fa => (compOpt (compE n cc) lo).bind fun fl => (compOpt (compE n cc) hi).map fun fh => slcF opSl fa fl fh
    | .Subscript a b _ => guardO (notSl b) ((compE n cc a).bind fun fa => (compE n cc b).map fun fb => binF opIx fa fb)
    | .ListComp elt [⟨tg, iter, ifs, 0⟩] scope _ => compLc (compE n) (testable n) n cc elt tg iter ifs scope
    | .Call (.Name x _) (a :: as) [] _ => guardO (isGlo cc.sc x && okNm x) (match cc.gl x with
      | some (.fn _) => guardO cc.calm ((compL (compE n cc) (a :: as)).map (callF x))
      | some .blt => guardO cc.calm (if x = "isinstance" then (match as with
          | [.Name T _] => guardO (isBlt cc T) ((tyTab T).bind fun ty => (compE n cc a).map (un1F (isiF ty)))
          | [.Tuple [.Name T _, .Name U _] _ _] => guardO (isBlt cc T && isBlt cc U) ((tyTab T).bind fun ty => (tyTab U).bind fun uy => (compE n cc a).map (un1F (isi2F ty uy)))
          | _ => none) else (match lrgA cc x a as with
          | some c => (compE n cc c).map lrF
          | none => (bltTab x).bind fun g => (compL (compE n cc) (a :: as)).map (bltF g)))
      | _ => none)
    | .Call (.Attribute o name apos) (a :: as) [] pos => guardO (notCall o && (decide ((a :: as).length < 20) && (apos.endLine == pos.line))) ((compE n cc o).bind fun fo => (compL (compE n cc) (a :: as)).bind fun fs => (match mthTab name with
      | some g => some (methF g fo fs)
      | none => (mthTabD name).map fun g => methD g fo fs))
    | .Dict keys values _ => guardO (decide (keys.length ≤ 15)) ((compPs (compE n cc) keys values).map dctF)
    | .Call (.Attribute o name apos) [] [] pos => guardO (notCall o && (apos.endLine == pos.line)) ((compE n cc o).bind fun fo => (match mthTab0 name with
      | some g => some (methF g fo [])
      | none => (smthTab0 name).map fun g => un1F (smth0 g) fo))
    | _ => none)
  | 0, _, _ => none
/-! statements -/
def nmLoc (cc : CC) (x : Str) : Bool := match cc.sc.names.lookup x with
  | some .local => true
  | _ => false
def isLc : Expr → Bool
  | .ListComp _ _ _ _ => true | .SetComp _ _ _ _ => true | .DictComp _ _ _ _ _ => true
  | _ => false
def stkS : SF := fun _ _ _ => .stuck
def compSs (f : Stmt → Option SF) : List Stmt → SF
  | [] => nxS
  | s :: ss => seqS ((f s).getD stkS) (compSs f ss)
/-- a class of exceptions that is known -/
def isExc (cc : CC) (x : Str) : Bool := cc.ex.contains x && isGlo cc.sc x && okNm x
def isExc1 (cc : CC) (x : Str) : Bool := match cc.gl x with
  | some (.exc true) => true
  | _ => false
/-- an except clause without a name -/
def compHu (f : List Stmt → SF) (cc : CC) : ExceptHandler → Option (Str × Hd)
  | .ExceptHandler (some (.Name x _)) none (b :: bs) _ => guardO (isExc cc x) (some (x, .su (f (b :: bs))))
  | _ => none
/-- with one -/
def compHn (cc : CC) : ExceptHandler → Option (Str × Hd)
  | .ExceptHandler (some (.Name x _)) (some z) [.Return (some (.Attribute (.Name y _) a _)) _] _ => (slot cc z).bind fun i => guardO (isExc cc x && (decide (y = z ∧ a = "at") && (isExc1 cc x && (nmLoc cc z && okNm z)))) (some (x, .at_ i))
  | .ExceptHandler (some (.Name x _)) (some z) [.Return (some (.Tuple [.Constant (.str s) _ _, .Attribute (.Name y _) a _] _ _)) _] _ => (slot cc z).bind fun i => guardO (isExc cc x && (decide (y = z ∧ a = "at") && (isExc1 cc x && (nmLoc cc z && okNm z)))) (some (x, .pr i s))
  | _ => none
def compHs (f : ExceptHandler → Option (Str × Hd)) : List ExceptHandler → Option (List (Str × Hd))
  | [] => some []
  | h :: hs => (f h).bind fun a => (compHs f hs).map (a :: ·)
def compHd (f : List Stmt → SF) (cc : CC) (hs : List ExceptHandler) : Option (List (Str × Hd)) := match compHs (compHu f cc) hs with
  | some z => some z
  | none => (match hs with
    | [h] => (compHn cc h).map fun a => [a]
    | _ => none)
/-- raise X("..") or raise X(e) -/
def compR (f : Expr → Option EF) (cc : CC) : Expr → Option SF
  | .Call (.Name x _) [e] [] _ => guardO (isExc cc x) (match cc.gl x with
    | some (.exc false) => (match e with
      | .Constant (.str _) _ _ => some (raiS x (conF .non))
      | _ => none)
    | some (.exc true) => (f e).map (raiS x)
    | _ => none)
  | _ => none
/-- a = [..]: one name -/
def compSet (n : Nat) (cc : CC) (x : Str) (px : Pos) (e : Expr) (pos : Pos) : Option SF :=
  (slot cc x).bind fun i => guardO (nmLoc cc x || (match cc.sc.names.lookup x with
    | some .cell => cc.fn x
    | _ => false)) ((compE n cc e).bind fun f => match e with
      | .ListComp _ _ scope lpos => if nmLoc cc x = true then guardO ((px.line == lpos.line) && !(scope.names.any fun (n, k) => n == x && (k == .local || k == .cell))) (some (asgS (nmT i) f)) else some (asgS (nmT i) f)
      | _ => some (asgS (nmT i) f))
def compS : Nat → CC → Stmt → Option SF
  | n + 1, cc, s => (match s with
    | .Pass _ => some nxS
    | .Break _ => some bkS
    | .Continue _ => some ctS
    | .Raise (some e) none _ => guardO cc.calm (compR (compE n cc) cc e)
    | .Try body (h :: hs) [] [] _ => guardO cc.calm ((compHd (compSs (compS n { cc with calm := false })) cc (h :: hs)).map fun z => tryS cc.ex (compSs (compS n cc) body) z)
    | .Return none _ => some retN
    | .Return (some e) _ => (compE n cc e).map retS
    | .Expr e _ => guardO (!isLc e) ((compE n cc e).map expS)
    | .If c a b _ => guardO (testable n c) ((compE n cc c).map fun fc => ifS fc (compSs (compS n cc) a) (compSs (compS n cc) b))
    | .While c a [] _ => guardO (cc.calm && testable n c) ((compE n cc c).map fun fc => whileS fc (compSs (compS n cc) a))
    | .For tg iter a [] _ => guardO cc.calm ((compI (compE n cc) cc tg iter).bind fun fi => (compT n cc tg).map fun t => forS fi t.1 (compSs (compS n cc) a))
    | .Assign [.Name x px] e pos => compSet n cc x px e pos
    | .Assign [.Subscript o i _] e _ => guardO (notSl i) ((compE n cc o).bind fun fo => (compE n cc i).bind fun fi => (compE n cc e).map fun f => setS fo fi f)
    | .Assign [.Tuple [.Name x px, .Name y py] _ _] (.Tuple [a, b] _ _) _ =>
      if nmLoc cc x = true ∧ nmLoc cc y = true then
        guardO (cc.calm && ((px.line == py.line) && (decide (x ≠ y) && (!([a, b].all (foldedForSure 8)) && !([a, b].all (constantsAlone 8)))))) ((slot cc x).bind fun i => (slot cc y).bind fun j => guardO (decide (i ≠ j)) ((compE n cc a).bind fun fa => (compE n cc b).map fun fb => parS i j fa fb))
      else (compT n cc (.Tuple [.Name x px, .Name y py] 0 px)).bind fun t => (compE n cc (.Tuple [a, b] 0 px)).map fun f => asgS t.1 f
    | .Assign [.Tuple es _ _] e _ => guardO (!isTupE e) ((compT n cc (.Tuple es 0 e.pos)).bind fun t => (compE n cc e).map fun f => asgS t.1 f)
    | _ => none)
  | 0, _, _ => none
/-- a def -/
def compFn (n : Nat) (gl : Str → Option GV) (ex : List Str) (N : List Str) (st : Stmt) : Option SF :=
  some (compSs (compS n { N := N, sc := defScope st, fn := fun _ => true, gl := gl, calm := true, ex := ex }) (defBody st))
end VM

set_option maxRecDepth 100000
set_option maxHeartbeats 4000000
namespace VM
open PySem PySem.Spec PyProof.Rows L2
/-! what the text's names are there -/
def GOk (X : Cx) (C : Or) (x : Str) : GV → Prop
  | .con d => ∃ u v, X.mg x = some u ∧ RelV v u ∧ ∀ L H, Rel X.K L H d v
  | .fn np => ∃ k f fd ps, ps.length = np ∧ FnOk X.prog X.w X.K X.mg X.base (L2.CX X.prog X.w) k f fd ps (spOf X.K X.mg ps.length (C x)) ∧ (∀ ds h, ds.length ≠ ps.length → C x ds h = .stuck) ∧ (X.calm = true → Room k X.A) ∧
      X.mg x = some (.ref f) ∧ PySem.W.keepIn X.K (.ref f) = true ∧ Binds X.K fd ps []
  | .blt => X.mg x = none
  | .exc b => ∃ Ca, X.mg x = some (.ref Ca) ∧ XOk X b Ca
structure Sd (X : Cx) (W : WX) (C : Or) (cc : CC) : Prop where
  N : X.N = cc.N
  nd : X.N.Nodup
  sc : X.env.scope = cc.sc
  fn : X.fn = cc.fn
  calm : cc.calm = true → X.calm = true
  tk : Takes X W
  un : X.A.units + 70 < cLine
  gl : ∀ x g, cc.gl x = some g → GOk X C x g
  ex : ∀ x ∈ cc.ex, ∀ y ∈ cc.ex, ∃ Cx Cy, X.mg x = some (.ref Cx) ∧ X.mg y = some (.ref Cy) ∧ PySem.W.exmOne X.K (.ref Cx) (.ref Cy) = some (decide (x = y))
/-- the context of a try's body -/
theorem Sd.tr {X : Cx} {W W' : WX} {C : Or} {cc : CC} (S : Sd X W C cc) {pn : List (Addr × Obj)} {xe : Value → Shared → Prop} (tk : Takes (X.tr pn xe) W') : Sd (X.tr pn xe) W' C cc where
  N := S.N
  nd := S.nd
  sc := S.sc
  fn := S.fn
  calm := S.calm
  tk := tk
  un := S.un
  gl := fun x g e => by
    have z := S.gl x g e
    cases g with
    | con d => exact z
    | fn np => exact z
    | blt => exact z
    | exc b =>
      obtain ⟨Ca, z1, z2⟩ := z
      refine ⟨Ca, z1, ?_⟩
      cases b with
      | true => exact z2
      | false => exact z2
  ex := S.ex
/-- .. of an except suite -/
theorem Sd.su {X : Cx} {W : WX} {C : Or} {cc : CC} (S : Sd X W C cc) (a : Addr) (pn : List (Addr × Obj)) : Sd (X.suite a pn) W0 C { cc with calm := false } where
  N := S.N
  nd := S.nd
  sc := S.sc
  fn := S.fn
  calm := fun z => absurd z Bool.false_ne_true
  tk := takes0
  un := S.un
  gl := fun x g e => by
    have z := S.gl x g e
    cases g with
    | con d => exact z
    | fn np =>
      obtain ⟨k, f, fd, ps, e1, F1, e2, rm, e3, e4, e5⟩ := z
      exact ⟨k, f, fd, ps, e1, F1, e2, fun z => absurd (show false = true from z) Bool.false_ne_true, e3, e4, e5⟩
    | blt => exact z
    | exc b =>
      obtain ⟨Ca, z1, z2⟩ := z
      refine ⟨Ca, z1, ?_⟩
      cases b with
      | true =>
        obtain ⟨⟨fI, fd, i1, i2, i3, i4, i5⟩, z3⟩ := z2
        exact ⟨⟨fI, fd, i1, i2, i3, fun z => absurd (show false = true from z) Bool.false_ne_true, i5⟩, z3⟩
      | false => exact z2
  ex := S.ex
theorem guardO_some {α : Type} {b : Bool} {x : Option α} {y : α} (h : guardO b x = some y) : b = true ∧ x = some y := by
  unfold guardO at h
  split at h
  · rename_i z; exact ⟨z, h⟩
  · cases h
theorem bind_some {α β : Type} {x : Option α} {f : α → Option β} {y : β} (h : x.bind f = some y) : ∃ a, x = some a ∧ f a = some y := Option.bind_eq_some_iff.mp h
theorem map_some {α β : Type} {x : Option α} {f : α → β} {y : β} (h : x.map f = some y) : ∃ a, x = some a ∧ f a = y := Option.map_eq_some_iff.mp h
theorem and2 {a b : Bool} (h : (a && b) = true) : a = true ∧ b = true := Bool.and_eq_true_iff.mp h
theorem okNm_ok {x : Str} (h : okNm x = true) : (x == ("__debug__" : Str)) = false ∧ (x == ("__classdict__" : Str)) = false ∧ x ≠ "__name__" := by
  unfold okNm at h
  obtain ⟨h1, h⟩ := and2 h
  obtain ⟨h2, h3⟩ := and2 h
  refine ⟨by simpa using h1, by simpa using h2, ?_⟩
  intro z
  rw [decide_eq_true z] at h3
  cases h3
theorem vis_ok {sc : Scope} {x : Str} (h : isVis sc x = true) : Vis sc x := by
  unfold isVis at h
  split at h
  · exact .inl (by assumption)
  · exact .inr (.inl (by assumption))
  · exact .inr (.inr (by assumption))
  · cases h
theorem glo_ok {X : Cx} {sc : Scope} {x : Str} (e : X.env.scope = sc) (h : isGlo sc x = true) : Gl X x := by
  unfold isGlo at h
  split at h
  · rename_i z
    show X.env.scope.names.lookup x = some .globalImplicit
    rw [e]; exact z
  · cases h
theorem slot_ok {cc : CC} {x : Str} {i : Nat} (h : slot cc x = some i) : cc.N[i]? = some x := by
  unfold slot at h
  split at h
  · split at h
    · rename_i z
      cases h
      exact z
    · cases h
  · cases h
theorem blt_ok {X : Cx} {W : WX} {C : Or} {cc : CC} (S : Sd X W C cc) {x : Str} (h : isBlt cc x = true) : Gl X x ∧ X.mg x = none ∧ (x == ("__debug__" : Str)) = false ∧ x ≠ "__name__" := by
  unfold isBlt at h
  obtain ⟨h1, h⟩ := and2 h
  obtain ⟨h2, h3⟩ := and2 h
  obtain ⟨d1, d2, d3⟩ := okNm_ok h2
  split at h3
  · rename_i z
    exact ⟨glo_ok S.sc h1, S.gl x _ z, d1, d3⟩
  · cases h3
theorem noStar {n : Nat} {cc : CC} {e : Expr} {F : EF} (h : compE n cc e = some F) (env : PySem.Env) (es : List Expr) : starEach (e :: es) env = (false, eval e env) :: starEach es env := by
  cases n with
  | zero => cases h
  | succ n =>
    cases e <;> first
      | rfl
      | cases h
theorem noStars {n : Nat} {cc : CC} : ∀ {es : List Expr} {Fs : List EF}, compL (compE n cc) es = some Fs → ∀ (pos : Pos) (env : PySem.Env), (backTo pos (starEach es env)).any (·.1) = false ∧ (backTo pos (starEach es env)).all (fun x => !x.1) = true
  | [], _, _, pos, env => ⟨rfl, rfl⟩
  | e :: es, Fs, h, pos, env => by
    obtain ⟨a, h1, h⟩ := bind_some h
    obtain ⟨as, h2, h⟩ := bind_some h
    obtain ⟨i1, i2⟩ := noStars h2 pos env
    rw [noStar h1]
    unfold backTo at i1 i2 ⊢
    rw [List.map_cons, List.any_cons, List.all_cons, i1, i2]
    exact ⟨rfl, rfl⟩
/-- no set display -/
theorem notSet {n : Nat} {cc : CC} {e : Expr} {F : EF} (h : compE n cc e = some F) : (∀ (op : CmpOp), behindInMarks op e = false) ∧ ∀ (env : PySem.Env) x, foldedSetIterable e env x = pure x := by
  cases n with
  | zero => cases h
  | succ n =>
    cases e <;> first
      | exact ⟨fun _ => rfl, fun _ _ => rfl⟩
      | cases h
section
variable {X : Cx} {W : WX} {C : Or} {cc : CC}
theorem optab_ok : ∀ {op : Operator} {g : D → D → Hv → R D}, opTab op = some g → ∃ r, OkR X W g r ∧ OpR X (binaryOp op) r
  | .Add, _, h => by cases h; exact ⟨_, o_add, op_addA⟩
  | .Sub, _, h => by cases h; exact ⟨_, o_sub, op_sub⟩
  | .Mult, _, h => by cases h; exact ⟨_, o_mul, op_mulA⟩
  | .FloorDiv, _, h => by cases h; exact ⟨_, o_fdiv, op_fdivW⟩
  | .Mod, _, h => by cases h; exact ⟨_, o_mod, op_mod⟩
  | .Pow, _, h => by cases h; exact ⟨_, o_pow, op_pow⟩
  | .MatMult, _, h => by cases h
  | .Div, _, h => by cases h
  | .LShift, _, h => by cases h
  | .RShift, _, h => by cases h
  | .BitOr, _, h => by cases h
  | .BitXor, _, h => by cases h
  | .BitAnd, _, h => by cases h
theorem cmptab_ok (S : Sd X W C cc) : ∀ {op : CmpOp} {g : D → D → Hv → R D}, cmpTab op = some g → ∃ r, OkR X W g r ∧ OpR X (compareOp op) r
  | .Lt, _, h => by cases h; exact ⟨_, o_cmpI _, op_lt⟩
  | .LtE, _, h => by cases h; exact ⟨_, o_le, op_leV⟩
  | .Gt, _, h => by cases h; exact ⟨_, o_cmpI _, op_gt⟩
  | .GtE, _, h => by cases h; exact ⟨_, o_cmpI _, op_ge⟩
  | .Eq, _, h => by cases h; exact ⟨_, o_eq, op_eqD (by have := S.un; omega)⟩
  | .NotEq, _, h => by cases h; exact ⟨_, o_ne, op_neD (by have := S.un; omega)⟩
  | .Is, _, h => by cases h; exact ⟨_, o_is, op_is2⟩
  | .IsNot, _, h => by cases h; exact ⟨_, o_isnot, op_isnot2⟩
  | .In, _, h => by cases h; exact ⟨_, o_in false, op_inV (by have := S.un; omega)⟩
  | .NotIn, _, h => by cases h; exact ⟨_, o_in true, op_notInV (by have := S.un; omega)⟩
theorem tyTab_ok {x : Str} {T : String} (h : tyTab x = some T) : bootBuiltins x = some (.type T) ∧ T ∈ ["bool", "int", "str", "tuple", "list", "dict"] := by
  unfold tyTab at h
  split at h
  · rename_i e; subst e; cases h; exact ⟨boot_int, by decide⟩
  split at h
  · rename_i e; subst e; cases h; exact ⟨boot_tuple, by decide⟩
  split at h
  · rename_i e; subst e; cases h; exact ⟨boot_bool, by decide⟩
  split at h
  · rename_i e; subst e; cases h; exact ⟨boot_str, by decide⟩
  split at h
  · rename_i e; subst e; cases h; exact ⟨boot_list, by decide⟩
  · cases h
theorem bltTab_ok (S : Sd X W C cc) (hc : cc.calm = true) {x : Str} {g : List D → Hv → R D} (h : bltTab x = some g) : ∃ r, OkC X W g r ∧ ((∃ id, CallR X (.builtin id) r ∧ bootBuiltins x = some (.builtin id)) ∨ ∃ T, CallR X (.type T) r ∧ bootBuiltins x = some (.type T)) := by
  unfold bltTab at h
  split at h
  · rename_i e; subst e; cases h; exact ⟨_, o_len, .inl ⟨_, c_len, boot_len⟩⟩
  split at h
  · rename_i e; subst e; cases h; exact ⟨_, o_tuple, .inr ⟨_, call_tuple_of, boot_tuple⟩⟩
  split at h
  · rename_i e; subst e; cases h; exact ⟨_, o_int, .inr ⟨_, c_int, boot_int⟩⟩
  split at h
  · rename_i e; subst e; cases h; exact ⟨_, o_sum, .inl ⟨_, cr_sum (S.calm hc), boot_sum⟩⟩
  split at h
  · rename_i e; subst e; cases h; exact ⟨_, o_abs, .inl ⟨_, call_abs, boot_abs⟩⟩
  split at h
  · rename_i e; subst e; cases h; exact ⟨_, o_list, .inr ⟨_, c_list (S.calm hc), boot_list⟩⟩
  split at h
  · rename_i e; subst e; cases h; exact ⟨_, o_max, .inl ⟨_, call_max2 (S.calm hc), boot_max⟩⟩
  split at h
  · rename_i e; subst e; cases h; exact ⟨_, o_min, .inl ⟨_, call_min2 (S.calm hc), boot_min⟩⟩
  split at h
  · rename_i e; subst e; cases h; exact ⟨_, o_all, .inl ⟨_, cr_all (S.calm hc), boot_all⟩⟩
  split at h
  · rename_i e; subst e; cases h; exact ⟨_, o_any, .inl ⟨_, cr_any (S.calm hc), boot_any⟩⟩
  split at h
  · rename_i e; subst e; cases h; exact ⟨_, o_str, .inr ⟨_, c_str, boot_str⟩⟩
  · cases h
theorem mthTab_ok {x : Str} {g : D → List D → Hv → R D} (h : mthTab x = some g) : ∃ r id, OkM X W g r ∧ Slot "list" x id ∧ typeOf (.builtin id) = pure (.type "method_descriptor") ∧ MtR X id r := by
  unfold mthTab at h
  split at h
  · rename_i e; subst e; cases h; exact ⟨_, _, m_append, PySem.F.slot_list_append, PySem.F.type_list_append, mt_append⟩
  split at h
  · rename_i e; subst e; cases h; exact ⟨_, _, m_extend, PySem.F.slot_list_extend, PySem.F.type_list_extend, mt_extA⟩
  split at h
  · rename_i e; subst e; cases h; exact ⟨_, _, m_pop, PySem.F.slot_list_pop, PySem.F.type_list_pop, mt_popAt⟩
  · cases h
theorem mthTab0_ok {x : Str} {g : D → List D → Hv → R D} (h : mthTab0 x = some g) : ∃ r id, OkM X W g r ∧ Slot "list" x id ∧ typeOf (.builtin id) = pure (.type "method_descriptor") ∧ MtR X id r := by
  unfold mthTab0 at h
  split at h
  · rename_i e; subst e; cases h; exact ⟨_, _, m_reverse, PySem.F.slot_list_reverse, PySem.F.type_list_reverse, mt_reverse⟩
  split at h
  · rename_i e; subst e; cases h; exact ⟨_, _, m_clear, PySem.F.slot_list_clear, PySem.F.type_list_clear, mt_clear⟩
  · cases h
theorem smthTab0_ok {x : Str} {g : Str → Option D} (h : smthTab0 x = some g) : ∃ id, Slot "str" x id ∧ typeOf (.builtin id) = pure (.type "method_descriptor") ∧ MtR X id (rSm g) ∧ ∀ z d, g z = some d → ∃ v : V, ∀ K L H, Rel K L H d v := by
  unfold smthTab0 at h
  split at h
  · rename_i e; subst e; cases h; exact ⟨_, PySem.F.slot_str_upper, PySem.F.type_str_upper, mt_upperD, mUpper_v⟩
  split at h
  · rename_i e; subst e; cases h; exact ⟨_, PySem.F.slot_str_isdigit, PySem.F.type_str_isdigit, mt_isdigitD, mIsdigit_v⟩
  · cases h
/-! targets -/
theorem compT_ok (S : Sd X W C cc) : ∀ (n : Nat) (e : Expr) (t : TF × List Nat), compT n cc e = some t → PG X e (tG X.K t.2 t.1)
  | 0, _, _, h => by cases h
  | n + 1, e, t, h => by
    have ih := compT_ok S n
    have ls : ∀ (es : List Expr) (t : List TF × List Nat), compTs (compT n cc) es = some t → PGs X es (tGs X.K t.2 t.1) ∧ (assignEach es X.env).length = t.1.length ∧ (assignEach es X.env).findIdx? (·.1) = none := by
      intro es
      induction es with
      | nil => intro t h; cases h; exact ⟨gs_nil, rfl, rfl⟩
      | cons e es il =>
        intro t h
        obtain ⟨a, h1, h⟩ := bind_some h
        obtain ⟨as, h2, h⟩ := bind_some h
        cases h
        obtain ⟨p1, p2, p3⟩ := il as h2
        have ae : assignEach (e :: es) X.env = (false, assign e X.env) :: assignEach es X.env := by
          cases n with
          | zero => cases h1
          | succ n => cases e <;> first | rfl | cases h1
        refine ⟨gs_cons (ih e a h1) p1 (by rw [ae]; rfl), by rw [ae]; simp [p2], by rw [ae, List.findIdx?_cons, p3]; rfl⟩
    cases e with
    | Name x pos =>
      obtain ⟨i, h1, h⟩ := bind_some h
      obtain ⟨h2, h⟩ := guardO_some h
      cases h
      refine g_name S.nd (by rw [S.N]; exact slot_ok h1) ?_ ?_
      · split at h2
        · rename_i z; exact .inl (by rw [S.sc]; exact z)
        · rename_i z; exact .inr (by rw [S.sc]; exact z)
        · cases h2
      · split at h2
        · rename_i z; exact .inr (by rw [S.sc]; exact z)
        · rename_i z; exact .inl (by rw [S.fn]; exact h2)
        · cases h2
    | Tuple es k pos =>
      obtain ⟨h0, h⟩ := guardO_some h
      obtain ⟨z, h1, h⟩ := map_some h
      cases h
      obtain ⟨p1, p2, p3⟩ := ls es z h1
      exact g_tup (S.calm h0) p1 p2 p3
    | _ => cases h
/-! expressions -/
abbrev SE (n : Nat) : Prop := ∀ (cc : CC) (e : Expr) (F : EF), compE n cc e = some F → ∀ (X : Cx) (W : WX) (C : Or), Sd X W C cc → PE X e (tE X W (F C)) ∧ ∀ m, testable m e = true → PT X e (tB X W (F C))
theorem compL_ok {n : Nat} (ih : SE n) (S : Sd X W C cc) : ∀ (es : List Expr) (Fs : List EF), compL (compE n cc) es = some Fs → PA X es (tA X W (listF Fs C))
  | [], _, h => by cases h; exact a_nil C
  | e :: es, _, h => by
    obtain ⟨a, h1, h⟩ := bind_some h
    obtain ⟨as, h2, h⟩ := bind_some h
    cases h
    exact a_cons C (ih cc e a h1 X W C S).1 (compL_ok ih S es as h2) (noStar h1 _ _)
theorem compPs_ok {n : Nat} (ih : SE n) (S : Sd X W C cc) {pos : Pos} : ∀ (ks : List (Option Expr)) (vs : List Expr) (es : List (EF × EF)), compPs (compE n cc) ks vs = some es →
    PPs X pos ks vs (es.map fun p => (tE X W (p.1 C), tE X W (p.2 C))) ∧ ks.all (·.isSome) = true ∧ ks.length = vs.length
  | [], [], _, h => by cases h; exact ⟨pps_nil, rfl, rfl⟩
  | some k :: ks, v :: vs, _, h => by
    unfold compPs at h
    obtain ⟨a, h1, h⟩ := bind_some h
    obtain ⟨b, h2, h⟩ := bind_some h
    obtain ⟨es, h3, rfl⟩ := map_some h
    obtain ⟨q1, q2, q3⟩ := compPs_ok ih S ks vs es h3
    exact ⟨pps_cons (ih cc k a h1 X W C S).1 (ih cc v b h2 X W C S).1 q1, by simpa using q2, by simp [q3]⟩
  | [], _ :: _, _, h => by cases h
  | none :: _, _, _, h => by cases h
  | some _ :: _, [], _, h => by cases h
theorem andL_ok {n : Nat} (ih : SE n) (S : Sd X W C cc) {pos : Pos} : ∀ (es : List Expr) (Fs : List EF) (F : EF), compL (compE n cc) es = some Fs → andL Fs = some F → PE X (.BoolOp .And es pos) (tE X W (F C)) ∧ ∀ m, es.all (testable m) = true → PW X (.BoolOp .And es pos) (tB X W (F C))
  | [], _, _, h, q => by cases h; cases q
  | [e], _, _, h, q => by
    obtain ⟨a, h1, h⟩ := bind_some h
    cases h
    cases q
    obtain ⟨p1, p2⟩ := ih cc e _ h1 X W C S
    exact ⟨r_one p1, fun m t => t_and1 (p2 m (by simpa using t))⟩
  | e :: e2 :: es, _, _, h, q => by
    obtain ⟨a, h1, h⟩ := bind_some h
    obtain ⟨as, h2, h⟩ := bind_some h
    cases h
    obtain ⟨b, h3, h4⟩ := bind_some h2
    obtain ⟨bs, h5, h6⟩ := bind_some h4
    cases h6
    obtain ⟨G, q1, rfl⟩ := map_some q
    obtain ⟨p1, p2⟩ := ih cc e a h1 X W C S
    obtain ⟨r1, r2⟩ := andL_ok ih S (e2 :: es) _ G h2 q1
    exact ⟨r_and C p1 r1, fun m t => by
      rw [List.all_cons] at t
      obtain ⟨t1, t2⟩ := and2 t
      exact t_and C (p2 m t1) (r2 m t2)⟩
theorem orL_ok {n : Nat} (ih : SE n) (S : Sd X W C cc) {pos : Pos} : ∀ (es : List Expr) (Fs : List EF) (F : EF), compL (compE n cc) es = some Fs → orL Fs = some F → PE X (.BoolOp .Or es pos) (tE X W (F C)) ∧ ∀ m, es.all (testable m) = true → PW X (.BoolOp .Or es pos) (tB X W (F C))
  | [], _, _, h, q => by cases h; cases q
  | [e], _, _, h, q => by
    obtain ⟨a, h1, h⟩ := bind_some h
    cases h
    cases q
    obtain ⟨p1, p2⟩ := ih cc e _ h1 X W C S
    exact ⟨r_one p1, fun m t => t_or1 (p2 m (by simpa using t))⟩
  | e :: e2 :: es, _, _, h, q => by
    obtain ⟨a, h1, h⟩ := bind_some h
    obtain ⟨as, h2, h⟩ := bind_some h
    cases h
    obtain ⟨b, h3, h4⟩ := bind_some h2
    obtain ⟨bs, h5, h6⟩ := bind_some h4
    cases h6
    obtain ⟨G, q1, rfl⟩ := map_some q
    obtain ⟨p1, p2⟩ := ih cc e a h1 X W C S
    obtain ⟨r1, r2⟩ := orL_ok ih S (e2 :: es) _ G h2 q1
    exact ⟨r_or C p1 r1, fun m t => by
      rw [List.all_cons] at t
      obtain ⟨t1, t2⟩ := and2 t
      exact t_or C (p2 m t1) (r2 m t2)⟩
theorem compOpt_ok {n : Nat} (ih : SE n) (S : Sd X W C cc) (e : Option Expr) (F : Option EF) (h : compOpt (compE n cc) e = some F) : PO X e (tO X W (optF F C)) := by
  cases e with
  | none => cases h; exact o_none C
  | some e =>
    obtain ⟨a, h1, rfl⟩ := map_some h
    exact o_some C (ih cc e a h1 X W C S).1
theorem compI_ok {n : Nat} (ih : SE n) (S : Sd X W C cc) {tg iter : Expr} {F : IF} (h : compI (compE n cc) cc tg iter = some F) : PI X tg iter (tI X W (F C)) ∧ ∀ x, foldedSetIterable iter X.env x = pure x := by
  have dflt : (compE n cc iter).map itE = some F → PI X tg iter (tI X W (F C)) ∧ ∀ x, foldedSetIterable iter X.env x = pure x := fun h => by
    obtain ⟨a, h1, rfl⟩ := map_some h
    exact ⟨i_e C (ih cc iter a h1 X W C S).1, (notSet h1).2 X.env⟩
  unfold compI at h
  split at h
  · rename_i x p a pos
    split at h
    · rename_i q
      obtain ⟨q, rfl⟩ := q
      obtain ⟨b1, b2, _⟩ := blt_ok S q
      obtain ⟨fa, h1, rfl⟩ := map_some h
      exact ⟨i_r1 C b1 b2 (ih cc a fa h1 X W C S).1 (noStar h1 _ _), fun _ => rfl⟩
    · split at h
      · rename_i q
        obtain ⟨q, rfl, q2⟩ := q
        obtain ⟨b1, b2, _⟩ := blt_ok S q
        obtain ⟨fa, h1, rfl⟩ := map_some h
        cases tg <;> first | exact ⟨i_enum C b1 b2 (ih cc a fa h1 X W C S).1 (noStar h1 _ _), fun _ => rfl⟩ | cases q2
      · exact dflt h
  · rename_i x p a b pos
    split at h
    · rename_i q
      obtain ⟨q, rfl⟩ := q
      obtain ⟨b1, b2, _⟩ := blt_ok S q
      obtain ⟨fa, h1, h⟩ := bind_some h
      obtain ⟨fb, h2, rfl⟩ := map_some h
      exact ⟨i_r2 C b1 b2 (ih cc a fa h1 X W C S).1 (ih cc b fb h2 X W C S).1 (noStar h1 _ _) (noStar h2 _ _), fun _ => rfl⟩
    · split at h
      · rename_i q
        obtain ⟨q, rfl, q2⟩ := q
        obtain ⟨b1, b2, _⟩ := blt_ok S q
        obtain ⟨fa, h1, h⟩ := bind_some h
        obtain ⟨fb, h2, rfl⟩ := map_some h
        cases tg <;> first | exact ⟨i_zip C b1 b2 (ih cc a fa h1 X W C S).1 (ih cc b fb h2 X W C S).1 (noStar h1 _ _) (noStar h2 _ _), fun _ => rfl⟩ | cases q2
      · exact dflt h
  · exact dflt h
/-- a comprehension's block -/
theorem Sd.blk (S : Sd X W C cc) (s : Shared) (H : Hp) (scope : Scope) (C' : Addr) (cl : List (Str × Addr)) (fq : List Addr) : Sd (X.blk s H scope (compEnvC scope cl C' X.env) fq) W0 C (blkCC cc scope) where
  N := S.N
  nd := S.nd
  sc := by
    show relS scope X.env.scope = relS scope cc.sc
    rw [S.sc]
  fn := rfl
  calm := S.calm
  tk := takes0
  un := S.un
  gl := fun x g e => by
    have z := S.gl x g e
    cases g with
    | con d => exact z
    | fn np => exact z
    | blt => exact z
    | exc b =>
      obtain ⟨Ca, z1, z2⟩ := z
      refine ⟨Ca, z1, ?_⟩
      cases b with
      | true => exact z2
      | false => exact z2
  ex := S.ex
theorem compLc_ok {n : Nat} (ih : SE n) (S : Sd X W C cc) {elt tg iter : Expr} {ifs : List Expr} {scope : Scope} {F : EF} (h : compLc (compE n) (testable n) n cc elt tg iter ifs scope = some F) :
    cc.calm = true ∧ ∃ (fi : IF) (t : TF × List Nat) (ft fe : EF), F = lcF fi t.1 ((ownOf cc scope).map fun (q : Str × Nat) => q.2) ft fe ∧ PI X tg iter (tI X W (fi C)) ∧ (∀ x, foldedSetIterable iter X.env x = pure x) ∧ BlkOk X.N X.env.scope scope (ownOf cc scope) ∧
      (∀ j ∈ t.2, j ∈ (ownOf cc scope).map fun (q : Str × Nat) => q.2) ∧
      (∀ (s : Shared) (H : Hp) (C' : Addr) (cl : List (Str × Addr)) (fq : List Addr), PG (X.blk s H scope (compEnvC scope cl C' X.env) fq) tg (tG X.K t.2 t.1)) ∧
      (∀ (s : Shared) (H : Hp) (C' : Addr) (cl : List (Str × Addr)) (fq : List Addr), PTs (X.blk s H scope (compEnvC scope cl C' X.env) fq) ifs (tB X W0 (ft C))) ∧
      (∀ (s : Shared) (H : Hp) (C' : Addr) (cl : List (Str × Addr)) (fq : List Addr), PE (X.blk s H scope (compEnvC scope cl C' X.env) fq) elt (tE X W0 (fe C))) := by
  unfold compLc at h
  obtain ⟨hc0, h⟩ := guardO_some h
  obtain ⟨hc, h0⟩ := and2 hc0
  obtain ⟨fi, h1, h⟩ := bind_some h
  obtain ⟨t, h2, h⟩ := bind_some h
  obtain ⟨h3, h⟩ := guardO_some h
  obtain ⟨ft, h4, h⟩ := bind_some h
  obtain ⟨fe, h5, rfl⟩ := map_some h
  obtain ⟨pi, fs⟩ := compI_ok ih S h1
  refine ⟨hc, fi, t, ft, fe, rfl, pi, fs, by rw [S.N, S.sc]; exact blkOk_by h0, fun j hj => ?_, fun s H C' cl fq => ?_, fun s H C' cl fq => ?_, fun s H C' cl fq => ?_⟩
  · have z := List.all_eq_true.mp h3 j hj
    simpa using z
  · exact compT_ok (S.blk s H scope C' cl fq) n tg t h2
  · cases ifs with
    | nil =>
      cases h4
      exact ⟨fun pins s' σ H' Q I q => pts_nil.run pins s' σ H' Q I (by
        obtain ⟨L, h, env, hr, sr, hp⟩ := q
        exact hp L H' (LE.refl _) (Keep.refl _) hr)⟩
    | cons c r =>
      cases r with
      | nil =>
        obtain ⟨h6, h7⟩ := guardO_some h4
        exact pts_one ((ih (blkCC cc scope) c ft h7 _ W0 C (S.blk s H scope C' cl fq)).2 n h6)
      | cons _ _ => cases h4
  · exact (ih (blkCC cc scope) elt fe h5 _ W0 C (S.blk s H scope C' cl fq)).1
end
end VM

set_option maxRecDepth 100000
set_option maxHeartbeats 4000000
namespace VM
open PySem PySem.Spec PyProof.Rows L2
theorem plainIx_of {b : Expr} (h : notSl b = true) : PlainIx b := fun o i => by
  cases b <;> first | rfl | cases h
theorem base_of {o : Expr} (h : notCall o = true) (name : Str) (env : PySem.Env) : attributeBase o name env (eval o env) = eval o env := by
  cases o <;> first | rfl | cases h
theorem few_of {pos : Pos} {as : List Expr} {env : PySem.Env} (h : (backTo pos (starEach as env)).all (fun x => !x.1) = true) (hl : as.length < 20) :
    ((backTo pos (starEach as env)).all (fun x => !x.1) && (backToKw pos (keywordEach [] env)).all (fun x => x.1.isSome) && decide (as.length + ([] : List Keyword).length + (if ([] : List Keyword).isEmpty then 0 else 1) < 30)) = true := by
  rw [h]
  have e : decide (as.length + ([] : List Keyword).length + (if ([] : List Keyword).isEmpty then 0 else 1) < 30) = true := decide_eq_true (by simp; omega)
  rw [e]
  rfl
theorem compE_ok : ∀ n, SE n
  | 0 => fun cc e F h => by cases h
  | n + 1 => fun cc e F h X W C S => by
    have ih := compE_ok n
    have E : ∀ {a : Expr} {fa : EF}, compE n cc a = some fa → PE X a (tE X W (fa C)) := fun {a fa} h => (ih cc a fa h X W C S).1
    have T : ∀ {a : Expr} {fa : EF} {m}, compE n cc a = some fa → testable m a = true → PT X a (tB X W (fa C)) := fun {a fa m} h t => (ih cc a fa h X W C S).2 m t
    have val : ∀ {f : Fe}, PE X e (tE X W f) → (∀ whole, isTrue e X.env whole = (do let v ← whole; standAt e.pos; holding [v] (truthy v))) → PE X e (tE X W f) ∧ ∀ m, testable m e = true → PT X e (tB X W f) := fun {f} p t => ⟨p, fun _ _ => t_val p t⟩
    unfold compE at h
    split at h
    · -- a name
      rename_i x pos
      obtain ⟨h0, h⟩ := guardO_some h
      obtain ⟨d1, d2, d3⟩ := okNm_ok h0
      split at h
      · rename_i v
        obtain ⟨i, h1, rfl⟩ := map_some h
        exact val (r_var C (by rw [S.N]; exact slot_ok h1) (by rw [S.sc]; exact vis_ok v) d1 d2) fun _ => rfl
      · obtain ⟨h1, h⟩ := guardO_some h
        split at h
        · rename_i d eg
          cases h
          obtain ⟨u, v, e1, e2, e3⟩ := S.gl x _ eg
          exact val (r_glob C (glo_ok S.sc h1) e1 e2 e3 d1) fun _ => rfl
        · cases h
    · cases h; exact val (r_int C) fun _ => rfl
    · cases h; exact val (r_str C) fun _ => rfl
    · cases h; exact val (r_bl C) fun _ => rfl
    · cases h; exact val (r_non C) fun _ => rfl
    · -- a op b
      obtain ⟨fa, h1, h⟩ := bind_some h
      obtain ⟨fb, h2, h⟩ := bind_some h
      obtain ⟨g, h3, rfl⟩ := map_some h
      obtain ⟨r, o1, o2⟩ := optab_ok (X := X) (W := W) h3
      exact val (r_op C o1 o2 (E h1) (E h2)) fun _ => rfl
    · -- not
      obtain ⟨fa, h1, rfl⟩ := map_some h
      refine ⟨r_not C (E h1), fun m t => ?_⟩
      cases m with
      | zero => cases t
      | succ m => exact t_not C (T h1 (show testable m _ = true from t))
    · obtain ⟨fa, h1, rfl⟩ := map_some h
      exact val (r_un C o_neg un_neg (E h1)) fun _ => rfl
    · -- one comparison
      obtain ⟨fa, h1, h⟩ := bind_some h
      obtain ⟨fb, h2, h⟩ := bind_some h
      obtain ⟨g, h3, rfl⟩ := map_some h
      obtain ⟨r, o1, o2⟩ := cmptab_ok S h3
      exact ⟨r_cmp C o1 o2 ((notSet h2).1 _) (E h1) (E h2), fun _ _ => t_cmp C o1 o2 ((notSet h2).1 _) (E h1) (E h2)⟩
    · -- two
      obtain ⟨fa, h1, h⟩ := bind_some h
      obtain ⟨fb, h2, h⟩ := bind_some h
      obtain ⟨fc, h3, h⟩ := bind_some h
      obtain ⟨g, h4, h⟩ := bind_some h
      obtain ⟨g', h5, rfl⟩ := map_some h
      obtain ⟨r, o1, o2⟩ := cmptab_ok S h4
      obtain ⟨r', o1', o2'⟩ := cmptab_ok S h5
      exact ⟨r_chain C o1 o1' o2 o2' ((notSet h3).1 _) (E h1) (E h2) (E h3), fun _ _ => t_chain C o1 o1' o2 o2' ((notSet h3).1 _) (E h1) (E h2) (E h3)⟩
    · obtain ⟨fs, h1, h⟩ := bind_some h
      obtain ⟨p1, p2⟩ := andL_ok ih S _ _ _ h1 h
      refine ⟨p1, fun m t => ?_⟩
      cases m with
      | zero => cases t
      | succ m => exact (p2 m t).pt
    · obtain ⟨fs, h1, h⟩ := bind_some h
      obtain ⟨p1, p2⟩ := orL_ok ih S _ _ _ h1 h
      refine ⟨p1, fun m t => ?_⟩
      cases m with
      | zero => cases t
      | succ m => exact (p2 m t).pt
    · obtain ⟨h0, h⟩ := guardO_some h
      obtain ⟨fc, h1, h⟩ := bind_some h
      obtain ⟨fa, h2, h⟩ := bind_some h
      obtain ⟨fb, h3, rfl⟩ := map_some h
      refine ⟨r_ite C (T h1 h0) (E h2) (E h3), fun m t => ?_⟩
      cases m with
      | zero => cases t
      | succ m => cases t
    · obtain ⟨fs, h1, rfl⟩ := map_some h
      exact val (r_tup C (compL_ok ih S _ _ h1)) fun _ => rfl
    · obtain ⟨fs, h1, rfl⟩ := map_some h
      exact val (r_lst C (compL_ok ih S _ _ h1)) fun _ => rfl
    · obtain ⟨fa, h1, h⟩ := bind_some h
      obtain ⟨fb, h0, h⟩ := bind_some h
      obtain ⟨fl, h2, h⟩ := bind_some h
      obtain ⟨fh, h3, rfl⟩ := map_some h
      exact val (r_slc C o_sl sl_B (r_orT C (E h1) (r_one (E h0))) (compOpt_ok ih S _ _ h2) (compOpt_ok ih S _ _ h3)) fun _ => rfl
    · obtain ⟨fa, h1, rfl⟩ := map_some h
      exact val (r_rev C (E h1)) fun _ => rfl
    · obtain ⟨fa, h1, h⟩ := bind_some h
      obtain ⟨fl, h2, h⟩ := bind_some h
      obtain ⟨fh, h3, rfl⟩ := map_some h
      exact val (r_slc C o_sl sl_B (E h1) (compOpt_ok ih S _ _ h2) (compOpt_ok ih S _ _ h3)) fun _ => rfl
    · obtain ⟨h0, h⟩ := guardO_some h
      obtain ⟨fa, h1, h⟩ := bind_some h
      obtain ⟨fb, h2, rfl⟩ := map_some h
      exact val (r_ix C o_ix (ix_seq.or ix_dct) (E h1) (E h2) (plainIx_of h0)) fun _ => rfl
    · obtain ⟨hc, fi, t, ft, fe, rfl, p1, p2, p3, p4, p5, p6, p7⟩ := compLc_ok ih S h
      exact val (PE.weak (pe_lc (S.calm hc) S.nd p1 p3 p5 p6 p7 p2) (lc_read C p4)) fun _ => rfl
    · -- a call by name
      rename_i x p a as pos
      obtain ⟨h0, hA⟩ := guardO_some h
      obtain ⟨g1, h0⟩ := and2 h0
      obtain ⟨d1, d2, d3⟩ := okNm_ok h0
      have gl := glo_ok S.sc g1
      clear h
      split at hA
      · rename_i np eg
        obtain ⟨hc, hA⟩ := guardO_some hA
        obtain ⟨fs, h1, rfl⟩ := map_some hA
        obtain ⟨k, f, fd, ps, e1, F1, e2, rm, e3, e4, e5⟩ := S.gl x _ eg
        obtain ⟨b, h2, h3⟩ := bind_some h1
        obtain ⟨bs, h4, h5⟩ := bind_some h3
        exact val (r_call C S.tk F1 e2 (rm (S.calm hc)) gl e3 e4 e5 (compL_ok ih S _ _ h1) d1 (noStar h2 _ _) (noStars h4 _ _).1) fun _ => rfl
      · rename_i eg
        have mg := S.gl x _ eg
        have hB := guardO_some hA
        clear hA
        obtain ⟨hc, hA⟩ := hB
        split at hA
        · rename_i ex
          subst ex
          split at hA
          · rename_i T p2
            obtain ⟨h1, hA⟩ := guardO_some hA
            obtain ⟨ty, h2, hA⟩ := bind_some hA
            obtain ⟨fa, h3, rfl⟩ := map_some hA
            obtain ⟨b1, b2, b3, b4⟩ := blt_ok S h1
            obtain ⟨t1, t2⟩ := tyTab_ok h2
            exact val (r_isi C gl mg b1 b2 t1 t2 b4 b3 (E h3) (noStar h3 _ _)) fun _ => rfl
          · rename_i T p2 U p3 kk p4
            obtain ⟨h1, hA⟩ := guardO_some hA
            obtain ⟨h1, h1'⟩ := and2 h1
            obtain ⟨ty, h2, hA⟩ := bind_some hA
            obtain ⟨uy, h2', hA⟩ := bind_some hA
            obtain ⟨fa, h3, rfl⟩ := map_some hA
            obtain ⟨b1, b2, b3, b4⟩ := blt_ok S h1
            obtain ⟨u1, u2, u3, u4⟩ := blt_ok S h1'
            obtain ⟨t1, t2⟩ := tyTab_ok h2
            obtain ⟨v1, v2⟩ := tyTab_ok h2'
            exact val (r_isi2 C gl mg b1 b2 t1 t2 b4 b3 u1 u2 v1 v2 u4 u3 (E h3) (fun es => noStar h3 _ _)) fun _ => rfl
          · cases hA
        · split at hA
          · rename_i c ec
            unfold lrgA at ec
            split at ec
            · rename_i ex
              subst ex
              split at ec
              · split at ec
                · rename_i q
                  obtain ⟨q, rfl⟩ := q
                  cases ec
                  obtain ⟨b1, b2, _⟩ := blt_ok S q
                  obtain ⟨fa, h1, rfl⟩ := map_some hA
                  exact val (r_lrg C (S.calm hc) gl mg b1 b2 (E h1) (noStar h1 _ _)) fun _ => rfl
                · cases ec
              · cases ec
            · cases ec
          obtain ⟨g, h1, hA⟩ := bind_some hA
          obtain ⟨fs, h2, rfl⟩ := map_some hA
          obtain ⟨b, h3, h4⟩ := bind_some h2
          obtain ⟨bs, h5, h6⟩ := bind_some h4
          obtain ⟨r, o1, o2⟩ := bltTab_ok S hc h1
          rcases o2 with ⟨id, o2, o3⟩ | ⟨id, o2, o3⟩
          · exact val (r_cb C o1 o2 gl mg o3 (compL_ok ih S _ _ h2) d3 d1 (noStar h3 _ _) (noStars h5 _ _).1) fun _ => rfl
          · exact val (r_ct C o1 o2 gl mg o3 (compL_ok ih S _ _ h2) d3 d1 (noStar h3 _ _) (noStars h5 _ _).1) fun _ => rfl
      · cases hA
    · -- a method
      obtain ⟨h0, h⟩ := guardO_some h
      obtain ⟨c1, h0⟩ := and2 h0
      obtain ⟨c2, c3⟩ := and2 h0
      obtain ⟨fo, h2, h⟩ := bind_some h
      obtain ⟨fs, h3, h⟩ := bind_some h
      obtain ⟨b, h4, h5⟩ := bind_some h3
      obtain ⟨bs, h6, h7⟩ := bind_some h5
      split at h
      rotate_left
      · obtain ⟨g, h1, rfl⟩ := map_some h
        unfold mthTabD at h1
        split at h1
        · rename_i en
          subst en
          cases h1
          exact val (r_methD C m_get PySem.F.slot_dict_get PySem.F.type_dict_get mt_get (E h2) (compL_ok ih S _ _ h3) (base_of c1 _ _) (few_of (noStars h3 _ _).2 (of_decide_eq_true c2)) c3 (noStar h4 _ _) (noStars h6 _ _).1) fun _ => rfl
        · cases h1
      rename_i g h1
      cases h
      obtain ⟨r, id, o1, o2, o3, o4⟩ := mthTab_ok (X := X) (W := W) h1
      exact val (r_meth C o1 o2 o3 o4 (E h2) (compL_ok ih S _ _ h3) (base_of c1 _ _) (few_of (noStars h3 _ _).2 (of_decide_eq_true c2)) c3 (noStar h4 _ _) (noStars h6 _ _).1) fun _ => rfl
    · -- a dict
      rename_i keys values pos
      obtain ⟨h0, h⟩ := guardO_some h
      obtain ⟨es, h1, rfl⟩ := map_some h
      obtain ⟨q1, q2, q3⟩ := compPs_ok ih S (pos := pos) _ _ _ h1
      cases keys with
      | nil =>
        cases values with
        | nil => cases h1; exact val (r_disp0 C) fun _ => rfl
        | cons _ _ => cases h1
      | cons k ks => exact val (r_disp C es q1 q2 q3 (by simp) (of_decide_eq_true h0)) fun _ => rfl
    · obtain ⟨h0, h⟩ := guardO_some h
      obtain ⟨c1, c3⟩ := and2 h0
      obtain ⟨fo, h2, h⟩ := bind_some h
      split at h
      · rename_i g h1
        cases h
        obtain ⟨r, id, o1, o2, o3, o4⟩ := mthTab0_ok (X := X) (W := W) h1
        exact val (r_meth0 C o1 o2 o3 o4 (E h2) (base_of c1 _ _) c3) fun _ => rfl
      · obtain ⟨g, h1, rfl⟩ := map_some h
        obtain ⟨id, o1, o2, o3, o4⟩ := smthTab0_ok (X := X) h1
        exact val (r_smeth0 C o1 o2 o3 o4 (E h2) (base_of c1 _ _) c3) fun _ => rfl
    · cases h
end VM

set_option maxRecDepth 100000
set_option maxHeartbeats 4000000
namespace VM
open PySem PySem.Spec PyProof.Rows L2
structure SdS (X : Cx) (W : WX) (C : Or) (cc : CC) : Prop extends Sd X W C cc where
  po : cc.calm = true → PassesOwn (model X.prog X.w) X.A X.env X.xe
  kd : X.env.scope.kind = .function
  stk : X.stack = X.env :: X.outer
  frm : X.env.frame = some X.env.locals
theorem SdS.tr {X : Cx} {W W' : WX} {C : Or} {cc : CC} (S : SdS X W C cc) {pn : List (Addr × Obj)} {xe : Value → Shared → Prop} (tk : Takes (X.tr pn xe) W') (po : PassesOwn (model X.prog X.w) X.A X.env xe) : SdS (X.tr pn xe) W' C cc :=
  ⟨S.toSd.tr tk, fun _ => po, S.kd, S.stk, S.frm⟩
theorem SdS.su {X : Cx} {W : WX} {C : Or} {cc : CC} (S : SdS X W C cc) (a : Addr) (pn : List (Addr × Obj)) : SdS (X.suite a pn) W0 C { cc with calm := false } :=
  ⟨S.toSd.su a pn, fun z => absurd z Bool.false_ne_true, S.kd, S.stk, S.frm⟩
theorem swF {e : Expr} (h : isLc e = false) (t : Option Expr) (l : Nat) (env : PySem.Env) : swapsWith e t l env = pure false := by
  cases e <;> first | rfl | cases h
theorem lc_inv {n : Nat} {cc : CC} {elt : Expr} {gens : List Comprehension} {scope : Scope} {pos : Pos} {F : EF} (h : compE n cc (.ListComp elt gens scope pos) = some F) :
    ∃ m tg iter ifs, n = m + 1 ∧ gens = [⟨tg, iter, ifs, 0⟩] ∧ compLc (compE m) (testable m) m cc elt tg iter ifs scope = some F := by
  cases n with
  | zero => cases h
  | succ m =>
    unfold compE at h
    split at h <;> first
      | (rename_i q; cases q; exact ⟨m, _, _, _, rfl, rfl, h⟩)
      | (rename_i q _; cases q; done)
      | (rename_i q; cases q; done)
      | cases h
      | skip
    all_goals simp_all
theorem kindOf_eq {X : Cx} {cc : CC} (e : X.env.scope = cc.sc) (x : Str) : X.env.kindOf x = cc.sc.names.lookup x := by
  show X.env.scope.names.lookup x = _
  rw [e]
section
variable {X : Cx} {W : WX} {C : Or} {cc : CC}
theorem nmLoc_ok (S : Sd X W C cc) {x : Str} (h : nmLoc cc x = true) : X.env.scope.names.lookup x = some .local := by
  unfold nmLoc at h
  split at h
  · rename_i z; rw [S.sc]; exact z
  · cases h
theorem compSet_ok (S : SdS X W C cc) {n : Nat} {x : Str} {px pos : Pos} {e : Expr} {F : SF} (h : compSet n cc x px e pos = some F) : PS X (.Assign [.Name x px] e pos) (tS X W (F C)) := by
  unfold compSet at h
  obtain ⟨i, h1, h⟩ := bind_some h
  obtain ⟨h2, h⟩ := guardO_some h
  obtain ⟨f, h3, h⟩ := bind_some h
  have hi : X.N[i]? = some x := by rw [S.N]; exact slot_ok h1
  have loc : Loc X.env.scope x ∧ (X.fn x = true ∨ X.env.scope.names.lookup x = some .local) := by
    rcases Bool.or_eq_true_iff.mp h2 with z | z
    · exact ⟨.inl (nmLoc_ok S.toSd z), .inr (nmLoc_ok S.toSd z)⟩
    · split at z
      · rename_i q
        exact ⟨.inr (by rw [S.sc]; exact q), .inl (by rw [S.fn]; exact z)⟩
      · cases z
  have he := (compE_ok n cc e f h3 X W C S.toSd).1
  have plain : swapsWith e (some (.Name x px)) pos.line X.env = pure false → F = asgS (nmT i) f → PS X (.Assign [.Name x px] e pos) (tS X W (F C)) := fun sw eF => by
    subst eF
    exact s_set C S.nd hi loc.1 he sw loc.2
  cases q : isLc e with
  | false =>
    refine plain (swF q _ _ _) ?_
    cases e <;> first
      | (cases q; done)
      | (cases h; rfl)
  | true =>
    cases e with
    | ListComp elt gens scope lpos =>
      have h' : (if nmLoc cc x = true then guardO ((px.line == lpos.line) && !(scope.names.any fun (n, k) => n == x && (k == .local || k == .cell))) (some (asgS (nmT i) f)) else some (asgS (nmT i) f)) = some F := h
      split at h'
      · rename_i nl
        obtain ⟨h4, h5⟩ := guardO_some h'
        cases h5
        obtain ⟨h6, h7⟩ := and2 h4
        have h7' : (scope.names.any fun (n, k) => n == x && (k == .local || k == .cell)) = false := by
          cases z : (scope.names.any fun (n, k) => n == x && (k == .local || k == .cell)) with
          | false => rfl
          | true => rw [z] at h7; exact absurd h7 (by decide)
        obtain ⟨m, tg, iter, ifs, rfl, rfl, h8⟩ := lc_inv h3
        obtain ⟨hc, fi, t, ft, fe, rfl, p1, p2, p3, p4, p5, p6, p7⟩ := compLc_ok (compE_ok m) S.toSd h8
        have lx := nmLoc_ok S.toSd nl
        refine PS.weak (ps_setLc (S.calm hc) S.nd hi lx (sw_true S.kd lx h6 h7') p1 p3 p5 p6 p7 p2) fun D_ σ H ⟨L, h, env, hr, sr, hp⟩ => ?_
        have hq := lc_read (X := X) (W := W) C p4 (fi := fi) (t := t.1) (ft := ft) (fe := fe) σ H (fun v H1 => gName i v σ H1 D_.nx) ⟨L, h, env, hr, sr, pS.then_ sr hp fun d h1 L1 H1 v le kp hr1 r1 hp1 => ?_⟩
        · exact hq
        · unfold nmT at hp1
          split at hp1
          · rename_i env1 e1
            split at e1
            · cases e1
              exact hp1 L1 H1 _ (LE.refl _) (Keep.refl _) hr1 ((sr.mono le kp).set r1)
            · cases e1
          · exact hp1.elim
      · rename_i nl
        cases h'
        refine plain ?_ rfl
        have k : (X.env.kindOf x == some NameKind.local) = false := by
          rw [kindOf_eq S.sc]
          rcases Bool.or_eq_true_iff.mp h2 with z | z
          · exact absurd z nl
          · split at z
            · rename_i q; rw [q]; rfl
            · cases z
        unfold swapsWith
        simp only [k, Bool.and_false, Bool.false_and]
    | SetComp _ _ _ _ => cases n <;> cases h3
    | DictComp _ _ _ _ _ => cases n <;> cases h3
    | _ => cases q
end
theorem notT {b : Bool} (h : (!b) = true) : b = false := by
  cases b with
  | false => rfl
  | true => cases h
def isStar : Expr → Bool
  | .Starred _ _ => true
  | _ => false
theorem par_sw {env : PySem.Env} {x y : Str} {px py pt : Pos} {kt k2 : Nat} {pt2 : Pos} {a b : Expr} (hk : env.scope.kind = .function) (hx : env.kindOf x = some .local) (hy : env.kindOf y = some .local) (hl : (px.line == py.line) = true) (hne : x ≠ y)
    (h1 : [a, b].all (foldedForSure 8) = false) (h2 : [a, b].all (constantsAlone 8) = false) (sa : isStar a = false) (sb : isStar b = false) :
    swappedStores [.Tuple [.Name x px, .Name y py] kt pt] (.Tuple [a, b] k2 pt2) env = pure (some [x, y]) := by
  have bk : env.blockKind = .function := by unfold Env.blockKind; rw [hk]; rfl
  have s : ([a, b].any fun | .Starred .. => true | _ => false) = false := by
    cases a <;> first | (cases b <;> first | rfl | (cases sb; done)) | (cases sa; done)
  have e1 : py.line = px.line := (beq_iff_eq.mp hl).symm
  have e3 : ([x, y] : List Str).eraseDups = [x, y] := by
    simp [List.eraseDups_cons, hne.symm]
  unfold swappedStores
  simp only [s, h1, h2]
  simp [bk, hx, hy, e1, e3, Expr.pos]
  rintro (z | z)
  · cases a <;> first | (cases z; done) | (cases sa; done)
  · cases b <;> first | (cases z; done) | (cases sb; done)
theorem par_no {env : PySem.Env} {x y : Str} {px py pt : Pos} {kt k2 : Nat} {pt2 : Pos} {a b : Expr} (hk : env.scope.kind = .function) (hx : ¬ (env.kindOf x = some .local ∧ env.kindOf y = some .local)) (sa : isStar a = false) (sb : isStar b = false) :
    swappedStores [.Tuple [.Name x px, .Name y py] kt pt] (.Tuple [a, b] k2 pt2) env = pure none := by
  have bk : env.blockKind = .function := by unfold Env.blockKind; rw [hk]; rfl
  have s : ([a, b].any fun | .Starred .. => true | _ => false) = false := by
    cases a <;> first | (cases b <;> first | rfl | (cases sb; done)) | (cases sa; done)
  unfold swappedStores
  simp only [s]
  by_cases h : env.kindOf x = some .local
  · have h' : env.kindOf y ≠ some .local := fun z => hx ⟨h, z⟩
    simp [bk, h, h', Expr.pos]
  · by_cases h2 : env.kindOf y = some .local
    · by_cases h3 : py.line = px.line
      · simp [bk, h, h2, h3, Expr.pos]
      · simp [bk, h, h2, h3, Expr.pos]
    · simp [bk, h, h2, Expr.pos]
theorem star_of {n : Nat} {cc : CC} {e : Expr} {F : EF} (h : compE n cc e = some F) : isStar e = false := by
  cases n with
  | zero => cases h
  | succ n => cases e <;> first | rfl | cases h
theorem tupE_of {n : Nat} {cc : CC} {es : List Expr} {k k' : Nat} {p p' : Pos} {F : EF} (h : compE n cc (.Tuple es k p) = some F) : compE n cc (.Tuple es k' p') = some F ∧ isLc (.Tuple es k' p') = false := by
  cases n with
  | zero => cases h
  | succ n => exact ⟨h, rfl⟩
theorem tupT_of {n : Nat} {cc : CC} {es : List Expr} {k k' : Nat} {p p' : Pos} {F : TF × List Nat} (h : compT n cc (.Tuple es k p) = some F) : compT n cc (.Tuple es k' p') = some F := by
  cases n with
  | zero => cases h
  | succ n => exact h
section
variable {X : Cx} {W : WX} {C : Or} {cc : CC}
abbrev SS (n : Nat) : Prop := ∀ (cc : CC) (s : Stmt) (F : SF), compS n cc s = some F → ∀ (X : Cx) (W : WX) (C : Or), SdS X W C cc → PS X s (tS X W (F C))
theorem compSs_ok {n : Nat} (ih : SS n) (S : SdS X W C cc) : ∀ (ss : List Stmt), PSs X ss (tS X W (compSs (compS n cc) ss C))
  | [] => s_nil
  | s :: ss => by
    have one : PS X s (tS X W (((compS n cc s).getD stkS) C)) := by
      cases q : compS n cc s with
      | none => exact PS.weak ps_never fun D_ σ H ⟨L, h, env, hr, sr, hp⟩ => hp.elim
      | some F => exact ih cc s F q X W C S
    exact s_cons C one (compSs_ok ih S ss)
theorem exc_ok (S : Sd X W C cc) {x : Str} (h : isExc cc x = true) : x ∈ cc.ex ∧ Gl X x ∧ (x == ("__debug__" : Str)) = false := by
  unfold isExc at h
  obtain ⟨h, h2⟩ := and2 h
  obtain ⟨h0, h1⟩ := and2 h
  exact ⟨List.contains_iff_mem.mp h0, glo_ok S.sc h1, (okNm_ok h2).1⟩
theorem names_ok (S : Sd X W C cc) {x : Str} (h : isExc cc x = true) : x ∈ cc.ex ∧ ∃ Ca, X.mg x = some (.ref Ca) ∧ Names X x (.ref Ca) := by
  obtain ⟨h1, h2, h3⟩ := exc_ok S h
  obtain ⟨Ca, _, m, _, _⟩ := S.ex x h1 x h1
  exact ⟨h1, Ca, m, h2, h3, .inl m⟩
theorem compR_ok {n : Nat} (S : SdS X W C cc) (hc : cc.calm = true) {e : Expr} {F : SF} {pos : Pos} (h : compR (compE n cc) cc e = some F) : PS X (.Raise (some e) none pos) (tS X W (F C)) := by
  unfold compR at h
  split at h
  · rename_i x p e p3
    obtain ⟨h0, h⟩ := guardO_some h
    obtain ⟨x1, x2, x3⟩ := exc_ok S.toSd h0
    split at h
    · rename_i eg
      obtain ⟨Ca, m, o⟩ := S.gl x _ eg
      split at h
      · cases h
        exact r_raise0 C (S.calm hc) S.tk x2 m o x3
      · cases h
    · rename_i eg
      obtain ⟨Ca, m, o⟩ := S.gl x _ eg
      obtain ⟨fe, h1, rfl⟩ := map_some h
      exact r_raise1 C (S.calm hc) S.tk x2 m o x3 (compE_ok n cc e fe h1 X W C S.toSd).1 (noStar h1 _ _)
    · cases h
  · cases h
theorem xf_ok (S : Sd X W C cc) {x : Str} (h : isExc1 cc x = true) {Ca : Addr} (m : X.mg x = some (.ref Ca)) : XfC X.K Ca ∧ PySem.W.findIn X.K (.ref Ca) "at" = some none := by
  unfold isExc1 at h
  split at h
  · rename_i eg
    obtain ⟨Ca', m', o⟩ := S.gl x _ eg
    rw [m] at m'
    cases m'
    obtain ⟨_, _, no, xf⟩ := o
    exact ⟨xf, no⟩
  · cases h
/-- clauses without a name -/
theorem hrel_ok {n : Nat} (ih : SS n) (S : SdS X W C cc) : ∀ (hds : List ExceptHandler) (z : List (Str × Hd)), compHs (compHu (compSs (compS n { cc with calm := false })) cc) hds = some z → ∃ l, HRel X C cc.ex hds z l
  | [], z, h => by cases h; exact ⟨_, .nil⟩
  | hd :: hds, z, h => by
    obtain ⟨a, h1, h⟩ := bind_some h
    obtain ⟨as, h2, rfl⟩ := map_some h
    obtain ⟨l, r⟩ := hrel_ok ih S hds as h2
    unfold compHu at h1
    split at h1
    · obtain ⟨h0, h1⟩ := guardO_some h1
      obtain ⟨k, Ca, m, nm⟩ := names_ok S.toSd h0
      cases h1
      exact ⟨_, .cons k m nm (fun a oe cls d pn _ _ => compSs_ok ih (S.su a _) _) r⟩
    · cases h1
theorem compHd_ok {n : Nat} (ih : SS n) (S : SdS X W C cc) (hc : cc.calm = true) {body : List Stmt} {hd : ExceptHandler} {hds : List ExceptHandler} {z : List (Str × Hd)} {pos : Pos} (h : compHd (compSs (compS n { cc with calm := false })) cc (hd :: hds) = some z) :
    PS X (.Try body (hd :: hds) [] [] pos) (tS X W (tryS cc.ex (compSs (compS n cc) body) z C)) := by
  have hb : ∀ (W' : WX) (pn : List (Addr × Obj)) (xe : Value → Shared → Prop), Takes (X.tr pn xe) W' → PassesOwn (model X.prog X.w) X.A X.env xe → PSs (X.tr pn xe) body (tS X W' (compSs (compS n cc) body C)) := fun W' pn xe tk po =>
    compSs_ok ih (S.tr tk po) body
  unfold compHd at h
  split at h
  · rename_i z' e
    cases h
    obtain ⟨l, r⟩ := hrel_ok ih S _ _ e
    exact s_try C S.stk S.frm S.tk S.ex hb r
  · split at h
    · rename_i hq
      cases hq
      obtain ⟨a, h1, rfl⟩ := map_some h
      unfold compHn at h1
      split at h1
      · obtain ⟨i, h3, h1⟩ := bind_some h1
        obtain ⟨h0, h1⟩ := guardO_some h1
        obtain ⟨q1, h0⟩ := and2 h0
        obtain ⟨q2, h0⟩ := and2 h0
        obtain ⟨q3, h0⟩ := and2 h0
        obtain ⟨q4, q5⟩ := and2 h0
        cases h1
        obtain ⟨e, ea⟩ := of_decide_eq_true q2
        subst e ea
        obtain ⟨k, Ca, m, nm⟩ := names_ok S.toSd q1
        obtain ⟨d1, d2, _⟩ := okNm_ok q5
        obtain ⟨xf, no⟩ := xf_ok S.toSd q3 m
        exact s_tryAt (m := "") (j := 0) (kk := 0) (p4 := ⟨0, 0, 0, 0⟩) (p5 := ⟨0, 0, 0, 0⟩) C S.stk S.frm S.tk S.ex hb S.nd (by rw [S.N]; exact slot_ok h3) (nmLoc_ok S.toSd q4) k m nm xf no d1 d2 (.inl ⟨rfl, rfl⟩)
      · obtain ⟨i, h3, h1⟩ := bind_some h1
        obtain ⟨h0, h1⟩ := guardO_some h1
        obtain ⟨q1, h0⟩ := and2 h0
        obtain ⟨q2, h0⟩ := and2 h0
        obtain ⟨q3, h0⟩ := and2 h0
        obtain ⟨q4, q5⟩ := and2 h0
        cases h1
        obtain ⟨e, ea⟩ := of_decide_eq_true q2
        subst e ea
        obtain ⟨k, Ca, m, nm⟩ := names_ok S.toSd q1
        obtain ⟨d1, d2, _⟩ := okNm_ok q5
        obtain ⟨xf, no⟩ := xf_ok S.toSd q3 m
        exact s_tryAt C S.stk S.frm S.tk S.ex hb S.nd (by rw [S.N]; exact slot_ok h3) (nmLoc_ok S.toSd q4) k m nm xf no d1 d2 (.inr ⟨rfl, rfl⟩)
      · cases h1
    · cases h
theorem compS_ok : ∀ n, SS n
  | 0 => fun cc s F h => by cases h
  | n + 1 => fun cc s F h X W C S => by
    have ih := compS_ok n
    have E : ∀ {a : Expr} {fa : EF}, compE n cc a = some fa → PE X a (tE X W (fa C)) := fun {a fa} h => (compE_ok n cc a fa h X W C S.toSd).1
    have T : ∀ {a : Expr} {fa : EF} {m}, compE n cc a = some fa → testable m a = true → PT X a (tB X W (fa C)) := fun {a fa m} h t => (compE_ok n cc a fa h X W C S.toSd).2 m t
    unfold compS at h
    split at h
    · cases h; exact s_pass C
    · cases h; exact s_break C
    · cases h; exact s_cont C
    · obtain ⟨hc, h⟩ := guardO_some h
      exact compR_ok S hc h
    · obtain ⟨hc, h⟩ := guardO_some h
      obtain ⟨z, h1, rfl⟩ := map_some h
      exact compHd_ok ih S hc h1
    · cases h; exact s_retN C
    · obtain ⟨f, h1, rfl⟩ := map_some h
      exact s_ret C (E h1)
    · obtain ⟨h0, h⟩ := guardO_some h
      obtain ⟨f, h1, rfl⟩ := map_some h
      exact s_exp C (E h1) (swF (by simpa using h0) _ _ _)
    · obtain ⟨h0, h⟩ := guardO_some h
      obtain ⟨fc, h1, rfl⟩ := map_some h
      exact s_if C (T h1 h0) (compSs_ok ih S _) (compSs_ok ih S _)
    · obtain ⟨h0, h⟩ := guardO_some h
      obtain ⟨hc, h0⟩ := and2 h0
      obtain ⟨fc, h1, rfl⟩ := map_some h
      exact s_while C (S.po hc) (T h1 h0) (compSs_ok ih S _)
    · obtain ⟨hc, h⟩ := guardO_some h
      obtain ⟨fi, h1, h⟩ := bind_some h
      obtain ⟨t, h2, rfl⟩ := map_some h
      obtain ⟨p1, p2⟩ := compI_ok (compE_ok n) S.toSd h1
      exact s_for C (S.po hc) (S.calm hc) p1 (compT_ok S.toSd n _ t h2) (compSs_ok ih S _) p2
    · exact compSet_ok S h
    · rename_i o i tpos e pos
      obtain ⟨h0, h⟩ := guardO_some h
      obtain ⟨fo, h1, h⟩ := bind_some h
      obtain ⟨fi, h2, h⟩ := bind_some h
      obtain ⟨f, h3, rfl⟩ := map_some h
      refine s_setL C (E h3) (E h1) (E h2) (fun v => ?_) ?_ ?_ rfl
      · cases i <;> first | rfl | cases h0
      · cases e <;> rfl
      · cases e <;> rfl
    · rename_i x px y py kt pt a b k2 pt2 pos
      split at h
      · rename_i nl
        obtain ⟨h0, h⟩ := guardO_some h
        obtain ⟨lc, h0⟩ := and2 h0
        obtain ⟨l1, h0⟩ := and2 h0
        obtain ⟨l2, h0⟩ := and2 h0
        obtain ⟨l3, l4⟩ := and2 h0
        obtain ⟨i, h1, h⟩ := bind_some h
        obtain ⟨j, h2, h⟩ := bind_some h
        obtain ⟨h3, h⟩ := guardO_some h
        obtain ⟨fa, h4, h⟩ := bind_some h
        obtain ⟨fb, h5, rfl⟩ := map_some h
        have lx := nmLoc_ok S.toSd nl.1
        have ly := nmLoc_ok S.toSd nl.2
        exact s_par C (S.calm lc) S.nd (by rw [S.N]; exact slot_ok h1) (by rw [S.N]; exact slot_ok h2) (of_decide_eq_true h3) lx ly (E h4) (E h5) (noStar h4 _ _) (noStar h5 _ _)
          (par_sw S.kd lx ly l1 (of_decide_eq_true l2) (notT l3) (notT l4) (star_of h4) (star_of h5)) rfl
      · rename_i nl
        obtain ⟨t, h1, h⟩ := bind_some h
        obtain ⟨f, h2, rfl⟩ := map_some h
        have h3 := (tupE_of (k' := k2) (p' := pt2) h2).1
        have st : isStar a = false ∧ isStar b = false := by
          cases n with
          | zero => cases h2
          | succ m =>
            obtain ⟨fs, q1, q2⟩ := map_some (show (compL (compE m cc) [a, b]).map tupF = some f from h2)
            obtain ⟨fa, q3, q4⟩ := bind_some q1
            obtain ⟨as, q5, q6⟩ := bind_some q4
            obtain ⟨fb, q7, q8⟩ := bind_some q5
            exact ⟨star_of q3, star_of q7⟩
        have no : ¬ (X.env.kindOf x = some .local ∧ X.env.kindOf y = some .local) := fun z => nl (by
          rw [kindOf_eq S.sc, kindOf_eq S.sc] at z
          unfold nmLoc
          rw [z.1, z.2]
          exact ⟨rfl, rfl⟩)
        exact s_asg C (E h3) (compT_ok S.toSd n _ t (tupT_of h1)) rfl (par_no S.kd no st.1 st.2) rfl
    · rename_i es k p e pos nn
      obtain ⟨h0, h⟩ := guardO_some h
      obtain ⟨t, h1, h⟩ := bind_some h
      obtain ⟨f, h2, rfl⟩ := map_some h
      refine s_asg C (E h2) (compT_ok S.toSd n _ t (tupT_of h1)) ?_ ?_ rfl
      · cases e <;> rfl
      · cases e <;> first | rfl | cases h0
    · cases h
end
end VM

set_option maxRecDepth 100000
set_option maxHeartbeats 4000000
namespace VM
open PySem PySem.Spec PyProof.Rows L2
section
variable {K : PySem.W.Frag} {mg : Str → Option Value} {L L' : List Addr} {H H' : Hp} {h h' : Hv}
mutual
theorem Rel.back (le : LE L L') : ∀ {d : D} {v u : V}, Rel K L' H' d v → Rel K L H d u → Rel K L H' d v
  | _, _, _, .non, _ => .non
  | _, _, _, .bl b, _ => .bl b
  | _, _, _, .int i, _ => .int i
  | _, _, _, .str s, _ => .str s
  | _, _, _, .tup h r, .tup h2 r2 => .tup h (Rels.back le r r2)
  | _, _, _, .ref h, .ref h2 => .ref (by
    have z := le _ _ h2
    rw [h] at z
    cases z
    exact h2)
theorem Rels.back (le : LE L L') : ∀ {ds : List D} {vs us : List V}, Rels K L' H' ds vs → Rels K L H ds us → Rels K L H' ds vs
  | _, _, _, .nil, _ => .nil
  | _, _, _, .cons r t, .cons r2 t2 => .cons (Rel.back le r r2) (Rels.back le t t2)
end
mutual
theorem Rel.ground : ∀ {d : D} {v : V}, Rel K L' H' d v → d.gr = true → Rel K L H' d v
  | _, _, .non, _ => .non
  | _, _, .bl b, _ => .bl b
  | _, _, .int i, _ => .int i
  | _, _, .str s, _ => .str s
  | _, _, .tup h r, g => .tup h (Rels.ground r (by simpa [D.gr] using g))
  | _, _, .ref h, g => by simp [D.gr] at g
theorem Rels.ground : ∀ {ds : List D} {vs : List V}, Rels K L' H' ds vs → D.grs ds = true → Rels K L H' ds vs
  | _, _, .nil, _ => .nil
  | _, _, .cons r t, g => by
    simp only [D.grs, Bool.and_eq_true] at g
    exact .cons (Rel.ground r g.1) (Rels.ground t g.2)
end
theorem LE.split (le : LE L L') : L'.take L.length = L := by
  apply List.ext_getElem?
  intro i
  rw [List.getElem?_take]
  split
  · rename_i hi
    have z := le i L[i] (List.getElem?_eq_getElem hi)
    rw [z, List.getElem?_eq_getElem hi]
  · rename_i hi
    rw [List.getElem?_eq_none (by omega)]
theorem HR.cut (hr : HR K L H h) (le : LE L L') (kp : Keep K H H') (hr' : HR K L' H' h') (hl : h.length ≤ h'.length) (sg : sameOrGr h h' = true) : HR K L H' (h'.take h.length) := by
  have at_ : ∀ {i : Nat} {o : Ob}, (h'.take h.length)[i]? = some o → i < h.length ∧ h'[i]? = some o := fun {i o} e => by
    rw [List.getElem?_take] at e
    split at e
    · rename_i hi; exact ⟨hi, e⟩
    · cases e
  have same : ∀ {i : Nat} {o : Ob}, i < h.length → h'[i]? = some o → h[i]? = some o ∨ o.gr = true := fun {i o} hi e => by
    have z := List.all_eq_true.mp sg i (List.mem_range.mpr hi)
    rcases Bool.or_eq_true_iff.mp z with z | z
    · left; rw [← of_decide_eq_true z]; exact e
    · right; rw [e] at z; exact z
  refine ⟨by rw [List.length_take, hr.len]; omega, fun i a ds e1 e2 => ?_, fun i a ds e1 e2 => ?_, fun i j a ds es e1 e2 e3 e4 => ?_, fun i a ds e1 e2 => ?_, fun i j a ds es e1 e2 e3 e4 => ?_⟩
  rotate_left 3
  · obtain ⟨hi, e1⟩ := at_ e1
    obtain ⟨xs, q, r⟩ := hr'.dct i a ds e1 (le _ _ e2)
    refine ⟨xs, q, ?_⟩
    rcases same hi e1 with z | z
    · obtain ⟨ys, _, r2⟩ := hr.dct i a ds z e2
      exact ⟨r.1, r.2.back le r2.2⟩
    · exact ⟨r.1, r.2.ground z⟩
  · obtain ⟨hi, e1⟩ := at_ e1
    obtain ⟨hj, e2⟩ := at_ e2
    exact hr'.injD i j a ds es e1 e2 (le _ _ e3) (le _ _ e4)
  · obtain ⟨hi, e1⟩ := at_ e1
    obtain ⟨xs, q, r⟩ := hr'.lst i a ds e1 (le _ _ e2)
    refine ⟨xs, q, ?_⟩
    rcases same hi e1 with z | z
    · obtain ⟨ys, _, r2⟩ := hr.lst i a ds z e2
      exact r.back le r2
    · exact r.ground z
  · obtain ⟨hi, e1⟩ := at_ e1
    obtain ⟨xs, q, r⟩ := hr'.ro i a ds e1 (le _ _ e2)
    refine ⟨xs, q, ?_⟩
    rcases same hi e1 with z | z
    · obtain ⟨ys, _, r2⟩ := hr.ro i a ds z e2
      exact r.back le r2
    · exact r.ground z
  · obtain ⟨hi, e1⟩ := at_ e1
    obtain ⟨hj, e2⟩ := at_ e2
    exact hr'.inj i j a ds es e1 e2 (le _ _ e3) (le _ _ e4)
theorem gc_ok {W : WX} {σ : L2.St} {Q : VK} {d : D} (hr : HR K L H h) (p : pR K mg L H W σ Q (gc h d h')) : ∀ L' H' v, LE L L' → Keep K H H' → HR K L' H' h' → Rel K L' H' d v → Q v H' := by
  intro L' H' v le kp hr' rel
  unfold gc at p
  split at p
  · rename_i c
    have hc := hr.cut le kp hr' c.1 c.2
    split at p
    · rename_i g
      exact p L H' v (LE.refl _) kp hc (rel.ground g)
    · split at p
      · rename_i i _
        split at p
        · rename_i ds e
          split at p
          · rename_i q
            cases rel with
            | @ref _ a ea =>
              obtain ⟨xs, hx, r⟩ := hr'.lst i a ds e ea
              refine p (L ++ [a]) H' (.ref a) (LE.app _ _) kp ?_ (.ref (by rw [← hr.len]; simp))
              have lt : (h'.take h.length).length = h.length := by rw [List.length_take]; have := c.1; omega
              have old : ∀ {j : Nat} {o : Ob}, (h'.take h.length ++ [.lst ds])[j]? = some o → (j < h.length ∧ (h'.take h.length)[j]? = some o) ∨ (j = h.length ∧ o = .lst ds) := fun {j o} e => by
                by_cases hj : j < h.length
                · rw [List.getElem?_append_left (by omega)] at e; exact .inl ⟨hj, e⟩
                · have e2 : j < (h'.take h.length ++ [Ob.lst ds]).length := (List.getElem?_eq_some_iff.mp e).1
                  rw [List.length_append, lt] at e2
                  have e3 : j = h.length := by simp at e2; omega
                  subst e3
                  rw [List.getElem?_append_right (by omega), lt] at e
                  simp at e
                  exact .inr ⟨rfl, e.symm⟩
              have oldL : ∀ {j : Nat} {b : Addr}, j < h.length → (L ++ [a])[j]? = some b → L[j]? = some b := fun {j b} hj e => by
                rw [List.getElem?_append_left (by rw [hr.len]; exact hj)] at e; exact e
              have newL : ∀ {b : Addr}, (L ++ [a])[h.length]? = some b → b = a := fun {b} e => by
                rw [← hr.len] at e; simp at e; exact e.symm
              have far : ∀ {j : Nat} {es : List D}, j < h.length → (h'.take h.length)[j]? = some (.lst es) → L[j]? = some a → False := fun {j es} hj e1 e2 => by
                have e3 : h'[j]? = some (.lst es) := by
                  rw [List.getElem?_take, if_pos hj] at e1
                  exact e1
                have := hr'.inj j i a es ds e3 e (le _ _ e2) ea
                omega
              refine ⟨by simp [hr.len, lt], fun j b es e1 e2 => ?_, fun j b es e1 e2 => ?_, fun j k b es fs e1 e2 e3 e4 => ?_, fun j b es e1 e2 => ?_, fun j k b es fs e1 e2 e3 e4 => ?_⟩
              rotate_left 3
              · rcases old e1 with ⟨hj, e1⟩ | ⟨rfl, e9⟩
                · obtain ⟨ys, q1, s⟩ := hc.dct j b es e1 (oldL hj e2)
                  exact ⟨ys, q1, s.mono (LE.app _ _) (Keep.refl _)⟩
                · cases e9
              · rcases old e1 with ⟨hj, e1⟩ | ⟨rfl, e9⟩
                · rcases old e2 with ⟨hk, e2⟩ | ⟨rfl, e9⟩
                  · exact hc.injD j k b es fs e1 e2 (oldL hj e3) (oldL hk e4)
                  · cases e9
                · cases e9
              · rcases old e1 with ⟨hj, e1⟩ | ⟨rfl, e9⟩
                · obtain ⟨ys, q1, s⟩ := hc.lst j b es e1 (oldL hj e2)
                  exact ⟨ys, q1, s.mono (LE.app _ _) (Keep.refl _)⟩
                · cases e9
                  obtain rfl := newL e2
                  exact ⟨xs, hx, r.ground q.2⟩
              · rcases old e1 with ⟨hj, e1⟩ | ⟨rfl, e9⟩
                · obtain ⟨ys, q1, s⟩ := hc.ro j b es e1 (oldL hj e2)
                  exact ⟨ys, q1, s.mono (LE.app _ _) (Keep.refl _)⟩
                · cases e9
              · rcases old e1 with ⟨hj, e1⟩ | ⟨rfl, e9⟩
                · rcases old e2 with ⟨hk, e2⟩ | ⟨rfl, e9⟩
                  · exact hc.inj j k b es fs e1 e2 (oldL hj e3) (oldL hk e4)
                  · obtain rfl := newL e4
                    exact (far hj e1 (oldL hj e3)).elim
                · rcases old e2 with ⟨hk, e2⟩ | ⟨rfl, e8⟩
                  · obtain rfl := newL e3
                    exact (far hk e2 (oldL hk e4)).elim
                  · rfl
          · exact p L' H' v le kp hr' rel
        · exact p L' H' v le kp hr' rel
      · exact p L' H' v le kp hr' rel
  · exact p L' H' v le kp hr' rel
end
/-! the text's defs -/
structure Row where
  x : Str
  st : Stmt
  N : List Str
  ps : List Str
  fr : FnRec
def Row.okB (r : Row) : Bool :=
  (match (defScope r.st).kind with
    | .function => true
    | _ => false) && (!(defScope r.st).isCoroutine && (!(defScope r.st).isGenerator && (decide r.N.Nodup && (decide (r.N.take r.ps.length = r.ps) && ((r.ps.all fun x => match (defScope r.st).names.lookup x with
      | some .local => true
      | some .cell => true
      | _ => false) && (((defScope r.st).names.all fun y => match y.2 with
      | .free => false
      | _ => true) && (decide (r.ps.length = r.fr.np) && decide (r.N.length = r.fr.nl))))))))
theorem Row.scope {r : Row} (h : r.okB = true) : FnScope r.N r.ps (defScope r.st) ∧ r.ps.length = r.fr.np ∧ r.N.length = r.fr.nl := by
  unfold Row.okB at h
  obtain ⟨h1, h⟩ := and2 h
  obtain ⟨h2, h⟩ := and2 h
  obtain ⟨h3, h⟩ := and2 h
  obtain ⟨h4, h⟩ := and2 h
  obtain ⟨h5, h⟩ := and2 h
  obtain ⟨h6, h⟩ := and2 h
  obtain ⟨h7, h⟩ := and2 h
  obtain ⟨h9, h10⟩ := and2 h
  refine ⟨⟨?_, notT h2, notT h3, of_decide_eq_true h4, of_decide_eq_true h5, fun x hx => ?_, fun y hy => ?_⟩, of_decide_eq_true h9, of_decide_eq_true h10⟩
  · split at h1
    · assumption
    · cases h1
  · have z := List.all_eq_true.mp h6 x hx
    split at z
    · exact .inl (by assumption)
    · exact .inr (by assumption)
    · cases z
  · have z := List.all_eq_true.mp h7 y hy
    intro q
    rw [q] at z
    cases z
/-- how its arguments come to its parameters: h is a match over so many values, rfl -/
def Row.Bd (r : Row) : Prop := ∀ (kV doc pm : Value) (an : Option Addr) (cdv ct : Value) (us : List Value), us.length = r.ps.length → bindArgs (PySem.W.fnOf r.x r.x (defArgs r.st) (defBody r.st) (defScope r.st) .none kV doc pm an cdv ct) ⟨us, []⟩ = pure (r.ps.zip us)
abbrev FnP (K : PySem.W.Frag) (r : Row) (f : Addr) (fd : FuncData) : Prop := FunD K r.x r.x (defArgs r.st) (defBody r.st) (defScope r.st) [] [] f fd
structure Glb (rows : List Row) (K : PySem.W.Frag) (mg : Str → Option Value) (gl : Str → Option GV) (ex : List Str) (tbl : Str → Option FnRec) : Prop where
  fns : ∀ x np, gl x = some (.fn np) → ∃ (r : Row) (f : Addr) (fd : FuncData) (n : Nat), r ∈ rows ∧ r.x = x ∧ r.ps.length = np ∧ r.okB = true ∧ tbl x = some r.fr ∧ compFn n gl ex r.N r.st = some r.fr.body ∧ r.Bd ∧ FnP K r f fd ∧ mg x = some (.ref f)
  con : ∀ x d, gl x = some (.con d) → ∃ u v, mg x = some u ∧ RelV v u ∧ ∀ L H, Rel K L H d v
  blt : ∀ x, gl x = some .blt → mg x = none
  exc0 : ∀ x, gl x = some (.exc false) → ∃ Ca, mg x = some (.ref Ca) ∧ X0Ok K Ca
  exc1 : ∀ x, gl x = some (.exc true) → ∃ Ca, mg x = some (.ref Ca) ∧ (∃ (fI : Addr) (fd : FuncData), PySem.W.findIn K (.ref Ca) "__init__" = some (some (.ref fI)) ∧ PySem.W.typeIn K (.ref fI) = some (.type "function") ∧ Binds K fd ["self", "at"] [] ∧
    ∀ (P : Program) (w : World) (base : Heap), FnOk P w K mg base (L2.CX P w) 1 fI fd ["self", "at"] (spInit K)) ∧ OexC K Ca ∧ PySem.W.findIn K (.ref Ca) "at" = some none ∧ XfC K Ca
  kn : ∀ x ∈ ex, ∀ y ∈ ex, ∃ Cx Cy, mg x = some (.ref Cx) ∧ mg y = some (.ref Cy) ∧ PySem.W.exmOne K (.ref Cx) (.ref Cy) = some (decide (x = y))
theorem start_rel {K : PySem.W.Frag} {L : List Addr} {H : Hp} {ds : List D} {vs : List V} {N : List Str} {np : Nat} (r : Rels K L H ds vs) (hl : ds.length = np) (hle : np ≤ N.length) : SRel K L H (ds.map some ++ List.replicate (N.length - np) none) (start N vs) := by
  have e := r.len
  subst hl
  unfold L2.start
  refine ⟨by simp [e], fun i d h => ?_⟩
  by_cases hi : i < ds.length
  · rw [List.getElem?_append_left (by simpa using hi), List.getElem?_map] at h
    cases q : ds[i]? with
    | none => rw [q] at h; cases h
    | some d' =>
      rw [q] at h
      cases h
      obtain ⟨v, e1, rv⟩ := r.get q
      refine ⟨v, ?_, rv⟩
      rw [List.getElem?_append_left (by rw [List.length_map, ← e]; exact hi), List.getElem?_map, e1]
      rfl
  · rw [List.getElem?_append_right (by simpa using hi)] at h
    have := List.getElem?_replicate (a := (none : Option D)) (n := N.length - ds.length) (i := i - (ds.map some).length)
    rw [this] at h
    split at h <;> cases h
section
variable {P : Program} {w : World} {K : PySem.W.Frag} {mg : Str → Option Value} {base : Heap} {gl : Str → Option GV} {ex : List Str} {tbl : Str → Option FnRec}
theorem units70 {k : Nat} {A : Around} (r : Room k A) : A.units + 70 < cLine := by have := r.un; omega
theorem fns_ok {rows : List Row} (G : Glb rows K mg gl ex tbl) : ∀ (k : Nat) (x : Str) (np : Nat), gl x = some (.fn np) → ∃ f fd ps, ps.length = np ∧ FnOk P w K mg base (L2.CX P w) (k + 2) f fd ps (spOf K mg ps.length (callK tbl k x)) ∧ (∀ ds h, ds.length ≠ ps.length → callK tbl k x ds h = .stuck) ∧
    mg x = some (.ref f) ∧ PySem.W.keepIn K (.ref f) = true ∧ Binds K fd ps [] ∧ ∃ r ∈ rows, r.x = x ∧ r.ps = ps ∧ r.Bd ∧ FnP K r f fd
  | k, x, np, hx => by
    obtain ⟨r, f, fd, n, mr, rfl, hnp, ok, et, ec, bd, F, em⟩ := G.fns x np hx
    obtain ⟨sc, l1, l2⟩ := Row.scope ok
    have bs : Binds K fd r.ps [] := F.bindsN bd
    refine ⟨f, fd, r.ps, hnp, ?_, ?_, em, F.kp, bs, r, mr, rfl, rfl, bd, F⟩
    · cases k with
      | zero => exact ⟨fun vs H Q E h => h.1, fun A outer s H args us vs Q E _ _ _ _ h => by
          obtain ⟨_, L, h0, ds, _, _, z⟩ := h
          exact z.elim⟩
      | succ k =>
        refine F.ok sc (fun vs H Q E h => h.1) (fun cdv A outer s H vs Q E hr h => ?_)
        obtain ⟨hlen, L, h0, ds, hrl, rs, hp⟩ := h
        let X : Cx := cxOf (L2.CX P w) P w K mg base r.N r.x (defScope r.st) f cdv A outer s H E
        have tk : Takes X (fun cls d _ H => E cls d H) := takes_of rfl rfl rfl rfl
        have S : SdS X (fun cls d _ H => E cls d H) (callK tbl k) { N := r.N, sc := defScope r.st, fn := fun _ => true, gl := gl, calm := true, ex := ex } := by
          refine ⟨⟨rfl, sc.nd, rfl, rfl, fun _ => rfl, tk, units70 hr, fun y g e => ?_, G.kn⟩, fun _ => passes_of rfl, sc.kind, rfl, rfl⟩
          cases g with
          | con d => exact G.con y d e
          | fn np2 =>
            obtain ⟨f2, fd2, ps2, a1, a2, a3, a4, a5, a6, _⟩ := fns_ok G k y np2 e
            exact ⟨k + 2, f2, fd2, ps2, a1, a2, a3, fun _ => hr, a4, a5, a6⟩
          | blt => exact G.blt y e
          | exc b =>
            cases b with
            | false =>
              obtain ⟨Ca, m, o⟩ := G.exc0 y e
              exact ⟨Ca, m, o⟩
            | true =>
              obtain ⟨Ca, m, ⟨fI, fd, i1, i2, i3, i4⟩, o⟩ := G.exc1 y e
              exact ⟨Ca, m, ⟨fI, fd, i1, i2, i3, fun _ => hr.mono (by omega), i4 P w base⟩, o⟩
        have B := compSs_ok (compS_ok n) S (defBody r.st)
        rw [show compSs (compS n { N := r.N, sc := defScope r.st, fn := fun _ => true, gl := gl, calm := true, ex := ex }) (defBody r.st) = r.fr.body from Option.some.inj ec] at B
        refine ⟨_, B, L, h0, ds.map some ++ List.replicate (r.fr.nl - r.fr.np) none, hrl, ?_, ?_⟩
        · rw [← l2]
          have le : r.fr.np ≤ r.N.length := by
            rw [← l1]
            have z := congrArg List.length sc.pre
            rw [List.length_take] at z
            omega
          exact start_rel rs (by rw [rs.len, hlen, l1]) le
        · have hp2 : pR K mg L H (fun cv dx _ H' => E cv dx H') [] Q (runFn r.fr (callK tbl k) ds h0) := by
            have z : callK tbl (k + 1) r.x ds h0 = runFn r.fr (callK tbl k) ds h0 := by
              show (match tbl r.x with
                | some r => runFn r (callK tbl k) ds h0
                | none => .stuck) = _
              rw [et]
            rw [← z]
            exact hp
          unfold runFn at hp2
          rw [if_pos (by rw [rs.len, hlen, l1])] at hp2
          cases q : r.fr.body (callK tbl k) (ds.map some ++ List.replicate (r.fr.nl - r.fr.np) none) h0 with
          | nx env h1 =>
            rw [q] at hp2
            exact fun L' H' σ' le kp hr1 _ => gc_ok hrl hp2 L' H' .non le kp hr1 .non
          | rt d h1 =>
            rw [q] at hp2
            exact fun L' H' v le kp hr1 rl => gc_ok hrl hp2 L' H' v le kp hr1 rl
          | exc c d env h1 =>
            rw [q] at hp2
            exact fun L' H' σ' cv dx le kp hr1 _ ex => hp2 L' H' cv dx le kp hr1 ex
          | bk env h1 => rw [q] at hp2; exact hp2.elim
          | ct env h1 => rw [q] at hp2; exact hp2.elim
          | stuck => rw [q] at hp2; exact hp2.elim
    · intro ds h hd
      cases k with
      | zero => rfl
      | succ k =>
        show (match tbl r.x with
          | some r => runFn r (callK tbl k) ds h
          | none => .stuck) = _
        rw [et]
        show runFn r.fr (callK tbl k) ds h = _
        unfold runFn
        rw [if_neg (by rw [← l1]; exact hd)]
end

/-! what stands behind the top: read off the heap -/
def dvB (K : PySem.W.Frag) : Nat → D → Value → Bool
  | _, .non, .none => true
  | _, .bl b, .bool c => b == c
  | _, .int i, .int j _ => decide (i = j)
  | _, .str x, .str y _ => decide (x = y)
  | n + 1, .tup ds, .ref a => (match K.lookup a with
    | some ⟨.type c, _, .seq its _, _⟩ => decide (c = "tuple") && (decide (its.size ≤ sizeLine) && dvs n ds its.toList)
    | _ => false)
  | _, _, _ => false
where dvs (n : Nat) : List D → List Value → Bool
  | [], [] => true
  | d :: ds, u :: us => dvB K n d u && dvs n ds us
  | _, _ => false
theorem dvB_ok {K : PySem.W.Frag} : ∀ (n : Nat) (d : D) (u : Value), dvB K n d u = true → ∃ v, RelV v u ∧ ∀ L H, Rel K L H d v
  | n, .non, u, h => by
    cases n <;> cases u <;> first | exact ⟨.non, rfl, fun _ _ => .non⟩ | cases h
  | n, .bl b, u, h => by
    cases n <;> cases u <;> first
      | (have e := beq_iff_eq.mp (show (b == _) = true from h); subst e; exact ⟨.bl b, rfl, fun _ _ => .bl b⟩)
      | cases h
  | n, .int b, u, h => by
    cases n <;> cases u <;> first
      | (have e := of_decide_eq_true (show decide (b = _) = true from h); subst e; exact ⟨.int b, ⟨_, rfl⟩, fun _ _ => .int b⟩)
      | cases h
  | n, .str b, u, h => by
    cases n <;> cases u <;> first
      | (have e := of_decide_eq_true (show decide (b = _) = true from h); subst e; exact ⟨.str b, ⟨_, rfl⟩, fun _ _ => .str b⟩)
      | cases h
  | 0, .tup ds, u, h => by cases u <;> cases h
  | n + 1, .tup ds, u, h => by
    have ih := dvB_ok (K := K) n
    have go : ∀ (ds : List D) (us : List Value), dvB.dvs K n ds us = true → ∃ vs, Vals vs us ∧ ∀ L H, Rels K L H ds vs := by
      intro ds
      induction ds with
      | nil => intro us h; cases us with
        | nil => exact ⟨[], .nil, fun _ _ => .nil⟩
        | cons _ _ => cases h
      | cons d ds il => intro us h; cases us with
        | nil => cases h
        | cons u us =>
          obtain ⟨h1, h2⟩ := and2 (show (dvB K n d u && dvB.dvs K n ds us) = true from h)
          obtain ⟨v, r, f⟩ := ih d u h1
          obtain ⟨vs, rs, fs⟩ := il us h2
          exact ⟨v :: vs, .cons r rs, fun L H => .cons (f L H) (fs L H)⟩
    cases u with
    | ref a =>
      have h' : (match K.lookup a with
        | some ⟨.type c, _, .seq its _, _⟩ => decide (c = "tuple") && (decide (its.size ≤ sizeLine) && dvB.dvs K n ds its.toList)
        | _ => false) = true := h
      split at h'
      · rename_i c dd its m sl e
        obtain ⟨h1, h2⟩ := and2 h'
        obtain ⟨h3, h4⟩ := and2 h2
        obtain ⟨vs, rs, fs⟩ := go ds its.toList h4
        exact ⟨.ref a, rfl, fun L H => .tup (.inr ⟨_, its, m, e, congrArg Value.type (of_decide_eq_true h1), rfl, of_decide_eq_true h3, rs⟩) (fs L H)⟩
      · cases h'
    | _ => cases h
  | n, .ref i, u, h => by cases n <;> cases u <;> cases h
def Row.dd (r : Row) : He.DefD := ⟨(r.x, none), r.x, r.x, defArgs r.st, defBody r.st, defScope r.st, [], []⟩
/-- a statement of a class's body -/
def clsStmt : Stmt → Nat → Stmt
  | .ClassDef (body := b) .., j => b.getD j (.Pass ⟨0, 0, 0, 0⟩)
  | _, _ => .Pass ⟨0, 0, 0, 0⟩
/-- an exception's class with an __init__ of its own: self, at -/
structure IniD where
  cls : Str
  sup : Str
  qual : Str
  st : Stmt
def isLocB (sc : Scope) (x : Str) : Bool := match sc.names.lookup x with
  | some .local => true
  | _ => false
def iniShape (sup : Str) : List Stmt → Bool
  | [.Expr (.Call (.Attribute (.Name x _) f p2) [.Name a _, .Constant (.str _) _ _] [] p5) _, .Assign [.Attribute (.Name b _) g _] (.Name c _) _] => (p2.endLine == p5.line) && decide (x = sup ∧ f = "__init__" ∧ a = "self" ∧ b = "self" ∧ g = "at" ∧ c = "at")
  | _ => false
def IniD.row (d : IniD) : Row := ⟨"__init__", d.st, ["self", "at"], ["self", "at"], ⟨2, 2, stkS⟩⟩
def IniD.okB (d : IniD) : Bool := d.row.okB && (iniShape d.sup (defBody d.st) && (isGlo (defScope d.st) d.sup && (isLocB (defScope d.st) "self" && (isLocB (defScope d.st) "at" && okNm d.sup))))
def IniD.Bd (d : IniD) : Prop := ∀ (kV doc pm : Value) (an : Option Addr) (cdv ct : Value) (us : List Value), us.length = (["self", "at"] : List Str).length → bindArgs (PySem.W.fnOf "__init__" d.qual (defArgs d.st) (defBody d.st) (defScope d.st) .none kV doc pm an cdv ct) ⟨us, []⟩ = pure ((["self", "at"] : List Str).zip us)
def IniD.dd (d : IniD) : He.DefD := ⟨(d.cls, some "__init__"), "__init__", d.qual, defArgs d.st, defBody d.st, defScope d.st, [], []⟩
def oexB (K : PySem.W.Frag) (C : Addr) : Bool := (match K.lookup C with
  | some ⟨.type "type", _, .cls cd, sl⟩ => (match cd.mro, sl.toList with
    | .ref C1 :: bm, [_, _, _, _, some (.builtin n), _] => (C1 == C) && ((n == "ValueError.__new__") && (!cd.hasDel && (cd.hasDict && PySem.HandSPX.refsVE bm)))
    | _, _ => false)
  | _ => false) && (He.eqO (PySem.W.findIn K (.ref C) "__setattr__") (some (some (.builtin "object.__setattr__"))) && (decide (PySem.W.subIn K (.ref C) (.type "BaseException") = some true) && (decide (PySem.W.typeIn K (.ref C) = some (.type "type")) && PySem.W.keepIn K (.ref C))))
theorem oexB_ok {K : PySem.W.Frag} {C : Addr} (h : oexB K C = true) : OexC K C := by
  obtain ⟨h1, h⟩ := and2 h
  obtain ⟨h2, h⟩ := and2 h
  obtain ⟨h3, h⟩ := and2 h
  obtain ⟨h4, h5⟩ := and2 h
  refine ⟨?_, He.eqO_ok h2, of_decide_eq_true h3, of_decide_eq_true h4, h5⟩
  split at h1
  · rename_i dd cd sl lk
    split at h1
    · rename_i C1 bm k0 k1 k2 k3 n k5 em es
      obtain ⟨q1, h1⟩ := and2 h1
      obtain ⟨q2, h1⟩ := and2 h1
      obtain ⟨q3, h1⟩ := and2 h1
      obtain ⟨q4, q5⟩ := and2 h1
      obtain ⟨nm, bs, mro, ns, qn, hd, sn, sub, ab, col, dl⟩ := cd
      dsimp only at em q3 q4
      have e1 := beq_iff_eq.mp q1
      have e2 := beq_iff_eq.mp q2
      have e3 := notT q3
      have e4 : sl = #[k0, k1, k2, k3, some (.builtin n), k5] := by
        obtain ⟨l⟩ := sl
        exact congrArg Array.mk es
      subst e1 e2 em e3 q4 e4
      exact ⟨nm, qn, ns, bs, bm, sn, sub, ab, col, dd, k0, k1, k2, k3, k5, lk, q5⟩
    · cases h1
  · cases h1
def teB (K : PySem.W.Frag) (S : Addr) : Bool := He.eqO (PySem.W.specialIn K (.ref S) "__getattribute__") (some (some (.builtin "type.__getattribute__"))) && (decide (PySem.W.typeIn K (.ref S) = some (.type "type")) && (PySem.W.readsIn K S (.type "type") &&
  (match PySem.W.findCls K (.ref S) (.type "type") "__init__" with
    | some (.val (.builtin b)) => decide (b = "ValueError.__init__")
    | _ => false)))
theorem teB_ok {K : PySem.W.Frag} {S : Addr} (h : teB K S = true) : TeOk K S (.type "type") := by
  obtain ⟨h1, h⟩ := and2 h
  obtain ⟨h2, h⟩ := and2 h
  obtain ⟨h3, h4⟩ := and2 h
  refine ⟨He.eqO_ok h1, of_decide_eq_true h2, h3, ?_⟩
  split at h4
  · rename_i b e
    rw [e, of_decide_eq_true h4]
  · cases h4
def iniB (K : PySem.W.Frag) (d : IniD) : Bool := (He.Fa.glo d.cls).ok K && ((He.Fa.glo d.sup).ok K && (d.dd.ok K && (He.eqO (PySem.W.findIn K (.ref (He.ga K d.cls)) "__init__") (some (some (.ref (He.ma K (He.ga K d.cls) "__init__")))) &&
  (decide (PySem.W.typeIn K (.ref (He.ma K (He.ga K d.cls) "__init__")) = some (.type "function")) && (oexB K (He.ga K d.cls) && (He.eqO (PySem.W.findIn K (.ref (He.ga K d.cls)) "at") (some none) && (xfB K (He.ga K d.cls) && teB K (He.ga K d.sup))))))))
/-- what the head's facts are read for -/
structure Facts0 where
  rows : List Row
  cons : List (Str × D)
  blts : List Str
  ex0 : List Str
  ini : List IniD
def Facts0.ex (z : Facts0) : List Str := z.ex0 ++ z.ini.map IniD.cls
def Facts0.dds (z : Facts0) : List He.DefD := z.rows.map Row.dd ++ z.ini.map IniD.dd
/-- the facts, as one Bool -/
def sayB (z : Facts0) (K : PySem.W.Frag) : Bool :=
  (z.rows.all fun r => r.dd.ok K && He.Fa.ok K (.glo r.x)) && ((z.cons.all fun c => match PySem.W.nsIn K mainGlobals c.1 with
    | some (some u) => dvB K 20 c.2 u
    | _ => false) && ((z.blts.all fun x => He.Fa.ok K (.free x)) && ((z.ex0.all fun x => He.Fa.ok K (.glo x) && He.Fa.ok K (.exc x)) && ((z.ini.all fun d => iniB K d) && (z.ex.all fun x => z.ex.all fun y => He.Fa.ok K (.exm x y (decide (x = y))))))))
abbrev AlV : Type := Bool × List He.FnW
def obsV (z : Facts0) (K : PySem.W.Frag) : AlV := (sayB z K, z.dds.map fun d => He.fnW K d.at_)
def valV (z : Facts0) : AlV := (true, z.dds.map fun d => d.val)
def SaysV (z : Facts0) (K : PySem.W.Frag) : Prop := obsV z K = valV z
def obsVG (n : Nat) (z : Facts0) (g : Addr → Option Obj) : AlV := obsV z (He.frG g (PySem.cStatics :: He.asD g n))
def hookV (n : Nat) (z : Facts0) : PySem.W.Hook where
  α := AlV
  obs := fun s => obsVG n z s.heap.get?
  val := fun _ => valV z
  says := fun _ h => ∃ K : PySem.W.Frag, K.In h ∧ SaysV z K
  of := fun _ _ e => ⟨_, He.frG_in, e⟩
  keeps := fun _ _ _ ⟨K, hK, c⟩ k => ⟨K, PySem.W.Frag.In.keeps hK k, c⟩
theorem obsVG_eq {n : Nat} {z : Facts0} {g : Addr → Option Obj} {s : Shared} (h : ∀ a, g a = s.heap.get? a) : obsVG n z g = (hookV n z).obs s := by
  have e : g = s.heap.get? := funext h
  rw [e] <;> rfl
section
variable {z : Facts0} {K : PySem.W.Frag} {mg : Str → Option Value} {h : Heap}
theorem SaysV.parts (c : SaysV z K) : (z.rows.all fun r => r.dd.ok K && He.Fa.ok K (.glo r.x)) = true ∧ (z.cons.all fun c => match PySem.W.nsIn K mainGlobals c.1 with
    | some (some u) => dvB K 20 c.2 u
    | _ => false) = true ∧ (z.blts.all fun x => He.Fa.ok K (.free x)) = true ∧ (z.ex0.all fun x => He.Fa.ok K (.glo x) && He.Fa.ok K (.exc x)) = true ∧ (z.ini.all fun d => iniB K d) = true ∧ (z.ex.all fun x => z.ex.all fun y => He.Fa.ok K (.exm x y (decide (x = y)))) = true := by
  have c1 : sayB z K = true := congrArg (fun z : AlV => z.1) c
  obtain ⟨h1, c1⟩ := and2 c1
  obtain ⟨h2, c1⟩ := and2 c1
  obtain ⟨h3, c1⟩ := and2 c1
  obtain ⟨h4, c1⟩ := and2 c1
  obtain ⟨h5, h6⟩ := and2 c1
  exact ⟨h1, h2, h3, h4, h5, h6⟩
theorem SaysV.fn (c : SaysV z K) {d : He.DefD} (m : d ∈ z.dds) : He.fnW K d.at_ = d.val := by
  have c2 : (z.dds.map fun d => He.fnW K d.at_) = z.dds.map fun d => d.val := congrArg (fun z : AlV => z.2) c
  obtain ⟨i, hi, e⟩ := List.getElem_of_mem m
  have e2 : z.dds[i]? = some d := by rw [← e]; exact List.getElem?_eq_getElem hi
  have e3 : (z.dds.map fun d => He.fnW K d.at_)[i]? = (z.dds.map fun d => d.val)[i]? := by rw [c2]
  rw [List.getElem?_map, List.getElem?_map, e2] at e3
  exact Option.some.inj e3
theorem SaysV.row (c : SaysV z K) {r : Row} (m : r ∈ z.rows) (X : K.In h) (G : h.Ns mainGlobals mg) : ∃ fd, FnP K r (He.ga K r.x) fd ∧ mg r.x = some (.ref (He.ga K r.x)) := by
  obtain ⟨k1, k2⟩ := and2 (List.all_eq_true.mp c.parts.1 r m)
  obtain ⟨fd, F⟩ := He.DefD.funD (d := r.dd) (c.fn (List.mem_append_left _ (List.mem_map_of_mem m))) k1
  exact ⟨fd, F, He.glo_ok X G k2⟩
theorem SaysV.con (c : SaysV z K) {x : Str} {d : D} (m : (x, d) ∈ z.cons) (X : K.In h) (G : h.Ns mainGlobals mg) : ∃ u v, mg x = some u ∧ RelV v u ∧ ∀ L H, Rel K L H d v := by
  have k := List.all_eq_true.mp c.parts.2.1 _ m
  split at k
  · rename_i u e
    obtain ⟨v, r, f⟩ := dvB_ok 20 d u k
    exact ⟨u, v, PySem.W.mg_of X G e, r, f⟩
  · cases k
theorem SaysV.free (c : SaysV z K) {x : Str} (m : x ∈ z.blts) (X : K.In h) (G : h.Ns mainGlobals mg) : mg x = none :=
  He.free_ok X G (List.all_eq_true.mp c.parts.2.2.1 _ m)
theorem SaysV.ex0 (c : SaysV z K) {x : Str} (m : x ∈ z.ex0) (X : K.In h) (G : h.Ns mainGlobals mg) : mg x = some (.ref (He.ga K x)) ∧ X0Ok K (He.ga K x) := by
  obtain ⟨k1, k2⟩ := and2 (List.all_eq_true.mp c.parts.2.2.2.1 x m)
  obtain ⟨o1, o2, o3, o4⟩ := He.exc_ok k2
  exact ⟨He.glo_ok X G k1, o1, o2, o3, o4⟩
theorem iniShape_ok {sup : Str} {ss : List Stmt} (h : iniShape sup ss = true) : ∃ (m : Str) (j : Nat) (p1 p2 p3 p4 p5 p6 p7 p8 p9 p10 : Pos), (p2.endLine == p5.line) = true ∧
    ss = [.Expr (.Call (.Attribute (.Name sup p1) "__init__" p2) [.Name "self" p3, .Constant (.str m) j p4] [] p5) p6, .Assign [.Attribute (.Name "self" p7) "at" p8] (.Name "at" p9) p10] := by
  unfold iniShape at h
  split at h
  · obtain ⟨h0, h⟩ := and2 h
    obtain ⟨rfl, rfl, rfl, rfl, rfl, rfl⟩ := of_decide_eq_true h
    exact ⟨_, _, _, _, _, _, _, _, _, _, _, _, h0, rfl⟩
  · cases h
theorem isLocB_ok {sc : Scope} {x : Str} (h : isLocB sc x = true) : sc.names.lookup x = some .local := by
  unfold isLocB at h
  split at h
  · assumption
  · cases h
theorem isGloB_ok {sc : Scope} {x : Str} (h : isGlo sc x = true) : sc.names.lookup x = some .globalImplicit := by
  unfold isGlo at h
  split at h
  · assumption
  · cases h
theorem SaysV.ini (c : SaysV z K) {d : IniD} (m : d ∈ z.ini) (ok : d.okB = true) (bd : d.Bd) (X : K.In h) (G : h.Ns mainGlobals mg) : mg d.cls = some (.ref (He.ga K d.cls)) ∧
    (∃ (fI : Addr) (fd : FuncData), PySem.W.findIn K (.ref (He.ga K d.cls)) "__init__" = some (some (.ref fI)) ∧ PySem.W.typeIn K (.ref fI) = some (.type "function") ∧ Binds K fd ["self", "at"] [] ∧
      ∀ (P : Program) (w : World) (base : Heap), FnOk P w K mg base (L2.CX P w) 1 fI fd ["self", "at"] (spInit K)) ∧ OexC K (He.ga K d.cls) ∧ PySem.W.findIn K (.ref (He.ga K d.cls)) "at" = some none ∧ XfC K (He.ga K d.cls) := by
  have k := List.all_eq_true.mp c.parts.2.2.2.2.1 d m
  obtain ⟨k1, k⟩ := and2 k
  obtain ⟨k2, k⟩ := and2 k
  obtain ⟨k3, k⟩ := and2 k
  obtain ⟨k4, k⟩ := and2 k
  obtain ⟨k5, k⟩ := and2 k
  obtain ⟨k6, k⟩ := and2 k
  obtain ⟨k7, k⟩ := and2 k
  obtain ⟨k8, k9⟩ := and2 k
  obtain ⟨fd, F⟩ := He.DefD.funD (d := d.dd) (c.fn (List.mem_append_right _ (List.mem_map_of_mem m))) k3
  obtain ⟨o1, o⟩ := and2 ok
  obtain ⟨o2, o⟩ := and2 o
  obtain ⟨o3, o⟩ := and2 o
  obtain ⟨o4, o⟩ := and2 o
  obtain ⟨o5, o6⟩ := and2 o
  obtain ⟨mm, j, p1, p2, p3, p4, p5, p6, p7, p8, p9, p10, hl, eb⟩ := iniShape_ok o2
  have F' : FunD K "__init__" d.qual (defArgs d.st) (defBody d.st) (defScope d.st) [] [] (He.ma K (He.ga K d.cls) "__init__") fd := F
  have bs : Binds K fd ["self", "at"] [] := F'.bindsN bd
  refine ⟨He.glo_ok X G k1, ⟨_, fd, He.eqO_ok k4, of_decide_eq_true k5, bs, fun P w base => ?_⟩, oexB_ok k6, He.eqO_ok k7, xfB_ok k8⟩
  rw [eb] at F'
  exact init_ok F' (Row.scope o1).1 (isGloB_ok o3) (isLocB_ok o4) (isLocB_ok o5) (He.glo_ok X G k2) (okNm_ok o6).1 (teB_ok k9) hl
/-- the rows are what the text gives -/
def RowsOk (gl : Str → Option GV) (ex : List Str) : List Row → Prop
  | [] => True
  | r :: rs => (r.okB = true ∧ compFn 60 gl ex r.N r.st = some r.fr.body ∧ r.Bd) ∧ RowsOk gl ex rs
theorem RowsOk.mem {gl : Str → Option GV} {ex : List Str} : ∀ {rows : List Row}, RowsOk gl ex rows → ∀ r ∈ rows, r.okB = true ∧ compFn 60 gl ex r.N r.st = some r.fr.body ∧ r.Bd
  | r :: rs, h, q, m => by
    rcases List.mem_cons.mp m with rfl | m
    · exact h.1
    · exact h.2.mem q m
def glOf (names : List (Str × Nat)) (cons : List (Str × D)) (blts ex0 ex1 : List Str) (x : Str) : Option GV :=
  if blts.contains x = true then some .blt else match names.lookup x with
    | some np => some (.fn np)
    | none => (match cons.lookup x with
      | some d => some (.con d)
      | none => if ex0.contains x = true then some (.exc false) else if ex1.contains x = true then some (.exc true) else none)
def tblOf (names : List (Str × FnRec)) (x : Str) : Option FnRec := names.lookup x
theorem lookup_mem {α : Type} : ∀ {l : List (Str × α)} {x : Str} {a : α}, l.lookup x = some a → (x, a) ∈ l
  | (y, b) :: l, x, a, h => by
    rw [List.lookup_cons] at h
    split at h
    · rename_i e
      cases h
      rw [beq_iff_eq.mp e]
      exact List.mem_cons_self ..
    · exact List.mem_cons_of_mem _ (lookup_mem h)
theorem gl_cases {names : List (Str × Nat)} {cons : List (Str × D)} {blts ex0 ex1 : List Str} {x : Str} {g : GV} (e : glOf names cons blts ex0 ex1 x = some g) : (g = .blt ∧ x ∈ blts) ∨ (∃ np, g = .fn np ∧ names.lookup x = some np) ∨ (∃ d, g = .con d ∧ cons.lookup x = some d) ∨ (g = .exc false ∧ x ∈ ex0) ∨ (g = .exc true ∧ x ∈ ex1) := by
  unfold glOf at e
  split at e
  · rename_i q; cases e; exact .inl ⟨rfl, by simpa using q⟩
  · split at e
    · rename_i np q; cases e; exact .inr (.inl ⟨np, rfl, q⟩)
    · split at e
      · rename_i d q; cases e; exact .inr (.inr (.inl ⟨d, rfl, q⟩))
      · split at e
        · rename_i q; cases e; exact .inr (.inr (.inr (.inl ⟨rfl, by simpa using q⟩)))
        · split at e
          · rename_i q; cases e; exact .inr (.inr (.inr (.inr ⟨rfl, by simpa using q⟩)))
          · cases e
theorem glb_of (c : SaysV z K) (X : K.In h) (G : h.Ns mainGlobals mg) {names : List (Str × Nat)} (en : z.rows.map (fun r => (r.x, r.ps.length)) = names) (ok : RowsOk (glOf names z.cons z.blts z.ex0 (z.ini.map IniD.cls)) z.ex z.rows) (oi : ∀ d ∈ z.ini, d.okB = true ∧ d.Bd) :
    Glb z.rows K mg (glOf names z.cons z.blts z.ex0 (z.ini.map IniD.cls)) z.ex (tblOf (z.rows.map fun r => (r.x, r.fr))) where
  fns := fun x np e => by
    rcases gl_cases e with ⟨q, _⟩ | ⟨np', q, e1⟩ | ⟨_, q, _⟩ | ⟨q, _⟩ | ⟨q, _⟩ <;> first | (cases q; done) | skip
    cases q
    rw [← en] at e1
    -- the first row of that name
    have find : ∀ (l : List Row), (l.map fun r => (r.x, r.ps.length)).lookup x = some np → ∃ r ∈ l, r.x = x ∧ r.ps.length = np ∧ (l.map fun r => (r.x, r.fr)).lookup x = some r.fr := by
      intro l
      induction l with
      | nil => intro h; cases h
      | cons r l il =>
        intro h
        rw [List.map_cons, List.lookup_cons] at h
        split at h
        · rename_i e9
          have h8 := Option.some.inj h
          have ex := beq_iff_eq.mp e9
          refine ⟨r, List.mem_cons_self .., ex.symm, h8, ?_⟩
          rw [List.map_cons, List.lookup_cons, e9]
        · rename_i e9
          obtain ⟨q, m, h1, h2, h3⟩ := il h
          refine ⟨q, List.mem_cons_of_mem _ m, h1, h2, ?_⟩
          rw [List.map_cons, List.lookup_cons, e9]
          exact h3
    obtain ⟨r, m, h1, h2, h3⟩ := find z.rows e1
    obtain ⟨o1, o2, o3⟩ := ok.mem r m
    obtain ⟨fd, F, em⟩ := c.row m X G
    exact ⟨r, _, fd, 60, m, h1, h2, o1, h3, o2, o3, F, by rw [← h1]; exact em⟩
  con := fun x d e => by
    rcases gl_cases e with ⟨q, _⟩ | ⟨_, q, _⟩ | ⟨_, q, e1⟩ | ⟨q, _⟩ | ⟨q, _⟩ <;> first | (cases q; done) | skip
    cases q
    exact c.con (lookup_mem e1) X G
  blt := fun x e => by
    rcases gl_cases e with ⟨_, m⟩ | ⟨_, q, _⟩ | ⟨_, q, _⟩ | ⟨q, _⟩ | ⟨q, _⟩ <;> first | (cases q; done) | skip
    exact c.free m X G
  exc0 := fun x e => by
    rcases gl_cases e with ⟨q, _⟩ | ⟨_, q, _⟩ | ⟨_, q, _⟩ | ⟨_, m⟩ | ⟨q, _⟩ <;> first | (cases q; done) | skip
    obtain ⟨a, b⟩ := c.ex0 m X G
    exact ⟨_, a, b⟩
  exc1 := fun x e => by
    rcases gl_cases e with ⟨q, _⟩ | ⟨_, q, _⟩ | ⟨_, q, _⟩ | ⟨q, _⟩ | ⟨_, m⟩ <;> first | (cases q; done) | skip
    obtain ⟨d, md, rfl⟩ := List.mem_map.mp m
    obtain ⟨o1, o2⟩ := oi d md
    obtain ⟨a, b⟩ := c.ini md o1 o2 X G
    exact ⟨_, a, b⟩
  kn := fun x mx y my => by
    have at_ : ∀ x ∈ z.ex, mg x = some (.ref (He.ga K x)) := fun x m => by
      rcases List.mem_append.mp m with m | m
      · exact (c.ex0 m X G).1
      · obtain ⟨d, md, rfl⟩ := List.mem_map.mp m
        obtain ⟨o1, o2⟩ := oi d md
        exact (c.ini md o1 o2 X G).1
    exact ⟨_, _, at_ x mx, at_ y my, He.exm_ok (List.all_eq_true.mp (List.all_eq_true.mp c.parts.2.2.2.2.2 x mx) y my)⟩
end
/-- THE END: the law's def gives True by ours -/
theorem law_end {P : Program} {w : World} {z : Facts0} {K : PySem.W.Frag} {mg : Str → Option Value} {h : Heap} {names : List (Str × Nat)} {fa : Addr} {k : Nat} (c : SaysV z K) (X : K.In h) (G : h.Ns mainGlobals mg)
    (en : z.rows.map (fun r => (r.x, r.ps.length)) = names) (ok : RowsOk (glOf names z.cons z.blts z.ex0 (z.ini.map IniD.cls)) z.ex z.rows) (oi : ∀ d ∈ z.ini, d.okB = true ∧ d.Bd) (lw : glOf names z.cons z.blts z.ex0 (z.ini.map IniD.cls) "law" = some (.fn 1)) (x : Str) (hx : ∀ r ∈ z.rows, r.x = "law" → r.ps = [x]) (hfa : mg ("law" : Str) = some (.ref fa))
    (true_ : ∀ ns : List Int, ns.length ≤ 63 → ∃ h', callK (tblOf (z.rows.map fun r => (r.x, r.fr))) k "law" [.ref 0] [.ro (ns.map .int)] = .ok (.bl true) h') :
    ∃ (fd : FuncData) (sp : Sp), (∀ (s : Shared) (u : Value), BindsTo s fd ⟨[u], []⟩ [(x, u)]) ∧ (∀ (H : Hp) (a : Addr) (ns : List Int), ns.length ≤ 63 → Only H → SqL K H a (ns.map V.int) → sp [.ref a] H (fun v _ => v = .bl true) fun _ _ _ => False) ∧
      ∀ base : Heap, K.In base → base.Ns mainGlobals mg → FnOk P w K mg base (L2.CX P w) (k + 2) fa fd [x] sp := by
  have Gl := glb_of c X G en ok oi
  obtain ⟨f0, fd0, ps0, _, _, _, em0, _, _, r, mr, rx, rp, bd, F⟩ := fns_ok (P := P) (w := w) (base := h) Gl k "law" 1 lw
  have e1 : r.ps = [x] := hx r mr rx
  refine ⟨fd0, spOf K mg 1 (callK (tblOf (z.rows.map fun r => (r.x, r.fr))) k "law"), fun s u => ?_, fun H a ns hl hO hS => ?_, fun base _ _ => ?_⟩
  · have z := FunD.bindsA F bd s [u] (by rw [e1]; rfl)
    rw [e1] at z
    exact z
  · refine ⟨rfl, [a], [.ro (ns.map .int)], [.ref 0], ⟨rfl, fun i b ds e1 e2 => ?_, fun i b ds e1 e2 => ?_, fun i j b ds es e1 _ _ _ => ?_, fun i b ds e1 e2 => ?_, fun i j b ds es e1 _ _ _ => ?_⟩, .cons (.ref rfl) .nil, ?_⟩
    · cases i with
      | zero => cases e1
      | succ i => simp at e1
    · cases i with
      | zero =>
        cases e1
        cases e2
        refine ⟨ns.map V.int, ?_, ?_⟩
        · rcases hS with (hS | ⟨o, hS⟩) | hS
          · rcases hO a with z | ⟨o, xs, z⟩
            · rw [z] at hS; cases hS
            · rw [z] at hS; cases hS
          · exact .inl ⟨o, hS⟩
          · exact .inr hS
        · clear hl hS
          induction ns with
          | nil => exact .nil
          | cons n ns il => exact .cons (.int n) il
      | succ i => simp at e1
    · cases i with
      | zero => cases e1
      | succ i => simp at e1
    · cases i with
      | zero => cases e1
      | succ i => simp at e1
    · cases i with
      | zero => cases e1
      | succ i => simp at e1
    · obtain ⟨h', e⟩ := true_ ns hl
      rw [e]
      intro L' H' v _ _ _ rl
      cases rl
      rfl
  · obtain ⟨f, fd, ps, a1, a2, a3, a4, a5, a6, r', mr', rx', rp', bd', F'⟩ := fns_ok (P := P) (w := w) (base := base) Gl k "law" 1 lw
    have e2 : r'.ps = [x] := hx r' mr' rx'
    rw [← rp', e2] at a2
    have e3 : f = fa := by
      rw [hfa] at a4
      cases a4
      rfl
    have e4 : f0 = fa := by
      rw [hfa] at em0
      cases em0
      rfl
    subst e3
    have e5 : fd = fd0 := by
      obtain ⟨oc, od, dV, kV, doc, pm, an, cdv, ct, osl, q1, q2, _⟩ := F.ex
      obtain ⟨oc', od', dV', kV', doc', pm', an', cdv', ct', osl', q1', q2', _⟩ := F'.ex
      rw [e4, q2'] at q2
      cases q2
      rfl
    rw [← e5]
    exact a2
/-- the law, walked: what F tells of each world -/
theorem walkV {l : PySem.W.OpenLaw} {n k : Nat} {q : Program} {loose : List Str} {XP : (Str → Option Value) → Heap → Prop} {YP : World → Heap → Prop} {d : DefRec} {x : Str} (e1 : l.most = some n) (e2 : n ≤ sizeLine) (e3 : d.params.defaults = []) (rm : Room k callerA)
    (F : ∀ (w : World) (mg : Str → Option Value) (fa : Addr) (h : Heap), YP w h → h.Ns mainGlobals mg → mg d.name = some (.ref fa) → ∃ K : PySem.W.Frag, K.In h ∧ ∃ (fd : FuncData) (sp : Sp), (∀ (s : Shared) (u : Value), BindsTo s fd ⟨[u], []⟩ [(x, u)]) ∧
      (∀ (H : Hp) (a : Addr) (ns : List Int), ns.length ≤ n → Only H → SqL K H a (ns.map V.int) → sp [.ref a] H (fun v _ => v = .bl true) fun _ _ _ => False) ∧ ∀ base : Heap, K.In base → base.Ns mainGlobals mg → FnOk l.prog w K mg base (L2.CX l.prog w) k fa fd [x] sp) :
    PySem.W.WalkO q loose XP YP l.row.toRowW d [] (fun f vs => PySem.call f vs) := by
  apply Att.attach_call e1 e3
  intro w s0 s1 mg mb fa o pm cd doc a vs ns G Y _ _ _ eg eo ei el gn
  obtain ⟨K, kin, fd, sp, h1, h2, h3⟩ := F w mg fa _ Y G.T.g eg
  refine law_call kin G.T.g G.T.b G.T.builtins G.T.nolimit gn eo ei (Nat.le_trans el e2) rm h3 h1 (fun H only sq => h2 H a ns el only sq) ?_
  intro H e s' z
  obtain ⟨_, _, _, _, _, _, _, _, _, _, _, _, z⟩ := z
  exact z.elim
end VM

set_option maxRecDepth 100000
set_option maxHeartbeats 0
namespace VM
open PySem L2
/-! the heap at a def's end -/
theorem sameOrGr_of {h h' : Hv} (hs : ∀ i, i < h.length → h'[i]? = h[i]? ∨ ∃ o, h'[i]? = some o ∧ o.gr = true) : sameOrGr h h' = true := by
  rw [sameOrGr, List.all_eq_true]
  intro i hi
  rw [List.mem_range] at hi
  rcases hs i hi with e | ⟨o, e, g⟩
  · simp [e]
  · simp [e, g]
theorem gc_gr {h h1 g : Hv} {d : D} (hl : h1.length = h.length) (hs : ∀ i, i < h.length → h1[i]? = h[i]? ∨ ∃ o, h1[i]? = some o ∧ o.gr = true) (hd : d.gr = true) : gc h d (h1 ++ g) = .ok d h1 := by
  have e : sameOrGr h (h1 ++ g) = true := sameOrGr_of fun i hi => by
    rw [List.getElem?_append_left (by omega)]
    exact hs i hi
  unfold gc
  rw [if_pos ⟨by simp [hl], e⟩, if_pos hd, ← hl, List.take_left']
  rfl
theorem gc_app {h g : Hv} {d : D} (hd : d.gr = true) : gc h d (h ++ g) = .ok d h := gc_gr rfl (fun _ _ => .inl rfl) hd
theorem gc_same {h : Hv} {d : D} : gc h d h = .ok d h := by
  by_cases hd : d.gr = true
  · have := gc_app (h := h) (g := []) hd
    rwa [List.append_nil] at this
  · unfold gc
    split
    · split
      · rename_i i
        split
        · rename_i ds e
          rw [if_neg]
          intro ⟨h1, _⟩
          have := (List.getElem?_eq_some_iff.1 e).1
          omega
        · rfl
      · rfl
    · rfl
theorem gc_ref {h h1 g : Hv} {i : Nat} {ds : List D} (hl : h1.length = h.length) (hs : ∀ i, i < h.length → h1[i]? = h[i]? ∨ ∃ o, h1[i]? = some o ∧ o.gr = true) (hi : g[i]? = some (.lst ds)) (hd : D.grs ds = true) : gc h (.ref (h.length + i)) (h1 ++ g) = .ok (.ref h.length) (h1 ++ [.lst ds]) := by
  have e : sameOrGr h (h1 ++ g) = true := sameOrGr_of fun i hi => by
    rw [List.getElem?_append_left (by omega)]
    exact hs i hi
  have e2 : (h1 ++ g)[h.length + i]? = some (.lst ds) := by
    rw [List.getElem?_append_right (by omega), ← hi]
    congr 1
    omega
  unfold gc
  rw [if_pos ⟨by simp [hl], e⟩, if_neg (by simp [D.gr])]
  simp only [e2]
  rw [if_pos ⟨by omega, hd⟩, ← hl, List.take_left']
  rfl
/-! a list of our own in the midst of the heap -/
def hp (h0 : Hv) (pen : List D) (g : Hv) : Hv := h0 ++ .lst pen :: g
@[simp] theorem hp_len (h0 pen g) : (hp h0 pen g).length = h0.length + 1 + g.length := by simp [hp]; omega
@[simp] theorem hp_app (h0 pen g g') : hp h0 pen g ++ g' = hp h0 pen (g ++ g') := by simp [hp]
@[simp] theorem hp_get (h0 pen g) : (hp h0 pen g)[h0.length]? = some (.lst pen) := by simp [hp]
@[simp] theorem hp_get1 (h0 pen g k) : (hp h0 pen g)[h0.length + 1 + k]? = g[k]? := by
  rw [hp, List.getElem?_append_right (by omega), show h0.length + 1 + k - h0.length = k + 1 by omega]; rfl
@[simp] theorem hp_set (h0 pen pen' g) : (hp h0 pen g).set h0.length (.lst pen') = hp h0 pen' g := by
  simp [hp, List.set_append]
@[simp] theorem hp_set1 (h0 pen g k o) : (hp h0 pen g).set (h0.length + 1 + k) o = hp h0 pen (g.set k o) := by
  rw [hp, List.set_append_right _ _ (by omega), show h0.length + 1 + k - h0.length = k + 1 by omega]; rfl
theorem hp_old {h0 pen g} {i : Nat} {o : Ob} (h : h0[i]? = some o) : (hp h0 pen g)[i]? = some o := by
  rw [hp, List.getElem?_append_left (List.getElem?_eq_some_iff.1 h).1, h]
theorem gc_hp {h0 pen pen' g g' d} (hd : D.gr d = true) (hpn : D.grs pen' = true) : gc (hp h0 pen g) d (hp h0 pen' (g ++ g')) = .ok d (hp h0 pen' g) := by
  rw [← hp_app]
  refine gc_gr (by simp) (fun i hi => ?_) hd
  rcases Nat.lt_trichotomy i h0.length with h | h | h
  · left; rw [hp, hp, List.getElem?_append_left h, List.getElem?_append_left h]
  · right; exact ⟨.lst pen', by rw [h]; exact hp_get .., hpn⟩
  · left
    obtain ⟨k, rfl⟩ : ∃ k, i = h0.length + 1 + k := ⟨i - (h0.length + 1), by omega⟩
    rw [hp_get1, hp_get1]
theorem gc_hp0 {h0 pen pen' g d} (hd : D.gr d = true) (hpn : D.grs pen' = true) : gc (hp h0 pen g) d (hp h0 pen' g) = .ok d (hp h0 pen' g) := by
  have := gc_hp (h0 := h0) (pen := pen) (g := g) (g' := []) hd hpn
  rwa [List.append_nil] at this
/-! amounts -/
def am (q : Rat) : D := .tup [.int q.num, .int q.den]
@[simp] theorem am_gr (q) : (am q).gr = true := rfl
theorem am_inj {a b : Rat} (h : am a = am b) : a = b := by
  simp only [am, D.tup.injEq, List.cons.injEq, D.int.injEq, and_true] at h
  exact Rat.ext h.1 (by omega)
theorem callK_eq {T : Str → Option FnRec} {k : Nat} {f : Str} {args : List D} {h : Hv} {r : FnRec} (hr : T f = some r) : callK T (k + 1) f args h = runFn r (callK T k) args h := by simp only [callK, hr]
theorem gcd_step (a b : Int) : Int.gcd a b = Int.gcd b (a % b) := by
  apply Nat.dvd_antisymm
  · apply Int.dvd_gcd
    · exact Int.gcd_dvd_right ..
    · rw [Int.emod_def]
      exact Int.dvd_sub (Int.gcd_dvd_left ..) (Int.dvd_mul_of_dvd_left (Int.gcd_dvd_right ..))
  · apply Int.dvd_gcd
    · have := Int.mul_ediv_add_emod a b
      rw [← this]
      exact Int.dvd_add (Int.dvd_mul_of_dvd_left (Int.gcd_dvd_left ..)) (by rw [this]; exact Int.gcd_dvd_right ..)
    · exact Int.gcd_dvd_left ..
/-- one walk through Euclid's steps -/
theorem euclid_loop (C : Or) (c : EF) (body : SF) (h : Hv)
    (hc : ∀ a b : Int, c C [some (.int a), some (.int b)] h = .ok (.bl (decide (0 < b))) h)
    (hb : ∀ a b : Int, 0 < b → body C [some (.int a), some (.int b)] h = .nx [some (.int b), some (.int (a % b))] h) :
    ∀ (n : Nat) (a b : Int) (m : Nat), 0 ≤ a → 0 ≤ b → b < 2 ^ n → 2 * n + 1 ≤ m →
      whileL C c body m [some (.int a), some (.int b)] h = .nx [some (.int (Int.gcd a b)), some (.int 0)] h := by
  have step : ∀ (m : Nat) (a b : Int), 0 < b → whileL C c body (m + 1) [some (.int a), some (.int b)] h = whileL C c body m [some (.int b), some (.int (a % b))] h := by
    intro m a b h0
    rw [whileL, hc a b]
    simp [R.thenS, h0, hb a b h0]
  have stop : ∀ (m : Nat) (a : Int), 0 ≤ a → whileL C c body (m + 1) [some (.int a), some (.int 0)] h = .nx [some (.int (Int.gcd a 0)), some (.int 0)] h := by
    intro m a h0
    rw [whileL, hc a 0]
    simp [R.thenS]
    omega
  intro n
  induction n with
  | zero =>
    intro a b m ha hb0 hb1 hm
    obtain rfl : b = 0 := by simp at hb1; omega
    obtain ⟨m, rfl⟩ : ∃ m', m = m' + 1 := ⟨m - 1, by omega⟩
    exact stop m a ha
  | succ n ih =>
    intro a b m ha hb0 hb1 hm
    obtain ⟨m, rfl⟩ : ∃ m', m = m' + 3 := ⟨m - 3, by omega⟩
    by_cases h0 : b = 0
    · subst h0; exact stop _ a ha
    · have h0 : 0 < b := by omega
      rw [step _ a b h0]
      have hr0 : 0 ≤ a % b := Int.emod_nonneg _ (by omega)
      have hr1 : a % b < b := Int.emod_lt_of_pos _ h0
      have e1 : Int.gcd a b = Int.gcd b (a % b) := by exact gcd_step a b
      rw [e1]
      by_cases h1 : a % b = 0
      · rw [h1]; exact stop _ b hb0
      · have h1 : 0 < a % b := by omega
        rw [step _ b (a % b) h1]
        have e2 : Int.gcd b (a % b) = Int.gcd (a % b) (b % (a % b)) := by exact gcd_step b (a % b)
        rw [e2]
        have hs0 : 0 ≤ b % (a % b) := Int.emod_nonneg _ (by omega)
        have hs1 : b % (a % b) < a % b := Int.emod_lt_of_pos _ h1
        refine ih _ _ _ hr0 hs0 ?_ (by omega)
        have q1 : 1 ≤ b / (a % b) := by
          rw [Int.le_ediv_iff_mul_le h1]; omega
        have e3 := Int.mul_ediv_add_emod b (a % b)
        have q2 : a % b * 1 ≤ a % b * (b / (a % b)) := Int.mul_le_mul_of_nonneg_left q1 hr0
        rw [Int.pow_succ] at hb1
        omega
theorem mk_am (n : Int) (d : Nat) (hd : d ≠ 0) : D.tup [.int (n / (Int.gcd (if n < 0 then -n else n) d : Nat)), .int ((d : Int) / (Int.gcd (if n < 0 then -n else n) d : Nat))] = am (mkRat n d) := by
  have e : Int.gcd (if n < 0 then -n else n) d = d.gcd n.natAbs := by
    rw [Int.gcd_comm]
    split <;> simp [Int.gcd]
  rw [e, am, Rat.num_mkRat, Rat.den_mkRat, if_neg hd, if_neg hd]
  simp
end VM

set_option maxRecDepth 100000
set_option maxHeartbeats 0
namespace VM
open PySem L2
/-! how a term is worked out, one construct at a time -/
section
variable (C : Or) (env : Env) (h : Hv)
@[simp] theorem bind_ok {α β : Type} (a : α) (f : α → Hv → R β) : (R.ok a h).bind f = f a h := rfl
@[simp] theorem thenS_ok (a : D) (f : D → Hv → SR) : (R.ok a h).thenS env f = f a h := rfl
@[simp] theorem thenI_ok (a : List D × Guards) (f : List D × Guards → Hv → SR) : (R.ok a h).thenI env f = f a h := rfl
def bm {α : Type} (x : D) (a b s : α) : α := match x with
  | .bl true => a
  | .bl false => b
  | _ => s
@[simp] theorem bm_bl {α : Type} (x : Bool) (a b s : α) : bm (.bl x) a b s = if x = true then a else b := by cases x <;> rfl
def SR.nxt (r : SR) (f : Env → Hv → SR) : SR := match r with
  | .nx e h => f e h
  | r => r
@[simp] theorem nxt_nx (f : Env → Hv → SR) : (SR.nx env h).nxt f = f env h := rfl
@[simp] theorem nxt_rt (d : D) (f : Env → Hv → SR) : (SR.rt d h).nxt f = .rt d h := rfl
@[simp] theorem nxt_ite (p : Prop) [Decidable p] (a b : SR) (f : Env → Hv → SR) : (if p then a else b).nxt f = if p then a.nxt f else b.nxt f := by split <;> rfl
theorem u_var (i : Nat) : varF i C env h = (match env[i]? with
  | some (some d) => .ok d h
  | _ => .stuck) := rfl
@[simp] theorem u_con (d : D) : conF d C env h = .ok d h := rfl
@[simp] theorem u_un1 (op a) : un1F op a C env h = (a C env h).bind op := rfl
@[simp] theorem u_bin (op a b) : binF op a b C env h = (a C env h).bind fun x h1 => (b C env h1).bind fun y h2 => op x y h2 := rfl
@[simp] theorem u_and (a b) : andF a b C env h = (a C env h).bind fun x h1 => bm x (b C env h1) (.ok (.bl false) h1) .stuck := by
  simp only [andF, bm]; try congr
@[simp] theorem u_or (a b) : orF a b C env h = (a C env h).bind fun x h1 => bm x (.ok (.bl true) h1) (b C env h1) .stuck := by
  simp only [orF, bm]; try congr
@[simp] theorem u_chain (op op' a b c) : chainF op op' a b c C env h = (a C env h).bind fun x h1 => (b C env h1).bind fun y h2 => (op x y h2).bind fun z h3 => bm z ((c C env h3).bind fun w h4 => op' y w h4) (.ok (.bl false) h3) .stuck := by
  simp only [chainF, bm]; try congr
@[simp] theorem u_ite (c a b) : iteF c a b C env h = (c C env h).bind fun x h1 => bm x (a C env h1) (b C env h1) .stuck := by
  simp only [iteF, bm]; try congr
@[simp] theorem u_list0 : listF [] C env h = .ok [] h := rfl
@[simp] theorem u_list (e es) : listF (e :: es) C env h = (e C env h).bind fun x h1 => (listF es C env h1).bind fun xs h2 => .ok (x :: xs) h2 := rfl
@[simp] theorem u_tup (es) : tupF es C env h = (listF es C env h).bind fun ds h1 => if ds.length ≤ 1000000 then .ok (.tup ds) h1 else .stuck := rfl
@[simp] theorem u_lst (es) : lstF es C env h = (listF es C env h).bind fun ds h1 => if ds.length ≤ 1000000 then .ok (.ref h1.length) (h1 ++ [.lst ds]) else .stuck := rfl
@[simp] theorem u_call (f es) : callF f es C env h = (listF es C env h).bind fun ds h1 => C f ds h1 := rfl
@[simp] theorem u_blt (g es) : bltF g es C env h = (listF es C env h).bind g := rfl
@[simp] theorem u_opt0 : optF none C env h = .ok none h := rfl
def im {α : Type} (x : D) (f : Int → α) (s : α) : α := match x with
  | .int i => f i
  | _ => s
@[simp] theorem im_int {α : Type} (i : Int) (f : Int → α) (s : α) : im (.int i) f s = f i := rfl
@[simp] theorem u_opt (e) : optF (some e) C env h = (e C env h).bind fun x h1 => im x (fun i => .ok (some i) h1) .stuck := by
  simp only [optF, im]; try congr
@[simp] theorem u_slc (op a lo hi) : slcF op a lo hi C env h = (a C env h).bind fun x h1 => (optF lo C env h1).bind fun l h2 => (optF hi C env h2).bind fun u h3 => op x l u h3 := rfl
def om {α β : Type} (x : Option α) (f : α → β) (s : β) : β := match x with
  | some a => f a
  | none => s
@[simp] theorem om_some {α β : Type} (a : α) (f : α → β) (s : β) : om (some a) f s = f a := rfl
@[simp] theorem u_nm (i d) : nmT i d env h = if i < env.length then some (env.set i (some d)) else none := rfl
@[simp] theorem u_tgs0 : tgsT [] [] env h = some env := rfl
@[simp] theorem u_tgs (t ts d ds) : tgsT (t :: ts) (d :: ds) env h = om (t d env h) (fun e => tgsT ts ds e h) none := by
  simp only [tgsT, om]; all_goals (cases t d env h <;> rfl)
@[simp] theorem u_tupT (ts ds) : tupT ts (.tup ds) env h = tgsT ts ds env h := rfl
@[simp] theorem u_nx : nxS C env h = .nx env h := rfl
@[simp] theorem u_bk : bkS C env h = .bk env h := rfl
@[simp] theorem u_ct : ctS C env h = .ct env h := rfl
@[simp] theorem u_seq (a b : SF) : seqS a b C env h = (a C env h).nxt (b C) := by
  unfold seqS SR.nxt; cases a C env h <;> rfl
@[simp] theorem u_exp (e) : expS e C env h = (e C env h).thenS env fun _ h1 => .nx env h1 := rfl
@[simp] theorem u_asg (t e) : asgS t e C env h = (e C env h).thenS env fun d h1 => om (t d env h1) (fun e1 => .nx e1 h1) .stuck := by
  unfold asgS; congr; funext d h1; cases t d env h1 <;> rfl
@[simp] theorem u_setS (o i e) : setS o i e C env h = (e C env h).thenS env fun d h1 => (o C env h1).thenS env fun x h2 => (i C env h2).thenS env fun k h3 => om (setL x k d h3) (fun h4 => .nx env h4) .stuck := by
  unfold setS; congr; funext d h1; congr; funext x h2; congr; funext k h3; cases setL x k d h3 <;> rfl
@[simp] theorem u_par (i j a b) : parS i j a b C env h = (a C env h).thenS env fun x h1 => (b C env h1).thenS env fun y h2 => if i < env.length ∧ j < env.length then .nx ((env.set i (some x)).set j (some y)) h2 else .stuck := rfl
@[simp] theorem u_ret (e) : retS e C env h = (e C env h).thenS env fun d h1 => .rt d h1 := rfl
@[simp] theorem u_if (c a b) : ifS c a b C env h = (c C env h).thenS env fun x h1 => bm x (a C env h1) (b C env h1) .stuck := by
  simp only [ifS, bm]; try congr
@[simp] theorem u_for (it tg body) : forS it tg body C env h = (it C env h).thenI env fun z h1 => forL C tg body z.2 z.1 env h1 := rfl
/-! operators -/
variable (i j : Int) (a b c d e f : D) (as : List D)
@[simp] theorem u_add : opAdd (.int i) (.int j) h = .ok (.int (i + j)) h := rfl
@[simp] theorem u_addT (xs ys) : opAdd (.tup xs) (.tup ys) h = if xs.length + ys.length ≤ 1000000 then .ok (.tup (xs ++ ys)) h else .stuck := rfl
@[simp] theorem u_sub : opSub (.int i) (.int j) h = .ok (.int (i - j)) h := rfl
@[simp] theorem u_neg : opNeg (.int i) h = .ok (.int (-i)) h := rfl
@[simp] theorem u_not (x : Bool) : opNot (.bl x) h = .ok (.bl (!x)) h := rfl
@[simp] theorem u_lt : opLt (.int i) (.int j) h = .ok (.bl (decide (i < j))) h := rfl
@[simp] theorem u_le : opLe (.int i) (.int j) h = .ok (.bl (decide (i ≤ j))) h := rfl
@[simp] theorem u_gt : opGt (.int i) (.int j) h = .ok (.bl (decide (j < i))) h := rfl
@[simp] theorem u_ge : opGe (.int i) (.int j) h = .ok (.bl (decide (j ≤ i))) h := rfl
theorem mul_s {i j : Int} {h : Hv} (hi : i.natAbs < big64) : opMul (.int i) (.int j) h = .ok (.int (i * j)) h := by
  simp only [opMul]; rw [if_pos (.inl hi)]
theorem mul_t {i j : Int} {h : Hv} (hi : j.natAbs < big64) : opMul (.int i) (.int j) h = .ok (.int (i * j)) h := by
  simp only [opMul]; rw [if_pos (.inr (.inl hi))]
theorem mul_m {i j : Int} {h : Hv} (hi : i.natAbs < bigM) (hj : j.natAbs < bigM) : opMul (.int i) (.int j) h = .ok (.int (i * j)) h := by
  simp only [opMul]; rw [if_pos (.inr (.inr ⟨hi, hj⟩))]
theorem fdiv_ok {i j : Int} {h : Hv} (h0 : 0 < j) (h1 : j.natAbs < bigD) : opFdiv (.int i) (.int j) h = .ok (.int (i / j)) h := by
  simp only [opFdiv]; rw [if_pos ⟨h0, h1⟩]
theorem mod_ok {i j : Int} {h : Hv} (h0 : 0 < j) : opMod (.int i) (.int j) h = .ok (.int (i % j)) h := by
  simp only [opMod]; rw [if_pos h0]
theorem at_nat {α : Type} {xs : List α} {k : Nat} : atI xs (k : Int) = xs[k]? := by
  unfold atI ixN
  rw [if_pos (by omega)]
  split
  · simp
  · simp; omega
theorem ix_tup (ds) : opIx (.tup ds) (.int i) h = om (atI ds i) (fun d => .ok d h) .stuck := by
  simp only [opIx, seqOf, om]; all_goals (cases atI ds i <;> rfl)
theorem ix_ref (p ds) (hp : h[p]? = some (.lst ds)) : opIx (.ref p) (.int i) h = om (atI ds i) (fun d => .ok d h) .stuck := by
  simp only [opIx, seqOf, hp, om]; all_goals (cases atI ds i <;> rfl)
theorem ix_ro (p ds) (hp : h[p]? = some (.ro ds)) : opIx (.ref p) (.int i) h = om (atI ds i) (fun d => .ok d h) .stuck := by
  simp only [opIx, seqOf, hp, om]; all_goals (cases atI ds i <;> rfl)
@[simp] theorem at0 {α : Type} (a : α) (as : List α) : atI (a :: as) 0 = some a := at_nat (k := 0)
@[simp] theorem at1 {α : Type} (a b : α) (as : List α) : atI (a :: b :: as) 1 = some b := at_nat (k := 1)
@[simp] theorem at2 {α : Type} (a b c : α) (as : List α) : atI (a :: b :: c :: as) 2 = some c := at_nat (k := 2)
@[simp] theorem at3 {α : Type} (a b c d : α) (as : List α) : atI (a :: b :: c :: d :: as) 3 = some d := at_nat (k := 3)
@[simp] theorem at4 {α : Type} (a b c d e : α) (as : List α) : atI (a :: b :: c :: d :: e :: as) 4 = some e := at_nat (k := 4)
@[simp] theorem at5 {α : Type} (a b c d e f : α) (as : List α) : atI (a :: b :: c :: d :: e :: f :: as) 5 = some f := at_nat (k := 5)
theorem at_last {α : Type} (xs : List α) (x : α) : atI (xs ++ [x]) (-1) = some x := by
  unfold atI ixN
  rw [if_neg (by omega), if_pos (by simp; omega)]
  simp
  rw [show ((-1 : Int) + (xs.length + 1)).toNat = xs.length by omega]
  simp
@[simp] theorem ix_tup0 : opIx (.tup (a :: as)) (.int 0) h = .ok a h := by simp [ix_tup]
@[simp] theorem ix_tup1 : opIx (.tup (a :: b :: as)) (.int 1) h = .ok b h := by simp [ix_tup]
@[simp] theorem ix_tup2 : opIx (.tup (a :: b :: c :: as)) (.int 2) h = .ok c h := by simp [ix_tup]
@[simp] theorem ix_tup3 : opIx (.tup (a :: b :: c :: d :: as)) (.int 3) h = .ok d h := by simp [ix_tup]
@[simp] theorem ix_tup4 : opIx (.tup (a :: b :: c :: d :: e :: as)) (.int 4) h = .ok e h := by simp [ix_tup]
@[simp] theorem ix_tup5 : opIx (.tup (a :: b :: c :: d :: e :: f :: as)) (.int 5) h = .ok f h := by simp [ix_tup]
@[simp] theorem ix_am0 (q : Rat) : opIx (am q) (.int 0) h = .ok (.int q.num) h := by simp [am]
@[simp] theorem ix_am1 (q : Rat) : opIx (am q) (.int 1) h = .ok (.int q.den) h := by simp [am]
@[simp] theorem u_abs : bAbs [.int i] h = .ok (.int (if i < 0 then -i else i)) h := rfl
@[simp] theorem u_int : bInt [.int i] h = .ok (.int i) h := rfl
@[simp] theorem u_intb (x : Bool) : bInt [.bl x] h = .ok (.int (if x then 1 else 0)) h := rfl
@[simp] theorem u_max : bMax [.int i, .int j] h = .ok (.int (if j > i then j else i)) h := rfl
@[simp] theorem u_min : bMin [.int i, .int j] h = .ok (.int (if j < i then j else i)) h := rfl
@[simp] theorem u_tuple (ds) : bTuple [.tup ds] h = .ok (.tup ds) h := rfl
theorem u_tuplel {p ds} {h : Hv} (hp : h[p]? = some (.lst ds)) : bTuple [.ref p] h = .ok (.tup ds) h := by simp [bTuple, seqOf, hp]
@[simp] theorem u_listt (ds) : bList [.tup ds] h = .ok (.ref h.length) (h ++ [.lst ds]) := rfl
@[simp] theorem u_lent (ds) : bLen [.tup ds] h = .ok (.int ds.length) h := rfl
theorem u_lenl {p ds} {h : Hv} (hp : h[p]? = some (.lst ds)) : bLen [.ref p] h = .ok (.int ds.length) h := by simp [bLen, seqOf, hp]
theorem u_lenr {p ds} {h : Hv} (hp : h[p]? = some (.ro ds)) : bLen [.ref p] h = .ok (.int ds.length) h := by simp [bLen, seqOf, hp]
theorem intsD_map (ns : List Int) : intsD (ns.map .int) = some ns := by
  induction ns with
  | nil => rfl
  | cons n ns ih => simp [intsD, ih]
theorem u_sum {p : Nat} {ns : List Int} {h : Hv} (hp : h[p]? = some (.lst (ns.map .int))) : bSum [.ref p] h = .ok (.int ns.sum) h := by
  simp [bSum, lstAt, hp, intsD_map]
theorem setL_ok {p ds k d} {h : Hv} (hp : h[p]? = some (.lst ds)) (hk : k < ds.length) : setL (.ref p) (.int (k : Nat)) d h = some (h.set p (.lst (ds.set k d))) := by
  have e : ixN ds.length (k : Int) = some k := by unfold ixN; rw [if_pos (by omega), if_pos (by omega)]; simp
  simp [setL, hp, e]
end
theorem run_eq (r : FnRec) (C : Or) (args : List D) (h : Hv) (hn : args.length = r.np) : runFn r C args h = (match r.body C (args.map some ++ List.replicate (r.nl - r.np) none) h with
    | .nx _ h' => gc h .non h'
    | .rt d h' => gc h d h'
    | .exc c d _ h' => .exc c d h'
    | _ => .stuck) := by rw [runFn, if_pos hn]; try rfl
theorem run_rt {r : FnRec} {C : Or} {args : List D} {h h' : Hv} {d : D} (hn : args.length = r.np) (hb : r.body C (args.map some ++ List.replicate (r.nl - r.np) none) h = .rt d h') : runFn r C args h = gc h d h' := by rw [run_eq r C args h hn, hb]
theorem run_nx {r : FnRec} {C : Or} {args : List D} {h h' : Hv} {e : Env} (hn : args.length = r.np) (hb : r.body C (args.map some ++ List.replicate (r.nl - r.np) none) h = .nx e h') : runFn r C args h = gc h .non h' := by rw [run_eq r C args h hn, hb]
end VM

set_option maxRecDepth 100000
set_option maxHeartbeats 0
namespace VM
open PySem L2
/-! == of whole numbers, and of what is the same -/
theorem eqv_int (i j : Int) : PyData.eqv (.int i) (.int j) = decide (i = j) := by
  simp only [PyData.eqv]; rfl
@[simp] theorem u_eqI (i j : Int) (h : Hv) : opEqD false (.int i) (.int j) h = .ok (.bl (decide (i = j))) h := by
  simp [opEqD, toP, eqv_int]
@[simp] theorem u_neI (i j : Int) (h : Hv) : opEqD true (.int i) (.int j) h = .ok (.bl (!decide (i = j))) h := by
  simp [opEqD, toP, eqv_int]
theorem toPs_self {h : Hv} {n : Nat} (ih : ∀ x p, toP h n x = some p → PyData.eqv p p = true) : ∀ (ds : List D) (ps : List PyData), toPs h n ds = some ps → PyData.eqvAll ps ps = true
  | [], ps, e => by
    simp only [toPs, Option.some.injEq] at e
    subst e; rfl
  | d :: ds, ps, e => by
    rw [toPs] at e
    split at e
    · rename_i p1 e1
      split at e
      · rename_i ps1 e2
        cases e
        simp [PyData.eqvAll, ih _ _ e1, toPs_self ih ds _ e2]
      · cases e
    · cases e
theorem toP_self {h : Hv} : ∀ (n : Nat) (x : D) (p : PyData), toP h n x = some p → PyData.eqv p p = true := by
  intro n
  induction n with
  | zero =>
    intro x p e
    cases x <;> simp [toP] at e
    · subst e; rfl
    · subst e; simp [PyData.eqv]
    · subst e; simp [PyData.eqv]
    · obtain ⟨_, rfl⟩ := e; simp [PyData.eqv]
  | succ n ih =>
    intro x p e
    cases x with
    | non => simp [toP] at e; subst e; rfl
    | bl b => simp [toP] at e; subst e; simp [PyData.eqv]
    | int i => simp [toP] at e; subst e; simp [PyData.eqv]
    | str s => simp [toP] at e; obtain ⟨_, rfl⟩ := e; simp [PyData.eqv]
    | tup ds =>
      simp only [toP, Option.map_eq_some_iff] at e
      obtain ⟨ps, e1, rfl⟩ := e
      simpa [PyData.eqv] using toPs_self ih ds ps e1
    | ref i =>
      rw [toP] at e
      split at e
      · simp only [Option.map_eq_some_iff] at e
        obtain ⟨ps, e1, rfl⟩ := e
        simpa [PyData.eqv] using toPs_self ih _ ps e1
      · cases e
theorem eq_same {x y : D} {p : PyData} {h : Hv} (hx : toP h 60 x = some p) (hy : toP h 60 y = some p) : opEqD false x y h = .ok (.bl true) h := by
  simp [opEqD, hx, hy, toP_self 60 x p hx]
theorem ne_same {x y : D} {p : PyData} {h : Hv} (hx : toP h 60 x = some p) (hy : toP h 60 y = some p) : opEqD true x y h = .ok (.bl false) h := by
  simp [opEqD, hx, hy, toP_self 60 x p hx]
/-! list comprehensions that change nothing -/
theorem lc_loop {α : Type} {C : Or} {env : Env} {tg : TF} {t elt : EF} {gs : Guards} {h1 : Hv} (enc : α → D) (p : α → Bool) (f : α → D) (ev : α → Env)
    (hg : ∀ acc, guardsOk gs (h1 ++ [.lst acc]) = true) : ∀ (L : List α) (acc : List D),
    (∀ x ∈ L, ∀ acc, tg (enc x) env (h1 ++ [.lst acc]) = some (ev x)) →
    (∀ x ∈ L, ∀ acc, t C (ev x) (h1 ++ [.lst acc]) = .ok (.bl (p x)) (h1 ++ [.lst acc])) →
    (∀ x ∈ L, p x = true → ∀ acc, elt C (ev x) (h1 ++ [.lst acc]) = .ok (f x) (h1 ++ [.lst acc])) →
    acc.length + L.length ≤ 1000000 →
    lcLoop C env tg t elt gs h1.length (L.map enc) (h1 ++ [.lst acc]) = .ok () (h1 ++ [.lst (acc ++ (L.filter p).map f)])
  | [], acc, _, _, _, _ => by simp [lcLoop, hg]
  | x :: xs, acc, htg, ht, he, hl => by
    have hl' : acc.length + (xs.length + 1) ≤ 1000000 := hl
    have ih := fun acc => lc_loop enc p f ev hg xs acc (fun y hy => htg y (by simp [hy])) (fun y hy => ht y (by simp [hy])) (fun y hy => he y (by simp [hy]))
    rw [List.map_cons, lcLoop, if_pos (hg acc), htg x (by simp) acc]
    simp only [ht x (by simp) acc, bind_ok]
    cases hp : p x with
    | false => simp only [List.filter_cons, hp]; exact ih acc (by omega)
    | true =>
      simp only [he x (by simp) hp acc, bind_ok, List.filter_cons, hp, if_true, List.map_cons]
      have e1 : (h1 ++ [Ob.lst acc])[h1.length]? = some (.lst acc) := by simp
      simp only [e1]
      rw [if_pos (by unfold szl; omega)]
      have e2 : (h1 ++ [Ob.lst acc]).set h1.length (.lst (acc ++ [f x])) = h1 ++ [.lst (acc ++ [f x])] := by simp [List.set_append]
      rw [e2, ih _ (by simp; omega)]
      simp
theorem lc_pure {α : Type} {C : Or} {env : Env} {it : IF} {tg : TF} {own : List Nat} {t elt : EF} {gs : Guards} {h h1 : Hv} (L : List α) (enc : α → D) (p : α → Bool) (f : α → D) (ev : α → Env)
    (hit : it C env h = .ok (L.map enc, gs) h1)
    (hg : ∀ acc, guardsOk gs (h1 ++ [.lst acc]) = true)
    (htg : ∀ x ∈ L, ∀ acc, tg (enc x) (wipeD env own) (h1 ++ [.lst acc]) = some (ev x))
    (ht : ∀ x ∈ L, ∀ acc, t C (ev x) (h1 ++ [.lst acc]) = .ok (.bl (p x)) (h1 ++ [.lst acc]))
    (he : ∀ x ∈ L, p x = true → ∀ acc, elt C (ev x) (h1 ++ [.lst acc]) = .ok (f x) (h1 ++ [.lst acc]))
    (hl : L.length ≤ 1000000) : lcF it tg own t elt C env h = .ok (.ref h1.length) (h1 ++ [.lst ((L.filter p).map f)]) := by
  rw [lcF, hit]
  simp only [bind_ok]
  rw [lc_loop enc p f ev hg L [] htg ht he (by simpa using hl)]
  simp [R.noexc]
/-- without a condition -/
theorem lc_all {α : Type} {C : Or} {env : Env} {it : IF} {tg : TF} {own : List Nat} {elt : EF} {gs : Guards} {h h1 : Hv} (L : List α) (enc : α → D) (f : α → D) (ev : α → Env)
    (hit : it C env h = .ok (L.map enc, gs) h1)
    (hg : ∀ acc, guardsOk gs (h1 ++ [.lst acc]) = true)
    (htg : ∀ x ∈ L, ∀ acc, tg (enc x) (wipeD env own) (h1 ++ [.lst acc]) = some (ev x))
    (he : ∀ x ∈ L, ∀ acc, elt C (ev x) (h1 ++ [.lst acc]) = .ok (f x) (h1 ++ [.lst acc]))
    (hl : L.length ≤ 1000000) : lcF it tg own (conF (.bl true)) elt C env h = .ok (.ref h1.length) (h1 ++ [.lst (L.map f)]) := by
  have := lc_pure (t := conF (.bl true)) L enc (fun _ => true) f ev hit hg htg (fun _ _ _ => rfl) (fun x hx _ => he x hx) hl
  rwa [List.filter_eq_self.2 (fun _ _ => rfl)] at this
@[simp] theorem g_nil (h : Hv) : guardsOk [] h = true := rfl
theorem zipD_map {α β : Type} (f : α → D) (g : β → D) : ∀ (as : List α) (bs : List β), zipD (as.map f) (bs.map g) = (as.zip bs).map fun p => .tup [f p.1, g p.2]
  | [], _ => by simp [zipD]
  | _ :: _, [] => by simp [zipD]
  | a :: as, b :: bs => by simp [zipD, zipD_map f g as bs]
theorem itZ_tt {C : Or} {env : Env} {h : Hv} {a b : EF} {α β : Type} {f : α → D} {g : β → D} {as : List α} {bs : List β} (ha : a C env h = .ok (.tup (as.map f)) h) (hb : b C env h = .ok (.tup (bs.map g)) h) : itZ a b C env h = .ok ((as.zip bs).map fun p => .tup [f p.1, g p.2], []) h := by
  simp [itZ, ha, hb, seqOf, zipD_map]
theorem itE_t {C : Or} {env : Env} {h : Hv} {a : EF} {ds : List D} (ha : a C env h = .ok (.tup ds) h) : itE a C env h = .ok (ds, []) h := by
  simp [itE, ha, seqOf]
theorem it1_ok {C : Or} {env : Env} {h h1 : Hv} {a : EF} {n : Nat} (ha : a C env h = .ok (.int n) h1) (hn : n ≤ 2 ^ 60) : it1F a C env h = .ok ((List.range n).map fun i => .int (i : Nat), []) h1 := by
  simp only [it1F, ha, bind_ok]
  rw [if_pos ⟨by omega, by omega⟩]
  simp [rng]
/-- a loop, by what holds of what is left -/
theorem for_inv {C : Or} {tg : TF} {body : SF} {gs : Guards} {P : List D → Env → Hv → Prop}
    (h0 : ∀ xs env h, P xs env h → guardsOk gs h = true)
    (hs : ∀ x xs env h, P (x :: xs) env h → ∃ env1, tg x env h = some env1 ∧ ∃ env2 h2, body C env1 h = .nx env2 h2 ∧ P xs env2 h2) :
    ∀ (xs : List D) (env : Env) (h : Hv), P xs env h → ∃ env' h', forL C tg body gs xs env h = .nx env' h' ∧ P [] env' h'
  | [], env, h, p => ⟨env, h, by rw [forL, if_pos (h0 _ _ _ p)], p⟩
  | x :: xs, env, h, p => by
    obtain ⟨env1, e1, env2, h2, e2, p2⟩ := hs x xs env h p
    obtain ⟨env', h', e3, p3⟩ := for_inv h0 hs xs env2 h2 p2
    exact ⟨env', h', by rw [forL, if_pos (h0 _ _ _ p)]; simp only [e1, e2, e3], p3⟩
/-! the pen -/
def PenOk (pen : List D) : Prop := ∃ a f c d : Int, pen = [.int a, .int f, .int c, .int d] ∧ 0 ≤ d ∧ d < 2 ^ 40
theorem PenOk.grs {pen : List D} (h : PenOk pen) : D.grs pen = true := by
  obtain ⟨a, f, c, d, rfl, _⟩ := h; rfl
end VM

set_option maxRecDepth 100000
set_option maxHeartbeats 0
namespace VM
open PySem L2
def exs : List Str := []
def F_is_whole : SF := (seqS (retS (andF (un1F (isiF "int") (varF 0)) (un1F opNot (un1F (isiF "bool") (varF 0))))) nxS)
def R_is_whole : FnRec := ⟨1, 1, F_is_whole⟩
def F_is_within : SF := (seqS (retS (andF (callF "is_whole" [(varF 0)]) (chainF opLe opLe (varF 1) (varF 0) (varF 2)))) nxS)
def R_is_within : FnRec := ⟨3, 3, F_is_within⟩
def F_common : SF := (seqS (whileS (binF opGt (varF 1) (conF (.int 0))) (seqS (parS 0 1 (varF 1) (binF opMod (varF 0) (varF 1))) nxS)) (seqS (retS (varF 0)) nxS))
def R_common : FnRec := ⟨2, 2, F_common⟩
def F_made : SF := (seqS (asgS (nmT 2) (callF "common" [(bltF bAbs [(varF 0)]), (varF 1)])) (seqS (retS (tupF [(binF opFdiv (varF 0) (varF 2)), (binF opFdiv (varF 1) (varF 2))])) nxS))
def R_made : FnRec := ⟨2, 3, F_made⟩
def F_is_amount : SF := (seqS (ifS (orF (un1F opNot (un1F (isiF "tuple") (varF 0))) (orF (binF (opEqD true) (bltF bLen [(varF 0)]) (conF (.int 2))) (orF (un1F opNot (callF "is_whole" [(binF opIx (varF 0) (conF (.int 0)))])) (un1F opNot (callF "is_whole" [(binF opIx (varF 0) (conF (.int 1)))]))))) (seqS (retS (conF (.bl false))) nxS) nxS) (seqS (retS (andF (binF opGe (binF opIx (varF 0) (conF (.int 0))) (conF (.int 0))) (andF (binF opGe (binF opIx (varF 0) (conF (.int 1))) (conF (.int 1))) (binF (opEqD false) (callF "common" [(binF opIx (varF 0) (conF (.int 0))), (binF opIx (varF 0) (conF (.int 1)))]) (conF (.int 1)))))) nxS))
def R_is_amount : FnRec := ⟨1, 1, F_is_amount⟩
def F_looks_a_share : SF := (seqS (retS (andF (callF "is_amount" [(varF 0)]) (binF opLe (binF opIx (varF 0) (conF (.int 0))) (binF opIx (varF 0) (conF (.int 1)))))) nxS)
def R_looks_a_share : FnRec := ⟨1, 1, F_looks_a_share⟩
def F_plus : SF := (seqS (retS (callF "made" [(binF opAdd (binF opMul (binF opIx (varF 0) (conF (.int 0))) (binF opIx (varF 1) (conF (.int 1)))) (binF opMul (binF opIx (varF 1) (conF (.int 0))) (binF opIx (varF 0) (conF (.int 1))))), (binF opMul (binF opIx (varF 0) (conF (.int 1))) (binF opIx (varF 1) (conF (.int 1))))])) nxS)
def R_plus : FnRec := ⟨2, 2, F_plus⟩
def F_all_of : SF := (seqS (asgS (nmT 1) (conF (.tup [(.int 0), (.int 1)]))) (seqS (forS (itE (varF 0)) (nmT 2) (seqS (asgS (nmT 1) (callF "plus" [(varF 1), (varF 2)])) nxS)) (seqS (retS (varF 1)) nxS)))
def R_all_of : FnRec := ⟨1, 3, F_all_of⟩
def F_are_shares : SF := (seqS (ifS (orF (un1F opNot (un1F (isiF "tuple") (varF 0))) (orF (binF (opEqD true) (bltF bLen [(varF 0)]) (varF 1)) (un1F opNot (bltF bAll [(lcF (itE (varF 0)) (nmT 2) [2] (conF (.bl true)) (callF "looks_a_share" [(varF 2)]))])))) (seqS (retS (conF (.bl false))) nxS) nxS) (seqS (retS (binF (opEqD false) (callF "all_of" [(varF 0)]) (conF (.tup [(.int 1), (.int 1)])))) nxS))
def R_are_shares : FnRec := ⟨2, 3, F_are_shares⟩
def F_is_load : SF := (seqS (ifS (orF (un1F opNot (un1F (isiF "tuple") (varF 1))) (binF (opEqD true) (bltF bLen [(varF 1)]) (conF (.int 3)))) (seqS (retS (conF (.bl false))) nxS) nxS) (seqS (ifS (orF (un1F opNot (callF "is_within" [(binF opIx (varF 1) (conF (.int 0))), (conF (.int 0)), (binF opSub (binF opIx (varF 0) (conF (.int 1))) (conF (.int 1)))])) (orF (un1F opNot (callF "is_whole" [(binF opIx (varF 1) (conF (.int 1)))])) (binF opLt (binF opIx (varF 1) (conF (.int 1))) (conF (.int 0))))) (seqS (retS (conF (.bl false))) nxS) nxS) (seqS (retS (callF "are_shares" [(binF opIx (varF 1) (conF (.int 2))), (binF opIx (varF 0) (conF (.int 0)))])) nxS)))
def R_is_load : FnRec := ⟨2, 2, F_is_load⟩
def F_is_from : SF := (seqS (retS (andF (callF "is_whole" [(varF 0)]) (binF opGe (varF 0) (varF 1)))) nxS)
def R_is_from : FnRec := ⟨2, 2, F_is_from⟩
def F_are_worths : SF := (seqS (retS (andF (un1F (isiF "tuple") (varF 0)) (andF (binF (opEqD false) (bltF bLen [(varF 0)]) (varF 1)) (bltF bAll [(lcF (itE (varF 0)) (nmT 2) [2] (conF (.bl true)) (callF "is_within" [(varF 2), (conF (.int 1)), (conF (.int 99))]))])))) nxS)
def R_are_worths : FnRec := ⟨2, 3, F_are_worths⟩
def F_is_swapping : SF := (seqS (asgS (tupT [(nmT 2), (nmT 3), (nmT 4), (nmT 5)]) (varF 1)) (seqS (ifS (orF (un1F opNot (callF "is_from" [(varF 2), (conF (.int 0))])) (un1F opNot (callF "is_from" [(varF 3), (conF (.int 1))]))) (seqS (retS (conF (.bl false))) nxS) nxS) (seqS (retS (andF (callF "is_within" [(varF 4), (conF (.int 0)), (binF opSub (binF opIx (varF 0) (conF (.int 1))) (conF (.int 1)))]) (callF "is_from" [(varF 5), (conF (.int 1))]))) nxS)))
def R_is_swapping : FnRec := ⟨2, 6, F_is_swapping⟩
def F_is_partner : SF := (seqS (retS (callF "is_within" [(varF 1), (conF (.int 0)), (binF opSub (binF opIx (varF 0) (conF (.int 0))) (conF (.int 1)))])) nxS)
def R_is_partner : FnRec := ⟨2, 2, F_is_partner⟩
def F_is_selling : SF := (seqS (asgS (tupT [(nmT 2), (nmT 3), (nmT 4)]) (varF 1)) (seqS (ifS (orF (un1F opNot (callF "is_partner" [(varF 0), (varF 2)])) (orF (un1F opNot (callF "is_partner" [(varF 0), (varF 3)])) (binF (opEqD false) (varF 2) (varF 3)))) (seqS (retS (conF (.bl false))) nxS) nxS) (seqS (retS (andF (callF "looks_a_share" [(varF 4)]) (andF (binF opGt (binF opIx (varF 4) (conF (.int 0))) (conF (.int 0))) (binF opLe (binF opIx (varF 4) (conF (.int 1))) (conF (.int 12)))))) nxS)))
def R_is_selling : FnRec := ⟨2, 5, F_is_selling⟩
def F_is_deed : SF := (seqS (ifS (orF (un1F opNot (un1F (isiF "tuple") (varF 1))) (orF (binF opLt (bltF bLen [(varF 1)]) (conF (.int 3))) (un1F opNot (un1F (isiF "str") (binF opIx (varF 1) (conF (.int 0))))))) (seqS (retS (conF (.bl false))) nxS) nxS) (seqS (parS 2 3 (binF opIx (varF 1) (conF (.int 0))) (slcF opSl (varF 1) (some (conF (.int 1))) none)) (seqS (ifS (andF (binF (opEqD false) (varF 2) (conF (.str "bring"))) (binF (opEqD false) (bltF bLen [(varF 3)]) (conF (.int 3)))) (seqS (retS (andF (callF "is_partner" [(varF 0), (binF opIx (varF 3) (conF (.int 0)))]) (andF (callF "is_within" [(binF opIx (varF 3) (conF (.int 1))), (conF (.int 0)), (binF opSub (binF opIx (varF 0) (conF (.int 1))) (conF (.int 1)))]) (callF "is_from" [(binF opIx (varF 3) (conF (.int 2))), (conF (.int 1))])))) nxS) nxS) (seqS (ifS (andF (binF (opEqD false) (varF 2) (conF (.str "pool"))) (binF (opEqD false) (bltF bLen [(varF 3)]) (conF (.int 2)))) (seqS (retS (andF (callF "is_from" [(binF opIx (varF 3) (conF (.int 0))), (conF (.int 0))]) (andF (callF "is_from" [(binF opIx (varF 3) (conF (.int 1))), (conF (.int 0))]) (binF (opEqD true) (binF opIx (varF 3) (conF (.int 0))) (binF opIx (varF 3) (conF (.int 1))))))) nxS) nxS) (seqS (ifS (andF (binF (opEqD false) (varF 2) (conF (.str "swap"))) (binF (opEqD false) (bltF bLen [(varF 3)]) (conF (.int 4)))) (seqS (retS (callF "is_swapping" [(varF 0), (varF 3)])) nxS) nxS) (seqS (ifS (andF (binF (opEqD false) (varF 2) (conF (.str "trade"))) (binF (opEqD false) (bltF bLen [(varF 3)]) (conF (.int 5)))) (seqS (retS (andF (callF "is_within" [(binF opIx (varF 3) (conF (.int 0))), (conF (.int 0)), (conF (.int 9))]) (callF "is_swapping" [(varF 0), (slcF opSl (varF 3) (some (conF (.int 1))) none)]))) nxS) nxS) (seqS (ifS (andF (binF (opEqD false) (varF 2) (conF (.str "spoil"))) (binF (opEqD false) (bltF bLen [(varF 3)]) (conF (.int 2)))) (seqS (retS (andF (callF "is_from" [(binF opIx (varF 3) (conF (.int 0))), (conF (.int 0))]) (callF "is_from" [(binF opIx (varF 3) (conF (.int 1))), (conF (.int 1))]))) nxS) nxS) (seqS (ifS (andF (binF (opEqD false) (varF 2) (conF (.str "throw"))) (binF (opEqD false) (bltF bLen [(varF 3)]) (conF (.int 3)))) (seqS (retS (andF (callF "is_from" [(binF opIx (varF 3) (conF (.int 0))), (conF (.int 0))]) (andF (callF "is_from" [(binF opIx (varF 3) (conF (.int 1))), (conF (.int 1))]) (callF "are_worths" [(binF opIx (varF 3) (conF (.int 2))), (binF opAdd (binF opIx (varF 0) (conF (.int 1))) (conF (.int 1)))])))) nxS) nxS) (seqS (retS (andF (binF (opEqD false) (varF 2) (conF (.str "sell"))) (andF (binF (opEqD false) (bltF bLen [(varF 3)]) (conF (.int 3))) (callF "is_selling" [(varF 0), (varF 3)])))) nxS)))))))))
def R_is_deed : FnRec := ⟨2, 4, F_is_deed⟩
def F__law_cell_at : SF := (seqS (ifS (binF opLt (varF 1) (bltF bLen [(varF 0)])) (seqS (retS (binF opIx (varF 0) (varF 1))) nxS) nxS) (seqS (retS (conF (.int 0))) nxS))
def R__law_cell_at : FnRec := ⟨2, 2, F__law_cell_at⟩
def F__law_pen : SF := (seqS (retS (lstF [(varF 0), (bltF bInt [(binF opGe (varF 0) (binF opPow (conF (.int 10)) (conF (.int 18))))]), (conF (.int 0)), (binF opMod (varF 0) (conF (.int 1000000007)))])) nxS)
def R__law_pen : FnRec := ⟨1, 1, F__law_pen⟩
def F__law_draw : SF := (seqS (ifS (andF (binF (opEqD false) (binF opIx (varF 0) (conF (.int 1))) (conF (.int 1))) (binF opGt (binF opIx (varF 0) (conF (.int 0))) (conF (.int 0)))) (seqS (asgS (nmT 3) (binF opMod (binF opIx (varF 0) (conF (.int 0))) (varF 1))) (seqS (setS (varF 0) (conF (.int 0)) (binF opFdiv (binF opIx (varF 0) (conF (.int 0))) (varF 1))) (seqS (retS (varF 3)) nxS))) nxS) (seqS (setS (varF 0) (conF (.int 2)) (binF opAdd (binF opIx (varF 0) (conF (.int 2))) (conF (.int 1)))) (seqS (asgS (nmT 2) (binF opMod (binF opMul (binF opAdd (binF opIx (varF 0) (conF (.int 3))) (conF (.int 17))) (binF opAdd (conF (.int 69621)) (binF opMul (conF (.int 2)) (binF opIx (varF 0) (conF (.int 2)))))) (conF (.int 2147483647)))) (seqS (asgS (nmT 2) (binF opMod (binF opAdd (binF opAdd (binF opMul (varF 2) (varF 2)) (binF opMul (conF (.int 40503)) (binF opIx (varF 0) (conF (.int 2))))) (conF (.int 5))) (conF (.int 2147483629)))) (seqS (retS (binF opMod (binF opFdiv (binF opMod (binF opMul (varF 2) (conF (.int 48271))) (conF (.int 2147483647))) (conF (.int 32))) (varF 1))) nxS)))))
def R__law_draw : FnRec := ⟨2, 4, F__law_draw⟩
def F__law_common : SF := (seqS (whileS (binF opGt (varF 1) (conF (.int 0))) (seqS (parS 0 1 (varF 1) (binF opMod (varF 0) (varF 1))) nxS)) (seqS (retS (varF 0)) nxS))
def R__law_common : FnRec := ⟨2, 2, F__law_common⟩
def F__law_made : SF := (seqS (asgS (nmT 2) (callF "_law_common" [(bltF bAbs [(varF 0)]), (varF 1)])) (seqS (retS (tupF [(binF opFdiv (varF 0) (varF 2)), (binF opFdiv (varF 1) (varF 2))])) nxS))
def R__law_made : FnRec := ⟨2, 3, F__law_made⟩
def F__law_plus : SF := (seqS (retS (callF "_law_made" [(binF opAdd (binF opMul (binF opIx (varF 0) (conF (.int 0))) (binF opIx (varF 1) (conF (.int 1)))) (binF opMul (binF opIx (varF 1) (conF (.int 0))) (binF opIx (varF 0) (conF (.int 1))))), (binF opMul (binF opIx (varF 0) (conF (.int 1))) (binF opIx (varF 1) (conF (.int 1))))])) nxS)
def R__law_plus : FnRec := ⟨2, 2, F__law_plus⟩
def F__law_sum : SF := (seqS (asgS (nmT 1) (tupF [(conF (.int 0)), (conF (.int 1))])) (seqS (forS (itE (varF 0)) (nmT 2) (seqS (asgS (nmT 1) (callF "_law_plus" [(varF 1), (varF 2)])) nxS)) (seqS (retS (varF 1)) nxS)))
def R__law_sum : FnRec := ⟨1, 3, F__law_sum⟩
def F__law_whole : SF := (seqS (asgS (nmT 2) (lcF (it1F (varF 1)) (nmT 3) [3] (conF (.bl true)) (binF opIx (lstF [(conF (.int 0)), (conF (.int 1)), (callF "_law_draw" [(varF 0), (conF (.int 4))]), (callF "_law_draw" [(varF 0), (conF (.int 9))])]) (callF "_law_draw" [(varF 0), (conF (.int 4))])))) (seqS (ifS (binF (opEqD false) (bltF bSum [(varF 2)]) (conF (.int 0))) (seqS (setS (varF 2) (callF "_law_draw" [(varF 0), (varF 1)]) (conF (.int 1))) nxS) nxS) (seqS (retS (bltF bTuple [(lcF (itE (varF 2)) (nmT 4) [4] (conF (.bl true)) (callF "_law_made" [(varF 4), (bltF bSum [(varF 2)])]))])) nxS)))
def R__law_whole : FnRec := ⟨2, 5, F__law_whole⟩
def F__law_pieces : SF := (seqS (asgS (nmT 1) (binF opAdd (binF opPow (conF (.int 10)) (conF (.int 30))) (callF "_law_draw" [(varF 0), (conF (.int 99))]))) (seqS (retS (binF opIx (lstF [(binF opAdd (conF (.int 1)) (callF "_law_draw" [(varF 0), (conF (.int 4))])), (binF opAdd (conF (.int 1)) (callF "_law_draw" [(varF 0), (conF (.int 40))])), (binF opAdd (conF (.int 1)) (callF "_law_draw" [(varF 0), (conF (.int 999))])), (varF 1)]) (binF opFdiv (callF "_law_draw" [(varF 0), (conF (.int 7))]) (conF (.int 2))))) nxS))
def R__law_pieces : FnRec := ⟨1, 2, F__law_pieces⟩
def F__law_train : SF := (seqS (parS 2 3 (binF opAdd (conF (.int 1)) (callF "_law_draw" [(varF 0), (conF (.int 4))])) (binF opAdd (conF (.int 1)) (callF "_law_draw" [(varF 0), (conF (.int 5))]))) (seqS (asgS (nmT 1) (binF opIx (lstF [(binF opAdd (conF (.int 1)) (callF "_law_draw" [(varF 0), (conF (.int 3))])), (binF opAdd (conF (.int 1)) (callF "_law_draw" [(varF 0), (conF (.int 20))]))]) (callF "_law_draw" [(varF 0), (conF (.int 2))]))) (seqS (retS (tupF [(varF 2), (varF 3), (varF 1), (callF "_law_whole" [(varF 0), (varF 2)]), (callF "_law_draw" [(varF 0), (conF (.int 10))]), (callF "_law_draw" [(varF 0), (conF (.int 10))])])) nxS)))
def R__law_train : FnRec := ⟨1, 4, F__law_train⟩
def F__law_share : SF := (seqS (asgS (nmT 1) (binF opAdd (conF (.int 1)) (callF "_law_draw" [(varF 0), (conF (.int 12))]))) (seqS (retS (callF "_law_made" [(binF opAdd (conF (.int 1)) (callF "_law_draw" [(varF 0), (varF 1)])), (varF 1)])) nxS))
def R__law_share : FnRec := ⟨1, 2, F__law_share⟩
def F__law_worths : SF := (seqS (retS (bltF bTuple [(lcF (it1F (varF 1)) (nmT 2) [2] (conF (.bl true)) (binF opAdd (conF (.int 1)) (binF opIx (lstF [(callF "_law_draw" [(varF 0), (conF (.int 3))]), (callF "_law_draw" [(varF 0), (conF (.int 99))])]) (callF "_law_draw" [(varF 0), (conF (.int 2))]))))])) nxS)
def R__law_worths : FnRec := ⟨2, 3, F__law_worths⟩
def F__law_thing : SF := (seqS (asgS (nmT 2) (callF "_law_draw" [(varF 0), (conF (.int 12))])) (seqS (ifS (orF (binF opLt (varF 2) (conF (.int 8))) (binF (opEqD false) (varF 1) (conF (.int 0)))) (seqS (retS (binF opIx (lstF [(conF .non), (conF (.bl true)), (conF (.bl false)), (conF (.int 0)), (conF (.int 1)), (un1F opNeg (conF (.int 1))), (conF (.int 9)), (binF opPow (conF (.int 10)) (conF (.int 39))), (conF (.str "")), (conF (.str "a")), (tupF []), (lstF [])]) (callF "_law_draw" [(varF 0), (conF (.int 12))]))) nxS) nxS) (seqS (asgS (nmT 3) (lcF (it1F (callF "_law_draw" [(varF 0), (conF (.int 4))])) (nmT 4) [4] (conF (.bl true)) (callF "_law_thing" [(varF 0), (binF opSub (varF 1) (conF (.int 1)))]))) (seqS (ifS (binF (opEqD false) (varF 2) (conF (.int 8))) (seqS (retS (varF 3)) nxS) nxS) (seqS (ifS (binF (opEqD false) (varF 2) (conF (.int 9))) (seqS (retS (dctF [((conF (.str "a")), (varF 3))])) nxS) nxS) (seqS (retS (bltF bTuple [(varF 3)])) nxS))))))
def R__law_thing : FnRec := ⟨2, 5, F__law_thing⟩
def F__law_spoilt : SF := (seqS (ifS (andF (un1F (isiF "tuple") (varF 1)) (andF (binF (opEqD true) (varF 1) (tupF [])) (binF opGt (callF "_law_draw" [(varF 0), (conF (.int 6))]) (conF (.int 0))))) (seqS (asgS (nmT 3) (callF "_law_draw" [(varF 0), (bltF bLen [(varF 1)])])) (seqS (retS (binF opAdd (binF opAdd (slcF opSl (varF 1) none (some (varF 3))) (tupF [(callF "_law_spoilt" [(varF 0), (binF opIx (varF 1) (varF 3))])])) (slcF opSl (varF 1) (some (binF opAdd (varF 3) (conF (.int 1)))) none))) nxS)) nxS) (seqS (asgS (nmT 2) (callF "_law_draw" [(varF 0), (conF (.int 8))])) (seqS (ifS (andF (un1F (isiF "tuple") (varF 1)) (binF opLt (varF 2) (conF (.int 4)))) (seqS (retS (binF opIx (lstF [(binF opAdd (varF 1) (slcF opSl (varF 1) (some (un1F opNeg (conF (.int 1)))) none)), (slcF opSl (varF 1) none (some (un1F opNeg (conF (.int 1))))), (bltF bList [(varF 1)]), (un1F opRev (varF 1))]) (varF 2))) nxS) nxS) (seqS (ifS (andF (un1F (isiF "int") (varF 1)) (binF opLt (varF 2) (conF (.int 4)))) (seqS (retS (binF opIx (lstF [(binF opAdd (varF 1) (conF (.int 1))), (binF opSub (varF 1) (conF (.int 1))), (binF opGt (varF 1) (conF (.int 0))), (bltF bStr [(varF 1)])]) (varF 2))) nxS) nxS) (seqS (ifS (andF (un1F (isiF "str") (varF 1)) (binF opLt (varF 2) (conF (.int 4)))) (seqS (retS (binF opIx (lstF [(binF opAdd (varF 1) (conF (.str "a"))), (un1F (smth0 mUpper) (varF 1)), (slcF opSl (varF 1) none (some (un1F opNeg (conF (.int 1))))), (binF opAdd (conF (.str "1")) (varF 1))]) (varF 2))) nxS) nxS) (seqS (retS (callF "_law_thing" [(varF 0), (conF (.int 2))])) nxS))))))
def R__law_spoilt : FnRec := ⟨2, 4, F__law_spoilt⟩
def F__law_in : SF := (seqS (ifS (orF (un1F opNot (un1F (isiF "int") (varF 0))) (un1F (isiF "bool") (varF 0))) (seqS (retS (conF (.bl false))) nxS) nxS) (seqS (retS (andF (binF opLe (varF 1) (varF 0)) (orF (binF (opIs false) (varF 2) (conF .non)) (binF opLe (varF 0) (varF 2))))) nxS))
def R__law_in : FnRec := ⟨3, 3, F__law_in⟩
def F__law_is_amount : SF := (seqS (ifS (orF (un1F opNot (un1F (isiF "tuple") (varF 0))) (orF (binF (opEqD true) (bltF bLen [(varF 0)]) (conF (.int 2))) (un1F opNot (callF "_law_in" [(binF opIx (varF 0) (conF (.int 0))), (conF (.int 0)), (conF .non)])))) (seqS (retS (conF (.bl false))) nxS) nxS) (seqS (retS (andF (callF "_law_in" [(binF opIx (varF 0) (conF (.int 1))), (conF (.int 1)), (conF .non)]) (binF (opEqD false) (callF "_law_common" [(binF opIx (varF 0) (conF (.int 0))), (binF opIx (varF 0) (conF (.int 1)))]) (conF (.int 1))))) nxS))
def R__law_is_amount : FnRec := ⟨1, 1, F__law_is_amount⟩
def F__law_is_share : SF := (seqS (retS (andF (callF "_law_is_amount" [(varF 0)]) (binF opLe (binF opIx (varF 0) (conF (.int 0))) (binF opIx (varF 0) (conF (.int 1)))))) nxS)
def R__law_is_share : FnRec := ⟨1, 1, F__law_is_share⟩
def F__law_are_shares : SF := (seqS (ifS (orF (un1F opNot (un1F (isiF "tuple") (varF 0))) (orF (binF (opEqD true) (bltF bLen [(varF 0)]) (varF 1)) (un1F opNot (bltF bAll [(lcF (itE (varF 0)) (nmT 2) [2] (conF (.bl true)) (callF "_law_is_share" [(varF 2)]))])))) (seqS (retS (conF (.bl false))) nxS) nxS) (seqS (retS (binF (opEqD false) (callF "_law_sum" [(varF 0)]) (tupF [(conF (.int 1)), (conF (.int 1))]))) nxS))
def R__law_are_shares : FnRec := ⟨2, 3, F__law_are_shares⟩
def F__law_is_load : SF := (seqS (ifS (orF (un1F opNot (un1F (isiF "tuple") (varF 1))) (orF (binF (opEqD true) (bltF bLen [(varF 1)]) (conF (.int 3))) (un1F opNot (callF "_law_in" [(binF opIx (varF 1) (conF (.int 0))), (conF (.int 0)), (binF opSub (binF opIx (varF 0) (conF (.int 1))) (conF (.int 1)))])))) (seqS (retS (conF (.bl false))) nxS) nxS) (seqS (retS (andF (callF "_law_in" [(binF opIx (varF 1) (conF (.int 1))), (conF (.int 0)), (conF .non)]) (callF "_law_are_shares" [(binF opIx (varF 1) (conF (.int 2))), (binF opIx (varF 0) (conF (.int 0)))]))) nxS))
def R__law_is_load : FnRec := ⟨2, 2, F__law_is_load⟩
def F__law_are_worths : SF := (seqS (retS (andF (un1F (isiF "tuple") (varF 0)) (andF (binF (opEqD false) (bltF bLen [(varF 0)]) (varF 1)) (bltF bAll [(lcF (itE (varF 0)) (nmT 2) [2] (conF (.bl true)) (callF "_law_in" [(varF 2), (conF (.int 1)), (conF (.int 99))]))])))) nxS)
def R__law_are_worths : FnRec := ⟨2, 3, F__law_are_worths⟩
def F__law_is_sale : SF := (seqS (ifS (orF (un1F opNot (callF "_law_in" [(binF opIx (varF 1) (conF (.int 0))), (conF (.int 0)), (binF opSub (binF opIx (varF 0) (conF (.int 0))) (conF (.int 1)))])) (orF (un1F opNot (callF "_law_in" [(binF opIx (varF 1) (conF (.int 1))), (conF (.int 0)), (binF opSub (binF opIx (varF 0) (conF (.int 0))) (conF (.int 1)))])) (binF (opEqD false) (binF opIx (varF 1) (conF (.int 0))) (binF opIx (varF 1) (conF (.int 1)))))) (seqS (retS (conF (.bl false))) nxS) nxS) (seqS (retS (andF (callF "_law_is_share" [(binF opIx (varF 1) (conF (.int 2)))]) (andF (binF opGt (binF opIx (binF opIx (varF 1) (conF (.int 2))) (conF (.int 0))) (conF (.int 0))) (binF opLe (binF opIx (binF opIx (varF 1) (conF (.int 2))) (conF (.int 1))) (conF (.int 12)))))) nxS))
def R__law_is_sale : FnRec := ⟨2, 2, F__law_is_sale⟩
def F__law_is_deed : SF := (seqS (ifS (orF (un1F opNot (un1F (isiF "tuple") (varF 1))) (orF (binF opLt (bltF bLen [(varF 1)]) (conF (.int 2))) (un1F opNot (un1F (isiF "str") (binF opIx (varF 1) (conF (.int 0))))))) (seqS (retS (conF (.bl false))) nxS) nxS) (seqS (asgS (nmT 2) (dctF [((conF (.str "bring")), (conF (.int 3))), ((conF (.str "pool")), (conF (.int 2))), ((conF (.str "swap")), (conF (.int 4))), ((conF (.str "trade")), (conF (.int 5))), ((conF (.str "spoil")), (conF (.int 2))), ((conF (.str "throw")), (conF (.int 3))), ((conF (.str "sell")), (conF (.int 3)))])) (seqS (ifS (binF (opEqD true) (methD mGet (varF 2) [(binF opIx (varF 1) (conF (.int 0))), (conF (.int 0))]) (binF opSub (bltF bLen [(varF 1)]) (conF (.int 1)))) (seqS (retS (conF (.bl false))) nxS) nxS) (seqS (parS 3 4 (binF opIx (varF 1) (conF (.int 0))) (slcF opSl (varF 1) (some (conF (.int 1))) none)) (seqS (ifS (binF (opEqD false) (varF 3) (conF (.str "sell"))) (seqS (retS (callF "_law_is_sale" [(varF 0), (varF 4)])) nxS) nxS) (seqS (ifS (binF (opEqD false) (varF 3) (conF (.str "bring"))) (seqS (asgS (nmT 5) (andF (callF "_law_in" [(binF opIx (varF 4) (conF (.int 0))), (conF (.int 0)), (binF opSub (binF opIx (varF 0) (conF (.int 0))) (conF (.int 1)))]) (callF "_law_in" [(binF opIx (varF 4) (conF (.int 1))), (conF (.int 0)), (binF opSub (binF opIx (varF 0) (conF (.int 1))) (conF (.int 1)))]))) (seqS (retS (andF (varF 5) (callF "_law_in" [(binF opIx (varF 4) (conF (.int 2))), (conF (.int 1)), (conF .non)]))) nxS)) nxS) (seqS (ifS (binF (opEqD false) (varF 3) (conF (.str "trade"))) (seqS (ifS (un1F opNot (callF "_law_in" [(binF opIx (varF 4) (conF (.int 0))), (conF (.int 0)), (conF (.int 9))])) (seqS (retS (conF (.bl false))) nxS) nxS) (seqS (asgS (nmT 4) (slcF opSl (varF 4) (some (conF (.int 1))) none)) nxS)) nxS) (seqS (ifS (un1F opNot (callF "_law_in" [(binF opIx (varF 4) (conF (.int 0))), (conF (.int 0)), (conF .non)])) (seqS (retS (conF (.bl false))) nxS) nxS) (seqS (ifS (binF (opEqD false) (varF 3) (conF (.str "pool"))) (seqS (retS (andF (callF "_law_in" [(binF opIx (varF 4) (conF (.int 1))), (conF (.int 0)), (conF .non)]) (binF (opEqD true) (binF opIx (varF 4) (conF (.int 0))) (binF opIx (varF 4) (conF (.int 1)))))) nxS) nxS) (seqS (ifS (binF (opIn false) (varF 3) (tupF [(conF (.str "swap")), (conF (.str "trade"))])) (seqS (retS (andF (callF "_law_in" [(binF opIx (varF 4) (conF (.int 1))), (conF (.int 1)), (conF .non)]) (andF (callF "_law_in" [(binF opIx (varF 4) (conF (.int 2))), (conF (.int 0)), (binF opSub (binF opIx (varF 0) (conF (.int 1))) (conF (.int 1)))]) (callF "_law_in" [(binF opIx (varF 4) (conF (.int 3))), (conF (.int 1)), (conF .non)])))) nxS) nxS) (seqS (retS (andF (callF "_law_in" [(binF opIx (varF 4) (conF (.int 1))), (conF (.int 1)), (conF .non)]) (orF (binF (opEqD false) (varF 3) (conF (.str "spoil"))) (callF "_law_are_worths" [(binF opIx (varF 4) (conF (.int 2))), (binF opAdd (binF opIx (varF 0) (conF (.int 1))) (conF (.int 1)))])))) nxS)))))))))))
def R__law_is_deed : FnRec := ⟨2, 6, F__law_is_deed⟩
def F__law_deeds : SF := (seqS (parS 3 4 (callF "_law_draw" [(varF 0), (conF (.int 9))]) (callF "_law_pieces" [(varF 0)])) (seqS (parS 5 6 (callF "_law_draw" [(varF 0), (binF opIx (varF 1) (conF (.int 1)))]) (callF "_law_draw" [(varF 0), (binF opIx (varF 1) (conF (.int 0)))])) (seqS (asgS (nmT 2) (lstF [(tupF [(conF (.str "bring")), (varF 6), (varF 5), (varF 4)]), (tupF [(conF (.str "pool")), (varF 3), (binF opAdd (varF 3) (conF (.int 1)))]), (tupF [(conF (.str "swap")), (varF 3), (conF (.int 1)), (varF 5), (varF 4)])])) (seqS (asgS (nmT 2) (binF opAdd (varF 2) (lstF [(tupF [(conF (.str "trade")), (callF "_law_draw" [(varF 0), (conF (.int 10))]), (varF 3), (varF 4), (varF 5), (conF (.int 2))]), (tupF [(conF (.str "spoil")), (varF 3), (varF 4)])]))) (seqS (expS (methF mAppend (varF 2) [(tupF [(conF (.str "throw")), (varF 3), (varF 4), (callF "_law_worths" [(varF 0), (binF opAdd (binF opIx (varF 1) (conF (.int 1))) (conF (.int 1)))])])])) (seqS (asgS (nmT 2) (binF opAdd (varF 2) (lstF [(tupF [(conF (.str "sell")), (conF (.int 0)), (conF (.int 1)), (tupF [(conF (.int 12)), (conF (.int 13))])]), (tupF [(conF (.str "sell")), (conF (.int 1)), (conF (.int 0)), (tupF [(conF (.int 0)), (conF (.int 1))])])]))) (seqS (retS (binF opAdd (varF 2) (lstF [(tupF [(conF (.str "sell")), (varF 6), (binF opMod (binF opAdd (varF 6) (conF (.int 1))) (conF (.int 4))), (callF "_law_share" [(varF 0)])])]))) nxS)))))))
def R__law_deeds : FnRec := ⟨2, 7, F__law_deeds⟩
def F__law_bounds : SF := (seqS (asgS (nmT 1) (lstF [(tupF [(conF (.str "pool")), (conF (.int 1)), (conF (.int 1))]), (tupF [(conF (.str "trade")), (conF (.int 10)), (conF (.int 0)), (conF (.int 1)), (conF (.int 0)), (conF (.int 1))]), (tupF [(conF (.str "trade")), (un1F opNeg (conF (.int 1))), (conF (.int 0)), (conF (.int 1)), (conF (.int 0)), (conF (.int 1))]), (tupF [(conF (.str "bring")), (binF opIx (varF 0) (conF (.int 0))), (conF (.int 0)), (conF (.int 1))])])) (seqS (asgS (nmT 1) (binF opAdd (varF 1) (lstF [(tupF [(conF (.str "bring")), (conF (.int 0)), (binF opIx (varF 0) (conF (.int 1))), (conF (.int 1))]), (tupF [(conF (.str "bring")), (conF (.int 0)), (conF (.int 0)), (conF (.int 0))]), (tupF [(conF (.str "swap")), (conF (.int 0)), (conF (.int 0)), (conF (.int 0)), (conF (.int 1))]), (tupF [(conF (.str "swap")), (conF (.int 0)), (conF (.int 1)), (binF opIx (varF 0) (conF (.int 1))), (conF (.int 1))])]))) (seqS (asgS (nmT 1) (binF opAdd (varF 1) (lstF [(tupF [(conF (.str "swap")), (conF (.int 0)), (conF (.int 1)), (conF (.int 0)), (conF (.int 0))]), (tupF [(conF (.str "swap")), (un1F opNeg (conF (.int 1))), (conF (.int 1)), (conF (.int 0)), (conF (.int 1))]), (tupF [(conF (.str "spoil")), (conF (.int 0)), (conF (.int 0))]), (tupF [(conF (.str "sell")), (conF (.int 0)), (conF (.int 0)), (tupF [(conF (.int 1)), (conF (.int 1))])])]))) (seqS (asgS (nmT 1) (binF opAdd (varF 1) (lstF [(tupF [(conF (.str "throw")), (conF (.int 0)), (conF (.int 1)), (binF opMul (tupF [(conF (.int 1))]) (binF opIx (varF 0) (conF (.int 1))))]), (tupF [(conF (.str "throw")), (conF (.int 0)), (conF (.int 1)), (binF opMul (tupF [(conF (.int 100))]) (binF opAdd (binF opIx (varF 0) (conF (.int 1))) (conF (.int 1))))])]))) (seqS (asgS (nmT 1) (binF opAdd (varF 1) (lstF [(tupF [(conF (.str "throw")), (conF (.int 0)), (conF (.int 1)), (binF opMul (tupF [(conF (.int 99))]) (binF opAdd (binF opIx (varF 0) (conF (.int 1))) (conF (.int 1))))]), (tupF [(conF (.str "throw")), (conF (.int 0)), (conF (.int 1)), (binF opMul (tupF [(conF (.int 0))]) (binF opAdd (binF opIx (varF 0) (conF (.int 1))) (conF (.int 1))))]), (tupF [(conF (.str "sing")), (conF (.int 0)), (conF (.int 1))])]))) (seqS (asgS (nmT 1) (binF opAdd (varF 1) (lstF [(tupF [(conF (.str "sell")), (conF (.int 0)), (binF opIx (varF 0) (conF (.int 0))), (tupF [(conF (.int 1)), (conF (.int 2))])]), (tupF [(conF (.str "sell")), (conF (.int 0)), (conF (.int 1)), (tupF [(conF (.int 1)), (conF (.int 13))])]), (tupF [(conF (.str "sell")), (conF (.int 0)), (conF (.int 1)), (tupF [(conF (.int 2)), (conF (.int 2))])])]))) (seqS (retS (binF opAdd (varF 1) (lstF [(tupF [(conF (.str "spoil"))]), (tupF []), (tupF [(conF (.str "bring")), (conF (.int 0)), (conF (.int 0))])]))) nxS)))))))
def R__law_bounds : FnRec := ⟨1, 2, F__law_bounds⟩
def F_law_b1 : SF := (seqS (ifS (binF (opEqD true) (callF "is_load" [(varF 3), (varF 6)]) (callF "_law_is_load" [(varF 3), (varF 6)])) (seqS (retS (conF (.bl false))) nxS) nxS) nxS)
def F_law_b2 : SF := (seqS (ifS (binF (opEqD true) (callF "is_deed" [(varF 3), (varF 6)]) (callF "_law_is_deed" [(varF 3), (varF 6)])) (seqS (retS (conF (.bl false))) nxS) nxS) nxS)
def F_law_b3 : SF := (seqS (asgS (nmT 4) (binF opAdd (varF 4) (lstF [(varF 5), (bltF bList [(varF 5)]), (binF opAdd (varF 5) (tupF [(conF (.int 0))])), (slcF opSl (varF 5) none (some (un1F opNeg (conF (.int 1)))))]))) (seqS (asgS (nmT 4) (binF opAdd (varF 4) (lcF (it1F (conF (.int 2))) (nmT 9) [9] (conF (.bl true)) (callF "_law_spoilt" [(varF 2), (varF 5)])))) nxS))
def F_law_b4 : SF := (seqS (asgS (nmT 2) (callF "_law_pen" [(callF "_law_cell_at" [(varF 0), (varF 1)])])) (seqS (asgS (nmT 3) (callF "_law_train" [(varF 2)])) (seqS (asgS (nmT 4) (binF opAdd (callF "_law_bounds" [(varF 3)]) (lstF [(callF "_law_thing" [(varF 2), (conF (.int 2))])]))) (seqS (forS (itE (callF "_law_deeds" [(varF 2), (varF 3)])) (nmT 5) F_law_b3) (seqS (forS (itE (varF 4)) (nmT 6) F_law_b2) (seqS (asgS (nmT 7) (tupF [(callF "_law_draw" [(varF 2), (binF opIx (varF 3) (conF (.int 1)))]), (callF "_law_pieces" [(varF 2)]), (callF "_law_whole" [(varF 2), (binF opIx (varF 3) (conF (.int 0)))])])) (seqS (asgS (nmT 8) (lstF [(varF 7), (binF opAdd (tupF [(binF opIx (varF 3) (conF (.int 1)))]) (slcF opSl (varF 7) (some (conF (.int 1))) none)), (binF opAdd (binF opAdd (slcF opSl (varF 7) none (some (conF (.int 1)))) (tupF [(conF (.int 0))])) (slcF opSl (varF 7) (some (conF (.int 2))) none)), (binF opAdd (binF opAdd (slcF opSl (varF 7) none (some (conF (.int 1)))) (tupF [(un1F opNeg (conF (.int 1)))])) (slcF opSl (varF 7) (some (conF (.int 2))) none)), (slcF opSl (varF 7) none (some (conF (.int 2))))])) (seqS (asgS (nmT 8) (binF opAdd (binF opAdd (varF 8) (lcF (itE (tupF [(conF (.int 1)), (conF (.int 2)), (conF (.int 3)), (conF (.int 4))])) (nmT 10) [10] (conF (.bl true)) (binF opAdd (slcF opSl (varF 7) none (some (conF (.int 2)))) (tupF [(callF "_law_whole" [(varF 2), (varF 10)])])))) (lstF [(bltF bList [(varF 7)])]))) (seqS (forS (itE (binF opAdd (binF opAdd (varF 8) (lstF [(callF "_law_thing" [(varF 2), (conF (.int 2))])])) (lcF (it1F (conF (.int 8))) (nmT 9) [9] (conF (.bl true)) (callF "_law_spoilt" [(varF 2), (varF 7)])))) (nmT 6) F_law_b1) nxS)))))))))
def F_law : SF := (seqS (forS (it1F (bltF bMax [(conF (.int 1)), (bltF bMin [(bltF bLen [(varF 0)]), (conF (.int 3))])])) (nmT 1) F_law_b4) (seqS (retS (conF (.bl true))) nxS))
def R_law : FnRec := ⟨1, 11, F_law⟩
def fns0 : List (Str × FnRec) := [(("is_whole" : PySem.Str), R_is_whole), (("is_within" : PySem.Str), R_is_within), (("common" : PySem.Str), R_common), (("made" : PySem.Str), R_made), (("is_amount" : PySem.Str), R_is_amount), (("looks_a_share" : PySem.Str), R_looks_a_share), (("plus" : PySem.Str), R_plus), (("all_of" : PySem.Str), R_all_of), (("are_shares" : PySem.Str), R_are_shares), (("is_load" : PySem.Str), R_is_load), (("is_from" : PySem.Str), R_is_from), (("are_worths" : PySem.Str), R_are_worths), (("is_swapping" : PySem.Str), R_is_swapping), (("is_partner" : PySem.Str), R_is_partner), (("is_selling" : PySem.Str), R_is_selling), (("is_deed" : PySem.Str), R_is_deed), (("_law_cell_at" : PySem.Str), R__law_cell_at), (("_law_pen" : PySem.Str), R__law_pen), (("_law_draw" : PySem.Str), R__law_draw), (("_law_common" : PySem.Str), R__law_common)]
def fns1 : List (Str × FnRec) := [(("_law_made" : PySem.Str), R__law_made), (("_law_plus" : PySem.Str), R__law_plus), (("_law_sum" : PySem.Str), R__law_sum), (("_law_whole" : PySem.Str), R__law_whole), (("_law_pieces" : PySem.Str), R__law_pieces), (("_law_train" : PySem.Str), R__law_train), (("_law_share" : PySem.Str), R__law_share), (("_law_worths" : PySem.Str), R__law_worths), (("_law_thing" : PySem.Str), R__law_thing), (("_law_spoilt" : PySem.Str), R__law_spoilt), (("_law_in" : PySem.Str), R__law_in), (("_law_is_amount" : PySem.Str), R__law_is_amount), (("_law_is_share" : PySem.Str), R__law_is_share), (("_law_are_shares" : PySem.Str), R__law_are_shares), (("_law_is_load" : PySem.Str), R__law_is_load), (("_law_are_worths" : PySem.Str), R__law_are_worths), (("_law_is_sale" : PySem.Str), R__law_is_sale), (("_law_is_deed" : PySem.Str), R__law_is_deed), (("_law_deeds" : PySem.Str), R__law_deeds), (("_law_bounds" : PySem.Str), R__law_bounds)]
def fns2 : List (Str × FnRec) := [(("law" : PySem.Str), R_law)]
def fns : List (Str × FnRec) := fns0 ++ fns1 ++ fns2
theorem T_ex : ∃ T : Str → Option FnRec, T = tblOf fns := ⟨_, rfl⟩
noncomputable def T : Str → Option FnRec := Classical.choose T_ex
theorem T_eq : T = tblOf fns := Classical.choose_spec T_ex
theorem t_is_whole : T "is_whole" = some R_is_whole := by
  rw [T_eq]
  kernel_rfl
theorem t_is_within : T "is_within" = some R_is_within := by
  rw [T_eq]
  kernel_rfl
theorem t_common : T "common" = some R_common := by
  rw [T_eq]
  kernel_rfl
theorem t_made : T "made" = some R_made := by
  rw [T_eq]
  kernel_rfl
theorem t_is_amount : T "is_amount" = some R_is_amount := by
  rw [T_eq]
  kernel_rfl
theorem t_looks_a_share : T "looks_a_share" = some R_looks_a_share := by
  rw [T_eq]
  kernel_rfl
theorem t_plus : T "plus" = some R_plus := by
  rw [T_eq]
  kernel_rfl
theorem t_all_of : T "all_of" = some R_all_of := by
  rw [T_eq]
  kernel_rfl
theorem t_are_shares : T "are_shares" = some R_are_shares := by
  rw [T_eq]
  kernel_rfl
theorem t_is_load : T "is_load" = some R_is_load := by
  rw [T_eq]
  kernel_rfl
theorem t_is_from : T "is_from" = some R_is_from := by
  rw [T_eq]
  kernel_rfl
theorem t_are_worths : T "are_worths" = some R_are_worths := by
  rw [T_eq]
  kernel_rfl
theorem t_is_swapping : T "is_swapping" = some R_is_swapping := by
  rw [T_eq]
  kernel_rfl
theorem t_is_partner : T "is_partner" = some R_is_partner := by
  rw [T_eq]
  kernel_rfl
theorem t_is_selling : T "is_selling" = some R_is_selling := by
  rw [T_eq]
  kernel_rfl
theorem t_is_deed : T "is_deed" = some R_is_deed := by
  rw [T_eq]
  kernel_rfl
theorem t__law_cell_at : T "_law_cell_at" = some R__law_cell_at := by
  rw [T_eq]
  kernel_rfl
theorem t__law_pen : T "_law_pen" = some R__law_pen := by
  rw [T_eq]
  kernel_rfl
theorem t__law_draw : T "_law_draw" = some R__law_draw := by
  rw [T_eq]
  kernel_rfl
theorem t__law_common : T "_law_common" = some R__law_common := by
  rw [T_eq]
  kernel_rfl
theorem t__law_made : T "_law_made" = some R__law_made := by
  rw [T_eq]
  kernel_rfl
theorem t__law_plus : T "_law_plus" = some R__law_plus := by
  rw [T_eq]
  kernel_rfl
theorem t__law_sum : T "_law_sum" = some R__law_sum := by
  rw [T_eq]
  kernel_rfl
theorem t__law_whole : T "_law_whole" = some R__law_whole := by
  rw [T_eq]
  kernel_rfl
theorem t__law_pieces : T "_law_pieces" = some R__law_pieces := by
  rw [T_eq]
  kernel_rfl
theorem t__law_train : T "_law_train" = some R__law_train := by
  rw [T_eq]
  kernel_rfl
theorem t__law_share : T "_law_share" = some R__law_share := by
  rw [T_eq]
  kernel_rfl
theorem t__law_worths : T "_law_worths" = some R__law_worths := by
  rw [T_eq]
  kernel_rfl
theorem t__law_thing : T "_law_thing" = some R__law_thing := by
  rw [T_eq]
  kernel_rfl
theorem t__law_spoilt : T "_law_spoilt" = some R__law_spoilt := by
  rw [T_eq]
  kernel_rfl
theorem t__law_in : T "_law_in" = some R__law_in := by
  rw [T_eq]
  kernel_rfl
theorem t__law_is_amount : T "_law_is_amount" = some R__law_is_amount := by
  rw [T_eq]
  kernel_rfl
theorem t__law_is_share : T "_law_is_share" = some R__law_is_share := by
  rw [T_eq]
  kernel_rfl
theorem t__law_are_shares : T "_law_are_shares" = some R__law_are_shares := by
  rw [T_eq]
  kernel_rfl
theorem t__law_is_load : T "_law_is_load" = some R__law_is_load := by
  rw [T_eq]
  kernel_rfl
theorem t__law_are_worths : T "_law_are_worths" = some R__law_are_worths := by
  rw [T_eq]
  kernel_rfl
theorem t__law_is_sale : T "_law_is_sale" = some R__law_is_sale := by
  rw [T_eq]
  kernel_rfl
theorem t__law_is_deed : T "_law_is_deed" = some R__law_is_deed := by
  rw [T_eq]
  kernel_rfl
theorem t__law_deeds : T "_law_deeds" = some R__law_deeds := by
  rw [T_eq]
  kernel_rfl
theorem t__law_bounds : T "_law_bounds" = some R__law_bounds := by
  rw [T_eq]
  kernel_rfl
theorem t_law : T "law" = some R_law := by
  rw [T_eq]
  kernel_rfl

/-- numbers of a size that the sums stay in bounds -/
structure Fit (q : Rat) : Prop where
  n : q.num.natAbs < bigM
  d : q.den < 2 ^ 4400
  dd : q.den < bigM
theorem Fit.neg {q : Rat} (h : Fit q) : Fit (-q) := ⟨by simpa using h.1, by simpa using h.2, by simpa using h.3⟩
theorem fit_den {a b : Rat} (ha : Fit a) (hb : Fit b) : a.den * b.den < bigD :=
  Nat.lt_of_lt_of_le (Nat.mul_lt_mul'' ha.2 hb.2) (by rw [← Nat.pow_add]; exact Nat.pow_le_pow_right (by decide) (by decide))
theorem common_ok (k : Nat) (a b : Int) (h : Hv) (ha : 0 ≤ a) (hb : 0 ≤ b) (hs : b < 2 ^ 8900) : callK T (k + 1) "common" [.int a, .int b] h = .ok (.int (Int.gcd a b)) h := by
  have e := euclid_loop (callK T k) (binF opGt (varF 1) (conF (.int 0))) (seqS (parS 0 1 (varF 1) (binF opMod (varF 0) (varF 1))) nxS) h
    (fun a b => by simp [u_var])
    (fun a b h0 => by simp [u_var, opMod, h0]) 8900 a b wfuel ha hb hs (by decide)
  rw [callK_eq t_common]
  refine (run_rt rfl ?_).trans gc_same
  simp [R_common, F_common, whileS, e, u_var]
theorem made_ok (k : Nat) (n : Int) (d : Nat) (h : Hv) (hd : 0 < d) (hs : d < bigD) : callK T (k + 2) "made" [.int n, .int d] h = .ok (am (mkRat n d)) h := by
  rw [callK_eq t_made, ← mk_am n d (by omega)]
  have h2 : (0 : Int) ≤ (if n < 0 then -n else n) := by split <;> omega
  have e := common_ok k (if n < 0 then -n else n) d h h2 (by omega) (by unfold bigD at hs; exact_mod_cast hs)
  have g0 : 0 < Int.gcd (if n < 0 then -n else n) (d : Int) := Int.gcd_pos_of_ne_zero_right _ (by omega)
  have g1 : Int.gcd (if n < 0 then -n else n) (d : Int) < bigD := Nat.lt_of_le_of_lt (Nat.le_of_dvd hd (by have := Int.gcd_dvd_right (a := (if n < 0 then -n else n)) (b := (d : Int)); exact_mod_cast this)) hs
  refine (run_rt rfl ?_).trans gc_same
  simp only [R_made, F_made]
  generalize Int.gcd (if n < 0 then -n else n) (d : Int) = G at *
  simp [u_var, e, opFdiv, g0, g1]
theorem plus_ok (k : Nat) (a b : Rat) (h : Hv) (ha : Fit a) (hb : Fit b) : callK T (k + 3) "plus" [am a, am b] h = .ok (am (a + b)) h := by
  rw [callK_eq t_plus, Rat.add_def']
  refine (run_rt rfl ?_).trans gc_same
  have e := fun n => made_ok k n (a.den * b.den) h (Nat.mul_pos a.den_pos b.den_pos) (fit_den ha hb)
  rw [Int.natCast_mul] at e
  simp [u_var, R_plus, F_plus, mul_m, ha.1, hb.1, ha.3, hb.3, e]
theorem _law_common_ok (k : Nat) (a b : Int) (h : Hv) (ha : 0 ≤ a) (hb : 0 ≤ b) (hs : b < 2 ^ 8900) : callK T (k + 1) "_law_common" [.int a, .int b] h = .ok (.int (Int.gcd a b)) h := by
  have e := euclid_loop (callK T k) (binF opGt (varF 1) (conF (.int 0))) (seqS (parS 0 1 (varF 1) (binF opMod (varF 0) (varF 1))) nxS) h
    (fun a b => by simp [u_var])
    (fun a b h0 => by simp [u_var, opMod, h0]) 8900 a b wfuel ha hb hs (by decide)
  rw [callK_eq t__law_common]
  refine (run_rt rfl ?_).trans gc_same
  simp [R__law_common, F__law_common, whileS, e, u_var]
theorem _law_made_ok (k : Nat) (n : Int) (d : Nat) (h : Hv) (hd : 0 < d) (hs : d < bigD) : callK T (k + 2) "_law_made" [.int n, .int d] h = .ok (am (mkRat n d)) h := by
  rw [callK_eq t__law_made, ← mk_am n d (by omega)]
  have h2 : (0 : Int) ≤ (if n < 0 then -n else n) := by split <;> omega
  have e := _law_common_ok k (if n < 0 then -n else n) d h h2 (by omega) (by unfold bigD at hs; exact_mod_cast hs)
  have g0 : 0 < Int.gcd (if n < 0 then -n else n) (d : Int) := Int.gcd_pos_of_ne_zero_right _ (by omega)
  have g1 : Int.gcd (if n < 0 then -n else n) (d : Int) < bigD := Nat.lt_of_le_of_lt (Nat.le_of_dvd hd (by have := Int.gcd_dvd_right (a := (if n < 0 then -n else n)) (b := (d : Int)); exact_mod_cast this)) hs
  refine (run_rt rfl ?_).trans gc_same
  simp only [R__law_made, F__law_made]
  generalize Int.gcd (if n < 0 then -n else n) (d : Int) = G at *
  simp [u_var, e, opFdiv, g0, g1]
theorem _law_plus_ok (k : Nat) (a b : Rat) (h : Hv) (ha : Fit a) (hb : Fit b) : callK T (k + 3) "_law_plus" [am a, am b] h = .ok (am (a + b)) h := by
  rw [callK_eq t__law_plus, Rat.add_def']
  refine (run_rt rfl ?_).trans gc_same
  have e := fun n => _law_made_ok k n (a.den * b.den) h (Nat.mul_pos a.den_pos b.den_pos) (fit_den ha hb)
  rw [Int.natCast_mul] at e
  simp [u_var, R__law_plus, F__law_plus, mul_m, ha.1, hb.1, ha.3, hb.3, e]

theorem _law_cell_at_ok (k : Nat) (ns : List Int) (i : Nat) (p : Nat) (h : Hv) (hp : h[p]? = some (.ro (ns.map .int))) : ∃ c : Int, callK T (k + 1) "_law_cell_at" [.ref p, .int i] h = .ok (.int c) h := by
  by_cases hi : i < ns.length
  · refine ⟨ns[i], ?_⟩
    rw [callK_eq t__law_cell_at]
    refine (run_rt rfl ?_).trans gc_same
    simp [u_var, R__law_cell_at, F__law_cell_at, u_lenr hp, hi, ix_ro _ _ _ _ hp, at_nat]
  · refine ⟨0, ?_⟩
    rw [callK_eq t__law_cell_at]
    refine (run_rt rfl ?_).trans gc_same
    simp [u_var, R__law_cell_at, F__law_cell_at, u_lenr hp, hi]
theorem _law_pen_ok (k : Nat) (c : Int) (h : Hv) : ∃ pen, PenOk pen ∧ callK T (k + 1) "_law_pen" [.int c] h = .ok (.ref h.length) (hp h pen []) := by
  refine ⟨[.int c, .int (if (10 : Int) ^ 18 ≤ c then 1 else 0), .int 0, .int (c % 1000000007)], ⟨_, _, _, _, rfl, Int.emod_nonneg _ (by decide), Int.lt_trans (Int.emod_lt_of_pos _ (by decide)) (by decide)⟩, ?_⟩
  rw [callK_eq t__law_pen]
  have e : opPow (.int 10) (.int 18) h = .ok (.int (10 ^ 18)) h := by simp [opPow, big64]
  have := gc_ref (h := h) (h1 := h) (g := [.lst [.int c, .int (if (10 : Int) ^ 18 ≤ c then 1 else 0), .int 0, .int (c % 1000000007)]]) (i := 0) rfl (fun _ _ => .inl rfl) rfl rfl
  refine (run_rt rfl ?_).trans this
  simp [u_var, R__law_pen, F__law_pen, e, mod_ok]
theorem _law_draw_ok (k : Nat) (b : Int) (h0 : Hv) (pen : List D) (g : Hv) (hb : 0 < b) (hb1 : b < 2 ^ 60) (hpn : PenOk pen) :
    ∃ (r : Int) (pen' : List D), 0 ≤ r ∧ r < b ∧ PenOk pen' ∧ callK T (k + 1) "_law_draw" [.ref h0.length, .int b] (hp h0 pen g) = .ok (.int r) (hp h0 pen' g) := by
  obtain ⟨a, f, c, d, rfl, hd0, hd1⟩ := hpn
  have hbD : b.natAbs < bigD := Nat.lt_of_lt_of_le (show b.natAbs < 2 ^ 60 by omega) (Nat.pow_le_pow_right (by decide) (by decide))
  have s0 : ∀ (x y z w : Int) (d : D), setL (.ref h0.length) (.int 0) d (hp h0 [.int x, .int y, .int z, .int w] g) = some (hp h0 [d, .int y, .int z, .int w] g) := by
    intro x y z w d
    have := setL_ok (h := hp h0 [.int x, .int y, .int z, .int w] g) (k := 0) (d := d) (hp_get ..) (by simp)
    simpa using this
  have s2 : ∀ (x y z w : Int) (d : D), setL (.ref h0.length) (.int 2) d (hp h0 [.int x, .int y, .int z, .int w] g) = some (hp h0 [.int x, .int y, d, .int w] g) := by
    intro x y z w d
    have := setL_ok (h := hp h0 [.int x, .int y, .int z, .int w] g) (k := 2) (d := d) (hp_get ..) (by simp)
    simpa using this
  have gx : ∀ (ds : List D) (i : Int), opIx (.ref h0.length) (.int i) (hp h0 ds g) = om (atI ds i) (fun d => .ok d (hp h0 ds g)) .stuck := fun ds i => ix_ref _ _ _ _ (hp_get ..)
  by_cases h1 : f = 1 ∧ 0 < a
  · obtain ⟨rfl, h1⟩ := h1
    refine ⟨a % b, [.int (a / b), .int 1, .int c, .int d], Int.emod_nonneg _ (by omega), Int.emod_lt_of_pos _ hb, ⟨_, _, _, _, rfl, hd0, hd1⟩, ?_⟩
    rw [callK_eq t__law_draw]
    refine (run_rt rfl ?_).trans (gc_hp0 rfl rfl)
    simp [u_var, R__law_draw, F__law_draw, gx, h1, mod_ok hb, fdiv_ok hb hbD, s0]
  · refine ⟨(((d + 17) * (69621 + 2 * (c + 1)) % 2147483647) * ((d + 17) * (69621 + 2 * (c + 1)) % 2147483647) + 40503 * (c + 1) + 5) % 2147483629 * 48271 % 2147483647 / 32 % b, [.int a, .int f, .int (c + 1), .int d], Int.emod_nonneg _ (by omega), Int.emod_lt_of_pos _ hb, ⟨_, _, _, _, rfl, hd0, hd1⟩, ?_⟩
    · rw [callK_eq t__law_draw]
      refine (run_rt rfl ?_).trans (gc_hp0 rfl rfl)
      have m1 : ∀ (y : Int) (h : Hv), opMul (.int (d + 17)) (.int y) h = .ok (.int ((d + 17) * y)) h := fun y h => mul_s (by unfold big64; omega)
      have m2 : ∀ (y : Int) (h : Hv), opMul (.int 2) (.int y) h = .ok (.int (2 * y)) h := fun y h => mul_s (by unfold big64; omega)
      have m3 : ∀ (x y : Int) (h : Hv), opMul (.int (x % 2147483647)) (.int y) h = .ok (.int (x % 2147483647 * y)) h := fun x y h => mul_s (by unfold big64; omega)
      have m4 : ∀ (y : Int) (h : Hv), opMul (.int 40503) (.int y) h = .ok (.int (40503 * y)) h := fun y h => mul_s (by unfold big64; omega)
      have m5 : ∀ (y : Int) (h : Hv), opMul (.int y) (.int 48271) h = .ok (.int (y * 48271)) h := fun y h => mul_t (by unfold big64; omega)
      have d1 : ∀ (y : Int) (h : Hv), opFdiv (.int y) (.int 32) h = .ok (.int (y / 32)) h := fun y h => fdiv_ok (by omega) (Nat.lt_of_lt_of_le (show (32 : Int).natAbs < 2 ^ 60 by decide) (Nat.pow_le_pow_right (by decide) (by decide)))
      have o1 : ∀ (x : Int) (h : Hv), opMod (.int x) (.int 2147483647) h = .ok (.int (x % 2147483647)) h := fun x h => mod_ok (by decide)
      have o2 : ∀ (x : Int) (h : Hv), opMod (.int x) (.int 2147483629) h = .ok (.int (x % 2147483629)) h := fun x h => mod_ok (by decide)
      by_cases hf : f = 1
      · have ha : ¬ 0 < a := fun h2 => h1 ⟨hf, h2⟩
        subst hf
        simp [u_var, R__law_draw, F__law_draw, gx, ha, s2, m1, m2, m3, m4, m5, o1, o2, d1, mod_ok hb]
      · simp [u_var, R__law_draw, F__law_draw, gx, hf, s2, m1, m2, m3, m4, m5, o1, o2, d1, mod_ok hb]

@[simp] theorem g_at (g : Hv) (x : Ob) (g1 : Hv) : (g ++ x :: g1)[g.length]? = some x := by simp
@[simp] theorem g_set (g : Hv) (x y : Ob) (g1 : Hv) : (g ++ x :: g1).set g.length y = g ++ y :: g1 := by simp [List.set_append]
theorem last_at (h : Hv) (x : Ob) : (h ++ [x])[h.length]? = some x := by simp
theorem itE_l {C : Or} {env : Env} {h : Hv} {a : EF} {p : Nat} {ds : List D} (ha : a C env h = .ok (.ref p) h) (hp : h[p]? = some (.lst ds)) : itE a C env h = .ok (ds, [(p, ds)]) h := by
  simp only [itE, ha, bind_ok, seqOf, hp]
/-- a list comprehension whose elements are drawn -/
theorem lc_draw {α : Type} {C : Or} {env : Env} {tg : TF} {elt : EF} {h0 g : Hv} (P : α → Prop) (enc : α → D) : ∀ (xs : List D) (acc : List D) (pen : List D) (g1 : Hv),
    (∀ x ∈ xs, ∃ env1, (∀ hh, tg x env hh = some env1) ∧ ∀ pen g', PenOk pen → ∃ (y : α) (pen' : List D) (g2 : Hv), P y ∧ PenOk pen' ∧ elt C env1 (hp h0 pen g') = .ok (enc y) (hp h0 pen' (g' ++ g2))) →
    PenOk pen → acc.length + xs.length ≤ 1000000 →
    ∃ (ys : List α) (pen' : List D) (g2 : Hv), ys.length = xs.length ∧ (∀ y ∈ ys, P y) ∧ PenOk pen' ∧
      lcLoop C env tg (conF (.bl true)) elt [] (h0.length + 1 + g.length) xs (hp h0 pen (g ++ .lst acc :: g1)) = .ok () (hp h0 pen' (g ++ .lst (acc ++ ys.map enc) :: g2))
  | [], acc, pen, g1, _, hp0, _ => ⟨[], pen, g1, rfl, by simp, hp0, by simp [lcLoop]⟩
  | x :: xs, acc, pen, g1, hel, hp0, hl => by
    have hl' : acc.length + (xs.length + 1) ≤ 1000000 := hl
    obtain ⟨env1, e1, he⟩ := hel x (by simp)
    obtain ⟨y, pen1, g2, py, hp1, e2⟩ := he pen (g ++ .lst acc :: g1) hp0
    obtain ⟨ys, pen2, g3, l3, p3, hp3, e3⟩ := lc_draw P enc xs (acc ++ [enc y]) pen1 (g1 ++ g2) (fun x hx => hel x (by simp [hx])) hp1 (by simp; omega)
    refine ⟨y :: ys, pen2, g3, by simp [l3], by simpa using ⟨py, p3⟩, hp3, ?_⟩
    rw [lcLoop, if_pos (g_nil _), e1]
    simp only [u_con, bind_ok, e2]
    have e4 : (hp h0 pen1 (g ++ Ob.lst acc :: g1 ++ g2))[h0.length + 1 + g.length]? = some (.lst acc) := by
      rw [hp_get1, List.append_assoc]; simp
    simp only [e4]
    rw [if_pos (by unfold szl; omega), hp_set1, List.append_assoc, List.cons_append, g_set, e3]
    simp
theorem lc_drawn {α : Type} {C : Or} {env : Env} {it : IF} {tg : TF} {own : List Nat} {elt : EF} {h0 g : Hv} {pen : List D} (P : α → Prop) (enc : α → D) (xs : List D)
    (hit : it C env (hp h0 pen g) = .ok (xs, []) (hp h0 pen g))
    (hel : ∀ x ∈ xs, ∃ env1, (∀ hh, tg x (wipeD env own) hh = some env1) ∧ ∀ pen g', PenOk pen → ∃ (y : α) (pen' : List D) (g2 : Hv), P y ∧ PenOk pen' ∧ elt C env1 (hp h0 pen g') = .ok (enc y) (hp h0 pen' (g' ++ g2)))
    (hp0 : PenOk pen) (hl : xs.length ≤ 1000000) :
    ∃ (ys : List α) (pen' : List D) (g2 : Hv), ys.length = xs.length ∧ (∀ y ∈ ys, P y) ∧ PenOk pen' ∧
      lcF it tg own (conF (.bl true)) elt C env (hp h0 pen g) = .ok (.ref (h0.length + 1 + g.length)) (hp h0 pen' (g ++ .lst (ys.map enc) :: g2)) := by
  obtain ⟨ys, pen2, g3, l3, p3, hp3, e3⟩ := lc_draw (g := g) P enc xs [] pen [] hel hp0 (by simpa using hl)
  refine ⟨ys, pen2, g3, l3, p3, hp3, ?_⟩
  rw [lcF, hit]
  simp only [bind_ok, hp_app, hp_len]
  rw [e3]
  rfl
/-- a share: of a whole cut into M -/
def Sh (M : Nat) (q : Rat) : Prop := q.den ∣ M ∧ 0 ≤ q ∧ q ≤ 1
theorem bigM_le {n k : Nat} (h : n < 2 ^ k) (hk : k ≤ 8900) : n < bigD := Nat.lt_of_lt_of_le h (Nat.pow_le_pow_right (by decide) hk)
theorem sh_mk {w : Int} {s : Nat} (hs : 0 < s) (h0 : 0 ≤ w) (h1 : w ≤ s) : Sh s (mkRat w s) := by
  refine ⟨?_, ?_, ?_⟩
  · rw [Rat.den_mkRat, if_neg (by omega)]
    exact Nat.div_dvd_of_dvd (Nat.gcd_dvd_left ..)
  · rw [← Rat.num_nonneg, Rat.num_mkRat, if_neg (by omega)]
    exact Int.ediv_nonneg h0 (by omega)
  · rw [Rat.mkRat_eq_div, ← Rat.not_lt, Rat.lt_div_iff (by exact_mod_cast hs)]
    have : ((w : Int) : Rat) ≤ ((s : Int) : Rat) := Rat.intCast_le_intCast.2 h1
    rw [Rat.not_lt, Rat.one_mul]
    exact this
theorem mk_add (n m : Int) (M : Nat) (h : 0 < M) : mkRat n M + mkRat m M = mkRat (n + m) M := by
  rw [Rat.mkRat_add_mkRat _ _ (by omega) (by omega), ← Int.add_mul, Rat.mkRat_mul_right (by omega)]
theorem mk_self (s : Nat) (h : 0 < s) : mkRat (s : Int) s = 1 := by
  have := Rat.mkRat_mul_right (n := 1) (d := 1) (a := s) (by omega)
  rw [Int.one_mul, Nat.one_mul] at this
  rw [this]; rfl
theorem sum_mk : ∀ (ws : List Int) (s : Nat), 0 < s → (ws.map fun w => mkRat w s).sum = mkRat ws.sum s
  | [], s, _ => by simp
  | w :: ws, s, h => by rw [List.map_cons, List.sum_cons, List.sum_cons, sum_mk ws s h, mk_add _ _ _ h]
theorem _law_whole_ok (k : Nat) (n : Nat) (h0 : Hv) (pen : List D) (g : Hv) (hn : 0 < n) (hn1 : n ≤ 1000) (hpn : PenOk pen) :
    ∃ (s : Nat) (qs : List Rat) (pen' : List D), 0 < s ∧ s ≤ 8 * n + 1 ∧ qs.length = n ∧ (∀ q ∈ qs, Sh s q) ∧ qs.sum = 1 ∧ PenOk pen' ∧
      callK T (k + 3) "_law_whole" [.ref h0.length, .int n] (hp h0 pen g) = .ok (.tup (qs.map am)) (hp h0 pen' g) := by
  obtain ⟨ws, pen1, g1, l1, p1, hp1, e1⟩ := lc_drawn (C := callK T (k + 2)) (env := [some (.ref h0.length), some (.int n), none, none, none]) (it := it1F (varF 1)) (tg := nmT 3) (own := [3])
    (elt := binF opIx (lstF [(conF (.int 0)), (conF (.int 1)), (callF "_law_draw" [(varF 0), (conF (.int 4))]), (callF "_law_draw" [(varF 0), (conF (.int 9))])]) (callF "_law_draw" [(varF 0), (conF (.int 4))]))
    (h0 := h0) (g := g) (pen := pen) (fun w : Int => 0 ≤ w ∧ w ≤ 8) .int ((List.range n).map fun i => .int (i : Nat))
    (it1_ok (n := n) (by simp [u_var]) (by omega))
    (by
      intro x hx
      refine ⟨[some (.ref h0.length), some (.int n), none, some x, none], fun hh => by simp [wipeD], ?_⟩
      intro pen g' hp0
      obtain ⟨r1, pen1, a1, b1, hp1, e1⟩ := _law_draw_ok (k + 1) 4 h0 pen g' (by decide) (by decide) hp0
      obtain ⟨r2, pen2, a2, b2, hp2, e2⟩ := _law_draw_ok (k + 1) 9 h0 pen1 g' (by decide) (by decide) hp1
      obtain ⟨r3, pen3, a3, b3, hp3, e3⟩ := _law_draw_ok (k + 1) 4 h0 pen2 (g' ++ [.lst [.int 0, .int 1, .int r1, .int r2]]) (by decide) (by decide) hp2
      have hx := ix_ref (hp h0 pen3 (g' ++ [.lst [.int 0, .int 1, .int r1, .int r2]])) r3 (h0.length + 1 + g'.length) [.int 0, .int 1, .int r1, .int r2] (by rw [hp_get1]; simp)
      have hr : r3 = 0 ∨ r3 = 1 ∨ r3 = 2 ∨ r3 = 3 := by omega
      have fin : ∀ w : Int, atI [D.int 0, .int 1, .int r1, .int r2] r3 = some (.int w) → binF opIx (lstF [(conF (.int 0)), (conF (.int 1)), (callF "_law_draw" [(varF 0), (conF (.int 4))]), (callF "_law_draw" [(varF 0), (conF (.int 9))])]) (callF "_law_draw" [(varF 0), (conF (.int 4))]) (callK T (k + 2)) [some (.ref h0.length), some (.int n), none, some x, none] (hp h0 pen g') = .ok (.int w) (hp h0 pen3 (g' ++ [.lst [.int 0, .int 1, .int r1, .int r2]])) := by
        intro w hw
        rw [hw] at hx
        simp [u_var, e1, e2, e3, hx]
      rcases hr with rfl | rfl | rfl | rfl
      · exact ⟨0, pen3, _, by omega, hp3, fin 0 (by simp)⟩
      · exact ⟨1, pen3, _, by omega, hp3, fin 1 (by simp)⟩
      · exact ⟨r1, pen3, _, by omega, hp3, fin r1 (by simp)⟩
      · exact ⟨r2, pen3, _, by omega, hp3, fin r2 (by simp)⟩)
    hpn (by simp; omega)
  rw [List.length_map, List.length_range] at l1
  /- the tail, whatever the weights are -/
  have tail : ∀ (ws : List Int) (pen2 : List D), ws.length = n → (∀ w ∈ ws, 0 ≤ w ∧ w ≤ 8) → 0 < ws.sum → PenOk pen2 →
      ∃ (s : Nat) (qs : List Rat), 0 < s ∧ s ≤ 8 * n + 1 ∧ qs.length = n ∧ (∀ q ∈ qs, Sh s q) ∧ qs.sum = 1 ∧
      ∃ g2, seqS (retS (bltF bTuple [(lcF (itE (varF 2)) (nmT 4) [4] (conF (.bl true)) (callF "_law_made" [(varF 4), (bltF bSum [(varF 2)])]))])) nxS (callK T (k + 2)) [some (.ref h0.length), some (.int n), some (.ref (h0.length + 1 + g.length)), none, none] (hp h0 pen2 (g ++ .lst (ws.map .int) :: g1)) = .rt (.tup (qs.map am)) (hp h0 pen2 (g ++ g2)) := by
    intro ws pen2 hl hw hs hp2
    have hbd : ∀ ws : List Int, (∀ w ∈ ws, 0 ≤ w ∧ w ≤ 8) → ws.sum ≤ 8 * ws.length ∧ (∀ w ∈ ws, w ≤ ws.sum) ∧ 0 ≤ ws.sum := by
      intro ws
      induction ws with
      | nil => simp
      | cons w ws ih =>
        intro h
        obtain ⟨i1, i2, i3⟩ := ih (fun w hw => h w (by simp [hw]))
        have hw := h w (by simp)
        refine ⟨by simp; omega, ?_, by simp; omega⟩
        intro x hx
        rcases List.mem_cons.1 hx with rfl | hx
        · simp; omega
        · have := i2 x hx
          simp; omega
    obtain ⟨b1, b2, b3⟩ := hbd ws hw
    obtain ⟨s, es⟩ := Int.eq_ofNat_of_zero_le b3
    refine ⟨s, ws.map fun w => mkRat w s, by omega, by omega, by simpa using hl, ?_, by rw [sum_mk _ _ (by omega), es, mk_self _ (by omega)], ?_⟩
    · intro q hq
      obtain ⟨w, hw1, rfl⟩ := List.mem_map.1 hq
      exact sh_mk (by omega) (hw w hw1).1 (by have := b2 w hw1; omega)
    · have lk : ∀ g3 : Hv, (hp h0 pen2 (g ++ .lst (ws.map .int) :: g1 ++ g3))[h0.length + 1 + g.length]? = some (.lst (ws.map .int)) := by
        intro g3; rw [hp_get1, List.append_assoc]; simp
      have lk0 := lk []
      rw [List.append_nil] at lk0
      have e2 := lc_all (C := callK T (k + 2)) (env := [some (.ref h0.length), some (.int n), some (.ref (h0.length + 1 + g.length)), none, none]) (it := itE (varF 2)) (tg := nmT 4) (own := [4]) (elt := callF "_law_made" [(varF 4), (bltF bSum [(varF 2)])])
        (gs := [(h0.length + 1 + g.length, ws.map .int)]) (h := hp h0 pen2 (g ++ .lst (ws.map .int) :: g1)) (h1 := hp h0 pen2 (g ++ .lst (ws.map .int) :: g1)) ws .int (fun w => am (mkRat w s)) (fun w => [some (.ref h0.length), some (.int n), some (.ref (h0.length + 1 + g.length)), none, some (.int w)])
        (itE_l (by simp [u_var]) lk0)
        (by intro acc; simp only [guardsOk, List.all_cons, List.all_nil, Bool.and_true, hp_app, lk]; simp)
        (by intro w hw acc; simp [wipeD])
        (by
          intro w hw acc
          have em := _law_made_ok k w s (hp h0 pen2 (g ++ .lst (ws.map .int) :: g1 ++ [.lst acc])) (by omega) (bigM_le (k := 60) (by omega) (by decide))
          have es1 := u_sum (lk [.lst acc])
          rw [es] at es1
          simp only [List.append_assoc, List.cons_append] at em es1
          simp [u_var, em, es1])
        (by omega)
      refine ⟨.lst (ws.map .int) :: g1 ++ [.lst (ws.map fun w => am (mkRat w s))], ?_⟩
      have et := u_tuplel (p := (hp h0 pen2 (g ++ .lst (ws.map .int) :: g1)).length) (ds := ws.map fun w => am (mkRat w s)) (h := hp h0 pen2 (g ++ .lst (ws.map .int) :: g1) ++ [.lst (ws.map fun w => am (mkRat w s))]) (last_at _ _)
      simp only [u_seq, u_ret, u_blt, u_list, u_list0, e2, bind_ok, et, thenS_ok, nxt_rt]
      simp
  have hrun : ∀ (pen' : List D) (qs : List Rat) (g2 : Hv), PenOk pen' → F__law_whole (callK T (k + 2)) [some (.ref h0.length), some (.int n), none, none, none] (hp h0 pen g) = .rt (.tup (qs.map am)) (hp h0 pen' (g ++ g2)) → callK T (k + 3) "_law_whole" [.ref h0.length, .int n] (hp h0 pen g) = .ok (.tup (qs.map am)) (hp h0 pen' g) := by
    intro pen' qs g2 hp' e
    rw [callK_eq t__law_whole]
    refine (run_rt rfl e).trans (gc_hp ?_ hp'.grs)
    show D.grs _ = true
    clear e
    induction qs with
    | nil => rfl
    | cons q qs ih => simpa [D.grs] using ih
  have lk1 : (hp h0 pen1 (g ++ .lst (ws.map .int) :: g1))[h0.length + 1 + g.length]? = some (.lst (ws.map .int)) := by rw [hp_get1]; simp
  by_cases hz : ws.sum = 0
  · obtain ⟨r, pen2, r0, r1, hp2, e2⟩ := _law_draw_ok (k + 1) n h0 pen1 (g ++ .lst (ws.map .int) :: g1) (by omega) (by omega) hp1
    obtain ⟨r, rfl⟩ := Int.eq_ofNat_of_zero_le r0
    have hmem : ∀ w ∈ ws.set r 1, 0 ≤ w ∧ w ≤ 8 := by
      intro w hw
      rcases List.mem_or_eq_of_mem_set hw with h | rfl
      · exact p1 w h
      · omega
    have hpos : ∀ (ws : List Int) (r : Nat), (∀ w ∈ ws, 0 ≤ w) → r < ws.length → 0 < (ws.set r 1).sum := by
      intro ws
      induction ws with
      | nil => intro r _ h; simp at h
      | cons w ws ih =>
        intro r h hr
        have nn : ∀ ws : List Int, (∀ w ∈ ws, 0 ≤ w) → 0 ≤ ws.sum := by
          intro ws
          induction ws with
          | nil => simp
          | cons w ws ih => intro h; have := ih (fun w hw => h w (by simp [hw])); have := h w (by simp); simp; omega
        cases r with
        | zero => have := nn ws (fun w hw => h w (by simp [hw])); simp; omega
        | succ r => have := ih r (fun w hw => h w (by simp [hw])) (by simpa using hr); have := h w (by simp); simp; omega
    obtain ⟨s, qs, s0, s1, s2, s3, s4, g2, e3⟩ := tail (ws.set r 1) pen2 (by simpa using l1) hmem (hpos ws r (fun w hw => (p1 w hw).1) (by omega)) hp2
    refine ⟨s, qs, pen2, s0, s1, s2, s3, s4, hp2, hrun pen2 qs g2 hp2 ?_⟩
    have es := u_sum lk1
    rw [hz] at es
    have st := setL_ok (p := h0.length + 1 + g.length) (ds := ws.map D.int) (k := r) (d := .int 1) (h := hp h0 pen2 (g ++ .lst (ws.map .int) :: g1)) (by rw [hp_get1]; simp) (by simp; omega)
    rw [hp_set1, g_set] at st
    rw [List.map_set] at e3
    simp only [F__law_whole]
    rw [u_seq, u_asg, e1]
    simp only [thenS_ok, u_nm, List.length_cons, List.length_nil, Nat.reduceAdd, Nat.reduceLT, if_true, om_some, nxt_nx, List.set_cons_succ, List.set_cons_zero]
    rw [u_seq, u_if]
    simp only [u_bin, u_blt, u_list, u_list0, u_var, List.getElem?_cons_succ, List.getElem?_cons_zero, bind_ok, es, u_con, u_eqI, decide_true, thenS_ok, bm_bl, if_true, u_seq, u_setS, u_call, e2, st, om_some, u_nx, nxt_nx]
    simpa using e3
  · obtain ⟨s, qs, s0, s1, s2, s3, s4, g2, e3⟩ := tail ws pen1 l1 p1 (by
      have nn : ∀ ws : List Int, (∀ w ∈ ws, 0 ≤ w ∧ w ≤ 8) → 0 ≤ ws.sum := by
        intro ws
        induction ws with
        | nil => simp
        | cons w ws ih => intro h; have := ih (fun w hw => h w (by simp [hw])); have := h w (by simp); simp; omega
      have := nn ws p1
      omega) hp1
    refine ⟨s, qs, pen1, s0, s1, s2, s3, s4, hp1, hrun pen1 qs g2 hp1 ?_⟩
    have es := u_sum lk1
    simp only [F__law_whole]
    rw [u_seq, u_asg, e1]
    simp only [thenS_ok, u_nm, List.length_cons, List.length_nil, Nat.reduceAdd, Nat.reduceLT, if_true, om_some, nxt_nx, List.set_cons_succ, List.set_cons_zero]
    rw [u_seq, u_if]
    simp only [u_bin, u_blt, u_list, u_list0, u_var, List.getElem?_cons_succ, List.getElem?_cons_zero, bind_ok, es, u_con, u_eqI, hz, decide_false, thenS_ok, bm_bl, u_nx, nxt_nx]
    simpa using e3

/-! shares of a whole -/
theorem Sh.fit {M : Nat} {q : Rat} (h : Sh M q) (h0 : 0 < M) (h1 : M < 2 ^ 4400) : Fit q := by
  have hd : q.den < 2 ^ 4400 := Nat.lt_of_le_of_lt (Nat.le_of_dvd h0 h.1) h1
  have hd' : q.den < bigM := Nat.lt_of_lt_of_le hd (Nat.pow_le_pow_right (by decide) (by decide))
  refine ⟨?_, hd, hd'⟩
  have hn : 0 ≤ q.num := Rat.num_nonneg.2 h.2.1
  have h2 : q.num ≤ q.den := by
    have := h.2.2
    rw [Rat.le_iff] at this
    simpa using this
  omega
theorem den_mul_dvd (a b : Rat) : (a * b).den ∣ a.den * b.den := by
  rw [Rat.mul_def', Rat.den_mkRat]
  split
  · exact Nat.one_dvd _
  · exact Nat.div_dvd_of_dvd (Nat.gcd_dvd_left ..)
theorem den_mk_dvd (n : Int) (d : Nat) : (mkRat n d).den ∣ d := by
  rw [Rat.den_mkRat]
  split
  · rename_i h; subst h; exact Nat.dvd_zero _
  · exact Nat.div_dvd_of_dvd (Nat.gcd_dvd_left ..)
/-- both over M -/
theorem over {M : Nat} (h0 : 0 < M) {q : Rat} (h : q.den ∣ M) : ∃ n : Int, q = mkRat n M := by
  obtain ⟨c, rfl⟩ := h
  have hc : c ≠ 0 := by intro h; subst h; simp at h0
  refine ⟨q.num * c, ?_⟩
  rw [Rat.mkRat_mul_right hc, Rat.mkRat_self]
theorem den_add_dvd {M : Nat} (h0 : 0 < M) {a b : Rat} (ha : a.den ∣ M) (hb : b.den ∣ M) : (a + b).den ∣ M := by
  obtain ⟨n, rfl⟩ := over h0 ha
  obtain ⟨m, rfl⟩ := over h0 hb
  have : mkRat n M + mkRat m M = mkRat (n + m) M := by
    rw [Rat.mkRat_add_mkRat _ _ (by omega) (by omega), ← Int.add_mul, Rat.mkRat_mul_right (by omega)]
  rw [this]
  exact den_mk_dvd _ _
theorem Sh.mul {M W : Nat} {a b : Rat} (ha : Sh M a) (hb : Sh W b) : Sh (M * W) (a * b) := by
  refine ⟨Nat.dvd_trans (den_mul_dvd a b) (Nat.mul_dvd_mul ha.1 hb.1), Rat.mul_nonneg ha.2.1 hb.2.1, ?_⟩
  have := Rat.mul_le_mul_of_nonneg_left hb.2.2 ha.2.1
  have h1 := ha.2.2
  grind
theorem Sh.compl {W : Nat} {p : Rat} (h0 : 0 < W) (h : Sh W p) : Sh W (1 - p) := by
  refine ⟨?_, ?_, ?_⟩
  · rw [Rat.sub_eq_add_neg]
    exact den_add_dvd h0 (Nat.one_dvd _) (by simpa using h.1)
  · have := h.2.2; grind
  · have := h.2.1; grind
theorem Sh.borne {M W : Nat} {s o p : Rat} (h0 : 0 < M) (h1 : 0 < W) (hs : Sh M s) (ho : Sh M o) (hp : Sh W p) : Sh (M * W) (s * (1 - p) + o * p) := by
  have a := hs.mul (hp.compl h1)
  have b := ho.mul hp
  refine ⟨den_add_dvd (Nat.mul_pos h0 h1) a.1 b.1, ?_, ?_⟩
  · have := a.2.1; have := b.2.1; grind
  · have h2 := Rat.mul_le_mul_of_nonneg_right hs.2.2 (hp.compl h1).2.1
    have h3 := Rat.mul_le_mul_of_nonneg_right ho.2.2 hp.2.1
    grind
theorem Sh.mono {M N : Nat} {q : Rat} (h : Sh M q) (hd : M ∣ N) : Sh N q := ⟨Nat.dvd_trans h.1 hd, h.2⟩
/-- a share that is not beyond all bounds -/
def Sc (M : Nat) (q : Rat) : Prop := q.den ∣ M ∧ 0 ≤ q ∧ q ≤ ((2 ^ 64 : Nat) : Rat)
theorem fit_le {M n : Nat} {q : Rat} (hd : q.den ∣ M) (h0 : 0 ≤ q) (h1 : q ≤ (n : Rat)) (hM : 0 < M) (hM1 : M < 2 ^ 4400) (hn : n < 2 ^ 4400) : Fit q := by
  have hd1 : q.den < 2 ^ 4400 := Nat.lt_of_le_of_lt (Nat.le_of_dvd hM hd) hM1
  have hd' : q.den < bigM := Nat.lt_of_lt_of_le hd1 (Nat.pow_le_pow_right (by decide) (by decide))
  refine ⟨?_, hd1, hd'⟩
  have hn0 : 0 ≤ q.num := Rat.num_nonneg.2 h0
  have h2 : q.num ≤ n * q.den := by
    rw [Rat.le_iff] at h1
    simpa using h1
  have h3 : q.num.natAbs ≤ n * q.den := by
    have : ((n * q.den : Nat) : Int) = n * q.den := by simp
    omega
  refine Nat.lt_of_le_of_lt h3 (Nat.lt_of_lt_of_le (Nat.mul_lt_mul'' hn hd1) ?_)
  rw [← Nat.pow_add]
  exact Nat.pow_le_pow_right (by decide) (by decide)
theorem Sc.fit {M : Nat} {q : Rat} (h : Sc M q) (h0 : 0 < M) (h1 : M < 2 ^ 4400) : Fit q := fit_le h.1 h.2.1 h.2.2 h0 h1 (Nat.pow_lt_pow_right (by decide) (by decide))
theorem Sc.mul {M W : Nat} {a b : Rat} (ha : Sc M a) (hb : Sh W b) : Sc (M * W) (a * b) := by
  refine ⟨Nat.dvd_trans (den_mul_dvd a b) (Nat.mul_dvd_mul ha.1 hb.1), Rat.mul_nonneg ha.2.1 hb.2.1, ?_⟩
  have := Rat.mul_le_mul_of_nonneg_left hb.2.2 ha.2.1
  have h1 := ha.2.2
  grind
theorem Sc.mono {M N : Nat} {q : Rat} (h : Sc M q) (hd : M ∣ N) : Sc N q := ⟨Nat.dvd_trans h.1 hd, h.2⟩
theorem Sh.sc {M : Nat} {q : Rat} (h : Sh M q) : Sc M q := ⟨h.1, h.2.1, by
  have h2 := h.2.2
  have : (1 : Rat) ≤ ((2 ^ 64 : Nat) : Rat) := by decide +kernel
  grind⟩
/-! loads -/
structure Ld where
  k : Nat
  n : Int
  sh : List Rat
def shD (qs : List Rat) : D := .tup (qs.map am)
def ldD (l : Ld) : D := .tup [.int l.k, .int l.n, shD l.sh]
def lsD (ls : List Ld) : D := .tup (ls.map ldD)
def wsD (ws : List Int) : D := .tup (ws.map .int)
theorem shD_gr (qs) : (shD qs).gr = true := by
  show D.grs _ = true
  induction qs with
  | nil => rfl
  | cons q qs ih => simpa [D.grs] using ih
@[simp] theorem ix_l0 (l : Ld) (h : Hv) : opIx (ldD l) (.int 0) h = .ok (.int l.k) h := by simp [ldD]
@[simp] theorem ix_l1 (l : Ld) (h : Hv) : opIx (ldD l) (.int 1) h = .ok (.int l.n) h := by simp [ldD]
@[simp] theorem ix_l2 (l : Ld) (h : Hv) : opIx (ldD l) (.int 2) h = .ok (shD l.sh) h := by simp [ldD]
@[simp] theorem len_ls (ls : List Ld) (h : Hv) : bLen [lsD ls] h = .ok (.int ls.length) h := by simp [lsD]
theorem cut_lo {α : Type} (xs : List α) (a : Nat) : cutD xs none (some (a : Int)) = xs.take a := by
  simp [cutD, HT.sIx_none, HT.sIx_nat]
theorem cut_hi {α : Type} (xs : List α) (a : Nat) : cutD xs (some (a : Int)) none = xs.drop a := by
  simp only [cutD, HT.sIx_none, HT.sIx_nat]
  rcases Nat.le_total a xs.length with h | h
  · rw [Nat.min_eq_left h, List.take_of_length_le (by simp)]
  · rw [Nat.min_eq_right h, List.drop_of_length_le h]; simp
def lessL (ls : List Ld) (a : Nat) (l : Ld) (m : Int) : List Ld := ls.set a ⟨l.k, l.n - m, l.sh⟩
def borne (p : Rat) (os ss : List Rat) : List Rat := (ss.zip os).map fun x => x.1 * (1 - p) + x.2 * p

def trD (P K B : Int) (hold : List Rat) (x y : Int) : D := .tup [.int P, .int K, .int B, shD hold, .int x, .int y]
def stD (ls : List Ld) (hs : List Rat) (nums : List Int) : D := .tup [lsD ls, shD hs, wsD nums]
/-- what lies on the beasts, and the beasts, by what each is worth -/
def worth (B : Int) (ls : List Ld) (ws : List Int) (w : Int) : Int := (ls.map fun l => l.n * ws.getD l.k 0).sum + B * w
def thD (a : Nat) (m : Int) (ws : List Int) : D := .tup [.str "throw", .int a, .int m, wsD ws]
def spD (a : Nat) (m : Int) : D := .tup [.str "spoil", .int a, .int m]
def thrL (p : Rat) (os : List Rat) (ls : List Ld) : List Ld := ls.map fun l => ⟨l.k, l.n, borne p os l.sh⟩

theorem eq_strs {a b : Str} {v : Bool} (ha : PyData.strOk a = true) (hb : PyData.strOk b = true) (e : (a == b) = v) (neg : Bool) (h : Hv) : opEqD neg (.str a) (.str b) h = .ok (.bl (if neg then !v else v)) h := by
  have : PyData.eqv (.str a) (.str b) = v := by rw [← e]; simp only [PyData.eqv]
  cases neg <;> simp [opEqD, toP, ha, hb, this]
theorem tp (h : Hv) : opEqD false (.str "throw") (.str "pool") h = .ok (.bl false) h := eq_strs (v := false) (by decide +kernel) (by decide +kernel) (by decide +kernel) false h
theorem tb (h : Hv) : opEqD false (.str "throw") (.str "bring") h = .ok (.bl false) h := eq_strs (v := false) (by decide +kernel) (by decide +kernel) (by decide +kernel) false h
theorem tt (h : Hv) : opEqD false (.str "throw") (.str "trade") h = .ok (.bl false) h := eq_strs (v := false) (by decide +kernel) (by decide +kernel) (by decide +kernel) false h
theorem ts (h : Hv) : opEqD false (.str "throw") (.str "swap") h = .ok (.bl false) h := eq_strs (v := false) (by decide +kernel) (by decide +kernel) (by decide +kernel) false h
theorem sp (h : Hv) : opEqD false (.str "spoil") (.str "pool") h = .ok (.bl false) h := eq_strs (v := false) (by decide +kernel) (by decide +kernel) (by decide +kernel) false h
theorem sb (h : Hv) : opEqD false (.str "spoil") (.str "bring") h = .ok (.bl false) h := eq_strs (v := false) (by decide +kernel) (by decide +kernel) (by decide +kernel) false h
theorem st (h : Hv) : opEqD false (.str "spoil") (.str "trade") h = .ok (.bl false) h := eq_strs (v := false) (by decide +kernel) (by decide +kernel) (by decide +kernel) false h
theorem ss (h : Hv) : opEqD false (.str "spoil") (.str "swap") h = .ok (.bl false) h := eq_strs (v := false) (by decide +kernel) (by decide +kernel) (by decide +kernel) false h
/-! deeds behind another -/
def Step (tr s d s' : D) : Prop := ∀ k h, callK T (k + 8) "can_do" [s, d] h = .ok (.bl true) h ∧ callK T (k + 8) "done" [tr, s, d] h = .ok s' h
inductive Run (tr : D) : D → List D → List D → Prop
  | nil (s : D) : Run tr s [] []
  | cons {s d s' : D} {ds sts : List D} : Step tr s d s' → Run tr s' ds sts → Run tr s (d :: ds) (s' :: sts)
def fin (s : D) : List D → D
  | [] => s
  | s' :: sts => fin s' sts
theorem Run.len {tr s : D} {ds sts : List D} (r : Run tr s ds sts) : sts.length = ds.length := by
  induction r with
  | nil => rfl
  | cons _ _ ih => simp [ih]
theorem Run.take {tr : D} : ∀ (m : Nat) {s : D} {ds sts : List D}, Run tr s ds sts → Run tr s (ds.take m) (sts.take m)
  | 0, s, ds, sts, _ => by simpa using Run.nil s
  | m + 1, s, _, _, .nil _ => by simpa using Run.nil s
  | m + 1, s, _, _, .cons a r => by simpa using Run.cons a (r.take m)
section
variable {P K B x y : Int} {hold : List Rat} {ls : List Ld} {ds sts : List D}
def bookD (tr : D) (ls : List Ld) (ds : List D) : D := .tup [tr, lsD ls, .tup ds]
@[simp] theorem is_non (neg : Bool) (h : Hv) : opIs neg .non .non h = .ok (.bl (!neg)) h := by cases neg <;> rfl
end

theorem one_num (w : Nat) (hw : 0 < w) : (mkRat 1 w).num = 1 ∧ (mkRat 1 w).den = w := by
  rw [Rat.num_mkRat, Rat.den_mkRat, if_neg (by omega), if_neg (by omega)]
  simp
/-- whose a pool is, partner by partner -/
def plS (n m : Int) (ss ts : List Rat) : List Rat := (ss.zip ts).map fun x => ((n : Rat) * x.1 + (m : Rat) * x.2) * mkRat 1 (n + m).toNat

/-- shares behind a sale -/
def soS (p q : Nat) (part : Rat) (ss : List Rat) : List Rat := (ss.set p (ss.getD p 0 - ss.getD p 0 * part)).set q (ss.getD q 0 + ss.getD p 0 * part)
theorem getD_mem {ss : List Rat} {p : Nat} (hp : p < ss.length) : ss.getD p 0 ∈ ss := by
  rw [List.getD_eq_getElem?_getD, List.getElem?_eq_getElem hp]
  exact List.getElem_mem hp
/-! the other deeds -/
def brD (p k : Nat) (n : Int) : D := .tup [.str "bring", .int p, .int k, .int n]
def poD (a b : Nat) : D := .tup [.str "pool", .int a, .int b]
def swD (a : Nat) (g : Int) (k : Nat) (n : Int) : D := .tup [.str "swap", .int a, .int g, .int k, .int n]
def traD (no : Int) (a : Nat) (g : Int) (k : Nat) (n : Int) : D := .tup [.str "trade", .int no, .int a, .int g, .int k, .int n]
def slD (p q : Nat) (part : Rat) : D := .tup [.str "sell", .int p, .int q, am part]
theorem wq {a b : Str} {v : Bool} (ha : PyData.strOk a = true := by decide +kernel) (hb : PyData.strOk b = true := by decide +kernel) (e : (a == b) = v := by decide +kernel) (h : Hv) : opEqD false (.str a) (.str b) h = .ok (.bl v) h := eq_strs ha hb e false h
theorem bb (h : Hv) : opEqD false (.str "bring") (.str "bring") h = .ok (.bl true) h := wq (h := h)
theorem bs (h : Hv) : opEqD false (.str "bring") (.str "swap") h = .ok (.bl false) h := wq (h := h)
theorem ww (h : Hv) : opEqD false (.str "swap") (.str "swap") h = .ok (.bl true) h := wq (h := h)
theorem rt (h : Hv) : opEqD false (.str "trade") (.str "trade") h = .ok (.bl true) h := wq (h := h)
section
variable (k : Nat) (ls : List Ld) (hs : List Rat) (nums : List Int) (h : Hv)
variable (P K B x y : Int) (hold : List Rat)
end

/-- whose a load is that one of P brings -/
def brS (P p : Nat) : List Rat := (List.range P).map fun i => if i = p then 1 else 0
section
variable (k : Nat) (ls : List Ld) (hs : List Rat) (nums : List Int) (h : Hv)
def solL (p q : Nat) (part : Rat) (ls : List Ld) : List Ld := ls.map fun l => ⟨l.k, l.n, soS p q part l.sh⟩
end
/-! deeds and states of their own kind -/
inductive Dd where
  | bring (p k : Nat) (n : Int)
  | pool (a b : Nat)
  | swap (a : Nat) (g : Int) (k : Nat) (n : Int)
  | trade (no : Int) (a : Nat) (g : Int) (k : Nat) (n : Int)
  | spoil (a : Nat) (n : Int)
  | throw (a : Nat) (n : Int) (ws : List Int) (w : Int)
  | sell (p q : Nat) (part : Rat)
structure Sta where
  ls : List Ld
  hs : List Rat
  nums : List Int
def Dd.d : Dd → D
  | .bring p k n => brD p k n
  | .pool a b => poD a b
  | .swap a g k n => swD a g k n
  | .trade no a g k n => traD no a g k n
  | .spoil a n => spD a n
  | .throw a n ws w => thD a n (ws ++ [w])
  | .sell p q part => slD p q part
def Sta.d (s : Sta) : D := stD s.ls s.hs s.nums
def Ld.no : Ld := ⟨0, 0, []⟩
def at_ (ls : List Ld) (a : Nat) : Ld := ls.getD a Ld.no
/-- what a throw costs -/
def cost (B : Int) (ls : List Ld) (a : Nat) (n : Int) (ws : List Int) (w : Int) : Rat := mkRat (n * ws.getD (at_ ls a).k 0) (worth B ls ws w).toNat
def after1 (P : Nat) (B : Int) (s : Sta) : Dd → Sta
  | .bring p k n => ⟨s.ls ++ [⟨k, n, brS P p⟩], s.hs, s.nums⟩
  | .pool a b => ⟨lessL (lessL s.ls a (at_ s.ls a) (at_ s.ls a).n) b (at_ s.ls b) (at_ s.ls b).n ++ [⟨(at_ s.ls a).k, (at_ s.ls a).n + (at_ s.ls b).n, plS (at_ s.ls a).n (at_ s.ls b).n (at_ s.ls a).sh (at_ s.ls b).sh⟩], s.hs, s.nums⟩
  | .swap a g k n => ⟨lessL s.ls a (at_ s.ls a) g ++ [⟨k, n, (at_ s.ls a).sh⟩], s.hs, s.nums⟩
  | .trade no a g k n => ⟨lessL s.ls a (at_ s.ls a) g ++ [⟨k, n, (at_ s.ls a).sh⟩], s.hs, s.nums ++ [no]⟩
  | .spoil a n => ⟨lessL s.ls a (at_ s.ls a) n, s.hs, s.nums⟩
  | .throw a n ws w => ⟨thrL (cost B s.ls a n ws w) (at_ s.ls a).sh (lessL s.ls a (at_ s.ls a) n), borne (cost B s.ls a n ws w) (at_ s.ls a).sh s.hs, s.nums⟩
  | .sell p q part => ⟨solL p q part s.ls, soS p q part s.hs, s.nums⟩

theorem mulb {a b A B : Int} (a0 : 0 ≤ a) (a1 : a ≤ A) (b0 : 0 ≤ b) (b1 : b ≤ B) : 0 ≤ a * b ∧ a * b ≤ A * B :=
  ⟨Int.mul_nonneg a0 b0, Int.mul_le_mul a1 b1 b0 (by omega)⟩
/-- a share over M, not beyond 2^t -/
def Sq2 (t M : Nat) (q : Rat) : Prop := q.den ∣ M ∧ 0 ≤ q ∧ q ≤ ((2 ^ t : Nat) : Rat)
theorem natle {a b : Nat} (h : a ≤ b) : (a : Rat) ≤ (b : Rat) := by exact_mod_cast h
theorem Sq2.sc {t M : Nat} {q : Rat} (h : Sq2 t M q) (ht : t ≤ 64) : Sc M q := ⟨h.1, h.2.1, by
  have := natle (Nat.pow_le_pow_right (show 0 < 2 by decide) ht)
  have := h.2.2
  grind⟩
theorem Sq2.mono {t u M N : Nat} {q : Rat} (h : Sq2 t M q) (hd : M ∣ N) (ht : t ≤ u) : Sq2 u N q := ⟨Nat.dvd_trans h.1 hd, h.2.1, by
  have := natle (Nat.pow_le_pow_right (show 0 < 2 by decide) ht)
  have := h.2.2
  grind⟩
theorem Sq2.mul {t M W : Nat} {a b : Rat} (ha : Sq2 t M a) (hb : Sh W b) : Sq2 t (M * W) (a * b) := by
  refine ⟨Nat.dvd_trans (den_mul_dvd a b) (Nat.mul_dvd_mul ha.1 hb.1), Rat.mul_nonneg ha.2.1 hb.2.1, ?_⟩
  have := Rat.mul_le_mul_of_nonneg_left hb.2.2 ha.2.1
  have h1 := ha.2.2
  grind
theorem Sq2.borne {t M W : Nat} {s o p : Rat} (h0 : 0 < M) (h1 : 0 < W) (hs : Sq2 t M s) (ho : Sq2 t M o) (hp : Sh W p) : Sq2 t (M * W) (s * (1 - p) + o * p) := by
  have a := hs.mul (hp.compl h1)
  have b := ho.mul hp
  refine ⟨den_add_dvd (Nat.mul_pos h0 h1) a.1 b.1, ?_, ?_⟩
  · have := a.2.1; have := b.2.1; grind
  · have h2 := Rat.mul_le_mul_of_nonneg_right hs.2.2 (hp.compl h1).2.1
    have h3 := Rat.mul_le_mul_of_nonneg_right ho.2.2 hp.2.1
    generalize ((2 ^ t : Nat) : Rat) = c at *
    grind
theorem Sq2.add {t M : Nat} {a b : Rat} (h0 : 0 < M) (ha : Sq2 t M a) (hb : Sq2 t M b) : Sq2 (t + 1) M (a + b) := by
  refine ⟨den_add_dvd h0 ha.1 hb.1, ?_, ?_⟩
  · have := ha.2.1; have := hb.2.1; grind
  · have e : ((2 ^ (t + 1) : Nat) : Rat) = ((2 ^ t : Nat) : Rat) + ((2 ^ t : Nat) : Rat) := by
      rw [Nat.pow_succ, Nat.mul_two, Rat.natCast_add]
    rw [e]
    have := ha.2.2; have := hb.2.2
    grind
theorem Sh.sq {M : Nat} {q : Rat} (h : Sh M q) (t : Nat) : Sq2 t M q := ⟨h.1, h.2.1, by
  have := natle (Nat.one_le_two_pow (n := t))
  have := h.2.2
  grind⟩
theorem Sq2.pool {t M : Nat} {n m : Int} {a b : Rat} (hM : 0 < M) (hn : 0 ≤ n) (hm : 0 ≤ m) (hnm : 0 < n + m) (ha : Sq2 t M a) (hb : Sq2 t M b) : Sq2 t (M * (n + m).toNat) (((n : Rat) * a + (m : Rat) * b) * mkRat 1 (n + m).toNat) := by
  obtain ⟨w, ew⟩ := Int.eq_ofNat_of_zero_le (a := n + m) (by omega)
  have w0 : 0 < w := by omega
  obtain ⟨i, rfl⟩ := Int.eq_ofNat_of_zero_le hn
  obtain ⟨j, rfl⟩ := Int.eq_ofNat_of_zero_le hm
  have ew' : ((i : Int) + (j : Int)).toNat = w := by omega
  rw [ew']
  obtain ⟨e1, e2⟩ := one_num w w0
  have di : (((i : Int) : Rat) * a).den ∣ M := by
    have := den_mul_dvd ((i : Int) : Rat) a
    rw [Rat.den_intCast, Nat.one_mul] at this
    exact Nat.dvd_trans this ha.1
  have dj : (((j : Int) : Rat) * b).den ∣ M := by
    have := den_mul_dvd ((j : Int) : Rat) b
    rw [Rat.den_intCast, Nat.one_mul] at this
    exact Nat.dvd_trans this hb.1
  have i0 : (0 : Rat) ≤ ((i : Int) : Rat) := by exact_mod_cast hn
  have j0 : (0 : Rat) ≤ ((j : Int) : Rat) := by exact_mod_cast hm
  have inv0 : 0 ≤ mkRat 1 w := by rw [← Rat.num_nonneg, e1]; decide
  have p0 : 0 ≤ ((i : Int) : Rat) * a + ((j : Int) : Rat) * b := by
    have := Rat.mul_nonneg i0 ha.2.1
    have := Rat.mul_nonneg j0 hb.2.1
    grind
  refine ⟨?_, Rat.mul_nonneg p0 inv0, ?_⟩
  · have := den_mul_dvd (((i : Int) : Rat) * a + ((j : Int) : Rat) * b) (mkRat 1 w)
    rw [e2] at this
    exact Nat.dvd_trans this (Nat.mul_dvd_mul (den_add_dvd hM di dj) (Nat.dvd_refl _))
  · have u1 := Rat.mul_le_mul_of_nonneg_left ha.2.2 i0
    have u2 := Rat.mul_le_mul_of_nonneg_left hb.2.2 j0
    have ww : ((w : Nat) : Rat) * mkRat 1 w = 1 := by
      rw [Rat.mkRat_eq_div]
      have : ((w : Nat) : Rat) ≠ 0 := by exact_mod_cast Nat.ne_of_gt w0
      grind
    have wsum : ((i : Int) : Rat) + ((j : Int) : Rat) = ((w : Nat) : Rat) := by
      have : (((i : Int) + (j : Int) : Int) : Rat) = ((w : Int) : Rat) := by rw [ew]
      rw [Rat.intCast_add] at this
      exact this
    generalize ((2 ^ t : Nat) : Rat) = c at *
    have u3 : ((i : Int) : Rat) * a + ((j : Int) : Rat) * b ≤ ((w : Nat) : Rat) * c := by
      rw [← wsum]; grind
    have u4 := Rat.mul_le_mul_of_nonneg_right u3 inv0
    have u5 : ((w : Nat) : Rat) * c * mkRat 1 w = c := by
      have : ((w : Nat) : Rat) * c * mkRat 1 w = c * (((w : Nat) : Rat) * mkRat 1 w) := by grind
      rw [this, ww, Rat.mul_one]
    rw [u5] at u4
    exact u4
/-! what holds of a state behind t deeds -/
def tot (ls : List Ld) : Int := (ls.map fun l => l.n).sum
structure Good (P K t M : Nat) (s : Sta) : Prop where
  len : s.ls.length ≤ 4 + t
  kd : ∀ l ∈ s.ls, l.k < K
  nn : ∀ l ∈ s.ls, 0 ≤ l.n
  tot : tot s.ls ≤ (4 + t) * 2 ^ 131
  sh : ∀ l ∈ s.ls, l.sh.length = P ∧ ∀ q ∈ l.sh, Sq2 t M q
  hs : s.hs.length = P ∧ ∀ q ∈ s.hs, Sq2 t M q
  nums : s.nums.length ≤ t
  M0 : 0 < M
  M1 : M < 2 ^ (60 + 160 * t)
def Can (P K : Nat) (s : Sta) : Dd → Prop
  | .bring p k n => p < P ∧ k < K ∧ 1 ≤ n ∧ n < 2 ^ 131
  | .pool a b => a ≠ b ∧ a < s.ls.length ∧ b < s.ls.length ∧ 1 ≤ (at_ s.ls a).n ∧ 1 ≤ (at_ s.ls b).n ∧ (at_ s.ls a).k = (at_ s.ls b).k
  | .swap a g k n => a < s.ls.length ∧ 1 ≤ g ∧ g ≤ (at_ s.ls a).n ∧ k < K ∧ (at_ s.ls a).k ≠ k ∧ 1 ≤ n ∧ n < 2 ^ 131
  | .trade no a g k n => no ∉ s.nums ∧ a < s.ls.length ∧ 1 ≤ g ∧ g ≤ (at_ s.ls a).n ∧ k < K ∧ (at_ s.ls a).k ≠ k ∧ 1 ≤ n ∧ n < 2 ^ 131
  | .spoil a n => a < s.ls.length ∧ 1 ≤ n ∧ n ≤ (at_ s.ls a).n
  | .throw a n ws w => a < s.ls.length ∧ 1 ≤ n ∧ n ≤ (at_ s.ls a).n ∧ ws.length = K ∧ (∀ v ∈ ws, 1 ≤ v ∧ v ≤ 99) ∧ 1 ≤ w ∧ w ≤ 99
  | .sell p q part => p ≠ q ∧ p < P ∧ q < P ∧ ∃ N, 0 < N ∧ N ≤ 12 ∧ Sh N part
theorem at_some {ls : List Ld} {a : Nat} (h : a < ls.length) : ls[a]? = some (at_ ls a) := by
  rw [at_, List.getD_eq_getElem?_getD, List.getElem?_eq_getElem h]; rfl
theorem at_mem {ls : List Ld} {a : Nat} (h : a < ls.length) : at_ ls a ∈ ls := List.mem_of_getElem? (at_some h)
theorem mem_less {ls : List Ld} {a : Nat} {l : Ld} {m : Int} {x : Ld} (h : x ∈ lessL ls a l m) : x ∈ ls ∨ x = ⟨l.k, l.n - m, l.sh⟩ := List.mem_or_eq_of_mem_set h
theorem sum_set : ∀ (ns : List Int) (i : Nat) (x : Int) (h : i < ns.length), (ns.set i x).sum = ns.sum - ns[i] + x
  | n :: ns, 0, x, h => by simp; omega
  | n :: ns, i + 1, x, h => by
    have := sum_set ns i x (by simpa using h)
    simp [this]; omega
theorem tot_less {ls : List Ld} {a : Nat} {m : Int} (h : a < ls.length) : tot (lessL ls a (at_ ls a) m) = tot ls - m := by
  have e : (lessL ls a (at_ ls a) m).map (fun l => l.n) = (ls.map fun l => l.n).set a ((at_ ls a).n - m) := by simp [lessL]
  rw [tot, e, sum_set _ _ _ (by simpa using h)]
  have e2 : (ls.map fun l => l.n)[a]'(by simpa using h) = (at_ ls a).n := by
    have := at_some h
    rw [List.getElem?_eq_getElem h] at this
    rw [List.getElem_map, Option.some.inj this]
  rw [e2]
  show tot ls - _ + _ = _
  omega
theorem tot_app (ls : List Ld) (l : Ld) : tot (ls ++ [l]) = tot ls + l.n := by simp [tot]
theorem tot_nn {ls : List Ld} (h : ∀ l ∈ ls, 0 ≤ l.n) : 0 ≤ tot ls ∧ ∀ l ∈ ls, l.n ≤ tot ls := by
  induction ls with
  | nil => simp [tot]
  | cons a ls ih =>
    obtain ⟨i1, i2⟩ := ih (fun l hl => h l (by simp [hl]))
    have := h a (by simp)
    have e : tot (a :: ls) = a.n + tot ls := by simp [tot]
    refine ⟨by omega, fun l hl => ?_⟩
    rcases List.mem_cons.1 hl with rfl | hl
    · omega
    · have := i2 l hl; omega
theorem worth_bd {B : Int} {K : Nat} {ws : List Int} {w : Int} (hB : 1 ≤ B ∧ B ≤ 20) (hws : ws.length = K) (hv : ∀ v ∈ ws, 1 ≤ v ∧ v ≤ 99) (hw : 1 ≤ w ∧ w ≤ 99) : ∀ (ls : List Ld), (∀ l ∈ ls, l.k < K) → (∀ l ∈ ls, 0 ≤ l.n) →
    0 ≤ (ls.map fun l => l.n * ws.getD l.k 0).sum ∧ (ls.map fun l => l.n * ws.getD l.k 0).sum ≤ 99 * tot ls ∧ ∀ l ∈ ls, l.n * ws.getD l.k 0 ≤ (ls.map fun l => l.n * ws.getD l.k 0).sum := by
  intro ls
  induction ls with
  | nil => simp [tot]
  | cons a ls ih =>
    intro hk hn
    obtain ⟨i1, i2, i3⟩ := ih (fun l hl => hk l (by simp [hl])) (fun l hl => hn l (by simp [hl]))
    have ka := hk a (by simp)
    have na := hn a (by simp)
    have hm : ws.getD a.k 0 ∈ ws := by
      rw [List.getD_eq_getElem?_getD, List.getElem?_eq_getElem (by omega)]
      exact List.getElem_mem _
    have hb := hv _ hm
    obtain ⟨p0, p1⟩ := mulb na (Int.le_refl _) (by omega) hb.2
    have e : tot (a :: ls) = a.n + tot ls := by simp [tot]
    generalize hg : ws.getD a.k 0 = g at *
    have e2 : ((a :: ls).map fun l => l.n * ws.getD l.k 0).sum = a.n * g + (ls.map fun l => l.n * ws.getD l.k 0).sum := by rw [← hg]; simp
    rw [e2, e]
    refine ⟨by omega, by omega, fun l hl => ?_⟩
    rcases List.mem_cons.1 hl with rfl | hl
    · rw [hg]; omega
    · have := i3 l hl; omega

theorem pow_mul_lt {a b m n k : Nat} (ha : a < 2 ^ m) (hb : b ≤ 2 ^ n) (hk : m + n ≤ k) : a * b < 2 ^ k := by
  have b0 : 0 < 2 ^ n := Nat.two_pow_pos n
  have h1 : a * b ≤ a * 2 ^ n := Nat.mul_le_mul_left a hb
  have h2 : a * 2 ^ n < 2 ^ m * 2 ^ n := Nat.mul_lt_mul_of_pos_right ha b0
  rw [← Nat.pow_add] at h2
  exact Nat.lt_of_lt_of_le (Nat.lt_of_le_of_lt h1 h2) (Nat.pow_le_pow_right (by decide) hk)
section
variable {P K t M : Nat} {s : Sta} {B : Int}
/-- facts of a throw -/
theorem throw_facts (g : Good P K t M s) (ht : t ≤ 16) (hB : 1 ≤ B ∧ B ≤ 20) {a : Nat} {n : Int} {ws : List Int} {w : Int} (c : Can P K s (.throw a n ws w)) :
    ∃ W : Nat, worth B s.ls ws w = W ∧ 0 < W ∧ W ≤ 2 ^ 150 ∧ cost B s.ls a n ws w = mkRat (n * ws.getD (at_ s.ls a).k 0) W ∧ Sh W (cost B s.ls a n ws w) := by
  obtain ⟨ha, n1, n2, lw, hv, hw⟩ := c
  obtain ⟨w1, w2, w3⟩ := worth_bd hB lw hv hw s.ls g.kd g.nn
  obtain ⟨b0, b1⟩ := mulb (by omega) hB.2 (by omega) hw.2
  have b2 : 1 * 1 ≤ B * w := Int.mul_le_mul hB.1 hw.1 (by decide) (by omega)
  have tt := g.tot
  have tb : ((4 : Int) + t) * 2 ^ 131 ≤ 20 * 2 ^ 131 := Int.mul_le_mul_of_nonneg_right (by omega) (by decide)
  obtain ⟨W, eW⟩ := Int.eq_ofNat_of_zero_le (a := worth B s.ls ws w) (by unfold worth; omega)
  have ew : (s.ls.map fun l => l.n * ws.getD l.k 0).sum + B * w = W := eW
  have W1 : W ≤ 2 ^ 150 := by omega
  have e1 : cost B s.ls a n ws w = mkRat (n * ws.getD (at_ s.ls a).k 0) W := by rw [cost, eW]; rfl
  refine ⟨W, eW, by omega, W1, e1, ?_⟩
  rw [e1]
  have ka := g.kd _ (at_mem ha)
  have hm : ws.getD (at_ s.ls a).k 0 ∈ ws := by
    rw [List.getD_eq_getElem?_getD, List.getElem?_eq_getElem (by omega)]
    exact List.getElem_mem _
  have hb := hv _ hm
  have w4 := w3 _ (at_mem ha)
  have w5 : n * ws.getD (at_ s.ls a).k 0 ≤ (at_ s.ls a).n * ws.getD (at_ s.ls a).k 0 := Int.mul_le_mul_of_nonneg_right n2 (by omega)
  have w6 : 0 ≤ n * ws.getD (at_ s.ls a).k 0 := Int.mul_nonneg (by omega) (by omega)
  exact sh_mk (by omega) w6 (by omega)
theorem mem_brS {P p : Nat} {q : Rat} (h : q ∈ brS P p) : q = 0 ∨ q = 1 := by
  obtain ⟨i, _, rfl⟩ := List.mem_map.1 h
  split
  · exact .inr rfl
  · exact .inl rfl
theorem s_one {t M : Nat} : Sq2 t M 1 := Sh.sq (M := M) ⟨Nat.one_dvd _, by decide, by decide⟩ t
theorem s_zero {t M : Nat} : Sq2 t M 0 := Sh.sq (M := M) ⟨Nat.one_dvd _, by decide, by decide⟩ t
theorem mem_soS {p q : Nat} {part x : Rat} {ss : List Rat} (h : x ∈ soS p q part ss) : x ∈ ss ∨ x = ss.getD p 0 - ss.getD p 0 * part ∨ x = ss.getD q 0 + ss.getD p 0 * part := by
  rcases List.mem_or_eq_of_mem_set h with h | h
  · rcases List.mem_or_eq_of_mem_set h with h | h
    · exact .inl h
    · exact .inr (.inl h)
  · exact .inr (.inr h)
theorem sq_soS {t M N p q : Nat} {part : Rat} {ss : List Rat} (hM : 0 < M) (hN : 0 < N) (hp : p < ss.length) (hq : q < ss.length) (hs : ∀ x ∈ ss, Sq2 t M x) (hpt : Sh N part) : ∀ x ∈ soS p q part ss, Sq2 (t + 1) (M * N) x := by
  intro x hx
  have sp := hs _ (getD_mem hp)
  have sq := hs _ (getD_mem hq)
  rcases mem_soS hx with h | rfl | rfl
  · exact (hs x h).mono (Nat.dvd_mul_right ..) (by omega)
  · have : ss.getD p 0 - ss.getD p 0 * part = ss.getD p 0 * (1 - part) := by grind
    rw [this]
    exact (sp.mul (hpt.compl hN)).mono (Nat.dvd_refl _) (by omega)
  · exact Sq2.add (Nat.mul_pos hM hN) (sq.mono (Nat.dvd_mul_right ..) (Nat.le_refl _)) (sp.mul hpt)
theorem step_good (g : Good P K t M s) (ht : t ≤ 16) (hB : 1 ≤ B ∧ B ≤ 20) {d : Dd} (c : Can P K s d) : ∃ M', Good P K (t + 1) M' (after1 P B s d) := by
  have up : ∀ {q}, Sq2 t M q → Sq2 (t + 1) M q := fun h => h.mono (Nat.dvd_refl _) (by omega)
  have Mup : M < 2 ^ (60 + 160 * (t + 1)) := Nat.lt_of_lt_of_le g.M1 (Nat.pow_le_pow_right (by decide) (by omega))
  have totup : ((4 : Int) + (t + 1 : Nat)) * 2 ^ 131 = (4 + t) * 2 ^ 131 + 2 ^ 131 := by
    rw [Int.natCast_add, show (4 : Int) + (t + (1 : Nat)) = (4 + t) + 1 by omega, Int.add_mul]; omega
  have gt := g.tot
  have gl := g.len
  have gn := g.nums
  have base : ∀ {ls' : List Ld} {nums' : List Int}, ls'.length ≤ 4 + (t + 1) → (∀ l ∈ ls', l.k < K ∧ 0 ≤ l.n ∧ l.sh.length = P ∧ ∀ q ∈ l.sh, Sq2 (t + 1) M q) → tot ls' ≤ tot s.ls + 2 ^ 131 → nums'.length ≤ t + 1 → Good P K (t + 1) M ⟨ls', s.hs, nums'⟩ := by
    intro ls' nums' h1 h2 h3 h4
    exact ⟨h1, fun l hl => (h2 l hl).1, fun l hl => (h2 l hl).2.1, by show tot ls' ≤ _; rw [totup]; omega, fun l hl => (h2 l hl).2.2, ⟨g.hs.1, fun q hq => up (g.hs.2 q hq)⟩, h4, g.M0, Mup⟩
  have old : ∀ l ∈ s.ls, l.k < K ∧ 0 ≤ l.n ∧ l.sh.length = P ∧ ∀ q ∈ l.sh, Sq2 (t + 1) M q := fun l hl => ⟨g.kd l hl, g.nn l hl, (g.sh l hl).1, fun q hq => up ((g.sh l hl).2 q hq)⟩
  have less : ∀ {a : Nat} {m : Int}, a < s.ls.length → m ≤ (at_ s.ls a).n → ∀ l ∈ lessL s.ls a (at_ s.ls a) m, l.k < K ∧ 0 ≤ l.n ∧ l.sh.length = P ∧ ∀ q ∈ l.sh, Sq2 (t + 1) M q := by
    intro a m ha hm l hl
    rcases mem_less hl with h | rfl
    · exact old l h
    · have := old _ (at_mem ha)
      exact ⟨this.1, by show 0 ≤ (at_ s.ls a).n - m; omega, this.2.2⟩
  have swap : ∀ {a k : Nat} {gv n : Int} {nums' : List Int}, a < s.ls.length → 1 ≤ gv → gv ≤ (at_ s.ls a).n → k < K → 1 ≤ n → n < 2 ^ 131 → nums'.length ≤ t + 1 → Good P K (t + 1) M ⟨lessL s.ls a (at_ s.ls a) gv ++ [⟨k, n, (at_ s.ls a).sh⟩], s.hs, nums'⟩ := by
    intro a k gv n nums' ha g1 g2 hk n1 n2 hn
    refine base (by simp [lessL]; omega) ?_ (by rw [tot_app, tot_less ha]; show _ - gv + n ≤ _; omega) hn
    intro l hl
    rcases List.mem_append.1 hl with hl | hl
    · exact less ha g2 l hl
    · rw [List.mem_singleton.1 hl]
      have := old _ (at_mem ha)
      exact ⟨hk, by show 0 ≤ n; omega, this.2.2⟩
  cases d with
  | bring p k n =>
    obtain ⟨hp, hk, n1, n2⟩ := c
    refine ⟨M, base (by simp; omega) ?_ (by rw [tot_app]; show _ + n ≤ _; omega) (by omega)⟩
    intro l hl
    rcases List.mem_append.1 hl with hl | hl
    · exact old l hl
    · rw [List.mem_singleton.1 hl]
      refine ⟨hk, by show 0 ≤ n; omega, by simp [brS], fun q hq => ?_⟩
      rcases mem_brS hq with rfl | rfl
      · exact s_zero
      · exact s_one
  | pool a b =>
    obtain ⟨hab, ha, hb, n1, n2, hk⟩ := c
    have tn := tot_nn g.nn
    have na := tn.2 _ (at_mem ha)
    have nb := tn.2 _ (at_mem hb)
    have sa := g.sh _ (at_mem ha)
    have sb := g.sh _ (at_mem hb)
    have tb : ((4 : Int) + t) * 2 ^ 131 ≤ 20 * 2 ^ 131 := Int.mul_le_mul_of_nonneg_right (by omega) (by decide)
    generalize hw : ((at_ s.ls a).n + (at_ s.ls b).n).toNat = w at *
    have w0 : 0 < w := by omega
    have w1 : w ≤ 2 ^ 150 := by omega
    have lb : (lessL s.ls a (at_ s.ls a) (at_ s.ls a).n)[b]? = some (at_ s.ls b) := by rw [lessL, List.getElem?_set_ne hab]; exact at_some hb
    have ab : at_ (lessL s.ls a (at_ s.ls a) (at_ s.ls a).n) b = at_ s.ls b := by
      have h1 := at_some (ls := lessL s.ls a (at_ s.ls a) (at_ s.ls a).n) (a := b) (by simpa [lessL] using hb)
      rw [lb] at h1
      exact (Option.some.inj h1).symm
    have tl : tot (lessL (lessL s.ls a (at_ s.ls a) (at_ s.ls a).n) b (at_ s.ls b) (at_ s.ls b).n) = tot s.ls - (at_ s.ls a).n - (at_ s.ls b).n := by
      have := tot_less (ls := lessL s.ls a (at_ s.ls a) (at_ s.ls a).n) (a := b) (m := (at_ s.ls b).n) (by simpa [lessL] using hb)
      rw [ab] at this
      rw [this, tot_less ha]
    have dv : M ∣ M * w := Nat.dvd_mul_right ..
    refine ⟨M * w, ?_⟩
    have all : ∀ l ∈ lessL (lessL s.ls a (at_ s.ls a) (at_ s.ls a).n) b (at_ s.ls b) (at_ s.ls b).n ++ [⟨(at_ s.ls a).k, (at_ s.ls a).n + (at_ s.ls b).n, plS (at_ s.ls a).n (at_ s.ls b).n (at_ s.ls a).sh (at_ s.ls b).sh⟩], l.k < K ∧ 0 ≤ l.n ∧ l.sh.length = P ∧ ∀ q ∈ l.sh, Sq2 (t + 1) (M * w) q := by
      intro l hl
      rcases List.mem_append.1 hl with hl | hl
      · rcases mem_less hl with h | rfl
        · have := less ha (Int.le_refl _) l h
          exact ⟨this.1, this.2.1, this.2.2.1, fun q hq => (this.2.2.2 q hq).mono dv (Nat.le_refl _)⟩
        · have := old _ (at_mem hb)
          exact ⟨this.1, by show 0 ≤ (at_ s.ls b).n - (at_ s.ls b).n; omega, this.2.2.1, fun q hq => (this.2.2.2 q hq).mono dv (Nat.le_refl _)⟩
      · rw [List.mem_singleton.1 hl]
        refine ⟨show (at_ s.ls a).k < K from g.kd _ (at_mem ha), by show 0 ≤ (at_ s.ls a).n + (at_ s.ls b).n; omega, by simp [plS, sa.1, sb.1], fun q hq => ?_⟩
        obtain ⟨x, hx, rfl⟩ := List.mem_map.1 hq
        have m1 := sa.2 _ (List.of_mem_zip hx).1
        have m2 := sb.2 _ (List.of_mem_zip hx).2
        have := Sq2.pool g.M0 (by omega) (by omega) (by omega) m1 m2 (n := (at_ s.ls a).n) (m := (at_ s.ls b).n)
        rw [hw] at this
        simp only [hw]
        exact this.mono (Nat.dvd_refl _) (by omega)
    exact ⟨by simp [after1, lessL]; omega, fun l hl => (all l hl).1, fun l hl => (all l hl).2.1, by
      show tot (_ ++ [_]) ≤ _
      rw [tot_app, tl, totup]
      show tot s.ls - (at_ s.ls a).n - (at_ s.ls b).n + ((at_ s.ls a).n + (at_ s.ls b).n) ≤ _
      omega, fun l hl => (all l hl).2.2, ⟨g.hs.1, fun q hq => (up (g.hs.2 q hq)).mono dv (Nat.le_refl _)⟩, by show s.nums.length ≤ t + 1; omega, Nat.mul_pos g.M0 w0, pow_mul_lt g.M1 w1 (by omega)⟩
  | swap a gv k n =>
    obtain ⟨ha, g1, g2, hk, _, n1, n2⟩ := c
    exact ⟨M, swap ha g1 g2 hk n1 n2 (by omega)⟩
  | trade no a gv k n =>
    obtain ⟨_, ha, g1, g2, hk, _, n1, n2⟩ := c
    exact ⟨M, swap ha g1 g2 hk n1 n2 (by simp; omega)⟩
  | spoil a n =>
    obtain ⟨ha, n1, n2⟩ := c
    exact ⟨M, base (by simp [lessL]; omega) (less ha n2) (by rw [tot_less ha]; omega) (by omega)⟩
  | throw a n ws w =>
    obtain ⟨W, eW, W0, W1, ec, hp⟩ := throw_facts g ht hB c
    obtain ⟨ha, n1, n2, lw, hv, hw⟩ := c
    have dv : M ∣ M * W := Nat.dvd_mul_right ..
    have sa := g.sh _ (at_mem ha)
    have bo : ∀ {ss : List Rat}, ss.length = P → (∀ q ∈ ss, Sq2 t M q) → (borne (cost B s.ls a n ws w) (at_ s.ls a).sh ss).length = P ∧ ∀ q ∈ borne (cost B s.ls a n ws w) (at_ s.ls a).sh ss, Sq2 (t + 1) (M * W) q := by
      intro ss hl hs
      refine ⟨by simp [borne, hl, sa.1], fun q hq => ?_⟩
      obtain ⟨x, hx, rfl⟩ := List.mem_map.1 hq
      exact (Sq2.borne g.M0 W0 (hs _ (List.of_mem_zip hx).1) (sa.2 _ (List.of_mem_zip hx).2) hp).mono (Nat.dvd_refl _) (by omega)
    have oldl : ∀ l ∈ lessL s.ls a (at_ s.ls a) n, l.k < K ∧ 0 ≤ l.n ∧ l.sh.length = P ∧ ∀ q ∈ l.sh, Sq2 t M q := by
      intro l hl
      rcases mem_less hl with h | rfl
      · exact ⟨g.kd l h, g.nn l h, g.sh l h⟩
      · exact ⟨show (at_ s.ls a).k < K from g.kd _ (at_mem ha), by show 0 ≤ (at_ s.ls a).n - n; omega, sa⟩
    have all : ∀ l ∈ thrL (cost B s.ls a n ws w) (at_ s.ls a).sh (lessL s.ls a (at_ s.ls a) n), l.k < K ∧ 0 ≤ l.n ∧ l.sh.length = P ∧ ∀ q ∈ l.sh, Sq2 (t + 1) (M * W) q := by
      intro l hl
      obtain ⟨l', hl', rfl⟩ := List.mem_map.1 hl
      have := oldl l' hl'
      exact ⟨this.1, this.2.1, bo this.2.2.1 this.2.2.2⟩
    refine ⟨M * W, by simp [after1, thrL, lessL]; omega, fun l hl => (all l hl).1, fun l hl => (all l hl).2.1, ?_, fun l hl => (all l hl).2.2, bo g.hs.1 g.hs.2, by show s.nums.length ≤ t + 1; omega, Nat.mul_pos g.M0 W0, pow_mul_lt g.M1 W1 (by omega)⟩
    have e : tot (thrL (cost B s.ls a n ws w) (at_ s.ls a).sh (lessL s.ls a (at_ s.ls a) n)) = tot (lessL s.ls a (at_ s.ls a) n) := by simp [tot, thrL, List.map_map, Function.comp_def]
    show tot (thrL (cost B s.ls a n ws w) (at_ s.ls a).sh (lessL s.ls a (at_ s.ls a) n)) ≤ _
    rw [e, tot_less ha, totup]; omega
  | sell p q part =>
    obtain ⟨hpq, hp, hq, N, N0, N1, hpt⟩ := c
    have all : ∀ l ∈ solL p q part s.ls, l.k < K ∧ 0 ≤ l.n ∧ l.sh.length = P ∧ ∀ q ∈ l.sh, Sq2 (t + 1) (M * N) q := by
      intro l hl
      obtain ⟨l', hl', rfl⟩ := List.mem_map.1 hl
      have sh := g.sh l' hl'
      exact ⟨g.kd l' hl', g.nn l' hl', by simp [soS, sh.1], sq_soS g.M0 N0 (by omega) (by omega) sh.2 hpt⟩
    refine ⟨M * N, by simp [after1, solL]; omega, fun l hl => (all l hl).1, fun l hl => (all l hl).2.1, ?_, fun l hl => (all l hl).2.2, ⟨by simp [after1, soS, g.hs.1], sq_soS g.M0 N0 (by have := g.hs.1; omega) (by have := g.hs.1; omega) g.hs.2 hpt⟩, by show s.nums.length ≤ t + 1; omega, Nat.mul_pos g.M0 N0, pow_mul_lt (n := 4) g.M1 (by omega) (by omega)⟩
    have e : tot (solL p q part s.ls) = tot s.ls := by simp [tot, solL, List.map_map, Function.comp_def]
    show tot (solL p q part s.ls) ≤ _
    rw [e, totup]; omega
end

theorem u_ixL {p : Nat} {ds : List D} {i : Int} {h : Hv} (hp : h[p]? = some (.lst ds)) : opIx (.ref p) (.int i) h = om (atI ds i) (fun d => .ok d h) .stuck := ix_ref _ _ _ _ hp
theorem _law_pieces_ok (k : Nat) (h0 : Hv) (pen : List D) (g : Hv) (hpn : PenOk pen) :
    ∃ (n : Int) (pen' : List D), 1 ≤ n ∧ n < 2 ^ 131 ∧ PenOk pen' ∧ callK T (k + 2) "_law_pieces" [.ref h0.length] (hp h0 pen g) = .ok (.int n) (hp h0 pen' g) := by
  obtain ⟨r1, p1, a1, b1, hp1, e1⟩ := _law_draw_ok k 99 h0 pen g (by decide) (by decide) hpn
  obtain ⟨r2, p2, a2, b2, hp2, e2⟩ := _law_draw_ok k 4 h0 p1 g (by decide) (by decide) hp1
  obtain ⟨r3, p3, a3, b3, hp3, e3⟩ := _law_draw_ok k 40 h0 p2 g (by decide) (by decide) hp2
  obtain ⟨r4, p4, a4, b4, hp4, e4⟩ := _law_draw_ok k 999 h0 p3 g (by decide) (by decide) hp3
  obtain ⟨r5, p5, a5, b5, hp5, e5⟩ := _law_draw_ok k 7 h0 p4 (g ++ [.lst [.int (1 + r2), .int (1 + r3), .int (1 + r4), .int (10 ^ 30 + r1)]]) (by decide) (by decide) hp4
  have fin : ∀ n : Int, atI [D.int (1 + r2), .int (1 + r3), .int (1 + r4), .int (10 ^ 30 + r1)] (r5 / 2) = some (.int n) → callK T (k + 2) "_law_pieces" [.ref h0.length] (hp h0 pen g) = .ok (.int n) (hp h0 p5 g) := by
    intro n hn
    rw [callK_eq t__law_pieces]
    refine (run_rt rfl ?_).trans (gc_hp (g' := [.lst [.int (1 + r2), .int (1 + r3), .int (1 + r4), .int (10 ^ 30 + r1)]]) rfl hp5.grs)
    have ep : ∀ h, opPow (.int 10) (.int 30) h = .ok (.int (10 ^ 30)) h := fun h => by simp [opPow, big64]
    have ed : ∀ h, opFdiv (.int r5) (.int 2) h = .ok (.int (r5 / 2)) h := fun h => fdiv_ok (by decide) (bigM_le (k := 2) (by decide) (by decide))
    have ex := u_ixL (p := h0.length + 1 + g.length) (ds := [.int (1 + r2), .int (1 + r3), .int (1 + r4), .int (10 ^ 30 + r1)]) (i := r5 / 2) (h := hp h0 p5 (g ++ [.lst [.int (1 + r2), .int (1 + r3), .int (1 + r4), .int (10 ^ 30 + r1)]])) (by rw [hp_get1]; simp)
    rw [hn] at ex
    have i0 : ∀ h, opAdd (.int (10 ^ 30)) (.int r1) h = .ok (.int (10 ^ 30 + r1)) h := fun h => rfl
    simp only [R__law_pieces, F__law_pieces, u_seq, u_asg, u_bin, u_con, u_call, u_list, u_list0, u_var, u_ret, u_lst, List.map_cons, List.map_nil, List.replicate, List.cons_append, List.nil_append, List.getElem?_cons_succ, List.getElem?_cons_zero, bind_ok, ep, e1, i0, thenS_ok, u_nm, List.length_cons, List.length_nil, Nat.reduceAdd, Nat.reduceSub, Nat.reduceLT, Nat.reduceLeDiff, if_true, om_some, List.set_cons_succ, List.set_cons_zero, nxt_nx, e2, e3, e4, u_add, hp_len, hp_app, e5, ed, ex, nxt_rt]
  have hr : r5 / 2 = 0 ∨ r5 / 2 = 1 ∨ r5 / 2 = 2 ∨ r5 / 2 = 3 := by omega
  rcases hr with e | e | e | e
  · exact ⟨1 + r2, p5, by omega, by omega, hp5, fin _ (by rw [e, at0])⟩
  · exact ⟨1 + r3, p5, by omega, by omega, hp5, fin _ (by rw [e, at1])⟩
  · exact ⟨1 + r4, p5, by omega, by omega, hp5, fin _ (by rw [e, at2])⟩
  · exact ⟨10 ^ 30 + r1, p5, by omega, by omega, hp5, fin _ (by rw [e, at3])⟩
theorem _law_share_ok (k : Nat) (h0 : Hv) (pen : List D) (g : Hv) (hpn : PenOk pen) :
    ∃ (q : Rat) (N : Nat) (pen' : List D), 0 < N ∧ N ≤ 12 ∧ Sh N q ∧ PenOk pen' ∧ callK T (k + 3) "_law_share" [.ref h0.length] (hp h0 pen g) = .ok (am q) (hp h0 pen' g) := by
  obtain ⟨r1, p1, a1, b1, hp1, e1⟩ := _law_draw_ok (k + 1) 12 h0 pen g (by decide) (by decide) hpn
  obtain ⟨N, eN⟩ := Int.eq_ofNat_of_zero_le (a := 1 + r1) (by omega)
  obtain ⟨r2, p2, a2, b2, hp2, e2⟩ := _law_draw_ok (k + 1) N h0 p1 g (by omega) (by omega) hp1
  have em := _law_made_ok k (1 + r2) N (hp h0 p2 g) (by omega) (bigM_le (k := 4) (by omega) (by decide))
  refine ⟨mkRat (1 + r2) N, N, p2, by omega, by omega, sh_mk (by omega) (by omega) (by omega), hp2, ?_⟩
  rw [callK_eq t__law_share]
  refine (run_rt rfl ?_).trans (gc_hp0 rfl hp2.grs)
  simp [u_var, R__law_share, F__law_share, e1, eN, e2, em, List.replicate]
theorem _law_train_ok (k : Nat) (h0 : Hv) (pen : List D) (g : Hv) (hpn : PenOk pen) :
    ∃ (P K : Nat) (B x y : Int) (hold : List Rat) (s : Nat) (pen' : List D), 1 ≤ P ∧ P ≤ 4 ∧ 1 ≤ K ∧ K ≤ 5 ∧ 1 ≤ B ∧ B ≤ 20 ∧ 0 ≤ x ∧ x ≤ 9 ∧ 0 ≤ y ∧ y ≤ 9 ∧ 0 < s ∧ s ≤ 33 ∧ hold.length = P ∧ (∀ q ∈ hold, Sh s q) ∧ hold.sum = 1 ∧ PenOk pen' ∧
      callK T (k + 4) "_law_train" [.ref h0.length] (hp h0 pen g) = .ok (trD P K B hold x y) (hp h0 pen' g) := by
  obtain ⟨r1, p1, a1, b1, hp1, e1⟩ := _law_draw_ok (k + 2) 4 h0 pen g (by decide) (by decide) hpn
  obtain ⟨r2, p2, a2, b2, hp2, e2⟩ := _law_draw_ok (k + 2) 5 h0 p1 g (by decide) (by decide) hp1
  obtain ⟨r3, p3, a3, b3, hp3, e3⟩ := _law_draw_ok (k + 2) 3 h0 p2 g (by decide) (by decide) hp2
  obtain ⟨r4, p4, a4, b4, hp4, e4⟩ := _law_draw_ok (k + 2) 20 h0 p3 g (by decide) (by decide) hp3
  obtain ⟨r5, p5, a5, b5, hp5, e5⟩ := _law_draw_ok (k + 2) 2 h0 p4 (g ++ [.lst [.int (1 + r3), .int (1 + r4)]]) (by decide) (by decide) hp4
  obtain ⟨P, eP⟩ := Int.eq_ofNat_of_zero_le (a := 1 + r1) (by omega)
  obtain ⟨K, eK⟩ := Int.eq_ofNat_of_zero_le (a := 1 + r2) (by omega)
  obtain ⟨s, qs, p6, s0, s1, lq, hq, sq, hp6, e6⟩ := _law_whole_ok k P h0 p5 (g ++ [.lst [.int (1 + r3), .int (1 + r4)]]) (by omega) (by omega) hp5
  obtain ⟨r7, p7, a7, b7, hp7, e7⟩ := _law_draw_ok (k + 2) 10 h0 p6 (g ++ [.lst [.int (1 + r3), .int (1 + r4)]]) (by decide) (by decide) hp6
  obtain ⟨r8, p8, a8, b8, hp8, e8⟩ := _law_draw_ok (k + 2) 10 h0 p7 (g ++ [.lst [.int (1 + r3), .int (1 + r4)]]) (by decide) (by decide) hp7
  have fin : ∀ B : Int, atI [D.int (1 + r3), .int (1 + r4)] r5 = some (.int B) → callK T (k + 4) "_law_train" [.ref h0.length] (hp h0 pen g) = .ok (trD P K B qs r7 r8) (hp h0 p8 g) := by
    intro B hn
    rw [callK_eq t__law_train]
    have gr : (trD P K B qs r7 r8).gr = true := by simp [trD, D.gr, D.grs, shD_gr]
    refine (run_rt rfl ?_).trans (gc_hp (g' := [.lst [.int (1 + r3), .int (1 + r4)]]) gr hp8.grs)
    have ex := u_ixL (p := h0.length + 1 + g.length) (ds := [.int (1 + r3), .int (1 + r4)]) (i := r5) (h := hp h0 p5 (g ++ [.lst [.int (1 + r3), .int (1 + r4)]])) (by rw [hp_get1]; simp)
    rw [hn] at ex
    simp [u_var, R__law_train, F__law_train, e1, e2, e3, e4, e5, ex, eP, eK, e6, e7, e8, List.replicate]
    rfl
  have hr : r5 = 0 ∨ r5 = 1 := by omega
  rcases hr with e | e
  · exact ⟨P, K, _, r7, r8, qs, s, p8, by omega, by omega, by omega, by omega, by omega, by omega, by omega, by omega, by omega, by omega, s0, by omega, lq, hq, sq, hp8, fin (1 + r3) (by rw [e, at0])⟩
  · exact ⟨P, K, _, r7, r8, qs, s, p8, by omega, by omega, by omega, by omega, by omega, by omega, by omega, by omega, by omega, by omega, s0, by omega, lq, hq, sq, hp8, fin (1 + r4) (by rw [e, at1])⟩


def lo {α : Type} (o : Option Ob) (f : List D → α) (s : α) : α := match o with
  | some (.lst ds) => f ds
  | _ => s
@[simp] theorem lo_lst {α : Type} (ds : List D) (f : List D → α) (s : α) : lo (some (.lst ds)) f s = f ds := rfl
def oo {α : Type} (o : Option Ob) (f : List D → α) (s : α) : α := match o with
  | some (.lst ds) => f ds
  | some (.ro ds) => f ds
  | _ => s
@[simp] theorem oo_lst {α : Type} (ds : List D) (f : List D → α) (s : α) : oo (some (.lst ds)) f s = f ds := rfl
theorem u_addR (p q) (h : Hv) : opAdd (.ref p) (.ref q) h = lo h[p]? (fun a => lo h[q]? (fun b => if a.length + b.length ≤ 1000000 then .ok (.ref h.length) (h ++ [.lst (a ++ b)]) else .stuck) .stuck) .stuck := by
  simp only [opAdd, lo]
  rcases h[p]? with _ | o
  · rfl
  · cases o
    · rcases h[q]? with _ | o
      · rfl
      · cases o <;> rfl
    · rfl
    · rfl
/-! the law's own state: a list of a list of loads (each a list), the holders, a list of numbers -/
structure Lay where
  s : Nat
  L : Nat
  N : Nat
  rows : List Nat
def Lay.refs (y : Lay) : List Nat := y.s :: y.L :: y.N :: y.rows
def rowO (l : Ld) : Ob := .lst [.int l.k, .int l.n, shD l.sh]
structure SAt (h : Hv) (y : Lay) (S : Sta) : Prop where
  s : h[y.s]? = some (.lst [.ref y.L, shD S.hs, .ref y.N])
  L : h[y.L]? = some (.lst (y.rows.map .ref))
  N : h[y.N]? = some (.lst (S.nums.map .int))
  len : y.rows.length = S.ls.length
  row : ∀ (i r : Nat) (l : Ld), y.rows[i]? = some r → S.ls[i]? = some l → h[r]? = some (rowO l)
  nd : y.refs.Nodup
theorem SAt.frame {h h' : Hv} {y : Lay} {S : Sta} (a : SAt h y S) (f : ∀ r ∈ y.refs, h'[r]? = h[r]?) : SAt h' y S :=
  ⟨by rw [f _ (by simp [Lay.refs])]; exact a.s, by rw [f _ (by simp [Lay.refs])]; exact a.L, by rw [f _ (by simp [Lay.refs])]; exact a.N, a.len,
    fun i r l hr hl => by rw [f r (by simp [Lay.refs, List.mem_of_getElem? hr])]; exact a.row i r l hr hl, a.nd⟩
theorem SAt.ne {h : Hv} {y : Lay} {S : Sta} (a : SAt h y S) : y.s ≠ y.L ∧ y.s ≠ y.N ∧ y.L ≠ y.N ∧ y.s ∉ y.rows ∧ y.L ∉ y.rows ∧ y.N ∉ y.rows ∧ y.rows.Nodup := by
  have := a.nd
  simp only [Lay.refs, List.nodup_cons, List.mem_cons, not_or] at this
  obtain ⟨⟨h1, h2, h3⟩, ⟨h4, h5⟩, h6, h7⟩ := this
  exact ⟨h1, h2, h4, h3, h5, h6, h7⟩
theorem SAt.lt {h : Hv} {y : Lay} {S : Sta} (a : SAt h y S) : ∀ r ∈ y.refs, r < h.length := by
  intro r hr
  simp only [Lay.refs, List.mem_cons] at hr
  rcases hr with rfl | rfl | rfl | hr
  · exact (List.getElem?_eq_some_iff.1 a.s).1
  · exact (List.getElem?_eq_some_iff.1 a.L).1
  · exact (List.getElem?_eq_some_iff.1 a.N).1
  · obtain ⟨i, hi⟩ := List.getElem?_of_mem hr
    have h1 := (List.getElem?_eq_some_iff.1 hi).1
    have := a.len
    exact (List.getElem?_eq_some_iff.1 (a.row i r _ hi (List.getElem?_eq_getElem (by omega)))).1
theorem SAt.rowAt {h : Hv} {y : Lay} {S : Sta} (a : SAt h y S) {i : Nat} (hi : i < S.ls.length) : ∃ r, y.rows[i]? = some r ∧ r ∈ y.rows ∧ h[r]? = some (rowO (at_ S.ls i)) := by
  have h1 : i < y.rows.length := by have := a.len; omega
  exact ⟨y.rows[i], List.getElem?_eq_getElem h1, List.getElem_mem h1, a.row i _ _ (List.getElem?_eq_getElem h1) (at_some hi)⟩
/-- what a def leaves that answers None, where what it made is not seen -/
theorem gc_any (h h1 : Hv) (hl : h.length ≤ h1.length) : ∃ h2, gc h .non h1 = .ok .non h2 ∧ (∀ i, i < h.length → h2[i]? = h1[i]?) ∧ h.length ≤ h2.length := by
  unfold gc
  split
  · refine ⟨h1.take h.length, rfl, fun i hi => by rw [List.getElem?_take_of_lt hi], by simp; omega⟩
  · exact ⟨h1, rfl, fun _ _ => rfl, hl⟩
theorem gc_keep {h h1 : Hv} {d : D} {i : Nat} {o : Ob} (hi : i < h.length) (h2 : h1[i]? = some o) (ho : o.gr = false) (hne : h[i]? ≠ some o) : gc h d h1 = .ok d h1 := by
  unfold gc
  rw [if_neg]
  rintro ⟨_, e⟩
  rw [sameOrGr, List.all_eq_true] at e
  have := e i (List.mem_range.2 hi)
  rw [h2] at this
  simp only [ho, Bool.or_false, decide_eq_true_eq] at this
  exact hne this.symm


theorem ix_row {h : Hv} {r : Nat} {l : Ld} (hr : h[r]? = some (rowO l)) : opIx (.ref r) (.int 0) h = .ok (.int l.k) h ∧ opIx (.ref r) (.int 1) h = .ok (.int l.n) h ∧ opIx (.ref r) (.int 2) h = .ok (shD l.sh) h := by
  refine ⟨?_, ?_, ?_⟩ <;> rw [ix_ref _ _ _ _ hr] <;> simp
theorem row_old {h : Hv} {g : Hv} {r : Nat} {o : Ob} (hr : h[r]? = some o) : (h ++ g)[r]? = some o := by
  rw [List.getElem?_append_left (List.getElem?_eq_some_iff.1 hr).1, hr]

/-- what a def leaves that deals with a state -/
structure DoRes (h h' : Hv) (y y' : Lay) (S' : Sta) : Prop where
  sat : SAt h' y' S'
  s : y'.s = y.s
  len : h.length ≤ h'.length
  fr : ∀ i, i < h.length → i ∉ y.refs → h'[i]? = h[i]?
  new : ∀ r ∈ y'.refs, r ∈ y.refs ∨ h.length ≤ r
theorem DoRes.same {h h1 : Hv} {y : Lay} {S' : Sta} (a : SAt h1 y S') (hl : h1.length = h.length) (fr : ∀ i, i ∉ y.refs → h1[i]? = h[i]?) : ∃ h2, gc h .non h1 = .ok .non h2 ∧ DoRes h h2 y y S' := by
  obtain ⟨h2, e, f, l⟩ := gc_any h h1 (by omega)
  refine ⟨h2, e, a.frame fun r hr => f r (by have := a.lt r hr; omega), rfl, l, fun i hi hn => ?_, fun r hr => .inl hr⟩
  rw [f i hi, fr i hn]

theorem refs_gr (rs : List Nat) (r : Nat) : (Ob.lst ((rs ++ [r]).map .ref)).gr = false := by
  show D.grs _ = false
  induction rs with
  | nil => rfl
  | cons a rs ih => rfl
/-- where a load has come to the list -/
theorem DoRes.more {h h3 : Hv} {y : Lay} {S S' : Sta} {r : Nat} (sa : SAt h y S) (s3 : SAt h3 ⟨y.s, y.L, y.N, y.rows ++ [r]⟩ S') (hr : h.length ≤ r) (hl : h.length ≤ h3.length) (fr : ∀ i, i < h.length → i ∉ y.refs → h3[i]? = h[i]?) :
    gc h .non h3 = .ok .non h3 ∧ DoRes h h3 y ⟨y.s, y.L, y.N, y.rows ++ [r]⟩ S' := by
  have e3 : h3[y.L]? = some (.lst ((y.rows ++ [r]).map .ref)) := s3.L
  refine ⟨gc_keep (i := y.L) (sa.lt _ (by simp [Lay.refs])) e3 (refs_gr _ _) ?_, s3, rfl, hl, fr, ?_⟩
  · rw [sa.L]
    intro e
    have := congrArg (fun o : Option Ob => match o with
      | some (.lst ds) => ds.length
      | _ => 0) e
    simp at this
  · intro x hx
    simp only [Lay.refs, List.mem_cons, List.mem_append, List.mem_singleton, List.not_mem_nil, or_false] at hx ⊢
    rcases hx with h | h | h | h | h
    · exact .inl (.inl h)
    · exact .inl (.inr (.inl h))
    · exact .inl (.inr (.inr (.inl h)))
    · exact .inl (.inr (.inr (.inr h)))
    · exact .inr (by omega)
section
variable (k P K t M : Nat) (B x y : Int) (hold : List Rat) (S : Sta) (ly : Lay) (h : Hv) (g : Good P K t M S) (ht : t ≤ 16) (hP : P ≤ 900) (sa : SAt h ly S)
include g ht hP sa
end

section
variable (k P K t M : Nat) (S : Sta) (ly : Lay) (h : Hv) (g : Good P K t M S) (ht : t ≤ 16) (hP : P ≤ 900) (sa : SAt h ly S)
include g ht hP sa
end

theorem _law_worths_ok (k : Nat) (n : Nat) (h0 : Hv) (pen : List D) (g : Hv) (hn1 : n ≤ 1000) (hpn : PenOk pen) :
    ∃ (ws : List Int) (pen' : List D), ws.length = n ∧ (∀ w ∈ ws, 1 ≤ w ∧ w ≤ 99) ∧ PenOk pen' ∧
      callK T (k + 3) "_law_worths" [.ref h0.length, .int n] (hp h0 pen g) = .ok (wsD ws) (hp h0 pen' g) := by
  obtain ⟨ws, pen1, g1, l1, p1, hp1, e1⟩ := lc_drawn (C := callK T (k + 2)) (env := [some (.ref h0.length), some (.int n), none]) (it := it1F (varF 1)) (tg := nmT 2) (own := [2])
    (elt := binF opAdd (conF (.int 1)) (binF opIx (lstF [(callF "_law_draw" [(varF 0), (conF (.int 3))]), (callF "_law_draw" [(varF 0), (conF (.int 99))])]) (callF "_law_draw" [(varF 0), (conF (.int 2))])))
    (h0 := h0) (g := g) (pen := pen) (fun w : Int => 1 ≤ w ∧ w ≤ 99) .int ((List.range n).map fun i => .int (i : Nat))
    (it1_ok (n := n) (by simp [u_var]) (by omega))
    (by
      intro x hx
      refine ⟨[some (.ref h0.length), some (.int n), some x], fun hh => by simp [wipeD], ?_⟩
      intro pen g' hp0
      obtain ⟨r1, pen1, a1, b1, hp1, e1⟩ := _law_draw_ok (k + 1) 3 h0 pen g' (by decide) (by decide) hp0
      obtain ⟨r2, pen2, a2, b2, hp2, e2⟩ := _law_draw_ok (k + 1) 99 h0 pen1 g' (by decide) (by decide) hp1
      obtain ⟨r3, pen3, a3, b3, hp3, e3⟩ := _law_draw_ok (k + 1) 2 h0 pen2 (g' ++ [.lst [.int r1, .int r2]]) (by decide) (by decide) hp2
      have hx := ix_ref (hp h0 pen3 (g' ++ [.lst [.int r1, .int r2]])) r3 (h0.length + 1 + g'.length) [.int r1, .int r2] (by rw [hp_get1]; simp)
      have hr : r3 = 0 ∨ r3 = 1 := by omega
      rcases hr with rfl | rfl
      · refine ⟨1 + r1, pen3, [.lst [.int r1, .int r2]], by omega, hp3, ?_⟩
        rw [at0] at hx
        simp [u_var, e1, e2, e3, hx]
      · refine ⟨1 + r2, pen3, [.lst [.int r1, .int r2]], by omega, hp3, ?_⟩
        rw [at1] at hx
        simp [u_var, e1, e2, e3, hx])
    hpn (by simp; omega)
  rw [List.length_map, List.length_range] at l1
  refine ⟨ws, pen1, l1, p1, hp1, ?_⟩
  rw [callK_eq t__law_worths]
  have gr : (wsD ws).gr = true := by
    show D.grs _ = true
    clear e1 p1 l1
    induction ws with
    | nil => rfl
    | cons q qs ih => simpa [D.grs, D.gr] using ih
  refine (run_rt rfl ?_).trans (gc_hp (g' := .lst (ws.map .int) :: g1) gr hp1.grs)
  have et := u_tuplel (p := h0.length + 1 + g.length) (ds := ws.map .int) (h := hp h0 pen1 (g ++ .lst (ws.map .int) :: g1)) (by rw [hp_get1]; simp)
  simp [u_var, R__law_worths, F__law_worths, e1, et, List.replicate, wsD]
theorem sat_ext {h0 gg : Hv} {ly : Lay} {S : Sta} (a : ∀ pen, SAt (hp h0 pen gg) ly S) (e : Hv) (pen : List D) : SAt (hp h0 pen (gg ++ e)) ly S := by
  rw [← hp_app]
  exact (a pen).frame fun r hr => by rw [List.getElem?_append_left ((a pen).lt r hr)]
section
variable (k P K : Nat) (B x y : Int) (hold : List Rat) (S : Sta) (ly : Lay) (h0 : Hv) (hP : 1 ≤ P ∧ P ≤ 4) (hK : 1 ≤ K ∧ K ≤ 5)
include hP hK
end

section
variable (k P K : Nat) (B x y : Int) (hold : List Rat) (S : Sta) (ly : Lay) (h0 : Hv) (hP : 1 ≤ P ∧ P ≤ 4) (hK : 1 ≤ K ∧ K ≤ 5)
include hP hK
end

section
variable (k P K : Nat) (B x y : Int) (hold : List Rat) (S : Sta) (ly : Lay) (h0 : Hv) (hP : 1 ≤ P ∧ P ≤ 4) (hK : 1 ≤ K ∧ K ≤ 5)
include hP hK
end

theorem SAt.kind {h : Hv} {ly : Lay} {S : Sta} (sa : SAt h ly S) {j : Nat} (hj : j < S.ls.length) : ∃ r, opIx (.ref ly.L) (.int j) h = .ok (.ref r) h ∧ opIx (.ref r) (.int 0) h = .ok (.int (at_ S.ls j).k) h ∧ opIx (.ref r) (.int 1) h = .ok (.int (at_ S.ls j).n) h := by
  obtain ⟨r, hr, mr, hrow⟩ := sa.rowAt hj
  have i := ix_row hrow
  exact ⟨r, by rw [ix_ref _ _ _ _ sa.L, at_nat, List.getElem?_map, hr]; rfl, i.1, i.2.1⟩
section
variable (k P K : Nat) (B x y : Int) (hold : List Rat) (S : Sta) (ly : Lay) (h0 : Hv) (hP : 1 ≤ P ∧ P ≤ 4) (hK : 1 ≤ K ∧ K ≤ 5)
include hP hK
end

theorem wsD_gr (ns : List Int) : (wsD ns).gr = true := by
  show D.grs _ = true
  induction ns with
  | nil => rfl
  | cons q qs ih => simpa [D.grs, D.gr] using ih
theorem Dd.gr (d : Dd) : d.d.gr = true := by
  cases d <;> simp [Dd.d, brD, poD, swD, traD, spD, thD, slD, D.gr, D.grs, wsD_gr]
section
variable (k P K : Nat) (B x y : Int) (hold : List Rat) (S : Sta) (ly : Lay) (h0 : Hv) (hP : 1 ≤ P ∧ P ≤ 4) (hK : 1 ≤ K ∧ K ≤ 5)
include hP hK
end

def Dd.w : Dd → Str
  | .bring .. => "bring"
  | .pool .. => "pool"
  | .swap .. => "swap"
  | .trade .. => "trade"
  | .spoil .. => "spoil"
  | .throw .. => "throw"
  | .sell .. => "sell"
def runS (P : Nat) (B : Int) (s : Sta) (ds : List Dd) : Sta := ds.foldl (after1 P B) s
def Cans (P K : Nat) (B : Int) : Sta → List Dd → Prop
  | _, [] => True
  | s, d :: ds => Can P K s d ∧ Cans P K B (after1 P B s d) ds
theorem cans_app {P K : Nat} {B : Int} : ∀ {s : Sta} {ds es : List Dd}, Cans P K B s (ds ++ es) ↔ Cans P K B s ds ∧ Cans P K B (runS P B s ds) es
  | s, [], es => by simp [Cans, runS]
  | s, d :: ds, es => by
    have := cans_app (P := P) (K := K) (B := B) (s := after1 P B s d) (ds := ds) (es := es)
    simp only [List.cons_append, Cans, this, runS, List.foldl_cons, and_assoc]
theorem runS_app {P : Nat} {B : Int} (s : Sta) (ds es : List Dd) : runS P B s (ds ++ es) = runS P B (runS P B s ds) es := by simp [runS]
theorem goods {P K : Nat} {B : Int} (hB : 1 ≤ B ∧ B ≤ 20) : ∀ (ds : List Dd) {s : Sta} {t M : Nat}, Good P K t M s → t + ds.length ≤ 17 → Cans P K B s ds → ∃ M', Good P K (t + ds.length) M' (runS P B s ds)
  | [], s, t, M, g, _, _ => ⟨M, g⟩
  | d :: ds, s, t, M, g, hl, c => by
    simp only [List.length_cons] at hl
    obtain ⟨M1, g1⟩ := step_good g (by omega) hB c.1
    obtain ⟨M2, g2⟩ := goods hB ds g1 (by omega) c.2
    exact ⟨M2, by rw [List.length_cons, show t + (ds.length + 1) = t + 1 + ds.length by omega]; exact g2⟩
/-! the law's state behind the pen -/
structure LS (h0 : Hv) (b : Nat) (e : Hv) (ly : Lay) (S : Sta) : Prop where
  sat : ∀ pen, SAt (hp h0 pen e) ly S
  lo : ∀ r ∈ ly.refs, h0.length + 1 + b ≤ r
theorem LS.ext {h0 : Hv} {b : Nat} {e : Hv} {ly : Lay} {S : Sta} (l : LS h0 b e ly S) (e2 : Hv) : LS h0 b (e ++ e2) ly S := ⟨fun pen => sat_ext l.sat e2 pen, l.lo⟩
theorem LS.frame {h0 : Hv} {b : Nat} {e e2 : Hv} {ly : Lay} {S : Sta} (l : LS h0 b e ly S) (f : ∀ i, h0.length + 1 + i ∈ ly.refs → e2[i]? = e[i]?) : LS h0 b e2 ly S :=
  ⟨fun pen => (l.sat pen).frame fun r hr => by
    obtain ⟨k, rfl⟩ : ∃ k, r = h0.length + 1 + k := ⟨r - (h0.length + 1), by have := l.lo r hr; omega⟩
    rw [hp_get1, hp_get1, f k hr], l.lo⟩
theorem LS.set {h0 : Hv} {b : Nat} {e : Hv} {ly : Lay} {S : Sta} (l : LS h0 b e ly S) {i : Nat} (hi : h0.length + 1 + i ∉ ly.refs) (o : Ob) : LS h0 b (e.set i o) ly S :=
  l.frame fun j hj => by
    rw [List.getElem?_set_ne]
    rintro rfl
    exact hi hj

/-! a book, in kinds of its own -/
structure Bk where
  P : Nat
  K : Nat
  B : Int
  x : Int
  y : Int
  hold : List Rat
  ls : List Ld
  ds : List Dd
def Bk.tr (b : Bk) : D := trD b.P b.K b.B b.hold b.x b.y
def Bk.d (b : Bk) : D := bookD b.tr b.ls (b.ds.map Dd.d)
def Bk.s0 (b : Bk) : Sta := ⟨b.ls, b.hold, []⟩
structure BkT (b : Bk) : Prop where
  P : 1 ≤ b.P ∧ b.P ≤ 4
  K : 1 ≤ b.K ∧ b.K ≤ 5
  B : 1 ≤ b.B ∧ b.B ≤ 20
  x : 0 ≤ b.x ∧ b.x ≤ 9
  y : 0 ≤ b.y ∧ b.y ≤ 9
  hold : b.hold.length = b.P ∧ b.hold.sum = 1
  one : ∀ l ∈ b.ls, l.sh.sum = 1
  good : ∃ M, Good b.P b.K 0 M b.s0
structure BkC (n : Nat) (b : Bk) : Prop extends BkT b where
  len : b.ds.length ≤ n
  cans : Cans b.P b.K b.B b.s0 b.ds
/-- what is behind so many deeds -/
def Bk.st (b : Bk) (m : Nat) : Sta := runS b.P b.B b.s0 (b.ds.take m)
theorem BkC.mono {n m : Nat} {b : Bk} (c : BkC n b) (h : n ≤ m) : BkC m b := ⟨c.toBkT, Nat.le_trans c.len h, c.cans⟩
theorem BkC.goodAt {n : Nat} {b : Bk} (c : BkC n b) (hn : n ≤ 17) (m : Nat) : ∃ M, Good b.P b.K (min m b.ds.length) M (b.st m) := by
  obtain ⟨M, g⟩ := c.good
  have hc := c.cans
  rw [← List.take_append_drop m b.ds] at hc
  have hl := c.len
  obtain ⟨M', g'⟩ := goods c.B (b.ds.take m) g (by simp; omega) (cans_app.1 hc).1
  rw [List.length_take, Nat.zero_add] at g'
  exact ⟨M', g'⟩
theorem BkC.canAt {n : Nat} {b : Bk} (c : BkC n b) {m : Nat} (hm : m < b.ds.length) : Can b.P b.K (b.st m) b.ds[m] ∧ b.st (m + 1) = after1 b.P b.B (b.st m) b.ds[m] := by
  have hc := c.cans
  rw [← List.take_append_drop m b.ds, List.drop_eq_getElem_cons hm] at hc
  refine ⟨(cans_app.1 hc).2.1, ?_⟩
  rw [Bk.st, List.take_succ_eq_append_getElem hm, runS_app]
  rfl

/-! the law's states, one behind another -/
/-- the list of the states -/
structure StatesAt (h : Hv) (b : Bk) (sp : Nat) (f : Nat → Nat) (j : Nat) : Prop where
  top : h[sp]? = some (.lst ((List.range (j + 1)).map fun m => .tup [.ref (f m), shD (b.st m).hs]))
  row : ∀ m, m ≤ j → h[f m]? = some (.lst ((b.st m).ls.map ldD))

/-! the program over a book of ours -/
section
variable {n : Nat} {b : Bk} (c : BkC n b) (hn : n ≤ 17)
include c hn
end
/-! == of lists of what has no list within -/
mutual
/-- what can be compared: no list, its texts are texts -/
def D.fl : Nat → D → Bool
  | _, .non => true
  | _, .bl _ => true
  | _, .int _ => true
  | _, .str s => PyData.strOk s
  | n + 1, .tup ds => D.fls n ds
  | 0, .tup _ => false
  | _, .ref _ => false
def D.fls : Nat → List D → Bool
  | _, [] => true
  | n, d :: ds => D.fl n d && D.fls n ds
end
mutual
def D.pd : D → PyData
  | .non => .none
  | .bl b => .bool b
  | .int i => .int i
  | .str s => .str s
  | .tup ds => .tuple (D.pds ds)
  | .ref _ => .none
def D.pds : List D → List PyData
  | [] => []
  | d :: ds => D.pd d :: D.pds ds
end
mutual
theorem toP_fl (h : Hv) : ∀ (n : Nat) (d : D), D.fl n d = true → toP h n d = some d.pd
  | n, .non, _ => by cases n <;> simp [toP, D.pd]
  | n, .bl _, _ => by cases n <;> simp [toP, D.pd]
  | n, .int _, _ => by cases n <;> simp [toP, D.pd]
  | n, .str s, e => by cases n <;> (simp only [D.fl] at e; simp [toP, D.pd, e])
  | n + 1, .tup ds, e => by
    simp only [D.fl] at e
    simp only [toP, toPs_fl h n ds e, D.pd, Option.map_some]
  | 0, .tup ds, e => by simp [D.fl] at e
  | n, .ref _, e => by cases n <;> simp [D.fl] at e
theorem toPs_fl (h : Hv) : ∀ (n : Nat) (ds : List D), D.fls n ds = true → toPs h n ds = some (D.pds ds)
  | _, [], _ => by simp [toPs, D.pds]
  | n, d :: ds, e => by
    simp only [D.fls, Bool.and_eq_true] at e
    simp only [toPs, toP_fl h n d e.1, toPs_fl h n ds e.2, D.pds]
end

/-! loops, by number -/
theorem for_range {C : Or} {tg : TF} {body : SF} {gs : Guards} (f : Nat → D) (I : Nat → Env → Hv → Prop) : ∀ (n : Nat) (j : Nat)
    (hg : ∀ i env h, I i env h → guardsOk gs h = true)
    (hs : ∀ i env h, i < j + n → I i env h → ∃ env1, tg (f i) env h = some env1 ∧ ∃ env2 h2, body C env1 h = .nx env2 h2 ∧ I (i + 1) env2 h2)
    (env : Env) (h : Hv), I j env h → ∃ env' h', forL C tg body gs ((List.range' j n).map f) env h = .nx env' h' ∧ I (j + n) env' h'
  | 0, j, hg, hs, env, h, p => ⟨env, h, by simp [forL, hg _ _ _ p], p⟩
  | n + 1, j, hg, hs, env, h, p => by
    obtain ⟨env1, e1, env2, h2, e2, p2⟩ := hs j env h (by omega) p
    obtain ⟨env', h', e3, p3⟩ := for_range f I n (j + 1) hg (fun i env h hi => hs i env h (by omega)) env2 h2 p2
    refine ⟨env', h', ?_, by rw [show j + (n + 1) = j + 1 + n by omega]; exact p3⟩
    rw [List.range'_succ, List.map_cons, forL, if_pos (hg _ _ _ p)]
    simp only [e1, e2, e3]
theorem for_upto {C : Or} {tg : TF} {body : SF} {gs : Guards} (f : Nat → D) (I : Nat → Env → Hv → Prop) (n : Nat)
    (hg : ∀ i env h, I i env h → guardsOk gs h = true)
    (hs : ∀ i env h, i < n → I i env h → ∃ env1, tg (f i) env h = some env1 ∧ ∃ env2 h2, body C env1 h = .nx env2 h2 ∧ I (i + 1) env2 h2)
    (env : Env) (h : Hv) (p : I 0 env h) : ∃ env' h', forL C tg body gs ((List.range n).map f) env h = .nx env' h' ∧ I n env' h' := by
  have := for_range (C := C) f I n 0 hg (by simpa using hs) env h p
  rwa [← List.range_eq_range', Nat.zero_add] at this
/-- a law's own loop over its cells: nothing is carried from one to the next -/
theorem law_cells {C : Or} {body : SF} {m : Nat} {ns : List Int} {mx : Int} (hm1 : 1 ≤ mx) (hm2 : mx ≤ 1000)
    (hb : ∀ (i : Nat) (zs : List (Option D)) (h : Hv), zs.length = m → h[0]? = some (.ro (ns.map .int)) → ∃ (zs' : List (Option D)) (h' : Hv), zs'.length = m ∧ body C (some (.ref 0) :: some (.int (i : Nat)) :: zs) h = .nx (some (.ref 0) :: some (.int (i : Nat)) :: zs') h' ∧ h'[0]? = some (.ro (ns.map .int)))
    (zs : List (Option D)) (h : Hv) (hz : zs.length = m) (h0 : h[0]? = some (.ro (ns.map .int))) :
    ∃ env' h', forS (it1F (bltF bMax [(conF (.int 1)), (bltF bMin [(bltF bLen [(varF 0)]), (conF (.int mx))])])) (nmT 1) body C (some (.ref 0) :: none :: zs) h = .nx env' h' := by
  obtain ⟨q, eq, q1⟩ : ∃ q : Nat, (if (if mx < (ns.length : Int) then mx else (ns.length : Int)) > 1 then (if mx < (ns.length : Int) then mx else (ns.length : Int)) else 1) = (q : Int) ∧ q ≤ 1000 := by
    refine ⟨(if (if mx < (ns.length : Int) then mx else (ns.length : Int)) > 1 then (if mx < (ns.length : Int) then mx else (ns.length : Int)) else 1).toNat, ?_, ?_⟩
    · split <;> split <;> omega
    · split <;> split <;> omega
  have hit : it1F (bltF bMax [(conF (.int 1)), (bltF bMin [(bltF bLen [(varF 0)]), (conF (.int mx))])]) C (some (.ref 0) :: none :: zs) h = .ok ((List.range q).map fun i => .int (i : Nat), []) h := by
    refine it1_ok (n := q) ?_ (by omega)
    simp only [u_blt, u_list, u_list0, u_con, bind_ok, u_var, List.getElem?_cons_zero, u_lenr h0, u_min, u_max, List.length_map, eq]
  rw [u_for, hit]
  obtain ⟨env', h', e, _⟩ := for_upto (C := C) (tg := nmT 1) (body := body) (gs := []) (fun i => .int (i : Nat)) (fun _ env h => ∃ (z : Option D) (zs : List (Option D)), env = some (.ref 0) :: z :: zs ∧ zs.length = m ∧ h[0]? = some (.ro (ns.map .int))) q
    (fun _ _ _ _ => rfl)
    (by
      rintro i env h hi ⟨z, zs, rfl, hz, h0⟩
      obtain ⟨zs', h', l, e, e0⟩ := hb i zs h hz h0
      exact ⟨_, by rw [u_nm, if_pos (by simp)]; rfl, _, h', e, _, zs', rfl, l, e0⟩)
    _ _ ⟨none, zs, rfl, hz, h0⟩
  exact ⟨env', h', by simp only [thenI_ok]; exact e⟩
theorem law_ends {k : Nat} {body : SF} {R : FnRec} {F : SF} {m : Nat} {ns : List Int} {mx : Int} (hm1 : 1 ≤ mx) (hm2 : mx ≤ 1000) (tL : T "law" = some R) (hR : R = ⟨1, m + 2, F⟩)
    (hF : F = seqS (forS (it1F (bltF bMax [(conF (.int 1)), (bltF bMin [(bltF bLen [(varF 0)]), (conF (.int mx))])])) (nmT 1) body) (seqS (retS (conF (.bl true))) nxS))
    (hb : ∀ (i : Nat) (zs : List (Option D)) (h : Hv), zs.length = m → h[0]? = some (.ro (ns.map .int)) → ∃ (zs' : List (Option D)) (h' : Hv), zs'.length = m ∧ body (callK T k) (some (.ref 0) :: some (.int (i : Nat)) :: zs) h = .nx (some (.ref 0) :: some (.int (i : Nat)) :: zs') h' ∧ h'[0]? = some (.ro (ns.map .int))) :
    ∃ h', callK T (k + 1) "law" [.ref 0] [.ro (ns.map .int)] = .ok (.bl true) h' := by
  obtain ⟨env', h', e⟩ := law_cells (C := callK T k) hm1 hm2 hb (List.replicate m none) [.ro (ns.map .int)] (by simp) rfl
  have key : ∀ h h' : Hv, ∃ h2, gc h (.bl true) h' = .ok (.bl true) h2 := by
    intro h h'
    unfold gc
    split
    · exact ⟨_, rfl⟩
    · exact ⟨_, rfl⟩
  obtain ⟨h2, e2⟩ := key [.ro (ns.map .int)] h'
  refine ⟨h2, ?_⟩
  rw [callK_eq tL]
  refine (run_rt (h' := h') (d := .bl true) (by rw [hR]; rfl) ?_).trans e2
  subst hR hF
  have : ([.ref 0] : List D).map some ++ List.replicate (m + 2 - 1) none = some (.ref 0) :: none :: List.replicate m none := by
    rw [show m + 2 - 1 = m + 1 by omega]; rfl
  simp only
  rw [this, u_seq, e]
  rfl
theorem zs9 {zs : List (Option D)} (h : zs.length = 9) : ∃ a0 a1 a2 a3 a4 a5 a6 a7 a8, zs = [a0, a1, a2, a3, a4, a5, a6, a7, a8] := match zs, h with | [a0, a1, a2, a3, a4, a5, a6, a7, a8], _ => ⟨a0, a1, a2, a3, a4, a5, a6, a7, a8, rfl⟩
theorem ref0_hp {h e : Hv} {pen : List D} {o : Ob} (h0 : h[0]? = some o) : (hp h pen e)[0]? = some o := hp_old h0

/-! numbers with a bound: cut into M, not beyond c -/
structure Bn (M c : Nat) (q : Rat) : Prop where
  den : q.den ∣ M
  lo : -(c : Rat) ≤ q
  hi : q ≤ (c : Rat)
theorem rcast (c : Nat) : (((c : Int) : Rat)) = (c : Rat) := rfl
theorem rat_nat_nn (c : Nat) : (0 : Rat) ≤ (c : Rat) := by exact_mod_cast Nat.zero_le c
theorem Bn.mono {M c N d : Nat} {q : Rat} (h : Bn M c q) (hd : M ∣ N) (hc : c ≤ d) : Bn N d q :=
  ⟨Nat.dvd_trans h.den hd, by have := natle hc; have := h.lo; grind, by have := natle hc; have := h.hi; grind⟩
theorem Bn.neg {M c : Nat} {q : Rat} (h : Bn M c q) : Bn M c (-q) :=
  ⟨by simpa using h.den, by have := h.hi; grind, by have := h.lo; grind⟩
theorem Bn.add {M c d : Nat} {a b : Rat} (h0 : 0 < M) (ha : Bn M c a) (hb : Bn M d b) : Bn M (c + d) (a + b) := by
  refine ⟨den_add_dvd h0 ha.den hb.den, ?_, ?_⟩
  · rw [Rat.natCast_add]; have := ha.lo; have := hb.lo; grind
  · rw [Rat.natCast_add]; have := ha.hi; have := hb.hi; grind
theorem Bn.mul {M c N d : Nat} {a b : Rat} (ha : Bn M c a) (hb : Bn N d b) : Bn (M * N) (c * d) (a * b) := by
  have c0 := rat_nat_nn c
  have d0 := rat_nat_nn d
  have e : ((c * d : Nat) : Rat) = (c : Rat) * (d : Rat) := Rat.natCast_mul ..
  have a1 := ha.lo; have a2 := ha.hi; have b1 := hb.lo; have b2 := hb.hi
  have p1 := Rat.mul_nonneg (a := (c : Rat) - a) (b := (d : Rat) + b) (by grind) (by grind)
  have p2 := Rat.mul_nonneg (a := (c : Rat) + a) (b := (d : Rat) - b) (by grind) (by grind)
  have p3 := Rat.mul_nonneg (a := (c : Rat) + a) (b := (d : Rat) + b) (by grind) (by grind)
  have p4 := Rat.mul_nonneg (a := (c : Rat) - a) (b := (d : Rat) - b) (by grind) (by grind)
  refine ⟨Nat.dvd_trans (den_mul_dvd a b) (Nat.mul_dvd_mul ha.den hb.den), ?_, ?_⟩
  · rw [e]; grind
  · rw [e]; grind
theorem Bn.int {c : Nat} {n : Int} (h : n.natAbs ≤ c) : Bn 1 c (n : Rat) := by
  refine ⟨by simp, ?_, ?_⟩
  · have : -(c : Int) ≤ n := by omega
    have h2 := Rat.intCast_le_intCast.2 this
    rw [Rat.intCast_neg, rcast] at h2
    exact h2
  · have : n ≤ (c : Int) := by omega
    exact_mod_cast this
theorem Bn.zero {M : Nat} : Bn M 0 0 := ⟨Nat.one_dvd _, by simp, by simp⟩
theorem Bn.sc {M : Nat} {q : Rat} (h : Sc M q) : Bn M (2 ^ 64) q := ⟨h.1, by
  have := h.2.1
  have := rat_nat_nn (2 ^ 64)
  grind, h.2.2⟩
theorem Bn.sq {t M : Nat} {q : Rat} (h : Sq2 t M q) : Bn M (2 ^ t) q := ⟨h.1, by
  have := h.2.1
  have := rat_nat_nn (2 ^ t)
  grind, h.2.2⟩
theorem Bn.sum {M c : Nat} (h0 : 0 < M) : ∀ (xs : List Rat), (∀ x ∈ xs, Bn M c x) → Bn M (xs.length * c) xs.sum
  | [], _ => by simpa using Bn.zero
  | x :: xs, h => by
    have := (h x (by simp)).add h0 (Bn.sum h0 xs fun y hy => h y (by simp [hy]))
    rw [List.sum_cons, List.length_cons, Nat.succ_mul, Nat.add_comm]
    exact this
theorem Bn.fit {M c : Nat} {q : Rat} (h : Bn M c q) (hM : 0 < M) (hM1 : M < 2 ^ 4400) (hc : c < 2 ^ 4400) : Fit q := by
  by_cases h0 : 0 ≤ q
  · exact fit_le h.den h0 h.hi hM hM1 hc
  · have hn := h.neg
    have := fit_le hn.den (q := -q) (by grind) hn.hi hM hM1 hc
    have := this.neg
    rwa [Rat.neg_neg] at this
/-! list comprehensions that leave what nobody sees -/

theorem for_list {α : Type} {C : Or} {tg : TF} {body : SF} {gs : Guards} (enc : α → D) (I : List α → Env → Hv → Prop) (W : List α)
    (hg : ∀ pre env h, I pre env h → guardsOk gs h = true)
    (hs : ∀ pre x post env h, W = pre ++ x :: post → I pre env h → ∃ env1, tg (enc x) env h = some env1 ∧ ∃ env2 h2, body C env1 h = .nx env2 h2 ∧ I (pre ++ [x]) env2 h2) :
    ∀ (post pre : List α), W = pre ++ post → ∀ (env : Env) (h : Hv), I pre env h → ∃ env' h', forL C tg body gs (post.map enc) env h = .nx env' h' ∧ I W env' h'
  | [], pre, e, env, h, p => ⟨env, h, by simp [forL, hg _ _ _ p], by rw [e, List.append_nil]; exact p⟩
  | x :: post, pre, e, env, h, p => by
    obtain ⟨env1, e1, env2, h2, e2, p2⟩ := hs pre x post env h e p
    obtain ⟨env', h', e3, p3⟩ := for_list enc I W hg hs post (pre ++ [x]) (by rw [e]; simp) env2 h2 p2
    refine ⟨env', h', ?_, p3⟩
    rw [List.map_cons, forL, if_pos (hg _ _ _ p)]
    simp only [e1, e2, e3]
theorem itE_s {C : Or} {env : Env} {h : Hv} {a : EF} {d : D} {z : List D × Guards} (ha : a C env h = .ok d h) (hd : seqOf d h = some z) : itE a C env h = .ok z h := by
  simp only [itE, ha, bind_ok, hd]
theorem sum_snoc (xs : List Rat) (x : Rat) : (xs ++ [x]).sum = xs.sum + x := by simp [Rat.add_zero]
theorem mem_of_eq {α : Type} {W pre post : List α} {x : α} (e : W = pre ++ x :: post) : x ∈ W := by rw [e]; simp
theorem pre_fit {M c : Nat} {W pre post : List Rat} (e : W = pre ++ post) (h0 : 0 < M) (h1 : M < 2 ^ 4400) (hc : W.length * c < 2 ^ 4400) (hb : ∀ x ∈ W, Bn M c x) : Fit pre.sum := by
  have := Bn.sum h0 pre (fun x hx => hb x (by rw [e]; simp [hx]))
  refine this.fit h0 h1 (Nat.lt_of_le_of_lt (Nat.mul_le_mul_right c ?_) hc)
  rw [e]; simp
theorem all_of_ok (k M c : Nat) (xs : List Rat) (d : D) (gs : Guards) (h : Hv) (hd : seqOf d h = some (xs.map am, gs)) (hg : guardsOk gs h = true) (h0 : 0 < M) (h1 : M < 2 ^ 4400) (hc : (xs.length + 1) * c < 2 ^ 4400) (hb : ∀ x ∈ xs, Bn M c x) :
    callK T (k + 4) "all_of" [d] h = .ok (am xs.sum) h := by
  have hc' : xs.length * c < 2 ^ 4400 := Nat.lt_of_le_of_lt (Nat.mul_le_mul_right c (by omega)) hc
  obtain ⟨env', h', e, ⟨z, rfl⟩, rfl⟩ := for_list (C := callK T (k + 3)) (tg := nmT 2) (body := (seqS (asgS (nmT 1) (callF "plus" [(varF 1), (varF 2)])) nxS)) (gs := gs) am
    (fun pre env h1 => (∃ z, env = [some d, some (am pre.sum), z]) ∧ h1 = h) xs
    (by rintro pre env h1 ⟨_, rfl⟩; exact hg)
    (by
      rintro pre x post env h2 ew ⟨⟨z, rfl⟩, rfl⟩
      have fx := (hb x (mem_of_eq ew)).fit h0 h1 (Nat.lt_of_le_of_lt (by rw [ew]; simp [Nat.succ_mul, Nat.add_mul]) hc)
      have fp := pre_fit ew h0 h1 hc' hb
      have a := plus_ok k pre.sum x h2 fp fx
      refine ⟨[some d, some (am pre.sum), some (am x)], rfl, [some d, some (am (pre.sum + x)), some (am x)], h2, ?_, ⟨some (am x), by rw [sum_snoc]⟩, rfl⟩
      simp only [u_seq, u_asg, u_call, u_exp, u_if, u_ret, u_setS, u_par, u_nx, nxt_nx, nxt_rt, u_list, u_list0, u_var, u_con, u_bin, u_un1, u_and, u_or, u_chain, u_ite, u_blt, u_tup, u_lst, u_slc, u_opt, u_opt0, im_int, u_nm, u_tgs, u_tgs0, u_tupT, List.getElem?_cons_succ, List.getElem?_cons_zero, bind_ok, thenS_ok, thenI_ok, List.length_cons, List.length_nil, Nat.reduceAdd, Nat.reduceSub, Nat.reduceLT, Nat.reduceLeDiff, Nat.zero_le, if_true, om_some, List.set_cons_succ, List.set_cons_zero, bm_bl, Bool.not_true, Bool.not_false, Bool.false_eq_true, if_false, u_add, u_sub, u_neg, u_not, u_lt, u_le, u_gt, u_ge, u_eqI, u_neI, decide_true, decide_false, u_int, u_intb, methF, List.map_cons, List.map_nil, List.replicate, List.cons_append, List.nil_append, a])
    xs [] rfl [some d, some (am 0), none] h ⟨⟨none, by simp⟩, rfl⟩
  rw [callK_eq t_all_of]
  refine (run_rt rfl ?_).trans gc_same
  have hit : itE (varF 0) (callK T (k + 3)) [some d, some (am 0), none] h' = .ok (xs.map am, gs) h' := itE_s rfl hd
  have a0 : D.tup [.int 0, .int 1] = am 0 := rfl
  simp only [R_all_of, F_all_of, u_seq, u_asg, u_call, u_exp, u_if, u_ret, u_setS, u_par, u_nx, nxt_nx, nxt_rt, u_list, u_list0, u_var, u_con, u_bin, u_un1, u_and, u_or, u_chain, u_ite, u_blt, u_tup, u_lst, u_slc, u_opt, u_opt0, im_int, u_nm, u_tgs, u_tgs0, u_tupT, List.getElem?_cons_succ, List.getElem?_cons_zero, bind_ok, thenS_ok, thenI_ok, List.length_cons, List.length_nil, Nat.reduceAdd, Nat.reduceSub, Nat.reduceLT, Nat.reduceLeDiff, Nat.zero_le, if_true, om_some, List.set_cons_succ, List.set_cons_zero, bm_bl, Bool.not_true, Bool.not_false, Bool.false_eq_true, if_false, u_add, u_sub, u_neg, u_not, u_lt, u_le, u_gt, u_ge, u_eqI, u_neI, decide_true, decide_false, u_int, u_intb, methF, List.map_cons, List.map_nil, List.replicate, List.cons_append, List.nil_append, a0, u_for, hit, e]
theorem _law_sum_ok (k M c : Nat) (xs : List Rat) (d : D) (gs : Guards) (h : Hv) (hd : seqOf d h = some (xs.map am, gs)) (hg : guardsOk gs h = true) (h0 : 0 < M) (h1 : M < 2 ^ 4400) (hc : (xs.length + 1) * c < 2 ^ 4400) (hb : ∀ x ∈ xs, Bn M c x) :
    callK T (k + 4) "_law_sum" [d] h = .ok (am xs.sum) h := by
  have hc' : xs.length * c < 2 ^ 4400 := Nat.lt_of_le_of_lt (Nat.mul_le_mul_right c (by omega)) hc
  obtain ⟨env', h', e, ⟨z, rfl⟩, rfl⟩ := for_list (C := callK T (k + 3)) (tg := nmT 2) (body := (seqS (asgS (nmT 1) (callF "_law_plus" [(varF 1), (varF 2)])) nxS)) (gs := gs) am
    (fun pre env h1 => (∃ z, env = [some d, some (am pre.sum), z]) ∧ h1 = h) xs
    (by rintro pre env h1 ⟨_, rfl⟩; exact hg)
    (by
      rintro pre x post env h2 ew ⟨⟨z, rfl⟩, rfl⟩
      have fx := (hb x (mem_of_eq ew)).fit h0 h1 (Nat.lt_of_le_of_lt (by rw [ew]; simp [Nat.succ_mul, Nat.add_mul]) hc)
      have fp := pre_fit ew h0 h1 hc' hb
      have a := _law_plus_ok k pre.sum x h2 fp fx
      refine ⟨[some d, some (am pre.sum), some (am x)], rfl, [some d, some (am (pre.sum + x)), some (am x)], h2, ?_, ⟨some (am x), by rw [sum_snoc]⟩, rfl⟩
      simp only [u_seq, u_asg, u_call, u_exp, u_if, u_ret, u_setS, u_par, u_nx, nxt_nx, nxt_rt, u_list, u_list0, u_var, u_con, u_bin, u_un1, u_and, u_or, u_chain, u_ite, u_blt, u_tup, u_lst, u_slc, u_opt, u_opt0, im_int, u_nm, u_tgs, u_tgs0, u_tupT, List.getElem?_cons_succ, List.getElem?_cons_zero, bind_ok, thenS_ok, thenI_ok, List.length_cons, List.length_nil, Nat.reduceAdd, Nat.reduceSub, Nat.reduceLT, Nat.reduceLeDiff, Nat.zero_le, if_true, om_some, List.set_cons_succ, List.set_cons_zero, bm_bl, Bool.not_true, Bool.not_false, Bool.false_eq_true, if_false, u_add, u_sub, u_neg, u_not, u_lt, u_le, u_gt, u_ge, u_eqI, u_neI, decide_true, decide_false, u_int, u_intb, methF, List.map_cons, List.map_nil, List.replicate, List.cons_append, List.nil_append, a])
    xs [] rfl [some d, some (am 0), none] h ⟨⟨none, by simp⟩, rfl⟩
  rw [callK_eq t__law_sum]
  refine (run_rt rfl ?_).trans gc_same
  have hit : itE (varF 0) (callK T (k + 3)) [some d, some (am 0), none] h' = .ok (xs.map am, gs) h' := itE_s rfl hd
  have a0 : D.tup [.int 0, .int 1] = am 0 := rfl
  simp only [R__law_sum, F__law_sum, u_seq, u_asg, u_call, u_exp, u_if, u_ret, u_setS, u_par, u_nx, nxt_nx, nxt_rt, u_list, u_list0, u_var, u_con, u_bin, u_un1, u_and, u_or, u_chain, u_ite, u_blt, u_tup, u_lst, u_slc, u_opt, u_opt0, im_int, u_nm, u_tgs, u_tgs0, u_tupT, List.getElem?_cons_succ, List.getElem?_cons_zero, bind_ok, thenS_ok, thenI_ok, List.length_cons, List.length_nil, Nat.reduceAdd, Nat.reduceSub, Nat.reduceLT, Nat.reduceLeDiff, Nat.zero_le, if_true, om_some, List.set_cons_succ, List.set_cons_zero, bm_bl, Bool.not_true, Bool.not_false, Bool.false_eq_true, if_false, u_add, u_sub, u_neg, u_not, u_lt, u_le, u_gt, u_ge, u_eqI, u_neI, decide_true, decide_false, u_int, u_intb, methF, List.map_cons, List.map_nil, List.replicate, List.cons_append, List.nil_append, a0, u_for, hit, e]

/-! what holds behind each number of deeds -/
structure Facts (P K M : Nat) (s : Sta) : Prop where
  M0 : 0 < M
  M1 : M < 2 ^ 2930
  len : s.ls.length ≤ 21
  kd : ∀ l ∈ s.ls, l.k < K
  n : ∀ l ∈ s.ls, 0 ≤ l.n ∧ l.n < 2 ^ 140
  sl : ∀ l ∈ s.ls, l.sh.length = P
  sh : ∀ l ∈ s.ls, ∀ q ∈ l.sh, Bn M (2 ^ 17) q
  s0 : ∀ l ∈ s.ls, ∀ q ∈ l.sh, 0 ≤ q
  hl : s.hs.length = P
  hs : ∀ q ∈ s.hs, Bn M (2 ^ 17) q
  h0 : ∀ q ∈ s.hs, 0 ≤ q
theorem BkC.facts {n : Nat} {b : Bk} (c : BkC n b) (hn : n ≤ 17) (m : Nat) : ∃ M, Facts b.P b.K M (b.st m) := by
  obtain ⟨M, g⟩ := c.goodAt hn m
  have hl := c.len
  have gt := g.tot
  have tn := tot_nn g.nn
  have tb : ((4 : Int) + (min m b.ds.length : Nat)) * 2 ^ 131 ≤ 21 * 2 ^ 131 := Int.mul_le_mul_of_nonneg_right (by omega) (by decide)
  have pw : 2 ^ (min m b.ds.length) ≤ 2 ^ 17 := Nat.pow_le_pow_right (by decide) (by omega)
  refine ⟨M, g.M0, Nat.lt_of_lt_of_le g.M1 (Nat.pow_le_pow_right (by decide) (by omega)), by have := g.len; omega, g.kd, fun l hl => ⟨g.nn l hl, ?_⟩, fun l hl => (g.sh l hl).1, fun l hl q hq => (Bn.sq ((g.sh l hl).2 q hq)).mono (Nat.dvd_refl _) pw, fun l hl q hq => ((g.sh l hl).2 q hq).2.1, g.hs.1, fun q hq => (Bn.sq (g.hs.2 q hq)).mono (Nat.dvd_refl _) pw, fun q hq => (g.hs.2 q hq).2.1⟩
  have := tn.2 l hl
  have : tot (b.st m).ls ≤ 21 * 2 ^ 131 := Int.le_trans gt tb
  omega
theorem Facts.fit {P K M : Nat} {s : Sta} (F : Facts P K M s) {l : Ld} (hl : l ∈ s.ls) {p : Nat} (hp : p < P) : Fit (l.sh.getD p 0) :=
  (F.sh l hl _ (getD_mem (by rw [F.sl l hl]; exact hp))).fit F.M0 (Nat.lt_of_lt_of_le F.M1 (Nat.pow_le_pow_right (by decide) (by decide))) (Nat.pow_lt_pow_right (by decide) (by decide))
theorem Facts.part {P K M : Nat} {s : Sta} (F : Facts P K M s) {l : Ld} (hl : l ∈ s.ls) {p : Nat} (hp : p < P) : Bn M (2 ^ 157) ((l.n : Rat) * l.sh.getD p 0) := by
  have a := Bn.int (n := l.n) (c := 2 ^ 140) (by have := F.n l hl; omega)
  have := a.mul (F.sh l hl _ (getD_mem (by rw [F.sl l hl]; exact hp)))
  rwa [Nat.one_mul, ← Nat.pow_add] at this
section
variable {n : Nat} {b : Bk} (c : BkC n b) (hn : n ≤ 17)
include c hn
end
/-! the stock -/
def stock1 (ls : List Ld) (kd : Nat) : Int := ((ls.filter fun l => decide ((l.k : Int) = kd)).map fun l => l.n).sum
def stock (K : Nat) (ls : List Ld) : List Int := (List.range K).map (stock1 ls)
section
variable {n : Nat} {b : Bk} (c : BkC n b) (hn : n ≤ 17)
include c hn
end

/-! shares stay a whole -/
theorem mkRat_inv (w : Nat) (h : 0 < w) : (w : Rat) * mkRat 1 w = 1 := by
  rw [Rat.mkRat_eq_div]
  have : ((w : Nat) : Rat) ≠ 0 := by exact_mod_cast Nat.ne_of_gt h
  grind

theorem StatesAt.ext {h : Hv} {b : Bk} {sp : Nat} {f : Nat → Nat} {j : Nat} (s : StatesAt h b sp f j) (e : Hv) : StatesAt (h ++ e) b sp f j :=
  ⟨row_old s.top, fun m hm => row_old (s.row m hm)⟩
/-- a def that makes lists that nobody sees -/
theorem fn_app {f : Str} {r : FnRec} {k : Nat} {args : List D} {h g : Hv} {d : D} (t : T f = some r) (hn : args.length = r.np) (hb : r.body (callK T k) (args.map some ++ List.replicate (r.nl - r.np) none) h = .rt d (h ++ g)) (hd : d.gr = true) : callK T (k + 1) f args h = .ok d h := by
  rw [callK_eq t]
  exact (run_rt hn hb).trans (gc_app hd)
theorem fn_same {f : Str} {r : FnRec} {k : Nat} {args : List D} {h : Hv} {d : D} (t : T f = some r) (hn : args.length = r.np) (hb : r.body (callK T k) (args.map some ++ List.replicate (r.nl - r.np) none) h = .rt d h) : callK T (k + 1) f args h = .ok d h := by
  rw [callK_eq t]
  exact (run_rt hn hb).trans gc_same
/-- what does not hang on shares -/
def Alike (s u : Sta) : Prop := s.ls.map (fun l => (l.k, l.n)) = u.ls.map (fun l => (l.k, l.n)) ∧ s.nums = u.nums
theorem Alike.len {s u : Sta} (a : Alike s u) : s.ls.length = u.ls.length := by simpa using congrArg List.length a.1
theorem Alike.at {s u : Sta} (a : Alike s u) (i : Nat) : (at_ s.ls i).k = (at_ u.ls i).k ∧ (at_ s.ls i).n = (at_ u.ls i).n := by
  by_cases hi : i < s.ls.length
  · have h1 := congrArg (·[i]?) a.1
    simp only [List.getElem?_map] at h1
    rw [at_some hi, at_some (by rw [← a.len]; exact hi)] at h1
    simpa using h1
  · have hi2 : ¬ i < u.ls.length := by rw [← a.len]; exact hi
    simp [at_, hi, hi2]
theorem Alike.can {P K : Nat} {s u : Sta} (a : Alike s u) {d : Dd} (c : Can P K s d) : Can P K u d := by
  have l := a.len
  cases d with
  | bring p k n => exact c
  | pool i j =>
    obtain ⟨c1, c2, c3, c4, c5, c6⟩ := c
    have x := a.at i
    have y := a.at j
    exact ⟨c1, by omega, by omega, by omega, by omega, by omega⟩
  | swap i g k n =>
    obtain ⟨c1, c2, c3, c4, c5, c6⟩ := c
    have x := a.at i
    exact ⟨by omega, c2, by omega, c4, by omega, c6⟩
  | trade no i g k n =>
    obtain ⟨c0, c1, c2, c3, c4, c5, c6⟩ := c
    have x := a.at i
    exact ⟨by rw [← a.2]; exact c0, by omega, c2, by omega, c4, by omega, c6⟩
  | spoil i n =>
    obtain ⟨c1, c2, c3⟩ := c
    have x := a.at i
    exact ⟨by omega, c2, by omega⟩
  | throw i n ws w =>
    obtain ⟨c1, c2, c3, c4⟩ := c
    have x := a.at i
    exact ⟨by omega, c2, by omega, c4⟩
  | sell p q part => exact c
theorem alike_less {s u : List Ld} (a : s.map (fun l => (l.k, l.n)) = u.map (fun l => (l.k, l.n))) (i : Nat) (l l' : Ld) (m m' : Int) (hk : l.k = l'.k) (hm : l.n - m = l'.n - m') : (lessL s i l m).map (fun l => (l.k, l.n)) = (lessL u i l' m').map (fun l => (l.k, l.n)) := by
  simp only [lessL, List.map_set, a, hk, hm]
theorem Alike.after {P : Nat} {B : Int} {s u : Sta} (a : Alike s u) (d : Dd) : Alike (after1 P B s d) (after1 P B u d) := by
  cases d with
  | bring p k n => exact ⟨by simp [after1, a.1], a.2⟩
  | pool i j =>
    have x := a.at i
    have y := a.at j
    refine ⟨?_, a.2⟩
    simp only [after1, List.map_append, List.map_cons, List.map_nil]
    rw [alike_less (alike_less a.1 i _ _ (at_ s.ls i).n (at_ u.ls i).n x.1 (by omega)) j _ _ (at_ s.ls j).n (at_ u.ls j).n y.1 (by omega), x.1, x.2, y.2]
  | swap i g k n =>
    have x := a.at i
    refine ⟨?_, a.2⟩
    simp only [after1, List.map_append, List.map_cons, List.map_nil]
    rw [alike_less a.1 i _ _ g g x.1 (by omega)]
  | trade no i g k n =>
    have x := a.at i
    refine ⟨?_, by simp [after1, a.2]⟩
    simp only [after1, List.map_append, List.map_cons, List.map_nil]
    rw [alike_less a.1 i _ _ g g x.1 (by omega)]
  | spoil i n =>
    have x := a.at i
    exact ⟨alike_less a.1 i _ _ _ _ x.1 (by omega), a.2⟩
  | throw i n ws w =>
    have x := a.at i
    refine ⟨?_, a.2⟩
    simp only [after1, thrL, List.map_map, Function.comp_def]
    exact alike_less a.1 i _ _ _ _ x.1 (by omega)
  | sell p q part => exact ⟨by simp only [after1, solL, List.map_map, Function.comp_def]; exact a.1, a.2⟩
theorem Alike.sell {P : Nat} {B : Int} (s : Sta) (p q : Nat) (part : Rat) : Alike (after1 P B s (.sell p q part)) s := ⟨by simp only [after1, solL, List.map_map, Function.comp_def], rfl⟩
theorem Alike.trans {s u v : Sta} (a : Alike s u) (b : Alike u v) : Alike s v := ⟨a.1.trans b.1, a.2.trans b.2⟩
theorem Alike.symm {s u : Sta} (a : Alike s u) : Alike u s := ⟨a.1.symm, a.2.symm⟩
theorem Alike.cans {P K : Nat} {B : Int} : ∀ {ds : List Dd} {s u : Sta}, Alike s u → Cans P K B s ds → Cans P K B u ds
  | [], _, _, _, _ => trivial
  | d :: ds, _, _, a, c => ⟨a.can c.1, (a.after d).cans c.2⟩
def Dd.isSell : Dd → Bool
  | .sell .. => true
  | _ => false
theorem BkT.ds {b : Bk} (t : BkT b) (ds : List Dd) : BkT { b with ds := ds } := ⟨t.P, t.K, t.B, t.x, t.y, t.hold, t.one, t.good⟩
/-- a book without one of its deeds -/
def Bk.out (b : Bk) (i : Nat) : Bk := { b with ds := b.ds.take i ++ b.ds.drop (i + 1) }
theorem BkC.out {n : Nat} {b : Bk} (c : BkC n b) {i : Nat} (hi : i < b.ds.length) (hs : b.ds[i].isSell = true) : BkC n (b.out i) := by
  have hl := c.len
  refine ⟨c.toBkT.ds _, by simp [Bk.out]; omega, ?_⟩
  have hc := c.cans
  rw [← List.take_append_drop i b.ds, List.drop_eq_getElem_cons hi] at hc
  obtain ⟨h1, h2, h3⟩ := cans_app.1 hc
  refine cans_app.2 ⟨h1, ?_⟩
  cases hd : b.ds[i] with
  | sell p q part =>
    rw [hd] at h3
    exact (Alike.sell _ p q part).cans h3
  | _ => rw [hd] at hs; cases hs

theorem ix_ds {ds : List Dd} {i : Nat} (hi : i < ds.length) (h : Hv) : opIx (.tup (ds.map Dd.d)) (.int i) h = .ok ds[i].d h := by
  rw [ix_tup, at_nat, List.getElem?_map, List.getElem?_eq_getElem hi]; rfl
section
variable {n : Nat} {b : Bk} (c : BkC n b) (hn : n ≤ 17)
include c hn
end


/-! throws, and how all bear them -/
structure WsOk (K : Nat) (ws : List Int) (w : Int) : Prop where
  len : ws.length = K
  bd : ∀ v ∈ ws, 1 ≤ v ∧ v ≤ 99
  w : 1 ≤ w ∧ w ≤ 99
theorem WsOk.at {K : Nat} {ws : List Int} {w : Int} (o : WsOk K ws w) {i : Nat} (hi : i < K) : (ws ++ [w])[i]? = some (ws.getD i 0) ∧ 1 ≤ ws.getD i 0 ∧ ws.getD i 0 ≤ 99 := by
  have h1 : i < ws.length := by rw [o.len]; exact hi
  have e : ws.getD i 0 = ws[i] := by simp [h1]
  refine ⟨by rw [List.getElem?_append_left h1, e]; exact List.getElem?_eq_getElem h1, ?_⟩
  rw [e]; exact o.bd _ (List.getElem_mem h1)
section
variable {n : Nat} {b : Bk} (c : BkC n b) (hn : n ≤ 17) {ws : List Int} {w : Int} (o : WsOk b.K ws w)
include c hn o
end
/-- the throw at a place -/
structure ThrAt (b : Bk) (i a : Nat) (n : Int) (ws : List Int) (w : Int) : Prop where
  lt : i < b.ds.length
  d : b.ds[i] = .throw a n ws w
theorem ThrAt.ix {b : Bk} {i a : Nat} {m : Int} {ws : List Int} {w : Int} (t : ThrAt b i a m ws w) (h : Hv) : opIx (.tup (b.ds.map Dd.d)) (.int i) h = .ok (thD a m (ws ++ [w])) h := by
  rw [ix_ds t.lt, t.d]; rfl
section
variable {n : Nat} {b : Bk} (c : BkC n b) (hn : n ≤ 17) {i a : Nat} {m : Int} {ws : List Int} {w : Int} (ta : ThrAt b i a m ws w)
include c hn ta
end

theorem StatesAt.at {h : Hv} {b : Bk} {sp : Nat} {f : Nat → Nat} {j : Nat} (s : StatesAt h b sp f j) {i : Nat} (hi : i ≤ j) : opIx (.ref sp) (.int i) h = .ok (.tup [.ref (f i), shD (b.st i).hs]) h := by
  rw [ix_ref _ _ _ _ s.top, at_nat, List.getElem?_map, List.getElem?_range (by omega)]; rfl
section
variable {n : Nat} {b : Bk} (c : BkC n b) (hn : n ≤ 17) {i a : Nat} {m : Int} {ws : List Int} {w : Int} (ta : ThrAt b i a m ws w)
include c hn ta
end



theorem Sh.bn {N : Nat} {q : Rat} (h : Sh N q) : Bn N 1 q := ⟨h.1, by have := h.2.1; grind, by have := h.2.2; simpa using this⟩
theorem sl2 (l : Ld) (h : Hv) : opSl (ldD l) none (some 2) h = .ok (.tup [.int l.k, .int l.n]) h := by rfl

/-! what each would have had alone -/
def alPart (ls : List Ld) (mine : List Rat) (a : Nat) : Rat := mine.getD a 0 * mkRat 1 (at_ ls a).n.toNat
def alGive (ls : List Ld) (mine : List Rat) (a : Nat) (g : Int) : List Rat := mine.set a (mine.getD a 0 - (g : Rat) * alPart ls mine a)
def alStep (p : Nat) (ls : List Ld) (mine : List Rat) : Dd → List Rat
  | .bring q k n => mine ++ [if q = p then (n : Rat) else 0]
  | .pool a b => ((mine ++ [mine.getD a 0 + mine.getD b 0]).set a 0).set b 0
  | .swap a g k n => alGive ls mine a g ++ [(n : Rat) * alPart ls mine a]
  | .trade no a g k n => alGive ls mine a g ++ [(n : Rat) * alPart ls mine a]
  | .spoil a m => alGive ls mine a m
  | .throw a m ws w => alGive ls mine a m
  | .sell p q part => mine
def alone (b : Bk) (p : Nat) : Nat → List Rat
  | 0 => b.ls.map fun l => (l.n : Rat) * l.sh.getD p 0
  | m + 1 => match b.ds[m]? with
    | some d => alStep p (b.st m).ls (alone b p m) d
    | none => alone b p m
structure Al (M : Nat) (s : Sta) (mine : List Rat) : Prop where
  len : mine.length = s.ls.length
  bd : ∀ i, i < s.ls.length → (mine.getD i 0).den ∣ M ∧ 0 ≤ mine.getD i 0 ∧ mine.getD i 0 ≤ (((at_ s.ls i).n : Int) : Rat)
  M0 : 0 < M
theorem getD_set_eq {xs : List Rat} {a : Nat} {x : Rat} (h : a < xs.length) : (xs.set a x).getD a 0 = x := by simp [h]
theorem getD_set_ne {xs : List Rat} {a i : Nat} {x : Rat} (h : a ≠ i) : (xs.set a x).getD i 0 = xs.getD i 0 := by
  simp [List.getElem?_set_ne h]
theorem getD_app_lt {xs ys : List Rat} {i : Nat} (h : i < xs.length) : (xs ++ ys).getD i 0 = xs.getD i 0 := by simp [List.getElem?_append_left h]
theorem getD_app_at {xs : List Rat} {x : Rat} : (xs ++ [x]).getD xs.length 0 = x := by simp
theorem at_app_lt {xs ys : List Ld} {i : Nat} (h : i < xs.length) : at_ (xs ++ ys) i = at_ xs i := by simp [at_, List.getElem?_append_left h]
theorem at_app_at {xs : List Ld} {x : Ld} : at_ (xs ++ [x]) xs.length = x := by simp [at_]
theorem at_less_eq {ls : List Ld} {a : Nat} {l : Ld} {m : Int} (h : a < ls.length) : at_ (lessL ls a l m) a = ⟨l.k, l.n - m, l.sh⟩ := by simp [at_, lessL, h]
theorem at_less_ne {ls : List Ld} {a i : Nat} {l : Ld} {m : Int} (h : a ≠ i) : at_ (lessL ls a l m) i = at_ ls i := by simp [at_, lessL, List.getElem?_set_ne h]
theorem len_less {ls : List Ld} {a : Nat} {l : Ld} {m : Int} : (lessL ls a l m).length = ls.length := by simp [lessL]
theorem part_facts2 {M : Nat} {s : Sta} {mine : List Rat} (al : Al M s mine) {a : Nat} (ha : a < s.ls.length) (hn : 1 ≤ (at_ s.ls a).n) : ∃ N : Nat, ((at_ s.ls a).n : Int) = N ∧ 0 < N ∧ alPart s.ls mine a = mine.getD a 0 * mkRat 1 N ∧ (alPart s.ls mine a).den ∣ M * N ∧ 0 ≤ alPart s.ls mine a ∧ alPart s.ls mine a ≤ 1 ∧ alPart s.ls mine a * (N : Rat) = mine.getD a 0 := by
  obtain ⟨N, eN⟩ := Int.eq_ofNat_of_zero_le (a := (at_ s.ls a).n) (by omega)
  have N0 : 0 < N := by omega
  have eT : (at_ s.ls a).n.toNat = N := by omega
  have e : alPart s.ls mine a = mine.getD a 0 * mkRat 1 N := by rw [alPart, eT]
  obtain ⟨d1, d2, d3⟩ := al.bd a ha
  rw [eN, rcast] at d3
  have i1 := mkRat_inv N N0
  have i0 : 0 ≤ mkRat 1 N := by
    rw [← Rat.num_nonneg, (one_num N N0).1]; decide
  refine ⟨N, eN, N0, e, ?_, ?_, ?_, ?_⟩
  · rw [e]
    refine Nat.dvd_trans (den_mul_dvd _ _) (Nat.mul_dvd_mul d1 ?_)
    rw [(one_num N N0).2]; exact Nat.dvd_refl _
  · rw [e]; exact Rat.mul_nonneg d2 i0
  · rw [e]
    have := Rat.mul_le_mul_of_nonneg_right d3 i0
    grind
  · rw [e]; grind
theorem al_give {M P K t Mg : Nat} {s : Sta} {mine : List Rat} (al : Al M s mine) (g : Good P K t Mg s) {a : Nat} {m : Int} (ha : a < s.ls.length) (m1 : 1 ≤ m) (m2 : m ≤ (at_ s.ls a).n) :
    ∃ N : Nat, 0 < N ∧ ((at_ s.ls a).n : Int) = N ∧ Al (M * N) ⟨lessL s.ls a (at_ s.ls a) m, s.hs, s.nums⟩ (alGive s.ls mine a m) ∧ (alPart s.ls mine a).den ∣ M * N ∧ 0 ≤ alPart s.ls mine a ∧ alPart s.ls mine a ≤ 1 := by
  obtain ⟨N, eN, N0, e, q1, q2, q3, q4⟩ := part_facts2 al ha (by omega)
  refine ⟨N, N0, eN, ⟨by simp [alGive, lessL, al.len], fun i hi => ?_, Nat.mul_pos al.M0 N0⟩, q1, q2, q3⟩
  rw [len_less] at hi
  by_cases ei : a = i
  · subst ei
    simp only [alGive]
    rw [getD_set_eq (by rw [al.len]; exact ha), at_less_eq ha]
    generalize alPart s.ls mine a = pt at *
    obtain ⟨d1, d2, d3⟩ := al.bd a ha
    have e2 : mine.getD a 0 - (m : Rat) * pt = (((at_ s.ls a).n - m : Int) : Rat) * pt := by
      rw [Rat.intCast_sub, eN, rcast, ← q4]; grind
    rw [e2]
    have nn : (0 : Rat) ≤ (((at_ s.ls a).n - m : Int) : Rat) := by
      have : (0 : Int) ≤ (at_ s.ls a).n - m := by omega
      exact_mod_cast this
    refine ⟨?_, Rat.mul_nonneg nn q2, ?_⟩
    · have := den_mul_dvd (((at_ s.ls a).n - m : Int) : Rat) pt
      rw [Rat.den_intCast, Nat.one_mul] at this
      exact Nat.dvd_trans this q1
    · have := Rat.mul_le_mul_of_nonneg_left q3 nn
      grind
  · simp only [alGive]
    rw [getD_set_ne ei, at_less_ne ei]
    obtain ⟨d1, d2, d3⟩ := al.bd i hi
    exact ⟨Nat.dvd_trans d1 (Nat.dvd_mul_right ..), d2, d3⟩
theorem Al.more {M N : Nat} {s : Sta} {mine : List Rat} (al : Al M s mine) {l : Ld} {x : Rat} (h0 : 0 < N) (hd : M ∣ N) (x1 : x.den ∣ N) (x2 : 0 ≤ x) (x3 : x ≤ ((l.n : Int) : Rat)) (hs : List Rat) (nums : List Int) : Al N ⟨s.ls ++ [l], hs, nums⟩ (mine ++ [x]) := by
  refine ⟨by simp [al.len], fun i hi => ?_, h0⟩
  simp only [List.length_append, List.length_singleton] at hi
  by_cases e : i < s.ls.length
  · obtain ⟨d1, d2, d3⟩ := al.bd i e
    rw [getD_app_lt (by rw [al.len]; exact e), at_app_lt e]
    exact ⟨Nat.dvd_trans d1 hd, d2, d3⟩
  · have : i = s.ls.length := by omega
    subst this
    rw [at_app_at, ← al.len, getD_app_at]
    exact ⟨x1, x2, x3⟩
theorem al_step {M P K t Mg : Nat} {B : Int} {s : Sta} {mine : List Rat} (al : Al M s mine) (g : Good P K t Mg s) (ht : t ≤ 16) {d : Dd} (c : Can P K s d) (p : Nat) : ∃ M', M' ≤ M * 2 ^ 140 ∧ Al M' (after1 P B s d) (alStep p s.ls mine d) := by
  have nb : ∀ a, a < s.ls.length → (at_ s.ls a).n ≤ 2 ^ 140 := fun a ha => by
    have := (tot_nn g.nn).2 _ (at_mem ha)
    have gt := g.tot
    have tb : ((4 : Int) + t) * 2 ^ 131 ≤ 20 * 2 ^ 131 := Int.mul_le_mul_of_nonneg_right (by omega) (by decide)
    omega
  have big : ∀ {N : Nat} {a : Nat}, a < s.ls.length → ((at_ s.ls a).n : Int) = N → M * N ≤ M * 2 ^ 140 := fun {N a} ha e => Nat.mul_le_mul_left _ (by have := nb a ha; omega)
  have M1 : M ≤ M * 2 ^ 140 := Nat.le_mul_of_pos_right _ (Nat.two_pow_pos _)
  have icast : ∀ n : Int, 0 ≤ n → (0 : Rat) ≤ (n : Rat) := fun n h => by exact_mod_cast h
  have sw : ∀ (a : Nat) (gv : Int) (kd : Nat) (n : Int) (nums : List Int), a < s.ls.length → 1 ≤ gv → gv ≤ (at_ s.ls a).n → 1 ≤ n → ∃ M', M' ≤ M * 2 ^ 140 ∧ Al M' ⟨lessL s.ls a (at_ s.ls a) gv ++ [⟨kd, n, (at_ s.ls a).sh⟩], s.hs, nums⟩ (alGive s.ls mine a gv ++ [(n : Rat) * alPart s.ls mine a]) := by
    intro a gv kd n nums ha g1 g2 n1
    obtain ⟨N, N0, eN, al2, q1, q2, q3⟩ := al_give al g ha g1 g2
    refine ⟨M * N, big ha eN, al2.more al2.M0 (Nat.dvd_refl _) ?_ (Rat.mul_nonneg (icast n (by omega)) q2) ?_ _ _⟩
    · have := den_mul_dvd (n : Rat) (alPart s.ls mine a)
      rw [Rat.den_intCast, Nat.one_mul] at this
      exact Nat.dvd_trans this q1
    · have := Rat.mul_le_mul_of_nonneg_left q3 (icast n (by omega))
      show (n : Rat) * alPart s.ls mine a ≤ (n : Rat)
      grind
  cases d with
  | bring q kd n =>
    refine ⟨M, M1, al.more al.M0 (Nat.dvd_refl _) ?_ ?_ ?_ _ _⟩
    · split
      · rw [Rat.den_intCast]; exact Nat.one_dvd _
      · exact Nat.one_dvd _
    · split
      · exact icast n (by have := c.2.2.1; omega)
      · decide
    · show (if q = p then (n : Rat) else 0) ≤ (n : Rat)
      split
      · grind
      · exact icast n (by have := c.2.2.1; omega)
  | pool a b =>
    obtain ⟨hab, ha, hb, n1, n2, hk⟩ := c
    obtain ⟨a1, a2, a3⟩ := al.bd a ha
    obtain ⟨b1, b2, b3⟩ := al.bd b hb
    refine ⟨M, M1, ?_⟩
    have len := al.len
    have key : ∀ i, i < s.ls.length → (((mine ++ [mine.getD a 0 + mine.getD b 0]).set a 0).set b 0).getD i 0 = if i = b then 0 else if i = a then 0 else mine.getD i 0 := fun i hi => by
      by_cases e1 : i = b
      · subst e1
        rw [getD_set_eq (by simp; omega), if_pos rfl]
      · rw [getD_set_ne (Ne.symm e1), if_neg e1]
        by_cases e2 : i = a
        · subst e2
          rw [getD_set_eq (by simp; omega), if_pos rfl]
        · rw [getD_set_ne (Ne.symm e2), if_neg e2, getD_app_lt (by omega)]
    refine ⟨by simp [alStep, after1, lessL, len], fun i hi => ?_, al.M0⟩
    have hi : i < ((lessL (lessL s.ls a (at_ s.ls a) (at_ s.ls a).n) b (at_ s.ls b) (at_ s.ls b).n) ++ [(⟨(at_ s.ls a).k, (at_ s.ls a).n + (at_ s.ls b).n, plS (at_ s.ls a).n (at_ s.ls b).n (at_ s.ls a).sh (at_ s.ls b).sh⟩ : Ld)]).length := hi
    show _ ∧ _ ∧ _ ≤ (((at_ ((lessL (lessL s.ls a (at_ s.ls a) (at_ s.ls a).n) b (at_ s.ls b) (at_ s.ls b).n) ++ [(⟨(at_ s.ls a).k, (at_ s.ls a).n + (at_ s.ls b).n, plS (at_ s.ls a).n (at_ s.ls b).n (at_ s.ls a).sh (at_ s.ls b).sh⟩ : Ld)]) i).n : Int) : Rat)
    simp only [List.length_append, len_less, List.length_singleton] at hi
    by_cases e : i < s.ls.length
    · rw [at_app_lt (by rw [len_less, len_less]; exact e)]
      simp only [alStep]
      rw [key i e]
      by_cases e1 : i = b
      · subst e1
        rw [if_pos rfl, at_less_eq (by rw [len_less]; exact hb)]
        refine ⟨Nat.one_dvd _, by decide, ?_⟩
        show (0 : Rat) ≤ (((at_ s.ls i).n - (at_ s.ls i).n : Int) : Rat)
        rw [Int.sub_self]; decide
      · rw [if_neg e1, at_less_ne (Ne.symm e1)]
        by_cases e2 : i = a
        · subst e2
          rw [if_pos rfl, at_less_eq ha]
          refine ⟨Nat.one_dvd _, by decide, ?_⟩
          show (0 : Rat) ≤ (((at_ s.ls i).n - (at_ s.ls i).n : Int) : Rat)
          rw [Int.sub_self]; decide
        · rw [if_neg e2, at_less_ne (Ne.symm e2)]
          exact al.bd i e
    · have ei : i = s.ls.length := by omega
      subst ei
      have eq : (lessL (lessL s.ls a (at_ s.ls a) (at_ s.ls a).n) b (at_ s.ls b) (at_ s.ls b).n).length = s.ls.length := by rw [len_less, len_less]
      simp only [alStep]
      rw [getD_set_ne (by omega), getD_set_ne (by omega)]
      have e1 := at_app_at (xs := lessL (lessL s.ls a (at_ s.ls a) (at_ s.ls a).n) b (at_ s.ls b) (at_ s.ls b).n) (x := ⟨(at_ s.ls a).k, (at_ s.ls a).n + (at_ s.ls b).n, plS (at_ s.ls a).n (at_ s.ls b).n (at_ s.ls a).sh (at_ s.ls b).sh⟩)
      rw [eq] at e1
      have e2 := getD_app_at (xs := mine) (x := mine.getD a 0 + mine.getD b 0)
      rw [len] at e2
      rw [e1, e2]
      refine ⟨den_add_dvd al.M0 a1 b1, by grind, ?_⟩
      show _ ≤ (((at_ s.ls a).n + (at_ s.ls b).n : Int) : Rat)
      rw [Rat.intCast_add]
      grind
  | swap a gv kd n => exact sw a gv kd n _ c.1 c.2.1 c.2.2.1 c.2.2.2.2.2.1
  | trade no a gv kd n => exact sw a gv kd n _ c.2.1 c.2.2.1 c.2.2.2.1 c.2.2.2.2.2.2.1
  | spoil a m =>
    obtain ⟨N, N0, eN, al2, _⟩ := al_give al g c.1 c.2.1 c.2.2
    exact ⟨M * N, big c.1 eN, al2⟩
  | throw a m ws w =>
    obtain ⟨N, N0, eN, al2, _⟩ := al_give al g c.1 c.2.1 c.2.2.1
    refine ⟨M * N, big c.1 eN, ?_⟩
    have ak : Alike (⟨lessL s.ls a (at_ s.ls a) m, s.hs, s.nums⟩ : Sta) (after1 P B s (.throw a m ws w)) := ⟨by simp [after1, thrL, List.map_map, Function.comp_def], rfl⟩
    exact ⟨by rw [← ak.len]; exact al2.len, fun i hi => by
      rw [← ak.len] at hi
      rw [← (ak.at i).2]; exact al2.bd i hi, al2.M0⟩
  | sell p' q part =>
    refine ⟨M, M1, ?_⟩
    have ak := (Alike.sell (P := P) (B := B) s p' q part).symm
    exact ⟨by rw [← ak.len]; exact al.len, fun i hi => by
      rw [← ak.len] at hi
      rw [← (ak.at i).2]; exact al.bd i hi, al.M0⟩
theorem BkC.alone {n : Nat} {b : Bk} (c : BkC n b) (hn : n ≤ 17) {p : Nat} (hp : p < b.P) : ∀ m, m ≤ b.ds.length → ∃ M, M < 2 ^ (60 + 140 * m) ∧ Al M (b.st m) (alone b p m)
  | 0, _ => by
    obtain ⟨M, g⟩ := c.goodAt hn 0
    rw [Nat.zero_min] at g
    refine ⟨M, g.M1, ⟨by simp [VM.alone, Bk.st, runS, Bk.s0], fun i hi => ?_, g.M0⟩⟩
    have e0 : (b.st 0).ls = b.ls := rfl
    rw [e0] at hi ⊢
    have hl : at_ b.ls i ∈ b.ls := at_mem hi
    have gs := g.sh _ (e0 ▸ hl)
    have sq := gs.2 _ (getD_mem (p := p) (by rw [gs.1]; exact hp))
    have nn := g.nn _ (e0 ▸ hl)
    have em : (VM.alone b p 0).getD i 0 = (((at_ b.ls i).n : Int) : Rat) * (at_ b.ls i).sh.getD p 0 := by
      simp [VM.alone, hi, at_]
    rw [em]
    have nn' : (0 : Rat) ≤ (((at_ b.ls i).n : Int) : Rat) := by exact_mod_cast nn
    refine ⟨?_, Rat.mul_nonneg nn' sq.2.1, ?_⟩
    · have := den_mul_dvd (((at_ b.ls i).n : Int) : Rat) ((at_ b.ls i).sh.getD p 0)
      rw [Rat.den_intCast, Nat.one_mul] at this
      exact Nat.dvd_trans this sq.1
    · have h1 : (at_ b.ls i).sh.getD p 0 ≤ 1 := by
        have h2 := sq.2.2
        have e : ((2 ^ 0 : Nat) : Rat) = 1 := by decide +kernel
        rw [e] at h2
        exact h2
      have := Rat.mul_le_mul_of_nonneg_left h1 nn'
      grind
  | m + 1, hm => by
    obtain ⟨M, hM, al⟩ := BkC.alone c hn hp m (by omega)
    obtain ⟨Mg, g⟩ := c.goodAt hn m
    have cl := c.len
    obtain ⟨cd, es⟩ := c.canAt (m := m) (by omega)
    obtain ⟨M', h1, al2⟩ := al_step (B := b.B) al g (by omega) cd p
    refine ⟨M', ?_, ?_⟩
    · refine Nat.lt_of_le_of_lt h1 ?_
      have := Nat.mul_lt_mul_of_pos_right hM (Nat.two_pow_pos 140)
      rw [← Nat.pow_add] at this
      exact Nat.lt_of_lt_of_le this (Nat.pow_le_pow_right (by decide) (by omega))
    · rw [es]
      have : VM.alone b p (m + 1) = alStep p (b.st m).ls (VM.alone b p m) b.ds[m] := by
        rw [VM.alone, List.getElem?_eq_getElem (by omega)]
      rw [this]
      exact al2

theorem Al.bn {M : Nat} {s : Sta} {mine : List Rat} (al : Al M s mine) {a : Nat} (ha : a < s.ls.length) (hn : (at_ s.ls a).n ≤ 2 ^ 140) : Bn M (2 ^ 140) (mine.getD a 0) := by
  obtain ⟨d1, d2, d3⟩ := al.bd a ha
  refine ⟨d1, ?_, ?_⟩
  · have := rat_nat_nn (2 ^ 140); grind
  · have : (((at_ s.ls a).n : Int) : Rat) ≤ (((2 ^ 140 : Nat) : Int) : Rat) := Rat.intCast_le_intCast.2 (by omega)
    rw [rcast] at this
    grind
section
variable {M P K t Mg : Nat} {s : Sta} {mine : List Rat} (al : Al M s mine) (hM : M < 2 ^ 3000) (F : Facts P K Mg s)
include al hM F
end

theorem Bk.len2 (b : Bk) (h : Hv) : bLen [.tup (b.ds.map Dd.d)] h = .ok (.int b.ds.length) h := by simp
/-- what of a kind, of loads with amounts -/
def kf (zs : List (Ld × Rat)) (kd : Nat) : Rat := ((zs.filter fun z => decide ((z.1.k : Int) = kd)).map fun z => z.2).sum
def kinds (K : Nat) (zs : List (Ld × Rat)) : List Rat := (List.range K).map (kf zs)
section
variable {n : Nat} {b : Bk} (c : BkC n b) (hn : n ≤ 17)
include c hn
end

section
variable {M P K t Mg : Nat} {s : Sta} {mine : List Rat} (al : Al M s mine) (hM : M < 2 ^ 3000) (F : Facts P K Mg s)
include al hM F
end
section
variable {n : Nat} {b : Bk} (c : BkC n b) (hn : n ≤ 17)
include c hn
end


def Dd.makes : Dd → Bool
  | .bring .. => true
  | .pool .. => true
  | .swap .. => true
  | .trade .. => true
  | _ => false
/-! home -/
def due1 (x : Int) (s : Sta) (p : Nat) (l : Ld) : Rat := (l.n : Rat) * (l.sh.getD p 0 * mkRat (10 - x) 10 + s.hs.getD p 0 * mkRat x 10)
def dues (b : Bk) (p : Nat) : List Rat := (b.st b.ds.length).ls.map (due1 b.x (b.st b.ds.length) p)
section
variable {n : Nat} {b : Bk} (c : BkC n b) (hn : n ≤ 17)
include c hn
end
structure PrOk (K : Nat) (ws : List Int) : Prop where
  len : ws.length = K
  bd : ∀ v ∈ ws, 1 ≤ v ∧ v ≤ 99
theorem PrOk.at {K : Nat} {ws : List Int} (o : PrOk K ws) {i : Nat} (hi : i < K) : ws[i]? = some (ws.getD i 0) ∧ 1 ≤ ws.getD i 0 ∧ ws.getD i 0 ≤ 99 := by
  have h1 : i < ws.length := by rw [o.len]; exact hi
  have e : ws.getD i 0 = ws[i] := by simp [h1]
  refine ⟨by rw [e]; exact List.getElem?_eq_getElem h1, ?_⟩
  rw [e]; exact o.bd _ (List.getElem_mem h1)

/-! what was put in, and accounts -/
def putD (p : Nat) (ws : List Int) : Dd → Option Rat
  | .bring q k n => if q = p then some ((n * ws.getD k 0 : Int) : Rat) else none
  | _ => none
def putL (b : Bk) (p : Nat) (ws : List Int) : List Rat := (b.ls.map fun l => ((l.n * ws.getD l.k 0 : Int) : Rat) * l.sh.getD p 0) ++ b.ds.filterMap (putD p ws)
section
variable {n : Nat} {b : Bk} (c : BkC n b) (hn : n ≤ 17) {ws : List Int} (o : PrOk b.K ws)
include c hn o
end
/-- what all is worth at home -/
def worthL (b : Bk) (p : Nat) (ws : List Int) : List Rat := ((b.st b.ds.length).ls.zip (dues b p)).map fun z => (ws.getD z.1.k 0 : Rat) * z.2
def gain (b : Bk) (p : Nat) (us ws : List Int) : Rat := (worthL b p ws).sum - (putL b p us).sum
def cut (b : Bk) (p : Nat) (us ws : List Int) : Rat := if 0 < (gain b p us ws).num then mkRat b.y 10 * gain b p us ws else 0
section
variable {n : Nat} {b : Bk} (c : BkC n b) (hn : n ≤ 17) {us ws : List Int} (o : PrOk b.K us) (o2 : PrOk b.K ws)
include c hn
include o2 in
include o o2
end

section
variable {n : Nat} {b : Bk} (c : BkC n b) (hn : n ≤ 17)
include c hn
variable {us ws : List Int} (o : PrOk b.K us) (o2 : PrOk b.K ws)
include o in
include o o2 in
end

/-! rows of whole numbers, lists in a list -/
abbrev Fl := List (List Int)
structure Fives (K : Nat) (R : Fl) : Prop where
  len : R.length = K
  five : ∀ r ∈ R, r.length = 5
theorem Fives.at {K k : Nat} {R : Fl} (F : Fives K R) (hk : k < K) : R[k]? = some (R.getD k []) ∧ (R.getD k []).length = 5 := by
  have hl : k < R.length := by rw [F.len]; exact hk
  have e : R.getD k [] = R[k] := by simp [List.getD, hl]
  rw [e]
  exact ⟨List.getElem?_eq_getElem hl, F.five _ (List.getElem_mem hl)⟩
structure RAt (h : Hv) (p : Nat) (rs : List Nat) (R : Fl) : Prop where
  top : h[p]? = some (.lst (rs.map .ref))
  len : rs.length = R.length
  row : ∀ (i r : Nat) (x : List Int), rs[i]? = some r → R[i]? = some x → h[r]? = some (.lst (x.map .int))
  nd : rs.Nodup
  gt : p ∉ rs
theorem RAt.frame {h h' : Hv} {p : Nat} {rs : List Nat} {R : Fl} (a : RAt h p rs R) (f : ∀ r, r = p ∨ r ∈ rs → h'[r]? = h[r]?) : RAt h' p rs R :=
  ⟨by rw [f p (.inl rfl)]; exact a.top, a.len, fun i r x hr hx => by rw [f r (.inr (List.mem_of_getElem? hr))]; exact a.row i r x hr hx, a.nd, a.gt⟩
theorem RAt.ext {h : Hv} {p : Nat} {rs : List Nat} {R : Fl} (a : RAt h p rs R) (e : Hv) : RAt (h ++ e) p rs R :=
  a.frame fun r hr => by
    have : r < h.length := by
      rcases hr with rfl | hr
      · exact (List.getElem?_eq_some_iff.1 a.top).1
      · obtain ⟨i, hi⟩ := List.mem_iff_getElem?.1 hr
        have hl : i < R.length := by rw [← a.len]; exact (List.getElem?_eq_some_iff.1 hi).1
        exact (List.getElem?_eq_some_iff.1 (a.row i r _ hi (List.getElem?_eq_getElem hl))).1
    rw [List.getElem?_append_left this]
theorem RAt.lt {h : Hv} {p : Nat} {rs : List Nat} {R : Fl} (a : RAt h p rs R) : p < h.length ∧ ∀ r ∈ rs, r < h.length := by
  refine ⟨(List.getElem?_eq_some_iff.1 a.top).1, fun r hr => ?_⟩
  obtain ⟨i, hi⟩ := List.mem_iff_getElem?.1 hr
  have hl : i < R.length := by rw [← a.len]; exact (List.getElem?_eq_some_iff.1 hi).1
  exact (List.getElem?_eq_some_iff.1 (a.row i r _ hi (List.getElem?_eq_getElem hl))).1
/-! a comprehension each of whose elements is a new list -/

/-! what partners take -/
section
variable {n : Nat} {b : Bk} (c : BkC n b) (hn : n ≤ 17)
include c hn
end

/-! lists in a list -/
structure LAt (h : Hv) (p : Nat) (rs : List Nat) (X : List (List D)) : Prop where
  top : h[p]? = some (Ob.lst (rs.map .ref))
  len : rs.length = X.length
  row : ∀ (i r : Nat) (x : List D), rs[i]? = some r → X[i]? = some x → h[r]? = some (Ob.lst x)
  nd : rs.Nodup
  gt : p ∉ rs
theorem LAt.frame {h h' : Hv} {p : Nat} {rs : List Nat} {X : List (List D)} (a : LAt h p rs X) (f : ∀ r, r = p ∨ r ∈ rs → h'[r]? = h[r]?) : LAt h' p rs X :=
  ⟨by rw [f p (.inl rfl)]; exact a.top, a.len, fun i r x hr hx => by rw [f r (.inr (List.mem_of_getElem? hr))]; exact a.row i r x hr hx, a.nd, a.gt⟩
theorem LAt.lt {h : Hv} {p : Nat} {rs : List Nat} {X : List (List D)} (a : LAt h p rs X) : p < h.length ∧ ∀ r ∈ rs, r < h.length := by
  refine ⟨(List.getElem?_eq_some_iff.1 a.top).1, fun r hr => ?_⟩
  obtain ⟨i, hi⟩ := List.mem_iff_getElem?.1 hr
  have hl : i < X.length := by rw [← a.len]; exact (List.getElem?_eq_some_iff.1 hi).1
  exact (List.getElem?_eq_some_iff.1 (a.row i r _ hi (List.getElem?_eq_getElem hl))).1
theorem LAt.ext {h : Hv} {p : Nat} {rs : List Nat} {X : List (List D)} (a : LAt h p rs X) (e : Hv) : LAt (h ++ e) p rs X :=
  a.frame fun r hr => by
    have : r < h.length := by
      rcases hr with rfl | hr
      · exact a.lt.1
      · exact a.lt.2 r hr
    rw [List.getElem?_append_left this]
theorem LAt.at {h : Hv} {p i : Nat} {rs : List Nat} {X : List (List D)} (a : LAt h p rs X) (hi : i < X.length) : rs[i]? = some (rs.getD i 0) ∧ h[rs.getD i 0]? = some (Ob.lst (X.getD i [])) := by
  have e1 : rs[i]? = some (rs.getD i 0) := by simp [List.getD, a.len, hi]
  exact ⟨e1, a.row i _ _ e1 (by simp [List.getD, hi])⟩
/-! what stays over -/
def own (q : Rat) (L : Int) : Rat := mkRat q.num (q.den * L.toNat)
section
variable {n : Nat} {b : Bk} (c : BkC n b) (hn : n ≤ 17)
include c hn
end

section
variable {n : Nat} {b : Bk} (c : BkC n b) (hn : n ≤ 17)
include c hn
end

section
variable {n : Nat} {b : Bk} (c : BkC n b) (hn : n ≤ 17)
include c hn
end

/-! deeds that can perhaps not be done -/
def lieB (ls : List Ld) (a : Nat) (m : Int) : Bool := decide (a < ls.length) && decide (m ≤ (at_ ls a).n)
def canB (s : Sta) : Dd → Bool
  | .pool a b => lieB s.ls a 1 && lieB s.ls b 1 && decide ((at_ s.ls a).k = (at_ s.ls b).k)
  | .swap a g k _ => lieB s.ls a g && decide ((at_ s.ls a).k ≠ k)
  | .trade no a g k _ => decide (no ∉ s.nums) && (lieB s.ls a g && decide ((at_ s.ls a).k ≠ k))
  | .spoil a n => lieB s.ls a n
  | .throw a n _ _ => lieB s.ls a n
  | _ => true
section
variable (k : Nat) (s : Sta) (h : Hv)
end
/-! the first wrong one -/
section
variable {n : Nat} {b : Bk} {ds pre post : List Dd} {d : Dd} (c : BkC n b) (hp : pre.length ≤ 17) (hds : ds = pre ++ d :: post) (cp : Cans b.P b.K b.B b.s0 pre) (cb : canB (runS b.P b.B b.s0 pre) d = false)
include c hp hds cp cb
end

section
variable (k : Nat) {S : Sta} {ly : Lay} {h : Hv} (sa : SAt h ly S)
include sa
end
section
variable {n : Nat} {b : Bk} {ds : List Dd} (c : BkT b) (hl : ds.length ≤ 17)
include c hl
end
section
variable {n : Nat} {b : Bk}
end

theorem u_slT (ds : List D) (l u : Option Int) (h : Hv) : opSl (.tup ds) l u h = .ok (.tup (cutD ds l u)) h := rfl

theorem Can.kinds {P K : Nat} {s : Sta} {d : Dd} (c : Can P K s d) (hk : ∀ l ∈ s.ls, l.k < K) : (match d with
    | .bring _ k _ => k < K
    | .swap a _ k _ => k < K ∧ a < s.ls.length ∧ (at_ s.ls a).k < K
    | .trade _ a _ k _ => k < K ∧ a < s.ls.length ∧ (at_ s.ls a).k < K
    | .spoil a _ => a < s.ls.length ∧ (at_ s.ls a).k < K
    | .throw a _ _ _ => a < s.ls.length ∧ (at_ s.ls a).k < K
    | _ => True) := by
  cases d with
  | bring p k n => exact c.2.1
  | pool a b => trivial
  | swap a g k n => exact ⟨c.2.2.2.1, c.1, hk _ (at_mem c.1)⟩
  | trade no a g k n => exact ⟨c.2.2.2.2.1, c.2.1, hk _ (at_mem c.2.1)⟩
  | spoil a n => exact ⟨c.1, hk _ (at_mem c.1)⟩
  | throw a n ws w => exact ⟨c.1, hk _ (at_mem c.1)⟩
  | sell p q part => trivial
def Dd.no : Dd := .pool 0 0
section
variable {n : Nat} {b : Bk} (c : BkC n b) (hn : n ≤ 17)
include c hn
end
section
variable {n : Nat} {b : Bk} (c : BkC n b) (hn : n ≤ 17)
include c hn
end

theorem SAt.ix {h : Hv} {y : Lay} {S : Sta} (a : SAt h y S) {i : Nat} (hi : i < S.ls.length) : opIx (.ref y.s) (.int 0) h = .ok (.ref y.L) h ∧ ∃ r, r ∈ y.rows ∧ opIx (.ref y.L) (.int i) h = .ok (.ref r) h ∧ opIx (.ref r) (.int 0) h = .ok (.int (at_ S.ls i).k) h ∧ opIx (.ref r) (.int 1) h = .ok (.int (at_ S.ls i).n) h := by
  obtain ⟨r, hr, mr, hrow⟩ := a.rowAt hi
  refine ⟨by rw [ix_ref _ _ _ _ a.s, at0]; rfl, r, mr, ?_, ?_, ?_⟩
  · rw [ix_ref _ _ _ _ a.L, at_nat, List.getElem?_map, hr]; rfl
  · rw [ix_ref _ _ _ _ hrow, at0]; rfl
  · rw [ix_ref _ _ _ _ hrow, at1]; rfl
section
variable {n : Nat} {b : Bk} (c : BkC n b) (hn : n ≤ 17)
include c hn
end

/-! alone, all together -/
def rs (P : Nat) (f : Nat → Rat) : Rat := ((List.range P).map f).sum
structure Sums (P : Nat) (s : Sta) (f : Nat → List Rat) : Prop where
  len : ∀ p, (f p).length = s.ls.length
  sum : ∀ i, i < s.ls.length → rs P (fun p => (f p).getD i 0) = (((at_ s.ls i).n : Int) : Rat)
section
variable {P K : Nat} {B : Int} {s : Sta} {f : Nat → List Rat} (S : Sums P s f)
include S
end
/-! a book without throws and sales: alone is what each has -/
def tl (p : Nat) (l : Ld) : Rat := (l.n : Rat) * l.sh.getD p 0
/-! the book without throws and sales -/
section
variable {n : Nat} {b : Bk} (c : BkC n b)
include c
end

/-! what set out and was got is all the rest -/
section
variable {n : Nat} {b : Bk} (c : BkC n b) (hn : n ≤ 17)
include c hn
end

/-! shares, loads, what a deed made -/
theorem le_sum_of : ∀ (ss : List Rat) (q : Rat), (∀ x ∈ ss, 0 ≤ x) → q ∈ ss → q ≤ ss.sum
  | [], q, _, h => by cases h
  | s :: ss, q, h0, h => by
    have n0 : 0 ≤ ss.sum := by
      clear h
      induction ss with
      | nil => exact Rat.le_refl
      | cons t ss ih =>
        rw [List.sum_cons]
        have a := h0 t (by simp)
        have b := ih (fun x hx => h0 x (by simp only [List.mem_cons] at hx ⊢; rcases hx with rfl | hx <;> simp_all))
        grind
    have s0 := h0 s (by simp)
    rw [List.sum_cons]
    rcases List.mem_cons.1 h with rfl | h
    · grind
    · have := le_sum_of ss q (fun x hx => h0 x (by simp [hx])) h
      grind
theorem num_le_den {q : Rat} (h : q ≤ 1) : q.num ≤ (q.den : Int) := by
  rw [Rat.le_iff] at h
  have e1 : (1 : Rat).num = 1 := rfl
  have e2 : (1 : Rat).den = 1 := rfl
  rw [e1, e2] at h
  omega
structure ShOk (P M : Nat) (ss : List Rat) : Prop where
  M0 : 0 < M
  M1 : M < 2 ^ 2930
  P9 : P ≤ 900
  len : ss.length = P
  n0 : ∀ q ∈ ss, 0 ≤ q
  one : ss.sum = 1
  bn : ∀ q ∈ ss, Bn M (2 ^ 17) q
theorem ShOk.fit {P M : Nat} {ss : List Rat} (o : ShOk P M ss) {q : Rat} (hq : q ∈ ss) : Fit q :=
  (o.bn q hq).fit o.M0 (Nat.lt_of_lt_of_le o.M1 (Nat.pow_le_pow_right (by decide) (by decide))) (Nat.pow_lt_pow_right (by decide) (by decide))
theorem ShOk.le {P M : Nat} {ss : List Rat} (o : ShOk P M ss) {q : Rat} (hq : q ∈ ss) : q ≤ 1 := by
  have := le_sum_of ss q o.n0 hq
  rwa [o.one] at this
section
variable {n : Nat} {b : Bk} (c : BkC n b) (hn : n ≤ 17)
include c hn
end

/-! what a deed changes -/

/-! things of any kind -/
inductive Sml (h : Hv) : D → Prop
  | non : Sml h .non
  | bl (b : Bool) : Sml h (.bl b)
  | int (i : Int) (hi : i.natAbs < 2 ^ 200) : Sml h (.int i)
  | str (s : Str) (ho : PyData.strOk s = true) : Sml h (.str s)
  | tup (ds : List D) (hl : ds.length ≤ 100) (hs : ∀ d ∈ ds, Sml h d) : Sml h (.tup ds)
  | ref (p : Nat) (hp : p < h.length) : Sml h (.ref p)
theorem Sml.mono {h h' : Hv} (hl : h.length ≤ h'.length) {d : D} (s : Sml h d) : Sml h' d := by
  induction s with
  | non => exact .non
  | bl b => exact .bl b
  | int i hi => exact .int i hi
  | str s ho => exact .str s ho
  | tup ds hl _ ih => exact .tup ds hl ih
  | ref p hp => exact .ref p (by omega)
def isTupD : D → Bool
  | .tup _ => true
  | _ => false
def isIntD : D → Bool
  | .int _ => true
  | _ => false
def isBlD : D → Bool
  | .bl _ => true
  | _ => false
def isStrD : D → Bool
  | .str _ => true
  | _ => false
theorem ty_ref {h : Hv} {p : Nat} (hp : p < h.length) : ∃ t, tyD (.ref p) h = some t ∧ (t = "list" ∨ t = "dict") := by
  simp only [tyD, List.getElem?_eq_getElem hp]
  cases h[p] with
  | lst _ => exact ⟨_, rfl, .inl rfl⟩
  | ro _ => exact ⟨_, rfl, .inl rfl⟩
  | dct _ => exact ⟨_, rfl, .inr rfl⟩
theorem Sml.isiT {h : Hv} {d : D} (s : Sml h d) : isiF "tuple" d h = .ok (.bl (isTupD d)) h := by
  cases s with
  | ref p hp =>
    obtain ⟨t, e, z⟩ := ty_ref hp
    simp only [isiF, e]
    rcases z with rfl | rfl <;> rfl
  | _ => rfl
theorem Sml.isiI {h : Hv} {d : D} (s : Sml h d) : isiF "int" d h = .ok (.bl (isIntD d || isBlD d)) h := by
  cases s with
  | ref p hp =>
    obtain ⟨t, e, z⟩ := ty_ref hp
    simp only [isiF, e]
    rcases z with rfl | rfl <;> rfl
  | _ => rfl
theorem Sml.isiB {h : Hv} {d : D} (s : Sml h d) : isiF "bool" d h = .ok (.bl (isBlD d)) h := by
  cases s with
  | ref p hp =>
    obtain ⟨t, e, z⟩ := ty_ref hp
    simp only [isiF, e]
    rcases z with rfl | rfl <;> rfl
  | _ => rfl
theorem Sml.isiS {h : Hv} {d : D} (s : Sml h d) : isiF "str" d h = .ok (.bl (isStrD d)) h := by
  cases s with
  | ref p hp =>
    obtain ⟨t, e, z⟩ := ty_ref hp
    simp only [isiF, e]
    rcases z with rfl | rfl <;> rfl
  | _ => rfl
theorem is_whole_any (k : Nat) {h : Hv} {d : D} (s : Sml h d) : callK T (k + 1) "is_whole" [d] h = .ok (.bl (isIntD d)) h := by
  refine fn_same t_is_whole rfl ?_
  have h1 := s.isiI
  have h2 := s.isiB
  simp only [R_is_whole, F_is_whole, u_seq, u_asg, u_call, u_exp, u_if, u_ret, u_setS, u_par, u_nx, nxt_nx, nxt_rt, u_list, u_list0, u_var, u_con, u_bin, u_un1, u_and, u_or, u_chain, u_ite, u_blt, u_tup, u_lst, u_slc, u_opt, u_opt0, im_int, u_nm, u_tgs, u_tgs0, u_tupT, List.getElem?_cons_succ, List.getElem?_cons_zero, bind_ok, thenS_ok, thenI_ok, List.length_cons, List.length_nil, Nat.reduceAdd, Nat.reduceSub, Nat.reduceLT, Nat.reduceLeDiff, Nat.zero_le, if_true, om_some, List.set_cons_succ, List.set_cons_zero, bm_bl, Bool.not_true, Bool.not_false, Bool.false_eq_true, if_false, u_add, u_sub, u_neg, u_not, u_lt, u_le, u_gt, u_ge, u_eqI, u_neI, decide_true, decide_false, u_int, u_intb, methF, List.map_cons, List.map_nil, List.replicate, List.cons_append, List.nil_append, h1, h2]
  cases d <;> rfl
/-- a whole number from lo on, to hi where there is one -/
def inB (lo : Int) (hi : Option Int) : D → Bool
  | .int i => decide (lo ≤ i) && (match hi with
    | none => true
    | some u => decide (i ≤ u))
  | _ => false
theorem is_within_any (k : Nat) {h : Hv} {d : D} (s : Sml h d) (lo hi : Int) : callK T (k + 2) "is_within" [d, .int lo, .int hi] h = .ok (.bl (inB lo (some hi) d)) h := by
  refine fn_same t_is_within rfl ?_
  have h1 := is_whole_any k s
  cases d with
  | int i =>
    simp only [R_is_within, F_is_within, u_seq, u_asg, u_call, u_exp, u_if, u_ret, u_setS, u_par, u_nx, nxt_nx, nxt_rt, u_list, u_list0, u_var, u_con, u_bin, u_un1, u_and, u_or, u_chain, u_ite, u_blt, u_tup, u_lst, u_slc, u_opt, u_opt0, im_int, u_nm, u_tgs, u_tgs0, u_tupT, List.getElem?_cons_succ, List.getElem?_cons_zero, bind_ok, thenS_ok, thenI_ok, List.length_cons, List.length_nil, Nat.reduceAdd, Nat.reduceSub, Nat.reduceLT, Nat.reduceLeDiff, Nat.zero_le, if_true, om_some, List.set_cons_succ, List.set_cons_zero, bm_bl, Bool.not_true, Bool.not_false, Bool.false_eq_true, if_false, u_add, u_sub, u_neg, u_not, u_lt, u_le, u_gt, u_ge, u_eqI, u_neI, decide_true, decide_false, u_int, u_intb, methF, List.map_cons, List.map_nil, List.replicate, List.cons_append, List.nil_append, h1, isIntD, inB]
    cases decide (lo ≤ i) <;> rfl
  | _ =>
    simp only [R_is_within, F_is_within, u_seq, u_asg, u_call, u_exp, u_if, u_ret, u_setS, u_par, u_nx, nxt_nx, nxt_rt, u_list, u_list0, u_var, u_con, u_bin, u_un1, u_and, u_or, u_chain, u_ite, u_blt, u_tup, u_lst, u_slc, u_opt, u_opt0, im_int, u_nm, u_tgs, u_tgs0, u_tupT, List.getElem?_cons_succ, List.getElem?_cons_zero, bind_ok, thenS_ok, thenI_ok, List.length_cons, List.length_nil, Nat.reduceAdd, Nat.reduceSub, Nat.reduceLT, Nat.reduceLeDiff, Nat.zero_le, if_true, om_some, List.set_cons_succ, List.set_cons_zero, bm_bl, Bool.not_true, Bool.not_false, Bool.false_eq_true, if_false, u_add, u_sub, u_neg, u_not, u_lt, u_le, u_gt, u_ge, u_eqI, u_neI, decide_true, decide_false, u_int, u_intb, methF, List.map_cons, List.map_nil, List.replicate, List.cons_append, List.nil_append, h1, isIntD, inB]
theorem is_from_any (k : Nat) {h : Hv} {d : D} (s : Sml h d) (lo : Int) : callK T (k + 2) "is_from" [d, .int lo] h = .ok (.bl (inB lo none d)) h := by
  refine fn_same t_is_from rfl ?_
  have h1 := is_whole_any k s
  cases d with
  | int i => simp only [R_is_from, F_is_from, u_seq, u_asg, u_call, u_exp, u_if, u_ret, u_setS, u_par, u_nx, nxt_nx, nxt_rt, u_list, u_list0, u_var, u_con, u_bin, u_un1, u_and, u_or, u_chain, u_ite, u_blt, u_tup, u_lst, u_slc, u_opt, u_opt0, im_int, u_nm, u_tgs, u_tgs0, u_tupT, List.getElem?_cons_succ, List.getElem?_cons_zero, bind_ok, thenS_ok, thenI_ok, List.length_cons, List.length_nil, Nat.reduceAdd, Nat.reduceSub, Nat.reduceLT, Nat.reduceLeDiff, Nat.zero_le, if_true, om_some, List.set_cons_succ, List.set_cons_zero, bm_bl, Bool.not_true, Bool.not_false, Bool.false_eq_true, if_false, u_add, u_sub, u_neg, u_not, u_lt, u_le, u_gt, u_ge, u_eqI, u_neI, decide_true, decide_false, u_int, u_intb, methF, List.map_cons, List.map_nil, List.replicate, List.cons_append, List.nil_append, h1, isIntD, inB, Bool.and_true]
  | _ => simp only [R_is_from, F_is_from, u_seq, u_asg, u_call, u_exp, u_if, u_ret, u_setS, u_par, u_nx, nxt_nx, nxt_rt, u_list, u_list0, u_var, u_con, u_bin, u_un1, u_and, u_or, u_chain, u_ite, u_blt, u_tup, u_lst, u_slc, u_opt, u_opt0, im_int, u_nm, u_tgs, u_tgs0, u_tupT, List.getElem?_cons_succ, List.getElem?_cons_zero, bind_ok, thenS_ok, thenI_ok, List.length_cons, List.length_nil, Nat.reduceAdd, Nat.reduceSub, Nat.reduceLT, Nat.reduceLeDiff, Nat.zero_le, if_true, om_some, List.set_cons_succ, List.set_cons_zero, bm_bl, Bool.not_true, Bool.not_false, Bool.false_eq_true, if_false, u_add, u_sub, u_neg, u_not, u_lt, u_le, u_gt, u_ge, u_eqI, u_neI, decide_true, decide_false, u_int, u_intb, methF, List.map_cons, List.map_nil, List.replicate, List.cons_append, List.nil_append, h1, isIntD, inB]
def optD : Option Int → D
  | none => .non
  | some i => .int i
theorem _law_in_any (k : Nat) {h : Hv} {d : D} (s : Sml h d) (lo : Int) (hi : Option Int) : callK T (k + 1) "_law_in" [d, .int lo, optD hi] h = .ok (.bl (inB lo hi d)) h := by
  refine fn_same t__law_in rfl ?_
  have h1 := s.isiI
  have h2 := s.isiB
  have i1 : ∀ i h, opIs false (.int i) .non h = .ok (.bl false) h := fun _ _ => rfl
  have i2 : ∀ h, opIs false .non .non h = .ok (.bl true) h := fun _ => rfl
  cases d with
  | int i =>
    cases hi with
    | none =>
      simp only [R__law_in, F__law_in, u_seq, u_asg, u_call, u_exp, u_if, u_ret, u_setS, u_par, u_nx, nxt_nx, nxt_rt, u_list, u_list0, u_var, u_con, u_bin, u_un1, u_and, u_or, u_chain, u_ite, u_blt, u_tup, u_lst, u_slc, u_opt, u_opt0, im_int, u_nm, u_tgs, u_tgs0, u_tupT, List.getElem?_cons_succ, List.getElem?_cons_zero, bind_ok, thenS_ok, thenI_ok, List.length_cons, List.length_nil, Nat.reduceAdd, Nat.reduceSub, Nat.reduceLT, Nat.reduceLeDiff, Nat.zero_le, if_true, om_some, List.set_cons_succ, List.set_cons_zero, bm_bl, Bool.not_true, Bool.not_false, Bool.false_eq_true, if_false, u_add, u_sub, u_neg, u_not, u_lt, u_le, u_gt, u_ge, u_eqI, u_neI, decide_true, decide_false, u_int, u_intb, methF, List.map_cons, List.map_nil, List.replicate, List.cons_append, List.nil_append, h1, h2, isIntD, isBlD, inB, optD, i1, i2, Bool.or_false, Bool.and_true]
      cases decide (lo ≤ i) <;> rfl
    | some u =>
      simp only [R__law_in, F__law_in, u_seq, u_asg, u_call, u_exp, u_if, u_ret, u_setS, u_par, u_nx, nxt_nx, nxt_rt, u_list, u_list0, u_var, u_con, u_bin, u_un1, u_and, u_or, u_chain, u_ite, u_blt, u_tup, u_lst, u_slc, u_opt, u_opt0, im_int, u_nm, u_tgs, u_tgs0, u_tupT, List.getElem?_cons_succ, List.getElem?_cons_zero, bind_ok, thenS_ok, thenI_ok, List.length_cons, List.length_nil, Nat.reduceAdd, Nat.reduceSub, Nat.reduceLT, Nat.reduceLeDiff, Nat.zero_le, if_true, om_some, List.set_cons_succ, List.set_cons_zero, bm_bl, Bool.not_true, Bool.not_false, Bool.false_eq_true, if_false, u_add, u_sub, u_neg, u_not, u_lt, u_le, u_gt, u_ge, u_eqI, u_neI, decide_true, decide_false, u_int, u_intb, methF, List.map_cons, List.map_nil, List.replicate, List.cons_append, List.nil_append, h1, h2, isIntD, isBlD, inB, optD, i1, i2, Bool.or_false]
      cases decide (lo ≤ i) <;> rfl
  | _ => simp only [R__law_in, F__law_in, u_seq, u_asg, u_call, u_exp, u_if, u_ret, u_setS, u_par, u_nx, nxt_nx, nxt_rt, u_list, u_list0, u_var, u_con, u_bin, u_un1, u_and, u_or, u_chain, u_ite, u_blt, u_tup, u_lst, u_slc, u_opt, u_opt0, im_int, u_nm, u_tgs, u_tgs0, u_tupT, List.getElem?_cons_succ, List.getElem?_cons_zero, bind_ok, thenS_ok, thenI_ok, List.length_cons, List.length_nil, Nat.reduceAdd, Nat.reduceSub, Nat.reduceLT, Nat.reduceLeDiff, Nat.zero_le, if_true, om_some, List.set_cons_succ, List.set_cons_zero, bm_bl, Bool.not_true, Bool.not_false, Bool.false_eq_true, if_false, u_add, u_sub, u_neg, u_not, u_lt, u_le, u_gt, u_ge, u_eqI, u_neI, decide_true, decide_false, u_int, u_intb, methF, List.map_cons, List.map_nil, List.replicate, List.cons_append, List.nil_append, h1, h2, isIntD, isBlD, inB, optD, Bool.or_false, Bool.or_true]
/-- an amount from 0 on -/
def amB : D → Bool
  | .tup [.int a, .int b] => decide (0 ≤ a) && (decide (1 ≤ b) && decide (Int.gcd a b = 1))
  | _ => false
theorem amB_ne {ds : List D} (hl : ds.length ≠ 2) : amB (.tup ds) = false := by
  match ds, hl with
  | [], _ => rfl
  | [_], _ => cases ‹D› <;> rfl
  | _ :: _ :: _ :: _, _ => rename_i a b c d _; cases a <;> cases b <;> rfl
  | [_, _], hl => exact absurd rfl hl
theorem amB_x {x y : D} (hx : isIntD x = false) : amB (.tup [x, y]) = false := by cases x <;> first | rfl | cases hx
theorem amB_y {x y : D} (hy : isIntD y = false) : amB (.tup [x, y]) = false := by cases x <;> cases y <;> first | rfl | cases hy
theorem intD_of {x : D} (hx : isIntD x = true) : ∃ i, x = .int i := by cases x <;> first | exact ⟨_, rfl⟩ | cases hx
theorem n200 {i : Int} (h : i.natAbs < 2 ^ 200) : i < 2 ^ 8900 := by
  have h1 : (2 : Nat) ^ 200 ≤ 2 ^ 8900 := Nat.pow_le_pow_right (by decide) (by decide)
  have h2 : i.natAbs < 2 ^ 8900 := Nat.lt_of_lt_of_le h h1
  have e : ((2 ^ 8900 : Nat) : Int) = (2 : Int) ^ 8900 := by norm_cast
  omega
theorem gcd_int (i : Nat) : decide ((i : Int) = 1) = decide (i = 1) := by
  by_cases h : i = 1
  · subst h; rfl
  · have : ¬ (i : Int) = 1 := by omega
    simp [h, this]
theorem Sml.intB {h : Hv} {i : Int} (s : Sml h (.int i)) : i.natAbs < 2 ^ 200 := by cases s; assumption
theorem is_amount_any (k : Nat) {h : Hv} {d : D} (s : Sml h d) : callK T (k + 2) "is_amount" [d] h = .ok (.bl (amB d)) h := by
  refine fn_same t_is_amount rfl ?_
  have h1 := s.isiT
  cases d with
  | tup ds =>
    have hs : ∀ d ∈ ds, Sml h d := by cases s; assumption
    by_cases hl : ds.length = 2
    · obtain ⟨x, y, rfl⟩ : ∃ x y, ds = [x, y] := by
        match ds, hl with
        | [x, y], _ => exact ⟨x, y, rfl⟩
      have sx := hs x (by simp)
      have sy := hs y (by simp)
      have wx := is_whole_any k sx
      have wy := is_whole_any k sy
      have ln : bLen [.tup [x, y]] h = .ok (.int 2) h := rfl
      have x0 : opIx (.tup [x, y]) (.int 0) h = .ok x h := ix_tup0 ..
      have x1 : opIx (.tup [x, y]) (.int 1) h = .ok y h := ix_tup1 ..
      cases hx : isIntD x with
      | false =>
        rw [hx] at wx
        simp only [R_is_amount, F_is_amount, u_seq, u_asg, u_call, u_exp, u_if, u_ret, u_setS, u_par, u_nx, nxt_nx, nxt_rt, u_list, u_list0, u_var, u_con, u_bin, u_un1, u_and, u_or, u_chain, u_ite, u_blt, u_tup, u_lst, u_slc, u_opt, u_opt0, im_int, u_nm, u_tgs, u_tgs0, u_tupT, List.getElem?_cons_succ, List.getElem?_cons_zero, bind_ok, thenS_ok, thenI_ok, List.length_cons, List.length_nil, Nat.reduceAdd, Nat.reduceSub, Nat.reduceLT, Nat.reduceLeDiff, Nat.zero_le, if_true, om_some, List.set_cons_succ, List.set_cons_zero, bm_bl, Bool.not_true, Bool.not_false, Bool.false_eq_true, if_false, u_add, u_sub, u_neg, u_not, u_lt, u_le, u_gt, u_ge, u_eqI, u_neI, decide_true, decide_false, u_int, u_intb, methF, List.map_cons, List.map_nil, List.replicate, List.cons_append, List.nil_append, h1, isTupD, ln, x0, wx, amB_x hx]
      | true =>
        cases hy : isIntD y with
        | false =>
          rw [hx] at wx
          rw [hy] at wy
          simp only [R_is_amount, F_is_amount, u_seq, u_asg, u_call, u_exp, u_if, u_ret, u_setS, u_par, u_nx, nxt_nx, nxt_rt, u_list, u_list0, u_var, u_con, u_bin, u_un1, u_and, u_or, u_chain, u_ite, u_blt, u_tup, u_lst, u_slc, u_opt, u_opt0, im_int, u_nm, u_tgs, u_tgs0, u_tupT, List.getElem?_cons_succ, List.getElem?_cons_zero, bind_ok, thenS_ok, thenI_ok, List.length_cons, List.length_nil, Nat.reduceAdd, Nat.reduceSub, Nat.reduceLT, Nat.reduceLeDiff, Nat.zero_le, if_true, om_some, List.set_cons_succ, List.set_cons_zero, bm_bl, Bool.not_true, Bool.not_false, Bool.false_eq_true, if_false, u_add, u_sub, u_neg, u_not, u_lt, u_le, u_gt, u_ge, u_eqI, u_neI, decide_true, decide_false, u_int, u_intb, methF, List.map_cons, List.map_nil, List.replicate, List.cons_append, List.nil_append, h1, isTupD, ln, x0, x1, wx, wy, amB_y hy]
        | true =>
          rw [hx] at wx
          rw [hy] at wy
          obtain ⟨a, rfl⟩ := intD_of hx
          obtain ⟨b, rfl⟩ := intD_of hy
          by_cases a0 : 0 ≤ a
          · by_cases b1 : 1 ≤ b
            · have cm := common_ok k a b h a0 (by omega) (n200 sy.intB)
              simp only [R_is_amount, F_is_amount, u_seq, u_asg, u_call, u_exp, u_if, u_ret, u_setS, u_par, u_nx, nxt_nx, nxt_rt, u_list, u_list0, u_var, u_con, u_bin, u_un1, u_and, u_or, u_chain, u_ite, u_blt, u_tup, u_lst, u_slc, u_opt, u_opt0, im_int, u_nm, u_tgs, u_tgs0, u_tupT, List.getElem?_cons_succ, List.getElem?_cons_zero, bind_ok, thenS_ok, thenI_ok, List.length_cons, List.length_nil, Nat.reduceAdd, Nat.reduceSub, Nat.reduceLT, Nat.reduceLeDiff, Nat.zero_le, if_true, om_some, List.set_cons_succ, List.set_cons_zero, bm_bl, Bool.not_true, Bool.not_false, Bool.false_eq_true, if_false, u_add, u_sub, u_neg, u_not, u_lt, u_le, u_gt, u_ge, u_eqI, u_neI, decide_true, decide_false, u_int, u_intb, methF, List.map_cons, List.map_nil, List.replicate, List.cons_append, List.nil_append, h1, isTupD, ln, x0, x1, wx, wy, a0, b1, cm, amB, Bool.true_and, gcd_int]
            · simp only [R_is_amount, F_is_amount, u_seq, u_asg, u_call, u_exp, u_if, u_ret, u_setS, u_par, u_nx, nxt_nx, nxt_rt, u_list, u_list0, u_var, u_con, u_bin, u_un1, u_and, u_or, u_chain, u_ite, u_blt, u_tup, u_lst, u_slc, u_opt, u_opt0, im_int, u_nm, u_tgs, u_tgs0, u_tupT, List.getElem?_cons_succ, List.getElem?_cons_zero, bind_ok, thenS_ok, thenI_ok, List.length_cons, List.length_nil, Nat.reduceAdd, Nat.reduceSub, Nat.reduceLT, Nat.reduceLeDiff, Nat.zero_le, if_true, om_some, List.set_cons_succ, List.set_cons_zero, bm_bl, Bool.not_true, Bool.not_false, Bool.false_eq_true, if_false, u_add, u_sub, u_neg, u_not, u_lt, u_le, u_gt, u_ge, u_eqI, u_neI, decide_true, decide_false, u_int, u_intb, methF, List.map_cons, List.map_nil, List.replicate, List.cons_append, List.nil_append, h1, isTupD, ln, x0, x1, wx, wy, a0, b1, amB, Bool.true_and, Bool.false_and]
          · simp only [R_is_amount, F_is_amount, u_seq, u_asg, u_call, u_exp, u_if, u_ret, u_setS, u_par, u_nx, nxt_nx, nxt_rt, u_list, u_list0, u_var, u_con, u_bin, u_un1, u_and, u_or, u_chain, u_ite, u_blt, u_tup, u_lst, u_slc, u_opt, u_opt0, im_int, u_nm, u_tgs, u_tgs0, u_tupT, List.getElem?_cons_succ, List.getElem?_cons_zero, bind_ok, thenS_ok, thenI_ok, List.length_cons, List.length_nil, Nat.reduceAdd, Nat.reduceSub, Nat.reduceLT, Nat.reduceLeDiff, Nat.zero_le, if_true, om_some, List.set_cons_succ, List.set_cons_zero, bm_bl, Bool.not_true, Bool.not_false, Bool.false_eq_true, if_false, u_add, u_sub, u_neg, u_not, u_lt, u_le, u_gt, u_ge, u_eqI, u_neI, decide_true, decide_false, u_int, u_intb, methF, List.map_cons, List.map_nil, List.replicate, List.cons_append, List.nil_append, h1, isTupD, ln, x0, x1, wx, wy, a0, amB, Bool.false_and]
    · have ln : bLen [.tup ds] h = .ok (.int ds.length) h := rfl
      have hl' : ¬ ((ds.length : Nat) : Int) = 2 := by omega
      simp only [R_is_amount, F_is_amount, u_seq, u_asg, u_call, u_exp, u_if, u_ret, u_setS, u_par, u_nx, nxt_nx, nxt_rt, u_list, u_list0, u_var, u_con, u_bin, u_un1, u_and, u_or, u_chain, u_ite, u_blt, u_tup, u_lst, u_slc, u_opt, u_opt0, im_int, u_nm, u_tgs, u_tgs0, u_tupT, List.getElem?_cons_succ, List.getElem?_cons_zero, bind_ok, thenS_ok, thenI_ok, List.length_cons, List.length_nil, Nat.reduceAdd, Nat.reduceSub, Nat.reduceLT, Nat.reduceLeDiff, Nat.zero_le, if_true, om_some, List.set_cons_succ, List.set_cons_zero, bm_bl, Bool.not_true, Bool.not_false, Bool.false_eq_true, if_false, u_add, u_sub, u_neg, u_not, u_lt, u_le, u_gt, u_ge, u_eqI, u_neI, decide_true, decide_false, u_int, u_intb, methF, List.map_cons, List.map_nil, List.replicate, List.cons_append, List.nil_append, h1, isTupD, ln, hl', amB_ne hl]
  | _ => simp only [R_is_amount, F_is_amount, u_seq, u_asg, u_call, u_exp, u_if, u_ret, u_setS, u_par, u_nx, nxt_nx, nxt_rt, u_list, u_list0, u_var, u_con, u_bin, u_un1, u_and, u_or, u_chain, u_ite, u_blt, u_tup, u_lst, u_slc, u_opt, u_opt0, im_int, u_nm, u_tgs, u_tgs0, u_tupT, List.getElem?_cons_succ, List.getElem?_cons_zero, bind_ok, thenS_ok, thenI_ok, List.length_cons, List.length_nil, Nat.reduceAdd, Nat.reduceSub, Nat.reduceLT, Nat.reduceLeDiff, Nat.zero_le, if_true, om_some, List.set_cons_succ, List.set_cons_zero, bm_bl, Bool.not_true, Bool.not_false, Bool.false_eq_true, if_false, u_add, u_sub, u_neg, u_not, u_lt, u_le, u_gt, u_ge, u_eqI, u_neI, decide_true, decide_false, u_int, u_intb, methF, List.map_cons, List.map_nil, List.replicate, List.cons_append, List.nil_append, h1, isTupD, amB]
theorem _law_is_amount_any (k : Nat) {h : Hv} {d : D} (s : Sml h d) : callK T (k + 2) "_law_is_amount" [d] h = .ok (.bl (amB d)) h := by
  refine fn_same t__law_is_amount rfl ?_
  have h1 := s.isiT
  cases d with
  | tup ds =>
    have hs : ∀ d ∈ ds, Sml h d := by cases s; assumption
    by_cases hl : ds.length = 2
    · obtain ⟨x, y, rfl⟩ : ∃ x y, ds = [x, y] := by
        match ds, hl with
        | [x, y], _ => exact ⟨x, y, rfl⟩
      have sx := hs x (by simp)
      have sy := hs y (by simp)
      have wx : callK T (k + 1) "_law_in" [x, .int 0, .non] h = _ := _law_in_any k sx 0 none
      have wy : callK T (k + 1) "_law_in" [y, .int 1, .non] h = _ := _law_in_any k sy 1 none
      have ln : bLen [.tup [x, y]] h = .ok (.int 2) h := rfl
      have x0 : opIx (.tup [x, y]) (.int 0) h = .ok x h := ix_tup0 ..
      have x1 : opIx (.tup [x, y]) (.int 1) h = .ok y h := ix_tup1 ..
      cases hx : inB 0 none x with
      | false =>
        rw [hx] at wx
        have e : amB (.tup [x, y]) = false := by
          cases x with
          | int a =>
            simp only [inB, Bool.and_true] at hx
            cases y <;> first | rfl | (simp only [amB, hx, Bool.false_and])
          | _ => exact amB_x rfl
        simp only [R__law_is_amount, F__law_is_amount, u_seq, u_asg, u_call, u_exp, u_if, u_ret, u_setS, u_par, u_nx, nxt_nx, nxt_rt, u_list, u_list0, u_var, u_con, u_bin, u_un1, u_and, u_or, u_chain, u_ite, u_blt, u_tup, u_lst, u_slc, u_opt, u_opt0, im_int, u_nm, u_tgs, u_tgs0, u_tupT, List.getElem?_cons_succ, List.getElem?_cons_zero, bind_ok, thenS_ok, thenI_ok, List.length_cons, List.length_nil, Nat.reduceAdd, Nat.reduceSub, Nat.reduceLT, Nat.reduceLeDiff, Nat.zero_le, if_true, om_some, List.set_cons_succ, List.set_cons_zero, bm_bl, Bool.not_true, Bool.not_false, Bool.false_eq_true, if_false, u_add, u_sub, u_neg, u_not, u_lt, u_le, u_gt, u_ge, u_eqI, u_neI, decide_true, decide_false, u_int, u_intb, methF, List.map_cons, List.map_nil, List.replicate, List.cons_append, List.nil_append, h1, isTupD, ln, x0, wx, e]
      | true =>
        cases hy : inB 1 none y with
        | false =>
          rw [hx] at wx
          rw [hy] at wy
          have e : amB (.tup [x, y]) = false := by
            cases y with
            | int a =>
              simp only [inB, Bool.and_true] at hy
              cases x <;> first | rfl | (simp only [amB, hy, Bool.false_and, Bool.and_false])
            | _ => exact amB_y rfl
          simp only [R__law_is_amount, F__law_is_amount, u_seq, u_asg, u_call, u_exp, u_if, u_ret, u_setS, u_par, u_nx, nxt_nx, nxt_rt, u_list, u_list0, u_var, u_con, u_bin, u_un1, u_and, u_or, u_chain, u_ite, u_blt, u_tup, u_lst, u_slc, u_opt, u_opt0, im_int, u_nm, u_tgs, u_tgs0, u_tupT, List.getElem?_cons_succ, List.getElem?_cons_zero, bind_ok, thenS_ok, thenI_ok, List.length_cons, List.length_nil, Nat.reduceAdd, Nat.reduceSub, Nat.reduceLT, Nat.reduceLeDiff, Nat.zero_le, if_true, om_some, List.set_cons_succ, List.set_cons_zero, bm_bl, Bool.not_true, Bool.not_false, Bool.false_eq_true, if_false, u_add, u_sub, u_neg, u_not, u_lt, u_le, u_gt, u_ge, u_eqI, u_neI, decide_true, decide_false, u_int, u_intb, methF, List.map_cons, List.map_nil, List.replicate, List.cons_append, List.nil_append, h1, isTupD, ln, x0, x1, wx, wy, e]
        | true =>
          rw [hx] at wx
          rw [hy] at wy
          obtain ⟨a, rfl⟩ : ∃ a, x = .int a := by cases x <;> first | exact ⟨_, rfl⟩ | cases hx
          obtain ⟨b, rfl⟩ : ∃ a, y = .int a := by cases y <;> first | exact ⟨_, rfl⟩ | cases hy
          have a0 : 0 ≤ a := by simpa [inB] using hx
          have b1 : 1 ≤ b := by simpa [inB] using hy
          have cm := _law_common_ok k a b h a0 (by omega) (n200 sy.intB)
          simp only [R__law_is_amount, F__law_is_amount, u_seq, u_asg, u_call, u_exp, u_if, u_ret, u_setS, u_par, u_nx, nxt_nx, nxt_rt, u_list, u_list0, u_var, u_con, u_bin, u_un1, u_and, u_or, u_chain, u_ite, u_blt, u_tup, u_lst, u_slc, u_opt, u_opt0, im_int, u_nm, u_tgs, u_tgs0, u_tupT, List.getElem?_cons_succ, List.getElem?_cons_zero, bind_ok, thenS_ok, thenI_ok, List.length_cons, List.length_nil, Nat.reduceAdd, Nat.reduceSub, Nat.reduceLT, Nat.reduceLeDiff, Nat.zero_le, if_true, om_some, List.set_cons_succ, List.set_cons_zero, bm_bl, Bool.not_true, Bool.not_false, Bool.false_eq_true, if_false, u_add, u_sub, u_neg, u_not, u_lt, u_le, u_gt, u_ge, u_eqI, u_neI, decide_true, decide_false, u_int, u_intb, methF, List.map_cons, List.map_nil, List.replicate, List.cons_append, List.nil_append, h1, isTupD, ln, x0, x1, wx, wy, a0, b1, cm, amB, Bool.true_and, gcd_int]
    · have ln : bLen [.tup ds] h = .ok (.int ds.length) h := rfl
      have hl' : ¬ ((ds.length : Nat) : Int) = 2 := by omega
      simp only [R__law_is_amount, F__law_is_amount, u_seq, u_asg, u_call, u_exp, u_if, u_ret, u_setS, u_par, u_nx, nxt_nx, nxt_rt, u_list, u_list0, u_var, u_con, u_bin, u_un1, u_and, u_or, u_chain, u_ite, u_blt, u_tup, u_lst, u_slc, u_opt, u_opt0, im_int, u_nm, u_tgs, u_tgs0, u_tupT, List.getElem?_cons_succ, List.getElem?_cons_zero, bind_ok, thenS_ok, thenI_ok, List.length_cons, List.length_nil, Nat.reduceAdd, Nat.reduceSub, Nat.reduceLT, Nat.reduceLeDiff, Nat.zero_le, if_true, om_some, List.set_cons_succ, List.set_cons_zero, bm_bl, Bool.not_true, Bool.not_false, Bool.false_eq_true, if_false, u_add, u_sub, u_neg, u_not, u_lt, u_le, u_gt, u_ge, u_eqI, u_neI, decide_true, decide_false, u_int, u_intb, methF, List.map_cons, List.map_nil, List.replicate, List.cons_append, List.nil_append, h1, isTupD, ln, hl', amB_ne hl]
  | _ => simp only [R__law_is_amount, F__law_is_amount, u_seq, u_asg, u_call, u_exp, u_if, u_ret, u_setS, u_par, u_nx, nxt_nx, nxt_rt, u_list, u_list0, u_var, u_con, u_bin, u_un1, u_and, u_or, u_chain, u_ite, u_blt, u_tup, u_lst, u_slc, u_opt, u_opt0, im_int, u_nm, u_tgs, u_tgs0, u_tupT, List.getElem?_cons_succ, List.getElem?_cons_zero, bind_ok, thenS_ok, thenI_ok, List.length_cons, List.length_nil, Nat.reduceAdd, Nat.reduceSub, Nat.reduceLT, Nat.reduceLeDiff, Nat.zero_le, if_true, om_some, List.set_cons_succ, List.set_cons_zero, bm_bl, Bool.not_true, Bool.not_false, Bool.false_eq_true, if_false, u_add, u_sub, u_neg, u_not, u_lt, u_le, u_gt, u_ge, u_eqI, u_neI, decide_true, decide_false, u_int, u_intb, methF, List.map_cons, List.map_nil, List.replicate, List.cons_append, List.nil_append, h1, isTupD, amB]
/-- a share -/
def shB (d : D) : Bool := amB d && (match d with
  | .tup [.int a, .int b] => decide (a ≤ b)
  | _ => false)
theorem amB_of {d : D} (h : amB d = true) : ∃ a b : Int, d = .tup [.int a, .int b] ∧ 0 ≤ a ∧ 1 ≤ b ∧ Int.gcd a b = 1 := by
  unfold amB at h
  split at h
  · rename_i a b
    simp only [Bool.and_eq_true, decide_eq_true_eq] at h
    exact ⟨a, b, rfl, h.1, h.2.1, h.2.2⟩
  · cases h
theorem looks_any (k : Nat) {h : Hv} {d : D} (s : Sml h d) : callK T (k + 3) "looks_a_share" [d] h = .ok (.bl (shB d)) h := by
  refine fn_same t_looks_a_share rfl ?_
  have h1 := is_amount_any k s
  cases e : amB d with
  | false =>
    rw [e] at h1
    have e2 : shB d = false := by simp only [shB, e, Bool.false_and]
    simp only [R_looks_a_share, F_looks_a_share, u_seq, u_asg, u_call, u_exp, u_if, u_ret, u_setS, u_par, u_nx, nxt_nx, nxt_rt, u_list, u_list0, u_var, u_con, u_bin, u_un1, u_and, u_or, u_chain, u_ite, u_blt, u_tup, u_lst, u_slc, u_opt, u_opt0, im_int, u_nm, u_tgs, u_tgs0, u_tupT, List.getElem?_cons_succ, List.getElem?_cons_zero, bind_ok, thenS_ok, thenI_ok, List.length_cons, List.length_nil, Nat.reduceAdd, Nat.reduceSub, Nat.reduceLT, Nat.reduceLeDiff, Nat.zero_le, if_true, om_some, List.set_cons_succ, List.set_cons_zero, bm_bl, Bool.not_true, Bool.not_false, Bool.false_eq_true, if_false, u_add, u_sub, u_neg, u_not, u_lt, u_le, u_gt, u_ge, u_eqI, u_neI, decide_true, decide_false, u_int, u_intb, methF, List.map_cons, List.map_nil, List.replicate, List.cons_append, List.nil_append, h1, e2]
  | true =>
    rw [e] at h1
    obtain ⟨a, b, rfl, _⟩ := amB_of e
    simp only [R_looks_a_share, F_looks_a_share, u_seq, u_asg, u_call, u_exp, u_if, u_ret, u_setS, u_par, u_nx, nxt_nx, nxt_rt, u_list, u_list0, u_var, u_con, u_bin, u_un1, u_and, u_or, u_chain, u_ite, u_blt, u_tup, u_lst, u_slc, u_opt, u_opt0, im_int, u_nm, u_tgs, u_tgs0, u_tupT, List.getElem?_cons_succ, List.getElem?_cons_zero, bind_ok, thenS_ok, thenI_ok, List.length_cons, List.length_nil, Nat.reduceAdd, Nat.reduceSub, Nat.reduceLT, Nat.reduceLeDiff, Nat.zero_le, if_true, om_some, List.set_cons_succ, List.set_cons_zero, bm_bl, Bool.not_true, Bool.not_false, Bool.false_eq_true, if_false, u_add, u_sub, u_neg, u_not, u_lt, u_le, u_gt, u_ge, u_eqI, u_neI, decide_true, decide_false, u_int, u_intb, methF, List.map_cons, List.map_nil, List.replicate, List.cons_append, List.nil_append, h1, shB, e, Bool.true_and, ix_tup0, ix_tup1]
theorem _law_is_share_any (k : Nat) {h : Hv} {d : D} (s : Sml h d) : callK T (k + 3) "_law_is_share" [d] h = .ok (.bl (shB d)) h := by
  refine fn_same t__law_is_share rfl ?_
  have h1 := _law_is_amount_any k s
  cases e : amB d with
  | false =>
    rw [e] at h1
    have e2 : shB d = false := by simp only [shB, e, Bool.false_and]
    simp only [R__law_is_share, F__law_is_share, u_seq, u_asg, u_call, u_exp, u_if, u_ret, u_setS, u_par, u_nx, nxt_nx, nxt_rt, u_list, u_list0, u_var, u_con, u_bin, u_un1, u_and, u_or, u_chain, u_ite, u_blt, u_tup, u_lst, u_slc, u_opt, u_opt0, im_int, u_nm, u_tgs, u_tgs0, u_tupT, List.getElem?_cons_succ, List.getElem?_cons_zero, bind_ok, thenS_ok, thenI_ok, List.length_cons, List.length_nil, Nat.reduceAdd, Nat.reduceSub, Nat.reduceLT, Nat.reduceLeDiff, Nat.zero_le, if_true, om_some, List.set_cons_succ, List.set_cons_zero, bm_bl, Bool.not_true, Bool.not_false, Bool.false_eq_true, if_false, u_add, u_sub, u_neg, u_not, u_lt, u_le, u_gt, u_ge, u_eqI, u_neI, decide_true, decide_false, u_int, u_intb, methF, List.map_cons, List.map_nil, List.replicate, List.cons_append, List.nil_append, h1, e2]
  | true =>
    rw [e] at h1
    obtain ⟨a, b, rfl, _⟩ := amB_of e
    simp only [R__law_is_share, F__law_is_share, u_seq, u_asg, u_call, u_exp, u_if, u_ret, u_setS, u_par, u_nx, nxt_nx, nxt_rt, u_list, u_list0, u_var, u_con, u_bin, u_un1, u_and, u_or, u_chain, u_ite, u_blt, u_tup, u_lst, u_slc, u_opt, u_opt0, im_int, u_nm, u_tgs, u_tgs0, u_tupT, List.getElem?_cons_succ, List.getElem?_cons_zero, bind_ok, thenS_ok, thenI_ok, List.length_cons, List.length_nil, Nat.reduceAdd, Nat.reduceSub, Nat.reduceLT, Nat.reduceLeDiff, Nat.zero_le, if_true, om_some, List.set_cons_succ, List.set_cons_zero, bm_bl, Bool.not_true, Bool.not_false, Bool.false_eq_true, if_false, u_add, u_sub, u_neg, u_not, u_lt, u_le, u_gt, u_ge, u_eqI, u_neI, decide_true, decide_false, u_int, u_intb, methF, List.map_cons, List.map_nil, List.replicate, List.cons_append, List.nil_append, h1, shB, e, Bool.true_and, ix_tup0, ix_tup1]

/-- the number that two whole numbers are -/
def ratD : D → Rat
  | .tup [.int a, .int b] => mkRat a b.toNat
  | _ => 0
theorem ratD_am {d : D} (h : amB d = true) : am (ratD d) = d := by
  obtain ⟨a, b, rfl, a0, b1, g⟩ := amB_of h
  have e : ((b.toNat : Nat) : Int) = b := by omega
  have z := mk_am a b.toNat (by omega)
  rw [if_neg (by omega), e, g] at z
  simp only [ratD]
  rw [← z]
  simp
structure ShD (d : D) (q : Rat) : Prop where
  eq : d = am q
  n0 : 0 ≤ q
  le : q ≤ 1
theorem shB_of {d : D} (h : shB d = true) : ShD d (ratD d) := by
  unfold shB at h
  rw [Bool.and_eq_true] at h
  have e := ratD_am h.1
  obtain ⟨a, b, rfl, a0, b1, g⟩ := amB_of h.1
  have hab : a ≤ b := by simpa using h.2
  generalize hq : ratD (.tup [.int a, .int b]) = q at *
  simp only [am, D.tup.injEq, List.cons.injEq, D.int.injEq, and_true] at e
  refine ⟨by rw [am, e.1, e.2], Rat.num_nonneg.1 (by omega), ?_⟩
  rw [Rat.le_iff]
  have e1 : (1 : Rat).num = 1 := rfl
  have e2 : (1 : Rat).den = 1 := rfl
  rw [e1, e2]
  omega
def prodN : List Nat → Nat
  | [] => 1
  | n :: ns => n * prodN ns
theorem dvd_prodN : ∀ {ns : List Nat} {n : Nat}, n ∈ ns → n ∣ prodN ns
  | m :: ns, n, h => by
    rcases List.mem_cons.1 h with rfl | h
    · exact Nat.dvd_mul_right ..
    · exact Nat.dvd_trans (dvd_prodN h) (Nat.dvd_mul_left ..)
theorem prodN_pos : ∀ {ns : List Nat}, (∀ n ∈ ns, 0 < n) → 0 < prodN ns
  | [], _ => by decide
  | n :: ns, h => Nat.mul_pos (h n (by simp)) (prodN_pos fun m hm => h m (by simp [hm]))
theorem prodN_le {c : Nat} : ∀ {ns : List Nat}, (∀ n ∈ ns, n ≤ c) → prodN ns ≤ c ^ ns.length
  | [], _ => by simp [prodN]
  | n :: ns, h => by
    rw [List.length_cons, Nat.pow_succ, Nat.mul_comm, prodN, Nat.mul_comm n]
    exact Nat.le_trans (Nat.mul_le_mul (prodN_le fun m hm => h m (by simp [hm])) (h n (by simp))) (by rw [Nat.mul_comm]; exact Nat.le_refl _)
/-- so many shares that are a whole -/
def shsB (many : Int) : D → Bool
  | .tup ds => decide ((ds.length : Int) = many) && (ds.all shB && decide ((ds.map ratD).sum = 1))
  | _ => false
theorem all_any {h : Hv} (p : D → Bool) (ds : List D) : bAll [.ref h.length] (h ++ [Ob.lst (ds.map fun d => .bl (p d))]) = .ok (.bl (ds.all p)) (h ++ [Ob.lst (ds.map fun d => .bl (p d))]) := by
  have e : ∀ ds : List D, blsD (ds.map fun d => .bl (p d)) = some (ds.map p) := by
    intro ds
    induction ds with
    | nil => rfl
    | cons d ds ih => simp [blsD, ih]
  have e2 : (h ++ [Ob.lst (ds.map fun d => D.bl (p d))])[h.length]? = some (.lst (ds.map fun d => .bl (p d))) := by simp
  simp only [bAll, lstAt, e2, Option.bind_some, e]
  congr 2
  induction ds with
  | nil => rfl
  | cons d ds ih => simp [List.all_cons]
theorem lc_any {C : Or} {env : Env} {i : Nat} {own : List Nat} {elt : EF} {h : Hv} (ds : List D) (f : D → D) (x : EF) (hx : x C env h = .ok (.tup ds) h)
    (ht : i < env.length) (hw : (wipeD env own).length = env.length)
    (he : ∀ d ∈ ds, ∀ acc, elt C ((wipeD env own).set i (some d)) (h ++ [.lst acc]) = .ok (f d) (h ++ [.lst acc])) (hl : ds.length ≤ 1000000) :
    lcF (itE x) (nmT i) own (conF (.bl true)) elt C env h = .ok (.ref h.length) (h ++ [Ob.lst (ds.map f)]) := by
  have z := lc_all (C := C) (env := env) (it := itE x) (tg := nmT i) (own := own) (elt := elt) (gs := []) (h := h) (h1 := h) ds id f (fun d => (wipeD env own).set i (some d))
    (by rw [List.map_id]; exact itE_t hx) (fun _ => rfl) (fun d _ acc => by rw [u_nm, if_pos (by rw [hw]; exact ht)]; rfl) (fun d hd acc => he d hd acc) hl
  exact z
theorem sum_shares {h : Hv} {ds : List D} (hs : ∀ d ∈ ds, Sml h d) (ha : ds.all shB = true) (hl : ds.length ≤ 4) : ∃ M : Nat, 0 < M ∧ M < 2 ^ 4400 ∧ ((ds.map ratD).length + 1) * 1 < 2 ^ 4400 ∧ (∀ q ∈ ds.map ratD, Bn M 1 q) ∧ ds = (ds.map ratD).map am := by
  have sh : ∀ d ∈ ds, ShD d (ratD d) := fun d hd => shB_of (List.all_eq_true.mp ha d hd)
  have dn : ∀ q ∈ ds.map ratD, q.den < 2 ^ 200 := by
    intro q hq
    obtain ⟨d, hd, rfl⟩ := List.mem_map.1 hq
    have e := (sh d hd).eq
    have s := hs d hd
    rw [e, am] at s
    cases s with
    | tup _ _ z =>
      have := (z (.int (ratD d).den) (by simp)).intB
      simpa using this
  have M0 : 0 < prodN ((ds.map ratD).map Rat.den) := prodN_pos fun n hn => by
    obtain ⟨q, _, rfl⟩ := List.mem_map.1 hn
    exact q.den_pos
  have M1 : prodN ((ds.map ratD).map Rat.den) ≤ (2 ^ 200) ^ ((ds.map ratD).map Rat.den).length := prodN_le fun n hn => by
    obtain ⟨q, hq, rfl⟩ := List.mem_map.1 hn
    exact Nat.le_of_lt (dn q hq)
  have ln : ((ds.map ratD).map Rat.den).length ≤ 4 := by rw [List.length_map, List.length_map]; exact hl
  refine ⟨_, M0, Nat.lt_of_le_of_lt (Nat.le_trans M1 (Nat.pow_le_pow_right (by decide) ln)) (by rw [← Nat.pow_mul]; exact Nat.pow_lt_pow_right (by decide) (by decide)), ?_, fun q hq => ⟨dvd_prodN (List.mem_map_of_mem hq), ?_, ?_⟩, ?_⟩
  · rw [List.length_map]
    exact Nat.lt_of_lt_of_le (show (ds.length + 1) * 1 < 2 ^ 3 by omega) (Nat.pow_le_pow_right (by decide) (by decide))
  · obtain ⟨d, hd, rfl⟩ := List.mem_map.1 hq
    have := (sh d hd).n0
    have e : ((1 : Nat) : Rat) = 1 := rfl
    rw [e]
    grind
  · obtain ⟨d, hd, rfl⟩ := List.mem_map.1 hq
    exact (sh d hd).le
  · rw [List.map_map]
    have : ∀ d ∈ ds, (am ∘ ratD) d = d := fun d hd => (sh d hd).eq.symm
    calc ds = ds.map id := (List.map_id ds).symm
      _ = ds.map (am ∘ ratD) := List.map_congr_left fun d hd => (this d hd).symm
theorem eq_am1 (q : Rat) (h : Hv) : opEqD false (am q) (.tup [.int 1, .int 1]) h = .ok (.bl (decide (q = 1))) h := by
  have e : opEqD false (am q) (.tup [.int 1, .int 1]) h = .ok (.bl (decide (q.num = 1) && decide ((q.den : Int) = 1))) h := by
    simp [opEqD, toP, toPs, am, PyData.eqv, PyData.eqvAll]
    rfl
  rw [e]
  congr 2
  by_cases hq : q = 1
  · subst hq; rfl
  · have : ¬ (q.num = 1 ∧ (q.den : Int) = 1) := fun ⟨a, b⟩ => hq (Rat.ext a (by have : (1 : Rat).den = 1 := rfl; rw [this]; omega))
    simp only [hq, decide_false]
    rw [Bool.and_eq_false_iff]
    simp only [decide_eq_false_iff_not]
    omega
theorem are_shares_any (k : Nat) {h : Hv} {d : D} (s : Sml h d) (many : Int) (hm : many ≤ 4) : callK T (k + 5) "are_shares" [d, .int many] h = .ok (.bl (shsB many d)) h := by
  have h1 := s.isiT
  cases d with
  | tup ds =>
    have hs : ∀ d ∈ ds, Sml h d := by cases s; assumption
    have hd : ds.length ≤ 100 := by cases s; assumption
    have ln : bLen [.tup ds] h = .ok (.int ds.length) h := rfl
    by_cases hl : (ds.length : Int) = many
    · have l1 := lc_any (C := callK T (k + 4)) (env := [some (.tup ds), some (.int many), none]) (i := 2) (own := [2]) (elt := callF "looks_a_share" [(varF 2)]) (h := h) ds (fun d => .bl (shB d)) (varF 0) rfl (by simp) rfl
        (fun d hd acc => by
          have z := looks_any (k + 1) ((hs d hd).mono (h' := h ++ [.lst acc]) (by simp))
          simp only [wipeD, u_seq, u_asg, u_call, u_exp, u_if, u_ret, u_setS, u_par, u_nx, nxt_nx, nxt_rt, u_list, u_list0, u_var, u_con, u_bin, u_un1, u_and, u_or, u_chain, u_ite, u_blt, u_tup, u_lst, u_slc, u_opt, u_opt0, im_int, u_nm, u_tgs, u_tgs0, u_tupT, List.getElem?_cons_succ, List.getElem?_cons_zero, bind_ok, thenS_ok, thenI_ok, List.length_cons, List.length_nil, Nat.reduceAdd, Nat.reduceSub, Nat.reduceLT, Nat.reduceLeDiff, Nat.zero_le, if_true, om_some, List.set_cons_succ, List.set_cons_zero, bm_bl, Bool.not_true, Bool.not_false, Bool.false_eq_true, if_false, u_add, u_sub, u_neg, u_not, u_lt, u_le, u_gt, u_ge, u_eqI, u_neI, decide_true, decide_false, u_int, u_intb, methF, List.map_cons, List.map_nil, List.replicate, List.cons_append, List.nil_append, z]) (by omega)
      have al := all_any (h := h) shB ds
      refine fn_app (g := [Ob.lst (ds.map fun d => D.bl (shB d))]) t_are_shares rfl ?_ rfl
      cases ha : ds.all shB with
      | false =>
        rw [ha] at al
        simp only [R_are_shares, F_are_shares, u_seq, u_asg, u_call, u_exp, u_if, u_ret, u_setS, u_par, u_nx, nxt_nx, nxt_rt, u_list, u_list0, u_var, u_con, u_bin, u_un1, u_and, u_or, u_chain, u_ite, u_blt, u_tup, u_lst, u_slc, u_opt, u_opt0, im_int, u_nm, u_tgs, u_tgs0, u_tupT, List.getElem?_cons_succ, List.getElem?_cons_zero, bind_ok, thenS_ok, thenI_ok, List.length_cons, List.length_nil, Nat.reduceAdd, Nat.reduceSub, Nat.reduceLT, Nat.reduceLeDiff, Nat.zero_le, if_true, om_some, List.set_cons_succ, List.set_cons_zero, bm_bl, Bool.not_true, Bool.not_false, Bool.false_eq_true, if_false, u_add, u_sub, u_neg, u_not, u_lt, u_le, u_gt, u_ge, u_eqI, u_neI, decide_true, decide_false, u_int, u_intb, methF, List.map_cons, List.map_nil, List.replicate, List.cons_append, List.nil_append, h1, isTupD, ln, hl, l1, al, shsB, ha, Bool.false_and, Bool.and_false]
      | true =>
        rw [ha] at al
        obtain ⟨M, M0, M1, M2, bn, ed⟩ := sum_shares hs ha (by omega)
        have sm := all_of_ok k M 1 (ds.map ratD) (.tup ds) [] (h ++ [Ob.lst (ds.map fun d => D.bl (shB d))]) (by rw [← ed]; rfl) rfl M0 M1 M2 bn
        have eq := eq_am1 (ds.map ratD).sum (h ++ [Ob.lst (ds.map fun d => D.bl (shB d))])
        simp only [R_are_shares, F_are_shares, u_seq, u_asg, u_call, u_exp, u_if, u_ret, u_setS, u_par, u_nx, nxt_nx, nxt_rt, u_list, u_list0, u_var, u_con, u_bin, u_un1, u_and, u_or, u_chain, u_ite, u_blt, u_tup, u_lst, u_slc, u_opt, u_opt0, im_int, u_nm, u_tgs, u_tgs0, u_tupT, List.getElem?_cons_succ, List.getElem?_cons_zero, bind_ok, thenS_ok, thenI_ok, List.length_cons, List.length_nil, Nat.reduceAdd, Nat.reduceSub, Nat.reduceLT, Nat.reduceLeDiff, Nat.zero_le, if_true, om_some, List.set_cons_succ, List.set_cons_zero, bm_bl, Bool.not_true, Bool.not_false, Bool.false_eq_true, if_false, u_add, u_sub, u_neg, u_not, u_lt, u_le, u_gt, u_ge, u_eqI, u_neI, decide_true, decide_false, u_int, u_intb, methF, List.map_cons, List.map_nil, List.replicate, List.cons_append, List.nil_append, h1, isTupD, ln, hl, l1, al, shsB, ha, sm, eq, Bool.true_and]
    · refine fn_same t_are_shares rfl ?_
      simp only [R_are_shares, F_are_shares, u_seq, u_asg, u_call, u_exp, u_if, u_ret, u_setS, u_par, u_nx, nxt_nx, nxt_rt, u_list, u_list0, u_var, u_con, u_bin, u_un1, u_and, u_or, u_chain, u_ite, u_blt, u_tup, u_lst, u_slc, u_opt, u_opt0, im_int, u_nm, u_tgs, u_tgs0, u_tupT, List.getElem?_cons_succ, List.getElem?_cons_zero, bind_ok, thenS_ok, thenI_ok, List.length_cons, List.length_nil, Nat.reduceAdd, Nat.reduceSub, Nat.reduceLT, Nat.reduceLeDiff, Nat.zero_le, if_true, om_some, List.set_cons_succ, List.set_cons_zero, bm_bl, Bool.not_true, Bool.not_false, Bool.false_eq_true, if_false, u_add, u_sub, u_neg, u_not, u_lt, u_le, u_gt, u_ge, u_eqI, u_neI, decide_true, decide_false, u_int, u_intb, methF, List.map_cons, List.map_nil, List.replicate, List.cons_append, List.nil_append, h1, isTupD, ln, hl, shsB, Bool.false_and]
  | _ =>
    refine fn_same t_are_shares rfl ?_
    simp only [R_are_shares, F_are_shares, u_seq, u_asg, u_call, u_exp, u_if, u_ret, u_setS, u_par, u_nx, nxt_nx, nxt_rt, u_list, u_list0, u_var, u_con, u_bin, u_un1, u_and, u_or, u_chain, u_ite, u_blt, u_tup, u_lst, u_slc, u_opt, u_opt0, im_int, u_nm, u_tgs, u_tgs0, u_tupT, List.getElem?_cons_succ, List.getElem?_cons_zero, bind_ok, thenS_ok, thenI_ok, List.length_cons, List.length_nil, Nat.reduceAdd, Nat.reduceSub, Nat.reduceLT, Nat.reduceLeDiff, Nat.zero_le, if_true, om_some, List.set_cons_succ, List.set_cons_zero, bm_bl, Bool.not_true, Bool.not_false, Bool.false_eq_true, if_false, u_add, u_sub, u_neg, u_not, u_lt, u_le, u_gt, u_ge, u_eqI, u_neI, decide_true, decide_false, u_int, u_intb, methF, List.map_cons, List.map_nil, List.replicate, List.cons_append, List.nil_append, h1, isTupD, shsB]
theorem _law_are_shares_any (k : Nat) {h : Hv} {d : D} (s : Sml h d) (many : Int) (hm : many ≤ 4) : callK T (k + 5) "_law_are_shares" [d, .int many] h = .ok (.bl (shsB many d)) h := by
  have h1 := s.isiT
  cases d with
  | tup ds =>
    have hs : ∀ d ∈ ds, Sml h d := by cases s; assumption
    have hd : ds.length ≤ 100 := by cases s; assumption
    have ln : bLen [.tup ds] h = .ok (.int ds.length) h := rfl
    by_cases hl : (ds.length : Int) = many
    · have l1 := lc_any (C := callK T (k + 4)) (env := [some (.tup ds), some (.int many), none]) (i := 2) (own := [2]) (elt := callF "_law_is_share" [(varF 2)]) (h := h) ds (fun d => .bl (shB d)) (varF 0) rfl (by simp) rfl
        (fun d hd acc => by
          have z := _law_is_share_any (k + 1) ((hs d hd).mono (h' := h ++ [.lst acc]) (by simp))
          simp only [wipeD, u_seq, u_asg, u_call, u_exp, u_if, u_ret, u_setS, u_par, u_nx, nxt_nx, nxt_rt, u_list, u_list0, u_var, u_con, u_bin, u_un1, u_and, u_or, u_chain, u_ite, u_blt, u_tup, u_lst, u_slc, u_opt, u_opt0, im_int, u_nm, u_tgs, u_tgs0, u_tupT, List.getElem?_cons_succ, List.getElem?_cons_zero, bind_ok, thenS_ok, thenI_ok, List.length_cons, List.length_nil, Nat.reduceAdd, Nat.reduceSub, Nat.reduceLT, Nat.reduceLeDiff, Nat.zero_le, if_true, om_some, List.set_cons_succ, List.set_cons_zero, bm_bl, Bool.not_true, Bool.not_false, Bool.false_eq_true, if_false, u_add, u_sub, u_neg, u_not, u_lt, u_le, u_gt, u_ge, u_eqI, u_neI, decide_true, decide_false, u_int, u_intb, methF, List.map_cons, List.map_nil, List.replicate, List.cons_append, List.nil_append, z]) (by omega)
      have al := all_any (h := h) shB ds
      refine fn_app (g := [Ob.lst (ds.map fun d => D.bl (shB d))]) t__law_are_shares rfl ?_ rfl
      cases ha : ds.all shB with
      | false =>
        rw [ha] at al
        simp only [R__law_are_shares, F__law_are_shares, u_seq, u_asg, u_call, u_exp, u_if, u_ret, u_setS, u_par, u_nx, nxt_nx, nxt_rt, u_list, u_list0, u_var, u_con, u_bin, u_un1, u_and, u_or, u_chain, u_ite, u_blt, u_tup, u_lst, u_slc, u_opt, u_opt0, im_int, u_nm, u_tgs, u_tgs0, u_tupT, List.getElem?_cons_succ, List.getElem?_cons_zero, bind_ok, thenS_ok, thenI_ok, List.length_cons, List.length_nil, Nat.reduceAdd, Nat.reduceSub, Nat.reduceLT, Nat.reduceLeDiff, Nat.zero_le, if_true, om_some, List.set_cons_succ, List.set_cons_zero, bm_bl, Bool.not_true, Bool.not_false, Bool.false_eq_true, if_false, u_add, u_sub, u_neg, u_not, u_lt, u_le, u_gt, u_ge, u_eqI, u_neI, decide_true, decide_false, u_int, u_intb, methF, List.map_cons, List.map_nil, List.replicate, List.cons_append, List.nil_append, h1, isTupD, ln, hl, l1, al, shsB, ha, Bool.false_and, Bool.and_false]
      | true =>
        rw [ha] at al
        obtain ⟨M, M0, M1, M2, bn, ed⟩ := sum_shares hs ha (by omega)
        have sm := _law_sum_ok k M 1 (ds.map ratD) (.tup ds) [] (h ++ [Ob.lst (ds.map fun d => D.bl (shB d))]) (by rw [← ed]; rfl) rfl M0 M1 M2 bn
        have eq := eq_am1 (ds.map ratD).sum (h ++ [Ob.lst (ds.map fun d => D.bl (shB d))])
        simp only [R__law_are_shares, F__law_are_shares, u_seq, u_asg, u_call, u_exp, u_if, u_ret, u_setS, u_par, u_nx, nxt_nx, nxt_rt, u_list, u_list0, u_var, u_con, u_bin, u_un1, u_and, u_or, u_chain, u_ite, u_blt, u_tup, u_lst, u_slc, u_opt, u_opt0, im_int, u_nm, u_tgs, u_tgs0, u_tupT, List.getElem?_cons_succ, List.getElem?_cons_zero, bind_ok, thenS_ok, thenI_ok, List.length_cons, List.length_nil, Nat.reduceAdd, Nat.reduceSub, Nat.reduceLT, Nat.reduceLeDiff, Nat.zero_le, if_true, om_some, List.set_cons_succ, List.set_cons_zero, bm_bl, Bool.not_true, Bool.not_false, Bool.false_eq_true, if_false, u_add, u_sub, u_neg, u_not, u_lt, u_le, u_gt, u_ge, u_eqI, u_neI, decide_true, decide_false, u_int, u_intb, methF, List.map_cons, List.map_nil, List.replicate, List.cons_append, List.nil_append, h1, isTupD, ln, hl, l1, al, shsB, ha, sm, eq, Bool.true_and]
    · refine fn_same t__law_are_shares rfl ?_
      simp only [R__law_are_shares, F__law_are_shares, u_seq, u_asg, u_call, u_exp, u_if, u_ret, u_setS, u_par, u_nx, nxt_nx, nxt_rt, u_list, u_list0, u_var, u_con, u_bin, u_un1, u_and, u_or, u_chain, u_ite, u_blt, u_tup, u_lst, u_slc, u_opt, u_opt0, im_int, u_nm, u_tgs, u_tgs0, u_tupT, List.getElem?_cons_succ, List.getElem?_cons_zero, bind_ok, thenS_ok, thenI_ok, List.length_cons, List.length_nil, Nat.reduceAdd, Nat.reduceSub, Nat.reduceLT, Nat.reduceLeDiff, Nat.zero_le, if_true, om_some, List.set_cons_succ, List.set_cons_zero, bm_bl, Bool.not_true, Bool.not_false, Bool.false_eq_true, if_false, u_add, u_sub, u_neg, u_not, u_lt, u_le, u_gt, u_ge, u_eqI, u_neI, decide_true, decide_false, u_int, u_intb, methF, List.map_cons, List.map_nil, List.replicate, List.cons_append, List.nil_append, h1, isTupD, ln, hl, shsB, Bool.false_and]
  | _ =>
    refine fn_same t__law_are_shares rfl ?_
    simp only [R__law_are_shares, F__law_are_shares, u_seq, u_asg, u_call, u_exp, u_if, u_ret, u_setS, u_par, u_nx, nxt_nx, nxt_rt, u_list, u_list0, u_var, u_con, u_bin, u_un1, u_and, u_or, u_chain, u_ite, u_blt, u_tup, u_lst, u_slc, u_opt, u_opt0, im_int, u_nm, u_tgs, u_tgs0, u_tupT, List.getElem?_cons_succ, List.getElem?_cons_zero, bind_ok, thenS_ok, thenI_ok, List.length_cons, List.length_nil, Nat.reduceAdd, Nat.reduceSub, Nat.reduceLT, Nat.reduceLeDiff, Nat.zero_le, if_true, om_some, List.set_cons_succ, List.set_cons_zero, bm_bl, Bool.not_true, Bool.not_false, Bool.false_eq_true, if_false, u_add, u_sub, u_neg, u_not, u_lt, u_le, u_gt, u_ge, u_eqI, u_neI, decide_true, decide_false, u_int, u_intb, methF, List.map_cons, List.map_nil, List.replicate, List.cons_append, List.nil_append, h1, isTupD, shsB]
theorem inB_int {lo : Int} {hi : Option Int} {d : D} (h : inB lo hi d = true) : ∃ i, d = .int i := by cases d <;> first | exact ⟨_, rfl⟩ | cases h

theorem atI_mem {ds : List D} {r : Int} (h0 : 0 ≤ r) (h1 : r < ds.length) : ∃ d ∈ ds, atI ds r = some d := by
  obtain ⟨n, rfl⟩ := Int.eq_ofNat_of_zero_le h0
  have hn : n < ds.length := by omega
  exact ⟨ds[n], List.getElem_mem hn, by rw [at_nat, List.getElem?_eq_getElem hn]⟩
/-- what a def gives back of any kind -/
theorem gc_sml {h0 : Hv} {pen pen' : List D} {g e : Hv} {d : D} (hpn : D.grs pen' = true) (s : Sml (hp h0 pen' (g ++ e)) d) :
    ∃ d' e', gc (hp h0 pen g) d (hp h0 pen' (g ++ e)) = .ok d' (hp h0 pen' (g ++ e')) ∧ Sml (hp h0 pen' (g ++ e')) d' ∧ (d' = d ∨ ∃ i j, d = .ref i ∧ d' = .ref j) := by
  by_cases hd : d.gr = true
  · refine ⟨d, [], by rw [List.append_nil]; exact gc_hp hd hpn, ?_, .inl rfl⟩
    have gen : ∀ {h h' : Hv} {d : D}, Sml h d → d.gr = true → Sml h' d := by
      intro h h' d s
      induction s with
      | non => exact fun _ => .non
      | bl b => exact fun _ => .bl b
      | int i hi => exact fun _ => .int i hi
      | str s ho => exact fun _ => .str s ho
      | tup ds hl _ ih =>
        intro hg
        refine .tup ds hl fun d hd => ih d hd ?_
        have all : ∀ (ds : List D) (d : D), d ∈ ds → D.grs ds = true → d.gr = true := by
          intro ds
          induction ds with
          | nil => intro d hd; cases hd
          | cons x xs ih2 =>
            intro d hd hg
            simp only [D.grs, Bool.and_eq_true] at hg
            rcases List.mem_cons.1 hd with rfl | hd
            · exact hg.1
            · exact ih2 d hd hg.2
        exact all ds d hd (by simpa [D.gr] using hg)
      | ref p hp => exact fun hg => by simp [D.gr] at hg
    exact gen s hd
  · have tk : (hp h0 pen' (g ++ e)).take (hp h0 pen g).length = hp h0 pen' g := by
      have e1 : hp h0 pen' (g ++ e) = hp h0 pen' g ++ e := by rw [hp_app]
      have e2 : (hp h0 pen g).length = (hp h0 pen' g).length := by rw [hp_len, hp_len]
      rw [e1, e2, List.take_left']
      rfl
    have keep : ∃ d' e', R.ok d (hp h0 pen' (g ++ e)) = .ok d' (hp h0 pen' (g ++ e')) ∧ Sml (hp h0 pen' (g ++ e')) d' ∧ (d' = d ∨ ∃ i j, d = .ref i ∧ d' = .ref j) := ⟨d, e, rfl, s, .inl rfl⟩
    unfold gc
    split
    · first | rw [if_neg hd] | skip
      split
      · rename_i i
        split
        · rename_i ds e1
          split
          · refine ⟨.ref (hp h0 pen g).length, [.lst ds], by rw [tk, hp_app], .ref _ (by rw [hp_len, hp_len, List.length_append]; simp), .inr ⟨i, _, rfl, rfl⟩⟩
          · exact keep
        · exact keep
      · exact keep
    · exact keep
/-- a comprehension whose things draw and lay -/
theorem lc_pen {C : Or} {env : Env} {it : IF} {i : Nat} {own : List Nat} {elt : EF} {h h0 : Hv} {g : Hv} (ht : i < env.length) (hw : (wipeD env own).length = env.length) :
    ∀ (xs : List D) (pen : List D), PenOk pen → xs.length ≤ 100 → it C env h = .ok (xs, []) (hp h0 pen g) →
    (∀ x ∈ xs, ∀ (pen : List D) (acc : List D) (e : Hv), PenOk pen → ∃ d pen' e', PenOk pen' ∧ Sml (hp h0 pen' (g ++ .lst acc :: (e ++ e'))) d ∧ elt C ((wipeD env own).set i (some x)) (hp h0 pen (g ++ .lst acc :: e)) = .ok d (hp h0 pen' (g ++ .lst acc :: (e ++ e')))) →
    ∃ ds pen' e, PenOk pen' ∧ ds.length = xs.length ∧ (∀ d ∈ ds, Sml (hp h0 pen' (g ++ .lst ds :: e)) d) ∧ lcF it (nmT i) own (conF (.bl true)) elt C env h = .ok (.ref (h0.length + 1 + g.length)) (hp h0 pen' (g ++ .lst ds :: e)) := by
  intro xs pen hpn hl hit he
  have loop : ∀ (xs : List D) (pen : List D) (acc : List D) (e : Hv), PenOk pen → acc.length + xs.length ≤ 100 → (∀ d ∈ acc, Sml (hp h0 pen (g ++ .lst acc :: e)) d) →
      (∀ x ∈ xs, ∀ (pen : List D) (acc : List D) (e : Hv), PenOk pen → ∃ d pen' e', PenOk pen' ∧ Sml (hp h0 pen' (g ++ .lst acc :: (e ++ e'))) d ∧ elt C ((wipeD env own).set i (some x)) (hp h0 pen (g ++ .lst acc :: e)) = .ok d (hp h0 pen' (g ++ .lst acc :: (e ++ e')))) →
      ∃ ds pen' e', PenOk pen' ∧ ds.length = acc.length + xs.length ∧ (∀ d ∈ ds, Sml (hp h0 pen' (g ++ .lst ds :: e')) d) ∧ lcLoop C (wipeD env own) (nmT i) (conF (.bl true)) elt [] (h0.length + 1 + g.length) xs (hp h0 pen (g ++ .lst acc :: e)) = .ok () (hp h0 pen' (g ++ .lst ds :: e')) := by
    intro xs
    induction xs with
    | nil => intro pen acc e hpn hl ha _; exact ⟨acc, pen, e, hpn, by simp, ha, by simp [lcLoop]⟩
    | cons x xs ih =>
      intro pen acc e hpn hl ha he
      obtain ⟨d, p1, e1, hp1, sd, ee⟩ := he x (by simp) pen acc e hpn
      rw [List.length_cons] at hl
      have ha' : ∀ d' ∈ acc ++ [d], Sml (hp h0 p1 (g ++ .lst (acc ++ [d]) :: (e ++ e1))) d' := by
        intro d' hd'
        rcases List.mem_append.1 hd' with hd' | hd'
        · exact (ha d' hd').mono (by simp)
        · rw [List.mem_singleton.1 hd']
          exact sd.mono (by simp)
      obtain ⟨ds, p2, e2, hp2, l2, s2, r2⟩ := ih p1 (acc ++ [d]) (e ++ e1) hp1 (by simp; omega) ha' fun y hy => he y (by simp [hy])
      refine ⟨ds, p2, e2, hp2, by rw [l2]; simp; omega, s2, ?_⟩
      have at_ : (hp h0 p1 (g ++ .lst acc :: (e ++ e1)))[h0.length + 1 + g.length]? = some (.lst acc) := by rw [hp_get1]; simp
      rw [lcLoop, if_pos (g_nil _), u_nm, if_pos (by rw [hw]; exact ht)]
      simp only [u_con, bind_ok, ee, at_]
      rw [if_pos (by unfold szl; omega), hp_set1, g_set]
      exact r2
  obtain ⟨ds, p2, e2, hp2, l2, s2, r2⟩ := loop xs pen [] [] hpn (by simpa using hl) (by simp) he
  refine ⟨ds, p2, e2, hp2, by simpa using l2, s2, ?_⟩
  rw [lcF, hit]
  simp only [bind_ok]
  have e9 : (hp h0 pen g).length = h0.length + 1 + g.length := by rw [hp_len]
  rw [hp_app, e9, r2]
  rfl
theorem strOk_a : PyData.strOk ("a" : Str) = true := by decide +kernel
theorem strOk_0 : PyData.strOk ("" : Str) = true := by decide +kernel
def thing12 (p : Nat) : List D := [.non, .bl true, .bl false, .int 0, .int 1, .int (-1), .int 9, .int (10 ^ 39), .str "", .str "a", .tup [], .ref p]
theorem thing12_sml {h : Hv} {p : Nat} (hp : p < h.length) : ∀ d ∈ thing12 p, Sml h d := by
  intro d hd
  simp only [thing12, List.mem_cons, List.not_mem_nil, or_false] at hd
  rcases hd with rfl | rfl | rfl | rfl | rfl | rfl | rfl | rfl | rfl | rfl | rfl | rfl
  · exact .non
  · exact .bl _
  · exact .bl _
  · exact .int _ (by decide)
  · exact .int _ (by decide)
  · exact .int _ (by decide)
  · exact .int _ (by decide)
  · exact .int _ (by decide)
  · exact .str _ strOk_0
  · exact .str _ strOk_a
  · exact .tup [] (by decide) (by simp)
  · exact .ref _ hp
theorem run_sml {f : Str} {r : FnRec} {k : Nat} {args : List D} {h0 : Hv} {pen pen' : List D} {g e : Hv} {d : D} (t : T f = some r) (hn : args.length = r.np) (hpn : PenOk pen') (s : Sml (hp h0 pen' (g ++ e)) d)
    (hb : r.body (callK T k) (args.map some ++ List.replicate (r.nl - r.np) none) (hp h0 pen g) = .rt d (hp h0 pen' (g ++ e))) :
    ∃ d' e', Sml (hp h0 pen' (g ++ e')) d' ∧ (d' = d ∨ ∃ i j, d = .ref i ∧ d' = .ref j) ∧ callK T (k + 1) f args (hp h0 pen g) = .ok d' (hp h0 pen' (g ++ e')) := by
  obtain ⟨d', e', q1, q2, q3⟩ := gc_sml (pen := pen) hpn.grs s
  refine ⟨d', e', q2, q3, ?_⟩
  rw [callK_eq t]
  exact (run_rt hn hb).trans q1
theorem u_dct1 {es : List (EF × EF)} {C : Or} {env : Env} {h : Hv} {ps : List (DKey × D)} (e : pairsF es C env (h ++ [.dct []]) = .ok ps (h ++ [.dct []])) (hl : ps.length ≤ 15) : dctF es C env h = .ok (.ref h.length) (h ++ [.dct (mergeD [] ps)]) := by
  simp only [dctF, e, bind_ok]
  rw [if_pos ⟨by simp, hl⟩]
  simp [List.set_append]
/-- one of twelve -/
theorem thing_leaf (k n : Nat) (h0 : Hv) (pen p1 : List D) (g : Hv) (w : Int) (hp1 : PenOk p1) (e1 : callK T (k + 1) "_law_draw" [.ref h0.length, .int 12] (hp h0 pen g) = .ok (.int w) (hp h0 p1 g)) (hw : w < 8 ∨ n = 0) :
    ∃ d pen' e, PenOk pen' ∧ Sml (hp h0 pen' (g ++ e)) d ∧ callK T (k + 2) "_law_thing" [.ref h0.length, .int n] (hp h0 pen g) = .ok d (hp h0 pen' (g ++ e)) := by
  obtain ⟨r, p2, a2, b2, hp2, e2⟩ := _law_draw_ok k 12 h0 p1 (g ++ [.lst [], .lst (thing12 (h0.length + 1 + g.length))]) (by decide) (by decide) hp1
  obtain ⟨d, hd, ed⟩ := atI_mem (ds := thing12 (h0.length + 1 + g.length)) a2 b2
  have sd := thing12_sml (h := hp h0 p2 (g ++ [.lst [], .lst (thing12 (h0.length + 1 + g.length))])) (p := h0.length + 1 + g.length) (by rw [hp_len]; simp) d hd
  obtain ⟨d', e', q1, _, q3⟩ := run_sml (f := "_law_thing") (k := k + 1) (args := [.ref h0.length, .int n]) (pen := pen) t__law_thing rfl hp2 sd (by
    have ep : ∀ h, opPow (.int 10) (.int 39) h = .ok (.int (10 ^ 39)) h := fun h => by simp [opPow, big64]
    have ex := u_ixL (p := h0.length + 1 + (g.length + 1)) (ds := thing12 (h0.length + 1 + g.length)) (i := r) (h := hp h0 p2 (g ++ [.lst [], .lst (thing12 (h0.length + 1 + g.length))])) (by rw [hp_get1]; simp)
    rw [ed] at ex
    simp only [thing12] at e2 ex
    by_cases hw8 : w < 8
    · simp only [R__law_thing, F__law_thing, u_seq, u_asg, u_call, u_exp, u_if, u_ret, u_setS, u_par, u_nx, nxt_nx, nxt_rt, u_list, u_list0, u_var, u_con, u_bin, u_un1, u_and, u_or, u_chain, u_ite, u_blt, u_tup, u_lst, u_slc, u_opt, u_opt0, im_int, u_nm, u_tgs, u_tgs0, u_tupT, List.getElem?_cons_succ, List.getElem?_cons_zero, bind_ok, thenS_ok, thenI_ok, List.length_cons, List.length_nil, Nat.reduceAdd, Nat.reduceSub, Nat.reduceLT, Nat.reduceLeDiff, Nat.zero_le, if_true, om_some, List.set_cons_succ, List.set_cons_zero, bm_bl, Bool.not_true, Bool.not_false, Bool.false_eq_true, if_false, u_add, u_sub, u_neg, u_not, u_lt, u_le, u_gt, u_ge, u_eqI, u_neI, decide_true, decide_false, u_int, u_intb, methF, List.map_cons, List.map_nil, List.replicate, List.cons_append, List.nil_append, e1, hw8, hp_len, hp_app, List.append_assoc, ep, List.length_append, Nat.add_assoc]
      simp only [Nat.add_assoc] at *
      simp only [e2, ex, u_seq, u_asg, u_call, u_exp, u_if, u_ret, u_setS, u_par, u_nx, nxt_nx, nxt_rt, u_list, u_list0, u_var, u_con, u_bin, u_un1, u_and, u_or, u_chain, u_ite, u_blt, u_tup, u_lst, u_slc, u_opt, u_opt0, im_int, u_nm, u_tgs, u_tgs0, u_tupT, List.getElem?_cons_succ, List.getElem?_cons_zero, bind_ok, thenS_ok, thenI_ok, List.length_cons, List.length_nil, Nat.reduceAdd, Nat.reduceSub, Nat.reduceLT, Nat.reduceLeDiff, Nat.zero_le, if_true, om_some, List.set_cons_succ, List.set_cons_zero, bm_bl, Bool.not_true, Bool.not_false, Bool.false_eq_true, if_false, u_add, u_sub, u_neg, u_not, u_lt, u_le, u_gt, u_ge, u_eqI, u_neI, decide_true, decide_false, u_int, u_intb, methF, List.map_cons, List.map_nil, List.replicate, List.cons_append, List.nil_append]
      rfl
    · have hn : n = 0 := by omega
      subst hn
      have z : ((0 : Nat) : Int) = 0 := rfl
      simp only [R__law_thing, F__law_thing, u_seq, u_asg, u_call, u_exp, u_if, u_ret, u_setS, u_par, u_nx, nxt_nx, nxt_rt, u_list, u_list0, u_var, u_con, u_bin, u_un1, u_and, u_or, u_chain, u_ite, u_blt, u_tup, u_lst, u_slc, u_opt, u_opt0, im_int, u_nm, u_tgs, u_tgs0, u_tupT, List.getElem?_cons_succ, List.getElem?_cons_zero, bind_ok, thenS_ok, thenI_ok, List.length_cons, List.length_nil, Nat.reduceAdd, Nat.reduceSub, Nat.reduceLT, Nat.reduceLeDiff, Nat.zero_le, if_true, om_some, List.set_cons_succ, List.set_cons_zero, bm_bl, Bool.not_true, Bool.not_false, Bool.false_eq_true, if_false, u_add, u_sub, u_neg, u_not, u_lt, u_le, u_gt, u_ge, u_eqI, u_neI, decide_true, decide_false, u_int, u_intb, methF, List.map_cons, List.map_nil, List.replicate, List.cons_append, List.nil_append, e1, z, hw8, hp_len, hp_app, List.append_assoc, ep, List.length_append, Nat.add_assoc]
      simp only [Nat.add_assoc] at *
      simp only [e2, ex, u_seq, u_asg, u_call, u_exp, u_if, u_ret, u_setS, u_par, u_nx, nxt_nx, nxt_rt, u_list, u_list0, u_var, u_con, u_bin, u_un1, u_and, u_or, u_chain, u_ite, u_blt, u_tup, u_lst, u_slc, u_opt, u_opt0, im_int, u_nm, u_tgs, u_tgs0, u_tupT, List.getElem?_cons_succ, List.getElem?_cons_zero, bind_ok, thenS_ok, thenI_ok, List.length_cons, List.length_nil, Nat.reduceAdd, Nat.reduceSub, Nat.reduceLT, Nat.reduceLeDiff, Nat.zero_le, if_true, om_some, List.set_cons_succ, List.set_cons_zero, bm_bl, Bool.not_true, Bool.not_false, Bool.false_eq_true, if_false, u_add, u_sub, u_neg, u_not, u_lt, u_le, u_gt, u_ge, u_eqI, u_neI, decide_true, decide_false, u_int, u_intb, methF, List.map_cons, List.map_nil, List.replicate, List.cons_append, List.nil_append]
      rfl)
  exact ⟨d', p2, e', hp2, q1, q3⟩
theorem _law_thing_ok : ∀ (n k : Nat) (h0 : Hv) (pen : List D) (g : Hv), PenOk pen → ∃ d pen' e, PenOk pen' ∧ Sml (hp h0 pen' (g ++ e)) d ∧ callK T (k + n + 2) "_law_thing" [.ref h0.length, .int n] (hp h0 pen g) = .ok d (hp h0 pen' (g ++ e)) := by
  intro n
  induction n with
  | zero =>
    intro k h0 pen g hpn
    obtain ⟨w, p1, a1, b1, hp1, e1⟩ := _law_draw_ok k 12 h0 pen g (by decide) (by decide) hpn
    exact thing_leaf k 0 h0 pen p1 g w hp1 e1 (.inr rfl)
  | succ n ih =>
    intro k h0 pen g hpn
    obtain ⟨w, p1, a1, b1, hp1, e1⟩ := _law_draw_ok (k + n + 1) 12 h0 pen g (by decide) (by decide) hpn
    by_cases hw8 : w < 8
    · exact thing_leaf (k + n + 1) (n + 1) h0 pen p1 g w hp1 e1 (.inl hw8)
    · obtain ⟨r, p2, a2, b2, hp2, e2⟩ := _law_draw_ok (k + n + 1) 4 h0 p1 g (by decide) (by decide) hp1
      have e1' : callK T (k + (n + 1) + 1) "_law_draw" [.ref h0.length, .int 12] (hp h0 pen g) = .ok (.int w) (hp h0 p1 g) := e1
      have e2' : callK T (k + (n + 1) + 1) "_law_draw" [.ref h0.length, .int 4] (hp h0 p1 g) = .ok (.int r) (hp h0 p2 g) := e2
      obtain ⟨m, rfl⟩ := Int.eq_ofNat_of_zero_le a2
      obtain ⟨ds, p3, e3, hp3, l3, s3, r3⟩ := lc_pen (C := callK T (k + (n + 1) + 1)) (env := [some (.ref h0.length), some (.int ((n + 1 : Nat) : Int)), some (.int w), none, none]) (it := it1F (callF "_law_draw" [(varF 0), (conF (.int 4))])) (i := 4) (own := [4])
        (elt := callF "_law_thing" [(varF 0), (binF opSub (varF 1) (conF (.int 1)))]) (h := hp h0 p1 g) (h0 := h0) (g := g) (by simp) rfl ((List.range m).map fun i => D.int (i : Nat)) p2 hp2 (by simp; omega)
        (it1_ok (n := m) (by simp only [u_seq, u_asg, u_call, u_exp, u_if, u_ret, u_setS, u_par, u_nx, nxt_nx, nxt_rt, u_list, u_list0, u_var, u_con, u_bin, u_un1, u_and, u_or, u_chain, u_ite, u_blt, u_tup, u_lst, u_slc, u_opt, u_opt0, im_int, u_nm, u_tgs, u_tgs0, u_tupT, List.getElem?_cons_succ, List.getElem?_cons_zero, bind_ok, thenS_ok, thenI_ok, List.length_cons, List.length_nil, Nat.reduceAdd, Nat.reduceSub, Nat.reduceLT, Nat.reduceLeDiff, Nat.zero_le, if_true, om_some, List.set_cons_succ, List.set_cons_zero, bm_bl, Bool.not_true, Bool.not_false, Bool.false_eq_true, if_false, u_add, u_sub, u_neg, u_not, u_lt, u_le, u_gt, u_ge, u_eqI, u_neI, decide_true, decide_false, u_int, u_intb, methF, List.map_cons, List.map_nil, List.replicate, List.cons_append, List.nil_append, e2']) (by omega))
        (by
          intro x hx pen acc e hpn
          obtain ⟨d, p4, e4, hp4, s4, r4⟩ := ih k h0 pen (g ++ .lst acc :: e) hpn
          have eq : g ++ Ob.lst acc :: e ++ e4 = g ++ Ob.lst acc :: (e ++ e4) := by simp
          rw [eq] at s4 r4
          have z : ((n + 1 : Nat) : Int) - 1 = (n : Nat) := by omega
          have r4' : callK T (k + (n + 1) + 1) "_law_thing" [.ref h0.length, .int n] (hp h0 pen (g ++ .lst acc :: e)) = .ok d (hp h0 p4 (g ++ .lst acc :: (e ++ e4))) := r4
          refine ⟨d, p4, e4, hp4, s4, ?_⟩
          simp only [wipeD, u_seq, u_asg, u_call, u_exp, u_if, u_ret, u_setS, u_par, u_nx, nxt_nx, nxt_rt, u_list, u_list0, u_var, u_con, u_bin, u_un1, u_and, u_or, u_chain, u_ite, u_blt, u_tup, u_lst, u_slc, u_opt, u_opt0, im_int, u_nm, u_tgs, u_tgs0, u_tupT, List.getElem?_cons_succ, List.getElem?_cons_zero, bind_ok, thenS_ok, thenI_ok, List.length_cons, List.length_nil, Nat.reduceAdd, Nat.reduceSub, Nat.reduceLT, Nat.reduceLeDiff, Nat.zero_le, if_true, om_some, List.set_cons_succ, List.set_cons_zero, bm_bl, Bool.not_true, Bool.not_false, Bool.false_eq_true, if_false, u_add, u_sub, u_neg, u_not, u_lt, u_le, u_gt, u_ge, u_eqI, u_neI, decide_true, decide_false, u_int, u_intb, methF, List.map_cons, List.map_nil, List.replicate, List.cons_append, List.nil_append, z, r4'])
      have hl3 : ds.length ≤ 3 := by rw [l3]; simp; omega
      have at_ : (hp h0 p3 (g ++ .lst ds :: e3))[h0.length + 1 + g.length]? = some (.lst ds) := by rw [hp_get1]; simp
      have n0 : ¬ ((n + 1 : Nat) : Int) = 0 := by omega
      have fin : ∀ (d : D) (e : Hv), Sml (hp h0 p3 (g ++ e)) d → R__law_thing.body (callK T (k + (n + 1) + 1)) ([D.ref h0.length, .int ((n + 1 : Nat) : Int)].map some ++ List.replicate (R__law_thing.nl - R__law_thing.np) none) (hp h0 pen g) = .rt d (hp h0 p3 (g ++ e)) →
          ∃ d pen' e, PenOk pen' ∧ Sml (hp h0 pen' (g ++ e)) d ∧ callK T (k + (n + 1) + 2) "_law_thing" [.ref h0.length, .int ((n + 1 : Nat) : Int)] (hp h0 pen g) = .ok d (hp h0 pen' (g ++ e)) := fun d e sd hb => by
        obtain ⟨d', e', q1, _, q3⟩ := run_sml (f := "_law_thing") (k := k + (n + 1) + 1) (args := [.ref h0.length, .int ((n + 1 : Nat) : Int)]) (pen := pen) t__law_thing rfl hp3 sd hb
        exact ⟨d', p3, e', hp3, q1, q3⟩
      by_cases w8 : w = 8
      · subst w8
        have h88 : ¬ (8 : Int) < 8 := by decide
        refine fin (.ref (h0.length + 1 + g.length)) (.lst ds :: e3) (.ref _ (by rw [hp_len]; simp)) ?_
        simp only [R__law_thing, F__law_thing, u_seq, u_asg, u_call, u_exp, u_if, u_ret, u_setS, u_par, u_nx, nxt_nx, nxt_rt, u_list, u_list0, u_var, u_con, u_bin, u_un1, u_and, u_or, u_chain, u_ite, u_blt, u_tup, u_lst, u_slc, u_opt, u_opt0, im_int, u_nm, u_tgs, u_tgs0, u_tupT, List.getElem?_cons_succ, List.getElem?_cons_zero, bind_ok, thenS_ok, thenI_ok, List.length_cons, List.length_nil, Nat.reduceAdd, Nat.reduceSub, Nat.reduceLT, Nat.reduceLeDiff, Nat.zero_le, if_true, om_some, List.set_cons_succ, List.set_cons_zero, bm_bl, Bool.not_true, Bool.not_false, Bool.false_eq_true, if_false, u_add, u_sub, u_neg, u_not, u_lt, u_le, u_gt, u_ge, u_eqI, u_neI, decide_true, decide_false, u_int, u_intb, methF, List.map_cons, List.map_nil, List.replicate, List.cons_append, List.nil_append, e1', h88, n0, r3]
      · by_cases w9 : w = 9
        · subst w9
          have h98 : ¬ (9 : Int) < 8 := by decide
          have h99 : ¬ (9 : Int) = 8 := by decide
          have pr : pairsF [((conF (.str "a")), (varF 3))] (callK T (k + (n + 1) + 1)) [some (.ref h0.length), some (.int ((n + 1 : Nat) : Int)), some (.int 9), some (.ref (h0.length + 1 + g.length)), none] (hp h0 p3 (g ++ .lst ds :: e3) ++ [.dct []]) = .ok [(.inr "a", .ref (h0.length + 1 + g.length))] (hp h0 p3 (g ++ .lst ds :: e3) ++ [.dct []]) := by
            simp only [pairsF, u_seq, u_asg, u_call, u_exp, u_if, u_ret, u_setS, u_par, u_nx, nxt_nx, nxt_rt, u_list, u_list0, u_var, u_con, u_bin, u_un1, u_and, u_or, u_chain, u_ite, u_blt, u_tup, u_lst, u_slc, u_opt, u_opt0, im_int, u_nm, u_tgs, u_tgs0, u_tupT, List.getElem?_cons_succ, List.getElem?_cons_zero, bind_ok, thenS_ok, thenI_ok, List.length_cons, List.length_nil, Nat.reduceAdd, Nat.reduceSub, Nat.reduceLT, Nat.reduceLeDiff, Nat.zero_le, if_true, om_some, List.set_cons_succ, List.set_cons_zero, bm_bl, Bool.not_true, Bool.not_false, Bool.false_eq_true, if_false, u_add, u_sub, u_neg, u_not, u_lt, u_le, u_gt, u_ge, u_eqI, u_neI, decide_true, decide_false, u_int, u_intb, methF, List.map_cons, List.map_nil, List.replicate, List.cons_append, List.nil_append, keyD]
          have dd := u_dct1 pr (show 1 ≤ 15 by decide)
          rw [hp_app] at dd
          have eq : g ++ Ob.lst ds :: e3 ++ [Ob.dct (mergeD [] [(.inr "a", .ref (h0.length + 1 + g.length))])] = g ++ (Ob.lst ds :: e3 ++ [Ob.dct (mergeD [] [(.inr "a", .ref (h0.length + 1 + g.length))])]) := by simp
          rw [eq] at dd
          refine fin (.ref (hp h0 p3 (g ++ .lst ds :: e3)).length) (Ob.lst ds :: e3 ++ [Ob.dct (mergeD [] [(.inr "a", .ref (h0.length + 1 + g.length))])]) (.ref _ (by rw [hp_len, hp_len]; simp)) ?_
          simp only [R__law_thing, F__law_thing, u_seq, u_asg, u_call, u_exp, u_if, u_ret, u_setS, u_par, u_nx, nxt_nx, nxt_rt, u_list, u_list0, u_var, u_con, u_bin, u_un1, u_and, u_or, u_chain, u_ite, u_blt, u_tup, u_lst, u_slc, u_opt, u_opt0, im_int, u_nm, u_tgs, u_tgs0, u_tupT, List.getElem?_cons_succ, List.getElem?_cons_zero, bind_ok, thenS_ok, thenI_ok, List.length_cons, List.length_nil, Nat.reduceAdd, Nat.reduceSub, Nat.reduceLT, Nat.reduceLeDiff, Nat.zero_le, if_true, om_some, List.set_cons_succ, List.set_cons_zero, bm_bl, Bool.not_true, Bool.not_false, Bool.false_eq_true, if_false, u_add, u_sub, u_neg, u_not, u_lt, u_le, u_gt, u_ge, u_eqI, u_neI, decide_true, decide_false, u_int, u_intb, methF, List.map_cons, List.map_nil, List.replicate, List.cons_append, List.nil_append, e1', h98, h99, n0, r3, dd]
        · have tp := u_tuplel at_
          refine fin (.tup ds) (.lst ds :: e3) (.tup _ (by omega) s3) ?_
          simp only [R__law_thing, F__law_thing, u_seq, u_asg, u_call, u_exp, u_if, u_ret, u_setS, u_par, u_nx, nxt_nx, nxt_rt, u_list, u_list0, u_var, u_con, u_bin, u_un1, u_and, u_or, u_chain, u_ite, u_blt, u_tup, u_lst, u_slc, u_opt, u_opt0, im_int, u_nm, u_tgs, u_tgs0, u_tupT, List.getElem?_cons_succ, List.getElem?_cons_zero, bind_ok, thenS_ok, thenI_ok, List.length_cons, List.length_nil, Nat.reduceAdd, Nat.reduceSub, Nat.reduceLT, Nat.reduceLeDiff, Nat.zero_le, if_true, om_some, List.set_cons_succ, List.set_cons_zero, bm_bl, Bool.not_true, Bool.not_false, Bool.false_eq_true, if_false, u_add, u_sub, u_neg, u_not, u_lt, u_le, u_gt, u_ge, u_eqI, u_neI, decide_true, decide_false, u_int, u_intb, methF, List.map_cons, List.map_nil, List.replicate, List.cons_append, List.nil_append, e1', hw8, n0, r3, w8, w9, tp]

theorem for_any {C : Or} {tg : TF} {body : SF} {gs : Guards} (I : Env → Hv → Prop) (xs : List D) (hg : ∀ env h, I env h → guardsOk gs h = true)
    (hs : ∀ x ∈ xs, ∀ env h, I env h → ∃ env1, tg x env h = some env1 ∧ ∃ env2 h2, body C env1 h = .nx env2 h2 ∧ I env2 h2) (env : Env) (h : Hv) (p : I env h) :
    ∃ env' h', forL C tg body gs xs env h = .nx env' h' ∧ I env' h' := by
  have z := for_list (C := C) (tg := tg) (body := body) (gs := gs) (fun d : D => d) (fun _ => I) xs (fun _ => hg) (fun pre x post env h e p => hs x (by rw [e]; simp) env h p) xs [] rfl env h p
  rwa [List.map_id'] at z
@[simp] theorem u_eqB (x y : Bool) (h : Hv) : opEqD false (.bl x) (.bl y) h = .ok (.bl (x == y)) h := by
  simp only [opEqD, toP, PyData.eqv]
  cases x <;> cases y <;> rfl
@[simp] theorem u_neB (x y : Bool) (h : Hv) : opEqD true (.bl x) (.bl y) h = .ok (.bl (!(x == y))) h := by
  simp only [opEqD, toP, PyData.eqv]
  cases x <;> cases y <;> rfl
section
variable {n : Nat} {b : Bk} (c : BkC n b) (hn : n ≤ 17)
include c hn
end

/-! one place made otherwise -/
def wordsL : List Str := ["bring", "pool", "swap", "trade", "spoil", "throw", "sell"]
/-- data that stand by themselves, so many deep -/
inductive Og : Nat → D → Prop
  | int (m : Nat) (i : Int) (hi : i.natAbs < 2 ^ 199) : Og m (.int i)
  | str (m : Nat) (w : Str) (hw : w ∈ wordsL) : Og m (.str w)
  | tup (m : Nat) (ds : List D) (hl : ds.length ≤ 50) (hs : ∀ d ∈ ds, Og m d) : Og (m + 1) (.tup ds)
theorem words_ok : ∀ w ∈ wordsL, PyData.strOk w = true ∧ w.length ≤ 10 ∧ PyData.strOk (w ++ "a") = true ∧ PyData.strOk (Txt.upper w) = true ∧ PyData.strOk (cutS w none (some (-1))) = true ∧ PyData.strOk ("1" ++ w) = true := by
  decide +kernel
theorem strOk_of (s : String) : PyData.strOk (Str.ofString s) = true := by
  rw [Str.ofString_eq_toList]
  simp only [PyData.strOk, List.all_toArray, List.all_map, List.all_eq_true]
  intro c _
  have h := c.valid
  simp only [UInt32.isValidChar, Nat.isValidChar] at h
  have e : c.toNat = c.val.toNat := rfl
  simp only [Function.comp, decide_eq_true_eq]
  omega
theorem Og.mono {m : Nat} {d : D} (o : Og m d) : ∀ {n : Nat}, m ≤ n → Og n d := by
  induction o with
  | int m i hi => exact fun _ => .int _ i hi
  | str m w hw => exact fun _ => .str _ w hw
  | tup m ds hl _ ih =>
    intro n hn
    obtain ⟨n, rfl⟩ : ∃ n', n = n' + 1 := ⟨n - 1, by omega⟩
    exact .tup n ds hl fun d hd => ih d hd (by omega)
theorem Og.sml {m : Nat} {d : D} (o : Og m d) (h : Hv) : Sml h d := by
  induction o with
  | int m i hi => exact .int i (Nat.lt_trans hi (by decide))
  | str m w hw => exact .str w (words_ok w hw).1
  | tup m ds hl _ ih => exact .tup ds (by omega) ih
theorem Og.fl {m : Nat} {d : D} (o : Og m d) : ∀ n, m ≤ n → D.fl n d = true := by
  induction o with
  | int m i hi => intro n _; cases n <;> rfl
  | str m w hw => intro n _; cases n <;> simp [D.fl, (words_ok w hw).1]
  | tup m ds hl _ ih =>
    intro n hn
    obtain ⟨n, rfl⟩ : ∃ n', n = n' + 1 := ⟨n - 1, by omega⟩
    have : ∀ ds : List D, (∀ d ∈ ds, D.fl n d = true) → D.fls n ds = true := by
      intro ds
      induction ds with
      | nil => intro _; cases n <;> rfl
      | cons d ds ih2 =>
        intro h
        have e : D.fls n (d :: ds) = (D.fl n d && D.fls n ds) := by cases n <;> rfl
        rw [e, h d (by simp), ih2 fun x hx => h x (by simp [hx])]; rfl
    simp only [D.fl]
    exact this ds fun d hd => ih d hd n (by omega)
theorem ne_empty {m : Nat} {ds : List D} (o : Og m (.tup ds)) (hm : m ≤ 60) (h : Hv) : opEqD true (.tup ds) (.tup []) h = .ok (.bl (!ds.isEmpty)) h := by
  have e := toP_fl h 60 _ (o.fl 60 hm)
  have e2 : toP h 60 (.tup []) = some (.tuple []) := by simp [toP, toPs]
  simp only [opEqD, e, e2]
  cases ds with
  | nil => simp [D.pd, D.pds, PyData.eqv, PyData.eqvAll]
  | cons d ds => simp [D.pd, D.pds, PyData.eqv, PyData.eqvAll]
theorem log2_199 {i : Int} (h : i.natAbs < 2 ^ 199) : i.natAbs.log2 < 1920 := by
  rcases Nat.eq_zero_or_pos i.natAbs with z | z
  · rw [z]; decide
  · have := (Nat.log2_lt (k := 199) (show i.natAbs ≠ 0 by omega)).2 h
    omega
theorem cutD_sub {ds : List D} {l u : Option Int} : (cutD ds l u).length ≤ ds.length ∧ ∀ d ∈ cutD ds l u, d ∈ ds := by
  unfold cutD
  refine ⟨by rw [List.length_take, List.length_drop]; omega, fun d hd => List.mem_of_mem_drop (List.mem_of_mem_take hd)⟩
theorem pickL {h0 : Hv} {p : List D} {g : Hv} {w : Int} (L : List D) {q : Nat} (hq : (hp h0 p g)[q]? = some (Ob.lst L)) (h0' : 0 ≤ w) (h1 : w < L.length) : ∃ x ∈ L, opIx (.ref q) (.int w) (hp h0 p g) = .ok x (hp h0 p g) := by
  obtain ⟨x, hx, e⟩ := atI_mem (ds := L) h0' h1
  refine ⟨x, hx, ?_⟩
  rw [u_ixL hq, e]
  rfl
theorem near {i j : Int} (hi : i.natAbs < 2 ^ 199) (hj : j.natAbs ≤ 1) : (i + j).natAbs < 2 ^ 200 := by
  have h1 := Int.natAbs_add_le i j
  have h2 : i.natAbs + j.natAbs ≤ 2 ^ 199 := by omega
  exact Nat.lt_of_le_of_lt (Nat.le_trans h1 h2) (by decide)
theorem spoilt_tail (k m : Nat) (hm : m ≤ 60) (h0 : Hv) (pen : List D) (g : Hv) (d : D) (o : Og m d) (hpn : PenOk pen) :
    ∃ d' pen' e, PenOk pen' ∧ Sml (hp h0 pen' (g ++ e)) d' ∧ (seqS (asgS (nmT 2) (callF "_law_draw" [(varF 0), (conF (.int 8))])) (seqS (ifS (andF (un1F (isiF "tuple") (varF 1)) (binF opLt (varF 2) (conF (.int 4)))) (seqS (retS (binF opIx (lstF [(binF opAdd (varF 1) (slcF opSl (varF 1) (some (un1F opNeg (conF (.int 1)))) none)), (slcF opSl (varF 1) none (some (un1F opNeg (conF (.int 1))))), (bltF bList [(varF 1)]), (un1F opRev (varF 1))]) (varF 2))) nxS) nxS) (seqS (ifS (andF (un1F (isiF "int") (varF 1)) (binF opLt (varF 2) (conF (.int 4)))) (seqS (retS (binF opIx (lstF [(binF opAdd (varF 1) (conF (.int 1))), (binF opSub (varF 1) (conF (.int 1))), (binF opGt (varF 1) (conF (.int 0))), (bltF bStr [(varF 1)])]) (varF 2))) nxS) nxS) (seqS (ifS (andF (un1F (isiF "str") (varF 1)) (binF opLt (varF 2) (conF (.int 4)))) (seqS (retS (binF opIx (lstF [(binF opAdd (varF 1) (conF (.str "a"))), (un1F (smth0 mUpper) (varF 1)), (slcF opSl (varF 1) none (some (un1F opNeg (conF (.int 1))))), (binF opAdd (conF (.str "1")) (varF 1))]) (varF 2))) nxS) nxS) (seqS (retS (callF "_law_thing" [(varF 0), (conF (.int 2))])) nxS))))) (callK T (k + 4)) [some (.ref h0.length), some d, none, none] (hp h0 pen g) = .rt d' (hp h0 pen' (g ++ e)) := by
  obtain ⟨w, p1, a1, b1, hp1, e1⟩ := _law_draw_ok (k + 3) 8 h0 pen g (by decide) (by decide) hpn
  have e1' : callK T (k + 4) "_law_draw" [.ref h0.length, .int 8] (hp h0 pen g) = .ok (.int w) (hp h0 p1 g) := e1
  have s := fun h => o.sml h
  have iT := fun h => (s h).isiT
  have iI := fun h => (s h).isiI
  have iS := fun h => (s h).isiS
  by_cases hw : w < 4
  · cases o with
    | tup m ds hl hs =>
      have sl1 : ∀ h, opSl (.tup ds) (some (-1)) none h = .ok (.tup (cutD ds (some (-1)) none)) h := fun _ => rfl
      have sl2 : ∀ h, opSl (.tup ds) none (some (-1)) h = .ok (.tup (cutD ds none (some (-1)))) h := fun _ => rfl
      have ad : ∀ h, opAdd (.tup ds) (.tup (cutD ds (some (-1)) none)) h = .ok (.tup (ds ++ cutD ds (some (-1)) none)) h := fun h => by
        rw [u_addT, if_pos (by have := (cutD_sub (ds := ds) (l := some (-1)) (u := none)).1; omega)]
      have rv : ∀ h, opRev (.tup ds) h = .ok (.tup ds.reverse) h := fun _ => rfl
      obtain ⟨x, hx, ex⟩ := pickL [D.tup (ds ++ cutD ds (some (-1)) none), .tup (cutD ds none (some (-1))), .ref (h0.length + 1 + g.length), .tup ds.reverse] (h0 := h0) (p := p1) (g := g ++ [Ob.lst ds, Ob.lst [D.tup (ds ++ cutD ds (some (-1)) none), .tup (cutD ds none (some (-1))), .ref (h0.length + 1 + g.length), .tup ds.reverse]]) (q := h0.length + 1 + (g.length + 1)) (by rw [hp_get1]; simp) a1 hw
      have sm : ∀ (h : Hv) (d : D), d ∈ ds → Sml h d := fun h d hd => (hs d hd).sml h
      have sx : Sml (hp h0 p1 (g ++ [Ob.lst ds, Ob.lst [D.tup (ds ++ cutD ds (some (-1)) none), .tup (cutD ds none (some (-1))), .ref (h0.length + 1 + g.length), .tup ds.reverse]])) x := by
        simp only [List.mem_cons, List.not_mem_nil, or_false] at hx
        have c1 := cutD_sub (ds := ds) (l := some (-1)) (u := none)
        have c2 := cutD_sub (ds := ds) (l := none) (u := some (-1))
        rcases hx with rfl | rfl | rfl | rfl
        · refine .tup _ (by rw [List.length_append]; omega) fun d hd => ?_
          rcases List.mem_append.1 hd with hd | hd
          · exact sm _ d hd
          · exact sm _ d (c1.2 d hd)
        · exact .tup _ (by omega) fun d hd => sm _ d (c2.2 d hd)
        · exact .ref _ (by rw [hp_len, List.length_append]; simp)
        · exact .tup _ (by rw [List.length_reverse]; omega) fun d hd => sm _ d (List.mem_reverse.1 hd)
      refine ⟨x, p1, _, hp1, sx, ?_⟩
      simp only [u_seq, u_asg, u_call, u_exp, u_if, u_ret, u_setS, u_par, u_nx, nxt_nx, nxt_rt, u_list, u_list0, u_var, u_con, u_bin, u_un1, u_and, u_or, u_chain, u_ite, u_blt, u_tup, u_lst, u_slc, u_opt, u_opt0, im_int, u_nm, u_tgs, u_tgs0, u_tupT, List.getElem?_cons_succ, List.getElem?_cons_zero, bind_ok, thenS_ok, thenI_ok, List.length_cons, List.length_nil, Nat.reduceAdd, Nat.reduceSub, Nat.reduceLT, Nat.reduceLeDiff, Nat.zero_le, if_true, om_some, List.set_cons_succ, List.set_cons_zero, bm_bl, Bool.not_true, Bool.not_false, Bool.false_eq_true, if_false, u_add, u_sub, u_neg, u_not, u_lt, u_le, u_gt, u_ge, u_eqI, u_neI, decide_true, decide_false, u_int, u_intb, methF, List.map_cons, List.map_nil, List.replicate, List.cons_append, List.nil_append, e1', iT, isTupD, hw, sl1, sl2, ad, rv, u_listt, hp_len, hp_app, List.append_assoc, List.length_append, Nat.add_assoc]
      simp only [Nat.add_assoc] at ex
      simp only [ex, u_seq, u_asg, u_call, u_exp, u_if, u_ret, u_setS, u_par, u_nx, nxt_nx, nxt_rt, u_list, u_list0, u_var, u_con, u_bin, u_un1, u_and, u_or, u_chain, u_ite, u_blt, u_tup, u_lst, u_slc, u_opt, u_opt0, im_int, u_nm, u_tgs, u_tgs0, u_tupT, List.getElem?_cons_succ, List.getElem?_cons_zero, bind_ok, thenS_ok, thenI_ok, List.length_cons, List.length_nil, Nat.reduceAdd, Nat.reduceSub, Nat.reduceLT, Nat.reduceLeDiff, Nat.zero_le, if_true, om_some, List.set_cons_succ, List.set_cons_zero, bm_bl, Bool.not_true, Bool.not_false, Bool.false_eq_true, if_false, u_add, u_sub, u_neg, u_not, u_lt, u_le, u_gt, u_ge, u_eqI, u_neI, decide_true, decide_false, u_int, u_intb, methF, List.map_cons, List.map_nil, List.replicate, List.cons_append, List.nil_append]
    | int m i hi =>
      obtain ⟨x, hx, ex⟩ := pickL [.int (i + 1), .int (i - 1), .bl (decide (0 < i)), .str (toString i : String)] (h0 := h0) (p := p1) (g := g ++ [Ob.lst [.int (i + 1), .int (i - 1), .bl (decide (0 < i)), .str (toString i : String)]]) (q := h0.length + 1 + g.length) (by rw [hp_get1]; simp) a1 hw
      have sx : Sml (hp h0 p1 (g ++ [Ob.lst [.int (i + 1), .int (i - 1), .bl (decide (0 < i)), .str (toString i : String)]])) x := by
        simp only [List.mem_cons, List.not_mem_nil, or_false] at hx
        rcases hx with rfl | rfl | rfl | rfl
        · exact .int _ (near hi (by decide))
        · exact .int _ (near (j := -1) hi (by decide))
        · exact .bl _
        · exact .str _ (strOk_of _)
      have bs : ∀ h, bStr [.int i] h = .ok (.str (toString i : String)) h := fun h => by simp only [bStr]; rw [if_pos (log2_199 hi)]
      refine ⟨x, p1, _, hp1, sx, ?_⟩
      simp only [u_seq, u_asg, u_call, u_exp, u_if, u_ret, u_setS, u_par, u_nx, nxt_nx, nxt_rt, u_list, u_list0, u_var, u_con, u_bin, u_un1, u_and, u_or, u_chain, u_ite, u_blt, u_tup, u_lst, u_slc, u_opt, u_opt0, im_int, u_nm, u_tgs, u_tgs0, u_tupT, List.getElem?_cons_succ, List.getElem?_cons_zero, bind_ok, thenS_ok, thenI_ok, List.length_cons, List.length_nil, Nat.reduceAdd, Nat.reduceSub, Nat.reduceLT, Nat.reduceLeDiff, Nat.zero_le, if_true, om_some, List.set_cons_succ, List.set_cons_zero, bm_bl, Bool.not_true, Bool.not_false, Bool.false_eq_true, if_false, u_add, u_sub, u_neg, u_not, u_lt, u_le, u_gt, u_ge, u_eqI, u_neI, decide_true, decide_false, u_int, u_intb, methF, List.map_cons, List.map_nil, List.replicate, List.cons_append, List.nil_append, e1', iT, iI, isTupD, isIntD, isBlD, Bool.or_false, hw, bs, hp_len, hp_app, List.append_assoc]
      simp only [ex, u_seq, u_asg, u_call, u_exp, u_if, u_ret, u_setS, u_par, u_nx, nxt_nx, nxt_rt, u_list, u_list0, u_var, u_con, u_bin, u_un1, u_and, u_or, u_chain, u_ite, u_blt, u_tup, u_lst, u_slc, u_opt, u_opt0, im_int, u_nm, u_tgs, u_tgs0, u_tupT, List.getElem?_cons_succ, List.getElem?_cons_zero, bind_ok, thenS_ok, thenI_ok, List.length_cons, List.length_nil, Nat.reduceAdd, Nat.reduceSub, Nat.reduceLT, Nat.reduceLeDiff, Nat.zero_le, if_true, om_some, List.set_cons_succ, List.set_cons_zero, bm_bl, Bool.not_true, Bool.not_false, Bool.false_eq_true, if_false, u_add, u_sub, u_neg, u_not, u_lt, u_le, u_gt, u_ge, u_eqI, u_neI, decide_true, decide_false, u_int, u_intb, methF, List.map_cons, List.map_nil, List.replicate, List.cons_append, List.nil_append]
    | str m z hz =>
      obtain ⟨z1, z2, z3, z4, z5, z6⟩ := words_ok z hz
      obtain ⟨x, hx, ex⟩ := pickL [.str (z ++ "a"), .str (Txt.upper z), .str (cutS z none (some (-1))), .str ("1" ++ z)] (h0 := h0) (p := p1) (g := g ++ [Ob.lst [.str (z ++ "a"), .str (Txt.upper z), .str (cutS z none (some (-1))), .str ("1" ++ z)]]) (q := h0.length + 1 + g.length) (by rw [hp_get1]; simp) a1 hw
      have sx : Sml (hp h0 p1 (g ++ [Ob.lst [.str (z ++ "a"), .str (Txt.upper z), .str (cutS z none (some (-1))), .str ("1" ++ z)]])) x := by
        simp only [List.mem_cons, List.not_mem_nil, or_false] at hx
        rcases hx with rfl | rfl | rfl | rfl
        · exact .str _ z3
        · exact .str _ z4
        · exact .str _ z5
        · exact .str _ z6
      have s1 : ∀ h, opAdd (.str z) (.str "a") h = .ok (.str (z ++ "a")) h := fun h => by
        have : z.length + ("a" : Str).length ≤ szl := by
          have e : ("a" : Str).length = 1 := rfl
          rw [e]; unfold szl; omega
        simp only [opAdd, this, if_true]
      have s4 : ∀ h, opAdd (.str "1") (.str z) h = .ok (.str ("1" ++ z)) h := fun h => by
        have : ("1" : Str).length + z.length ≤ szl := by
          have e : ("1" : Str).length = 1 := rfl
          rw [e]; unfold szl; omega
        simp only [opAdd, this, if_true]
      have s2 : ∀ h, smth0 mUpper (.str z) h = .ok (.str (Txt.upper z)) h := fun h => by
        have : z.length ≤ szl := by unfold szl; omega
        simp only [smth0, mUpper, this, if_true]
      have s3 : ∀ h, opSl (.str z) none (some (-1)) h = .ok (.str (cutS z none (some (-1)))) h := fun h => by
        have : z.length ≤ szl := by unfold szl; omega
        simp only [opSl, this, if_true]
      refine ⟨x, p1, _, hp1, sx, ?_⟩
      simp only [u_seq, u_asg, u_call, u_exp, u_if, u_ret, u_setS, u_par, u_nx, nxt_nx, nxt_rt, u_list, u_list0, u_var, u_con, u_bin, u_un1, u_and, u_or, u_chain, u_ite, u_blt, u_tup, u_lst, u_slc, u_opt, u_opt0, im_int, u_nm, u_tgs, u_tgs0, u_tupT, List.getElem?_cons_succ, List.getElem?_cons_zero, bind_ok, thenS_ok, thenI_ok, List.length_cons, List.length_nil, Nat.reduceAdd, Nat.reduceSub, Nat.reduceLT, Nat.reduceLeDiff, Nat.zero_le, if_true, om_some, List.set_cons_succ, List.set_cons_zero, bm_bl, Bool.not_true, Bool.not_false, Bool.false_eq_true, if_false, u_add, u_sub, u_neg, u_not, u_lt, u_le, u_gt, u_ge, u_eqI, u_neI, decide_true, decide_false, u_int, u_intb, methF, List.map_cons, List.map_nil, List.replicate, List.cons_append, List.nil_append, e1', iT, iI, iS, isTupD, isIntD, isBlD, isStrD, Bool.or_false, hw, s1, s2, s3, s4, hp_len, hp_app, List.append_assoc]
      simp only [ex, u_seq, u_asg, u_call, u_exp, u_if, u_ret, u_setS, u_par, u_nx, nxt_nx, nxt_rt, u_list, u_list0, u_var, u_con, u_bin, u_un1, u_and, u_or, u_chain, u_ite, u_blt, u_tup, u_lst, u_slc, u_opt, u_opt0, im_int, u_nm, u_tgs, u_tgs0, u_tupT, List.getElem?_cons_succ, List.getElem?_cons_zero, bind_ok, thenS_ok, thenI_ok, List.length_cons, List.length_nil, Nat.reduceAdd, Nat.reduceSub, Nat.reduceLT, Nat.reduceLeDiff, Nat.zero_le, if_true, om_some, List.set_cons_succ, List.set_cons_zero, bm_bl, Bool.not_true, Bool.not_false, Bool.false_eq_true, if_false, u_add, u_sub, u_neg, u_not, u_lt, u_le, u_gt, u_ge, u_eqI, u_neI, decide_true, decide_false, u_int, u_intb, methF, List.map_cons, List.map_nil, List.replicate, List.cons_append, List.nil_append]
  · obtain ⟨x, p2, e2, hp2, s2, r2⟩ := _law_thing_ok 2 k h0 p1 g hp1
    have r2' : callK T (k + 4) "_law_thing" [.ref h0.length, .int 2] (hp h0 p1 g) = .ok x (hp h0 p2 (g ++ e2)) := r2
    refine ⟨x, p2, e2, hp2, s2, ?_⟩
    cases d with
    | tup ds => simp only [u_seq, u_asg, u_call, u_exp, u_if, u_ret, u_setS, u_par, u_nx, nxt_nx, nxt_rt, u_list, u_list0, u_var, u_con, u_bin, u_un1, u_and, u_or, u_chain, u_ite, u_blt, u_tup, u_lst, u_slc, u_opt, u_opt0, im_int, u_nm, u_tgs, u_tgs0, u_tupT, List.getElem?_cons_succ, List.getElem?_cons_zero, bind_ok, thenS_ok, thenI_ok, List.length_cons, List.length_nil, Nat.reduceAdd, Nat.reduceSub, Nat.reduceLT, Nat.reduceLeDiff, Nat.zero_le, if_true, om_some, List.set_cons_succ, List.set_cons_zero, bm_bl, Bool.not_true, Bool.not_false, Bool.false_eq_true, if_false, u_add, u_sub, u_neg, u_not, u_lt, u_le, u_gt, u_ge, u_eqI, u_neI, decide_true, decide_false, u_int, u_intb, methF, List.map_cons, List.map_nil, List.replicate, List.cons_append, List.nil_append, e1', iT, iI, iS, isTupD, isIntD, isBlD, isStrD, Bool.or_false, hw, r2']
    | int i => simp only [u_seq, u_asg, u_call, u_exp, u_if, u_ret, u_setS, u_par, u_nx, nxt_nx, nxt_rt, u_list, u_list0, u_var, u_con, u_bin, u_un1, u_and, u_or, u_chain, u_ite, u_blt, u_tup, u_lst, u_slc, u_opt, u_opt0, im_int, u_nm, u_tgs, u_tgs0, u_tupT, List.getElem?_cons_succ, List.getElem?_cons_zero, bind_ok, thenS_ok, thenI_ok, List.length_cons, List.length_nil, Nat.reduceAdd, Nat.reduceSub, Nat.reduceLT, Nat.reduceLeDiff, Nat.zero_le, if_true, om_some, List.set_cons_succ, List.set_cons_zero, bm_bl, Bool.not_true, Bool.not_false, Bool.false_eq_true, if_false, u_add, u_sub, u_neg, u_not, u_lt, u_le, u_gt, u_ge, u_eqI, u_neI, decide_true, decide_false, u_int, u_intb, methF, List.map_cons, List.map_nil, List.replicate, List.cons_append, List.nil_append, e1', iT, iI, iS, isTupD, isIntD, isBlD, isStrD, Bool.or_false, hw, r2']
    | str z => simp only [u_seq, u_asg, u_call, u_exp, u_if, u_ret, u_setS, u_par, u_nx, nxt_nx, nxt_rt, u_list, u_list0, u_var, u_con, u_bin, u_un1, u_and, u_or, u_chain, u_ite, u_blt, u_tup, u_lst, u_slc, u_opt, u_opt0, im_int, u_nm, u_tgs, u_tgs0, u_tupT, List.getElem?_cons_succ, List.getElem?_cons_zero, bind_ok, thenS_ok, thenI_ok, List.length_cons, List.length_nil, Nat.reduceAdd, Nat.reduceSub, Nat.reduceLT, Nat.reduceLeDiff, Nat.zero_le, if_true, om_some, List.set_cons_succ, List.set_cons_zero, bm_bl, Bool.not_true, Bool.not_false, Bool.false_eq_true, if_false, u_add, u_sub, u_neg, u_not, u_lt, u_le, u_gt, u_ge, u_eqI, u_neI, decide_true, decide_false, u_int, u_intb, methF, List.map_cons, List.map_nil, List.replicate, List.cons_append, List.nil_append, e1', iT, iI, iS, isTupD, isIntD, isBlD, isStrD, Bool.or_false, hw, r2']
    | non => cases o
    | bl x => cases o
    | ref p => cases o
theorem _law_spoilt_ok : ∀ (m k : Nat) (h0 : Hv) (pen : List D) (g : Hv) (d : D), m ≤ 50 → Og m d → PenOk pen → ∃ d' pen' e, PenOk pen' ∧ Sml (hp h0 pen' (g ++ e)) d' ∧ callK T (k + m + 5) "_law_spoilt" [.ref h0.length, d] (hp h0 pen g) = .ok d' (hp h0 pen' (g ++ e)) := by
  intro m
  induction m with
  | zero =>
    intro k h0 pen g d hm o hpn
    obtain ⟨x, p1, e1, hp1, s1, r1⟩ := spoilt_tail k 0 (by omega) h0 pen g d o hpn
    have iT := fun h => (o.sml h).isiT
    have nt : isTupD d = false := by cases o <;> rfl
    rw [nt] at iT
    obtain ⟨d', e', q1, _, q3⟩ := run_sml (f := "_law_spoilt") (k := k + 4) (args := [.ref h0.length, d]) (pen := pen) t__law_spoilt rfl hp1 s1 (by
      rw [← r1]
      show F__law_spoilt (callK T (k + 4)) [some (.ref h0.length), some d, none, none] (hp h0 pen g) = _
      simp only [F__law_spoilt]
      rw [u_seq]
      simp only [u_if, u_and, u_un1, u_var, List.getElem?_cons_succ, List.getElem?_cons_zero, bind_ok, iT, bm_bl, Bool.false_eq_true, if_false, thenS_ok, u_nx, nxt_nx])
    exact ⟨d', p1, e', hp1, q1, q3⟩
  | succ m ih =>
    intro k h0 pen g d hm o hpn
    have iT := fun h => (o.sml h).isiT
    have tail : ∀ pen1, PenOk pen1 → (ifS (andF (un1F (isiF "tuple") (varF 1)) (andF (binF (opEqD true) (varF 1) (tupF [])) (binF opGt (callF "_law_draw" [(varF 0), (conF (.int 6))]) (conF (.int 0))))) (seqS (asgS (nmT 3) (callF "_law_draw" [(varF 0), (bltF bLen [(varF 1)])])) (seqS (retS (binF opAdd (binF opAdd (slcF opSl (varF 1) none (some (varF 3))) (tupF [(callF "_law_spoilt" [(varF 0), (binF opIx (varF 1) (varF 3))])])) (slcF opSl (varF 1) (some (binF opAdd (varF 3) (conF (.int 1)))) none))) nxS)) nxS) (callK T (k + (m + 1) + 4)) [some (.ref h0.length), some d, none, none] (hp h0 pen g) = .nx [some (.ref h0.length), some d, none, none] (hp h0 pen1 g) →
        ∃ d' pen' e, PenOk pen' ∧ Sml (hp h0 pen' (g ++ e)) d' ∧ callK T (k + (m + 1) + 5) "_law_spoilt" [.ref h0.length, d] (hp h0 pen g) = .ok d' (hp h0 pen' (g ++ e)) := by
      intro pen1 hpn1 hif
      obtain ⟨x, p1, e1, hp1, s1, r1⟩ := spoilt_tail (k + (m + 1)) (m + 1) (by omega) h0 pen1 g d o hpn1
      obtain ⟨d', e', q1, _, q3⟩ := run_sml (f := "_law_spoilt") (k := k + (m + 1) + 4) (args := [.ref h0.length, d]) (pen := pen) t__law_spoilt rfl hp1 s1 (by
        rw [← r1]
        show F__law_spoilt (callK T (k + (m + 1) + 4)) [some (.ref h0.length), some d, none, none] (hp h0 pen g) = _
        simp only [F__law_spoilt]
        rw [u_seq, hif, nxt_nx])
      exact ⟨d', p1, e', hp1, q1, q3⟩
    cases o with
    | int m i hi =>
      refine tail pen hpn ?_
      simp only [u_if, u_and, u_un1, u_var, List.getElem?_cons_succ, List.getElem?_cons_zero, bind_ok, iT, isTupD, bm_bl, Bool.false_eq_true, if_false, thenS_ok, u_nx]
    | str m z hz =>
      refine tail pen hpn ?_
      simp only [u_if, u_and, u_un1, u_var, List.getElem?_cons_succ, List.getElem?_cons_zero, bind_ok, iT, isTupD, bm_bl, Bool.false_eq_true, if_false, thenS_ok, u_nx]
    | tup m ds hl hs =>
      have ne := fun h => ne_empty (Og.tup m ds hl hs) (by omega) h
      by_cases hd : ds = []
      · subst hd
        refine tail pen hpn ?_
        have ne' : ∀ h, opEqD true (.tup []) (.tup []) h = .ok (.bl false) h := ne
        simp only [u_seq, u_asg, u_call, u_exp, u_if, u_ret, u_setS, u_par, u_nx, nxt_nx, nxt_rt, u_list, u_list0, u_var, u_con, u_bin, u_un1, u_and, u_or, u_chain, u_ite, u_blt, u_tup, u_lst, u_slc, u_opt, u_opt0, im_int, u_nm, u_tgs, u_tgs0, u_tupT, List.getElem?_cons_succ, List.getElem?_cons_zero, bind_ok, thenS_ok, thenI_ok, List.length_cons, List.length_nil, Nat.reduceAdd, Nat.reduceSub, Nat.reduceLT, Nat.reduceLeDiff, Nat.zero_le, if_true, om_some, List.set_cons_succ, List.set_cons_zero, bm_bl, Bool.not_true, Bool.not_false, Bool.false_eq_true, if_false, u_add, u_sub, u_neg, u_not, u_lt, u_le, u_gt, u_ge, u_eqI, u_neI, decide_true, decide_false, u_int, u_intb, methF, List.map_cons, List.map_nil, List.replicate, List.cons_append, List.nil_append, iT, isTupD, ne']
      · have hd' : ds.isEmpty = false := by cases ds <;> first | rfl | exact absurd rfl hd
        simp only [hd'] at ne
        obtain ⟨r, p1, a1, b1, hp1, e1⟩ := _law_draw_ok (k + m + 4) 6 h0 pen g (by decide) (by decide) hpn
        have e1' : callK T (k + (m + 1) + 4) "_law_draw" [.ref h0.length, .int 6] (hp h0 pen g) = .ok (.int r) (hp h0 p1 g) := e1
        by_cases hr : 0 < r
        · obtain ⟨a, p2, a2, b2, hp2, e2⟩ := _law_draw_ok (k + m + 4) ds.length h0 p1 g (by have := List.length_pos_iff.2 hd; omega) (by omega) hp1
          have e2' : callK T (k + (m + 1) + 4) "_law_draw" [.ref h0.length, .int (ds.length : Nat)] (hp h0 p1 g) = .ok (.int a) (hp h0 p2 g) := e2
          obtain ⟨a, rfl⟩ := Int.eq_ofNat_of_zero_le a2
          have ha : a < ds.length := by omega
          obtain ⟨x, p3, e3, hp3, s3, r3⟩ := ih k h0 p2 g ds[a] (by omega) (hs _ (List.getElem_mem ha)) hp2
          have r3' : callK T (k + (m + 1) + 4) "_law_spoilt" [.ref h0.length, ds[a]] (hp h0 p2 g) = .ok x (hp h0 p3 (g ++ e3)) := r3
          have ix : ∀ h, opIx (.tup ds) (.int (a : Nat)) h = .ok ds[a] h := fun h => by rw [ix_tup, at_nat, List.getElem?_eq_getElem ha]; rfl
          have ln : ∀ h, bLen [.tup ds] h = .ok (.int ds.length) h := fun h => rfl
          have s1 : ∀ h, opSl (.tup ds) none (some ((a : Nat) : Int)) h = .ok (.tup (ds.take a)) h := fun h => by rw [u_slT, cut_lo]
          have a1' : ((a : Nat) : Int) + 1 = ((a + 1 : Nat) : Int) := by omega
          have s2 : ∀ h, opSl (.tup ds) (some ((a + 1 : Nat) : Int)) none h = .ok (.tup (ds.drop (a + 1))) h := fun h => by rw [u_slT, cut_hi]
          have ad1 : ∀ h, opAdd (.tup (ds.take a)) (.tup [x]) h = .ok (.tup (ds.take a ++ [x])) h := fun h => by rw [u_addT, if_pos (by simp; omega)]
          have ad2 : ∀ h, opAdd (.tup (ds.take a ++ [x])) (.tup (ds.drop (a + 1))) h = .ok (.tup (ds.take a ++ [x] ++ ds.drop (a + 1))) h := fun h => by rw [u_addT, if_pos (by simp; omega)]
          have sx : Sml (hp h0 p3 (g ++ e3)) (.tup (ds.take a ++ [x] ++ ds.drop (a + 1))) := by
            refine .tup _ (by simp; omega) fun d hd => ?_
            simp only [List.mem_append, List.mem_singleton] at hd
            rcases hd with (hd | rfl) | hd
            · exact (hs d (List.mem_of_mem_take hd)).sml _
            · exact s3
            · exact (hs d (List.mem_of_mem_drop hd)).sml _
          obtain ⟨d', e', q1, _, q3⟩ := run_sml (f := "_law_spoilt") (k := k + (m + 1) + 4) (args := [.ref h0.length, .tup ds]) (pen := pen) t__law_spoilt rfl hp3 sx (by
            show F__law_spoilt (callK T (k + (m + 1) + 4)) [some (.ref h0.length), some (.tup ds), none, none] (hp h0 pen g) = _
            simp only [F__law_spoilt]
            rw [u_seq]
            simp only [u_seq, u_asg, u_call, u_exp, u_if, u_ret, u_setS, u_par, u_nx, nxt_nx, nxt_rt, u_list, u_list0, u_var, u_con, u_bin, u_un1, u_and, u_or, u_chain, u_ite, u_blt, u_tup, u_lst, u_slc, u_opt, u_opt0, im_int, u_nm, u_tgs, u_tgs0, u_tupT, List.getElem?_cons_succ, List.getElem?_cons_zero, bind_ok, thenS_ok, thenI_ok, List.length_cons, List.length_nil, Nat.reduceAdd, Nat.reduceSub, Nat.reduceLT, Nat.reduceLeDiff, Nat.zero_le, if_true, om_some, List.set_cons_succ, List.set_cons_zero, bm_bl, Bool.not_true, Bool.not_false, Bool.false_eq_true, if_false, u_add, u_sub, u_neg, u_not, u_lt, u_le, u_gt, u_ge, u_eqI, u_neI, decide_true, decide_false, u_int, u_intb, methF, List.map_cons, List.map_nil, List.replicate, List.cons_append, List.nil_append, iT, isTupD, ne, e1', hr, ln, e2', ix, s1, r3', a1', s2, ad1, ad2])
          exact ⟨d', p3, e', hp3, q1, q3⟩
        · refine tail p1 hp1 ?_
          simp only [u_seq, u_asg, u_call, u_exp, u_if, u_ret, u_setS, u_par, u_nx, nxt_nx, nxt_rt, u_list, u_list0, u_var, u_con, u_bin, u_un1, u_and, u_or, u_chain, u_ite, u_blt, u_tup, u_lst, u_slc, u_opt, u_opt0, im_int, u_nm, u_tgs, u_tgs0, u_tupT, List.getElem?_cons_succ, List.getElem?_cons_zero, bind_ok, thenS_ok, thenI_ok, List.length_cons, List.length_nil, Nat.reduceAdd, Nat.reduceSub, Nat.reduceLT, Nat.reduceLeDiff, Nat.zero_le, if_true, om_some, List.set_cons_succ, List.set_cons_zero, bm_bl, Bool.not_true, Bool.not_false, Bool.false_eq_true, if_false, u_add, u_sub, u_neg, u_not, u_lt, u_le, u_gt, u_ge, u_eqI, u_neI, decide_true, decide_false, u_int, u_intb, methF, List.map_cons, List.map_nil, List.replicate, List.cons_append, List.nil_append, iT, isTupD, ne, e1', hr]

/-! lists of things of any kind, made with a pen -/
theorem Sml.len {h h' : Hv} (e : h.length = h'.length) {d : D} (s : Sml h d) : Sml h' d := s.mono (by omega)
section
variable (C : Or) (env : Env) (h0 g0 : Hv)
def EvD (f : EF) : Prop := ∀ pen e, PenOk pen → ∃ d pen' e', PenOk pen' ∧ Sml (hp h0 pen' (g0 ++ (e ++ e'))) d ∧ f C env (hp h0 pen (g0 ++ e)) = .ok d (hp h0 pen' (g0 ++ (e ++ e')))
def EvL (n : Nat) (f : EF) : Prop := ∀ pen e, PenOk pen → ∃ ds pen' e' j, PenOk pen' ∧ ds.length ≤ n ∧ (∀ d ∈ ds, Sml (hp h0 pen' (g0 ++ (e ++ e'))) d) ∧ (g0 ++ (e ++ e'))[j]? = some (Ob.lst ds) ∧
  f C env (hp h0 pen (g0 ++ e)) = .ok (.ref (h0.length + 1 + j)) (hp h0 pen' (g0 ++ (e ++ e')))
end
section
variable {C : Or} {env : Env} {h0 g0 : Hv}
theorem EvD.pure {f : EF} {d : D} (h : ∀ h, f C env h = .ok d h) (s : ∀ h, Sml h d) : EvD C env h0 g0 f := fun pen e hpn => ⟨d, pen, [], hpn, s _, by rw [h, List.append_nil]⟩
theorem EvD.ofL {n : Nat} {f : EF} (h : EvL C env h0 g0 n f) : EvD C env h0 g0 f := fun pen e hpn => by
  obtain ⟨ds, p, e', j, q1, q2, q3, q4, q5⟩ := h pen e hpn
  have := (List.getElem?_eq_some_iff.1 q4).1
  exact ⟨_, p, e', q1, .ref _ (by rw [hp_len]; omega), q5⟩
theorem EvL.mono {n m : Nat} {f : EF} (h : EvL C env h0 g0 n f) (hm : n ≤ m) : EvL C env h0 g0 m f := fun pen e hpn => by
  obtain ⟨ds, p, e', j, q1, q2, q3⟩ := h pen e hpn
  exact ⟨ds, p, e', j, q1, by omega, q3⟩
theorem EvL.var {n i j : Nat} {ds : List D} {pen : List D} (hi : env[i]? = some (some (.ref (h0.length + 1 + j)))) (hj : g0[j]? = some (Ob.lst ds)) (hl : ds.length ≤ n) (hs : ∀ d ∈ ds, Sml (hp h0 pen g0) d) : EvL C env h0 g0 n (varF i) := fun pen e hpn => by
  refine ⟨ds, pen, [], j, hpn, hl, fun d hd => (hs d hd).mono (by simp), ?_, ?_⟩
  · rw [List.getElem?_append_left (List.getElem?_eq_some_iff.1 hj).1]; exact hj
  · rw [u_var, hi, List.append_nil]
theorem evs {fs : List EF} (hf : ∀ f ∈ fs, EvD C env h0 g0 f) : ∀ pen e, PenOk pen → ∃ ds pen' e', PenOk pen' ∧ ds.length = fs.length ∧ (∀ d ∈ ds, Sml (hp h0 pen' (g0 ++ (e ++ e'))) d) ∧ listF fs C env (hp h0 pen (g0 ++ e)) = .ok ds (hp h0 pen' (g0 ++ (e ++ e'))) := by
  induction fs with
  | nil => intro pen e hpn; exact ⟨[], pen, [], hpn, rfl, by simp, by rw [List.append_nil]; rfl⟩
  | cons f fs ih =>
    intro pen e hpn
    obtain ⟨d, p1, e1, hp1, s1, r1⟩ := hf f (by simp) pen e hpn
    obtain ⟨ds, p2, e2, hp2, l2, s2, r2⟩ := ih (fun f hf' => hf f (by simp [hf'])) p1 (e ++ e1) hp1
    refine ⟨d :: ds, p2, e1 ++ e2, hp2, by simp [l2], ?_, ?_⟩
    · intro x hx
      rcases List.mem_cons.1 hx with rfl | hx
      · exact s1.mono (by simp)
      · exact (s2 x hx).len (by simp)
    · rw [u_list, r1, bind_ok, r2, bind_ok, List.append_assoc]
theorem EvL.lst {fs : List EF} (hf : ∀ f ∈ fs, EvD C env h0 g0 f) (hl : fs.length ≤ 1000000) : EvL C env h0 g0 fs.length (lstF fs) := fun pen e hpn => by
  obtain ⟨ds, p, e1, hp1, l1, s1, r1⟩ := evs hf pen e hpn
  refine ⟨ds, p, e1 ++ [.lst ds], (g0 ++ (e ++ e1)).length, hp1, by omega, fun d hd => (s1 d hd).mono (by simp), ?_, ?_⟩
  · have : g0 ++ (e ++ (e1 ++ [Ob.lst ds])) = (g0 ++ (e ++ e1)) ++ [Ob.lst ds] := by simp
    rw [this]; simp
  · rw [u_lst, r1, bind_ok, if_pos (by omega), hp_len, hp_app]
    simp
theorem EvL.add {n m : Nat} {f f2 : EF} (a : EvL C env h0 g0 n f) (b : EvL C env h0 g0 m f2) (hl : n + m ≤ 1000000) : EvL C env h0 g0 (n + m) (binF opAdd f f2) := fun pen e hpn => by
  obtain ⟨ds, p1, e1, j1, hp1, l1, s1, g1, r1⟩ := a pen e hpn
  obtain ⟨es, p2, e2, j2, hp2, l2, s2, g2, r2⟩ := b p1 (e ++ e1) hp1
  have at1 : (g0 ++ (e ++ e1 ++ e2))[j1]? = some (Ob.lst ds) := by
    have : g0 ++ (e ++ e1 ++ e2) = (g0 ++ (e ++ e1)) ++ e2 := by simp
    rw [this, List.getElem?_append_left (List.getElem?_eq_some_iff.1 g1).1]; exact g1
  refine ⟨ds ++ es, p2, e1 ++ e2 ++ [.lst (ds ++ es)], (g0 ++ (e ++ e1 ++ e2)).length, hp2, by rw [List.length_append]; omega, ?_, ?_, ?_⟩
  · intro d hd
    rcases List.mem_append.1 hd with hd | hd
    · exact (s1 d hd).mono (by simp)
    · exact (s2 d hd).mono (by simp)
  · have : g0 ++ (e ++ (e1 ++ e2 ++ [Ob.lst (ds ++ es)])) = (g0 ++ (e ++ e1 ++ e2)) ++ [Ob.lst (ds ++ es)] := by simp
    rw [this]; simp
  · rw [u_bin, r1, bind_ok, r2, bind_ok, u_addR]
    have q1 : (hp h0 p2 (g0 ++ (e ++ e1 ++ e2)))[h0.length + 1 + j1]? = some (.lst ds) := by rw [hp_get1]; exact at1
    have q2 : (hp h0 p2 (g0 ++ (e ++ e1 ++ e2)))[h0.length + 1 + j2]? = some (.lst es) := by rw [hp_get1]; exact g2
    rw [q1, lo_lst, q2, lo_lst, if_pos (by omega), hp_len, hp_app]
    simp
theorem EvL.lc {it : IF} {i : Nat} {own : List Nat} {elt : EF} {xs : List D} (hit : ∀ h, it C env h = .ok (xs, []) h) (ht : i < env.length) (hw : (wipeD env own).length = env.length) (hl : xs.length ≤ 100) (he : ∀ x ∈ xs, EvD C ((wipeD env own).set i (some x)) h0 g0 elt) :
    EvL C env h0 g0 xs.length (lcF it (nmT i) own (conF (.bl true)) elt) := fun pen e hpn => by
  obtain ⟨ds, p, e1, hp1, l1, s1, r1⟩ := lc_pen (C := C) (env := env) (it := it) (i := i) (own := own) (elt := elt) (h := hp h0 pen (g0 ++ e)) (h0 := h0) (g := g0 ++ e) ht hw xs pen hpn hl (hit _)
    (fun x hx pen acc e' hpn => by
      obtain ⟨d, p, e2, q1, q2, q3⟩ := he x hx pen (e ++ .lst acc :: e') hpn
      have e3 : g0 ++ (e ++ Ob.lst acc :: e' ++ e2) = g0 ++ e ++ Ob.lst acc :: (e' ++ e2) := by simp
      have e4 : g0 ++ (e ++ Ob.lst acc :: e') = g0 ++ e ++ Ob.lst acc :: e' := by simp
      rw [e3] at q2 q3
      rw [e4] at q3
      exact ⟨d, p, e2, q1, q2, q3⟩)
  have e3 : g0 ++ e ++ Ob.lst ds :: e1 = g0 ++ (e ++ Ob.lst ds :: e1) := by simp
  rw [e3] at s1 r1
  exact ⟨ds, p, .lst ds :: e1, (g0 ++ e).length, hp1, by omega, s1, by rw [← e3]; simp, r1⟩
/-- a tuple as a list -/
theorem EvL.list {f : EF} {ds : List D} {n : Nat} (h : ∀ h, f C env h = .ok (.tup ds) h) (s : ∀ h, ∀ d ∈ ds, Sml h d) (hl : ds.length ≤ n) : EvL C env h0 g0 n (bltF bList [f]) := fun pen e hpn => by
  refine ⟨ds, pen, [.lst ds], (g0 ++ e).length, hpn, hl, fun d hd => s _ d hd, ?_, ?_⟩
  · have : g0 ++ (e ++ [Ob.lst ds]) = (g0 ++ e) ++ [Ob.lst ds] := by simp
    rw [this]; simp
  · simp only [u_blt, u_list, h, bind_ok, u_list0, u_listt, hp_len, hp_app]
    simp
/-- a loop over such a list -/
theorem EvL.loop {n i : Nat} {f : EF} {body : SF} (a : EvL C env h0 g0 n f) (hi : i < env.length) {pen : List D} {e : Hv} (hpn : PenOk pen)
    (hb : ∀ (H : Hv) (d : D), Sml H d → body C (env.set i (some d)) H = .nx (env.set i (some d)) H) :
    ∃ z pen' e', PenOk pen' ∧ forS (itE f) (nmT i) body C env (hp h0 pen (g0 ++ e)) = .nx (env.set i z) (hp h0 pen' (g0 ++ (e ++ e'))) := by
  obtain ⟨ds, p1, e1, j, hp1, l1, s1, g1, r1⟩ := a pen e hpn
  have at1 : (hp h0 p1 (g0 ++ (e ++ e1)))[h0.length + 1 + j]? = some (.lst ds) := by rw [hp_get1]; exact g1
  obtain ⟨env', h', ef, ⟨z, rfl⟩, rfl⟩ := for_any (C := C) (tg := nmT i) (body := body) (gs := [(h0.length + 1 + j, ds)])
    (fun env1 h1 => (∃ z, env1 = env.set i z) ∧ h1 = hp h0 p1 (g0 ++ (e ++ e1))) ds
    (by
      rintro env1 h1 ⟨_, rfl⟩
      simp only [guardsOk, List.all_cons, List.all_nil, Bool.and_true, at1]
      simp)
    (by
      rintro d hd env1 h1 ⟨⟨z, rfl⟩, rfl⟩
      refine ⟨env.set i (some d), ?_, _, _, hb _ d (s1 d hd), ⟨_, rfl⟩, rfl⟩
      rw [u_nm, if_pos (by rw [List.length_set]; exact hi), List.set_set])
    env (hp h0 p1 (g0 ++ (e ++ e1))) ⟨⟨env[i], (List.set_getElem_self hi).symm⟩, rfl⟩
  refine ⟨z, p1, e1, hp1, ?_⟩
  have it : itE f C env (hp h0 pen (g0 ++ e)) = .ok (ds, [(h0.length + 1 + j, ds)]) (hp h0 p1 (g0 ++ (e ++ e1))) := by
    simp only [itE, r1, bind_ok, seqOf, at1]
  rw [u_for, it, thenI_ok]
  exact ef
end
/-- the same, as a statement -/
theorem EvL.asg {C : Or} {env : Env} {h0 g0 : Hv} {n i : Nat} {f : EF} (a : EvL C env h0 g0 n f) (hi : i < env.length) {pen : List D} (hpn : PenOk pen) :
    ∃ ds pen' g' j, PenOk pen' ∧ ds.length ≤ n ∧ (∀ d ∈ ds, Sml (hp h0 pen' g') d) ∧ g'[j]? = some (Ob.lst ds) ∧ asgS (nmT i) f C env (hp h0 pen g0) = .nx (env.set i (some (.ref (h0.length + 1 + j)))) (hp h0 pen' g') := by
  obtain ⟨ds, p1, e1, j, hp1, l1, s1, g1, r1⟩ := a pen [] hpn
  refine ⟨ds, p1, g0 ++ ([] ++ e1), j, hp1, l1, s1, g1, ?_⟩
  rw [List.append_nil] at r1
  rw [u_asg, r1, thenS_ok, u_nm, if_pos hi, om_some]
/-- a loop, at the base -/
theorem EvL.loop0 {C : Or} {env : Env} {h0 g0 : Hv} {n i : Nat} {f : EF} {body : SF} (a : EvL C env h0 g0 n f) (hi : i < env.length) {pen : List D} (hpn : PenOk pen)
    (hb : ∀ (H : Hv) (d : D), Sml H d → body C (env.set i (some d)) H = .nx (env.set i (some d)) H) :
    ∃ z pen' g', PenOk pen' ∧ forS (itE f) (nmT i) body C env (hp h0 pen g0) = .nx (env.set i z) (hp h0 pen' g') := by
  obtain ⟨z, p, e, q1, q2⟩ := a.loop (e := []) hi hpn hb
  rw [List.append_nil] at q2
  exact ⟨z, p, _, q1, q2⟩
theorem nat2 {n : Nat} (h : n ≤ 100) : n < 2 ^ 199 := Nat.lt_of_le_of_lt h (by decide)
/-- shares as data -/
theorem og_am {q : Rat} {N : Nat} (h : Sh N q) (h0 : 0 < N) (hN : N ≤ 100) (m : Nat) : Og (m + 1) (am q) := by
  have d1 : q.den ≤ N := Nat.le_of_dvd h0 h.1
  have n0 : 0 ≤ q.num := Rat.num_nonneg.2 h.2.1
  have n1 := num_le_den h.2.2
  refine .tup m _ (by simp) fun d hd => ?_
  simp only [List.mem_cons, List.not_mem_nil, or_false] at hd
  rcases hd with rfl | rfl
  · exact .int _ _ (nat2 (by omega))
  · exact .int _ _ (nat2 (by omega))
theorem og_sh {qs : List Rat} {N : Nat} (h : ∀ q ∈ qs, Sh N q) (h0 : 0 < N) (hN : N ≤ 100) (hl : qs.length ≤ 50) (m : Nat) : Og (m + 2) (shD qs) := by
  refine .tup (m + 1) _ (by rw [List.length_map]; exact hl) fun d hd => ?_
  obtain ⟨q, hq, rfl⟩ := List.mem_map.1 hd
  exact og_am (h q hq) h0 hN m

/-! loads, deeds -/
theorem len3 {ds : List D} (hl : ds.length = 3) : ∃ a b c, ds = [a, b, c] := by
  match ds, hl with
  | [a, b, c], _ => exact ⟨a, b, c, rfl⟩
theorem len4 {ds : List D} (hl : ds.length = 4) : ∃ a b c d, ds = [a, b, c, d] := by
  match ds, hl with
  | [a, b, c, d], _ => exact ⟨a, b, c, d, rfl⟩
theorem len5 {ds : List D} (hl : ds.length = 5) : ∃ a b c d e, ds = [a, b, c, d, e] := by
  match ds, hl with
  | [a, b, c, d, e], _ => exact ⟨a, b, c, d, e, rfl⟩
theorem len2 {ds : List D} (hl : ds.length = 2) : ∃ a b, ds = [a, b] := by
  match ds, hl with
  | [a, b], _ => exact ⟨a, b, rfl⟩
/-- a load -/
def ldB (P K : Int) : D → Bool
  | .tup [a, b, c] => inB 0 (some (K - 1)) a && (inB 0 none b && shsB P c)
  | _ => false
theorem ldB_ne {P K : Int} {ds : List D} (hl : ds.length ≠ 3) : ldB P K (.tup ds) = false := by
  unfold ldB
  split
  · rename_i e
    cases e
    exact absurd rfl hl
  · rfl
theorem is_load_any (k : Nat) {h : Hv} {tr : D} {P K : Int} (t0 : ∀ h, opIx tr (.int 0) h = .ok (.int P) h) (t1 : ∀ h, opIx tr (.int 1) h = .ok (.int K) h) (hP : P ≤ 4) {d : D} (s : Sml h d) : callK T (k + 6) "is_load" [tr, d] h = .ok (.bl (ldB P K d)) h := by
  refine fn_same t_is_load rfl ?_
  have h1 := s.isiT
  cases d with
  | tup ds =>
    have hs : ∀ d ∈ ds, Sml h d := by cases s; assumption
    have ln : bLen [.tup ds] h = .ok (.int ds.length) h := rfl
    by_cases hl : ds.length = 3
    · obtain ⟨a, b, c, rfl⟩ := len3 hl
      have ln : bLen [.tup [a, b, c]] h = .ok (.int 3) h := rfl
      have w1 := is_within_any (k + 3) (hs a (by simp)) 0 (K - 1)
      have w2 := is_whole_any (k + 4) (hs b (by simp))
      have w3 := are_shares_any k (hs c (by simp)) P hP
      cases q1 : inB 0 (some (K - 1)) a <;> rw [q1] at w1 <;> try (simp only [R_is_load, F_is_load, u_seq, u_asg, u_call, u_exp, u_if, u_ret, u_setS, u_par, u_nx, nxt_nx, nxt_rt, u_list, u_list0, u_var, u_con, u_bin, u_un1, u_and, u_or, u_chain, u_ite, u_blt, u_tup, u_lst, u_slc, u_opt, u_opt0, im_int, u_nm, u_tgs, u_tgs0, u_tupT, List.getElem?_cons_succ, List.getElem?_cons_zero, bind_ok, thenS_ok, thenI_ok, List.length_cons, List.length_nil, Nat.reduceAdd, Nat.reduceSub, Nat.reduceLT, Nat.reduceLeDiff, Nat.zero_le, if_true, om_some, List.set_cons_succ, List.set_cons_zero, bm_bl, Bool.not_true, Bool.not_false, Bool.false_eq_true, if_false, u_add, u_sub, u_neg, u_not, u_lt, u_le, u_gt, u_ge, u_eqI, u_neI, decide_true, decide_false, u_int, u_intb, methF, List.map_cons, List.map_nil, List.replicate, List.cons_append, List.nil_append, h1, isTupD, ln, ix_tup0, t1, w1, ldB, q1, Bool.false_and]; done)
      cases q2 : isIntD b with
      | false =>
        rw [q2] at w2
        have e : inB 0 none b = false := by cases b <;> first | rfl | cases q2
        simp only [R_is_load, F_is_load, u_seq, u_asg, u_call, u_exp, u_if, u_ret, u_setS, u_par, u_nx, nxt_nx, nxt_rt, u_list, u_list0, u_var, u_con, u_bin, u_un1, u_and, u_or, u_chain, u_ite, u_blt, u_tup, u_lst, u_slc, u_opt, u_opt0, im_int, u_nm, u_tgs, u_tgs0, u_tupT, List.getElem?_cons_succ, List.getElem?_cons_zero, bind_ok, thenS_ok, thenI_ok, List.length_cons, List.length_nil, Nat.reduceAdd, Nat.reduceSub, Nat.reduceLT, Nat.reduceLeDiff, Nat.zero_le, if_true, om_some, List.set_cons_succ, List.set_cons_zero, bm_bl, Bool.not_true, Bool.not_false, Bool.false_eq_true, if_false, u_add, u_sub, u_neg, u_not, u_lt, u_le, u_gt, u_ge, u_eqI, u_neI, decide_true, decide_false, u_int, u_intb, methF, List.map_cons, List.map_nil, List.replicate, List.cons_append, List.nil_append, h1, isTupD, ln, ix_tup0, ix_tup1, t1, w1, w2, ldB, q1, e, Bool.false_and, Bool.true_and]
      | true =>
        rw [q2] at w2
        obtain ⟨i, rfl⟩ := intD_of q2
        by_cases i0 : i < 0
        · have e : inB 0 none (.int i) = false := by simp only [inB, Bool.and_true]; exact decide_eq_false (by omega)
          simp only [R_is_load, F_is_load, u_seq, u_asg, u_call, u_exp, u_if, u_ret, u_setS, u_par, u_nx, nxt_nx, nxt_rt, u_list, u_list0, u_var, u_con, u_bin, u_un1, u_and, u_or, u_chain, u_ite, u_blt, u_tup, u_lst, u_slc, u_opt, u_opt0, im_int, u_nm, u_tgs, u_tgs0, u_tupT, List.getElem?_cons_succ, List.getElem?_cons_zero, bind_ok, thenS_ok, thenI_ok, List.length_cons, List.length_nil, Nat.reduceAdd, Nat.reduceSub, Nat.reduceLT, Nat.reduceLeDiff, Nat.zero_le, if_true, om_some, List.set_cons_succ, List.set_cons_zero, bm_bl, Bool.not_true, Bool.not_false, Bool.false_eq_true, if_false, u_add, u_sub, u_neg, u_not, u_lt, u_le, u_gt, u_ge, u_eqI, u_neI, decide_true, decide_false, u_int, u_intb, methF, List.map_cons, List.map_nil, List.replicate, List.cons_append, List.nil_append, h1, isTupD, ln, ix_tup0, ix_tup1, t1, w1, w2, ldB, q1, e, i0, Bool.false_and, Bool.true_and]
        · have e : inB 0 none (.int i) = true := by simp only [inB, Bool.and_true]; exact decide_eq_true (by omega)
          simp only [R_is_load, F_is_load, u_seq, u_asg, u_call, u_exp, u_if, u_ret, u_setS, u_par, u_nx, nxt_nx, nxt_rt, u_list, u_list0, u_var, u_con, u_bin, u_un1, u_and, u_or, u_chain, u_ite, u_blt, u_tup, u_lst, u_slc, u_opt, u_opt0, im_int, u_nm, u_tgs, u_tgs0, u_tupT, List.getElem?_cons_succ, List.getElem?_cons_zero, bind_ok, thenS_ok, thenI_ok, List.length_cons, List.length_nil, Nat.reduceAdd, Nat.reduceSub, Nat.reduceLT, Nat.reduceLeDiff, Nat.zero_le, if_true, om_some, List.set_cons_succ, List.set_cons_zero, bm_bl, Bool.not_true, Bool.not_false, Bool.false_eq_true, if_false, u_add, u_sub, u_neg, u_not, u_lt, u_le, u_gt, u_ge, u_eqI, u_neI, decide_true, decide_false, u_int, u_intb, methF, List.map_cons, List.map_nil, List.replicate, List.cons_append, List.nil_append, h1, isTupD, ln, ix_tup0, ix_tup1, ix_tup2, t0, t1, w1, w2, w3, ldB, q1, e, i0, Bool.true_and]
    · have hl' : ¬ ((ds.length : Nat) : Int) = 3 := by omega
      simp only [R_is_load, F_is_load, u_seq, u_asg, u_call, u_exp, u_if, u_ret, u_setS, u_par, u_nx, nxt_nx, nxt_rt, u_list, u_list0, u_var, u_con, u_bin, u_un1, u_and, u_or, u_chain, u_ite, u_blt, u_tup, u_lst, u_slc, u_opt, u_opt0, im_int, u_nm, u_tgs, u_tgs0, u_tupT, List.getElem?_cons_succ, List.getElem?_cons_zero, bind_ok, thenS_ok, thenI_ok, List.length_cons, List.length_nil, Nat.reduceAdd, Nat.reduceSub, Nat.reduceLT, Nat.reduceLeDiff, Nat.zero_le, if_true, om_some, List.set_cons_succ, List.set_cons_zero, bm_bl, Bool.not_true, Bool.not_false, Bool.false_eq_true, if_false, u_add, u_sub, u_neg, u_not, u_lt, u_le, u_gt, u_ge, u_eqI, u_neI, decide_true, decide_false, u_int, u_intb, methF, List.map_cons, List.map_nil, List.replicate, List.cons_append, List.nil_append, h1, isTupD, ln, hl', ldB_ne hl]
  | _ => simp only [R_is_load, F_is_load, u_seq, u_asg, u_call, u_exp, u_if, u_ret, u_setS, u_par, u_nx, nxt_nx, nxt_rt, u_list, u_list0, u_var, u_con, u_bin, u_un1, u_and, u_or, u_chain, u_ite, u_blt, u_tup, u_lst, u_slc, u_opt, u_opt0, im_int, u_nm, u_tgs, u_tgs0, u_tupT, List.getElem?_cons_succ, List.getElem?_cons_zero, bind_ok, thenS_ok, thenI_ok, List.length_cons, List.length_nil, Nat.reduceAdd, Nat.reduceSub, Nat.reduceLT, Nat.reduceLeDiff, Nat.zero_le, if_true, om_some, List.set_cons_succ, List.set_cons_zero, bm_bl, Bool.not_true, Bool.not_false, Bool.false_eq_true, if_false, u_add, u_sub, u_neg, u_not, u_lt, u_le, u_gt, u_ge, u_eqI, u_neI, decide_true, decide_false, u_int, u_intb, methF, List.map_cons, List.map_nil, List.replicate, List.cons_append, List.nil_append, h1, isTupD, ldB]
theorem _law_is_load_any (k : Nat) {h : Hv} {tr : D} {P K : Int} (t0 : ∀ h, opIx tr (.int 0) h = .ok (.int P) h) (t1 : ∀ h, opIx tr (.int 1) h = .ok (.int K) h) (hP : P ≤ 4) {d : D} (s : Sml h d) : callK T (k + 6) "_law_is_load" [tr, d] h = .ok (.bl (ldB P K d)) h := by
  refine fn_same t__law_is_load rfl ?_
  have h1 := s.isiT
  cases d with
  | tup ds =>
    have hs : ∀ d ∈ ds, Sml h d := by cases s; assumption
    have ln : bLen [.tup ds] h = .ok (.int ds.length) h := rfl
    by_cases hl : ds.length = 3
    · obtain ⟨a, b, c, rfl⟩ := len3 hl
      have ln : bLen [.tup [a, b, c]] h = .ok (.int 3) h := rfl
      have w1 : callK T (k + 5) "_law_in" [a, .int 0, .int (K - 1)] h = _ := _law_in_any (k + 4) (hs a (by simp)) 0 (some (K - 1))
      have w2 : callK T (k + 5) "_law_in" [b, .int 0, .non] h = _ := _law_in_any (k + 4) (hs b (by simp)) 0 none
      have w3 := _law_are_shares_any k (hs c (by simp)) P hP
      cases q1 : inB 0 (some (K - 1)) a <;> rw [q1] at w1 <;> try (simp only [R__law_is_load, F__law_is_load, u_seq, u_asg, u_call, u_exp, u_if, u_ret, u_setS, u_par, u_nx, nxt_nx, nxt_rt, u_list, u_list0, u_var, u_con, u_bin, u_un1, u_and, u_or, u_chain, u_ite, u_blt, u_tup, u_lst, u_slc, u_opt, u_opt0, im_int, u_nm, u_tgs, u_tgs0, u_tupT, List.getElem?_cons_succ, List.getElem?_cons_zero, bind_ok, thenS_ok, thenI_ok, List.length_cons, List.length_nil, Nat.reduceAdd, Nat.reduceSub, Nat.reduceLT, Nat.reduceLeDiff, Nat.zero_le, if_true, om_some, List.set_cons_succ, List.set_cons_zero, bm_bl, Bool.not_true, Bool.not_false, Bool.false_eq_true, if_false, u_add, u_sub, u_neg, u_not, u_lt, u_le, u_gt, u_ge, u_eqI, u_neI, decide_true, decide_false, u_int, u_intb, methF, List.map_cons, List.map_nil, List.replicate, List.cons_append, List.nil_append, h1, isTupD, ln, ix_tup0, t1, w1, ldB, q1, Bool.false_and]; done)
      cases q2 : inB 0 none b <;> rw [q2] at w2 <;> simp only [R__law_is_load, F__law_is_load, u_seq, u_asg, u_call, u_exp, u_if, u_ret, u_setS, u_par, u_nx, nxt_nx, nxt_rt, u_list, u_list0, u_var, u_con, u_bin, u_un1, u_and, u_or, u_chain, u_ite, u_blt, u_tup, u_lst, u_slc, u_opt, u_opt0, im_int, u_nm, u_tgs, u_tgs0, u_tupT, List.getElem?_cons_succ, List.getElem?_cons_zero, bind_ok, thenS_ok, thenI_ok, List.length_cons, List.length_nil, Nat.reduceAdd, Nat.reduceSub, Nat.reduceLT, Nat.reduceLeDiff, Nat.zero_le, if_true, om_some, List.set_cons_succ, List.set_cons_zero, bm_bl, Bool.not_true, Bool.not_false, Bool.false_eq_true, if_false, u_add, u_sub, u_neg, u_not, u_lt, u_le, u_gt, u_ge, u_eqI, u_neI, decide_true, decide_false, u_int, u_intb, methF, List.map_cons, List.map_nil, List.replicate, List.cons_append, List.nil_append, h1, isTupD, ln, ix_tup0, ix_tup1, ix_tup2, t0, t1, w1, w2, w3, ldB, q1, q2, Bool.false_and, Bool.true_and]
    · have hl' : ¬ ((ds.length : Nat) : Int) = 3 := by omega
      simp only [R__law_is_load, F__law_is_load, u_seq, u_asg, u_call, u_exp, u_if, u_ret, u_setS, u_par, u_nx, nxt_nx, nxt_rt, u_list, u_list0, u_var, u_con, u_bin, u_un1, u_and, u_or, u_chain, u_ite, u_blt, u_tup, u_lst, u_slc, u_opt, u_opt0, im_int, u_nm, u_tgs, u_tgs0, u_tupT, List.getElem?_cons_succ, List.getElem?_cons_zero, bind_ok, thenS_ok, thenI_ok, List.length_cons, List.length_nil, Nat.reduceAdd, Nat.reduceSub, Nat.reduceLT, Nat.reduceLeDiff, Nat.zero_le, if_true, om_some, List.set_cons_succ, List.set_cons_zero, bm_bl, Bool.not_true, Bool.not_false, Bool.false_eq_true, if_false, u_add, u_sub, u_neg, u_not, u_lt, u_le, u_gt, u_ge, u_eqI, u_neI, decide_true, decide_false, u_int, u_intb, methF, List.map_cons, List.map_nil, List.replicate, List.cons_append, List.nil_append, h1, isTupD, ln, hl', ldB_ne hl]
  | _ => simp only [R__law_is_load, F__law_is_load, u_seq, u_asg, u_call, u_exp, u_if, u_ret, u_setS, u_par, u_nx, nxt_nx, nxt_rt, u_list, u_list0, u_var, u_con, u_bin, u_un1, u_and, u_or, u_chain, u_ite, u_blt, u_tup, u_lst, u_slc, u_opt, u_opt0, im_int, u_nm, u_tgs, u_tgs0, u_tupT, List.getElem?_cons_succ, List.getElem?_cons_zero, bind_ok, thenS_ok, thenI_ok, List.length_cons, List.length_nil, Nat.reduceAdd, Nat.reduceSub, Nat.reduceLT, Nat.reduceLeDiff, Nat.zero_le, if_true, om_some, List.set_cons_succ, List.set_cons_zero, bm_bl, Bool.not_true, Bool.not_false, Bool.false_eq_true, if_false, u_add, u_sub, u_neg, u_not, u_lt, u_le, u_gt, u_ge, u_eqI, u_neI, decide_true, decide_false, u_int, u_intb, methF, List.map_cons, List.map_nil, List.replicate, List.cons_append, List.nil_append, h1, isTupD, ldB]
/-- worths -/
def wsB (many : Int) : D → Bool
  | .tup ds => decide ((ds.length : Int) = many) && ds.all (inB 1 (some 99))
  | _ => false
theorem are_worths_any (k : Nat) {h : Hv} {d : D} (s : Sml h d) (many : Int) : callK T (k + 3) "are_worths" [d, .int many] h = .ok (.bl (wsB many d)) h := by
  have h1 := s.isiT
  cases d with
  | tup ds =>
    have hs : ∀ d ∈ ds, Sml h d := by cases s; assumption
    have hd : ds.length ≤ 100 := by cases s; assumption
    have ln : bLen [.tup ds] h = .ok (.int ds.length) h := rfl
    by_cases hl : (ds.length : Int) = many
    · have l1 := lc_any (C := callK T (k + 2)) (env := [some (.tup ds), some (.int many), none]) (i := 2) (own := [2]) (elt := (callF "is_within" [(varF 2), (conF (.int 1)), (conF (.int 99))])) (h := h) ds (fun d => .bl (inB 1 (some 99) d)) (varF 0) rfl (by simp) rfl
        (fun d hd acc => by
          have z := is_within_any k ((hs d hd).mono (h' := h ++ [Ob.lst acc]) (by simp)) 1 99
          simp only [wipeD, u_seq, u_asg, u_call, u_exp, u_if, u_ret, u_setS, u_par, u_nx, nxt_nx, nxt_rt, u_list, u_list0, u_var, u_con, u_bin, u_un1, u_and, u_or, u_chain, u_ite, u_blt, u_tup, u_lst, u_slc, u_opt, u_opt0, im_int, u_nm, u_tgs, u_tgs0, u_tupT, List.getElem?_cons_succ, List.getElem?_cons_zero, bind_ok, thenS_ok, thenI_ok, List.length_cons, List.length_nil, Nat.reduceAdd, Nat.reduceSub, Nat.reduceLT, Nat.reduceLeDiff, Nat.zero_le, if_true, om_some, List.set_cons_succ, List.set_cons_zero, bm_bl, Bool.not_true, Bool.not_false, Bool.false_eq_true, if_false, u_add, u_sub, u_neg, u_not, u_lt, u_le, u_gt, u_ge, u_eqI, u_neI, decide_true, decide_false, u_int, u_intb, methF, List.map_cons, List.map_nil, List.replicate, List.cons_append, List.nil_append, z]) (by omega)
      have al := all_any (h := h) (inB 1 (some 99)) ds
      refine fn_app (g := [Ob.lst (ds.map fun d => D.bl (inB 1 (some 99) d))]) t_are_worths rfl ?_ rfl
      simp only [R_are_worths, F_are_worths, u_seq, u_asg, u_call, u_exp, u_if, u_ret, u_setS, u_par, u_nx, nxt_nx, nxt_rt, u_list, u_list0, u_var, u_con, u_bin, u_un1, u_and, u_or, u_chain, u_ite, u_blt, u_tup, u_lst, u_slc, u_opt, u_opt0, im_int, u_nm, u_tgs, u_tgs0, u_tupT, List.getElem?_cons_succ, List.getElem?_cons_zero, bind_ok, thenS_ok, thenI_ok, List.length_cons, List.length_nil, Nat.reduceAdd, Nat.reduceSub, Nat.reduceLT, Nat.reduceLeDiff, Nat.zero_le, if_true, om_some, List.set_cons_succ, List.set_cons_zero, bm_bl, Bool.not_true, Bool.not_false, Bool.false_eq_true, if_false, u_add, u_sub, u_neg, u_not, u_lt, u_le, u_gt, u_ge, u_eqI, u_neI, decide_true, decide_false, u_int, u_intb, methF, List.map_cons, List.map_nil, List.replicate, List.cons_append, List.nil_append, h1, isTupD, ln, hl, l1, al, wsB, Bool.true_and]
    · refine fn_same t_are_worths rfl ?_
      simp only [R_are_worths, F_are_worths, u_seq, u_asg, u_call, u_exp, u_if, u_ret, u_setS, u_par, u_nx, nxt_nx, nxt_rt, u_list, u_list0, u_var, u_con, u_bin, u_un1, u_and, u_or, u_chain, u_ite, u_blt, u_tup, u_lst, u_slc, u_opt, u_opt0, im_int, u_nm, u_tgs, u_tgs0, u_tupT, List.getElem?_cons_succ, List.getElem?_cons_zero, bind_ok, thenS_ok, thenI_ok, List.length_cons, List.length_nil, Nat.reduceAdd, Nat.reduceSub, Nat.reduceLT, Nat.reduceLeDiff, Nat.zero_le, if_true, om_some, List.set_cons_succ, List.set_cons_zero, bm_bl, Bool.not_true, Bool.not_false, Bool.false_eq_true, if_false, u_add, u_sub, u_neg, u_not, u_lt, u_le, u_gt, u_ge, u_eqI, u_neI, decide_true, decide_false, u_int, u_intb, methF, List.map_cons, List.map_nil, List.replicate, List.cons_append, List.nil_append, h1, isTupD, ln, hl, wsB, Bool.false_and]
  | _ =>
    refine fn_same t_are_worths rfl ?_
    simp only [R_are_worths, F_are_worths, u_seq, u_asg, u_call, u_exp, u_if, u_ret, u_setS, u_par, u_nx, nxt_nx, nxt_rt, u_list, u_list0, u_var, u_con, u_bin, u_un1, u_and, u_or, u_chain, u_ite, u_blt, u_tup, u_lst, u_slc, u_opt, u_opt0, im_int, u_nm, u_tgs, u_tgs0, u_tupT, List.getElem?_cons_succ, List.getElem?_cons_zero, bind_ok, thenS_ok, thenI_ok, List.length_cons, List.length_nil, Nat.reduceAdd, Nat.reduceSub, Nat.reduceLT, Nat.reduceLeDiff, Nat.zero_le, if_true, om_some, List.set_cons_succ, List.set_cons_zero, bm_bl, Bool.not_true, Bool.not_false, Bool.false_eq_true, if_false, u_add, u_sub, u_neg, u_not, u_lt, u_le, u_gt, u_ge, u_eqI, u_neI, decide_true, decide_false, u_int, u_intb, methF, List.map_cons, List.map_nil, List.replicate, List.cons_append, List.nil_append, h1, isTupD, wsB]
theorem _law_are_worths_any (k : Nat) {h : Hv} {d : D} (s : Sml h d) (many : Int) : callK T (k + 3) "_law_are_worths" [d, .int many] h = .ok (.bl (wsB many d)) h := by
  have h1 := s.isiT
  cases d with
  | tup ds =>
    have hs : ∀ d ∈ ds, Sml h d := by cases s; assumption
    have hd : ds.length ≤ 100 := by cases s; assumption
    have ln : bLen [.tup ds] h = .ok (.int ds.length) h := rfl
    by_cases hl : (ds.length : Int) = many
    · have l1 := lc_any (C := callK T (k + 2)) (env := [some (.tup ds), some (.int many), none]) (i := 2) (own := [2]) (elt := (callF "_law_in" [(varF 2), (conF (.int 1)), (conF (.int 99))])) (h := h) ds (fun d => .bl (inB 1 (some 99) d)) (varF 0) rfl (by simp) rfl
        (fun d hd acc => by
          have z : callK T (k + 2) "_law_in" [d, .int 1, .int 99] (h ++ [Ob.lst acc]) = _ := _law_in_any (k + 1) ((hs d hd).mono (h' := h ++ [Ob.lst acc]) (by simp)) 1 (some 99)
          simp only [wipeD, u_seq, u_asg, u_call, u_exp, u_if, u_ret, u_setS, u_par, u_nx, nxt_nx, nxt_rt, u_list, u_list0, u_var, u_con, u_bin, u_un1, u_and, u_or, u_chain, u_ite, u_blt, u_tup, u_lst, u_slc, u_opt, u_opt0, im_int, u_nm, u_tgs, u_tgs0, u_tupT, List.getElem?_cons_succ, List.getElem?_cons_zero, bind_ok, thenS_ok, thenI_ok, List.length_cons, List.length_nil, Nat.reduceAdd, Nat.reduceSub, Nat.reduceLT, Nat.reduceLeDiff, Nat.zero_le, if_true, om_some, List.set_cons_succ, List.set_cons_zero, bm_bl, Bool.not_true, Bool.not_false, Bool.false_eq_true, if_false, u_add, u_sub, u_neg, u_not, u_lt, u_le, u_gt, u_ge, u_eqI, u_neI, decide_true, decide_false, u_int, u_intb, methF, List.map_cons, List.map_nil, List.replicate, List.cons_append, List.nil_append, z]) (by omega)
      have al := all_any (h := h) (inB 1 (some 99)) ds
      refine fn_app (g := [Ob.lst (ds.map fun d => D.bl (inB 1 (some 99) d))]) t__law_are_worths rfl ?_ rfl
      simp only [R__law_are_worths, F__law_are_worths, u_seq, u_asg, u_call, u_exp, u_if, u_ret, u_setS, u_par, u_nx, nxt_nx, nxt_rt, u_list, u_list0, u_var, u_con, u_bin, u_un1, u_and, u_or, u_chain, u_ite, u_blt, u_tup, u_lst, u_slc, u_opt, u_opt0, im_int, u_nm, u_tgs, u_tgs0, u_tupT, List.getElem?_cons_succ, List.getElem?_cons_zero, bind_ok, thenS_ok, thenI_ok, List.length_cons, List.length_nil, Nat.reduceAdd, Nat.reduceSub, Nat.reduceLT, Nat.reduceLeDiff, Nat.zero_le, if_true, om_some, List.set_cons_succ, List.set_cons_zero, bm_bl, Bool.not_true, Bool.not_false, Bool.false_eq_true, if_false, u_add, u_sub, u_neg, u_not, u_lt, u_le, u_gt, u_ge, u_eqI, u_neI, decide_true, decide_false, u_int, u_intb, methF, List.map_cons, List.map_nil, List.replicate, List.cons_append, List.nil_append, h1, isTupD, ln, hl, l1, al, wsB, Bool.true_and]
    · refine fn_same t__law_are_worths rfl ?_
      simp only [R__law_are_worths, F__law_are_worths, u_seq, u_asg, u_call, u_exp, u_if, u_ret, u_setS, u_par, u_nx, nxt_nx, nxt_rt, u_list, u_list0, u_var, u_con, u_bin, u_un1, u_and, u_or, u_chain, u_ite, u_blt, u_tup, u_lst, u_slc, u_opt, u_opt0, im_int, u_nm, u_tgs, u_tgs0, u_tupT, List.getElem?_cons_succ, List.getElem?_cons_zero, bind_ok, thenS_ok, thenI_ok, List.length_cons, List.length_nil, Nat.reduceAdd, Nat.reduceSub, Nat.reduceLT, Nat.reduceLeDiff, Nat.zero_le, if_true, om_some, List.set_cons_succ, List.set_cons_zero, bm_bl, Bool.not_true, Bool.not_false, Bool.false_eq_true, if_false, u_add, u_sub, u_neg, u_not, u_lt, u_le, u_gt, u_ge, u_eqI, u_neI, decide_true, decide_false, u_int, u_intb, methF, List.map_cons, List.map_nil, List.replicate, List.cons_append, List.nil_append, h1, isTupD, ln, hl, wsB, Bool.false_and]
  | _ =>
    refine fn_same t__law_are_worths rfl ?_
    simp only [R__law_are_worths, F__law_are_worths, u_seq, u_asg, u_call, u_exp, u_if, u_ret, u_setS, u_par, u_nx, nxt_nx, nxt_rt, u_list, u_list0, u_var, u_con, u_bin, u_un1, u_and, u_or, u_chain, u_ite, u_blt, u_tup, u_lst, u_slc, u_opt, u_opt0, im_int, u_nm, u_tgs, u_tgs0, u_tupT, List.getElem?_cons_succ, List.getElem?_cons_zero, bind_ok, thenS_ok, thenI_ok, List.length_cons, List.length_nil, Nat.reduceAdd, Nat.reduceSub, Nat.reduceLT, Nat.reduceLeDiff, Nat.zero_le, if_true, om_some, List.set_cons_succ, List.set_cons_zero, bm_bl, Bool.not_true, Bool.not_false, Bool.false_eq_true, if_false, u_add, u_sub, u_neg, u_not, u_lt, u_le, u_gt, u_ge, u_eqI, u_neI, decide_true, decide_false, u_int, u_intb, methF, List.map_cons, List.map_nil, List.replicate, List.cons_append, List.nil_append, h1, isTupD, wsB]
/-- a share that a sale may have -/
def smB : D → Bool
  | .tup [.int x, .int y] => shB (.tup [.int x, .int y]) && (decide (0 < x) && decide (y ≤ 12))
  | _ => false
theorem smB_no {d : D} (h : shB d = false) : smB d = false := by
  unfold smB
  split
  · rw [h]; rfl
  · rfl
theorem shB_two {d : D} (h : shB d = true) : ∃ x y : Int, d = .tup [.int x, .int y] := by
  unfold shB at h
  rw [Bool.and_eq_true] at h
  obtain ⟨a, b, e, _⟩ := amB_of h.1
  exact ⟨a, b, e⟩
/-- a deed -/
def swB (K : Int) (a b c e : D) : Bool := inB 0 none a && (inB 1 none b && (inB 0 (some (K - 1)) c && inB 1 none e))
def dB (P K : Int) : D → Bool
  | .tup (.str w :: xs) =>
    if w = "bring" then (match xs with
      | [a, b, c] => inB 0 (some (P - 1)) a && (inB 0 (some (K - 1)) b && inB 1 none c)
      | _ => false)
    else if w = "pool" then (match xs with
      | [a, b] => inB 0 none a && (inB 0 none b && !decide (a = b))
      | _ => false)
    else if w = "swap" then (match xs with
      | [a, b, c, e] => swB K a b c e
      | _ => false)
    else if w = "trade" then (match xs with
      | [n, a, b, c, e] => inB 0 (some 9) n && swB K a b c e
      | _ => false)
    else if w = "spoil" then (match xs with
      | [a, b] => inB 0 none a && inB 1 none b
      | _ => false)
    else if w = "throw" then (match xs with
      | [a, b, c] => inB 0 none a && (inB 1 none b && wsB (K + 1) c)
      | _ => false)
    else if w = "sell" then (match xs with
      | [a, b, c] => inB 0 (some (P - 1)) a && (inB 0 (some (P - 1)) b && (!decide (a = b) && smB c))
      | _ => false)
    else false
  | _ => false
theorem is_swapping_any (k : Nat) {h : Hv} {tr : D} {K : Int} (t1 : ∀ h, opIx tr (.int 1) h = .ok (.int K) h) {a b c e : D} (sa : Sml h a) (sb : Sml h b) (sc : Sml h c) (se : Sml h e) : callK T (k + 3) "is_swapping" [tr, .tup [a, b, c, e]] h = .ok (.bl (swB K a b c e)) h := by
  refine fn_same t_is_swapping rfl ?_
  have w1 := is_from_any k sa 0
  have w2 := is_from_any k sb 1
  have w3 := is_within_any k sc 0 (K - 1)
  have w4 := is_from_any k se 1
  unfold swB
  cases q1 : inB 0 none a <;> rw [q1] at w1 <;> try (simp only [R_is_swapping, F_is_swapping, u_seq, u_asg, u_call, u_exp, u_if, u_ret, u_setS, u_par, u_nx, nxt_nx, nxt_rt, u_list, u_list0, u_var, u_con, u_bin, u_un1, u_and, u_or, u_chain, u_ite, u_blt, u_tup, u_lst, u_slc, u_opt, u_opt0, im_int, u_nm, u_tgs, u_tgs0, u_tupT, List.getElem?_cons_succ, List.getElem?_cons_zero, bind_ok, thenS_ok, thenI_ok, List.length_cons, List.length_nil, Nat.reduceAdd, Nat.reduceSub, Nat.reduceLT, Nat.reduceLeDiff, Nat.zero_le, if_true, om_some, List.set_cons_succ, List.set_cons_zero, bm_bl, Bool.not_true, Bool.not_false, Bool.false_eq_true, if_false, u_add, u_sub, u_neg, u_not, u_lt, u_le, u_gt, u_ge, u_eqI, u_neI, decide_true, decide_false, u_int, u_intb, methF, List.map_cons, List.map_nil, List.replicate, List.cons_append, List.nil_append, w1, Bool.false_and]; done)
  cases q2 : inB 1 none b <;> rw [q2] at w2 <;> try (simp only [R_is_swapping, F_is_swapping, u_seq, u_asg, u_call, u_exp, u_if, u_ret, u_setS, u_par, u_nx, nxt_nx, nxt_rt, u_list, u_list0, u_var, u_con, u_bin, u_un1, u_and, u_or, u_chain, u_ite, u_blt, u_tup, u_lst, u_slc, u_opt, u_opt0, im_int, u_nm, u_tgs, u_tgs0, u_tupT, List.getElem?_cons_succ, List.getElem?_cons_zero, bind_ok, thenS_ok, thenI_ok, List.length_cons, List.length_nil, Nat.reduceAdd, Nat.reduceSub, Nat.reduceLT, Nat.reduceLeDiff, Nat.zero_le, if_true, om_some, List.set_cons_succ, List.set_cons_zero, bm_bl, Bool.not_true, Bool.not_false, Bool.false_eq_true, if_false, u_add, u_sub, u_neg, u_not, u_lt, u_le, u_gt, u_ge, u_eqI, u_neI, decide_true, decide_false, u_int, u_intb, methF, List.map_cons, List.map_nil, List.replicate, List.cons_append, List.nil_append, w1, w2, Bool.false_and, Bool.true_and]; done)
  cases q3 : inB 0 (some (K - 1)) c <;> rw [q3] at w3 <;> simp only [R_is_swapping, F_is_swapping, u_seq, u_asg, u_call, u_exp, u_if, u_ret, u_setS, u_par, u_nx, nxt_nx, nxt_rt, u_list, u_list0, u_var, u_con, u_bin, u_un1, u_and, u_or, u_chain, u_ite, u_blt, u_tup, u_lst, u_slc, u_opt, u_opt0, im_int, u_nm, u_tgs, u_tgs0, u_tupT, List.getElem?_cons_succ, List.getElem?_cons_zero, bind_ok, thenS_ok, thenI_ok, List.length_cons, List.length_nil, Nat.reduceAdd, Nat.reduceSub, Nat.reduceLT, Nat.reduceLeDiff, Nat.zero_le, if_true, om_some, List.set_cons_succ, List.set_cons_zero, bm_bl, Bool.not_true, Bool.not_false, Bool.false_eq_true, if_false, u_add, u_sub, u_neg, u_not, u_lt, u_le, u_gt, u_ge, u_eqI, u_neI, decide_true, decide_false, u_int, u_intb, methF, List.map_cons, List.map_nil, List.replicate, List.cons_append, List.nil_append, t1, w1, w2, w3, w4, Bool.false_and, Bool.true_and]
theorem is_partner_any (k : Nat) {h : Hv} {tr : D} {P : Int} (t0 : ∀ h, opIx tr (.int 0) h = .ok (.int P) h) {d : D} (s : Sml h d) : callK T (k + 3) "is_partner" [tr, d] h = .ok (.bl (inB 0 (some (P - 1)) d)) h := by
  refine fn_same t_is_partner rfl ?_
  have w := is_within_any k s 0 (P - 1)
  simp only [R_is_partner, F_is_partner, u_seq, u_asg, u_call, u_exp, u_if, u_ret, u_setS, u_par, u_nx, nxt_nx, nxt_rt, u_list, u_list0, u_var, u_con, u_bin, u_un1, u_and, u_or, u_chain, u_ite, u_blt, u_tup, u_lst, u_slc, u_opt, u_opt0, im_int, u_nm, u_tgs, u_tgs0, u_tupT, List.getElem?_cons_succ, List.getElem?_cons_zero, bind_ok, thenS_ok, thenI_ok, List.length_cons, List.length_nil, Nat.reduceAdd, Nat.reduceSub, Nat.reduceLT, Nat.reduceLeDiff, Nat.zero_le, if_true, om_some, List.set_cons_succ, List.set_cons_zero, bm_bl, Bool.not_true, Bool.not_false, Bool.false_eq_true, if_false, u_add, u_sub, u_neg, u_not, u_lt, u_le, u_gt, u_ge, u_eqI, u_neI, decide_true, decide_false, u_int, u_intb, methF, List.map_cons, List.map_nil, List.replicate, List.cons_append, List.nil_append, t0, w]
theorem int_eqD (i j : Int) : decide (D.int i = .int j) = decide (i = j) := by
  by_cases h : i = j
  · subst h; simp
  · have : ¬ D.int i = .int j := fun z => h (D.int.inj z)
    rw [decide_eq_false h, decide_eq_false this]
theorem is_selling_any (k : Nat) {h : Hv} {tr : D} {P : Int} (t0 : ∀ h, opIx tr (.int 0) h = .ok (.int P) h) {a b c : D} (sa : Sml h a) (sb : Sml h b) (sc : Sml h c) : callK T (k + 4) "is_selling" [tr, .tup [a, b, c]] h = .ok (.bl (inB 0 (some (P - 1)) a && (inB 0 (some (P - 1)) b && (!decide (a = b) && smB c)))) h := by
  refine fn_same t_is_selling rfl ?_
  have w1 := is_partner_any k t0 sa
  have w2 := is_partner_any k t0 sb
  have w3 := looks_any k sc
  cases q1 : inB 0 (some (P - 1)) a <;> rw [q1] at w1 <;> try (simp only [R_is_selling, F_is_selling, u_seq, u_asg, u_call, u_exp, u_if, u_ret, u_setS, u_par, u_nx, nxt_nx, nxt_rt, u_list, u_list0, u_var, u_con, u_bin, u_un1, u_and, u_or, u_chain, u_ite, u_blt, u_tup, u_lst, u_slc, u_opt, u_opt0, im_int, u_nm, u_tgs, u_tgs0, u_tupT, List.getElem?_cons_succ, List.getElem?_cons_zero, bind_ok, thenS_ok, thenI_ok, List.length_cons, List.length_nil, Nat.reduceAdd, Nat.reduceSub, Nat.reduceLT, Nat.reduceLeDiff, Nat.zero_le, if_true, om_some, List.set_cons_succ, List.set_cons_zero, bm_bl, Bool.not_true, Bool.not_false, Bool.false_eq_true, if_false, u_add, u_sub, u_neg, u_not, u_lt, u_le, u_gt, u_ge, u_eqI, u_neI, decide_true, decide_false, u_int, u_intb, methF, List.map_cons, List.map_nil, List.replicate, List.cons_append, List.nil_append, w1, Bool.false_and]; done)
  cases q2 : inB 0 (some (P - 1)) b <;> rw [q2] at w2 <;> try (simp only [R_is_selling, F_is_selling, u_seq, u_asg, u_call, u_exp, u_if, u_ret, u_setS, u_par, u_nx, nxt_nx, nxt_rt, u_list, u_list0, u_var, u_con, u_bin, u_un1, u_and, u_or, u_chain, u_ite, u_blt, u_tup, u_lst, u_slc, u_opt, u_opt0, im_int, u_nm, u_tgs, u_tgs0, u_tupT, List.getElem?_cons_succ, List.getElem?_cons_zero, bind_ok, thenS_ok, thenI_ok, List.length_cons, List.length_nil, Nat.reduceAdd, Nat.reduceSub, Nat.reduceLT, Nat.reduceLeDiff, Nat.zero_le, if_true, om_some, List.set_cons_succ, List.set_cons_zero, bm_bl, Bool.not_true, Bool.not_false, Bool.false_eq_true, if_false, u_add, u_sub, u_neg, u_not, u_lt, u_le, u_gt, u_ge, u_eqI, u_neI, decide_true, decide_false, u_int, u_intb, methF, List.map_cons, List.map_nil, List.replicate, List.cons_append, List.nil_append, w1, w2, Bool.false_and, Bool.true_and]; done)
  obtain ⟨i, rfl⟩ := inB_int q1
  obtain ⟨j, rfl⟩ := inB_int q2
  rw [int_eqD]
  by_cases ij : i = j
  · simp only [R_is_selling, F_is_selling, u_seq, u_asg, u_call, u_exp, u_if, u_ret, u_setS, u_par, u_nx, nxt_nx, nxt_rt, u_list, u_list0, u_var, u_con, u_bin, u_un1, u_and, u_or, u_chain, u_ite, u_blt, u_tup, u_lst, u_slc, u_opt, u_opt0, im_int, u_nm, u_tgs, u_tgs0, u_tupT, List.getElem?_cons_succ, List.getElem?_cons_zero, bind_ok, thenS_ok, thenI_ok, List.length_cons, List.length_nil, Nat.reduceAdd, Nat.reduceSub, Nat.reduceLT, Nat.reduceLeDiff, Nat.zero_le, if_true, om_some, List.set_cons_succ, List.set_cons_zero, bm_bl, Bool.not_true, Bool.not_false, Bool.false_eq_true, if_false, u_add, u_sub, u_neg, u_not, u_lt, u_le, u_gt, u_ge, u_eqI, u_neI, decide_true, decide_false, u_int, u_intb, methF, List.map_cons, List.map_nil, List.replicate, List.cons_append, List.nil_append, w1, w2, ij, Bool.false_and, Bool.true_and]
  · cases q3 : shB c with
    | false =>
      rw [q3] at w3
      simp only [R_is_selling, F_is_selling, u_seq, u_asg, u_call, u_exp, u_if, u_ret, u_setS, u_par, u_nx, nxt_nx, nxt_rt, u_list, u_list0, u_var, u_con, u_bin, u_un1, u_and, u_or, u_chain, u_ite, u_blt, u_tup, u_lst, u_slc, u_opt, u_opt0, im_int, u_nm, u_tgs, u_tgs0, u_tupT, List.getElem?_cons_succ, List.getElem?_cons_zero, bind_ok, thenS_ok, thenI_ok, List.length_cons, List.length_nil, Nat.reduceAdd, Nat.reduceSub, Nat.reduceLT, Nat.reduceLeDiff, Nat.zero_le, if_true, om_some, List.set_cons_succ, List.set_cons_zero, bm_bl, Bool.not_true, Bool.not_false, Bool.false_eq_true, if_false, u_add, u_sub, u_neg, u_not, u_lt, u_le, u_gt, u_ge, u_eqI, u_neI, decide_true, decide_false, u_int, u_intb, methF, List.map_cons, List.map_nil, List.replicate, List.cons_append, List.nil_append, w1, w2, w3, ij, smB_no q3, Bool.and_false, Bool.true_and]
    | true =>
      rw [q3] at w3
      obtain ⟨x, y, rfl⟩ := shB_two q3
      by_cases x0 : 0 < x
      · simp only [R_is_selling, F_is_selling, u_seq, u_asg, u_call, u_exp, u_if, u_ret, u_setS, u_par, u_nx, nxt_nx, nxt_rt, u_list, u_list0, u_var, u_con, u_bin, u_un1, u_and, u_or, u_chain, u_ite, u_blt, u_tup, u_lst, u_slc, u_opt, u_opt0, im_int, u_nm, u_tgs, u_tgs0, u_tupT, List.getElem?_cons_succ, List.getElem?_cons_zero, bind_ok, thenS_ok, thenI_ok, List.length_cons, List.length_nil, Nat.reduceAdd, Nat.reduceSub, Nat.reduceLT, Nat.reduceLeDiff, Nat.zero_le, if_true, om_some, List.set_cons_succ, List.set_cons_zero, bm_bl, Bool.not_true, Bool.not_false, Bool.false_eq_true, if_false, u_add, u_sub, u_neg, u_not, u_lt, u_le, u_gt, u_ge, u_eqI, u_neI, decide_true, decide_false, u_int, u_intb, methF, List.map_cons, List.map_nil, List.replicate, List.cons_append, List.nil_append, w1, w2, w3, ij, smB, q3, x0, ix_tup0, ix_tup1, Bool.true_and]
      · simp only [R_is_selling, F_is_selling, u_seq, u_asg, u_call, u_exp, u_if, u_ret, u_setS, u_par, u_nx, nxt_nx, nxt_rt, u_list, u_list0, u_var, u_con, u_bin, u_un1, u_and, u_or, u_chain, u_ite, u_blt, u_tup, u_lst, u_slc, u_opt, u_opt0, im_int, u_nm, u_tgs, u_tgs0, u_tupT, List.getElem?_cons_succ, List.getElem?_cons_zero, bind_ok, thenS_ok, thenI_ok, List.length_cons, List.length_nil, Nat.reduceAdd, Nat.reduceSub, Nat.reduceLT, Nat.reduceLeDiff, Nat.zero_le, if_true, om_some, List.set_cons_succ, List.set_cons_zero, bm_bl, Bool.not_true, Bool.not_false, Bool.false_eq_true, if_false, u_add, u_sub, u_neg, u_not, u_lt, u_le, u_gt, u_ge, u_eqI, u_neI, decide_true, decide_false, u_int, u_intb, methF, List.map_cons, List.map_nil, List.replicate, List.cons_append, List.nil_append, w1, w2, w3, ij, smB, q3, x0, ix_tup0, ix_tup1, Bool.true_and, Bool.false_and]
theorem _law_is_sale_any (k : Nat) {h : Hv} {tr : D} {P : Int} (t0 : ∀ h, opIx tr (.int 0) h = .ok (.int P) h) {a b c : D} (sa : Sml h a) (sb : Sml h b) (sc : Sml h c) : callK T (k + 4) "_law_is_sale" [tr, .tup [a, b, c]] h = .ok (.bl (inB 0 (some (P - 1)) a && (inB 0 (some (P - 1)) b && (!decide (a = b) && smB c)))) h := by
  refine fn_same t__law_is_sale rfl ?_
  have w1 : callK T (k + 3) "_law_in" [a, .int 0, .int (P - 1)] h = _ := _law_in_any (k + 2) sa 0 (some (P - 1))
  have w2 : callK T (k + 3) "_law_in" [b, .int 0, .int (P - 1)] h = _ := _law_in_any (k + 2) sb 0 (some (P - 1))
  have w3 := _law_is_share_any k sc
  cases q1 : inB 0 (some (P - 1)) a <;> rw [q1] at w1 <;> try (simp only [R__law_is_sale, F__law_is_sale, u_seq, u_asg, u_call, u_exp, u_if, u_ret, u_setS, u_par, u_nx, nxt_nx, nxt_rt, u_list, u_list0, u_var, u_con, u_bin, u_un1, u_and, u_or, u_chain, u_ite, u_blt, u_tup, u_lst, u_slc, u_opt, u_opt0, im_int, u_nm, u_tgs, u_tgs0, u_tupT, List.getElem?_cons_succ, List.getElem?_cons_zero, bind_ok, thenS_ok, thenI_ok, List.length_cons, List.length_nil, Nat.reduceAdd, Nat.reduceSub, Nat.reduceLT, Nat.reduceLeDiff, Nat.zero_le, if_true, om_some, List.set_cons_succ, List.set_cons_zero, bm_bl, Bool.not_true, Bool.not_false, Bool.false_eq_true, if_false, u_add, u_sub, u_neg, u_not, u_lt, u_le, u_gt, u_ge, u_eqI, u_neI, decide_true, decide_false, u_int, u_intb, methF, List.map_cons, List.map_nil, List.replicate, List.cons_append, List.nil_append, t0, ix_tup0, w1, Bool.false_and]; done)
  cases q2 : inB 0 (some (P - 1)) b <;> rw [q2] at w2 <;> try (simp only [R__law_is_sale, F__law_is_sale, u_seq, u_asg, u_call, u_exp, u_if, u_ret, u_setS, u_par, u_nx, nxt_nx, nxt_rt, u_list, u_list0, u_var, u_con, u_bin, u_un1, u_and, u_or, u_chain, u_ite, u_blt, u_tup, u_lst, u_slc, u_opt, u_opt0, im_int, u_nm, u_tgs, u_tgs0, u_tupT, List.getElem?_cons_succ, List.getElem?_cons_zero, bind_ok, thenS_ok, thenI_ok, List.length_cons, List.length_nil, Nat.reduceAdd, Nat.reduceSub, Nat.reduceLT, Nat.reduceLeDiff, Nat.zero_le, if_true, om_some, List.set_cons_succ, List.set_cons_zero, bm_bl, Bool.not_true, Bool.not_false, Bool.false_eq_true, if_false, u_add, u_sub, u_neg, u_not, u_lt, u_le, u_gt, u_ge, u_eqI, u_neI, decide_true, decide_false, u_int, u_intb, methF, List.map_cons, List.map_nil, List.replicate, List.cons_append, List.nil_append, t0, ix_tup0, ix_tup1, w1, w2, Bool.false_and, Bool.true_and]; done)
  obtain ⟨i, rfl⟩ := inB_int q1
  obtain ⟨j, rfl⟩ := inB_int q2
  rw [int_eqD]
  by_cases ij : i = j
  · simp only [R__law_is_sale, F__law_is_sale, u_seq, u_asg, u_call, u_exp, u_if, u_ret, u_setS, u_par, u_nx, nxt_nx, nxt_rt, u_list, u_list0, u_var, u_con, u_bin, u_un1, u_and, u_or, u_chain, u_ite, u_blt, u_tup, u_lst, u_slc, u_opt, u_opt0, im_int, u_nm, u_tgs, u_tgs0, u_tupT, List.getElem?_cons_succ, List.getElem?_cons_zero, bind_ok, thenS_ok, thenI_ok, List.length_cons, List.length_nil, Nat.reduceAdd, Nat.reduceSub, Nat.reduceLT, Nat.reduceLeDiff, Nat.zero_le, if_true, om_some, List.set_cons_succ, List.set_cons_zero, bm_bl, Bool.not_true, Bool.not_false, Bool.false_eq_true, if_false, u_add, u_sub, u_neg, u_not, u_lt, u_le, u_gt, u_ge, u_eqI, u_neI, decide_true, decide_false, u_int, u_intb, methF, List.map_cons, List.map_nil, List.replicate, List.cons_append, List.nil_append, t0, ix_tup0, ix_tup1, w1, w2, ij, Bool.false_and, Bool.true_and]
  · cases q3 : shB c with
    | false =>
      rw [q3] at w3
      simp only [R__law_is_sale, F__law_is_sale, u_seq, u_asg, u_call, u_exp, u_if, u_ret, u_setS, u_par, u_nx, nxt_nx, nxt_rt, u_list, u_list0, u_var, u_con, u_bin, u_un1, u_and, u_or, u_chain, u_ite, u_blt, u_tup, u_lst, u_slc, u_opt, u_opt0, im_int, u_nm, u_tgs, u_tgs0, u_tupT, List.getElem?_cons_succ, List.getElem?_cons_zero, bind_ok, thenS_ok, thenI_ok, List.length_cons, List.length_nil, Nat.reduceAdd, Nat.reduceSub, Nat.reduceLT, Nat.reduceLeDiff, Nat.zero_le, if_true, om_some, List.set_cons_succ, List.set_cons_zero, bm_bl, Bool.not_true, Bool.not_false, Bool.false_eq_true, if_false, u_add, u_sub, u_neg, u_not, u_lt, u_le, u_gt, u_ge, u_eqI, u_neI, decide_true, decide_false, u_int, u_intb, methF, List.map_cons, List.map_nil, List.replicate, List.cons_append, List.nil_append, t0, ix_tup0, ix_tup1, ix_tup2, w1, w2, w3, ij, smB_no q3, Bool.and_false, Bool.true_and]
    | true =>
      rw [q3] at w3
      obtain ⟨x, y, rfl⟩ := shB_two q3
      by_cases x0 : 0 < x
      · simp only [R__law_is_sale, F__law_is_sale, u_seq, u_asg, u_call, u_exp, u_if, u_ret, u_setS, u_par, u_nx, nxt_nx, nxt_rt, u_list, u_list0, u_var, u_con, u_bin, u_un1, u_and, u_or, u_chain, u_ite, u_blt, u_tup, u_lst, u_slc, u_opt, u_opt0, im_int, u_nm, u_tgs, u_tgs0, u_tupT, List.getElem?_cons_succ, List.getElem?_cons_zero, bind_ok, thenS_ok, thenI_ok, List.length_cons, List.length_nil, Nat.reduceAdd, Nat.reduceSub, Nat.reduceLT, Nat.reduceLeDiff, Nat.zero_le, if_true, om_some, List.set_cons_succ, List.set_cons_zero, bm_bl, Bool.not_true, Bool.not_false, Bool.false_eq_true, if_false, u_add, u_sub, u_neg, u_not, u_lt, u_le, u_gt, u_ge, u_eqI, u_neI, decide_true, decide_false, u_int, u_intb, methF, List.map_cons, List.map_nil, List.replicate, List.cons_append, List.nil_append, t0, ix_tup0, ix_tup1, ix_tup2, w1, w2, w3, ij, smB, q3, x0, Bool.true_and]
      · simp only [R__law_is_sale, F__law_is_sale, u_seq, u_asg, u_call, u_exp, u_if, u_ret, u_setS, u_par, u_nx, nxt_nx, nxt_rt, u_list, u_list0, u_var, u_con, u_bin, u_un1, u_and, u_or, u_chain, u_ite, u_blt, u_tup, u_lst, u_slc, u_opt, u_opt0, im_int, u_nm, u_tgs, u_tgs0, u_tupT, List.getElem?_cons_succ, List.getElem?_cons_zero, bind_ok, thenS_ok, thenI_ok, List.length_cons, List.length_nil, Nat.reduceAdd, Nat.reduceSub, Nat.reduceLT, Nat.reduceLeDiff, Nat.zero_le, if_true, om_some, List.set_cons_succ, List.set_cons_zero, bm_bl, Bool.not_true, Bool.not_false, Bool.false_eq_true, if_false, u_add, u_sub, u_neg, u_not, u_lt, u_le, u_gt, u_ge, u_eqI, u_neI, decide_true, decide_false, u_int, u_intb, methF, List.map_cons, List.map_nil, List.replicate, List.cons_append, List.nil_append, t0, ix_tup0, ix_tup1, ix_tup2, w1, w2, w3, ij, smB, q3, x0, Bool.true_and, Bool.false_and]
theorem u_eqS {v w : Str} (hv : PyData.strOk v = true) (hw : PyData.strOk w = true) (neg : Bool) (h : Hv) : opEqD neg (.str v) (.str w) h = .ok (.bl (if neg then !decide (v = w) else decide (v = w))) h := by
  have e1 : toP h 60 (.str v) = some (.str v) := by simp [toP, hv]
  have e2 : toP h 60 (.str w) = some (.str w) := by simp [toP, hw]
  have e3 : PyData.eqv (.str v) (.str w) = decide (v = w) := by simp only [PyData.eqv]; rfl
  simp only [opEqD, e1, e2, e3]
theorem Sml.strB {h : Hv} {w : Str} (s : Sml h (.str w)) : PyData.strOk w = true := by cases s; assumption
theorem cut1 {x : D} {xs : List D} {h : Hv} : opSl (.tup (x :: xs)) (some 1) none h = .ok (.tup xs) h := by
  have e : (1 : Int) = ((1 : Nat) : Int) := rfl
  rw [e, u_slT, cut_hi]; rfl
theorem dB_none {P K : Int} {w : Str} {xs : List D} (h : w ∉ wordsL) : dB P K (.tup (.str w :: xs)) = false := by
  simp only [wordsL, List.mem_cons, List.not_mem_nil, or_false, not_or] at h
  obtain ⟨h1, h2, h3, h4, h5, h6, h7⟩ := h
  simp only [dB, h1, h2, h3, h4, h5, h6, h7, if_false]
theorem dB_x {P K : Int} {x : D} {xs : List D} (hx : isStrD x = false) : dB P K (.tup (x :: xs)) = false := by cases x <;> first | rfl | cases hx
def arD (w : Str) : Nat := if w = "bring" then 3 else if w = "pool" then 2 else if w = "swap" then 4 else if w = "trade" then 5 else if w = "spoil" then 2 else if w = "throw" then 3 else if w = "sell" then 3 else 0
theorem arD_1 {y : D} (w : Str) : [y].length ≠ arD w := by
  unfold arD
  (repeat' split) <;> simp
theorem dB_ar {P K : Int} {w : Str} {xs : List D} (h : xs.length ≠ arD w) : dB P K (.tup (.str w :: xs)) = false := by
  unfold arD at h
  simp only [dB]
  split at h
  · rename_i e
    rw [if_pos e]
    split
    · exact absurd rfl h
    · rfl
  rename_i e0
  rw [if_neg e0]
  split at h
  · rename_i e
    rw [if_pos e]
    split
    · exact absurd rfl h
    · rfl
  rename_i e1
  rw [if_neg e1]
  split at h
  · rename_i e
    rw [if_pos e]
    split
    · exact absurd rfl h
    · rfl
  rename_i e2
  rw [if_neg e2]
  split at h
  · rename_i e
    rw [if_pos e]
    split
    · exact absurd rfl h
    · rfl
  rename_i e3
  rw [if_neg e3]
  split at h
  · rename_i e
    rw [if_pos e]
    split
    · exact absurd rfl h
    · rfl
  rename_i e4
  rw [if_neg e4]
  split at h
  · rename_i e
    rw [if_pos e]
    split
    · exact absurd rfl h
    · rfl
  rename_i e5
  rw [if_neg e5]
  split at h
  · rename_i e
    rw [if_pos e]
    split
    · exact absurd rfl h
    · rfl
  rename_i e6
  rw [if_neg e6]
  all_goals try rfl
theorem is_deed_tup (k : Nat) {h : Hv} {tr : D} {P K : Int} (t0 : ∀ h, opIx tr (.int 0) h = .ok (.int P) h) (t1 : ∀ h, opIx tr (.int 1) h = .ok (.int K) h) {x y : D} {xs : List D} (hs : ∀ d ∈ x :: y :: xs, Sml h d) : callK T (k + 6) "is_deed" [tr, .tup (x :: y :: xs)] h = .ok (.bl (dB P K (.tup (x :: y :: xs)))) h := by
  have h1 : isiF "tuple" (.tup (x :: y :: xs)) h = .ok (.bl true) h := rfl
  have ln : bLen [.tup (x :: y :: xs)] h = .ok (.int ((xs.length + 2 : Nat) : Int)) h := rfl
  have sx := (hs x (by simp)).isiS
  by_cases l3 : xs.length = 0
  · have e2 : xs = [] := List.eq_nil_of_length_eq_zero l3
    subst e2
    have ln : bLen [.tup [x, y]] h = .ok (.int 2) h := rfl
    have e : (2 : Int) < 3 := by decide
    have ed : dB P K (.tup [x, y]) = false := by
      cases x <;> try rfl
      exact dB_ar (arD_1 _)
    refine fn_same t_is_deed rfl ?_
    simp only [R_is_deed, F_is_deed, u_seq, u_asg, u_call, u_exp, u_if, u_ret, u_setS, u_par, u_nx, nxt_nx, nxt_rt, u_list, u_list0, u_var, u_con, u_bin, u_un1, u_and, u_or, u_chain, u_ite, u_blt, u_tup, u_lst, u_slc, u_opt, u_opt0, im_int, u_nm, u_tgs, u_tgs0, u_tupT, List.getElem?_cons_succ, List.getElem?_cons_zero, bind_ok, thenS_ok, thenI_ok, List.length_cons, List.length_nil, Nat.reduceAdd, Nat.reduceSub, Nat.reduceLT, Nat.reduceLeDiff, Nat.zero_le, if_true, om_some, List.set_cons_succ, List.set_cons_zero, bm_bl, Bool.not_true, Bool.not_false, Bool.false_eq_true, if_false, u_add, u_sub, u_neg, u_not, u_lt, u_le, u_gt, u_ge, u_eqI, u_neI, decide_true, decide_false, u_int, u_intb, methF, List.map_cons, List.map_nil, List.replicate, List.cons_append, List.nil_append, h1, ln, e, ed]
  have e3 : ¬ ((xs.length + 2 : Nat) : Int) < 3 := by omega
  cases qx : isStrD x with
  | false =>
    rw [qx] at sx
    refine fn_same t_is_deed rfl ?_
    simp only [R_is_deed, F_is_deed, u_seq, u_asg, u_call, u_exp, u_if, u_ret, u_setS, u_par, u_nx, nxt_nx, nxt_rt, u_list, u_list0, u_var, u_con, u_bin, u_un1, u_and, u_or, u_chain, u_ite, u_blt, u_tup, u_lst, u_slc, u_opt, u_opt0, im_int, u_nm, u_tgs, u_tgs0, u_tupT, List.getElem?_cons_succ, List.getElem?_cons_zero, bind_ok, thenS_ok, thenI_ok, List.length_cons, List.length_nil, Nat.reduceAdd, Nat.reduceSub, Nat.reduceLT, Nat.reduceLeDiff, Nat.zero_le, if_true, om_some, List.set_cons_succ, List.set_cons_zero, bm_bl, Bool.not_true, Bool.not_false, Bool.false_eq_true, if_false, u_add, u_sub, u_neg, u_not, u_lt, u_le, u_gt, u_ge, u_eqI, u_neI, decide_true, decide_false, u_int, u_intb, methF, List.map_cons, List.map_nil, List.replicate, List.cons_append, List.nil_append, h1, ln, e3, ix_tup0, sx, dB_x qx]
  | true =>
    rw [qx] at sx
    obtain ⟨w, rfl⟩ : ∃ w, x = .str w := by cases x <;> first | exact ⟨_, rfl⟩ | cases qx
    have sw := (hs (.str w) (by simp)).strB
    have u0 := fun h => u_eqS sw (words_ok "bring" (by simp [wordsL])).1 false h
    have u1 := fun h => u_eqS sw (words_ok "pool" (by simp [wordsL])).1 false h
    have u2 := fun h => u_eqS sw (words_ok "swap" (by simp [wordsL])).1 false h
    have u3 := fun h => u_eqS sw (words_ok "trade" (by simp [wordsL])).1 false h
    have u4 := fun h => u_eqS sw (words_ok "spoil" (by simp [wordsL])).1 false h
    have u5 := fun h => u_eqS sw (words_ok "throw" (by simp [wordsL])).1 false h
    have u6 := fun h => u_eqS sw (words_ok "sell" (by simp [wordsL])).1 false h
    have c1 : opSl (.tup (.str w :: y :: xs)) (some 1) none h = .ok (.tup (y :: xs)) h := cut1
    have l2 : bLen [.tup (y :: xs)] h = .ok (.int ((xs.length + 1 : Nat) : Int)) h := rfl
    have hs' : ∀ d ∈ y :: xs, Sml h d := fun d hd => hs d (List.mem_cons_of_mem _ hd)
    generalize hys : y :: xs = ys at *
    have ly : (xs.length + 1 : Nat) = ys.length := by rw [← hys]; rfl
    rw [ly] at l2
    refine fn_same t_is_deed rfl ?_
    by_cases ar : ys.length = arD w
    rotate_left
    · rw [dB_ar ar]
      by_cases hw0 : w = "bring"
      · have na : ¬ ((ys.length : Nat) : Int) = 3 := by
          rw [hw0] at ar
          have e : arD "bring" = 3 := by decide
          rw [e] at ar
          omega
        have g0 : decide (w = "bring") = true := by rw [hw0]; rfl
        have g1 : decide (w = "pool") = false := by rw [hw0]; decide
        have g2 : decide (w = "swap") = false := by rw [hw0]; decide
        have g3 : decide (w = "trade") = false := by rw [hw0]; decide
        have g4 : decide (w = "spoil") = false := by rw [hw0]; decide
        have g5 : decide (w = "throw") = false := by rw [hw0]; decide
        have g6 : decide (w = "sell") = false := by rw [hw0]; decide
        simp only [R_is_deed, F_is_deed, u_seq, u_asg, u_call, u_exp, u_if, u_ret, u_setS, u_par, u_nx, nxt_nx, nxt_rt, u_list, u_list0, u_var, u_con, u_bin, u_un1, u_and, u_or, u_chain, u_ite, u_blt, u_tup, u_lst, u_slc, u_opt, u_opt0, im_int, u_nm, u_tgs, u_tgs0, u_tupT, List.getElem?_cons_succ, List.getElem?_cons_zero, bind_ok, thenS_ok, thenI_ok, List.length_cons, List.length_nil, Nat.reduceAdd, Nat.reduceSub, Nat.reduceLT, Nat.reduceLeDiff, Nat.zero_le, if_true, om_some, List.set_cons_succ, List.set_cons_zero, bm_bl, Bool.not_true, Bool.not_false, Bool.false_eq_true, if_false, u_add, u_sub, u_neg, u_not, u_lt, u_le, u_gt, u_ge, u_eqI, u_neI, decide_true, decide_false, u_int, u_intb, methF, List.map_cons, List.map_nil, List.replicate, List.cons_append, List.nil_append, h1, ln, e3, ix_tup0, sx, c1, l2, u0, u1, u2, u3, u4, u5, u6, Bool.false_eq_true, if_false, and_self, g0, g1, g2, g3, g4, g5, g6, na]
      by_cases hw1 : w = "pool"
      · have na : ¬ ((ys.length : Nat) : Int) = 2 := by
          rw [hw1] at ar
          have e : arD "pool" = 2 := by decide
          rw [e] at ar
          omega
        have g0 : decide (w = "bring") = false := by rw [hw1]; decide
        have g1 : decide (w = "pool") = true := by rw [hw1]; rfl
        have g2 : decide (w = "swap") = false := by rw [hw1]; decide
        have g3 : decide (w = "trade") = false := by rw [hw1]; decide
        have g4 : decide (w = "spoil") = false := by rw [hw1]; decide
        have g5 : decide (w = "throw") = false := by rw [hw1]; decide
        have g6 : decide (w = "sell") = false := by rw [hw1]; decide
        simp only [R_is_deed, F_is_deed, u_seq, u_asg, u_call, u_exp, u_if, u_ret, u_setS, u_par, u_nx, nxt_nx, nxt_rt, u_list, u_list0, u_var, u_con, u_bin, u_un1, u_and, u_or, u_chain, u_ite, u_blt, u_tup, u_lst, u_slc, u_opt, u_opt0, im_int, u_nm, u_tgs, u_tgs0, u_tupT, List.getElem?_cons_succ, List.getElem?_cons_zero, bind_ok, thenS_ok, thenI_ok, List.length_cons, List.length_nil, Nat.reduceAdd, Nat.reduceSub, Nat.reduceLT, Nat.reduceLeDiff, Nat.zero_le, if_true, om_some, List.set_cons_succ, List.set_cons_zero, bm_bl, Bool.not_true, Bool.not_false, Bool.false_eq_true, if_false, u_add, u_sub, u_neg, u_not, u_lt, u_le, u_gt, u_ge, u_eqI, u_neI, decide_true, decide_false, u_int, u_intb, methF, List.map_cons, List.map_nil, List.replicate, List.cons_append, List.nil_append, h1, ln, e3, ix_tup0, sx, c1, l2, u0, u1, u2, u3, u4, u5, u6, Bool.false_eq_true, if_false, and_self, g0, g1, g2, g3, g4, g5, g6, na]
      by_cases hw2 : w = "swap"
      · have na : ¬ ((ys.length : Nat) : Int) = 4 := by
          rw [hw2] at ar
          have e : arD "swap" = 4 := by decide
          rw [e] at ar
          omega
        have g0 : decide (w = "bring") = false := by rw [hw2]; decide
        have g1 : decide (w = "pool") = false := by rw [hw2]; decide
        have g2 : decide (w = "swap") = true := by rw [hw2]; rfl
        have g3 : decide (w = "trade") = false := by rw [hw2]; decide
        have g4 : decide (w = "spoil") = false := by rw [hw2]; decide
        have g5 : decide (w = "throw") = false := by rw [hw2]; decide
        have g6 : decide (w = "sell") = false := by rw [hw2]; decide
        simp only [R_is_deed, F_is_deed, u_seq, u_asg, u_call, u_exp, u_if, u_ret, u_setS, u_par, u_nx, nxt_nx, nxt_rt, u_list, u_list0, u_var, u_con, u_bin, u_un1, u_and, u_or, u_chain, u_ite, u_blt, u_tup, u_lst, u_slc, u_opt, u_opt0, im_int, u_nm, u_tgs, u_tgs0, u_tupT, List.getElem?_cons_succ, List.getElem?_cons_zero, bind_ok, thenS_ok, thenI_ok, List.length_cons, List.length_nil, Nat.reduceAdd, Nat.reduceSub, Nat.reduceLT, Nat.reduceLeDiff, Nat.zero_le, if_true, om_some, List.set_cons_succ, List.set_cons_zero, bm_bl, Bool.not_true, Bool.not_false, Bool.false_eq_true, if_false, u_add, u_sub, u_neg, u_not, u_lt, u_le, u_gt, u_ge, u_eqI, u_neI, decide_true, decide_false, u_int, u_intb, methF, List.map_cons, List.map_nil, List.replicate, List.cons_append, List.nil_append, h1, ln, e3, ix_tup0, sx, c1, l2, u0, u1, u2, u3, u4, u5, u6, Bool.false_eq_true, if_false, and_self, g0, g1, g2, g3, g4, g5, g6, na]
      by_cases hw3 : w = "trade"
      · have na : ¬ ((ys.length : Nat) : Int) = 5 := by
          rw [hw3] at ar
          have e : arD "trade" = 5 := by decide
          rw [e] at ar
          omega
        have g0 : decide (w = "bring") = false := by rw [hw3]; decide
        have g1 : decide (w = "pool") = false := by rw [hw3]; decide
        have g2 : decide (w = "swap") = false := by rw [hw3]; decide
        have g3 : decide (w = "trade") = true := by rw [hw3]; rfl
        have g4 : decide (w = "spoil") = false := by rw [hw3]; decide
        have g5 : decide (w = "throw") = false := by rw [hw3]; decide
        have g6 : decide (w = "sell") = false := by rw [hw3]; decide
        simp only [R_is_deed, F_is_deed, u_seq, u_asg, u_call, u_exp, u_if, u_ret, u_setS, u_par, u_nx, nxt_nx, nxt_rt, u_list, u_list0, u_var, u_con, u_bin, u_un1, u_and, u_or, u_chain, u_ite, u_blt, u_tup, u_lst, u_slc, u_opt, u_opt0, im_int, u_nm, u_tgs, u_tgs0, u_tupT, List.getElem?_cons_succ, List.getElem?_cons_zero, bind_ok, thenS_ok, thenI_ok, List.length_cons, List.length_nil, Nat.reduceAdd, Nat.reduceSub, Nat.reduceLT, Nat.reduceLeDiff, Nat.zero_le, if_true, om_some, List.set_cons_succ, List.set_cons_zero, bm_bl, Bool.not_true, Bool.not_false, Bool.false_eq_true, if_false, u_add, u_sub, u_neg, u_not, u_lt, u_le, u_gt, u_ge, u_eqI, u_neI, decide_true, decide_false, u_int, u_intb, methF, List.map_cons, List.map_nil, List.replicate, List.cons_append, List.nil_append, h1, ln, e3, ix_tup0, sx, c1, l2, u0, u1, u2, u3, u4, u5, u6, Bool.false_eq_true, if_false, and_self, g0, g1, g2, g3, g4, g5, g6, na]
      by_cases hw4 : w = "spoil"
      · have na : ¬ ((ys.length : Nat) : Int) = 2 := by
          rw [hw4] at ar
          have e : arD "spoil" = 2 := by decide
          rw [e] at ar
          omega
        have g0 : decide (w = "bring") = false := by rw [hw4]; decide
        have g1 : decide (w = "pool") = false := by rw [hw4]; decide
        have g2 : decide (w = "swap") = false := by rw [hw4]; decide
        have g3 : decide (w = "trade") = false := by rw [hw4]; decide
        have g4 : decide (w = "spoil") = true := by rw [hw4]; rfl
        have g5 : decide (w = "throw") = false := by rw [hw4]; decide
        have g6 : decide (w = "sell") = false := by rw [hw4]; decide
        simp only [R_is_deed, F_is_deed, u_seq, u_asg, u_call, u_exp, u_if, u_ret, u_setS, u_par, u_nx, nxt_nx, nxt_rt, u_list, u_list0, u_var, u_con, u_bin, u_un1, u_and, u_or, u_chain, u_ite, u_blt, u_tup, u_lst, u_slc, u_opt, u_opt0, im_int, u_nm, u_tgs, u_tgs0, u_tupT, List.getElem?_cons_succ, List.getElem?_cons_zero, bind_ok, thenS_ok, thenI_ok, List.length_cons, List.length_nil, Nat.reduceAdd, Nat.reduceSub, Nat.reduceLT, Nat.reduceLeDiff, Nat.zero_le, if_true, om_some, List.set_cons_succ, List.set_cons_zero, bm_bl, Bool.not_true, Bool.not_false, Bool.false_eq_true, if_false, u_add, u_sub, u_neg, u_not, u_lt, u_le, u_gt, u_ge, u_eqI, u_neI, decide_true, decide_false, u_int, u_intb, methF, List.map_cons, List.map_nil, List.replicate, List.cons_append, List.nil_append, h1, ln, e3, ix_tup0, sx, c1, l2, u0, u1, u2, u3, u4, u5, u6, Bool.false_eq_true, if_false, and_self, g0, g1, g2, g3, g4, g5, g6, na]
      by_cases hw5 : w = "throw"
      · have na : ¬ ((ys.length : Nat) : Int) = 3 := by
          rw [hw5] at ar
          have e : arD "throw" = 3 := by decide
          rw [e] at ar
          omega
        have g0 : decide (w = "bring") = false := by rw [hw5]; decide
        have g1 : decide (w = "pool") = false := by rw [hw5]; decide
        have g2 : decide (w = "swap") = false := by rw [hw5]; decide
        have g3 : decide (w = "trade") = false := by rw [hw5]; decide
        have g4 : decide (w = "spoil") = false := by rw [hw5]; decide
        have g5 : decide (w = "throw") = true := by rw [hw5]; rfl
        have g6 : decide (w = "sell") = false := by rw [hw5]; decide
        simp only [R_is_deed, F_is_deed, u_seq, u_asg, u_call, u_exp, u_if, u_ret, u_setS, u_par, u_nx, nxt_nx, nxt_rt, u_list, u_list0, u_var, u_con, u_bin, u_un1, u_and, u_or, u_chain, u_ite, u_blt, u_tup, u_lst, u_slc, u_opt, u_opt0, im_int, u_nm, u_tgs, u_tgs0, u_tupT, List.getElem?_cons_succ, List.getElem?_cons_zero, bind_ok, thenS_ok, thenI_ok, List.length_cons, List.length_nil, Nat.reduceAdd, Nat.reduceSub, Nat.reduceLT, Nat.reduceLeDiff, Nat.zero_le, if_true, om_some, List.set_cons_succ, List.set_cons_zero, bm_bl, Bool.not_true, Bool.not_false, Bool.false_eq_true, if_false, u_add, u_sub, u_neg, u_not, u_lt, u_le, u_gt, u_ge, u_eqI, u_neI, decide_true, decide_false, u_int, u_intb, methF, List.map_cons, List.map_nil, List.replicate, List.cons_append, List.nil_append, h1, ln, e3, ix_tup0, sx, c1, l2, u0, u1, u2, u3, u4, u5, u6, Bool.false_eq_true, if_false, and_self, g0, g1, g2, g3, g4, g5, g6, na]
      by_cases hw6 : w = "sell"
      · have na : ¬ ((ys.length : Nat) : Int) = 3 := by
          rw [hw6] at ar
          have e : arD "sell" = 3 := by decide
          rw [e] at ar
          omega
        have g0 : decide (w = "bring") = false := by rw [hw6]; decide
        have g1 : decide (w = "pool") = false := by rw [hw6]; decide
        have g2 : decide (w = "swap") = false := by rw [hw6]; decide
        have g3 : decide (w = "trade") = false := by rw [hw6]; decide
        have g4 : decide (w = "spoil") = false := by rw [hw6]; decide
        have g5 : decide (w = "throw") = false := by rw [hw6]; decide
        have g6 : decide (w = "sell") = true := by rw [hw6]; rfl
        simp only [R_is_deed, F_is_deed, u_seq, u_asg, u_call, u_exp, u_if, u_ret, u_setS, u_par, u_nx, nxt_nx, nxt_rt, u_list, u_list0, u_var, u_con, u_bin, u_un1, u_and, u_or, u_chain, u_ite, u_blt, u_tup, u_lst, u_slc, u_opt, u_opt0, im_int, u_nm, u_tgs, u_tgs0, u_tupT, List.getElem?_cons_succ, List.getElem?_cons_zero, bind_ok, thenS_ok, thenI_ok, List.length_cons, List.length_nil, Nat.reduceAdd, Nat.reduceSub, Nat.reduceLT, Nat.reduceLeDiff, Nat.zero_le, if_true, om_some, List.set_cons_succ, List.set_cons_zero, bm_bl, Bool.not_true, Bool.not_false, Bool.false_eq_true, if_false, u_add, u_sub, u_neg, u_not, u_lt, u_le, u_gt, u_ge, u_eqI, u_neI, decide_true, decide_false, u_int, u_intb, methF, List.map_cons, List.map_nil, List.replicate, List.cons_append, List.nil_append, h1, ln, e3, ix_tup0, sx, c1, l2, u0, u1, u2, u3, u4, u5, u6, Bool.false_eq_true, if_false, and_self, g0, g1, g2, g3, g4, g5, g6, na]
      have g0 : decide (w = "bring") = false := by exact decide_eq_false hw0
      have g1 : decide (w = "pool") = false := by exact decide_eq_false hw1
      have g2 : decide (w = "swap") = false := by exact decide_eq_false hw2
      have g3 : decide (w = "trade") = false := by exact decide_eq_false hw3
      have g4 : decide (w = "spoil") = false := by exact decide_eq_false hw4
      have g5 : decide (w = "throw") = false := by exact decide_eq_false hw5
      have g6 : decide (w = "sell") = false := by exact decide_eq_false hw6
      simp only [R_is_deed, F_is_deed, u_seq, u_asg, u_call, u_exp, u_if, u_ret, u_setS, u_par, u_nx, nxt_nx, nxt_rt, u_list, u_list0, u_var, u_con, u_bin, u_un1, u_and, u_or, u_chain, u_ite, u_blt, u_tup, u_lst, u_slc, u_opt, u_opt0, im_int, u_nm, u_tgs, u_tgs0, u_tupT, List.getElem?_cons_succ, List.getElem?_cons_zero, bind_ok, thenS_ok, thenI_ok, List.length_cons, List.length_nil, Nat.reduceAdd, Nat.reduceSub, Nat.reduceLT, Nat.reduceLeDiff, Nat.zero_le, if_true, om_some, List.set_cons_succ, List.set_cons_zero, bm_bl, Bool.not_true, Bool.not_false, Bool.false_eq_true, if_false, u_add, u_sub, u_neg, u_not, u_lt, u_le, u_gt, u_ge, u_eqI, u_neI, decide_true, decide_false, u_int, u_intb, methF, List.map_cons, List.map_nil, List.replicate, List.cons_append, List.nil_append, h1, ln, e3, ix_tup0, sx, c1, l2, u0, u1, u2, u3, u4, u5, u6, Bool.false_eq_true, if_false, and_self, g0, g1, g2, g3, g4, g5, g6]
    by_cases hw0 : w = "bring"
    · have e : arD w = 3 := by rw [hw0]; decide
      rw [e] at ar
      obtain ⟨a, b, c, rfl⟩ := len3 ar
      have g0 : decide (w = "bring") = true := by rw [hw0]; rfl
      have g1 : decide (w = "pool") = false := by rw [hw0]; decide
      have g2 : decide (w = "swap") = false := by rw [hw0]; decide
      have g3 : decide (w = "trade") = false := by rw [hw0]; decide
      have g4 : decide (w = "spoil") = false := by rw [hw0]; decide
      have g5 : decide (w = "throw") = false := by rw [hw0]; decide
      have g6 : decide (w = "sell") = false := by rw [hw0]; decide
      have l2 : bLen [.tup [a, b, c]] h = .ok (.int 3) h := rfl
      have ed : dB P K (.tup [.str w, a, b, c]) = (inB 0 (some (P - 1)) a && (inB 0 (some (K - 1)) b && inB 1 none c)) := by rw [hw0]; rfl
      rw [ed]
      have w1 := is_partner_any (k + 2) t0 (hs' a (by simp))
      have w2 := is_within_any (k + 3) (hs' b (by simp)) 0 (K - 1)
      have w3 := is_from_any (k + 3) (hs' c (by simp)) 1
      generalize inB 0 (some (P - 1)) a = x1 at *
      generalize inB 0 (some (K - 1)) b = x2 at *
      generalize inB 1 none c = x3 at *
      cases x1 <;> cases x2 <;> simp only [R_is_deed, F_is_deed, u_seq, u_asg, u_call, u_exp, u_if, u_ret, u_setS, u_par, u_nx, nxt_nx, nxt_rt, u_list, u_list0, u_var, u_con, u_bin, u_un1, u_and, u_or, u_chain, u_ite, u_blt, u_tup, u_lst, u_slc, u_opt, u_opt0, im_int, u_nm, u_tgs, u_tgs0, u_tupT, List.getElem?_cons_succ, List.getElem?_cons_zero, bind_ok, thenS_ok, thenI_ok, List.length_cons, List.length_nil, Nat.reduceAdd, Nat.reduceSub, Nat.reduceLT, Nat.reduceLeDiff, Nat.zero_le, if_true, om_some, List.set_cons_succ, List.set_cons_zero, bm_bl, Bool.not_true, Bool.not_false, Bool.false_eq_true, if_false, u_add, u_sub, u_neg, u_not, u_lt, u_le, u_gt, u_ge, u_eqI, u_neI, decide_true, decide_false, u_int, u_intb, methF, List.map_cons, List.map_nil, List.replicate, List.cons_append, List.nil_append, h1, ln, e3, ix_tup0, ix_tup1, ix_tup2, sx, c1, l2, u0, u1, u2, u3, u4, u5, u6, Bool.false_eq_true, if_false, and_self, g0, g1, g2, g3, g4, g5, g6, t0, t1, w1, w2, w3, Bool.true_and, Bool.false_and]
    by_cases hw1 : w = "pool"
    · have e : arD w = 2 := by rw [hw1]; decide
      rw [e] at ar
      obtain ⟨a, b, rfl⟩ := len2 ar
      have g0 : decide (w = "bring") = false := by rw [hw1]; decide
      have g1 : decide (w = "pool") = true := by rw [hw1]; rfl
      have g2 : decide (w = "swap") = false := by rw [hw1]; decide
      have g3 : decide (w = "trade") = false := by rw [hw1]; decide
      have g4 : decide (w = "spoil") = false := by rw [hw1]; decide
      have g5 : decide (w = "throw") = false := by rw [hw1]; decide
      have g6 : decide (w = "sell") = false := by rw [hw1]; decide
      have l2 : bLen [.tup [a, b]] h = .ok (.int 2) h := rfl
      have ed : dB P K (.tup [.str w, a, b]) = (inB 0 none a && (inB 0 none b && !decide (a = b))) := by rw [hw1]; rfl
      rw [ed]
      have w1 := is_from_any (k + 3) (hs' a (by simp)) 0
      have w2 := is_from_any (k + 3) (hs' b (by simp)) 0
      cases q1 : inB 0 none a <;> rw [q1] at w1 <;> try (simp only [R_is_deed, F_is_deed, u_seq, u_asg, u_call, u_exp, u_if, u_ret, u_setS, u_par, u_nx, nxt_nx, nxt_rt, u_list, u_list0, u_var, u_con, u_bin, u_un1, u_and, u_or, u_chain, u_ite, u_blt, u_tup, u_lst, u_slc, u_opt, u_opt0, im_int, u_nm, u_tgs, u_tgs0, u_tupT, List.getElem?_cons_succ, List.getElem?_cons_zero, bind_ok, thenS_ok, thenI_ok, List.length_cons, List.length_nil, Nat.reduceAdd, Nat.reduceSub, Nat.reduceLT, Nat.reduceLeDiff, Nat.zero_le, if_true, om_some, List.set_cons_succ, List.set_cons_zero, bm_bl, Bool.not_true, Bool.not_false, Bool.false_eq_true, if_false, u_add, u_sub, u_neg, u_not, u_lt, u_le, u_gt, u_ge, u_eqI, u_neI, decide_true, decide_false, u_int, u_intb, methF, List.map_cons, List.map_nil, List.replicate, List.cons_append, List.nil_append, h1, ln, e3, ix_tup0, ix_tup1, ix_tup2, sx, c1, l2, u0, u1, u2, u3, u4, u5, u6, Bool.false_eq_true, if_false, and_self, g0, g1, g2, g3, g4, g5, g6, t0, t1, w1, Bool.false_and]; done)
      cases q2 : inB 0 none b <;> rw [q2] at w2 <;> try (simp only [R_is_deed, F_is_deed, u_seq, u_asg, u_call, u_exp, u_if, u_ret, u_setS, u_par, u_nx, nxt_nx, nxt_rt, u_list, u_list0, u_var, u_con, u_bin, u_un1, u_and, u_or, u_chain, u_ite, u_blt, u_tup, u_lst, u_slc, u_opt, u_opt0, im_int, u_nm, u_tgs, u_tgs0, u_tupT, List.getElem?_cons_succ, List.getElem?_cons_zero, bind_ok, thenS_ok, thenI_ok, List.length_cons, List.length_nil, Nat.reduceAdd, Nat.reduceSub, Nat.reduceLT, Nat.reduceLeDiff, Nat.zero_le, if_true, om_some, List.set_cons_succ, List.set_cons_zero, bm_bl, Bool.not_true, Bool.not_false, Bool.false_eq_true, if_false, u_add, u_sub, u_neg, u_not, u_lt, u_le, u_gt, u_ge, u_eqI, u_neI, decide_true, decide_false, u_int, u_intb, methF, List.map_cons, List.map_nil, List.replicate, List.cons_append, List.nil_append, h1, ln, e3, ix_tup0, ix_tup1, ix_tup2, sx, c1, l2, u0, u1, u2, u3, u4, u5, u6, Bool.false_eq_true, if_false, and_self, g0, g1, g2, g3, g4, g5, g6, t0, t1, w1, w2, Bool.true_and, Bool.false_and]; done)
      obtain ⟨i, rfl⟩ := inB_int q1
      obtain ⟨j, rfl⟩ := inB_int q2
      simp only [R_is_deed, F_is_deed, u_seq, u_asg, u_call, u_exp, u_if, u_ret, u_setS, u_par, u_nx, nxt_nx, nxt_rt, u_list, u_list0, u_var, u_con, u_bin, u_un1, u_and, u_or, u_chain, u_ite, u_blt, u_tup, u_lst, u_slc, u_opt, u_opt0, im_int, u_nm, u_tgs, u_tgs0, u_tupT, List.getElem?_cons_succ, List.getElem?_cons_zero, bind_ok, thenS_ok, thenI_ok, List.length_cons, List.length_nil, Nat.reduceAdd, Nat.reduceSub, Nat.reduceLT, Nat.reduceLeDiff, Nat.zero_le, if_true, om_some, List.set_cons_succ, List.set_cons_zero, bm_bl, Bool.not_true, Bool.not_false, Bool.false_eq_true, if_false, u_add, u_sub, u_neg, u_not, u_lt, u_le, u_gt, u_ge, u_eqI, u_neI, decide_true, decide_false, u_int, u_intb, methF, List.map_cons, List.map_nil, List.replicate, List.cons_append, List.nil_append, h1, ln, e3, ix_tup0, ix_tup1, ix_tup2, sx, c1, l2, u0, u1, u2, u3, u4, u5, u6, Bool.false_eq_true, if_false, and_self, g0, g1, g2, g3, g4, g5, g6, t0, t1, w1, w2, int_eqD, Bool.true_and]
    by_cases hw2 : w = "swap"
    · have e : arD w = 4 := by rw [hw2]; decide
      rw [e] at ar
      obtain ⟨a, b, c, d, rfl⟩ := len4 ar
      have g0 : decide (w = "bring") = false := by rw [hw2]; decide
      have g1 : decide (w = "pool") = false := by rw [hw2]; decide
      have g2 : decide (w = "swap") = true := by rw [hw2]; rfl
      have g3 : decide (w = "trade") = false := by rw [hw2]; decide
      have g4 : decide (w = "spoil") = false := by rw [hw2]; decide
      have g5 : decide (w = "throw") = false := by rw [hw2]; decide
      have g6 : decide (w = "sell") = false := by rw [hw2]; decide
      have l2 : bLen [.tup [a, b, c, d]] h = .ok (.int 4) h := rfl
      have ed : dB P K (.tup [.str w, a, b, c, d]) = swB K a b c d := by rw [hw2]; rfl
      rw [ed]
      have w1 := is_swapping_any (k + 2) t1 (hs' a (by simp)) (hs' b (by simp)) (hs' c (by simp)) (hs' d (by simp))
      simp only [R_is_deed, F_is_deed, u_seq, u_asg, u_call, u_exp, u_if, u_ret, u_setS, u_par, u_nx, nxt_nx, nxt_rt, u_list, u_list0, u_var, u_con, u_bin, u_un1, u_and, u_or, u_chain, u_ite, u_blt, u_tup, u_lst, u_slc, u_opt, u_opt0, im_int, u_nm, u_tgs, u_tgs0, u_tupT, List.getElem?_cons_succ, List.getElem?_cons_zero, bind_ok, thenS_ok, thenI_ok, List.length_cons, List.length_nil, Nat.reduceAdd, Nat.reduceSub, Nat.reduceLT, Nat.reduceLeDiff, Nat.zero_le, if_true, om_some, List.set_cons_succ, List.set_cons_zero, bm_bl, Bool.not_true, Bool.not_false, Bool.false_eq_true, if_false, u_add, u_sub, u_neg, u_not, u_lt, u_le, u_gt, u_ge, u_eqI, u_neI, decide_true, decide_false, u_int, u_intb, methF, List.map_cons, List.map_nil, List.replicate, List.cons_append, List.nil_append, h1, ln, e3, ix_tup0, ix_tup1, ix_tup2, sx, c1, l2, u0, u1, u2, u3, u4, u5, u6, Bool.false_eq_true, if_false, and_self, g0, g1, g2, g3, g4, g5, g6, t0, t1, w1]
    by_cases hw3 : w = "trade"
    · have e : arD w = 5 := by rw [hw3]; decide
      rw [e] at ar
      obtain ⟨a, b, c, d, e, rfl⟩ := len5 ar
      have g0 : decide (w = "bring") = false := by rw [hw3]; decide
      have g1 : decide (w = "pool") = false := by rw [hw3]; decide
      have g2 : decide (w = "swap") = false := by rw [hw3]; decide
      have g3 : decide (w = "trade") = true := by rw [hw3]; rfl
      have g4 : decide (w = "spoil") = false := by rw [hw3]; decide
      have g5 : decide (w = "throw") = false := by rw [hw3]; decide
      have g6 : decide (w = "sell") = false := by rw [hw3]; decide
      have l2 : bLen [.tup [a, b, c, d, e]] h = .ok (.int 5) h := rfl
      have ed : dB P K (.tup [.str w, a, b, c, d, e]) = (inB 0 (some 9) a && swB K b c d e) := by rw [hw3]; rfl
      rw [ed]
      have w1 := is_within_any (k + 3) (hs' a (by simp)) 0 9
      have w2 := is_swapping_any (k + 2) t1 (hs' b (by simp)) (hs' c (by simp)) (hs' d (by simp)) (hs' e (by simp))
      have c2 : opSl (.tup [a, b, c, d, e]) (some 1) none h = .ok (.tup [b, c, d, e]) h := cut1
      cases q1 : inB 0 (some 9) a <;> rw [q1] at w1 <;> simp only [R_is_deed, F_is_deed, u_seq, u_asg, u_call, u_exp, u_if, u_ret, u_setS, u_par, u_nx, nxt_nx, nxt_rt, u_list, u_list0, u_var, u_con, u_bin, u_un1, u_and, u_or, u_chain, u_ite, u_blt, u_tup, u_lst, u_slc, u_opt, u_opt0, im_int, u_nm, u_tgs, u_tgs0, u_tupT, List.getElem?_cons_succ, List.getElem?_cons_zero, bind_ok, thenS_ok, thenI_ok, List.length_cons, List.length_nil, Nat.reduceAdd, Nat.reduceSub, Nat.reduceLT, Nat.reduceLeDiff, Nat.zero_le, if_true, om_some, List.set_cons_succ, List.set_cons_zero, bm_bl, Bool.not_true, Bool.not_false, Bool.false_eq_true, if_false, u_add, u_sub, u_neg, u_not, u_lt, u_le, u_gt, u_ge, u_eqI, u_neI, decide_true, decide_false, u_int, u_intb, methF, List.map_cons, List.map_nil, List.replicate, List.cons_append, List.nil_append, h1, ln, e3, ix_tup0, ix_tup1, ix_tup2, sx, c1, l2, u0, u1, u2, u3, u4, u5, u6, Bool.false_eq_true, if_false, and_self, g0, g1, g2, g3, g4, g5, g6, t0, t1, w1, w2, c2, Bool.true_and, Bool.false_and]
    by_cases hw4 : w = "spoil"
    · have e : arD w = 2 := by rw [hw4]; decide
      rw [e] at ar
      obtain ⟨a, b, rfl⟩ := len2 ar
      have g0 : decide (w = "bring") = false := by rw [hw4]; decide
      have g1 : decide (w = "pool") = false := by rw [hw4]; decide
      have g2 : decide (w = "swap") = false := by rw [hw4]; decide
      have g3 : decide (w = "trade") = false := by rw [hw4]; decide
      have g4 : decide (w = "spoil") = true := by rw [hw4]; rfl
      have g5 : decide (w = "throw") = false := by rw [hw4]; decide
      have g6 : decide (w = "sell") = false := by rw [hw4]; decide
      have l2 : bLen [.tup [a, b]] h = .ok (.int 2) h := rfl
      have ed : dB P K (.tup [.str w, a, b]) = (inB 0 none a && inB 1 none b) := by rw [hw4]; rfl
      rw [ed]
      have w1 := is_from_any (k + 3) (hs' a (by simp)) 0
      have w2 := is_from_any (k + 3) (hs' b (by simp)) 1
      cases q1 : inB 0 none a <;> rw [q1] at w1 <;> simp only [R_is_deed, F_is_deed, u_seq, u_asg, u_call, u_exp, u_if, u_ret, u_setS, u_par, u_nx, nxt_nx, nxt_rt, u_list, u_list0, u_var, u_con, u_bin, u_un1, u_and, u_or, u_chain, u_ite, u_blt, u_tup, u_lst, u_slc, u_opt, u_opt0, im_int, u_nm, u_tgs, u_tgs0, u_tupT, List.getElem?_cons_succ, List.getElem?_cons_zero, bind_ok, thenS_ok, thenI_ok, List.length_cons, List.length_nil, Nat.reduceAdd, Nat.reduceSub, Nat.reduceLT, Nat.reduceLeDiff, Nat.zero_le, if_true, om_some, List.set_cons_succ, List.set_cons_zero, bm_bl, Bool.not_true, Bool.not_false, Bool.false_eq_true, if_false, u_add, u_sub, u_neg, u_not, u_lt, u_le, u_gt, u_ge, u_eqI, u_neI, decide_true, decide_false, u_int, u_intb, methF, List.map_cons, List.map_nil, List.replicate, List.cons_append, List.nil_append, h1, ln, e3, ix_tup0, ix_tup1, ix_tup2, sx, c1, l2, u0, u1, u2, u3, u4, u5, u6, Bool.false_eq_true, if_false, and_self, g0, g1, g2, g3, g4, g5, g6, t0, t1, w1, w2, Bool.true_and, Bool.false_and]
    by_cases hw5 : w = "throw"
    · have e : arD w = 3 := by rw [hw5]; decide
      rw [e] at ar
      obtain ⟨a, b, c, rfl⟩ := len3 ar
      have g0 : decide (w = "bring") = false := by rw [hw5]; decide
      have g1 : decide (w = "pool") = false := by rw [hw5]; decide
      have g2 : decide (w = "swap") = false := by rw [hw5]; decide
      have g3 : decide (w = "trade") = false := by rw [hw5]; decide
      have g4 : decide (w = "spoil") = false := by rw [hw5]; decide
      have g5 : decide (w = "throw") = true := by rw [hw5]; rfl
      have g6 : decide (w = "sell") = false := by rw [hw5]; decide
      have l2 : bLen [.tup [a, b, c]] h = .ok (.int 3) h := rfl
      have ed : dB P K (.tup [.str w, a, b, c]) = (inB 0 none a && (inB 1 none b && wsB (K + 1) c)) := by rw [hw5]; rfl
      rw [ed]
      have w1 := is_from_any (k + 3) (hs' a (by simp)) 0
      have w2 := is_from_any (k + 3) (hs' b (by simp)) 1
      have w3 := are_worths_any (k + 2) (hs' c (by simp)) (K + 1)
      cases q1 : inB 0 none a <;> rw [q1] at w1 <;> try (simp only [R_is_deed, F_is_deed, u_seq, u_asg, u_call, u_exp, u_if, u_ret, u_setS, u_par, u_nx, nxt_nx, nxt_rt, u_list, u_list0, u_var, u_con, u_bin, u_un1, u_and, u_or, u_chain, u_ite, u_blt, u_tup, u_lst, u_slc, u_opt, u_opt0, im_int, u_nm, u_tgs, u_tgs0, u_tupT, List.getElem?_cons_succ, List.getElem?_cons_zero, bind_ok, thenS_ok, thenI_ok, List.length_cons, List.length_nil, Nat.reduceAdd, Nat.reduceSub, Nat.reduceLT, Nat.reduceLeDiff, Nat.zero_le, if_true, om_some, List.set_cons_succ, List.set_cons_zero, bm_bl, Bool.not_true, Bool.not_false, Bool.false_eq_true, if_false, u_add, u_sub, u_neg, u_not, u_lt, u_le, u_gt, u_ge, u_eqI, u_neI, decide_true, decide_false, u_int, u_intb, methF, List.map_cons, List.map_nil, List.replicate, List.cons_append, List.nil_append, h1, ln, e3, ix_tup0, ix_tup1, ix_tup2, sx, c1, l2, u0, u1, u2, u3, u4, u5, u6, Bool.false_eq_true, if_false, and_self, g0, g1, g2, g3, g4, g5, g6, t0, t1, w1, Bool.false_and]; done)
      cases q2 : inB 1 none b <;> rw [q2] at w2 <;> simp only [R_is_deed, F_is_deed, u_seq, u_asg, u_call, u_exp, u_if, u_ret, u_setS, u_par, u_nx, nxt_nx, nxt_rt, u_list, u_list0, u_var, u_con, u_bin, u_un1, u_and, u_or, u_chain, u_ite, u_blt, u_tup, u_lst, u_slc, u_opt, u_opt0, im_int, u_nm, u_tgs, u_tgs0, u_tupT, List.getElem?_cons_succ, List.getElem?_cons_zero, bind_ok, thenS_ok, thenI_ok, List.length_cons, List.length_nil, Nat.reduceAdd, Nat.reduceSub, Nat.reduceLT, Nat.reduceLeDiff, Nat.zero_le, if_true, om_some, List.set_cons_succ, List.set_cons_zero, bm_bl, Bool.not_true, Bool.not_false, Bool.false_eq_true, if_false, u_add, u_sub, u_neg, u_not, u_lt, u_le, u_gt, u_ge, u_eqI, u_neI, decide_true, decide_false, u_int, u_intb, methF, List.map_cons, List.map_nil, List.replicate, List.cons_append, List.nil_append, h1, ln, e3, ix_tup0, ix_tup1, ix_tup2, sx, c1, l2, u0, u1, u2, u3, u4, u5, u6, Bool.false_eq_true, if_false, and_self, g0, g1, g2, g3, g4, g5, g6, t0, t1, w1, w2, w3, Bool.true_and, Bool.false_and]
    by_cases hw6 : w = "sell"
    · have e : arD w = 3 := by rw [hw6]; decide
      rw [e] at ar
      obtain ⟨a, b, c, rfl⟩ := len3 ar
      have g0 : decide (w = "bring") = false := by rw [hw6]; decide
      have g1 : decide (w = "pool") = false := by rw [hw6]; decide
      have g2 : decide (w = "swap") = false := by rw [hw6]; decide
      have g3 : decide (w = "trade") = false := by rw [hw6]; decide
      have g4 : decide (w = "spoil") = false := by rw [hw6]; decide
      have g5 : decide (w = "throw") = false := by rw [hw6]; decide
      have g6 : decide (w = "sell") = true := by rw [hw6]; rfl
      have l2 : bLen [.tup [a, b, c]] h = .ok (.int 3) h := rfl
      have ed : dB P K (.tup [.str w, a, b, c]) = (inB 0 (some (P - 1)) a && (inB 0 (some (P - 1)) b && (!decide (a = b) && smB c))) := by rw [hw6]; rfl
      rw [ed]
      have w1 := is_selling_any (k + 1) t0 (hs' a (by simp)) (hs' b (by simp)) (hs' c (by simp))
      simp only [R_is_deed, F_is_deed, u_seq, u_asg, u_call, u_exp, u_if, u_ret, u_setS, u_par, u_nx, nxt_nx, nxt_rt, u_list, u_list0, u_var, u_con, u_bin, u_un1, u_and, u_or, u_chain, u_ite, u_blt, u_tup, u_lst, u_slc, u_opt, u_opt0, im_int, u_nm, u_tgs, u_tgs0, u_tupT, List.getElem?_cons_succ, List.getElem?_cons_zero, bind_ok, thenS_ok, thenI_ok, List.length_cons, List.length_nil, Nat.reduceAdd, Nat.reduceSub, Nat.reduceLT, Nat.reduceLeDiff, Nat.zero_le, if_true, om_some, List.set_cons_succ, List.set_cons_zero, bm_bl, Bool.not_true, Bool.not_false, Bool.false_eq_true, if_false, u_add, u_sub, u_neg, u_not, u_lt, u_le, u_gt, u_ge, u_eqI, u_neI, decide_true, decide_false, u_int, u_intb, methF, List.map_cons, List.map_nil, List.replicate, List.cons_append, List.nil_append, h1, ln, e3, ix_tup0, ix_tup1, ix_tup2, sx, c1, l2, u0, u1, u2, u3, u4, u5, u6, Bool.false_eq_true, if_false, and_self, g0, g1, g2, g3, g4, g5, g6, t0, t1, w1]
    have e0 : arD w = 0 := by simp only [arD, hw0, hw1, hw2, hw3, hw4, hw5, hw6, if_false]
    rw [e0] at ar
    omega
theorem is_deed_any (k : Nat) {h : Hv} {tr : D} {P K : Int} (t0 : ∀ h, opIx tr (.int 0) h = .ok (.int P) h) (t1 : ∀ h, opIx tr (.int 1) h = .ok (.int K) h) {d : D} (s : Sml h d) : callK T (k + 6) "is_deed" [tr, d] h = .ok (.bl (dB P K d)) h := by
  have h1 := s.isiT
  cases d with
  | tup ds =>
    have hs : ∀ d ∈ ds, Sml h d := by cases s; assumption
    match ds, hs with
    | [], hs =>
      refine fn_same t_is_deed rfl ?_
      have ln : bLen [.tup []] h = .ok (.int 0) h := rfl
      have e : (0 : Int) < 3 := by decide
      simp only [R_is_deed, F_is_deed, u_seq, u_asg, u_call, u_exp, u_if, u_ret, u_setS, u_par, u_nx, nxt_nx, nxt_rt, u_list, u_list0, u_var, u_con, u_bin, u_un1, u_and, u_or, u_chain, u_ite, u_blt, u_tup, u_lst, u_slc, u_opt, u_opt0, im_int, u_nm, u_tgs, u_tgs0, u_tupT, List.getElem?_cons_succ, List.getElem?_cons_zero, bind_ok, thenS_ok, thenI_ok, List.length_cons, List.length_nil, Nat.reduceAdd, Nat.reduceSub, Nat.reduceLT, Nat.reduceLeDiff, Nat.zero_le, if_true, om_some, List.set_cons_succ, List.set_cons_zero, bm_bl, Bool.not_true, Bool.not_false, Bool.false_eq_true, if_false, u_add, u_sub, u_neg, u_not, u_lt, u_le, u_gt, u_ge, u_eqI, u_neI, decide_true, decide_false, u_int, u_intb, methF, List.map_cons, List.map_nil, List.replicate, List.cons_append, List.nil_append, h1, isTupD, ln, e, dB]
    | [x], hs =>
      refine fn_same t_is_deed rfl ?_
      have ln : bLen [.tup [x]] h = .ok (.int 1) h := rfl
      have e : (1 : Int) < 3 := by decide
      have ed : dB P K (.tup [x]) = false := by
        cases x <;> try rfl
        rename_i w
        by_cases hw : w ∈ wordsL
        · refine dB_ar ?_
          simp only [wordsL, List.mem_cons, List.not_mem_nil, or_false] at hw
          rcases hw with rfl | rfl | rfl | rfl | rfl | rfl | rfl <;> decide
        · exact dB_none hw
      simp only [R_is_deed, F_is_deed, u_seq, u_asg, u_call, u_exp, u_if, u_ret, u_setS, u_par, u_nx, nxt_nx, nxt_rt, u_list, u_list0, u_var, u_con, u_bin, u_un1, u_and, u_or, u_chain, u_ite, u_blt, u_tup, u_lst, u_slc, u_opt, u_opt0, im_int, u_nm, u_tgs, u_tgs0, u_tupT, List.getElem?_cons_succ, List.getElem?_cons_zero, bind_ok, thenS_ok, thenI_ok, List.length_cons, List.length_nil, Nat.reduceAdd, Nat.reduceSub, Nat.reduceLT, Nat.reduceLeDiff, Nat.zero_le, if_true, om_some, List.set_cons_succ, List.set_cons_zero, bm_bl, Bool.not_true, Bool.not_false, Bool.false_eq_true, if_false, u_add, u_sub, u_neg, u_not, u_lt, u_le, u_gt, u_ge, u_eqI, u_neI, decide_true, decide_false, u_int, u_intb, methF, List.map_cons, List.map_nil, List.replicate, List.cons_append, List.nil_append, h1, isTupD, ln, e, ed]
    | x :: y :: xs, hs => exact is_deed_tup k t0 t1 hs
  | _ =>
    refine fn_same t_is_deed rfl ?_
    simp only [R_is_deed, F_is_deed, u_seq, u_asg, u_call, u_exp, u_if, u_ret, u_setS, u_par, u_nx, nxt_nx, nxt_rt, u_list, u_list0, u_var, u_con, u_bin, u_un1, u_and, u_or, u_chain, u_ite, u_blt, u_tup, u_lst, u_slc, u_opt, u_opt0, im_int, u_nm, u_tgs, u_tgs0, u_tupT, List.getElem?_cons_succ, List.getElem?_cons_zero, bind_ok, thenS_ok, thenI_ok, List.length_cons, List.length_nil, Nat.reduceAdd, Nat.reduceSub, Nat.reduceLT, Nat.reduceLeDiff, Nat.zero_le, if_true, om_some, List.set_cons_succ, List.set_cons_zero, bm_bl, Bool.not_true, Bool.not_false, Bool.false_eq_true, if_false, u_add, u_sub, u_neg, u_not, u_lt, u_le, u_gt, u_ge, u_eqI, u_neI, decide_true, decide_false, u_int, u_intb, methF, List.map_cons, List.map_nil, List.replicate, List.cons_append, List.nil_append, h1, isTupD, dB]
theorem get_ar (w : Str) : (getD_ (mergeD [] [(.inr "bring", .int 3), (.inr "pool", .int 2), (.inr "swap", .int 4), (.inr "trade", .int 5), (.inr "spoil", .int 2), (.inr "throw", .int 3), (.inr "sell", .int 3)]) (.inr w)).getD (.int 0) = .int (arD w) := by
  have m : mergeD [] [(.inr "bring", .int 3), (.inr "pool", .int 2), (.inr "swap", .int 4), (.inr "trade", .int 5), (.inr "spoil", .int 2), (.inr "throw", .int 3), (.inr "sell", .int 3)] = [(.inr "bring", .int 3), (.inr "pool", .int 2), (.inr "swap", .int 4), (.inr "trade", .int 5), (.inr "spoil", .int 2), (.inr "throw", .int 3), (.inr "sell", .int 3)] := by decide +kernel
  rw [m]
  unfold arD
  by_cases e0 : w = "bring"
  · subst e0; rfl
  by_cases e1 : w = "pool"
  · subst e1; rfl
  by_cases e2 : w = "swap"
  · subst e2; rfl
  by_cases e3 : w = "trade"
  · subst e3; rfl
  by_cases e4 : w = "spoil"
  · subst e4; rfl
  by_cases e5 : w = "throw"
  · subst e5; rfl
  by_cases e6 : w = "sell"
  · subst e6; rfl
  simp only [e0, e1, e2, e3, e4, e5, e6, if_false]
  have n : ∀ v : Str, ¬ w = v → ¬ (Sum.inr v : DKey) = Sum.inr w := fun v hv z => hv (Sum.inr.inj z).symm
  have f : List.find? (fun kv : DKey × D => decide (kv.1 = Sum.inr w)) [(.inr "bring", .int 3), (.inr "pool", .int 2), (.inr "swap", .int 4), (.inr "trade", .int 5), (.inr "spoil", .int 2), (.inr "throw", .int 3), (.inr "sell", .int 3)] = none := by
    simp only [List.find?_cons, decide_eq_false (n _ e0), decide_eq_false (n _ e1), decide_eq_false (n _ e2), decide_eq_false (n _ e3), decide_eq_false (n _ e4), decide_eq_false (n _ e5), decide_eq_false (n _ e6), List.find?_nil]
  simp only [getD_, f]
  rfl
theorem in_sw (w : Str) (h : Hv) : opIn false (.str w) (.tup [.str "swap", .str "trade"]) h = .ok (.bl (decide (w = "swap") || decide (w = "trade"))) h := by
  have e : ∀ v : Str, eqD (.str v) (.str w) = decide (w = v) := fun v => by
    simp only [eqD]
    by_cases q : w = v
    · subst q; simp
    · have q2 : ¬ v = w := fun z => q z.symm
      simp [q, q2]
  simp [opIn, seqOf, flatD, e]
theorem _law_is_deed_tup (k : Nat) {h : Hv} {tr : D} {P K : Int} (t0 : ∀ h, opIx tr (.int 0) h = .ok (.int P) h) (t1 : ∀ h, opIx tr (.int 1) h = .ok (.int K) h) {x y : D} {xs : List D} (hs : ∀ d ∈ x :: y :: xs, Sml h d) : callK T (k + 6) "_law_is_deed" [tr, .tup (x :: y :: xs)] h = .ok (.bl (dB P K (.tup (x :: y :: xs)))) h := by
  have h1 : isiF "tuple" (.tup (x :: y :: xs)) h = .ok (.bl true) h := rfl
  have ln : ∀ h, bLen [.tup (x :: y :: xs)] h = .ok (.int ((xs.length + 2 : Nat) : Int)) h := fun h => rfl
  have e3 : ¬ ((xs.length + 2 : Nat) : Int) < 2 := by omega
  have sx := (hs x (by simp)).isiS
  cases qx : isStrD x with
  | false =>
    rw [qx] at sx
    refine fn_same t__law_is_deed rfl ?_
    simp only [R__law_is_deed, F__law_is_deed, u_seq, u_asg, u_call, u_exp, u_if, u_ret, u_setS, u_par, u_nx, nxt_nx, nxt_rt, u_list, u_list0, u_var, u_con, u_bin, u_un1, u_and, u_or, u_chain, u_ite, u_blt, u_tup, u_lst, u_slc, u_opt, u_opt0, im_int, u_nm, u_tgs, u_tgs0, u_tupT, List.getElem?_cons_succ, List.getElem?_cons_zero, bind_ok, thenS_ok, thenI_ok, List.length_cons, List.length_nil, Nat.reduceAdd, Nat.reduceSub, Nat.reduceLT, Nat.reduceLeDiff, Nat.zero_le, if_true, om_some, List.set_cons_succ, List.set_cons_zero, bm_bl, Bool.not_true, Bool.not_false, Bool.false_eq_true, if_false, u_add, u_sub, u_neg, u_not, u_lt, u_le, u_gt, u_ge, u_eqI, u_neI, decide_true, decide_false, u_int, u_intb, methF, List.map_cons, List.map_nil, List.replicate, List.cons_append, List.nil_append, h1, ln, e3, ix_tup0, sx, dB_x qx]
  | true =>
    rw [qx] at sx
    obtain ⟨w, rfl⟩ : ∃ w, x = .str w := by cases x <;> first | exact ⟨_, rfl⟩ | cases qx
    have sw := (hs (.str w) (by simp)).strB
    have u0 := fun h => u_eqS sw (words_ok "bring" (by simp [wordsL])).1 false h
    have u1 := fun h => u_eqS sw (words_ok "pool" (by simp [wordsL])).1 false h
    have u2 := fun h => u_eqS sw (words_ok "swap" (by simp [wordsL])).1 false h
    have u3 := fun h => u_eqS sw (words_ok "trade" (by simp [wordsL])).1 false h
    have u4 := fun h => u_eqS sw (words_ok "spoil" (by simp [wordsL])).1 false h
    have u5 := fun h => u_eqS sw (words_ok "throw" (by simp [wordsL])).1 false h
    have u6 := fun h => u_eqS sw (words_ok "sell" (by simp [wordsL])).1 false h
    have c1 : ∀ h, opSl (.tup (.str w :: y :: xs)) (some 1) none h = .ok (.tup (y :: xs)) h := fun h => cut1
    have hs' : ∀ d ∈ y :: xs, Sml h d := fun d hd => hs d (List.mem_cons_of_mem _ hd)
    have ly : (((xs.length + 2 : Nat) : Int)) - 1 = (((y :: xs).length : Nat) : Int) := by rw [List.length_cons]; omega
    generalize hys : y :: xs = ys at *
    have pr : pairsF [((conF (.str "bring")) , (conF (.int 3))), ((conF (.str "pool")) , (conF (.int 2))), ((conF (.str "swap")) , (conF (.int 4))), ((conF (.str "trade")) , (conF (.int 5))), ((conF (.str "spoil")) , (conF (.int 2))), ((conF (.str "throw")) , (conF (.int 3))), ((conF (.str "sell")) , (conF (.int 3)))] (callK T (k + 5)) [some tr, some (.tup (.str w :: ys)), none, none, none, none] (h ++ [.dct []]) = .ok [(.inr "bring", .int 3), (.inr "pool", .int 2), (.inr "swap", .int 4), (.inr "trade", .int 5), (.inr "spoil", .int 2), (.inr "throw", .int 3), (.inr "sell", .int 3)] (h ++ [.dct []]) := by
      simp only [pairsF, u_seq, u_asg, u_call, u_exp, u_if, u_ret, u_setS, u_par, u_nx, nxt_nx, nxt_rt, u_list, u_list0, u_var, u_con, u_bin, u_un1, u_and, u_or, u_chain, u_ite, u_blt, u_tup, u_lst, u_slc, u_opt, u_opt0, im_int, u_nm, u_tgs, u_tgs0, u_tupT, List.getElem?_cons_succ, List.getElem?_cons_zero, bind_ok, thenS_ok, thenI_ok, List.length_cons, List.length_nil, Nat.reduceAdd, Nat.reduceSub, Nat.reduceLT, Nat.reduceLeDiff, Nat.zero_le, if_true, om_some, List.set_cons_succ, List.set_cons_zero, bm_bl, Bool.not_true, Bool.not_false, Bool.false_eq_true, if_false, u_add, u_sub, u_neg, u_not, u_lt, u_le, u_gt, u_ge, u_eqI, u_neI, decide_true, decide_false, u_int, u_intb, methF, List.map_cons, List.map_nil, List.replicate, List.cons_append, List.nil_append, keyD]
    have dd := u_dct1 pr (by decide)
    have at_ : (h ++ [Ob.dct (mergeD [] [(.inr "bring", .int 3), (.inr "pool", .int 2), (.inr "swap", .int 4), (.inr "trade", .int 5), (.inr "spoil", .int 2), (.inr "throw", .int 3), (.inr "sell", .int 3)])])[h.length]? = some (.dct (mergeD [] [(.inr "bring", .int 3), (.inr "pool", .int 2), (.inr "swap", .int 4), (.inr "trade", .int 5), (.inr "spoil", .int 2), (.inr "throw", .int 3), (.inr "sell", .int 3)])) := by simp
    have mg : mGet (.ref h.length) [.str w, .int 0] (h ++ [Ob.dct (mergeD [] [(.inr "bring", .int 3), (.inr "pool", .int 2), (.inr "swap", .int 4), (.inr "trade", .int 5), (.inr "spoil", .int 2), (.inr "throw", .int 3), (.inr "sell", .int 3)])]) = .ok (.int (arD w)) (h ++ [Ob.dct (mergeD [] [(.inr "bring", .int 3), (.inr "pool", .int 2), (.inr "swap", .int 4), (.inr "trade", .int 5), (.inr "spoil", .int 2), (.inr "throw", .int 3), (.inr "sell", .int 3)])]) := by
      simp only [mGet, dctAt, at_, keyD, get_ar]
    have md : methD mGet (varF 2) [(binF opIx (varF 1) (conF (.int 0))), (conF (.int 0))] (callK T (k + 5)) [some tr, some (.tup (.str w :: ys)), some (.ref h.length), none, none, none] (h ++ [Ob.dct (mergeD [] [(.inr "bring", .int 3), (.inr "pool", .int 2), (.inr "swap", .int 4), (.inr "trade", .int 5), (.inr "spoil", .int 2), (.inr "throw", .int 3), (.inr "sell", .int 3)])]) = .ok (.int (arD w)) (h ++ [Ob.dct (mergeD [] [(.inr "bring", .int 3), (.inr "pool", .int 2), (.inr "swap", .int 4), (.inr "trade", .int 5), (.inr "spoil", .int 2), (.inr "throw", .int 3), (.inr "sell", .int 3)])]) := by
      simp only [methD, u_seq, u_asg, u_call, u_exp, u_if, u_ret, u_setS, u_par, u_nx, nxt_nx, nxt_rt, u_list, u_list0, u_var, u_con, u_bin, u_un1, u_and, u_or, u_chain, u_ite, u_blt, u_tup, u_lst, u_slc, u_opt, u_opt0, im_int, u_nm, u_tgs, u_tgs0, u_tupT, List.getElem?_cons_succ, List.getElem?_cons_zero, bind_ok, thenS_ok, thenI_ok, List.length_cons, List.length_nil, Nat.reduceAdd, Nat.reduceSub, Nat.reduceLT, Nat.reduceLeDiff, Nat.zero_le, if_true, om_some, List.set_cons_succ, List.set_cons_zero, bm_bl, Bool.not_true, Bool.not_false, Bool.false_eq_true, if_false, u_add, u_sub, u_neg, u_not, u_lt, u_le, u_gt, u_ge, u_eqI, u_neI, decide_true, decide_false, u_int, u_intb, methF, List.map_cons, List.map_nil, List.replicate, List.cons_append, List.nil_append, dctAt, at_, ix_tup0, mg]
    generalize hH : h ++ [Ob.dct (mergeD [] [(.inr "bring", .int 3), (.inr "pool", .int 2), (.inr "swap", .int 4), (.inr "trade", .int 5), (.inr "spoil", .int 2), (.inr "throw", .int 3), (.inr "sell", .int 3)])] = H at *
    have hsH : ∀ d ∈ ys, Sml H d := fun d hd => (hs' d hd).mono (by rw [← hH]; simp)
    have iw := in_sw w H
    refine fn_app (g := [Ob.dct (mergeD [] [(.inr "bring", .int 3), (.inr "pool", .int 2), (.inr "swap", .int 4), (.inr "trade", .int 5), (.inr "spoil", .int 2), (.inr "throw", .int 3), (.inr "sell", .int 3)])]) t__law_is_deed rfl ?_ rfl
    rw [hH]
    by_cases ar : ys.length = arD w
    rotate_left
    · rw [dB_ar ar]
      have na : ¬ ((arD w : Nat) : Int) = ((ys.length : Nat) : Int) := by omega
      simp only [R__law_is_deed, F__law_is_deed, u_seq, u_asg, u_call, u_exp, u_if, u_ret, u_setS, u_par, u_nx, nxt_nx, nxt_rt, u_list, u_list0, u_var, u_con, u_bin, u_un1, u_and, u_or, u_chain, u_ite, u_blt, u_tup, u_lst, u_slc, u_opt, u_opt0, im_int, u_nm, u_tgs, u_tgs0, u_tupT, List.getElem?_cons_succ, List.getElem?_cons_zero, bind_ok, thenS_ok, thenI_ok, List.length_cons, List.length_nil, Nat.reduceAdd, Nat.reduceSub, Nat.reduceLT, Nat.reduceLeDiff, Nat.zero_le, if_true, om_some, List.set_cons_succ, List.set_cons_zero, bm_bl, Bool.not_true, Bool.not_false, Bool.false_eq_true, if_false, u_add, u_sub, u_neg, u_not, u_lt, u_le, u_gt, u_ge, u_eqI, u_neI, decide_true, decide_false, u_int, u_intb, methF, List.map_cons, List.map_nil, List.replicate, List.cons_append, List.nil_append, h1, ln, e3, ix_tup0, sx, dd, md, ly, na]
    by_cases hw0 : w = "bring"
    · have e : arD w = 3 := by rw [hw0]; decide
      rw [e] at ar md
      have nn : ((3 : Nat) : Int) = 3 := rfl
      obtain ⟨a, b, c, rfl⟩ := len3 ar
      have g0 : decide (w = "bring") = true := by rw [hw0]; rfl
      have g1 : decide (w = "pool") = false := by rw [hw0]; decide
      have g2 : decide (w = "swap") = false := by rw [hw0]; decide
      have g3 : decide (w = "trade") = false := by rw [hw0]; decide
      have g4 : decide (w = "spoil") = false := by rw [hw0]; decide
      have g5 : decide (w = "throw") = false := by rw [hw0]; decide
      have g6 : decide (w = "sell") = false := by rw [hw0]; decide
      have ly2 : ((xs.length + 2 : Nat) : Int) - 1 = 3 := ly
      have y0 : ∀ h, opIx (.tup [a, b, c]) (.int 0) h = .ok a h := fun h => ix_tup0 ..
      have ed : dB P K (.tup [.str w, a, b, c]) = (inB 0 (some (P - 1)) a && (inB 0 (some (K - 1)) b && inB 1 none c)) := by rw [hw0]; rfl
      rw [ed]
      have w1 : callK T (k + 5) "_law_in" [a, .int 0, .int (P - 1)] H = _ := _law_in_any (k + 4) (hsH a (by simp)) 0 (some (P - 1))
      have w2 : callK T (k + 5) "_law_in" [b, .int 0, .int (K - 1)] H = _ := _law_in_any (k + 4) (hsH b (by simp)) 0 (some (K - 1))
      have w3 : callK T (k + 5) "_law_in" [c, .int 1, .non] H = _ := _law_in_any (k + 4) (hsH c (by simp)) 1 none
      generalize inB 0 (some (P - 1)) a = x1 at *
      generalize inB 0 (some (K - 1)) b = x2 at *
      generalize inB 1 none c = x3 at *
      cases x1 <;> cases x2 <;> simp only [R__law_is_deed, F__law_is_deed, u_seq, u_asg, u_call, u_exp, u_if, u_ret, u_setS, u_par, u_nx, nxt_nx, nxt_rt, u_list, u_list0, u_var, u_con, u_bin, u_un1, u_and, u_or, u_chain, u_ite, u_blt, u_tup, u_lst, u_slc, u_opt, u_opt0, im_int, u_nm, u_tgs, u_tgs0, u_tupT, List.getElem?_cons_succ, List.getElem?_cons_zero, bind_ok, thenS_ok, thenI_ok, List.length_cons, List.length_nil, Nat.reduceAdd, Nat.reduceSub, Nat.reduceLT, Nat.reduceLeDiff, Nat.zero_le, if_true, om_some, List.set_cons_succ, List.set_cons_zero, bm_bl, Bool.not_true, Bool.not_false, Bool.false_eq_true, if_false, u_add, u_sub, u_neg, u_not, u_lt, u_le, u_gt, u_ge, u_eqI, u_neI, decide_true, decide_false, u_int, u_intb, methF, List.map_cons, List.map_nil, List.replicate, List.cons_append, List.nil_append, h1, ln, e3, ix_tup0, ix_tup1, ix_tup2, ix_tup3, sx, dd, md, nn, ly2, c1, iw, Bool.or_false, Bool.false_or, Bool.or_true, Bool.true_or, u0, u1, u2, u3, u4, u5, u6, Bool.false_eq_true, if_false, and_self, g0, g1, g2, g3, g4, g5, g6, t0, t1, w1, w2, w3, Bool.true_and, Bool.false_and]
    by_cases hw1 : w = "pool"
    · have e : arD w = 2 := by rw [hw1]; decide
      rw [e] at ar md
      have nn : ((2 : Nat) : Int) = 2 := rfl
      obtain ⟨a, b, rfl⟩ := len2 ar
      have g0 : decide (w = "bring") = false := by rw [hw1]; decide
      have g1 : decide (w = "pool") = true := by rw [hw1]; rfl
      have g2 : decide (w = "swap") = false := by rw [hw1]; decide
      have g3 : decide (w = "trade") = false := by rw [hw1]; decide
      have g4 : decide (w = "spoil") = false := by rw [hw1]; decide
      have g5 : decide (w = "throw") = false := by rw [hw1]; decide
      have g6 : decide (w = "sell") = false := by rw [hw1]; decide
      have ly2 : ((xs.length + 2 : Nat) : Int) - 1 = 2 := ly
      have y0 : ∀ h, opIx (.tup [a, b]) (.int 0) h = .ok a h := fun h => ix_tup0 ..
      have ed : dB P K (.tup [.str w, a, b]) = (inB 0 none a && (inB 0 none b && !decide (a = b))) := by rw [hw1]; rfl
      rw [ed]
      have w1 : callK T (k + 5) "_law_in" [a, .int 0, .non] H = _ := _law_in_any (k + 4) (hsH a (by simp)) 0 none
      have w2 : callK T (k + 5) "_law_in" [b, .int 0, .non] H = _ := _law_in_any (k + 4) (hsH b (by simp)) 0 none
      cases q1 : inB 0 none a <;> rw [q1] at w1 <;> try (simp only [R__law_is_deed, F__law_is_deed, u_seq, u_asg, u_call, u_exp, u_if, u_ret, u_setS, u_par, u_nx, nxt_nx, nxt_rt, u_list, u_list0, u_var, u_con, u_bin, u_un1, u_and, u_or, u_chain, u_ite, u_blt, u_tup, u_lst, u_slc, u_opt, u_opt0, im_int, u_nm, u_tgs, u_tgs0, u_tupT, List.getElem?_cons_succ, List.getElem?_cons_zero, bind_ok, thenS_ok, thenI_ok, List.length_cons, List.length_nil, Nat.reduceAdd, Nat.reduceSub, Nat.reduceLT, Nat.reduceLeDiff, Nat.zero_le, if_true, om_some, List.set_cons_succ, List.set_cons_zero, bm_bl, Bool.not_true, Bool.not_false, Bool.false_eq_true, if_false, u_add, u_sub, u_neg, u_not, u_lt, u_le, u_gt, u_ge, u_eqI, u_neI, decide_true, decide_false, u_int, u_intb, methF, List.map_cons, List.map_nil, List.replicate, List.cons_append, List.nil_append, h1, ln, e3, ix_tup0, ix_tup1, ix_tup2, ix_tup3, sx, dd, md, nn, ly2, c1, iw, Bool.or_false, Bool.false_or, Bool.or_true, Bool.true_or, u0, u1, u2, u3, u4, u5, u6, Bool.false_eq_true, if_false, and_self, g0, g1, g2, g3, g4, g5, g6, t0, t1, w1, Bool.false_and]; done)
      cases q2 : inB 0 none b <;> rw [q2] at w2 <;> try (simp only [R__law_is_deed, F__law_is_deed, u_seq, u_asg, u_call, u_exp, u_if, u_ret, u_setS, u_par, u_nx, nxt_nx, nxt_rt, u_list, u_list0, u_var, u_con, u_bin, u_un1, u_and, u_or, u_chain, u_ite, u_blt, u_tup, u_lst, u_slc, u_opt, u_opt0, im_int, u_nm, u_tgs, u_tgs0, u_tupT, List.getElem?_cons_succ, List.getElem?_cons_zero, bind_ok, thenS_ok, thenI_ok, List.length_cons, List.length_nil, Nat.reduceAdd, Nat.reduceSub, Nat.reduceLT, Nat.reduceLeDiff, Nat.zero_le, if_true, om_some, List.set_cons_succ, List.set_cons_zero, bm_bl, Bool.not_true, Bool.not_false, Bool.false_eq_true, if_false, u_add, u_sub, u_neg, u_not, u_lt, u_le, u_gt, u_ge, u_eqI, u_neI, decide_true, decide_false, u_int, u_intb, methF, List.map_cons, List.map_nil, List.replicate, List.cons_append, List.nil_append, h1, ln, e3, ix_tup0, ix_tup1, ix_tup2, ix_tup3, sx, dd, md, nn, ly2, c1, iw, Bool.or_false, Bool.false_or, Bool.or_true, Bool.true_or, u0, u1, u2, u3, u4, u5, u6, Bool.false_eq_true, if_false, and_self, g0, g1, g2, g3, g4, g5, g6, t0, t1, w1, w2, Bool.true_and, Bool.false_and]; done)
      obtain ⟨i, rfl⟩ := inB_int q1
      obtain ⟨j, rfl⟩ := inB_int q2
      simp only [R__law_is_deed, F__law_is_deed, u_seq, u_asg, u_call, u_exp, u_if, u_ret, u_setS, u_par, u_nx, nxt_nx, nxt_rt, u_list, u_list0, u_var, u_con, u_bin, u_un1, u_and, u_or, u_chain, u_ite, u_blt, u_tup, u_lst, u_slc, u_opt, u_opt0, im_int, u_nm, u_tgs, u_tgs0, u_tupT, List.getElem?_cons_succ, List.getElem?_cons_zero, bind_ok, thenS_ok, thenI_ok, List.length_cons, List.length_nil, Nat.reduceAdd, Nat.reduceSub, Nat.reduceLT, Nat.reduceLeDiff, Nat.zero_le, if_true, om_some, List.set_cons_succ, List.set_cons_zero, bm_bl, Bool.not_true, Bool.not_false, Bool.false_eq_true, if_false, u_add, u_sub, u_neg, u_not, u_lt, u_le, u_gt, u_ge, u_eqI, u_neI, decide_true, decide_false, u_int, u_intb, methF, List.map_cons, List.map_nil, List.replicate, List.cons_append, List.nil_append, h1, ln, e3, ix_tup0, ix_tup1, ix_tup2, ix_tup3, sx, dd, md, nn, ly2, c1, iw, Bool.or_false, Bool.false_or, Bool.or_true, Bool.true_or, u0, u1, u2, u3, u4, u5, u6, Bool.false_eq_true, if_false, and_self, g0, g1, g2, g3, g4, g5, g6, t0, t1, w1, w2, int_eqD, Bool.true_and]
    by_cases hw2 : w = "swap"
    · have e : arD w = 4 := by rw [hw2]; decide
      rw [e] at ar md
      have nn : ((4 : Nat) : Int) = 4 := rfl
      obtain ⟨a, b, c, d, rfl⟩ := len4 ar
      have g0 : decide (w = "bring") = false := by rw [hw2]; decide
      have g1 : decide (w = "pool") = false := by rw [hw2]; decide
      have g2 : decide (w = "swap") = true := by rw [hw2]; rfl
      have g3 : decide (w = "trade") = false := by rw [hw2]; decide
      have g4 : decide (w = "spoil") = false := by rw [hw2]; decide
      have g5 : decide (w = "throw") = false := by rw [hw2]; decide
      have g6 : decide (w = "sell") = false := by rw [hw2]; decide
      have ly2 : ((xs.length + 2 : Nat) : Int) - 1 = 4 := ly
      have y0 : ∀ h, opIx (.tup [a, b, c, d]) (.int 0) h = .ok a h := fun h => ix_tup0 ..
      have ed : dB P K (.tup [.str w, a, b, c, d]) = swB K a b c d := by rw [hw2]; rfl
      rw [ed]
      have w1 : callK T (k + 5) "_law_in" [a, .int 0, .non] H = _ := _law_in_any (k + 4) (hsH a (by simp)) 0 none
      have w2 : callK T (k + 5) "_law_in" [b, .int 1, .non] H = _ := _law_in_any (k + 4) (hsH b (by simp)) 1 none
      have w3 : callK T (k + 5) "_law_in" [c, .int 0, .int (K - 1)] H = _ := _law_in_any (k + 4) (hsH c (by simp)) 0 (some (K - 1))
      have w4 : callK T (k + 5) "_law_in" [d, .int 1, .non] H = _ := _law_in_any (k + 4) (hsH d (by simp)) 1 none
      unfold swB
      generalize inB 0 none a = x1 at *
      generalize inB 1 none b = x2 at *
      generalize inB 0 (some (K - 1)) c = x3 at *
      generalize inB 1 none d = x4 at *
      cases x1 <;> cases x2 <;> cases x3 <;> simp only [R__law_is_deed, F__law_is_deed, u_seq, u_asg, u_call, u_exp, u_if, u_ret, u_setS, u_par, u_nx, nxt_nx, nxt_rt, u_list, u_list0, u_var, u_con, u_bin, u_un1, u_and, u_or, u_chain, u_ite, u_blt, u_tup, u_lst, u_slc, u_opt, u_opt0, im_int, u_nm, u_tgs, u_tgs0, u_tupT, List.getElem?_cons_succ, List.getElem?_cons_zero, bind_ok, thenS_ok, thenI_ok, List.length_cons, List.length_nil, Nat.reduceAdd, Nat.reduceSub, Nat.reduceLT, Nat.reduceLeDiff, Nat.zero_le, if_true, om_some, List.set_cons_succ, List.set_cons_zero, bm_bl, Bool.not_true, Bool.not_false, Bool.false_eq_true, if_false, u_add, u_sub, u_neg, u_not, u_lt, u_le, u_gt, u_ge, u_eqI, u_neI, decide_true, decide_false, u_int, u_intb, methF, List.map_cons, List.map_nil, List.replicate, List.cons_append, List.nil_append, h1, ln, e3, ix_tup0, ix_tup1, ix_tup2, ix_tup3, sx, dd, md, nn, ly2, c1, iw, Bool.or_false, Bool.false_or, Bool.or_true, Bool.true_or, u0, u1, u2, u3, u4, u5, u6, Bool.false_eq_true, if_false, and_self, g0, g1, g2, g3, g4, g5, g6, t0, t1, w1, w2, w3, w4, Bool.true_and, Bool.false_and]
    by_cases hw3 : w = "trade"
    · have e : arD w = 5 := by rw [hw3]; decide
      rw [e] at ar md
      have nn : ((5 : Nat) : Int) = 5 := rfl
      obtain ⟨a, b, c, d, e, rfl⟩ := len5 ar
      have g0 : decide (w = "bring") = false := by rw [hw3]; decide
      have g1 : decide (w = "pool") = false := by rw [hw3]; decide
      have g2 : decide (w = "swap") = false := by rw [hw3]; decide
      have g3 : decide (w = "trade") = true := by rw [hw3]; rfl
      have g4 : decide (w = "spoil") = false := by rw [hw3]; decide
      have g5 : decide (w = "throw") = false := by rw [hw3]; decide
      have g6 : decide (w = "sell") = false := by rw [hw3]; decide
      have ly2 : ((xs.length + 2 : Nat) : Int) - 1 = 5 := ly
      have y0 : ∀ h, opIx (.tup [a, b, c, d, e]) (.int 0) h = .ok a h := fun h => ix_tup0 ..
      have ed : dB P K (.tup [.str w, a, b, c, d, e]) = (inB 0 (some 9) a && swB K b c d e) := by rw [hw3]; rfl
      rw [ed]
      have w5 : callK T (k + 5) "_law_in" [a, .int 0, .int (9)] H = _ := _law_in_any (k + 4) (hsH a (by simp)) 0 (some (9))
      have c2 : ∀ h, opSl (.tup [a, b, c, d, e]) (some 1) none h = .ok (.tup [b, c, d, e]) h := fun h => cut1
      cases q1 : inB 0 (some 9) a <;> rw [q1] at w5 <;> try (simp only [R__law_is_deed, F__law_is_deed, u_seq, u_asg, u_call, u_exp, u_if, u_ret, u_setS, u_par, u_nx, nxt_nx, nxt_rt, u_list, u_list0, u_var, u_con, u_bin, u_un1, u_and, u_or, u_chain, u_ite, u_blt, u_tup, u_lst, u_slc, u_opt, u_opt0, im_int, u_nm, u_tgs, u_tgs0, u_tupT, List.getElem?_cons_succ, List.getElem?_cons_zero, bind_ok, thenS_ok, thenI_ok, List.length_cons, List.length_nil, Nat.reduceAdd, Nat.reduceSub, Nat.reduceLT, Nat.reduceLeDiff, Nat.zero_le, if_true, om_some, List.set_cons_succ, List.set_cons_zero, bm_bl, Bool.not_true, Bool.not_false, Bool.false_eq_true, if_false, u_add, u_sub, u_neg, u_not, u_lt, u_le, u_gt, u_ge, u_eqI, u_neI, decide_true, decide_false, u_int, u_intb, methF, List.map_cons, List.map_nil, List.replicate, List.cons_append, List.nil_append, h1, ln, e3, ix_tup0, ix_tup1, ix_tup2, ix_tup3, sx, dd, md, nn, ly2, c1, iw, Bool.or_false, Bool.false_or, Bool.or_true, Bool.true_or, u0, u1, u2, u3, u4, u5, u6, Bool.false_eq_true, if_false, and_self, g0, g1, g2, g3, g4, g5, g6, t0, t1, w5, Bool.false_and]; done)
      have w1 : callK T (k + 5) "_law_in" [b, .int 0, .non] H = _ := _law_in_any (k + 4) (hsH b (by simp)) 0 none
      have w2 : callK T (k + 5) "_law_in" [c, .int 1, .non] H = _ := _law_in_any (k + 4) (hsH c (by simp)) 1 none
      have w3 : callK T (k + 5) "_law_in" [d, .int 0, .int (K - 1)] H = _ := _law_in_any (k + 4) (hsH d (by simp)) 0 (some (K - 1))
      have w4 : callK T (k + 5) "_law_in" [e, .int 1, .non] H = _ := _law_in_any (k + 4) (hsH e (by simp)) 1 none
      unfold swB
      generalize inB 0 none b = x1 at *
      generalize inB 1 none c = x2 at *
      generalize inB 0 (some (K - 1)) d = x3 at *
      generalize inB 1 none e = x4 at *
      cases x1 <;> cases x2 <;> cases x3 <;> simp only [R__law_is_deed, F__law_is_deed, u_seq, u_asg, u_call, u_exp, u_if, u_ret, u_setS, u_par, u_nx, nxt_nx, nxt_rt, u_list, u_list0, u_var, u_con, u_bin, u_un1, u_and, u_or, u_chain, u_ite, u_blt, u_tup, u_lst, u_slc, u_opt, u_opt0, im_int, u_nm, u_tgs, u_tgs0, u_tupT, List.getElem?_cons_succ, List.getElem?_cons_zero, bind_ok, thenS_ok, thenI_ok, List.length_cons, List.length_nil, Nat.reduceAdd, Nat.reduceSub, Nat.reduceLT, Nat.reduceLeDiff, Nat.zero_le, if_true, om_some, List.set_cons_succ, List.set_cons_zero, bm_bl, Bool.not_true, Bool.not_false, Bool.false_eq_true, if_false, u_add, u_sub, u_neg, u_not, u_lt, u_le, u_gt, u_ge, u_eqI, u_neI, decide_true, decide_false, u_int, u_intb, methF, List.map_cons, List.map_nil, List.replicate, List.cons_append, List.nil_append, h1, ln, e3, ix_tup0, ix_tup1, ix_tup2, ix_tup3, sx, dd, md, nn, ly2, c1, iw, Bool.or_false, Bool.false_or, Bool.or_true, Bool.true_or, u0, u1, u2, u3, u4, u5, u6, Bool.false_eq_true, if_false, and_self, g0, g1, g2, g3, g4, g5, g6, t0, t1, w5, c2, w1, w2, w3, w4, Bool.true_and, Bool.false_and]
    by_cases hw4 : w = "spoil"
    · have e : arD w = 2 := by rw [hw4]; decide
      rw [e] at ar md
      have nn : ((2 : Nat) : Int) = 2 := rfl
      obtain ⟨a, b, rfl⟩ := len2 ar
      have g0 : decide (w = "bring") = false := by rw [hw4]; decide
      have g1 : decide (w = "pool") = false := by rw [hw4]; decide
      have g2 : decide (w = "swap") = false := by rw [hw4]; decide
      have g3 : decide (w = "trade") = false := by rw [hw4]; decide
      have g4 : decide (w = "spoil") = true := by rw [hw4]; rfl
      have g5 : decide (w = "throw") = false := by rw [hw4]; decide
      have g6 : decide (w = "sell") = false := by rw [hw4]; decide
      have ly2 : ((xs.length + 2 : Nat) : Int) - 1 = 2 := ly
      have y0 : ∀ h, opIx (.tup [a, b]) (.int 0) h = .ok a h := fun h => ix_tup0 ..
      have ed : dB P K (.tup [.str w, a, b]) = (inB 0 none a && inB 1 none b) := by rw [hw4]; rfl
      rw [ed]
      have w1 : callK T (k + 5) "_law_in" [a, .int 0, .non] H = _ := _law_in_any (k + 4) (hsH a (by simp)) 0 none
      have w2 : callK T (k + 5) "_law_in" [b, .int 1, .non] H = _ := _law_in_any (k + 4) (hsH b (by simp)) 1 none
      cases q1 : inB 0 none a <;> rw [q1] at w1 <;> try (simp only [R__law_is_deed, F__law_is_deed, u_seq, u_asg, u_call, u_exp, u_if, u_ret, u_setS, u_par, u_nx, nxt_nx, nxt_rt, u_list, u_list0, u_var, u_con, u_bin, u_un1, u_and, u_or, u_chain, u_ite, u_blt, u_tup, u_lst, u_slc, u_opt, u_opt0, im_int, u_nm, u_tgs, u_tgs0, u_tupT, List.getElem?_cons_succ, List.getElem?_cons_zero, bind_ok, thenS_ok, thenI_ok, List.length_cons, List.length_nil, Nat.reduceAdd, Nat.reduceSub, Nat.reduceLT, Nat.reduceLeDiff, Nat.zero_le, if_true, om_some, List.set_cons_succ, List.set_cons_zero, bm_bl, Bool.not_true, Bool.not_false, Bool.false_eq_true, if_false, u_add, u_sub, u_neg, u_not, u_lt, u_le, u_gt, u_ge, u_eqI, u_neI, decide_true, decide_false, u_int, u_intb, methF, List.map_cons, List.map_nil, List.replicate, List.cons_append, List.nil_append, h1, ln, e3, ix_tup0, ix_tup1, ix_tup2, ix_tup3, sx, dd, md, nn, ly2, c1, iw, Bool.or_false, Bool.false_or, Bool.or_true, Bool.true_or, u0, u1, u2, u3, u4, u5, u6, Bool.false_eq_true, if_false, and_self, g0, g1, g2, g3, g4, g5, g6, t0, t1, w1, Bool.false_and]; done)
      cases q2 : inB 1 none b <;> rw [q2] at w2 <;> simp only [R__law_is_deed, F__law_is_deed, u_seq, u_asg, u_call, u_exp, u_if, u_ret, u_setS, u_par, u_nx, nxt_nx, nxt_rt, u_list, u_list0, u_var, u_con, u_bin, u_un1, u_and, u_or, u_chain, u_ite, u_blt, u_tup, u_lst, u_slc, u_opt, u_opt0, im_int, u_nm, u_tgs, u_tgs0, u_tupT, List.getElem?_cons_succ, List.getElem?_cons_zero, bind_ok, thenS_ok, thenI_ok, List.length_cons, List.length_nil, Nat.reduceAdd, Nat.reduceSub, Nat.reduceLT, Nat.reduceLeDiff, Nat.zero_le, if_true, om_some, List.set_cons_succ, List.set_cons_zero, bm_bl, Bool.not_true, Bool.not_false, Bool.false_eq_true, if_false, u_add, u_sub, u_neg, u_not, u_lt, u_le, u_gt, u_ge, u_eqI, u_neI, decide_true, decide_false, u_int, u_intb, methF, List.map_cons, List.map_nil, List.replicate, List.cons_append, List.nil_append, h1, ln, e3, ix_tup0, ix_tup1, ix_tup2, ix_tup3, sx, dd, md, nn, ly2, c1, iw, Bool.or_false, Bool.false_or, Bool.or_true, Bool.true_or, u0, u1, u2, u3, u4, u5, u6, Bool.false_eq_true, if_false, and_self, g0, g1, g2, g3, g4, g5, g6, t0, t1, w1, w2, Bool.true_and, Bool.false_and]
    by_cases hw5 : w = "throw"
    · have e : arD w = 3 := by rw [hw5]; decide
      rw [e] at ar md
      have nn : ((3 : Nat) : Int) = 3 := rfl
      obtain ⟨a, b, c, rfl⟩ := len3 ar
      have g0 : decide (w = "bring") = false := by rw [hw5]; decide
      have g1 : decide (w = "pool") = false := by rw [hw5]; decide
      have g2 : decide (w = "swap") = false := by rw [hw5]; decide
      have g3 : decide (w = "trade") = false := by rw [hw5]; decide
      have g4 : decide (w = "spoil") = false := by rw [hw5]; decide
      have g5 : decide (w = "throw") = true := by rw [hw5]; rfl
      have g6 : decide (w = "sell") = false := by rw [hw5]; decide
      have ly2 : ((xs.length + 2 : Nat) : Int) - 1 = 3 := ly
      have y0 : ∀ h, opIx (.tup [a, b, c]) (.int 0) h = .ok a h := fun h => ix_tup0 ..
      have ed : dB P K (.tup [.str w, a, b, c]) = (inB 0 none a && (inB 1 none b && wsB (K + 1) c)) := by rw [hw5]; rfl
      rw [ed]
      have w1 : callK T (k + 5) "_law_in" [a, .int 0, .non] H = _ := _law_in_any (k + 4) (hsH a (by simp)) 0 none
      have w2 : callK T (k + 5) "_law_in" [b, .int 1, .non] H = _ := _law_in_any (k + 4) (hsH b (by simp)) 1 none
      have w3 := _law_are_worths_any (k + 2) (hsH c (by simp)) (K + 1)
      cases q1 : inB 0 none a <;> rw [q1] at w1 <;> try (simp only [R__law_is_deed, F__law_is_deed, u_seq, u_asg, u_call, u_exp, u_if, u_ret, u_setS, u_par, u_nx, nxt_nx, nxt_rt, u_list, u_list0, u_var, u_con, u_bin, u_un1, u_and, u_or, u_chain, u_ite, u_blt, u_tup, u_lst, u_slc, u_opt, u_opt0, im_int, u_nm, u_tgs, u_tgs0, u_tupT, List.getElem?_cons_succ, List.getElem?_cons_zero, bind_ok, thenS_ok, thenI_ok, List.length_cons, List.length_nil, Nat.reduceAdd, Nat.reduceSub, Nat.reduceLT, Nat.reduceLeDiff, Nat.zero_le, if_true, om_some, List.set_cons_succ, List.set_cons_zero, bm_bl, Bool.not_true, Bool.not_false, Bool.false_eq_true, if_false, u_add, u_sub, u_neg, u_not, u_lt, u_le, u_gt, u_ge, u_eqI, u_neI, decide_true, decide_false, u_int, u_intb, methF, List.map_cons, List.map_nil, List.replicate, List.cons_append, List.nil_append, h1, ln, e3, ix_tup0, ix_tup1, ix_tup2, ix_tup3, sx, dd, md, nn, ly2, c1, iw, Bool.or_false, Bool.false_or, Bool.or_true, Bool.true_or, u0, u1, u2, u3, u4, u5, u6, Bool.false_eq_true, if_false, and_self, g0, g1, g2, g3, g4, g5, g6, t0, t1, w1, Bool.false_and]; done)
      cases q2 : inB 1 none b <;> rw [q2] at w2 <;> simp only [R__law_is_deed, F__law_is_deed, u_seq, u_asg, u_call, u_exp, u_if, u_ret, u_setS, u_par, u_nx, nxt_nx, nxt_rt, u_list, u_list0, u_var, u_con, u_bin, u_un1, u_and, u_or, u_chain, u_ite, u_blt, u_tup, u_lst, u_slc, u_opt, u_opt0, im_int, u_nm, u_tgs, u_tgs0, u_tupT, List.getElem?_cons_succ, List.getElem?_cons_zero, bind_ok, thenS_ok, thenI_ok, List.length_cons, List.length_nil, Nat.reduceAdd, Nat.reduceSub, Nat.reduceLT, Nat.reduceLeDiff, Nat.zero_le, if_true, om_some, List.set_cons_succ, List.set_cons_zero, bm_bl, Bool.not_true, Bool.not_false, Bool.false_eq_true, if_false, u_add, u_sub, u_neg, u_not, u_lt, u_le, u_gt, u_ge, u_eqI, u_neI, decide_true, decide_false, u_int, u_intb, methF, List.map_cons, List.map_nil, List.replicate, List.cons_append, List.nil_append, h1, ln, e3, ix_tup0, ix_tup1, ix_tup2, ix_tup3, sx, dd, md, nn, ly2, c1, iw, Bool.or_false, Bool.false_or, Bool.or_true, Bool.true_or, u0, u1, u2, u3, u4, u5, u6, Bool.false_eq_true, if_false, and_self, g0, g1, g2, g3, g4, g5, g6, t0, t1, w1, w2, w3, Bool.true_and, Bool.false_and]
    by_cases hw6 : w = "sell"
    · have e : arD w = 3 := by rw [hw6]; decide
      rw [e] at ar md
      have nn : ((3 : Nat) : Int) = 3 := rfl
      obtain ⟨a, b, c, rfl⟩ := len3 ar
      have g0 : decide (w = "bring") = false := by rw [hw6]; decide
      have g1 : decide (w = "pool") = false := by rw [hw6]; decide
      have g2 : decide (w = "swap") = false := by rw [hw6]; decide
      have g3 : decide (w = "trade") = false := by rw [hw6]; decide
      have g4 : decide (w = "spoil") = false := by rw [hw6]; decide
      have g5 : decide (w = "throw") = false := by rw [hw6]; decide
      have g6 : decide (w = "sell") = true := by rw [hw6]; rfl
      have ly2 : ((xs.length + 2 : Nat) : Int) - 1 = 3 := ly
      have y0 : ∀ h, opIx (.tup [a, b, c]) (.int 0) h = .ok a h := fun h => ix_tup0 ..
      have ed : dB P K (.tup [.str w, a, b, c]) = (inB 0 (some (P - 1)) a && (inB 0 (some (P - 1)) b && (!decide (a = b) && smB c))) := by rw [hw6]; rfl
      rw [ed]
      have w1 := _law_is_sale_any (k + 1) t0 (hsH a (by simp)) (hsH b (by simp)) (hsH c (by simp))
      simp only [R__law_is_deed, F__law_is_deed, u_seq, u_asg, u_call, u_exp, u_if, u_ret, u_setS, u_par, u_nx, nxt_nx, nxt_rt, u_list, u_list0, u_var, u_con, u_bin, u_un1, u_and, u_or, u_chain, u_ite, u_blt, u_tup, u_lst, u_slc, u_opt, u_opt0, im_int, u_nm, u_tgs, u_tgs0, u_tupT, List.getElem?_cons_succ, List.getElem?_cons_zero, bind_ok, thenS_ok, thenI_ok, List.length_cons, List.length_nil, Nat.reduceAdd, Nat.reduceSub, Nat.reduceLT, Nat.reduceLeDiff, Nat.zero_le, if_true, om_some, List.set_cons_succ, List.set_cons_zero, bm_bl, Bool.not_true, Bool.not_false, Bool.false_eq_true, if_false, u_add, u_sub, u_neg, u_not, u_lt, u_le, u_gt, u_ge, u_eqI, u_neI, decide_true, decide_false, u_int, u_intb, methF, List.map_cons, List.map_nil, List.replicate, List.cons_append, List.nil_append, h1, ln, e3, ix_tup0, ix_tup1, ix_tup2, ix_tup3, sx, dd, md, nn, ly2, c1, iw, Bool.or_false, Bool.false_or, Bool.or_true, Bool.true_or, u0, u1, u2, u3, u4, u5, u6, Bool.false_eq_true, if_false, and_self, g0, g1, g2, g3, g4, g5, g6, t0, t1, w1]
    have e0 : arD w = 0 := by simp only [arD, hw0, hw1, hw2, hw3, hw4, hw5, hw6, if_false]
    rw [e0, ← hys] at ar
    cases ar
theorem _law_is_deed_any (k : Nat) {h : Hv} {tr : D} {P K : Int} (t0 : ∀ h, opIx tr (.int 0) h = .ok (.int P) h) (t1 : ∀ h, opIx tr (.int 1) h = .ok (.int K) h) {d : D} (s : Sml h d) : callK T (k + 6) "_law_is_deed" [tr, d] h = .ok (.bl (dB P K d)) h := by
  have h1 := s.isiT
  cases d with
  | tup ds =>
    have hs : ∀ d ∈ ds, Sml h d := by cases s; assumption
    match ds, hs with
    | [], hs =>
      refine fn_same t__law_is_deed rfl ?_
      have ln : bLen [.tup []] h = .ok (.int 0) h := rfl
      have e : (0 : Int) < 2 := by decide
      simp only [R__law_is_deed, F__law_is_deed, u_seq, u_asg, u_call, u_exp, u_if, u_ret, u_setS, u_par, u_nx, nxt_nx, nxt_rt, u_list, u_list0, u_var, u_con, u_bin, u_un1, u_and, u_or, u_chain, u_ite, u_blt, u_tup, u_lst, u_slc, u_opt, u_opt0, im_int, u_nm, u_tgs, u_tgs0, u_tupT, List.getElem?_cons_succ, List.getElem?_cons_zero, bind_ok, thenS_ok, thenI_ok, List.length_cons, List.length_nil, Nat.reduceAdd, Nat.reduceSub, Nat.reduceLT, Nat.reduceLeDiff, Nat.zero_le, if_true, om_some, List.set_cons_succ, List.set_cons_zero, bm_bl, Bool.not_true, Bool.not_false, Bool.false_eq_true, if_false, u_add, u_sub, u_neg, u_not, u_lt, u_le, u_gt, u_ge, u_eqI, u_neI, decide_true, decide_false, u_int, u_intb, methF, List.map_cons, List.map_nil, List.replicate, List.cons_append, List.nil_append, h1, isTupD, ln, e, dB]
    | [x], hs =>
      refine fn_same t__law_is_deed rfl ?_
      have ln : bLen [.tup [x]] h = .ok (.int 1) h := rfl
      have e : (1 : Int) < 2 := by decide
      have ed : dB P K (.tup [x]) = false := by
        cases x <;> try rfl
        rename_i w
        by_cases hw : w ∈ wordsL
        · refine dB_ar ?_
          simp only [wordsL, List.mem_cons, List.not_mem_nil, or_false] at hw
          rcases hw with rfl | rfl | rfl | rfl | rfl | rfl | rfl <;> decide
        · exact dB_none hw
      simp only [R__law_is_deed, F__law_is_deed, u_seq, u_asg, u_call, u_exp, u_if, u_ret, u_setS, u_par, u_nx, nxt_nx, nxt_rt, u_list, u_list0, u_var, u_con, u_bin, u_un1, u_and, u_or, u_chain, u_ite, u_blt, u_tup, u_lst, u_slc, u_opt, u_opt0, im_int, u_nm, u_tgs, u_tgs0, u_tupT, List.getElem?_cons_succ, List.getElem?_cons_zero, bind_ok, thenS_ok, thenI_ok, List.length_cons, List.length_nil, Nat.reduceAdd, Nat.reduceSub, Nat.reduceLT, Nat.reduceLeDiff, Nat.zero_le, if_true, om_some, List.set_cons_succ, List.set_cons_zero, bm_bl, Bool.not_true, Bool.not_false, Bool.false_eq_true, if_false, u_add, u_sub, u_neg, u_not, u_lt, u_le, u_gt, u_ge, u_eqI, u_neI, decide_true, decide_false, u_int, u_intb, methF, List.map_cons, List.map_nil, List.replicate, List.cons_append, List.nil_append, h1, isTupD, ln, e, ed]
    | x :: y :: xs, hs => exact _law_is_deed_tup k t0 t1 hs
  | _ =>
    refine fn_same t__law_is_deed rfl ?_
    simp only [R__law_is_deed, F__law_is_deed, u_seq, u_asg, u_call, u_exp, u_if, u_ret, u_setS, u_par, u_nx, nxt_nx, nxt_rt, u_list, u_list0, u_var, u_con, u_bin, u_un1, u_and, u_or, u_chain, u_ite, u_blt, u_tup, u_lst, u_slc, u_opt, u_opt0, im_int, u_nm, u_tgs, u_tgs0, u_tupT, List.getElem?_cons_succ, List.getElem?_cons_zero, bind_ok, thenS_ok, thenI_ok, List.length_cons, List.length_nil, Nat.reduceAdd, Nat.reduceSub, Nat.reduceLT, Nat.reduceLeDiff, Nat.zero_le, if_true, om_some, List.set_cons_succ, List.set_cons_zero, bm_bl, Bool.not_true, Bool.not_false, Bool.false_eq_true, if_false, u_add, u_sub, u_neg, u_not, u_lt, u_le, u_gt, u_ge, u_eqI, u_neI, decide_true, decide_false, u_int, u_intb, methF, List.map_cons, List.map_nil, List.replicate, List.cons_append, List.nil_append, h1, isTupD, dB]

/-! lists of data, made with a pen -/
section
variable (P : D → Prop) (C : Or) (env : Env) (h0 g0 : Hv)
def EgD (f : EF) : Prop := ∀ pen e, PenOk pen → ∃ d pen', PenOk pen' ∧ P d ∧ f C env (hp h0 pen (g0 ++ e)) = .ok d (hp h0 pen' (g0 ++ e))
/-- a new one -/
def EgL (n : Nat) (f : EF) : Prop := ∀ pen e, PenOk pen → ∃ ds pen' e' j, PenOk pen' ∧ ds.length ≤ n ∧ (∀ d ∈ ds, P d) ∧ (g0 ++ e).length ≤ j ∧ (g0 ++ (e ++ e'))[j]? = some (Ob.lst ds) ∧
  f C env (hp h0 pen (g0 ++ e)) = .ok (.ref (h0.length + 1 + j)) (hp h0 pen' (g0 ++ (e ++ e')))
/-- .. that may be there already -/
def EgO (n : Nat) (f : EF) : Prop := ∀ pen e, PenOk pen → ∃ ds pen' e' j, PenOk pen' ∧ ds.length ≤ n ∧ (∀ d ∈ ds, P d) ∧ (g0 ++ (e ++ e'))[j]? = some (Ob.lst ds) ∧
  f C env (hp h0 pen (g0 ++ e)) = .ok (.ref (h0.length + 1 + j)) (hp h0 pen' (g0 ++ (e ++ e')))
end
section
variable {P : D → Prop} {C : Or} {env : Env} {h0 g0 : Hv}
theorem EgD.pure {f : EF} {d : D} (h : ∀ h, f C env h = .ok d h) (s : P d) : EgD P C env h0 g0 f := fun pen e hpn => ⟨d, pen, hpn, s, by rw [h]⟩
theorem EgL.old {n : Nat} {f : EF} (h : EgL P C env h0 g0 n f) : EgO P C env h0 g0 n f := fun pen e hpn => by
  obtain ⟨ds, p, e', j, q1, q2, q3, _, q4, q5⟩ := h pen e hpn
  exact ⟨ds, p, e', j, q1, q2, q3, q4, q5⟩
theorem EgO.var {n i j : Nat} {ds : List D} (hi : env[i]? = some (some (.ref (h0.length + 1 + j)))) (hj : g0[j]? = some (Ob.lst ds)) (hl : ds.length ≤ n) (hs : ∀ d ∈ ds, P d) : EgO P C env h0 g0 n (varF i) := fun pen e hpn => by
  refine ⟨ds, pen, [], j, hpn, hl, hs, ?_, ?_⟩
  · rw [List.getElem?_append_left (List.getElem?_eq_some_iff.1 hj).1]; exact hj
  · rw [u_var, hi, List.append_nil]
theorem egs {fs : List EF} (hf : ∀ f ∈ fs, EgD P C env h0 g0 f) : ∀ pen e, PenOk pen → ∃ ds pen', PenOk pen' ∧ ds.length = fs.length ∧ (∀ d ∈ ds, P d) ∧ listF fs C env (hp h0 pen (g0 ++ e)) = .ok ds (hp h0 pen' (g0 ++ e)) := by
  induction fs with
  | nil => intro pen e hpn; exact ⟨[], pen, hpn, rfl, by simp, rfl⟩
  | cons f fs ih =>
    intro pen e hpn
    obtain ⟨d, p1, hp1, s1, r1⟩ := hf f (by simp) pen e hpn
    obtain ⟨ds, p2, hp2, l2, s2, r2⟩ := ih (fun f hf' => hf f (by simp [hf'])) p1 e hp1
    refine ⟨d :: ds, p2, hp2, by simp [l2], ?_, ?_⟩
    · intro x hx
      rcases List.mem_cons.1 hx with rfl | hx
      · exact s1
      · exact s2 x hx
    · rw [u_list, r1, bind_ok, r2, bind_ok]
theorem EgL.lst {fs : List EF} (hf : ∀ f ∈ fs, EgD P C env h0 g0 f) (hl : fs.length ≤ 1000000) : EgL P C env h0 g0 fs.length (lstF fs) := fun pen e hpn => by
  obtain ⟨ds, p, hp1, l1, s1, r1⟩ := egs hf pen e hpn
  refine ⟨ds, p, [.lst ds], (g0 ++ e).length, hp1, by omega, s1, Nat.le_refl _, ?_, ?_⟩
  · have : g0 ++ (e ++ [Ob.lst ds]) = (g0 ++ e) ++ [Ob.lst ds] := by simp
    rw [this]; simp
  · rw [u_lst, r1, bind_ok, if_pos (by omega), hp_len, hp_app]
    simp
theorem EgL.add {n m : Nat} {f f2 : EF} (a : EgO P C env h0 g0 n f) (b : EgO P C env h0 g0 m f2) (hl : n + m ≤ 1000000) : EgL P C env h0 g0 (n + m) (binF opAdd f f2) := fun pen e hpn => by
  obtain ⟨ds, p1, e1, j1, hp1, l1, s1, g1, r1⟩ := a pen e hpn
  obtain ⟨es, p2, e2, j2, hp2, l2, s2, g2, r2⟩ := b p1 (e ++ e1) hp1
  have at1 : (g0 ++ (e ++ e1 ++ e2))[j1]? = some (Ob.lst ds) := by
    have : g0 ++ (e ++ e1 ++ e2) = (g0 ++ (e ++ e1)) ++ e2 := by simp
    rw [this, List.getElem?_append_left (List.getElem?_eq_some_iff.1 g1).1]; exact g1
  refine ⟨ds ++ es, p2, e1 ++ e2 ++ [.lst (ds ++ es)], (g0 ++ (e ++ e1 ++ e2)).length, hp2, by rw [List.length_append]; omega, ?_, by simp, ?_, ?_⟩
  · intro d hd
    rcases List.mem_append.1 hd with hd | hd
    · exact s1 d hd
    · exact s2 d hd
  · have : g0 ++ (e ++ (e1 ++ e2 ++ [Ob.lst (ds ++ es)])) = (g0 ++ (e ++ e1 ++ e2)) ++ [Ob.lst (ds ++ es)] := by simp
    rw [this]; simp
  · rw [u_bin, r1, bind_ok, r2, bind_ok, u_addR]
    have q1 : (hp h0 p2 (g0 ++ (e ++ e1 ++ e2)))[h0.length + 1 + j1]? = some (.lst ds) := by rw [hp_get1]; exact at1
    have q2 : (hp h0 p2 (g0 ++ (e ++ e1 ++ e2)))[h0.length + 1 + j2]? = some (.lst es) := by rw [hp_get1]; exact g2
    rw [q1, lo_lst, q2, lo_lst, if_pos (by omega), hp_len, hp_app]
    simp
/-- told at the base: the new list, the new base -/
theorem EgL.asg {n i : Nat} {f : EF} (a : EgL P C env h0 g0 n f) (hi : i < env.length) {pen : List D} (hpn : PenOk pen) :
    ∃ ds pen' e j, PenOk pen' ∧ ds.length ≤ n ∧ (∀ d ∈ ds, P d) ∧ g0.length ≤ j ∧ (g0 ++ e)[j]? = some (Ob.lst ds) ∧ asgS (nmT i) f C env (hp h0 pen g0) = .nx (env.set i (some (.ref (h0.length + 1 + j)))) (hp h0 pen' (g0 ++ e)) := by
  obtain ⟨ds, p1, e1, j, hp1, l1, s1, n1, g1, r1⟩ := a pen [] hpn
  rw [List.append_nil] at r1 n1
  rw [List.nil_append] at g1 r1
  refine ⟨ds, p1, e1, j, hp1, l1, s1, n1, g1, ?_⟩
  rw [u_asg, r1, thenS_ok, u_nm, if_pos hi, om_some]
theorem EgL.ret {n : Nat} {f : EF} (a : EgL P C env h0 g0 n f) {pen : List D} (hpn : PenOk pen) :
    ∃ ds pen' e j, PenOk pen' ∧ ds.length ≤ n ∧ (∀ d ∈ ds, P d) ∧ g0.length ≤ j ∧ (g0 ++ e)[j]? = some (Ob.lst ds) ∧ retS f C env (hp h0 pen g0) = .rt (.ref (h0.length + 1 + j)) (hp h0 pen' (g0 ++ e)) := by
  obtain ⟨ds, p1, e1, j, hp1, l1, s1, n1, g1, r1⟩ := a pen [] hpn
  rw [List.append_nil] at r1 n1
  rw [List.nil_append] at g1 r1
  refine ⟨ds, p1, e1, j, hp1, l1, s1, n1, g1, ?_⟩
  rw [u_ret, r1, thenS_ok]
end
theorem gc_new {h0 g e : Hv} {pen pen' : List D} {j : Nat} {ds : List D} (hpn : D.grs pen' = true) (hj : g.length ≤ j) (hd : (g ++ e)[j]? = some (Ob.lst ds)) (hg : D.grs ds = true) :
    gc (hp h0 pen g) (.ref (h0.length + 1 + j)) (hp h0 pen' (g ++ e)) = .ok (.ref (h0.length + 1 + g.length)) (hp h0 pen' (g ++ [.lst ds])) := by
  obtain ⟨i, rfl⟩ : ∃ i, j = g.length + i := ⟨j - g.length, by omega⟩
  have hi : e[i]? = some (.lst ds) := by rwa [List.getElem?_append_right (by omega), Nat.add_sub_cancel_left] at hd
  have z := gc_ref (h := hp h0 pen g) (h1 := hp h0 pen' g) (g := e) (i := i) (ds := ds) (by simp) (fun k hk => by
    rcases Nat.lt_trichotomy k h0.length with q | q | q
    · left; rw [hp, hp, List.getElem?_append_left q, List.getElem?_append_left q]
    · right; exact ⟨.lst pen', by rw [q]; exact hp_get .., hpn⟩
    · left
      obtain ⟨m, rfl⟩ : ∃ m, k = h0.length + 1 + m := ⟨k - (h0.length + 1), by omega⟩
      rw [hp_get1, hp_get1]) hi hg
  rw [hp_app, hp_app, hp_len] at z
  rw [← Nat.add_assoc]
  exact z
theorem Og.gr {m : Nat} {d : D} (o : Og m d) : d.gr = true := by
  induction o with
  | int m i hi => rfl
  | str m w hw => rfl
  | tup m ds hl _ ih =>
    have : ∀ ds : List D, (∀ d ∈ ds, d.gr = true) → D.grs ds = true := by
      intro ds
      induction ds with
      | nil => intro _; rfl
      | cons d ds ih2 => intro h; simp only [D.grs, h d (by simp), ih2 fun x hx => h x (by simp [hx]), Bool.and_self]
    simp only [D.gr]
    exact this ds ih
theorem grs_of {ds : List D} (h : ∀ d ∈ ds, d.gr = true) : D.grs ds = true := by
  induction ds with
  | nil => rfl
  | cons d ds ih => simp only [D.grs, h d (by simp), ih fun x hx => h x (by simp [hx]), Bool.and_self]

/-! small data, piece by piece -/
def SmlL (H : Hv) (ds : List D) : Prop := ∀ d ∈ ds, Sml H d
theorem smlL_nil (H : Hv) : SmlL H [] := fun _ h => by cases h
theorem smlL_cons {H : Hv} {d : D} {ds : List D} (a : Sml H d) (b : SmlL H ds) : SmlL H (d :: ds) := fun x hx => by
  rcases List.mem_cons.1 hx with rfl | hx
  · exact a
  · exact b x hx
theorem sml_tupL {H : Hv} {ds : List D} (a : SmlL H ds) (hl : ds.length ≤ 100) : Sml H (.tup ds) := .tup ds hl a
theorem sml_i (H : Hv) {i : Int} (h0 : -1000 ≤ i) (h1 : i ≤ 1000) : Sml H (.int i) := .int i (Nat.lt_of_le_of_lt (show _ ≤ 1000 by omega) (by decide))
theorem sml_rep (H : Hv) {n : Nat} {v : Int} (hn : n ≤ 100) (h0 : -1000 ≤ v) (h1 : v ≤ 1000) : Sml H (.tup (List.replicate n (.int v))) := .tup _ (by simpa using hn) fun d hd => by
  rw [List.eq_of_mem_replicate hd]
  exact sml_i H h0 h1
def OgL (m : Nat) (ds : List D) : Prop := ∀ d ∈ ds, Og m d
theorem ogL_nil (m : Nat) : OgL m [] := fun _ h => by cases h
theorem ogL_cons {m : Nat} {d : D} {ds : List D} (a : Og m d) (b : OgL m ds) : OgL m (d :: ds) := fun x hx => by
  rcases List.mem_cons.1 hx with rfl | hx
  · exact a
  · exact b x hx
theorem og_tupL {m : Nat} {ds : List D} (a : OgL m ds) (hl : ds.length ≤ 50) : Og (m + 1) (.tup ds) := .tup m ds hl a
theorem og_i (m : Nat) {i : Int} (h0 : -1000 ≤ i) (h1 : i ≤ 1000) : Og m (.int i) := .int m i (Nat.lt_of_le_of_lt (show _ ≤ 1000 by omega) (by decide))
theorem og_p (m : Nat) {i : Int} (h0 : 1 ≤ i) (h1 : i < 2 ^ 131) : Og m (.int i) := .int m i (by
  have e : i.natAbs < 2 ^ 131 := by omega
  exact Nat.lt_trans e (by decide))
theorem mul_rep {v : Int} {n : Nat} (h1 : 1 ≤ n) (h2 : n ≤ 6) (h : Hv) : opMul (.tup [.int v]) (.int n) h = .ok (.tup (List.replicate n (.int v))) h := by
  have : n = 1 ∨ n = 2 ∨ n = 3 ∨ n = 4 ∨ n = 5 ∨ n = 6 := by omega
  rcases this with rfl | rfl | rfl | rfl | rfl | rfl <;> simp [opMul, List.replicate]
theorem mul_rep1 {v : Int} {n : Nat} (h2 : n ≤ 5) (h : Hv) : opMul (.tup [.int v]) (.int ((n : Int) + 1)) h = .ok (.tup (List.replicate (n + 1) (.int v))) h := by
  have e : ((n : Int) + 1) = ((n + 1 : Nat) : Int) := by omega
  rw [e]
  exact mul_rep (by omega) (by omega) h
theorem EvL.asgE {C : Or} {env : Env} {h0 g0 : Hv} {n i : Nat} {f : EF} (a : EvL C env h0 g0 n f) (hi : i < env.length) {pen : List D} (hpn : PenOk pen) :
    ∃ ds pen' e j, PenOk pen' ∧ ds.length ≤ n ∧ (∀ d ∈ ds, Sml (hp h0 pen' (g0 ++ e)) d) ∧ (g0 ++ e)[j]? = some (Ob.lst ds) ∧ asgS (nmT i) f C env (hp h0 pen g0) = .nx (env.set i (some (.ref (h0.length + 1 + j)))) (hp h0 pen' (g0 ++ e)) := by
  obtain ⟨ds, p1, e1, j, hp1, l1, s1, g1, r1⟩ := a pen [] hpn
  rw [List.append_nil] at r1
  rw [List.nil_append] at s1 g1 r1
  refine ⟨ds, p1, e1, j, hp1, l1, s1, g1, ?_⟩
  rw [u_asg, r1, thenS_ok, u_nm, if_pos hi, om_some]

def PS (d : D) : Prop := d.gr = true ∧ ∀ H, Sml H d
theorem _law_bounds_ok (k : Nat) (h0 : Hv) (pen : List D) (g : Hv) (P K : Nat) (B x y : Int) (hold : List Rat) (P2 : P ≤ 4) (K1 : 1 ≤ K) (K2 : K ≤ 5) (hpn : PenOk pen) :
    ∃ ds pen', PenOk pen' ∧ ds.length ≤ 23 ∧ (∀ d ∈ ds, PS d) ∧ callK T (k + 1) "_law_bounds" [trD P K B hold x y] (hp h0 pen g) = .ok (.ref (h0.length + 1 + g.length)) (hp h0 pen' (g ++ [Ob.lst ds])) := by
  have x0 : ∀ h, opIx (trD P K B hold x y) (.int 0) h = .ok (.int P) h := fun h => by simp [trD]
  have x1 : ∀ h, opIx (trD P K B hold x y) (.int 1) h = .ok (.int K) h := fun h => by simp [trD]
  have m0 : ∀ (v : Int) h, opMul (.tup [.int v]) (.int K) h = .ok (.tup (List.replicate K (.int v))) h := fun v h => mul_rep K1 (by omega) h
  have m1 : ∀ (v : Int) h, opMul (.tup [.int v]) (.int ((K : Int) + 1)) h = .ok (.tup (List.replicate (K + 1) (.int v))) h := fun v h => mul_rep1 K2 h
  have gr : ∀ (n : Nat) (v : Int), D.grs (List.replicate n (.int v)) = true := fun n v => grs_of fun d hd => by rw [List.eq_of_mem_replicate hd]; rfl
  generalize htr : trD P K B hold x y = tr at *
  obtain ⟨d0, q0, e0, j0, hq0, l0, s0, n0, at0, r0⟩ := EgL.asg (P := PS) (C := callK T k) (env := [some tr, none]) (h0 := h0) (g0 := g) (n := 4) (i := 1) (f := (lstF [(tupF [(conF (.str "pool")), (conF (.int 1)), (conF (.int 1))]), (tupF [(conF (.str "trade")), (conF (.int 10)), (conF (.int 0)), (conF (.int 1)), (conF (.int 0)), (conF (.int 1))]), (tupF [(conF (.str "trade")), (un1F opNeg (conF (.int 1))), (conF (.int 0)), (conF (.int 1)), (conF (.int 0)), (conF (.int 1))]), (tupF [(conF (.str "bring")), (binF opIx (varF 0) (conF (.int 0))), (conF (.int 0)), (conF (.int 1))])]))
    (EgL.lst (fs := [(tupF [(conF (.str "pool")), (conF (.int 1)), (conF (.int 1))]), (tupF [(conF (.str "trade")), (conF (.int 10)), (conF (.int 0)), (conF (.int 1)), (conF (.int 0)), (conF (.int 1))]), (tupF [(conF (.str "trade")), (un1F opNeg (conF (.int 1))), (conF (.int 0)), (conF (.int 1)), (conF (.int 0)), (conF (.int 1))]), (tupF [(conF (.str "bring")), (binF opIx (varF 0) (conF (.int 0))), (conF (.int 0)), (conF (.int 1))])]) (by
      intro f hf
      simp only [List.mem_cons, List.not_mem_nil, or_false] at hf
      rcases hf with rfl | rfl | rfl | rfl
      · exact EgD.pure (d := .tup [.str "pool", .int 1, .int 1]) (fun h => by simp only [u_seq, u_asg, u_call, u_exp, u_if, u_ret, u_setS, u_par, u_nx, nxt_nx, nxt_rt, u_list, u_list0, u_var, u_con, u_bin, u_un1, u_and, u_or, u_chain, u_ite, u_blt, u_tup, u_lst, u_slc, u_opt, u_opt0, im_int, u_nm, u_tgs, u_tgs0, u_tupT, List.getElem?_cons_succ, List.getElem?_cons_zero, bind_ok, thenS_ok, thenI_ok, List.length_cons, List.length_nil, Nat.reduceAdd, Nat.reduceSub, Nat.reduceLT, Nat.reduceLeDiff, Nat.zero_le, if_true, om_some, List.set_cons_succ, List.set_cons_zero, bm_bl, Bool.not_true, Bool.not_false, Bool.false_eq_true, if_false, u_add, u_sub, u_neg, u_not, u_lt, u_le, u_gt, u_ge, u_eqI, u_neI, decide_true, decide_false, u_int, u_intb, methF, List.map_cons, List.map_nil, List.replicate, List.cons_append, List.nil_append, x0, x1, m0, m1]) ⟨by simp [D.gr, D.grs, gr], fun H => by (repeat' (first | assumption | exact smlL_nil _ | refine smlL_cons ?_ ?_ | exact Sml.bl _ | exact Sml.non | exact Sml.str _ (by decide +kernel) | exact sml_i _ (by omega) (by omega) | exact sml_rep _ (by omega) (by decide) (by decide) | refine sml_tupL ?_ (by simp)))⟩
      · exact EgD.pure (d := .tup [.str "trade", .int 10, .int 0, .int 1, .int 0, .int 1]) (fun h => by simp only [u_seq, u_asg, u_call, u_exp, u_if, u_ret, u_setS, u_par, u_nx, nxt_nx, nxt_rt, u_list, u_list0, u_var, u_con, u_bin, u_un1, u_and, u_or, u_chain, u_ite, u_blt, u_tup, u_lst, u_slc, u_opt, u_opt0, im_int, u_nm, u_tgs, u_tgs0, u_tupT, List.getElem?_cons_succ, List.getElem?_cons_zero, bind_ok, thenS_ok, thenI_ok, List.length_cons, List.length_nil, Nat.reduceAdd, Nat.reduceSub, Nat.reduceLT, Nat.reduceLeDiff, Nat.zero_le, if_true, om_some, List.set_cons_succ, List.set_cons_zero, bm_bl, Bool.not_true, Bool.not_false, Bool.false_eq_true, if_false, u_add, u_sub, u_neg, u_not, u_lt, u_le, u_gt, u_ge, u_eqI, u_neI, decide_true, decide_false, u_int, u_intb, methF, List.map_cons, List.map_nil, List.replicate, List.cons_append, List.nil_append, x0, x1, m0, m1]) ⟨by simp [D.gr, D.grs, gr], fun H => by (repeat' (first | assumption | exact smlL_nil _ | refine smlL_cons ?_ ?_ | exact Sml.bl _ | exact Sml.non | exact Sml.str _ (by decide +kernel) | exact sml_i _ (by omega) (by omega) | exact sml_rep _ (by omega) (by decide) (by decide) | refine sml_tupL ?_ (by simp)))⟩
      · exact EgD.pure (d := .tup [.str "trade", .int (-1), .int 0, .int 1, .int 0, .int 1]) (fun h => by simp only [u_seq, u_asg, u_call, u_exp, u_if, u_ret, u_setS, u_par, u_nx, nxt_nx, nxt_rt, u_list, u_list0, u_var, u_con, u_bin, u_un1, u_and, u_or, u_chain, u_ite, u_blt, u_tup, u_lst, u_slc, u_opt, u_opt0, im_int, u_nm, u_tgs, u_tgs0, u_tupT, List.getElem?_cons_succ, List.getElem?_cons_zero, bind_ok, thenS_ok, thenI_ok, List.length_cons, List.length_nil, Nat.reduceAdd, Nat.reduceSub, Nat.reduceLT, Nat.reduceLeDiff, Nat.zero_le, if_true, om_some, List.set_cons_succ, List.set_cons_zero, bm_bl, Bool.not_true, Bool.not_false, Bool.false_eq_true, if_false, u_add, u_sub, u_neg, u_not, u_lt, u_le, u_gt, u_ge, u_eqI, u_neI, decide_true, decide_false, u_int, u_intb, methF, List.map_cons, List.map_nil, List.replicate, List.cons_append, List.nil_append, x0, x1, m0, m1]) ⟨by simp [D.gr, D.grs, gr], fun H => by (repeat' (first | assumption | exact smlL_nil _ | refine smlL_cons ?_ ?_ | exact Sml.bl _ | exact Sml.non | exact Sml.str _ (by decide +kernel) | exact sml_i _ (by omega) (by omega) | exact sml_rep _ (by omega) (by decide) (by decide) | refine sml_tupL ?_ (by simp)))⟩
      · exact EgD.pure (d := .tup [.str "bring", .int P, .int 0, .int 1]) (fun h => by simp only [u_seq, u_asg, u_call, u_exp, u_if, u_ret, u_setS, u_par, u_nx, nxt_nx, nxt_rt, u_list, u_list0, u_var, u_con, u_bin, u_un1, u_and, u_or, u_chain, u_ite, u_blt, u_tup, u_lst, u_slc, u_opt, u_opt0, im_int, u_nm, u_tgs, u_tgs0, u_tupT, List.getElem?_cons_succ, List.getElem?_cons_zero, bind_ok, thenS_ok, thenI_ok, List.length_cons, List.length_nil, Nat.reduceAdd, Nat.reduceSub, Nat.reduceLT, Nat.reduceLeDiff, Nat.zero_le, if_true, om_some, List.set_cons_succ, List.set_cons_zero, bm_bl, Bool.not_true, Bool.not_false, Bool.false_eq_true, if_false, u_add, u_sub, u_neg, u_not, u_lt, u_le, u_gt, u_ge, u_eqI, u_neI, decide_true, decide_false, u_int, u_intb, methF, List.map_cons, List.map_nil, List.replicate, List.cons_append, List.nil_append, x0, x1, m0, m1]) ⟨by simp [D.gr, D.grs, gr], fun H => by (repeat' (first | assumption | exact smlL_nil _ | refine smlL_cons ?_ ?_ | exact Sml.bl _ | exact Sml.non | exact Sml.str _ (by decide +kernel) | exact sml_i _ (by omega) (by omega) | exact sml_rep _ (by omega) (by decide) (by decide) | refine sml_tupL ?_ (by simp)))⟩
      ) (by decide)) (by simp) hpn
  obtain ⟨d1, q1, e1, j1, hq1, l1, s1, n1, at1, r1⟩ := EgL.asg (P := PS) (C := callK T k) (env := [some tr, some (.ref (h0.length + 1 + j0))]) (h0 := h0) (g0 := (g ++ e0)) (n := 4 + 4) (i := 1) (f := (binF opAdd (varF 1) (lstF [(tupF [(conF (.str "bring")), (conF (.int 0)), (binF opIx (varF 0) (conF (.int 1))), (conF (.int 1))]), (tupF [(conF (.str "bring")), (conF (.int 0)), (conF (.int 0)), (conF (.int 0))]), (tupF [(conF (.str "swap")), (conF (.int 0)), (conF (.int 0)), (conF (.int 0)), (conF (.int 1))]), (tupF [(conF (.str "swap")), (conF (.int 0)), (conF (.int 1)), (binF opIx (varF 0) (conF (.int 1))), (conF (.int 1))])])))
    (EgL.add (EgO.var rfl at0 l0 s0) (EgL.old (EgL.lst (fs := [(tupF [(conF (.str "bring")), (conF (.int 0)), (binF opIx (varF 0) (conF (.int 1))), (conF (.int 1))]), (tupF [(conF (.str "bring")), (conF (.int 0)), (conF (.int 0)), (conF (.int 0))]), (tupF [(conF (.str "swap")), (conF (.int 0)), (conF (.int 0)), (conF (.int 0)), (conF (.int 1))]), (tupF [(conF (.str "swap")), (conF (.int 0)), (conF (.int 1)), (binF opIx (varF 0) (conF (.int 1))), (conF (.int 1))])]) (by
      intro f hf
      simp only [List.mem_cons, List.not_mem_nil, or_false] at hf
      rcases hf with rfl | rfl | rfl | rfl
      · exact EgD.pure (d := .tup [.str "bring", .int 0, .int K, .int 1]) (fun h => by simp only [u_seq, u_asg, u_call, u_exp, u_if, u_ret, u_setS, u_par, u_nx, nxt_nx, nxt_rt, u_list, u_list0, u_var, u_con, u_bin, u_un1, u_and, u_or, u_chain, u_ite, u_blt, u_tup, u_lst, u_slc, u_opt, u_opt0, im_int, u_nm, u_tgs, u_tgs0, u_tupT, List.getElem?_cons_succ, List.getElem?_cons_zero, bind_ok, thenS_ok, thenI_ok, List.length_cons, List.length_nil, Nat.reduceAdd, Nat.reduceSub, Nat.reduceLT, Nat.reduceLeDiff, Nat.zero_le, if_true, om_some, List.set_cons_succ, List.set_cons_zero, bm_bl, Bool.not_true, Bool.not_false, Bool.false_eq_true, if_false, u_add, u_sub, u_neg, u_not, u_lt, u_le, u_gt, u_ge, u_eqI, u_neI, decide_true, decide_false, u_int, u_intb, methF, List.map_cons, List.map_nil, List.replicate, List.cons_append, List.nil_append, x0, x1, m0, m1]) ⟨by simp [D.gr, D.grs, gr], fun H => by (repeat' (first | assumption | exact smlL_nil _ | refine smlL_cons ?_ ?_ | exact Sml.bl _ | exact Sml.non | exact Sml.str _ (by decide +kernel) | exact sml_i _ (by omega) (by omega) | exact sml_rep _ (by omega) (by decide) (by decide) | refine sml_tupL ?_ (by simp)))⟩
      · exact EgD.pure (d := .tup [.str "bring", .int 0, .int 0, .int 0]) (fun h => by simp only [u_seq, u_asg, u_call, u_exp, u_if, u_ret, u_setS, u_par, u_nx, nxt_nx, nxt_rt, u_list, u_list0, u_var, u_con, u_bin, u_un1, u_and, u_or, u_chain, u_ite, u_blt, u_tup, u_lst, u_slc, u_opt, u_opt0, im_int, u_nm, u_tgs, u_tgs0, u_tupT, List.getElem?_cons_succ, List.getElem?_cons_zero, bind_ok, thenS_ok, thenI_ok, List.length_cons, List.length_nil, Nat.reduceAdd, Nat.reduceSub, Nat.reduceLT, Nat.reduceLeDiff, Nat.zero_le, if_true, om_some, List.set_cons_succ, List.set_cons_zero, bm_bl, Bool.not_true, Bool.not_false, Bool.false_eq_true, if_false, u_add, u_sub, u_neg, u_not, u_lt, u_le, u_gt, u_ge, u_eqI, u_neI, decide_true, decide_false, u_int, u_intb, methF, List.map_cons, List.map_nil, List.replicate, List.cons_append, List.nil_append, x0, x1, m0, m1]) ⟨by simp [D.gr, D.grs, gr], fun H => by (repeat' (first | assumption | exact smlL_nil _ | refine smlL_cons ?_ ?_ | exact Sml.bl _ | exact Sml.non | exact Sml.str _ (by decide +kernel) | exact sml_i _ (by omega) (by omega) | exact sml_rep _ (by omega) (by decide) (by decide) | refine sml_tupL ?_ (by simp)))⟩
      · exact EgD.pure (d := .tup [.str "swap", .int 0, .int 0, .int 0, .int 1]) (fun h => by simp only [u_seq, u_asg, u_call, u_exp, u_if, u_ret, u_setS, u_par, u_nx, nxt_nx, nxt_rt, u_list, u_list0, u_var, u_con, u_bin, u_un1, u_and, u_or, u_chain, u_ite, u_blt, u_tup, u_lst, u_slc, u_opt, u_opt0, im_int, u_nm, u_tgs, u_tgs0, u_tupT, List.getElem?_cons_succ, List.getElem?_cons_zero, bind_ok, thenS_ok, thenI_ok, List.length_cons, List.length_nil, Nat.reduceAdd, Nat.reduceSub, Nat.reduceLT, Nat.reduceLeDiff, Nat.zero_le, if_true, om_some, List.set_cons_succ, List.set_cons_zero, bm_bl, Bool.not_true, Bool.not_false, Bool.false_eq_true, if_false, u_add, u_sub, u_neg, u_not, u_lt, u_le, u_gt, u_ge, u_eqI, u_neI, decide_true, decide_false, u_int, u_intb, methF, List.map_cons, List.map_nil, List.replicate, List.cons_append, List.nil_append, x0, x1, m0, m1]) ⟨by simp [D.gr, D.grs, gr], fun H => by (repeat' (first | assumption | exact smlL_nil _ | refine smlL_cons ?_ ?_ | exact Sml.bl _ | exact Sml.non | exact Sml.str _ (by decide +kernel) | exact sml_i _ (by omega) (by omega) | exact sml_rep _ (by omega) (by decide) (by decide) | refine sml_tupL ?_ (by simp)))⟩
      · exact EgD.pure (d := .tup [.str "swap", .int 0, .int 1, .int K, .int 1]) (fun h => by simp only [u_seq, u_asg, u_call, u_exp, u_if, u_ret, u_setS, u_par, u_nx, nxt_nx, nxt_rt, u_list, u_list0, u_var, u_con, u_bin, u_un1, u_and, u_or, u_chain, u_ite, u_blt, u_tup, u_lst, u_slc, u_opt, u_opt0, im_int, u_nm, u_tgs, u_tgs0, u_tupT, List.getElem?_cons_succ, List.getElem?_cons_zero, bind_ok, thenS_ok, thenI_ok, List.length_cons, List.length_nil, Nat.reduceAdd, Nat.reduceSub, Nat.reduceLT, Nat.reduceLeDiff, Nat.zero_le, if_true, om_some, List.set_cons_succ, List.set_cons_zero, bm_bl, Bool.not_true, Bool.not_false, Bool.false_eq_true, if_false, u_add, u_sub, u_neg, u_not, u_lt, u_le, u_gt, u_ge, u_eqI, u_neI, decide_true, decide_false, u_int, u_intb, methF, List.map_cons, List.map_nil, List.replicate, List.cons_append, List.nil_append, x0, x1, m0, m1]) ⟨by simp [D.gr, D.grs, gr], fun H => by (repeat' (first | assumption | exact smlL_nil _ | refine smlL_cons ?_ ?_ | exact Sml.bl _ | exact Sml.non | exact Sml.str _ (by decide +kernel) | exact sml_i _ (by omega) (by omega) | exact sml_rep _ (by omega) (by decide) (by decide) | refine sml_tupL ?_ (by simp)))⟩
      ) (by decide))) (by decide)) (by simp) hq0
  obtain ⟨d2, q2, e2, j2, hq2, l2, s2, n2, at2, r2⟩ := EgL.asg (P := PS) (C := callK T k) (env := [some tr, some (.ref (h0.length + 1 + j1))]) (h0 := h0) (g0 := (g ++ e0 ++ e1)) (n := 8 + 4) (i := 1) (f := (binF opAdd (varF 1) (lstF [(tupF [(conF (.str "swap")), (conF (.int 0)), (conF (.int 1)), (conF (.int 0)), (conF (.int 0))]), (tupF [(conF (.str "swap")), (un1F opNeg (conF (.int 1))), (conF (.int 1)), (conF (.int 0)), (conF (.int 1))]), (tupF [(conF (.str "spoil")), (conF (.int 0)), (conF (.int 0))]), (tupF [(conF (.str "sell")), (conF (.int 0)), (conF (.int 0)), (tupF [(conF (.int 1)), (conF (.int 1))])])])))
    (EgL.add (EgO.var rfl at1 l1 s1) (EgL.old (EgL.lst (fs := [(tupF [(conF (.str "swap")), (conF (.int 0)), (conF (.int 1)), (conF (.int 0)), (conF (.int 0))]), (tupF [(conF (.str "swap")), (un1F opNeg (conF (.int 1))), (conF (.int 1)), (conF (.int 0)), (conF (.int 1))]), (tupF [(conF (.str "spoil")), (conF (.int 0)), (conF (.int 0))]), (tupF [(conF (.str "sell")), (conF (.int 0)), (conF (.int 0)), (tupF [(conF (.int 1)), (conF (.int 1))])])]) (by
      intro f hf
      simp only [List.mem_cons, List.not_mem_nil, or_false] at hf
      rcases hf with rfl | rfl | rfl | rfl
      · exact EgD.pure (d := .tup [.str "swap", .int 0, .int 1, .int 0, .int 0]) (fun h => by simp only [u_seq, u_asg, u_call, u_exp, u_if, u_ret, u_setS, u_par, u_nx, nxt_nx, nxt_rt, u_list, u_list0, u_var, u_con, u_bin, u_un1, u_and, u_or, u_chain, u_ite, u_blt, u_tup, u_lst, u_slc, u_opt, u_opt0, im_int, u_nm, u_tgs, u_tgs0, u_tupT, List.getElem?_cons_succ, List.getElem?_cons_zero, bind_ok, thenS_ok, thenI_ok, List.length_cons, List.length_nil, Nat.reduceAdd, Nat.reduceSub, Nat.reduceLT, Nat.reduceLeDiff, Nat.zero_le, if_true, om_some, List.set_cons_succ, List.set_cons_zero, bm_bl, Bool.not_true, Bool.not_false, Bool.false_eq_true, if_false, u_add, u_sub, u_neg, u_not, u_lt, u_le, u_gt, u_ge, u_eqI, u_neI, decide_true, decide_false, u_int, u_intb, methF, List.map_cons, List.map_nil, List.replicate, List.cons_append, List.nil_append, x0, x1, m0, m1]) ⟨by simp [D.gr, D.grs, gr], fun H => by (repeat' (first | assumption | exact smlL_nil _ | refine smlL_cons ?_ ?_ | exact Sml.bl _ | exact Sml.non | exact Sml.str _ (by decide +kernel) | exact sml_i _ (by omega) (by omega) | exact sml_rep _ (by omega) (by decide) (by decide) | refine sml_tupL ?_ (by simp)))⟩
      · exact EgD.pure (d := .tup [.str "swap", .int (-1), .int 1, .int 0, .int 1]) (fun h => by simp only [u_seq, u_asg, u_call, u_exp, u_if, u_ret, u_setS, u_par, u_nx, nxt_nx, nxt_rt, u_list, u_list0, u_var, u_con, u_bin, u_un1, u_and, u_or, u_chain, u_ite, u_blt, u_tup, u_lst, u_slc, u_opt, u_opt0, im_int, u_nm, u_tgs, u_tgs0, u_tupT, List.getElem?_cons_succ, List.getElem?_cons_zero, bind_ok, thenS_ok, thenI_ok, List.length_cons, List.length_nil, Nat.reduceAdd, Nat.reduceSub, Nat.reduceLT, Nat.reduceLeDiff, Nat.zero_le, if_true, om_some, List.set_cons_succ, List.set_cons_zero, bm_bl, Bool.not_true, Bool.not_false, Bool.false_eq_true, if_false, u_add, u_sub, u_neg, u_not, u_lt, u_le, u_gt, u_ge, u_eqI, u_neI, decide_true, decide_false, u_int, u_intb, methF, List.map_cons, List.map_nil, List.replicate, List.cons_append, List.nil_append, x0, x1, m0, m1]) ⟨by simp [D.gr, D.grs, gr], fun H => by (repeat' (first | assumption | exact smlL_nil _ | refine smlL_cons ?_ ?_ | exact Sml.bl _ | exact Sml.non | exact Sml.str _ (by decide +kernel) | exact sml_i _ (by omega) (by omega) | exact sml_rep _ (by omega) (by decide) (by decide) | refine sml_tupL ?_ (by simp)))⟩
      · exact EgD.pure (d := .tup [.str "spoil", .int 0, .int 0]) (fun h => by simp only [u_seq, u_asg, u_call, u_exp, u_if, u_ret, u_setS, u_par, u_nx, nxt_nx, nxt_rt, u_list, u_list0, u_var, u_con, u_bin, u_un1, u_and, u_or, u_chain, u_ite, u_blt, u_tup, u_lst, u_slc, u_opt, u_opt0, im_int, u_nm, u_tgs, u_tgs0, u_tupT, List.getElem?_cons_succ, List.getElem?_cons_zero, bind_ok, thenS_ok, thenI_ok, List.length_cons, List.length_nil, Nat.reduceAdd, Nat.reduceSub, Nat.reduceLT, Nat.reduceLeDiff, Nat.zero_le, if_true, om_some, List.set_cons_succ, List.set_cons_zero, bm_bl, Bool.not_true, Bool.not_false, Bool.false_eq_true, if_false, u_add, u_sub, u_neg, u_not, u_lt, u_le, u_gt, u_ge, u_eqI, u_neI, decide_true, decide_false, u_int, u_intb, methF, List.map_cons, List.map_nil, List.replicate, List.cons_append, List.nil_append, x0, x1, m0, m1]) ⟨by simp [D.gr, D.grs, gr], fun H => by (repeat' (first | assumption | exact smlL_nil _ | refine smlL_cons ?_ ?_ | exact Sml.bl _ | exact Sml.non | exact Sml.str _ (by decide +kernel) | exact sml_i _ (by omega) (by omega) | exact sml_rep _ (by omega) (by decide) (by decide) | refine sml_tupL ?_ (by simp)))⟩
      · exact EgD.pure (d := .tup [.str "sell", .int 0, .int 0, .tup [.int 1, .int 1]]) (fun h => by simp only [u_seq, u_asg, u_call, u_exp, u_if, u_ret, u_setS, u_par, u_nx, nxt_nx, nxt_rt, u_list, u_list0, u_var, u_con, u_bin, u_un1, u_and, u_or, u_chain, u_ite, u_blt, u_tup, u_lst, u_slc, u_opt, u_opt0, im_int, u_nm, u_tgs, u_tgs0, u_tupT, List.getElem?_cons_succ, List.getElem?_cons_zero, bind_ok, thenS_ok, thenI_ok, List.length_cons, List.length_nil, Nat.reduceAdd, Nat.reduceSub, Nat.reduceLT, Nat.reduceLeDiff, Nat.zero_le, if_true, om_some, List.set_cons_succ, List.set_cons_zero, bm_bl, Bool.not_true, Bool.not_false, Bool.false_eq_true, if_false, u_add, u_sub, u_neg, u_not, u_lt, u_le, u_gt, u_ge, u_eqI, u_neI, decide_true, decide_false, u_int, u_intb, methF, List.map_cons, List.map_nil, List.replicate, List.cons_append, List.nil_append, x0, x1, m0, m1]) ⟨by simp [D.gr, D.grs, gr], fun H => by (repeat' (first | assumption | exact smlL_nil _ | refine smlL_cons ?_ ?_ | exact Sml.bl _ | exact Sml.non | exact Sml.str _ (by decide +kernel) | exact sml_i _ (by omega) (by omega) | exact sml_rep _ (by omega) (by decide) (by decide) | refine sml_tupL ?_ (by simp)))⟩
      ) (by decide))) (by decide)) (by simp) hq1
  obtain ⟨d3, q3, e3, j3, hq3, l3, s3, n3, at3, r3⟩ := EgL.asg (P := PS) (C := callK T k) (env := [some tr, some (.ref (h0.length + 1 + j2))]) (h0 := h0) (g0 := (g ++ e0 ++ e1 ++ e2)) (n := 12 + 2) (i := 1) (f := (binF opAdd (varF 1) (lstF [(tupF [(conF (.str "throw")), (conF (.int 0)), (conF (.int 1)), (binF opMul (tupF [(conF (.int 1))]) (binF opIx (varF 0) (conF (.int 1))))]), (tupF [(conF (.str "throw")), (conF (.int 0)), (conF (.int 1)), (binF opMul (tupF [(conF (.int 100))]) (binF opAdd (binF opIx (varF 0) (conF (.int 1))) (conF (.int 1))))])])))
    (EgL.add (EgO.var rfl at2 l2 s2) (EgL.old (EgL.lst (fs := [(tupF [(conF (.str "throw")), (conF (.int 0)), (conF (.int 1)), (binF opMul (tupF [(conF (.int 1))]) (binF opIx (varF 0) (conF (.int 1))))]), (tupF [(conF (.str "throw")), (conF (.int 0)), (conF (.int 1)), (binF opMul (tupF [(conF (.int 100))]) (binF opAdd (binF opIx (varF 0) (conF (.int 1))) (conF (.int 1))))])]) (by
      intro f hf
      simp only [List.mem_cons, List.not_mem_nil, or_false] at hf
      rcases hf with rfl | rfl
      · exact EgD.pure (d := .tup [.str "throw", .int 0, .int 1, .tup (List.replicate K (.int 1))]) (fun h => by simp only [u_seq, u_asg, u_call, u_exp, u_if, u_ret, u_setS, u_par, u_nx, nxt_nx, nxt_rt, u_list, u_list0, u_var, u_con, u_bin, u_un1, u_and, u_or, u_chain, u_ite, u_blt, u_tup, u_lst, u_slc, u_opt, u_opt0, im_int, u_nm, u_tgs, u_tgs0, u_tupT, List.getElem?_cons_succ, List.getElem?_cons_zero, bind_ok, thenS_ok, thenI_ok, List.length_cons, List.length_nil, Nat.reduceAdd, Nat.reduceSub, Nat.reduceLT, Nat.reduceLeDiff, Nat.zero_le, if_true, om_some, List.set_cons_succ, List.set_cons_zero, bm_bl, Bool.not_true, Bool.not_false, Bool.false_eq_true, if_false, u_add, u_sub, u_neg, u_not, u_lt, u_le, u_gt, u_ge, u_eqI, u_neI, decide_true, decide_false, u_int, u_intb, methF, List.map_cons, List.map_nil, List.replicate, List.cons_append, List.nil_append, x0, x1, m0, m1]) ⟨by simp [D.gr, D.grs, gr], fun H => by (repeat' (first | assumption | exact smlL_nil _ | refine smlL_cons ?_ ?_ | exact Sml.bl _ | exact Sml.non | exact Sml.str _ (by decide +kernel) | exact sml_i _ (by omega) (by omega) | exact sml_rep _ (by omega) (by decide) (by decide) | refine sml_tupL ?_ (by simp)))⟩
      · exact EgD.pure (d := .tup [.str "throw", .int 0, .int 1, .tup (List.replicate (K + 1) (.int 100))]) (fun h => by simp only [u_seq, u_asg, u_call, u_exp, u_if, u_ret, u_setS, u_par, u_nx, nxt_nx, nxt_rt, u_list, u_list0, u_var, u_con, u_bin, u_un1, u_and, u_or, u_chain, u_ite, u_blt, u_tup, u_lst, u_slc, u_opt, u_opt0, im_int, u_nm, u_tgs, u_tgs0, u_tupT, List.getElem?_cons_succ, List.getElem?_cons_zero, bind_ok, thenS_ok, thenI_ok, List.length_cons, List.length_nil, Nat.reduceAdd, Nat.reduceSub, Nat.reduceLT, Nat.reduceLeDiff, Nat.zero_le, if_true, om_some, List.set_cons_succ, List.set_cons_zero, bm_bl, Bool.not_true, Bool.not_false, Bool.false_eq_true, if_false, u_add, u_sub, u_neg, u_not, u_lt, u_le, u_gt, u_ge, u_eqI, u_neI, decide_true, decide_false, u_int, u_intb, methF, List.map_cons, List.map_nil, List.replicate, List.cons_append, List.nil_append, x0, x1, m0, m1]) ⟨by simp [D.gr, D.grs, gr], fun H => by (repeat' (first | assumption | exact smlL_nil _ | refine smlL_cons ?_ ?_ | exact Sml.bl _ | exact Sml.non | exact Sml.str _ (by decide +kernel) | exact sml_i _ (by omega) (by omega) | exact sml_rep _ (by omega) (by decide) (by decide) | refine sml_tupL ?_ (by simp)))⟩
      ) (by decide))) (by decide)) (by simp) hq2
  obtain ⟨d4, q4, e4, j4, hq4, l4, s4, n4, at4, r4⟩ := EgL.asg (P := PS) (C := callK T k) (env := [some tr, some (.ref (h0.length + 1 + j3))]) (h0 := h0) (g0 := (g ++ e0 ++ e1 ++ e2 ++ e3)) (n := 14 + 3) (i := 1) (f := (binF opAdd (varF 1) (lstF [(tupF [(conF (.str "throw")), (conF (.int 0)), (conF (.int 1)), (binF opMul (tupF [(conF (.int 99))]) (binF opAdd (binF opIx (varF 0) (conF (.int 1))) (conF (.int 1))))]), (tupF [(conF (.str "throw")), (conF (.int 0)), (conF (.int 1)), (binF opMul (tupF [(conF (.int 0))]) (binF opAdd (binF opIx (varF 0) (conF (.int 1))) (conF (.int 1))))]), (tupF [(conF (.str "sing")), (conF (.int 0)), (conF (.int 1))])])))
    (EgL.add (EgO.var rfl at3 l3 s3) (EgL.old (EgL.lst (fs := [(tupF [(conF (.str "throw")), (conF (.int 0)), (conF (.int 1)), (binF opMul (tupF [(conF (.int 99))]) (binF opAdd (binF opIx (varF 0) (conF (.int 1))) (conF (.int 1))))]), (tupF [(conF (.str "throw")), (conF (.int 0)), (conF (.int 1)), (binF opMul (tupF [(conF (.int 0))]) (binF opAdd (binF opIx (varF 0) (conF (.int 1))) (conF (.int 1))))]), (tupF [(conF (.str "sing")), (conF (.int 0)), (conF (.int 1))])]) (by
      intro f hf
      simp only [List.mem_cons, List.not_mem_nil, or_false] at hf
      rcases hf with rfl | rfl | rfl
      · exact EgD.pure (d := .tup [.str "throw", .int 0, .int 1, .tup (List.replicate (K + 1) (.int 99))]) (fun h => by simp only [u_seq, u_asg, u_call, u_exp, u_if, u_ret, u_setS, u_par, u_nx, nxt_nx, nxt_rt, u_list, u_list0, u_var, u_con, u_bin, u_un1, u_and, u_or, u_chain, u_ite, u_blt, u_tup, u_lst, u_slc, u_opt, u_opt0, im_int, u_nm, u_tgs, u_tgs0, u_tupT, List.getElem?_cons_succ, List.getElem?_cons_zero, bind_ok, thenS_ok, thenI_ok, List.length_cons, List.length_nil, Nat.reduceAdd, Nat.reduceSub, Nat.reduceLT, Nat.reduceLeDiff, Nat.zero_le, if_true, om_some, List.set_cons_succ, List.set_cons_zero, bm_bl, Bool.not_true, Bool.not_false, Bool.false_eq_true, if_false, u_add, u_sub, u_neg, u_not, u_lt, u_le, u_gt, u_ge, u_eqI, u_neI, decide_true, decide_false, u_int, u_intb, methF, List.map_cons, List.map_nil, List.replicate, List.cons_append, List.nil_append, x0, x1, m0, m1]) ⟨by simp [D.gr, D.grs, gr], fun H => by (repeat' (first | assumption | exact smlL_nil _ | refine smlL_cons ?_ ?_ | exact Sml.bl _ | exact Sml.non | exact Sml.str _ (by decide +kernel) | exact sml_i _ (by omega) (by omega) | exact sml_rep _ (by omega) (by decide) (by decide) | refine sml_tupL ?_ (by simp)))⟩
      · exact EgD.pure (d := .tup [.str "throw", .int 0, .int 1, .tup (List.replicate (K + 1) (.int 0))]) (fun h => by simp only [u_seq, u_asg, u_call, u_exp, u_if, u_ret, u_setS, u_par, u_nx, nxt_nx, nxt_rt, u_list, u_list0, u_var, u_con, u_bin, u_un1, u_and, u_or, u_chain, u_ite, u_blt, u_tup, u_lst, u_slc, u_opt, u_opt0, im_int, u_nm, u_tgs, u_tgs0, u_tupT, List.getElem?_cons_succ, List.getElem?_cons_zero, bind_ok, thenS_ok, thenI_ok, List.length_cons, List.length_nil, Nat.reduceAdd, Nat.reduceSub, Nat.reduceLT, Nat.reduceLeDiff, Nat.zero_le, if_true, om_some, List.set_cons_succ, List.set_cons_zero, bm_bl, Bool.not_true, Bool.not_false, Bool.false_eq_true, if_false, u_add, u_sub, u_neg, u_not, u_lt, u_le, u_gt, u_ge, u_eqI, u_neI, decide_true, decide_false, u_int, u_intb, methF, List.map_cons, List.map_nil, List.replicate, List.cons_append, List.nil_append, x0, x1, m0, m1]) ⟨by simp [D.gr, D.grs, gr], fun H => by (repeat' (first | assumption | exact smlL_nil _ | refine smlL_cons ?_ ?_ | exact Sml.bl _ | exact Sml.non | exact Sml.str _ (by decide +kernel) | exact sml_i _ (by omega) (by omega) | exact sml_rep _ (by omega) (by decide) (by decide) | refine sml_tupL ?_ (by simp)))⟩
      · exact EgD.pure (d := .tup [.str "sing", .int 0, .int 1]) (fun h => by simp only [u_seq, u_asg, u_call, u_exp, u_if, u_ret, u_setS, u_par, u_nx, nxt_nx, nxt_rt, u_list, u_list0, u_var, u_con, u_bin, u_un1, u_and, u_or, u_chain, u_ite, u_blt, u_tup, u_lst, u_slc, u_opt, u_opt0, im_int, u_nm, u_tgs, u_tgs0, u_tupT, List.getElem?_cons_succ, List.getElem?_cons_zero, bind_ok, thenS_ok, thenI_ok, List.length_cons, List.length_nil, Nat.reduceAdd, Nat.reduceSub, Nat.reduceLT, Nat.reduceLeDiff, Nat.zero_le, if_true, om_some, List.set_cons_succ, List.set_cons_zero, bm_bl, Bool.not_true, Bool.not_false, Bool.false_eq_true, if_false, u_add, u_sub, u_neg, u_not, u_lt, u_le, u_gt, u_ge, u_eqI, u_neI, decide_true, decide_false, u_int, u_intb, methF, List.map_cons, List.map_nil, List.replicate, List.cons_append, List.nil_append, x0, x1, m0, m1]) ⟨by simp [D.gr, D.grs, gr], fun H => by (repeat' (first | assumption | exact smlL_nil _ | refine smlL_cons ?_ ?_ | exact Sml.bl _ | exact Sml.non | exact Sml.str _ (by decide +kernel) | exact sml_i _ (by omega) (by omega) | exact sml_rep _ (by omega) (by decide) (by decide) | refine sml_tupL ?_ (by simp)))⟩
      ) (by decide))) (by decide)) (by simp) hq3
  obtain ⟨d5, q5, e5, j5, hq5, l5, s5, n5, at5, r5⟩ := EgL.asg (P := PS) (C := callK T k) (env := [some tr, some (.ref (h0.length + 1 + j4))]) (h0 := h0) (g0 := (g ++ e0 ++ e1 ++ e2 ++ e3 ++ e4)) (n := 17 + 3) (i := 1) (f := (binF opAdd (varF 1) (lstF [(tupF [(conF (.str "sell")), (conF (.int 0)), (binF opIx (varF 0) (conF (.int 0))), (tupF [(conF (.int 1)), (conF (.int 2))])]), (tupF [(conF (.str "sell")), (conF (.int 0)), (conF (.int 1)), (tupF [(conF (.int 1)), (conF (.int 13))])]), (tupF [(conF (.str "sell")), (conF (.int 0)), (conF (.int 1)), (tupF [(conF (.int 2)), (conF (.int 2))])])])))
    (EgL.add (EgO.var rfl at4 l4 s4) (EgL.old (EgL.lst (fs := [(tupF [(conF (.str "sell")), (conF (.int 0)), (binF opIx (varF 0) (conF (.int 0))), (tupF [(conF (.int 1)), (conF (.int 2))])]), (tupF [(conF (.str "sell")), (conF (.int 0)), (conF (.int 1)), (tupF [(conF (.int 1)), (conF (.int 13))])]), (tupF [(conF (.str "sell")), (conF (.int 0)), (conF (.int 1)), (tupF [(conF (.int 2)), (conF (.int 2))])])]) (by
      intro f hf
      simp only [List.mem_cons, List.not_mem_nil, or_false] at hf
      rcases hf with rfl | rfl | rfl
      · exact EgD.pure (d := .tup [.str "sell", .int 0, .int P, .tup [.int 1, .int 2]]) (fun h => by simp only [u_seq, u_asg, u_call, u_exp, u_if, u_ret, u_setS, u_par, u_nx, nxt_nx, nxt_rt, u_list, u_list0, u_var, u_con, u_bin, u_un1, u_and, u_or, u_chain, u_ite, u_blt, u_tup, u_lst, u_slc, u_opt, u_opt0, im_int, u_nm, u_tgs, u_tgs0, u_tupT, List.getElem?_cons_succ, List.getElem?_cons_zero, bind_ok, thenS_ok, thenI_ok, List.length_cons, List.length_nil, Nat.reduceAdd, Nat.reduceSub, Nat.reduceLT, Nat.reduceLeDiff, Nat.zero_le, if_true, om_some, List.set_cons_succ, List.set_cons_zero, bm_bl, Bool.not_true, Bool.not_false, Bool.false_eq_true, if_false, u_add, u_sub, u_neg, u_not, u_lt, u_le, u_gt, u_ge, u_eqI, u_neI, decide_true, decide_false, u_int, u_intb, methF, List.map_cons, List.map_nil, List.replicate, List.cons_append, List.nil_append, x0, x1, m0, m1]) ⟨by simp [D.gr, D.grs, gr], fun H => by (repeat' (first | assumption | exact smlL_nil _ | refine smlL_cons ?_ ?_ | exact Sml.bl _ | exact Sml.non | exact Sml.str _ (by decide +kernel) | exact sml_i _ (by omega) (by omega) | exact sml_rep _ (by omega) (by decide) (by decide) | refine sml_tupL ?_ (by simp)))⟩
      · exact EgD.pure (d := .tup [.str "sell", .int 0, .int 1, .tup [.int 1, .int 13]]) (fun h => by simp only [u_seq, u_asg, u_call, u_exp, u_if, u_ret, u_setS, u_par, u_nx, nxt_nx, nxt_rt, u_list, u_list0, u_var, u_con, u_bin, u_un1, u_and, u_or, u_chain, u_ite, u_blt, u_tup, u_lst, u_slc, u_opt, u_opt0, im_int, u_nm, u_tgs, u_tgs0, u_tupT, List.getElem?_cons_succ, List.getElem?_cons_zero, bind_ok, thenS_ok, thenI_ok, List.length_cons, List.length_nil, Nat.reduceAdd, Nat.reduceSub, Nat.reduceLT, Nat.reduceLeDiff, Nat.zero_le, if_true, om_some, List.set_cons_succ, List.set_cons_zero, bm_bl, Bool.not_true, Bool.not_false, Bool.false_eq_true, if_false, u_add, u_sub, u_neg, u_not, u_lt, u_le, u_gt, u_ge, u_eqI, u_neI, decide_true, decide_false, u_int, u_intb, methF, List.map_cons, List.map_nil, List.replicate, List.cons_append, List.nil_append, x0, x1, m0, m1]) ⟨by simp [D.gr, D.grs, gr], fun H => by (repeat' (first | assumption | exact smlL_nil _ | refine smlL_cons ?_ ?_ | exact Sml.bl _ | exact Sml.non | exact Sml.str _ (by decide +kernel) | exact sml_i _ (by omega) (by omega) | exact sml_rep _ (by omega) (by decide) (by decide) | refine sml_tupL ?_ (by simp)))⟩
      · exact EgD.pure (d := .tup [.str "sell", .int 0, .int 1, .tup [.int 2, .int 2]]) (fun h => by simp only [u_seq, u_asg, u_call, u_exp, u_if, u_ret, u_setS, u_par, u_nx, nxt_nx, nxt_rt, u_list, u_list0, u_var, u_con, u_bin, u_un1, u_and, u_or, u_chain, u_ite, u_blt, u_tup, u_lst, u_slc, u_opt, u_opt0, im_int, u_nm, u_tgs, u_tgs0, u_tupT, List.getElem?_cons_succ, List.getElem?_cons_zero, bind_ok, thenS_ok, thenI_ok, List.length_cons, List.length_nil, Nat.reduceAdd, Nat.reduceSub, Nat.reduceLT, Nat.reduceLeDiff, Nat.zero_le, if_true, om_some, List.set_cons_succ, List.set_cons_zero, bm_bl, Bool.not_true, Bool.not_false, Bool.false_eq_true, if_false, u_add, u_sub, u_neg, u_not, u_lt, u_le, u_gt, u_ge, u_eqI, u_neI, decide_true, decide_false, u_int, u_intb, methF, List.map_cons, List.map_nil, List.replicate, List.cons_append, List.nil_append, x0, x1, m0, m1]) ⟨by simp [D.gr, D.grs, gr], fun H => by (repeat' (first | assumption | exact smlL_nil _ | refine smlL_cons ?_ ?_ | exact Sml.bl _ | exact Sml.non | exact Sml.str _ (by decide +kernel) | exact sml_i _ (by omega) (by omega) | exact sml_rep _ (by omega) (by decide) (by decide) | refine sml_tupL ?_ (by simp)))⟩
      ) (by decide))) (by decide)) (by simp) hq4
  obtain ⟨d6, q6, e6, j6, hq6, l6, s6, n6, at6, r6⟩ := EgL.ret (P := PS) (C := callK T k) (env := [some tr, some (.ref (h0.length + 1 + j5))]) (h0 := h0) (g0 := (g ++ e0 ++ e1 ++ e2 ++ e3 ++ e4 ++ e5)) (n := 20 + 3) (f := (binF opAdd (varF 1) (lstF [(tupF [(conF (.str "spoil"))]), (tupF []), (tupF [(conF (.str "bring")), (conF (.int 0)), (conF (.int 0))])])))
    (EgL.add (EgO.var rfl at5 l5 s5) (EgL.old (EgL.lst (fs := [(tupF [(conF (.str "spoil"))]), (tupF []), (tupF [(conF (.str "bring")), (conF (.int 0)), (conF (.int 0))])]) (by
      intro f hf
      simp only [List.mem_cons, List.not_mem_nil, or_false] at hf
      rcases hf with rfl | rfl | rfl
      · exact EgD.pure (d := .tup [.str "spoil"]) (fun h => by simp only [u_seq, u_asg, u_call, u_exp, u_if, u_ret, u_setS, u_par, u_nx, nxt_nx, nxt_rt, u_list, u_list0, u_var, u_con, u_bin, u_un1, u_and, u_or, u_chain, u_ite, u_blt, u_tup, u_lst, u_slc, u_opt, u_opt0, im_int, u_nm, u_tgs, u_tgs0, u_tupT, List.getElem?_cons_succ, List.getElem?_cons_zero, bind_ok, thenS_ok, thenI_ok, List.length_cons, List.length_nil, Nat.reduceAdd, Nat.reduceSub, Nat.reduceLT, Nat.reduceLeDiff, Nat.zero_le, if_true, om_some, List.set_cons_succ, List.set_cons_zero, bm_bl, Bool.not_true, Bool.not_false, Bool.false_eq_true, if_false, u_add, u_sub, u_neg, u_not, u_lt, u_le, u_gt, u_ge, u_eqI, u_neI, decide_true, decide_false, u_int, u_intb, methF, List.map_cons, List.map_nil, List.replicate, List.cons_append, List.nil_append, x0, x1, m0, m1]) ⟨by simp [D.gr, D.grs, gr], fun H => by (repeat' (first | assumption | exact smlL_nil _ | refine smlL_cons ?_ ?_ | exact Sml.bl _ | exact Sml.non | exact Sml.str _ (by decide +kernel) | exact sml_i _ (by omega) (by omega) | exact sml_rep _ (by omega) (by decide) (by decide) | refine sml_tupL ?_ (by simp)))⟩
      · exact EgD.pure (d := .tup []) (fun h => by simp only [u_seq, u_asg, u_call, u_exp, u_if, u_ret, u_setS, u_par, u_nx, nxt_nx, nxt_rt, u_list, u_list0, u_var, u_con, u_bin, u_un1, u_and, u_or, u_chain, u_ite, u_blt, u_tup, u_lst, u_slc, u_opt, u_opt0, im_int, u_nm, u_tgs, u_tgs0, u_tupT, List.getElem?_cons_succ, List.getElem?_cons_zero, bind_ok, thenS_ok, thenI_ok, List.length_cons, List.length_nil, Nat.reduceAdd, Nat.reduceSub, Nat.reduceLT, Nat.reduceLeDiff, Nat.zero_le, if_true, om_some, List.set_cons_succ, List.set_cons_zero, bm_bl, Bool.not_true, Bool.not_false, Bool.false_eq_true, if_false, u_add, u_sub, u_neg, u_not, u_lt, u_le, u_gt, u_ge, u_eqI, u_neI, decide_true, decide_false, u_int, u_intb, methF, List.map_cons, List.map_nil, List.replicate, List.cons_append, List.nil_append, x0, x1, m0, m1]) ⟨by simp [D.gr, D.grs, gr], fun H => by (repeat' (first | assumption | exact smlL_nil _ | refine smlL_cons ?_ ?_ | exact Sml.bl _ | exact Sml.non | exact Sml.str _ (by decide +kernel) | exact sml_i _ (by omega) (by omega) | exact sml_rep _ (by omega) (by decide) (by decide) | refine sml_tupL ?_ (by simp)))⟩
      · exact EgD.pure (d := .tup [.str "bring", .int 0, .int 0]) (fun h => by simp only [u_seq, u_asg, u_call, u_exp, u_if, u_ret, u_setS, u_par, u_nx, nxt_nx, nxt_rt, u_list, u_list0, u_var, u_con, u_bin, u_un1, u_and, u_or, u_chain, u_ite, u_blt, u_tup, u_lst, u_slc, u_opt, u_opt0, im_int, u_nm, u_tgs, u_tgs0, u_tupT, List.getElem?_cons_succ, List.getElem?_cons_zero, bind_ok, thenS_ok, thenI_ok, List.length_cons, List.length_nil, Nat.reduceAdd, Nat.reduceSub, Nat.reduceLT, Nat.reduceLeDiff, Nat.zero_le, if_true, om_some, List.set_cons_succ, List.set_cons_zero, bm_bl, Bool.not_true, Bool.not_false, Bool.false_eq_true, if_false, u_add, u_sub, u_neg, u_not, u_lt, u_le, u_gt, u_ge, u_eqI, u_neI, decide_true, decide_false, u_int, u_intb, methF, List.map_cons, List.map_nil, List.replicate, List.cons_append, List.nil_append, x0, x1, m0, m1]) ⟨by simp [D.gr, D.grs, gr], fun H => by (repeat' (first | assumption | exact smlL_nil _ | refine smlL_cons ?_ ?_ | exact Sml.bl _ | exact Sml.non | exact Sml.str _ (by decide +kernel) | exact sml_i _ (by omega) (by omega) | exact sml_rep _ (by omega) (by decide) (by decide) | refine sml_tupL ?_ (by simp)))⟩
      ) (by decide))) (by decide)) hq5
  refine ⟨d6, q6, hq6, l6, s6, ?_⟩
  have eg : g ++ e0 ++ e1 ++ e2 ++ e3 ++ e4 ++ e5 ++ e6 = g ++ (e0 ++ e1 ++ e2 ++ e3 ++ e4 ++ e5 ++ e6) := by simp only [List.append_assoc]
  have at' := at6
  have nn : g.length ≤ j6 := by simp only [List.length_append] at n6; omega
  rw [eg] at at' r6
  rw [callK_eq t__law_bounds]
  refine (run_rt rfl ?_).trans (gc_new (j := j6) hq6.grs nn at' (grs_of fun d hd => (s6 d hd).1))
  show F__law_bounds (callK T k) [some tr, none] (hp h0 pen g) = _
  rw [F__law_bounds]
  rw [u_seq, r0, nxt_nx]
  simp only [List.set_cons_succ, List.set_cons_zero]
  rw [u_seq, r1, nxt_nx]
  simp only [List.set_cons_succ, List.set_cons_zero]
  rw [u_seq, r2, nxt_nx]
  simp only [List.set_cons_succ, List.set_cons_zero]
  rw [u_seq, r3, nxt_nx]
  simp only [List.set_cons_succ, List.set_cons_zero]
  rw [u_seq, r4, nxt_nx]
  simp only [List.set_cons_succ, List.set_cons_zero]
  rw [u_seq, r5, nxt_nx]
  simp only [List.set_cons_succ, List.set_cons_zero]
  rw [u_seq, r6, nxt_rt]
theorem og_ws {ws : List Int} (hl : ws.length ≤ 50) (h : ∀ w ∈ ws, 1 ≤ w ∧ w ≤ 99) (m : Nat) : Og (m + 1) (wsD ws) := by
  refine .tup m _ (by rw [List.length_map]; exact hl) fun d hd => ?_
  obtain ⟨w, hw, rfl⟩ := List.mem_map.1 hd
  exact og_i m (by have := h w hw; omega) (by have := h w hw; omega)
theorem _law_deeds_ok (k : Nat) (h0 : Hv) (pen : List D) (g : Hv) (P K : Nat) (B x y : Int) (hold : List Rat) (P1 : 1 ≤ P) (P2 : P ≤ 4) (K1 : 1 ≤ K) (K2 : K ≤ 5) (hpn : PenOk pen) :
    ∃ ds pen', PenOk pen' ∧ ds.length ≤ 9 ∧ (∀ d ∈ ds, ∃ xs, d = .tup xs ∧ xs.length ≤ 6 ∧ Og 3 d) ∧ callK T (k + 5) "_law_deeds" [.ref h0.length, trD P K B hold x y] (hp h0 pen g) = .ok (.ref (h0.length + 1 + g.length)) (hp h0 pen' (g ++ [Ob.lst ds])) := by
  have x0 : ∀ h, opIx (trD P K B hold x y) (.int 0) h = .ok (.int P) h := fun h => by simp [trD]
  have x1 : ∀ h, opIx (trD P K B hold x y) (.int 1) h = .ok (.int K) h := fun h => by simp [trD]
  generalize htr : trD P K B hold x y = tr at *
  have dr := fun (n : Nat) (a : 0 < n) (b : n ≤ 1000) (pen : List D) (g : Hv) (q : PenOk pen) => _law_draw_ok (k + 3) n h0 pen g (by omega) (by omega) q
  obtain ⟨w1, p1, a1, b1, hp1, e1⟩ := dr 9 (by decide) (by decide) pen g hpn
  obtain ⟨w2, p2, a2, b2, hp2, e2⟩ := _law_pieces_ok (k + 2) h0 p1 g hp1
  obtain ⟨w3, p3, a3, b3, hp3, e3⟩ := dr K (by omega) (by omega) p2 g hp2
  obtain ⟨w4, p4, a4, b4, hp4, e4⟩ := dr P (by omega) (by omega) p3 g hp3
  have e1' : callK T (k + 4) "_law_draw" [.ref h0.length, .int 9] (hp h0 pen g) = .ok (.int w1) (hp h0 p1 g) := e1
  have e2' : callK T (k + 4) "_law_pieces" [.ref h0.length] (hp h0 p1 g) = .ok (.int w2) (hp h0 p2 g) := e2
  have e3' : callK T (k + 4) "_law_draw" [.ref h0.length, .int K] (hp h0 p2 g) = .ok (.int w3) (hp h0 p3 g) := e3
  have e4' : callK T (k + 4) "_law_draw" [.ref h0.length, .int P] (hp h0 p3 g) = .ok (.int w4) (hp h0 p4 g) := e4
  have g2 : ∀ m, Og m (.int w2) := fun m => og_p m a2 b2
  have mk : ∀ xs : List D, xs.length ≤ 6 → OgL 2 xs → ∃ ys, D.tup xs = .tup ys ∧ ys.length ≤ 6 ∧ Og 3 (.tup xs) := fun xs hl h => ⟨xs, rfl, hl, og_tupL h (by omega)⟩
  have n5 : ∀ (h : Hv), (fun d : D => ∃ xs, d = .tup xs ∧ xs.length ≤ 6 ∧ Og 3 d) = (fun d : D => ∃ xs, d = .tup xs ∧ xs.length ≤ 6 ∧ Og 3 d) := fun _ => rfl
  have st0 : (parS 3 4 (callF "_law_draw" [(varF 0), (conF (.int 9))]) (callF "_law_pieces" [(varF 0)])) (callK T (k + 4)) [some (.ref h0.length), some tr, none, none, none, none, none] (hp h0 pen g) = .nx [some (.ref h0.length), some tr, none, some (.int w1), some (.int w2), none, none] (hp h0 p2 g) := by
    simp only [u_seq, u_asg, u_call, u_exp, u_if, u_ret, u_setS, u_par, u_nx, nxt_nx, nxt_rt, u_list, u_list0, u_var, u_con, u_bin, u_un1, u_and, u_or, u_chain, u_ite, u_blt, u_tup, u_lst, u_slc, u_opt, u_opt0, im_int, u_nm, u_tgs, u_tgs0, u_tupT, List.getElem?_cons_succ, List.getElem?_cons_zero, bind_ok, thenS_ok, thenI_ok, List.length_cons, List.length_nil, Nat.reduceAdd, Nat.reduceSub, Nat.reduceLT, Nat.reduceLeDiff, Nat.zero_le, if_true, om_some, List.set_cons_succ, List.set_cons_zero, bm_bl, Bool.not_true, Bool.not_false, Bool.false_eq_true, if_false, u_add, u_sub, u_neg, u_not, u_lt, u_le, u_gt, u_ge, u_eqI, u_neI, decide_true, decide_false, u_int, u_intb, methF, List.map_cons, List.map_nil, List.replicate, List.cons_append, List.nil_append, e1', e2', and_self]
  have st1 : (parS 5 6 (callF "_law_draw" [(varF 0), (binF opIx (varF 1) (conF (.int 1)))]) (callF "_law_draw" [(varF 0), (binF opIx (varF 1) (conF (.int 0)))])) (callK T (k + 4)) [some (.ref h0.length), some tr, none, some (.int w1), some (.int w2), none, none] (hp h0 p2 g) = .nx [some (.ref h0.length), some tr, none, some (.int w1), some (.int w2), some (.int w3), some (.int w4)] (hp h0 p4 g) := by
    simp only [u_seq, u_asg, u_call, u_exp, u_if, u_ret, u_setS, u_par, u_nx, nxt_nx, nxt_rt, u_list, u_list0, u_var, u_con, u_bin, u_un1, u_and, u_or, u_chain, u_ite, u_blt, u_tup, u_lst, u_slc, u_opt, u_opt0, im_int, u_nm, u_tgs, u_tgs0, u_tupT, List.getElem?_cons_succ, List.getElem?_cons_zero, bind_ok, thenS_ok, thenI_ok, List.length_cons, List.length_nil, Nat.reduceAdd, Nat.reduceSub, Nat.reduceLT, Nat.reduceLeDiff, Nat.zero_le, if_true, om_some, List.set_cons_succ, List.set_cons_zero, bm_bl, Bool.not_true, Bool.not_false, Bool.false_eq_true, if_false, u_add, u_sub, u_neg, u_not, u_lt, u_le, u_gt, u_ge, u_eqI, u_neI, decide_true, decide_false, u_int, u_intb, methF, List.map_cons, List.map_nil, List.replicate, List.cons_append, List.nil_append, x0, x1, e3', e4', and_self]
  obtain ⟨d2, q2, f2, j2, hq2, l2, s2, n2, at2, r2⟩ := EgL.asg (P := fun d : D => ∃ xs, d = .tup xs ∧ xs.length ≤ 6 ∧ Og 3 d) (C := callK T (k + 4)) (env := [some (.ref h0.length), some tr, none, some (.int w1), some (.int w2), some (.int w3), some (.int w4)]) (h0 := h0) (g0 := g) (n := 3) (i := 2) (f := (lstF [(tupF [(conF (.str "bring")), (varF 6), (varF 5), (varF 4)]), (tupF [(conF (.str "pool")), (varF 3), (binF opAdd (varF 3) (conF (.int 1)))]), (tupF [(conF (.str "swap")), (varF 3), (conF (.int 1)), (varF 5), (varF 4)])]))
    (EgL.lst (fs := [(tupF [(conF (.str "bring")), (varF 6), (varF 5), (varF 4)]), (tupF [(conF (.str "pool")), (varF 3), (binF opAdd (varF 3) (conF (.int 1)))]), (tupF [(conF (.str "swap")), (varF 3), (conF (.int 1)), (varF 5), (varF 4)])]) (by
      intro f hf
      simp only [List.mem_cons, List.not_mem_nil, or_false] at hf
      rcases hf with rfl | rfl | rfl
      · exact EgD.pure (fun h => rfl) (mk _ (by simp) (by have := g2 2; (repeat' (first | assumption | exact ogL_nil _ | refine ogL_cons ?_ ?_ | exact Og.str _ _ (by simp [wordsL]) | exact og_i _ (by omega) (by omega) | refine og_tupL ?_ (by simp)))))
      · exact EgD.pure (fun h => rfl) (mk _ (by simp) (by have := g2 2; (repeat' (first | assumption | exact ogL_nil _ | refine ogL_cons ?_ ?_ | exact Og.str _ _ (by simp [wordsL]) | exact og_i _ (by omega) (by omega) | refine og_tupL ?_ (by simp)))))
      · exact EgD.pure (fun h => rfl) (mk _ (by simp) (by have := g2 2; (repeat' (first | assumption | exact ogL_nil _ | refine ogL_cons ?_ ?_ | exact Og.str _ _ (by simp [wordsL]) | exact og_i _ (by omega) (by omega) | refine og_tupL ?_ (by simp)))))) (by decide)) (by simp) hp4
  obtain ⟨d3, q3, f3, j3, hq3, l3, s3, n3, at3, r3⟩ := EgL.asg (P := fun d : D => ∃ xs, d = .tup xs ∧ xs.length ≤ 6 ∧ Og 3 d) (C := callK T (k + 4)) (env := [some (.ref h0.length), some tr, some (.ref (h0.length + 1 + j2)), some (.int w1), some (.int w2), some (.int w3), some (.int w4)]) (h0 := h0) (g0 := g ++ f2) (n := 3 + 2) (i := 2) (f := (binF opAdd (varF 2) (lstF [(tupF [(conF (.str "trade")), (callF "_law_draw" [(varF 0), (conF (.int 10))]), (varF 3), (varF 4), (varF 5), (conF (.int 2))]), (tupF [(conF (.str "spoil")), (varF 3), (varF 4)])])))
    (EgL.add (EgO.var rfl at2 l2 s2) (EgL.old (EgL.lst (fs := [(tupF [(conF (.str "trade")), (callF "_law_draw" [(varF 0), (conF (.int 10))]), (varF 3), (varF 4), (varF 5), (conF (.int 2))]), (tupF [(conF (.str "spoil")), (varF 3), (varF 4)])]) (by
      intro f hf
      simp only [List.mem_cons, List.not_mem_nil, or_false] at hf
      rcases hf with rfl | rfl
      · intro pen e hpn
        obtain ⟨r, p5, c1, c2, hp5, e5⟩ := dr 10 (by decide) (by decide) pen (g ++ f2 ++ e) hpn
        have e5' : callK T (k + 4) "_law_draw" [.ref h0.length, .int 10] (hp h0 pen (g ++ f2 ++ e)) = .ok (.int r) (hp h0 p5 (g ++ f2 ++ e)) := e5
        refine ⟨.tup [.str "trade", .int r, .int w1, .int w2, .int w3, .int 2], p5, hp5, mk _ (by simp) (by have := g2 2; (repeat' (first | assumption | exact ogL_nil _ | refine ogL_cons ?_ ?_ | exact Og.str _ _ (by simp [wordsL]) | exact og_i _ (by omega) (by omega) | refine og_tupL ?_ (by simp)))), ?_⟩
        simp only [u_seq, u_asg, u_call, u_exp, u_if, u_ret, u_setS, u_par, u_nx, nxt_nx, nxt_rt, u_list, u_list0, u_var, u_con, u_bin, u_un1, u_and, u_or, u_chain, u_ite, u_blt, u_tup, u_lst, u_slc, u_opt, u_opt0, im_int, u_nm, u_tgs, u_tgs0, u_tupT, List.getElem?_cons_succ, List.getElem?_cons_zero, bind_ok, thenS_ok, thenI_ok, List.length_cons, List.length_nil, Nat.reduceAdd, Nat.reduceSub, Nat.reduceLT, Nat.reduceLeDiff, Nat.zero_le, if_true, om_some, List.set_cons_succ, List.set_cons_zero, bm_bl, Bool.not_true, Bool.not_false, Bool.false_eq_true, if_false, u_add, u_sub, u_neg, u_not, u_lt, u_le, u_gt, u_ge, u_eqI, u_neI, decide_true, decide_false, u_int, u_intb, methF, List.map_cons, List.map_nil, List.replicate, List.cons_append, List.nil_append, e5']
      · exact EgD.pure (fun h => rfl) (mk _ (by simp) (by have := g2 2; (repeat' (first | assumption | exact ogL_nil _ | refine ogL_cons ?_ ?_ | exact Og.str _ _ (by simp [wordsL]) | exact og_i _ (by omega) (by omega) | refine og_tupL ?_ (by simp)))))) (by decide))) (by decide)) (by simp) hq2
  -- one put behind
  obtain ⟨ws, p6, lw, hw, hp6, e6⟩ := _law_worths_ok (k + 1) (K + 1) h0 q3 (g ++ f2 ++ f3) (by omega) hq3
  have e6' : callK T (k + 4) "_law_worths" [.ref h0.length, .int ((K : Int) + 1)] (hp h0 q3 (g ++ f2 ++ f3)) = .ok (wsD ws) (hp h0 p6 (g ++ f2 ++ f3)) := by
    have z : ((K : Int) + 1) = ((K + 1 : Nat) : Int) := by omega
    rw [z]; exact e6
  obtain ⟨i3, hi3⟩ : ∃ i, j3 = g.length + i := ⟨j3 - g.length, by simp only [List.length_append] at n3; omega⟩
  subst hi3
  have at3' : ((f2 ++ f3) : Hv)[i3]? = some (Ob.lst d3) := by
    rw [List.append_assoc, List.getElem?_append_right (by omega), Nat.add_sub_cancel_left] at at3
    exact at3
  have hi3 : i3 < (f2 ++ f3 : Hv).length := (List.getElem?_eq_some_iff.1 at3').1
  have at6 : ∀ p, (hp h0 p (g ++ f2 ++ f3))[h0.length + 1 + (g.length + i3)]? = some (Ob.lst d3) := fun p => by rw [hp_get1]; exact at3
  have il : ∀ p, isLst (.ref (h0.length + 1 + (g.length + i3))) (hp h0 p (g ++ f2 ++ f3)) = true := fun p => by simp only [isLst, at6]
  have ap : mAppend (.ref (h0.length + 1 + (g.length + i3))) [.tup [.str "throw", .int w1, .int w2, wsD ws]] (hp h0 p6 (g ++ f2 ++ f3)) = .ok .non (hp h0 p6 (g ++ (f2 ++ f3).set i3 (Ob.lst (d3 ++ [.tup [.str "throw", .int w1, .int w2, wsD ws]])))) := by
    simp only [mAppend, at6]
    rw [if_pos (by unfold szl; omega), hp_set1, List.append_assoc, List.set_append_right _ _ (by omega), Nat.add_sub_cancel_left]
  have st4 : (expS (methF mAppend (varF 2) [(tupF [(conF (.str "throw")), (varF 3), (varF 4), (callF "_law_worths" [(varF 0), (binF opAdd (binF opIx (varF 1) (conF (.int 1))) (conF (.int 1)))])])])) (callK T (k + 4)) ([some (.ref h0.length), some tr, some (.ref (h0.length + 1 + (g.length + i3))), some (.int w1), some (.int w2), some (.int w3), some (.int w4)]) (hp h0 q3 (g ++ f2 ++ f3)) = .nx ([some (.ref h0.length), some tr, some (.ref (h0.length + 1 + (g.length + i3))), some (.int w1), some (.int w2), some (.int w3), some (.int w4)]) (hp h0 p6 (g ++ (f2 ++ f3).set i3 (Ob.lst (d3 ++ [.tup [.str "throw", .int w1, .int w2, wsD ws]])))) := by
    simp only [u_seq, u_asg, u_call, u_exp, u_if, u_ret, u_setS, u_par, u_nx, nxt_nx, nxt_rt, u_list, u_list0, u_var, u_con, u_bin, u_un1, u_and, u_or, u_chain, u_ite, u_blt, u_tup, u_lst, u_slc, u_opt, u_opt0, im_int, u_nm, u_tgs, u_tgs0, u_tupT, List.getElem?_cons_succ, List.getElem?_cons_zero, bind_ok, thenS_ok, thenI_ok, List.length_cons, List.length_nil, Nat.reduceAdd, Nat.reduceSub, Nat.reduceLT, Nat.reduceLeDiff, Nat.zero_le, if_true, om_some, List.set_cons_succ, List.set_cons_zero, bm_bl, Bool.not_true, Bool.not_false, Bool.false_eq_true, if_false, u_add, u_sub, u_neg, u_not, u_lt, u_le, u_gt, u_ge, u_eqI, u_neI, decide_true, decide_false, u_int, u_intb, methF, List.map_cons, List.map_nil, List.replicate, List.cons_append, List.nil_append, x1, il, e6', ap]
  generalize hg4 : (f2 ++ f3).set i3 (Ob.lst (d3 ++ [D.tup [.str "throw", .int w1, .int w2, wsD ws]])) = f4 at *
  have at4 : (g ++ f4)[g.length + i3]? = some (Ob.lst (d3 ++ [D.tup [.str "throw", .int w1, .int w2, wsD ws]])) := by
    rw [List.getElem?_append_right (by omega), Nat.add_sub_cancel_left, ← hg4, List.getElem?_set_self hi3]
  have s4 : ∀ d ∈ d3 ++ [D.tup [.str "throw", .int w1, .int w2, wsD ws]], (fun d : D => ∃ xs, d = .tup xs ∧ xs.length ≤ 6 ∧ Og 3 d) d := by
    intro d hd
    rcases List.mem_append.1 hd with hd | hd
    · exact s3 d hd
    · rw [List.mem_singleton.1 hd]
      exact mk _ (by simp) (by have := g2 2; have := og_ws (ws := ws) (by omega) hw 1; (repeat' (first | assumption | exact ogL_nil _ | refine ogL_cons ?_ ?_ | exact Og.str _ _ (by simp [wordsL]) | exact og_i _ (by omega) (by omega) | refine og_tupL ?_ (by simp))))
  obtain ⟨d5, q5, f5, j5, hq5, l5, s5, n5', at5, r5⟩ := EgL.asg (P := fun d : D => ∃ xs, d = .tup xs ∧ xs.length ≤ 6 ∧ Og 3 d) (C := callK T (k + 4)) (env := [some (.ref h0.length), some tr, some (.ref (h0.length + 1 + (g.length + i3))), some (.int w1), some (.int w2), some (.int w3), some (.int w4)]) (h0 := h0) (g0 := g ++ f4) (n := 6 + 2) (i := 2) (f := (binF opAdd (varF 2) (lstF [(tupF [(conF (.str "sell")), (conF (.int 0)), (conF (.int 1)), (tupF [(conF (.int 12)), (conF (.int 13))])]), (tupF [(conF (.str "sell")), (conF (.int 1)), (conF (.int 0)), (tupF [(conF (.int 0)), (conF (.int 1))])])])))
    (EgL.add (EgO.var rfl at4 (by rw [List.length_append, List.length_singleton]; omega) s4) (EgL.old (EgL.lst (fs := [(tupF [(conF (.str "sell")), (conF (.int 0)), (conF (.int 1)), (tupF [(conF (.int 12)), (conF (.int 13))])]), (tupF [(conF (.str "sell")), (conF (.int 1)), (conF (.int 0)), (tupF [(conF (.int 0)), (conF (.int 1))])])]) (by
      intro f hf
      simp only [List.mem_cons, List.not_mem_nil, or_false] at hf
      rcases hf with rfl | rfl
      · exact EgD.pure (fun h => rfl) (mk _ (by simp) (by (repeat' (first | assumption | exact ogL_nil _ | refine ogL_cons ?_ ?_ | exact Og.str _ _ (by simp [wordsL]) | exact og_i _ (by omega) (by omega) | refine og_tupL ?_ (by simp)))))
      · exact EgD.pure (fun h => rfl) (mk _ (by simp) (by (repeat' (first | assumption | exact ogL_nil _ | refine ogL_cons ?_ ?_ | exact Og.str _ _ (by simp [wordsL]) | exact og_i _ (by omega) (by omega) | refine og_tupL ?_ (by simp)))))) (by decide))) (by decide)) (by simp) hp6
  obtain ⟨d6, q6, f6, j6, hq6, l6, s6, n6, at6', r6⟩ := EgL.ret (P := fun d : D => ∃ xs, d = .tup xs ∧ xs.length ≤ 6 ∧ Og 3 d) (C := callK T (k + 4)) (env := [some (.ref h0.length), some tr, some (.ref (h0.length + 1 + j5)), some (.int w1), some (.int w2), some (.int w3), some (.int w4)]) (h0 := h0) (g0 := g ++ f4 ++ f5) (n := 6 + 2 + 1) (f := (binF opAdd (varF 2) (lstF [(tupF [(conF (.str "sell")), (varF 6), (binF opMod (binF opAdd (varF 6) (conF (.int 1))) (conF (.int 4))), (callF "_law_share" [(varF 0)])])])))
    (EgL.add (EgO.var rfl at5 l5 s5) (EgL.old (EgL.lst (fs := [(tupF [(conF (.str "sell")), (varF 6), (binF opMod (binF opAdd (varF 6) (conF (.int 1))) (conF (.int 4))), (callF "_law_share" [(varF 0)])])]) (by
      intro f hf
      simp only [List.mem_cons, List.not_mem_nil, or_false] at hf
      rcases hf with rfl
      intro pen e hpn
      obtain ⟨q, N, p7, N0, N1, hs, hp7, e7⟩ := _law_share_ok (k + 1) h0 pen (g ++ f4 ++ f5 ++ e) hpn
      have e7' : callK T (k + 4) "_law_share" [.ref h0.length] (hp h0 pen (g ++ f4 ++ f5 ++ e)) = .ok (am q) (hp h0 p7 (g ++ f4 ++ f5 ++ e)) := e7
      have md : ∀ h, opMod (.int (w4 + 1)) (.int 4) h = .ok (.int ((w4 + 1) % 4)) h := fun h => mod_ok (by decide)
      refine ⟨.tup [.str "sell", .int w4, .int ((w4 + 1) % 4), am q], p7, hp7, mk _ (by simp) (by have := og_am hs N0 (by omega) 1; (repeat' (first | assumption | exact ogL_nil _ | refine ogL_cons ?_ ?_ | exact Og.str _ _ (by simp [wordsL]) | exact og_i _ (by omega) (by omega) | refine og_tupL ?_ (by simp)))), ?_⟩
      simp only [u_seq, u_asg, u_call, u_exp, u_if, u_ret, u_setS, u_par, u_nx, nxt_nx, nxt_rt, u_list, u_list0, u_var, u_con, u_bin, u_un1, u_and, u_or, u_chain, u_ite, u_blt, u_tup, u_lst, u_slc, u_opt, u_opt0, im_int, u_nm, u_tgs, u_tgs0, u_tupT, List.getElem?_cons_succ, List.getElem?_cons_zero, bind_ok, thenS_ok, thenI_ok, List.length_cons, List.length_nil, Nat.reduceAdd, Nat.reduceSub, Nat.reduceLT, Nat.reduceLeDiff, Nat.zero_le, if_true, om_some, List.set_cons_succ, List.set_cons_zero, bm_bl, Bool.not_true, Bool.not_false, Bool.false_eq_true, if_false, u_add, u_sub, u_neg, u_not, u_lt, u_le, u_gt, u_ge, u_eqI, u_neI, decide_true, decide_false, u_int, u_intb, methF, List.map_cons, List.map_nil, List.replicate, List.cons_append, List.nil_append, md, e7']) (by decide))) (by decide)) hq5
  refine ⟨d6, q6, hq6, l6, s6, ?_⟩
  have eg : g ++ f4 ++ f5 ++ f6 = g ++ (f4 ++ f5 ++ f6) := by simp only [List.append_assoc]
  rw [eg] at at6' r6
  rw [callK_eq t__law_deeds]
  refine (run_rt rfl ?_).trans (gc_new (j := j6) hq6.grs (by simp only [List.length_append] at n6; omega) at6' (grs_of fun d hd => by obtain ⟨_, _, _, o⟩ := s6 d hd; exact o.gr))
  show F__law_deeds (callK T (k + 4)) [some (.ref h0.length), some tr, none, none, none, none, none] (hp h0 pen g) = _
  rw [F__law_deeds, u_seq, st0, nxt_nx, u_seq, st1, nxt_nx, u_seq, r2, nxt_nx]
  simp only [List.set_cons_succ, List.set_cons_zero]
  rw [u_seq, r3, nxt_nx]
  simp only [List.set_cons_succ, List.set_cons_zero]
  rw [u_seq, st4, nxt_nx, u_seq, r5, nxt_nx]
  simp only [List.set_cons_succ, List.set_cons_zero]
  rw [u_seq, r6, nxt_rt]

theorem k02_b2 (P K : Nat) (B x y : Int) (hold : List Rat) (P2 : P ≤ 4) (a0 a1 a2 a4 a5 a7 a8 a9 a10 : Option D) (d : D) (H : Hv) (s : Sml H d) :
    F_law_b2 (callK T 59) [a0, a1, a2, some (trD P K B hold x y), a4, a5, some d, a7, a8, a9, a10] H = .nx [a0, a1, a2, some (trD P K B hold x y), a4, a5, some d, a7, a8, a9, a10] H := by
  have x0 : ∀ h, opIx (trD P K B hold x y) (.int 0) h = .ok (.int P) h := fun h => by simp [trD]
  have x1 : ∀ h, opIx (trD P K B hold x y) (.int 1) h = .ok (.int K) h := fun h => by simp [trD]
  have e1 := is_deed_any 53 x0 x1 s
  have e2 := _law_is_deed_any 53 x0 x1 s
  have bb : ∀ x : Bool, (x == x) = true := by decide
  simp only [F_law_b2, u_seq, u_asg, u_call, u_exp, u_if, u_ret, u_setS, u_par, u_nx, nxt_nx, nxt_rt, u_list, u_list0, u_var, u_con, u_bin, u_un1, u_and, u_or, u_chain, u_ite, u_blt, u_tup, u_lst, u_slc, u_opt, u_opt0, im_int, u_nm, u_tgs, u_tgs0, u_tupT, List.getElem?_cons_succ, List.getElem?_cons_zero, bind_ok, thenS_ok, thenI_ok, List.length_cons, List.length_nil, Nat.reduceAdd, Nat.reduceSub, Nat.reduceLT, Nat.reduceLeDiff, Nat.zero_le, if_true, om_some, List.set_cons_succ, List.set_cons_zero, bm_bl, Bool.not_true, Bool.not_false, Bool.false_eq_true, if_false, u_add, u_sub, u_neg, u_not, u_lt, u_le, u_gt, u_ge, u_eqI, u_neI, decide_true, decide_false, u_int, u_intb, methF, List.map_cons, List.map_nil, List.replicate, List.cons_append, List.nil_append, e1, e2, u_neB, bb]
theorem k02_b1 (P K : Nat) (B x y : Int) (hold : List Rat) (P2 : P ≤ 4) (a0 a1 a2 a4 a5 a7 a8 a9 a10 : Option D) (d : D) (H : Hv) (s : Sml H d) :
    F_law_b1 (callK T 59) [a0, a1, a2, some (trD P K B hold x y), a4, a5, some d, a7, a8, a9, a10] H = .nx [a0, a1, a2, some (trD P K B hold x y), a4, a5, some d, a7, a8, a9, a10] H := by
  have x0 : ∀ h, opIx (trD P K B hold x y) (.int 0) h = .ok (.int P) h := fun h => by simp [trD]
  have x1 : ∀ h, opIx (trD P K B hold x y) (.int 1) h = .ok (.int K) h := fun h => by simp [trD]
  have e1 := is_load_any 53 x0 x1 (by omega) s
  have e2 := _law_is_load_any 53 x0 x1 (by omega) s
  have bb : ∀ x : Bool, (x == x) = true := by decide
  simp only [F_law_b1, u_seq, u_asg, u_call, u_exp, u_if, u_ret, u_setS, u_par, u_nx, nxt_nx, nxt_rt, u_list, u_list0, u_var, u_con, u_bin, u_un1, u_and, u_or, u_chain, u_ite, u_blt, u_tup, u_lst, u_slc, u_opt, u_opt0, im_int, u_nm, u_tgs, u_tgs0, u_tupT, List.getElem?_cons_succ, List.getElem?_cons_zero, bind_ok, thenS_ok, thenI_ok, List.length_cons, List.length_nil, Nat.reduceAdd, Nat.reduceSub, Nat.reduceLT, Nat.reduceLeDiff, Nat.zero_le, if_true, om_some, List.set_cons_succ, List.set_cons_zero, bm_bl, Bool.not_true, Bool.not_false, Bool.false_eq_true, if_false, u_add, u_sub, u_neg, u_not, u_lt, u_le, u_gt, u_ge, u_eqI, u_neI, decide_true, decide_false, u_int, u_intb, methF, List.map_cons, List.map_nil, List.replicate, List.cons_append, List.nil_append, e1, e2, u_neB, bb]
/-- the loop over deeds -/
theorem k02_b3 {h g0 : Hv} {pen : List D} (hpn : PenOk pen) (tr : D) (N j : Nat) (ds : List D) (hj : g0[j]? = some (Ob.lst ds)) (hl : ds.length ≤ N) (hN : N ≤ 900) (hs' : ∀ d ∈ ds, Sml (hp h pen g0) d) (xs : List D) (lx : xs.length ≤ 6) (og : Og 3 (.tup xs))
    (a0 a1 a6 a7 a8 z9 z10 : Option D) :
    ∃ ds' pen' e' j', PenOk pen' ∧ ds'.length ≤ N + 6 ∧ (∀ d ∈ ds', Sml (hp h pen' (g0 ++ e')) d) ∧ (g0 ++ e')[j']? = some (Ob.lst ds') ∧
      F_law_b3 (callK T 59) [a0, a1, some (.ref h.length), some tr, some (.ref (h.length + 1 + j)), some (.tup xs), a6, a7, a8, z9, z10] (hp h pen g0) =
        .nx [a0, a1, some (.ref h.length), some tr, some (.ref (h.length + 1 + j')), some (.tup xs), a6, a7, a8, z9, z10] (hp h pen' (g0 ++ e')) := by
  have all : ∀ (H : Hv), ∀ d ∈ xs, Sml H d := fun H d hd => by
    cases og with
    | tup m _ hl hs => exact (hs d hd).sml H
  obtain ⟨ds1, p1, e1, j1, hp1, l1, s1, at1, r1⟩ := EvL.asgE (C := callK T 59) (env := [a0, a1, some (.ref h.length), some tr, some (.ref (h.length + 1 + j)), some (.tup xs), a6, a7, a8, z9, z10]) (h0 := h) (g0 := g0) (n := N + 4) (i := 4) (f := (binF opAdd (varF 4) (lstF [(varF 5), (bltF bList [(varF 5)]), (binF opAdd (varF 5) (tupF [(conF (.int 0))])), (slcF opSl (varF 5) none (some (un1F opNeg (conF (.int 1)))))])))
    (EvL.add (EvL.var (pen := pen) rfl hj hl hs') (EvL.lst (fs := [(varF 5), (bltF bList [(varF 5)]), (binF opAdd (varF 5) (tupF [(conF (.int 0))])), (slcF opSl (varF 5) none (some (un1F opNeg (conF (.int 1)))))]) (by
      intro f hf
      simp only [List.mem_cons, List.not_mem_nil, or_false] at hf
      rcases hf with rfl | rfl | rfl | rfl
      · exact EvD.pure (fun h => rfl) fun H => .tup xs (by omega) (all H)
      · exact EvD.ofL (EvL.list (n := 6) (fun h => rfl) all lx)
      · refine EvD.pure (d := .tup (xs ++ [.int 0])) (fun h => ?_) fun H => .tup _ (by simp; omega) fun d hd => ?_
        · have ad : opAdd (.tup xs) (.tup [.int 0]) h = .ok (.tup (xs ++ [.int 0])) h := by rw [u_addT, if_pos (by simp; omega)]
          simp only [u_seq, u_asg, u_call, u_exp, u_if, u_ret, u_setS, u_par, u_nx, nxt_nx, nxt_rt, u_list, u_list0, u_var, u_con, u_bin, u_un1, u_and, u_or, u_chain, u_ite, u_blt, u_tup, u_lst, u_slc, u_opt, u_opt0, im_int, u_nm, u_tgs, u_tgs0, u_tupT, List.getElem?_cons_succ, List.getElem?_cons_zero, bind_ok, thenS_ok, thenI_ok, List.length_cons, List.length_nil, Nat.reduceAdd, Nat.reduceSub, Nat.reduceLT, Nat.reduceLeDiff, Nat.zero_le, if_true, om_some, List.set_cons_succ, List.set_cons_zero, bm_bl, Bool.not_true, Bool.not_false, Bool.false_eq_true, if_false, u_add, u_sub, u_neg, u_not, u_lt, u_le, u_gt, u_ge, u_eqI, u_neI, decide_true, decide_false, u_int, u_intb, methF, List.map_cons, List.map_nil, List.replicate, List.cons_append, List.nil_append, ad]
        · rcases List.mem_append.1 hd with hd | hd
          · exact all H d hd
          · rw [List.mem_singleton.1 hd]; exact sml_i H (by decide) (by decide)
      · refine EvD.pure (d := .tup (cutD xs none (some (-1)))) (fun h => rfl) fun H => .tup _ (by have := (cutD_sub (ds := xs) (l := none) (u := some (-1))).1; omega) fun d hd => all H d ((cutD_sub (ds := xs)).2 d hd)) (by decide)) (by show N + 4 ≤ _; omega)) (by simp) hpn
  obtain ⟨ds2, p2, e2, j2, hp2, l2, s2, at2, r2⟩ := EvL.asgE (C := callK T 59) (env := [a0, a1, some (.ref h.length), some tr, some (.ref (h.length + 1 + j1)), some (.tup xs), a6, a7, a8, z9, z10]) (h0 := h) (g0 := g0 ++ e1) (n := N + 4 + 2) (i := 4) (f := (binF opAdd (varF 4) (lcF (it1F (conF (.int 2))) (nmT 9) [9] (conF (.bl true)) (callF "_law_spoilt" [(varF 2), (varF 5)]))))
    (EvL.add (EvL.var (pen := p1) rfl at1 l1 s1) (EvL.lc (xs := (List.range 2).map fun i => D.int (i : Nat)) (fun h => it1_ok (n := 2) rfl (by decide)) (by simp) rfl (by decide) (by
      intro z hz pen e hpn
      obtain ⟨d, p2, e2, hp2, sd, q1⟩ := _law_spoilt_ok 3 51 h pen (g0 ++ e1 ++ e) (.tup xs) (by decide) og hpn
      have q1' : callK T 59 "_law_spoilt" [.ref h.length, .tup xs] (hp h pen (g0 ++ e1 ++ e)) = .ok d (hp h p2 (g0 ++ e1 ++ e ++ e2)) := q1
      have ae : g0 ++ e1 ++ e ++ e2 = g0 ++ e1 ++ (e ++ e2) := by simp only [List.append_assoc]
      rw [ae] at sd q1'
      refine ⟨d, p2, e2, hp2, sd, ?_⟩
      simp only [wipeD, u_seq, u_asg, u_call, u_exp, u_if, u_ret, u_setS, u_par, u_nx, nxt_nx, nxt_rt, u_list, u_list0, u_var, u_con, u_bin, u_un1, u_and, u_or, u_chain, u_ite, u_blt, u_tup, u_lst, u_slc, u_opt, u_opt0, im_int, u_nm, u_tgs, u_tgs0, u_tupT, List.getElem?_cons_succ, List.getElem?_cons_zero, bind_ok, thenS_ok, thenI_ok, List.length_cons, List.length_nil, Nat.reduceAdd, Nat.reduceSub, Nat.reduceLT, Nat.reduceLeDiff, Nat.zero_le, if_true, om_some, List.set_cons_succ, List.set_cons_zero, bm_bl, Bool.not_true, Bool.not_false, Bool.false_eq_true, if_false, u_add, u_sub, u_neg, u_not, u_lt, u_le, u_gt, u_ge, u_eqI, u_neI, decide_true, decide_false, u_int, u_intb, methF, List.map_cons, List.map_nil, List.replicate, List.cons_append, List.nil_append, q1'])) (by show N + 4 + 2 ≤ _; omega)) (by simp) hp1
  rw [List.append_assoc] at s2 at2 r2
  refine ⟨ds2, p2, e1 ++ e2, j2, hp2, l2, s2, at2, ?_⟩
  rw [F_law_b3, u_seq, r1, nxt_nx]
  simp only [List.set_cons_succ, List.set_cons_zero]
  rw [u_seq, r2, nxt_nx]
  rfl
theorem k02_cell (ns : List Int) (i : Nat) (zs : List (Option D)) (h : Hv) (hz : zs.length = 9) (h0 : h[0]? = some (.ro (ns.map .int))) :
    ∃ (zs' : List (Option D)) (h' : Hv), zs'.length = 9 ∧ F_law_b4 (callK T 59) (some (.ref 0) :: some (.int (i : Nat)) :: zs) h = .nx (some (.ref 0) :: some (.int (i : Nat)) :: zs') h' ∧ h'[0]? = some (.ro (ns.map .int)) := by
  obtain ⟨z2, z3, z4, z5, z6, z7, z8, z9, z10, rfl⟩ := zs9 hz
  obtain ⟨cl, ec⟩ := _law_cell_at_ok 58 ns i 0 h h0
  obtain ⟨pen, hpn, ep⟩ := _law_pen_ok 58 cl h
  obtain ⟨P, K, B, x, y, hold, s, p1, P1, P2, K1, K2, B1, B2, x1, x2, y1, y2, s0, s1, lh, hh, sh, hp1, et⟩ := _law_train_ok 55 h pen [] hpn
  have et' : callK T 59 "_law_train" [.ref h.length] (hp h pen []) = .ok (trD P K B hold x y) (hp h p1 []) := et
  have x0 : ∀ h, opIx (trD P K B hold x y) (.int 0) h = .ok (.int P) h := fun h => by simp [trD]
  have x1' : ∀ h, opIx (trD P K B hold x y) (.int 1) h = .ok (.int K) h := fun h => by simp [trD]
  -- the things
  obtain ⟨d2, q2, g2, j2, hq2, l2, s2, at2, r2⟩ := EvL.asg (C := callK T 59) (env := [some (.ref 0), some (.int (i : Nat)), some (.ref h.length), some (trD P K B hold x y), z4, z5, z6, z7, z8, z9, z10]) (h0 := h) (g0 := []) (n := 23 + 1) (i := 4) (f := (binF opAdd (callF "_law_bounds" [(varF 3)]) (lstF [(callF "_law_thing" [(varF 2), (conF (.int 2))])])))
    (EvL.add (by
      intro pen e hpn
      obtain ⟨ds, p2, hp2, ld, sd, q⟩ := _law_bounds_ok 58 h pen ([] ++ e) P K B x y hold P2 K1 K2 hpn
      have q' : callK T 59 "_law_bounds" [(trD P K B hold x y)] (hp h pen ([] ++ e)) = .ok (.ref (h.length + 1 + ([] ++ e).length)) (hp h p2 ([] ++ e ++ [Ob.lst ds])) := q
      refine ⟨ds, p2, [Ob.lst ds], ([] ++ e).length, hp2, ld, fun d hd => (sd d hd).2 _, by simp, ?_⟩
      rw [List.append_assoc] at q'
      simp only [u_call, u_list, u_list0, u_var, List.getElem?_cons_succ, List.getElem?_cons_zero, bind_ok, q']) (EvL.lst (fs := [(callF "_law_thing" [(varF 2), (conF (.int 2))])]) (by
      intro f hf
      simp only [List.mem_cons, List.not_mem_nil, or_false] at hf
      rcases hf with rfl
      intro pen e hpn
      obtain ⟨d, p2, e2, hp2, sd, e1⟩ := _law_thing_ok 2 55 h pen ([] ++ e) hpn
      have e1' : callK T 59 "_law_thing" [.ref h.length, .int 2] (hp h pen ([] ++ e)) = .ok d (hp h p2 ([] ++ e ++ e2)) := e1
      rw [List.append_assoc] at sd e1'
      refine ⟨d, p2, e2, hp2, sd, ?_⟩
      simp only [u_call, u_list, u_list0, u_var, u_con, List.getElem?_cons_succ, List.getElem?_cons_zero, bind_ok, e1']) (by decide)) (by decide)) (by simp) hp1
  -- the deeds
  obtain ⟨dd, q3, hq3, l3, s3, r3⟩ := _law_deeds_ok 54 h q2 g2 P K B x y hold P1 P2 K1 K2 hq2
  have r3' : callK T 59 "_law_deeds" [.ref h.length, (trD P K B hold x y)] (hp h q2 g2) = .ok (.ref (h.length + 1 + g2.length)) (hp h q3 (g2 ++ [Ob.lst dd])) := r3
  have atd : ∀ e : Hv, (g2 ++ [Ob.lst dd] ++ e)[g2.length]? = some (Ob.lst dd) := fun e => by simp
  have at23 : (g2 ++ [Ob.lst dd])[j2]? = some (Ob.lst d2) := by rw [List.getElem?_append_left (List.getElem?_eq_some_iff.1 at2).1]; exact at2
  obtain ⟨env4, h4, r4, ⟨w5, q4, e4, j4, d4, rfl, rfl, hq4, l4, s4, at4⟩⟩ := for_list (C := callK T 59) (tg := nmT 5) (body := F_law_b3) (gs := [(h.length + 1 + g2.length, dd)]) (fun d : D => d)
    (fun pre env1 h1 => ∃ w5 q e j ds, env1 = [some (.ref 0), some (.int (i : Nat)), some (.ref h.length), some (trD P K B hold x y), some (.ref (h.length + 1 + j)), w5, z6, z7, z8, z9, z10] ∧ h1 = hp h q (g2 ++ [Ob.lst dd] ++ e) ∧ PenOk q ∧ ds.length ≤ 24 + 6 * pre.length ∧ (∀ d ∈ ds, Sml (hp h q (g2 ++ [Ob.lst dd] ++ e)) d) ∧ (g2 ++ [Ob.lst dd] ++ e)[j]? = some (Ob.lst ds)) dd
    (by
      rintro pre env1 h1 ⟨w5, q, e, j, ds, rfl, rfl, _⟩
      have z : (hp h q (g2 ++ [Ob.lst dd] ++ e))[h.length + 1 + g2.length]? = some (Ob.lst dd) := by rw [hp_get1]; exact atd e
      simp only [guardsOk, List.all_cons, List.all_nil, Bool.and_true, z]
      simp)
    (by
      rintro pre d post env1 h1 ed ⟨w5, q, e, j, ds, rfl, rfl, hq, hl, hs, at_⟩
      have ln : pre.length ≤ 9 := by
        have := congrArg List.length ed
        simp at this
        omega
      obtain ⟨xs, rfl, lx, og⟩ := s3 d (by rw [ed]; simp)
      obtain ⟨ds', q', e', j', hq', l', s', at', r⟩ := k02_b3 (h := h) (g0 := g2 ++ [Ob.lst dd] ++ e) hq (trD P K B hold x y) (24 + 6 * pre.length) j ds at_ hl (by omega) hs xs lx og (some (.ref 0)) (some (.int (i : Nat))) z6 z7 z8 z9 z10
      rw [List.append_assoc (g2 ++ [Ob.lst dd])] at s' at' r
      exact ⟨_, rfl, _, _, r, some (.tup xs), q', e ++ e', j', ds', rfl, rfl, hq', by rw [List.length_append, List.length_singleton]; omega, s', at'⟩)
    dd [] rfl [some (.ref 0), some (.int (i : Nat)), some (.ref h.length), some (trD P K B hold x y), some (.ref (h.length + 1 + j2)), z5, z6, z7, z8, z9, z10] (hp h q3 (g2 ++ [Ob.lst dd])) ⟨z5, q3, [], j2, d2, rfl, by rw [List.append_nil], hq3, by simpa using l2, fun d hd => by rw [List.append_nil]; exact (s2 d hd).mono (by simp), by rw [List.append_nil]; exact at23⟩
  rw [List.map_id'] at r4
  have l4' : d4.length ≤ 78 := by omega
  generalize hg4 : g2 ++ [Ob.lst dd] ++ e4 = g4 at *
  obtain ⟨w6, q5, g5, hq5, r5⟩ := EvL.loop0 (C := callK T 59) (env := [some (.ref 0), some (.int (i : Nat)), some (.ref h.length), some (trD P K B hold x y), some (.ref (h.length + 1 + j4)), w5, z6, z7, z8, z9, z10]) (h0 := h) (g0 := g4) (n := 78) (i := 6) (f := (varF 4)) (body := F_law_b2)
    (EvL.var (pen := q4) rfl at4 l4' s4) (by simp) hq4 (fun H d s => k02_b2 P K B x y hold P2 _ _ _ _ _ _ _ _ _ d H s)
  -- the load
  obtain ⟨c, q6, c1, c2, hq6, e6⟩ := _law_draw_ok 58 K h q5 g5 (by omega) (by omega) hq5
  obtain ⟨n, q7, n1, n2, hq7, e7⟩ := _law_pieces_ok 57 h q6 g5 hq6
  obtain ⟨s', qs, q8, s0', s1', lq, hqs, sq, hq8, e8⟩ := _law_whole_ok 56 P h q7 g5 (by omega) (by omega) hq7
  have e6' : callK T 59 "_law_draw" [.ref h.length, .int K] (hp h q5 g5) = .ok (.int c) (hp h q6 g5) := e6
  have e7' : callK T 59 "_law_pieces" [.ref h.length] (hp h q6 g5) = .ok (.int n) (hp h q7 g5) := e7
  have e8' : callK T 59 "_law_whole" [.ref h.length, .int P] (hp h q7 g5) = .ok (shD qs) (hp h q8 g5) := e8
  have ogl : Og 3 (.tup [.int c, .int n, shD qs]) := by
    have a1 := og_p 2 n1 n2
    have a2 := og_sh hqs s0' (by omega) (by omega) 0
    (repeat' (first | assumption | exact ogL_nil _ | refine ogL_cons ?_ ?_ | exact Og.str _ _ (by simp [wordsL]) | exact og_i _ (by omega) (by omega) | refine og_tupL ?_ (by simp)))
  have r6 : (asgS (nmT 7) (tupF [(callF "_law_draw" [(varF 2), (binF opIx (varF 3) (conF (.int 1)))]), (callF "_law_pieces" [(varF 2)]), (callF "_law_whole" [(varF 2), (binF opIx (varF 3) (conF (.int 0)))])])) (callK T 59) [some (.ref 0), some (.int (i : Nat)), some (.ref h.length), some (trD P K B hold x y), some (.ref (h.length + 1 + j4)), w5, w6, z7, z8, z9, z10] (hp h q5 g5) = .nx [some (.ref 0), some (.int (i : Nat)), some (.ref h.length), some (trD P K B hold x y), some (.ref (h.length + 1 + j4)), w5, w6, some (.tup [.int c, .int n, shD qs]), z8, z9, z10] (hp h q8 g5) := by
    simp only [u_seq, u_asg, u_call, u_exp, u_if, u_ret, u_setS, u_par, u_nx, nxt_nx, nxt_rt, u_list, u_list0, u_var, u_con, u_bin, u_un1, u_and, u_or, u_chain, u_ite, u_blt, u_tup, u_lst, u_slc, u_opt, u_opt0, im_int, u_nm, u_tgs, u_tgs0, u_tupT, List.getElem?_cons_succ, List.getElem?_cons_zero, bind_ok, thenS_ok, thenI_ok, List.length_cons, List.length_nil, Nat.reduceAdd, Nat.reduceSub, Nat.reduceLT, Nat.reduceLeDiff, Nat.zero_le, if_true, om_some, List.set_cons_succ, List.set_cons_zero, bm_bl, Bool.not_true, Bool.not_false, Bool.false_eq_true, if_false, u_add, u_sub, u_neg, u_not, u_lt, u_le, u_gt, u_ge, u_eqI, u_neI, decide_true, decide_false, u_int, u_intb, methF, List.map_cons, List.map_nil, List.replicate, List.cons_append, List.nil_append, x0, x1', e6', e7', e8']
  have sc : ∀ H, Sml H (.int c) := fun H => sml_i H (by omega) (by omega)
  have sn : ∀ H, Sml H (.int n) := fun H => (og_p 2 n1 n2).sml H
  have sq' : ∀ H, Sml H (shD qs) := fun H => (og_sh hqs s0' (by omega) (by omega) 0).sml H
  have sk : ∀ H, Sml H (.int K) := fun H => sml_i H (by omega) (by omega)
  obtain ⟨d8, q9, g9, j9, hq9, l9, s9, at9, r9⟩ := EvL.asg (C := callK T 59) (env := [some (.ref 0), some (.int (i : Nat)), some (.ref h.length), some (trD P K B hold x y), some (.ref (h.length + 1 + j4)), w5, w6, some (.tup [.int c, .int n, shD qs]), z8, z9, z10]) (h0 := h) (g0 := g5) (n := 5) (i := 8) (f := (lstF [(varF 7), (binF opAdd (tupF [(binF opIx (varF 3) (conF (.int 1)))]) (slcF opSl (varF 7) (some (conF (.int 1))) none)), (binF opAdd (binF opAdd (slcF opSl (varF 7) none (some (conF (.int 1)))) (tupF [(conF (.int 0))])) (slcF opSl (varF 7) (some (conF (.int 2))) none)), (binF opAdd (binF opAdd (slcF opSl (varF 7) none (some (conF (.int 1)))) (tupF [(un1F opNeg (conF (.int 1)))])) (slcF opSl (varF 7) (some (conF (.int 2))) none)), (slcF opSl (varF 7) none (some (conF (.int 2))))]))
    (EvL.lst (fs := [(varF 7), (binF opAdd (tupF [(binF opIx (varF 3) (conF (.int 1)))]) (slcF opSl (varF 7) (some (conF (.int 1))) none)), (binF opAdd (binF opAdd (slcF opSl (varF 7) none (some (conF (.int 1)))) (tupF [(conF (.int 0))])) (slcF opSl (varF 7) (some (conF (.int 2))) none)), (binF opAdd (binF opAdd (slcF opSl (varF 7) none (some (conF (.int 1)))) (tupF [(un1F opNeg (conF (.int 1)))])) (slcF opSl (varF 7) (some (conF (.int 2))) none)), (slcF opSl (varF 7) none (some (conF (.int 2))))]) (by
      intro f hf
      simp only [List.mem_cons, List.not_mem_nil, or_false] at hf
      rcases hf with rfl | rfl | rfl | rfl | rfl
      · exact EvD.pure (d := .tup [.int c, .int n, shD qs]) (fun h => rfl) fun H => by have := sc H; have := sn H; have := sq' H; (repeat' (first | assumption | exact smlL_nil _ | refine smlL_cons ?_ ?_ | exact Sml.bl _ | exact Sml.non | exact Sml.str _ (by decide +kernel) | exact sml_i _ (by omega) (by omega) | exact sml_rep _ (by omega) (by decide) (by decide) | refine sml_tupL ?_ (by simp)))
      · exact EvD.pure (d := .tup [.int K, .int n, shD qs]) (fun h => rfl) fun H => by have := sk H; have := sn H; have := sq' H; (repeat' (first | assumption | exact smlL_nil _ | refine smlL_cons ?_ ?_ | exact Sml.bl _ | exact Sml.non | exact Sml.str _ (by decide +kernel) | exact sml_i _ (by omega) (by omega) | exact sml_rep _ (by omega) (by decide) (by decide) | refine sml_tupL ?_ (by simp)))
      · exact EvD.pure (d := .tup [.int c, .int 0, shD qs]) (fun h => rfl) fun H => by have := sc H; have := sn H; have := sq' H; (repeat' (first | assumption | exact smlL_nil _ | refine smlL_cons ?_ ?_ | exact Sml.bl _ | exact Sml.non | exact Sml.str _ (by decide +kernel) | exact sml_i _ (by omega) (by omega) | exact sml_rep _ (by omega) (by decide) (by decide) | refine sml_tupL ?_ (by simp)))
      · exact EvD.pure (d := .tup [.int c, .int (-1), shD qs]) (fun h => rfl) fun H => by have := sc H; have := sn H; have := sq' H; (repeat' (first | assumption | exact smlL_nil _ | refine smlL_cons ?_ ?_ | exact Sml.bl _ | exact Sml.non | exact Sml.str _ (by decide +kernel) | exact sml_i _ (by omega) (by omega) | exact sml_rep _ (by omega) (by decide) (by decide) | refine sml_tupL ?_ (by simp)))
      · exact EvD.pure (d := .tup [.int c, .int n]) (fun h => rfl) fun H => by have := sc H; have := sn H; have := sq' H; (repeat' (first | assumption | exact smlL_nil _ | refine smlL_cons ?_ ?_ | exact Sml.bl _ | exact Sml.non | exact Sml.str _ (by decide +kernel) | exact sml_i _ (by omega) (by omega) | exact sml_rep _ (by omega) (by decide) (by decide) | refine sml_tupL ?_ (by simp)))) (by decide)) (by simp) hq8
  obtain ⟨d10, q10, g10, j10, hq10, l10, s10, at10, r10⟩ := EvL.asg (C := callK T 59) (env := [some (.ref 0), some (.int (i : Nat)), some (.ref h.length), some (trD P K B hold x y), some (.ref (h.length + 1 + j4)), w5, w6, some (.tup [.int c, .int n, shD qs]), some (.ref (h.length + 1 + j9)), z9, z10]) (h0 := h) (g0 := g9) (n := 5 + 4 + 1) (i := 8) (f := (binF opAdd (binF opAdd (varF 8) (lcF (itE (tupF [(conF (.int 1)), (conF (.int 2)), (conF (.int 3)), (conF (.int 4))])) (nmT 10) [10] (conF (.bl true)) (binF opAdd (slcF opSl (varF 7) none (some (conF (.int 2)))) (tupF [(callF "_law_whole" [(varF 2), (varF 10)])])))) (lstF [(bltF bList [(varF 7)])])))
    (EvL.add (EvL.add (EvL.var (pen := q9) rfl at9 l9 s9) (EvL.lc (xs := [.int 1, .int 2, .int 3, .int 4]) (fun h => rfl) (by simp) rfl (by decide) (by
      intro z hz
      have fin : ∀ n' : Nat, 1 ≤ n' → n' ≤ 4 → EvD (callK T 59) (([some (D.ref 0), some (D.int (i : Nat)), some (D.ref h.length), some (trD P K B hold x y), some (D.ref (h.length + 1 + j4)), w5, w6, some (D.tup [.int c, .int n, shD qs]), some (D.ref (h.length + 1 + j9)), z9, some (D.int n')] : Env)) h g9 (binF opAdd (slcF opSl (varF 7) none (some (conF (.int 2)))) (tupF [(callF "_law_whole" [(varF 2), (varF 10)])])) := by
        intro n' n1 n4 pen e hpn
        obtain ⟨s, qs', p2, s0, s1, lq', hq', sq2, hp2, e2⟩ := _law_whole_ok 56 n' h pen (g9 ++ e) (by omega) (by omega) hpn
        have e2' : callK T 59 "_law_whole" [.ref h.length, .int n'] (hp h pen (g9 ++ e)) = .ok (.tup (qs'.map am)) (hp h p2 (g9 ++ e)) := e2
        refine ⟨.tup [.int c, .int n, .tup (qs'.map am)], p2, [], hp2, ?_, ?_⟩
        · have := sc (hp h p2 (g9 ++ (e ++ []))); have := sn (hp h p2 (g9 ++ (e ++ []))); have : Sml (hp h p2 (g9 ++ (e ++ []))) (.tup (qs'.map am)) := (og_sh hq' s0 (by omega) (by omega) 0).sml _
          (repeat' (first | assumption | exact smlL_nil _ | refine smlL_cons ?_ ?_ | exact Sml.bl _ | exact Sml.non | exact Sml.str _ (by decide +kernel) | exact sml_i _ (by omega) (by omega) | exact sml_rep _ (by omega) (by decide) (by decide) | refine sml_tupL ?_ (by simp)))
        · rw [List.append_nil]
          have sl1 : ∀ h, opSl (.tup [.int c, .int n, shD qs]) none (some 2) h = .ok (.tup [.int c, .int n]) h := fun h => rfl
          simp only [u_seq, u_asg, u_call, u_exp, u_if, u_ret, u_setS, u_par, u_nx, nxt_nx, nxt_rt, u_list, u_list0, u_var, u_con, u_bin, u_un1, u_and, u_or, u_chain, u_ite, u_blt, u_tup, u_lst, u_slc, u_opt, u_opt0, im_int, u_nm, u_tgs, u_tgs0, u_tupT, List.getElem?_cons_succ, List.getElem?_cons_zero, bind_ok, thenS_ok, thenI_ok, List.length_cons, List.length_nil, Nat.reduceAdd, Nat.reduceSub, Nat.reduceLT, Nat.reduceLeDiff, Nat.zero_le, if_true, om_some, List.set_cons_succ, List.set_cons_zero, bm_bl, Bool.not_true, Bool.not_false, Bool.false_eq_true, if_false, u_add, u_sub, u_neg, u_not, u_lt, u_le, u_gt, u_ge, u_eqI, u_neI, decide_true, decide_false, u_int, u_intb, methF, List.map_cons, List.map_nil, List.replicate, List.cons_append, List.nil_append, sl1, e2', u_addT]
      simp only [List.mem_cons, List.not_mem_nil, or_false] at hz
      rcases hz with rfl | rfl | rfl | rfl
      · exact fin 1 (by decide) (by decide)
      · exact fin 2 (by decide) (by decide)
      · exact fin 3 (by decide) (by decide)
      · exact fin 4 (by decide) (by decide))) (by decide)) (EvL.lst (fs := [(bltF bList [(varF 7)])]) (by
      intro f hf
      simp only [List.mem_cons, List.not_mem_nil, or_false] at hf
      rcases hf with rfl
      refine EvD.ofL (EvL.list (n := 3) (ds := [.int c, .int n, shD qs]) (fun h => rfl) (fun H => ?_) (by simp))
      have := sc H; have := sn H; have := sq' H
      have z : SmlL H [.int c, .int n, shD qs] := by (repeat' (first | assumption | exact smlL_nil _ | refine smlL_cons ?_ ?_ | exact Sml.bl _ | exact Sml.non | exact Sml.str _ (by decide +kernel) | exact sml_i _ (by omega) (by omega) | exact sml_rep _ (by omega) (by decide) (by decide) | refine sml_tupL ?_ (by simp)))
      exact z) (by decide)) (by decide)) (by simp) hq9
  obtain ⟨w11, q11, g11, hq11, r11⟩ := EvL.loop0 (C := callK T 59) (env := [some (.ref 0), some (.int (i : Nat)), some (.ref h.length), some (trD P K B hold x y), some (.ref (h.length + 1 + j4)), w5, w6, some (.tup [.int c, .int n, shD qs]), some (.ref (h.length + 1 + j10)), z9, z10]) (h0 := h) (g0 := g10) (n := 5 + 4 + 1 + 1 + 8) (i := 6) (f := (binF opAdd (binF opAdd (varF 8) (lstF [(callF "_law_thing" [(varF 2), (conF (.int 2))])])) (lcF (it1F (conF (.int 8))) (nmT 9) [9] (conF (.bl true)) (callF "_law_spoilt" [(varF 2), (varF 7)])))) (body := F_law_b1)
    (EvL.add (EvL.add (EvL.var (pen := q10) rfl at10 l10 s10) (EvL.lst (fs := [(callF "_law_thing" [(varF 2), (conF (.int 2))])]) (by
      intro f hf
      simp only [List.mem_cons, List.not_mem_nil, or_false] at hf
      rcases hf with rfl
      intro pen e hpn
      obtain ⟨d, p2, e2, hp2, sd, e1⟩ := _law_thing_ok 2 55 h pen (g10 ++ e) hpn
      have e1' : callK T 59 "_law_thing" [.ref h.length, .int 2] (hp h pen (g10 ++ e)) = .ok d (hp h p2 (g10 ++ e ++ e2)) := e1
      rw [List.append_assoc] at sd e1'
      refine ⟨d, p2, e2, hp2, sd, ?_⟩
      simp only [u_seq, u_asg, u_call, u_exp, u_if, u_ret, u_setS, u_par, u_nx, nxt_nx, nxt_rt, u_list, u_list0, u_var, u_con, u_bin, u_un1, u_and, u_or, u_chain, u_ite, u_blt, u_tup, u_lst, u_slc, u_opt, u_opt0, im_int, u_nm, u_tgs, u_tgs0, u_tupT, List.getElem?_cons_succ, List.getElem?_cons_zero, bind_ok, thenS_ok, thenI_ok, List.length_cons, List.length_nil, Nat.reduceAdd, Nat.reduceSub, Nat.reduceLT, Nat.reduceLeDiff, Nat.zero_le, if_true, om_some, List.set_cons_succ, List.set_cons_zero, bm_bl, Bool.not_true, Bool.not_false, Bool.false_eq_true, if_false, u_add, u_sub, u_neg, u_not, u_lt, u_le, u_gt, u_ge, u_eqI, u_neI, decide_true, decide_false, u_int, u_intb, methF, List.map_cons, List.map_nil, List.replicate, List.cons_append, List.nil_append, e1']) (by decide)) (by decide))
     (EvL.lc (xs := (List.range 8).map fun i => D.int (i : Nat)) (fun h => it1_ok (n := 8) rfl (by decide)) (by simp) rfl (by decide) (by
      intro z hz pen e hpn
      obtain ⟨d, p2, e2, hp2, sd, e1⟩ := _law_spoilt_ok 3 51 h pen (g10 ++ e) (.tup [.int c, .int n, shD qs]) (by decide) ogl hpn
      have e1' : callK T 59 "_law_spoilt" [.ref h.length, .tup [.int c, .int n, shD qs]] (hp h pen (g10 ++ e)) = .ok d (hp h p2 (g10 ++ e ++ e2)) := e1
      rw [List.append_assoc] at sd e1'
      refine ⟨d, p2, e2, hp2, sd, ?_⟩
      simp only [wipeD, u_seq, u_asg, u_call, u_exp, u_if, u_ret, u_setS, u_par, u_nx, nxt_nx, nxt_rt, u_list, u_list0, u_var, u_con, u_bin, u_un1, u_and, u_or, u_chain, u_ite, u_blt, u_tup, u_lst, u_slc, u_opt, u_opt0, im_int, u_nm, u_tgs, u_tgs0, u_tupT, List.getElem?_cons_succ, List.getElem?_cons_zero, bind_ok, thenS_ok, thenI_ok, List.length_cons, List.length_nil, Nat.reduceAdd, Nat.reduceSub, Nat.reduceLT, Nat.reduceLeDiff, Nat.zero_le, if_true, om_some, List.set_cons_succ, List.set_cons_zero, bm_bl, Bool.not_true, Bool.not_false, Bool.false_eq_true, if_false, u_add, u_sub, u_neg, u_not, u_lt, u_le, u_gt, u_ge, u_eqI, u_neI, decide_true, decide_false, u_int, u_intb, methF, List.map_cons, List.map_nil, List.replicate, List.cons_append, List.nil_append, e1'])) (by decide)) (by simp) hq10
    (fun H d s => k02_b1 P K B x y hold P2 _ _ _ _ _ _ _ _ _ d H s)
  refine ⟨[some (.ref h.length), some (trD P K B hold x y), some (.ref (h.length + 1 + j4)), w5, w11, some (.tup [.int c, .int n, shD qs]), some (.ref (h.length + 1 + j10)), z9, z10], hp h q11 g11, rfl, ?_, ref0_hp h0⟩
  have r4' : (forS (itE (callF "_law_deeds" [(varF 2), (varF 3)])) (nmT 5) F_law_b3) (callK T 59) [some (.ref 0), some (.int (i : Nat)), some (.ref h.length), some (trD P K B hold x y), some (.ref (h.length + 1 + j2)), z5, z6, z7, z8, z9, z10] (hp h q2 g2) = .nx [some (.ref 0), some (.int (i : Nat)), some (.ref h.length), some (trD P K B hold x y), some (.ref (h.length + 1 + j4)), w5, z6, z7, z8, z9, z10] (hp h q4 g4) := by
    have it : itE (callF "_law_deeds" [(varF 2), (varF 3)]) (callK T 59) [some (.ref 0), some (.int (i : Nat)), some (.ref h.length), some (trD P K B hold x y), some (.ref (h.length + 1 + j2)), z5, z6, z7, z8, z9, z10] (hp h q2 g2) = .ok (dd, [(h.length + 1 + g2.length, dd)]) (hp h q3 (g2 ++ [Ob.lst dd])) := by
      have z : (hp h q3 (g2 ++ [Ob.lst dd]))[h.length + 1 + g2.length]? = some (Ob.lst dd) := by rw [hp_get1]; simp
      simp only [itE, u_call, u_list, u_list0, u_var, List.getElem?_cons_succ, List.getElem?_cons_zero, bind_ok, r3', seqOf, z]
    rw [u_for, it, thenI_ok]
    exact r4
  rw [F_law_b4, u_seq, u_asg]
  simp only [u_call, u_list, u_list0, u_var, List.getElem?_cons_succ, List.getElem?_cons_zero, bind_ok, ec, ep, thenS_ok, u_nm, List.length_cons, List.length_nil, Nat.reduceAdd, Nat.reduceLT, if_true, om_some, List.set_cons_succ, List.set_cons_zero]
  rw [nxt_nx, u_seq, u_asg]
  simp only [u_call, u_list, u_list0, u_var, List.getElem?_cons_succ, List.getElem?_cons_zero, bind_ok, et', thenS_ok, u_nm, List.length_cons, List.length_nil, Nat.reduceAdd, Nat.reduceLT, if_true, om_some, List.set_cons_succ, List.set_cons_zero]
  rw [nxt_nx, u_seq, r2, nxt_nx]
  simp only [List.set_cons_succ, List.set_cons_zero]
  rw [u_seq, r4', nxt_nx, u_seq, r5, nxt_nx]
  simp only [List.set_cons_succ, List.set_cons_zero]
  rw [u_seq, r6, nxt_nx, u_seq, r9, nxt_nx]
  simp only [List.set_cons_succ, List.set_cons_zero]
  rw [u_seq, r10, nxt_nx]
  simp only [List.set_cons_succ, List.set_cons_zero]
  rw [u_seq, r11, nxt_nx]
  rfl
theorem law_true0 : ∀ ns : List Int, ns.length ≤ 63 → ∃ h', callK T 60 "law" [.ref 0] [.ro (ns.map .int)] = .ok (.bl true) h' := by
  intro ns _
  exact law_ends (m := 9) (body := F_law_b4) (by decide) (by decide) t_law rfl rfl (k02_cell ns)
end VM
namespace VM
open PySem PySem.Spec PyProof.Rows L2
abbrev pw : PySem.Program := PySem.Challenge.pw_sharetrail_k02_loads_and_deeds
def topS (i : Nat) : Stmt := pw.main.body.getD i (.Pass ⟨0, 0, 0, 0⟩)
def row_is_whole : Row := ⟨"is_whole", topS 3, ["thing"], ["thing"], R_is_whole⟩
def row_is_within : Row := ⟨"is_within", topS 4, ["thing", "low", "high"], ["thing", "low", "high"], R_is_within⟩
def row_common : Row := ⟨"common", topS 5, ["one", "other"], ["one", "other"], R_common⟩
def row_made : Row := ⟨"made", topS 6, ["top", "bottom", "by"], ["top", "bottom"], R_made⟩
def row_is_amount : Row := ⟨"is_amount", topS 7, ["thing"], ["thing"], R_is_amount⟩
def row_looks_a_share : Row := ⟨"looks_a_share", topS 8, ["thing"], ["thing"], R_looks_a_share⟩
def row_plus : Row := ⟨"plus", topS 9, ["one", "other"], ["one", "other"], R_plus⟩
def row_all_of : Row := ⟨"all_of", topS 10, ["amounts", "found", "amount"], ["amounts"], R_all_of⟩
def row_are_shares : Row := ⟨"are_shares", topS 11, ["thing", "many", "one"], ["thing", "many"], R_are_shares⟩
def row_is_load : Row := ⟨"is_load", topS 16, ["train", "thing"], ["train", "thing"], R_is_load⟩
def row_is_from : Row := ⟨"is_from", topS 17, ["thing", "least"], ["thing", "least"], R_is_from⟩
def row_are_worths : Row := ⟨"are_worths", topS 18, ["thing", "many", "one"], ["thing", "many"], R_are_worths⟩
def row_is_swapping : Row := ⟨"is_swapping", topS 19, ["train", "thing", "load", "given", "kind", "got"], ["train", "thing"], R_is_swapping⟩
def row_is_partner : Row := ⟨"is_partner", topS 20, ["train", "thing"], ["train", "thing"], R_is_partner⟩
def row_is_selling : Row := ⟨"is_selling", topS 21, ["train", "thing", "partner", "other", "share"], ["train", "thing"], R_is_selling⟩
def row_is_deed : Row := ⟨"is_deed", topS 22, ["train", "thing", "word", "things"], ["train", "thing"], R_is_deed⟩
def row__law_cell_at : Row := ⟨"_law_cell_at", topS 24, ["_law_script", "_law_k"], ["_law_script", "_law_k"], R__law_cell_at⟩
def row__law_pen : Row := ⟨"_law_pen", topS 25, ["_law_cell"], ["_law_cell"], R__law_pen⟩
def row__law_draw : Row := ⟨"_law_draw", topS 26, ["_law_pen_here", "_law_bound", "_law_stir", "_law_found"], ["_law_pen_here", "_law_bound"], R__law_draw⟩
def row__law_common : Row := ⟨"_law_common", topS 27, ["_law_one", "_law_other"], ["_law_one", "_law_other"], R__law_common⟩
def row__law_made : Row := ⟨"_law_made", topS 28, ["_law_top", "_law_bottom", "_law_by"], ["_law_top", "_law_bottom"], R__law_made⟩
def row__law_plus : Row := ⟨"_law_plus", topS 29, ["_law_one", "_law_other"], ["_law_one", "_law_other"], R__law_plus⟩
def row__law_sum : Row := ⟨"_law_sum", topS 32, ["_law_some", "_law_found", "_law_one"], ["_law_some"], R__law_sum⟩
def row__law_whole : Row := ⟨"_law_whole", topS 33, ["_law_pen_here", "_law_many", "_law_weights", "_law_one", "_law_weight"], ["_law_pen_here", "_law_many"], R__law_whole⟩
def row__law_pieces : Row := ⟨"_law_pieces", topS 34, ["_law_pen_here", "_law_great"], ["_law_pen_here"], R__law_pieces⟩
def row__law_train : Row := ⟨"_law_train", topS 35, ["_law_pen_here", "_law_beasts", "_law_partners", "_law_kinds"], ["_law_pen_here"], R__law_train⟩
def row__law_share : Row := ⟨"_law_share", topS 37, ["_law_pen_here", "_law_bottom"], ["_law_pen_here"], R__law_share⟩
def row__law_worths : Row := ⟨"_law_worths", topS 38, ["_law_pen_here", "_law_many", "_law_one"], ["_law_pen_here", "_law_many"], R__law_worths⟩
def row__law_thing : Row := ⟨"_law_thing", topS 39, ["_law_pen_here", "_law_deep", "_law_way", "_law_parts", "_law_k"], ["_law_pen_here", "_law_deep"], R__law_thing⟩
def row__law_spoilt : Row := ⟨"_law_spoilt", topS 40, ["_law_pen_here", "_law_thing_here", "_law_way", "_law_at"], ["_law_pen_here", "_law_thing_here"], R__law_spoilt⟩
def row__law_in : Row := ⟨"_law_in", topS 41, ["_law_thing_here", "_law_low", "_law_high"], ["_law_thing_here", "_law_low", "_law_high"], R__law_in⟩
def row__law_is_amount : Row := ⟨"_law_is_amount", topS 42, ["_law_thing_here"], ["_law_thing_here"], R__law_is_amount⟩
def row__law_is_share : Row := ⟨"_law_is_share", topS 43, ["_law_thing_here"], ["_law_thing_here"], R__law_is_share⟩
def row__law_are_shares : Row := ⟨"_law_are_shares", topS 44, ["_law_thing_here", "_law_many", "_law_one"], ["_law_thing_here", "_law_many"], R__law_are_shares⟩
def row__law_is_load : Row := ⟨"_law_is_load", topS 46, ["_law_train_here", "_law_thing_here"], ["_law_train_here", "_law_thing_here"], R__law_is_load⟩
def row__law_are_worths : Row := ⟨"_law_are_worths", topS 47, ["_law_thing_here", "_law_many", "_law_one"], ["_law_thing_here", "_law_many"], R__law_are_worths⟩
def row__law_is_sale : Row := ⟨"_law_is_sale", topS 48, ["_law_train_here", "_law_things"], ["_law_train_here", "_law_things"], R__law_is_sale⟩
def row__law_is_deed : Row := ⟨"_law_is_deed", topS 49, ["_law_train_here", "_law_thing_here", "_law_many", "_law_word", "_law_things", "_law_here"], ["_law_train_here", "_law_thing_here"], R__law_is_deed⟩
def row__law_deeds : Row := ⟨"_law_deeds", topS 50, ["_law_pen_here", "_law_train_here", "_law_found", "_law_load", "_law_pieces_here", "_law_kind", "_law_partner"], ["_law_pen_here", "_law_train_here"], R__law_deeds⟩
def row__law_bounds : Row := ⟨"_law_bounds", topS 51, ["_law_train_here", "_law_found"], ["_law_train_here"], R__law_bounds⟩
def row_law : Row := ⟨"law", topS 52, ["_law_script", "_law_k", "_law_pen_here", "_law_train_here", "_law_things", "_law_deed", "_law_thing_here", "_law_load", "_law_loads", "_law_turn", "_law_many"], ["_law_script"], R_law⟩
def rows0 : List Row := [row_is_whole, row_is_within, row_common, row_made, row_is_amount, row_looks_a_share, row_plus, row_all_of, row_are_shares, row_is_load, row_is_from, row_are_worths, row_is_swapping, row_is_partner, row_is_selling, row_is_deed, row__law_cell_at, row__law_pen, row__law_draw, row__law_common]
def rows1 : List Row := [row__law_made, row__law_plus, row__law_sum, row__law_whole, row__law_pieces, row__law_train, row__law_share, row__law_worths, row__law_thing, row__law_spoilt, row__law_in, row__law_is_amount, row__law_is_share, row__law_are_shares, row__law_is_load, row__law_are_worths, row__law_is_sale, row__law_is_deed, row__law_deeds, row__law_bounds]
def rows2 : List Row := [row_law]
def rows : List Row := rows0 ++ rows1 ++ rows2
def names0 : List (Str × Nat) := [("is_whole", 1), ("is_within", 3), ("common", 2), ("made", 2), ("is_amount", 1), ("looks_a_share", 1), ("plus", 2), ("all_of", 1), ("are_shares", 2), ("is_load", 2), ("is_from", 2), ("are_worths", 2), ("is_swapping", 2), ("is_partner", 2), ("is_selling", 2), ("is_deed", 2), ("_law_cell_at", 2), ("_law_pen", 1), ("_law_draw", 2), ("_law_common", 2)]
def names1 : List (Str × Nat) := [("_law_made", 2), ("_law_plus", 2), ("_law_sum", 1), ("_law_whole", 2), ("_law_pieces", 1), ("_law_train", 1), ("_law_share", 1), ("_law_worths", 2), ("_law_thing", 2), ("_law_spoilt", 2), ("_law_in", 3), ("_law_is_amount", 1), ("_law_is_share", 1), ("_law_are_shares", 2), ("_law_is_load", 2), ("_law_are_worths", 2), ("_law_is_sale", 2), ("_law_is_deed", 2), ("_law_deeds", 2), ("_law_bounds", 1)]
def names2 : List (Str × Nat) := [("law", 1)]
def names : List (Str × Nat) := names0 ++ names1 ++ names2
def cons : List (Str × D) := [("ALL", (.tup [(.int 1), (.int 1)])), ("MOST_BOTTOM", (.int 12)), ("MOST_NUMBER", (.int 9)), ("MOST_WORTH", (.int 99)), ("NOUGHT", (.tup [(.int 0), (.int 1)]))]
def blts : List Str := ["abs", "all", "bool", "int", "isinstance", "len", "list", "max", "min", "range", "str", "sum", "tuple"]
def ex0 : List Str := []
def inis : List IniD := []
def fz : Facts0 := ⟨rows, cons, blts, ex0, inis⟩
theorem inis_ok : ∀ d ∈ inis, d.okB = true ∧ d.Bd := by
  intro d hd
  exact absurd (show d ∈ ([] : List IniD) from hd) (by simp)
abbrev gl : Str → Option GV := glOf names cons blts ex0 (inis.map IniD.cls)
theorem c_is_whole : compFn 60 gl fz.ex row_is_whole.N row_is_whole.st = some F_is_whole := by kernel_rfl
theorem b_is_whole : row_is_whole.Bd := fun _ _ _ _ _ _ us hl => match us, hl with | [_], _ => rfl
theorem k_is_whole : row_is_whole.okB = true := by decide +kernel
theorem c_is_within : compFn 60 gl fz.ex row_is_within.N row_is_within.st = some F_is_within := by kernel_rfl
theorem b_is_within : row_is_within.Bd := fun _ _ _ _ _ _ us hl => match us, hl with | [_, _, _], _ => rfl
theorem k_is_within : row_is_within.okB = true := by decide +kernel
theorem c_common : compFn 60 gl fz.ex row_common.N row_common.st = some F_common := by kernel_rfl
theorem b_common : row_common.Bd := fun _ _ _ _ _ _ us hl => match us, hl with | [_, _], _ => rfl
theorem k_common : row_common.okB = true := by decide +kernel
theorem c_made : compFn 60 gl fz.ex row_made.N row_made.st = some F_made := by kernel_rfl
theorem b_made : row_made.Bd := fun _ _ _ _ _ _ us hl => match us, hl with | [_, _], _ => rfl
theorem k_made : row_made.okB = true := by decide +kernel
theorem c_is_amount : compFn 60 gl fz.ex row_is_amount.N row_is_amount.st = some F_is_amount := by kernel_rfl
theorem b_is_amount : row_is_amount.Bd := fun _ _ _ _ _ _ us hl => match us, hl with | [_], _ => rfl
theorem k_is_amount : row_is_amount.okB = true := by decide +kernel
theorem c_looks_a_share : compFn 60 gl fz.ex row_looks_a_share.N row_looks_a_share.st = some F_looks_a_share := by kernel_rfl
theorem b_looks_a_share : row_looks_a_share.Bd := fun _ _ _ _ _ _ us hl => match us, hl with | [_], _ => rfl
theorem k_looks_a_share : row_looks_a_share.okB = true := by decide +kernel
theorem c_plus : compFn 60 gl fz.ex row_plus.N row_plus.st = some F_plus := by kernel_rfl
theorem b_plus : row_plus.Bd := fun _ _ _ _ _ _ us hl => match us, hl with | [_, _], _ => rfl
theorem k_plus : row_plus.okB = true := by decide +kernel
theorem c_all_of : compFn 60 gl fz.ex row_all_of.N row_all_of.st = some F_all_of := by kernel_rfl
theorem b_all_of : row_all_of.Bd := fun _ _ _ _ _ _ us hl => match us, hl with | [_], _ => rfl
theorem k_all_of : row_all_of.okB = true := by decide +kernel
theorem c_are_shares : compFn 60 gl fz.ex row_are_shares.N row_are_shares.st = some F_are_shares := by kernel_rfl
theorem b_are_shares : row_are_shares.Bd := fun _ _ _ _ _ _ us hl => match us, hl with | [_, _], _ => rfl
theorem k_are_shares : row_are_shares.okB = true := by decide +kernel
theorem c_is_load : compFn 60 gl fz.ex row_is_load.N row_is_load.st = some F_is_load := by kernel_rfl
theorem b_is_load : row_is_load.Bd := fun _ _ _ _ _ _ us hl => match us, hl with | [_, _], _ => rfl
theorem k_is_load : row_is_load.okB = true := by decide +kernel
theorem c_is_from : compFn 60 gl fz.ex row_is_from.N row_is_from.st = some F_is_from := by kernel_rfl
theorem b_is_from : row_is_from.Bd := fun _ _ _ _ _ _ us hl => match us, hl with | [_, _], _ => rfl
theorem k_is_from : row_is_from.okB = true := by decide +kernel
theorem c_are_worths : compFn 60 gl fz.ex row_are_worths.N row_are_worths.st = some F_are_worths := by kernel_rfl
theorem b_are_worths : row_are_worths.Bd := fun _ _ _ _ _ _ us hl => match us, hl with | [_, _], _ => rfl
theorem k_are_worths : row_are_worths.okB = true := by decide +kernel
theorem c_is_swapping : compFn 60 gl fz.ex row_is_swapping.N row_is_swapping.st = some F_is_swapping := by kernel_rfl
theorem b_is_swapping : row_is_swapping.Bd := fun _ _ _ _ _ _ us hl => match us, hl with | [_, _], _ => rfl
theorem k_is_swapping : row_is_swapping.okB = true := by decide +kernel
theorem c_is_partner : compFn 60 gl fz.ex row_is_partner.N row_is_partner.st = some F_is_partner := by kernel_rfl
theorem b_is_partner : row_is_partner.Bd := fun _ _ _ _ _ _ us hl => match us, hl with | [_, _], _ => rfl
theorem k_is_partner : row_is_partner.okB = true := by decide +kernel
theorem c_is_selling : compFn 60 gl fz.ex row_is_selling.N row_is_selling.st = some F_is_selling := by kernel_rfl
theorem b_is_selling : row_is_selling.Bd := fun _ _ _ _ _ _ us hl => match us, hl with | [_, _], _ => rfl
theorem k_is_selling : row_is_selling.okB = true := by decide +kernel
theorem c_is_deed : compFn 60 gl fz.ex row_is_deed.N row_is_deed.st = some F_is_deed := by kernel_rfl
theorem b_is_deed : row_is_deed.Bd := fun _ _ _ _ _ _ us hl => match us, hl with | [_, _], _ => rfl
theorem k_is_deed : row_is_deed.okB = true := by decide +kernel
theorem c__law_cell_at : compFn 60 gl fz.ex row__law_cell_at.N row__law_cell_at.st = some F__law_cell_at := by kernel_rfl
theorem b__law_cell_at : row__law_cell_at.Bd := fun _ _ _ _ _ _ us hl => match us, hl with | [_, _], _ => rfl
theorem k__law_cell_at : row__law_cell_at.okB = true := by decide +kernel
theorem c__law_pen : compFn 60 gl fz.ex row__law_pen.N row__law_pen.st = some F__law_pen := by kernel_rfl
theorem b__law_pen : row__law_pen.Bd := fun _ _ _ _ _ _ us hl => match us, hl with | [_], _ => rfl
theorem k__law_pen : row__law_pen.okB = true := by decide +kernel
theorem c__law_draw : compFn 60 gl fz.ex row__law_draw.N row__law_draw.st = some F__law_draw := by kernel_rfl
theorem b__law_draw : row__law_draw.Bd := fun _ _ _ _ _ _ us hl => match us, hl with | [_, _], _ => rfl
theorem k__law_draw : row__law_draw.okB = true := by decide +kernel
theorem c__law_common : compFn 60 gl fz.ex row__law_common.N row__law_common.st = some F__law_common := by kernel_rfl
theorem b__law_common : row__law_common.Bd := fun _ _ _ _ _ _ us hl => match us, hl with | [_, _], _ => rfl
theorem k__law_common : row__law_common.okB = true := by decide +kernel
theorem c__law_made : compFn 60 gl fz.ex row__law_made.N row__law_made.st = some F__law_made := by kernel_rfl
theorem b__law_made : row__law_made.Bd := fun _ _ _ _ _ _ us hl => match us, hl with | [_, _], _ => rfl
theorem k__law_made : row__law_made.okB = true := by decide +kernel
theorem c__law_plus : compFn 60 gl fz.ex row__law_plus.N row__law_plus.st = some F__law_plus := by kernel_rfl
theorem b__law_plus : row__law_plus.Bd := fun _ _ _ _ _ _ us hl => match us, hl with | [_, _], _ => rfl
theorem k__law_plus : row__law_plus.okB = true := by decide +kernel
theorem c__law_sum : compFn 60 gl fz.ex row__law_sum.N row__law_sum.st = some F__law_sum := by kernel_rfl
theorem b__law_sum : row__law_sum.Bd := fun _ _ _ _ _ _ us hl => match us, hl with | [_], _ => rfl
theorem k__law_sum : row__law_sum.okB = true := by decide +kernel
theorem c__law_whole : compFn 60 gl fz.ex row__law_whole.N row__law_whole.st = some F__law_whole := by kernel_rfl
theorem b__law_whole : row__law_whole.Bd := fun _ _ _ _ _ _ us hl => match us, hl with | [_, _], _ => rfl
theorem k__law_whole : row__law_whole.okB = true := by decide +kernel
theorem c__law_pieces : compFn 60 gl fz.ex row__law_pieces.N row__law_pieces.st = some F__law_pieces := by kernel_rfl
theorem b__law_pieces : row__law_pieces.Bd := fun _ _ _ _ _ _ us hl => match us, hl with | [_], _ => rfl
theorem k__law_pieces : row__law_pieces.okB = true := by decide +kernel
theorem c__law_train : compFn 60 gl fz.ex row__law_train.N row__law_train.st = some F__law_train := by kernel_rfl
theorem b__law_train : row__law_train.Bd := fun _ _ _ _ _ _ us hl => match us, hl with | [_], _ => rfl
theorem k__law_train : row__law_train.okB = true := by decide +kernel
theorem c__law_share : compFn 60 gl fz.ex row__law_share.N row__law_share.st = some F__law_share := by kernel_rfl
theorem b__law_share : row__law_share.Bd := fun _ _ _ _ _ _ us hl => match us, hl with | [_], _ => rfl
theorem k__law_share : row__law_share.okB = true := by decide +kernel
theorem c__law_worths : compFn 60 gl fz.ex row__law_worths.N row__law_worths.st = some F__law_worths := by kernel_rfl
theorem b__law_worths : row__law_worths.Bd := fun _ _ _ _ _ _ us hl => match us, hl with | [_, _], _ => rfl
theorem k__law_worths : row__law_worths.okB = true := by decide +kernel
theorem c__law_thing : compFn 60 gl fz.ex row__law_thing.N row__law_thing.st = some F__law_thing := by kernel_rfl
theorem b__law_thing : row__law_thing.Bd := fun _ _ _ _ _ _ us hl => match us, hl with | [_, _], _ => rfl
theorem k__law_thing : row__law_thing.okB = true := by decide +kernel
theorem c__law_spoilt : compFn 60 gl fz.ex row__law_spoilt.N row__law_spoilt.st = some F__law_spoilt := by kernel_rfl
theorem b__law_spoilt : row__law_spoilt.Bd := fun _ _ _ _ _ _ us hl => match us, hl with | [_, _], _ => rfl
theorem k__law_spoilt : row__law_spoilt.okB = true := by decide +kernel
theorem c__law_in : compFn 60 gl fz.ex row__law_in.N row__law_in.st = some F__law_in := by kernel_rfl
theorem b__law_in : row__law_in.Bd := fun _ _ _ _ _ _ us hl => match us, hl with | [_, _, _], _ => rfl
theorem k__law_in : row__law_in.okB = true := by decide +kernel
theorem c__law_is_amount : compFn 60 gl fz.ex row__law_is_amount.N row__law_is_amount.st = some F__law_is_amount := by kernel_rfl
theorem b__law_is_amount : row__law_is_amount.Bd := fun _ _ _ _ _ _ us hl => match us, hl with | [_], _ => rfl
theorem k__law_is_amount : row__law_is_amount.okB = true := by decide +kernel
theorem c__law_is_share : compFn 60 gl fz.ex row__law_is_share.N row__law_is_share.st = some F__law_is_share := by kernel_rfl
theorem b__law_is_share : row__law_is_share.Bd := fun _ _ _ _ _ _ us hl => match us, hl with | [_], _ => rfl
theorem k__law_is_share : row__law_is_share.okB = true := by decide +kernel
theorem c__law_are_shares : compFn 60 gl fz.ex row__law_are_shares.N row__law_are_shares.st = some F__law_are_shares := by kernel_rfl
theorem b__law_are_shares : row__law_are_shares.Bd := fun _ _ _ _ _ _ us hl => match us, hl with | [_, _], _ => rfl
theorem k__law_are_shares : row__law_are_shares.okB = true := by decide +kernel
theorem c__law_is_load : compFn 60 gl fz.ex row__law_is_load.N row__law_is_load.st = some F__law_is_load := by kernel_rfl
theorem b__law_is_load : row__law_is_load.Bd := fun _ _ _ _ _ _ us hl => match us, hl with | [_, _], _ => rfl
theorem k__law_is_load : row__law_is_load.okB = true := by decide +kernel
theorem c__law_are_worths : compFn 60 gl fz.ex row__law_are_worths.N row__law_are_worths.st = some F__law_are_worths := by kernel_rfl
theorem b__law_are_worths : row__law_are_worths.Bd := fun _ _ _ _ _ _ us hl => match us, hl with | [_, _], _ => rfl
theorem k__law_are_worths : row__law_are_worths.okB = true := by decide +kernel
theorem c__law_is_sale : compFn 60 gl fz.ex row__law_is_sale.N row__law_is_sale.st = some F__law_is_sale := by kernel_rfl
theorem b__law_is_sale : row__law_is_sale.Bd := fun _ _ _ _ _ _ us hl => match us, hl with | [_, _], _ => rfl
theorem k__law_is_sale : row__law_is_sale.okB = true := by decide +kernel
theorem c__law_is_deed : compFn 60 gl fz.ex row__law_is_deed.N row__law_is_deed.st = some F__law_is_deed := by kernel_rfl
theorem b__law_is_deed : row__law_is_deed.Bd := fun _ _ _ _ _ _ us hl => match us, hl with | [_, _], _ => rfl
theorem k__law_is_deed : row__law_is_deed.okB = true := by decide +kernel
theorem c__law_deeds : compFn 60 gl fz.ex row__law_deeds.N row__law_deeds.st = some F__law_deeds := by kernel_rfl
theorem b__law_deeds : row__law_deeds.Bd := fun _ _ _ _ _ _ us hl => match us, hl with | [_, _], _ => rfl
theorem k__law_deeds : row__law_deeds.okB = true := by decide +kernel
theorem c__law_bounds : compFn 60 gl fz.ex row__law_bounds.N row__law_bounds.st = some F__law_bounds := by kernel_rfl
theorem b__law_bounds : row__law_bounds.Bd := fun _ _ _ _ _ _ us hl => match us, hl with | [_], _ => rfl
theorem k__law_bounds : row__law_bounds.okB = true := by decide +kernel
theorem c_law : compFn 60 gl fz.ex row_law.N row_law.st = some F_law := by kernel_rfl
theorem b_law : row_law.Bd := fun _ _ _ _ _ _ us hl => match us, hl with | [_], _ => rfl
theorem k_law : row_law.okB = true := by decide +kernel
theorem rows_ok : RowsOk gl fz.ex rows := ⟨⟨k_is_whole, c_is_whole, b_is_whole⟩, ⟨⟨k_is_within, c_is_within, b_is_within⟩, ⟨⟨k_common, c_common, b_common⟩, ⟨⟨k_made, c_made, b_made⟩, ⟨⟨k_is_amount, c_is_amount, b_is_amount⟩, ⟨⟨k_looks_a_share, c_looks_a_share, b_looks_a_share⟩, ⟨⟨k_plus, c_plus, b_plus⟩, ⟨⟨k_all_of, c_all_of, b_all_of⟩, ⟨⟨k_are_shares, c_are_shares, b_are_shares⟩, ⟨⟨k_is_load, c_is_load, b_is_load⟩, ⟨⟨k_is_from, c_is_from, b_is_from⟩, ⟨⟨k_are_worths, c_are_worths, b_are_worths⟩, ⟨⟨k_is_swapping, c_is_swapping, b_is_swapping⟩, ⟨⟨k_is_partner, c_is_partner, b_is_partner⟩, ⟨⟨k_is_selling, c_is_selling, b_is_selling⟩, ⟨⟨k_is_deed, c_is_deed, b_is_deed⟩, ⟨⟨k__law_cell_at, c__law_cell_at, b__law_cell_at⟩, ⟨⟨k__law_pen, c__law_pen, b__law_pen⟩, ⟨⟨k__law_draw, c__law_draw, b__law_draw⟩, ⟨⟨k__law_common, c__law_common, b__law_common⟩, ⟨⟨k__law_made, c__law_made, b__law_made⟩, ⟨⟨k__law_plus, c__law_plus, b__law_plus⟩, ⟨⟨k__law_sum, c__law_sum, b__law_sum⟩, ⟨⟨k__law_whole, c__law_whole, b__law_whole⟩, ⟨⟨k__law_pieces, c__law_pieces, b__law_pieces⟩, ⟨⟨k__law_train, c__law_train, b__law_train⟩, ⟨⟨k__law_share, c__law_share, b__law_share⟩, ⟨⟨k__law_worths, c__law_worths, b__law_worths⟩, ⟨⟨k__law_thing, c__law_thing, b__law_thing⟩, ⟨⟨k__law_spoilt, c__law_spoilt, b__law_spoilt⟩, ⟨⟨k__law_in, c__law_in, b__law_in⟩, ⟨⟨k__law_is_amount, c__law_is_amount, b__law_is_amount⟩, ⟨⟨k__law_is_share, c__law_is_share, b__law_is_share⟩, ⟨⟨k__law_are_shares, c__law_are_shares, b__law_are_shares⟩, ⟨⟨k__law_is_load, c__law_is_load, b__law_is_load⟩, ⟨⟨k__law_are_worths, c__law_are_worths, b__law_are_worths⟩, ⟨⟨k__law_is_sale, c__law_is_sale, b__law_is_sale⟩, ⟨⟨k__law_is_deed, c__law_is_deed, b__law_is_deed⟩, ⟨⟨k__law_deeds, c__law_deeds, b__law_deeds⟩, ⟨⟨k__law_bounds, c__law_bounds, b__law_bounds⟩, ⟨⟨k_law, c_law, b_law⟩, trivial⟩⟩⟩⟩⟩⟩⟩⟩⟩⟩⟩⟩⟩⟩⟩⟩⟩⟩⟩⟩⟩⟩⟩⟩⟩⟩⟩⟩⟩⟩⟩⟩⟩⟩⟩⟩⟩⟩⟩⟩⟩
theorem rows_names : rows.map (fun r => (r.x, r.ps.length)) = names := by rfl
def lawIx : Nat := 52
def loose0 : List PySem.Str := ["__name__", "NOUGHT", "ALL", "is_whole", "is_within", "common", "made", "is_amount", "looks_a_share", "plus", "all_of", "are_shares", "MOST_WORTH", "MOST_NUMBER", "MOST_BOTTOM", "is_load", "is_from", "are_worths", "is_swapping", "is_partner"]
def loose1 : List PySem.Str := ["is_selling", "is_deed", "_law_cell_at", "_law_pen", "_law_draw", "_law_common", "_law_made", "_law_plus", "_law_times", "_law_less", "_law_sum", "_law_whole", "_law_pieces", "_law_train", "_law_first", "_law_share", "_law_worths", "_law_thing", "_law_spoilt", "_law_in"]
def loose2 : List PySem.Str := ["_law_is_amount", "_law_is_share", "_law_are_shares", "_law_is_train", "_law_is_load", "_law_are_worths", "_law_is_sale", "_law_is_deed", "_law_deeds", "_law_bounds"]
def loose : List PySem.Str := loose0 ++ loose1 ++ loose2
theorem law_true : ∀ ns : List Int, ns.length ≤ 63 → ∃ h', callK (tblOf (rows.map fun r => (r.x, r.fr))) 60 "law" [.ref 0] [.ro (ns.map .int)] = .ok (.bl true) h' := by
  have e : tblOf (rows.map fun r => (r.x, r.fr)) = T := by
    rw [T_eq]
    kernel_rfl
  rw [e]
  exact law_true0
abbrev Rw : PySem.W.OpenRow := PySem.W.OpenLaw.row PySem.Challenge.rw_sharetrail_k02_loads_and_deeds
abbrev hk : PySem.W.Hook := hookV 6 fz
def ob (s : PySem.W.SharedT) : AlV := obsVG 6 fz (HandSHeadRun.getT s)
theorem ob_eq (s : PySem.W.SharedT) : ob s = hk.obs s.abs := obsVG_eq (HandSHeadRun.getT_eq s)
theorem run (w : World) : HandSHeadRun.RunEq Rw (PySem.W.view Rw.prog [lawIx]) hk ob 40000 loose w := by
  intro os
  kernel_rfl
end VM
open PySem PySem.W PySem.Calls PyProof.Rows
theorem PySem.Challenge.cw_sharetrail_k02_loads_and_deeds_holds : PySem.Challenge.rw_sharetrail_k02_loads_and_deeds.Holds := by
  w_on; o_law
  refine HandSHeadRun.head_any (r := OpenLaw.row PySem.Challenge.rw_sharetrail_k02_loads_and_deeds) (q := view (OpenLaw.row PySem.Challenge.rw_sharetrail_k02_loads_and_deeds).prog [VM.lawIx]) (H := VM.hk) (ob := VM.ob) (M := 40000) (loose := VM.loose) (d := HandSHeadRun.topDef (OpenLaw.row PySem.Challenge.rw_sharetrail_k02_loads_and_deeds).prog VM.lawIx) (kwd := []) VM.ob_eq
    (by kernel_rfl) (fun s => by kernel_rfl) VM.run (by kernel_rfl) (by kernel_rfl) (by kernel_rfl) (by rfl) (by first | assumption | decide +kernel) (by decide +kernel) ⟨rfl, rfl, rfl, rfl, rfl, by decide +kernel⟩ ?hw ?hc
  case hw => w_witness2
  case hc =>
    refine VM.walkV (l := PySem.Challenge.rw_sharetrail_k02_loads_and_deeds) (n := 63) (k := 62) (x := "_law_script") rfl (by decide) (by kernel_rfl) ⟨rfl, by decide, by decide⟩ ?F
    intro w mg fa h Y G hmg0
    obtain ⟨K, KX, c⟩ := Y
    have hmg : mg ("law" : PySem.Str) = some (.ref fa) := by
      have e : (HandSHeadRun.topDef (OpenLaw.row PySem.Challenge.rw_sharetrail_k02_loads_and_deeds).prog VM.lawIx).name = ("law" : PySem.Str) := by kernel_rfl
      rw [← e]
      exact hmg0
    obtain ⟨fd, sp, h1, h2, h3⟩ := VM.law_end (P := (PySem.Challenge.rw_sharetrail_k02_loads_and_deeds).prog) (w := w) (k := 60) c KX G VM.rows_names VM.rows_ok VM.inis_ok (by kernel_rfl) "_law_script" (by decide +kernel) hmg VM.law_true
    exact ⟨K, KX, fd, sp, h1, h2, h3⟩
