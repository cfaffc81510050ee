import PyProof.Rows.All
import Wide.All
import OpenK.AllK
import Wide.FinOn
import HandS.ForMost
import HandS.Wide
import HandS.IsInst
import HandS.TupAny
import HandS.TupLe
import HandS.Conv
import HandS.TupMul
import HandS.Zip
import HandS.Walk
import HandS.Exc
import HandS.ExcOwn
import HandS.TryOnly
import HandS.Defaults
import HandS.Dict
import HandS.Text
import HandS.Codes
import PyProof.StrLawsReplace
import HandS.Head0
import HandS.Head1
import HandS.Head2
import HandS.HeadEnd
import HandS.HeadHook1
import HandS.HeadHook2
import HandS.HeadHook3
import HandS.EndTab
import HandS.ExcField
import HandS.Call
import HandS.Lambda
import HandS.ExcValue
import HandS.ExcInit
import HandS.Deep
import KE.KEqDict
import PyProof.EqKinds
import HandS.RaiseMore
import HandS.Iter
import KE.GoesMore
import KE.GoesEnum
import HandS.TryMany
import HandS.Flow
import HandS.HeadWalk
import HandS.Keys
import HandS.Sort
import HandS.ListItems
import HandS.SetFor
import KE.KDictSum
import HandS.More
import HandS.Strs
import HandS.SortKw
import KE.DataMinMax
import HandS.FStr
import HandS.Replace
import HandS.ReplaceLit
import HandS.ExcIs
import HandS.WordsExc
import KE.KStateDown
import PySem.Challenge.RW_sharetrail_k42_refusals_stand_alone
set_option Elab.async false
set_option linter.all false
set_option maxRecDepth 100000
namespace VM
open PySem L2

/-! values without addresses of tuples; lists stand in a heap of our own -/
inductive D where
  | non | bl (b : Bool) | int (i : Int) | str (s : Str) | tup (ds : List D) | ref (i : Nat) | fn (s : Str) | exn (c : Str) (o : Option Int)
  deriving Inhabited
mutual
def D.eqb : D → D → Bool
  | .non, .non => true
  | .bl a, .bl b => a == b
  | .int a, .int b => a == b
  | .str a, .str b => a == b
  | .tup a, .tup b => D.eqbs a b
  | .ref a, .ref b => a == b
  | .fn a, .fn b => a == b
  | .exn a x, .exn b y => a == b && x == y
  | _, _ => false
def D.eqbs : List D → List D → Bool
  | [], [] => true
  | x :: xs, y :: ys => D.eqb x y && D.eqbs xs ys
  | _, _ => false
end
mutual
theorem D.eqb_iff : ∀ (a b : D), D.eqb a b = true ↔ a = b
  | .non, b => by cases b <;> simp [D.eqb]
  | .bl x, b => by cases b <;> simp [D.eqb]
  | .int x, b => by cases b <;> simp [D.eqb]
  | .str x, b => by cases b <;> simp [D.eqb]
  | .ref x, b => by cases b <;> simp [D.eqb]
  | .fn x, b => by cases b <;> simp [D.eqb]
  | .exn x o, b => by cases b <;> simp [D.eqb]
  | .tup x, b => by
    cases b with
    | tup y => simp only [D.eqb, D.tup.injEq]; exact D.eqbs_iff x y
    | _ => simp [D.eqb]
theorem D.eqbs_iff : ∀ (a b : List D), D.eqbs a b = true ↔ a = b
  | [], b => by cases b <;> simp [D.eqbs]
  | x :: xs, b => by
    cases b with
    | nil => simp [D.eqbs]
    | cons y ys => simp only [D.eqbs, Bool.and_eq_true, List.cons.injEq]; rw [D.eqb_iff x y, D.eqbs_iff xs ys]
end
instance : DecidableEq D := fun a b => decidable_of_iff _ (D.eqb_iff a b)
mutual
/-- no list within -/
def D.gr : D → Bool
  | .ref _ => false
  | .tup ds => D.grs ds
  | _ => true
def D.grs : List D → Bool
  | [] => true
  | d :: ds => D.gr d && D.grs ds
end
abbrev DKey := Int ⊕ Str
inductive Ob where
  | lst (ds : List D)
  | ro (ds : List D)
  | dct (kvs : List (DKey × D))
  | rod (kvs : List (DKey × D))
  | obj (c : Str) (fs : List (Str × D))
  deriving Inhabited, DecidableEq
def Ob.gr : Ob → Bool
  | .lst ds => D.grs ds
  | .ro ds => D.grs ds
  | .dct kvs => D.grs (kvs.map (·.2))
  | .rod _ => false
  | .obj _ _ => false
abbrev Hv := List Ob
inductive R (α : Type) where
  | ok (a : α) (h : Hv) | exc (c : Str) (d : D) (h : Hv) | stuck
def R.bind {α β : Type} (r : R α) (f : α → Hv → R β) : R β := match r with
  | .ok a h => f a h
  | .exc c d h => .exc c d h
  | .stuck => .stuck
abbrev Env := List (Option D)
abbrev Or := Str → List D → Hv → R D
abbrev EF := Or → Env → Hv → R D
abbrev TF := D → Env → Hv → Option Env
inductive SR where
  | nx (e : Env) (h : Hv) | rt (d : D) (h : Hv) | bk (e : Env) (h : Hv) | ct (e : Env) (h : Hv) | exc (c : Str) (d : D) (e : Env) (h : Hv) | stuck
abbrev SF := Or → Env → Hv → SR
abbrev Guards := List (Nat × List D)
abbrev IF := Or → Env → Hv → R (List D × Guards)
def R.thenS (r : R D) (e : Env) (f : D → Hv → SR) : SR := match r with
  | .ok a h => f a h
  | .exc c d h => .exc c d e h
  | .stuck => .stuck

def szl : Nat := 1000000
def big64 : Nat := 2 ^ 64
def bigM : Nat := 2 ^ 400000
def bigD : Nat := 2 ^ 8900

/-! expressions -/
def varF (i : Nat) : EF := fun _ env h => match env[i]? with
  | some (some d) => .ok d h
  | _ => .stuck
def conF (d : D) : EF := fun _ _ h => .ok d h
def un1F (op : D → Hv → R D) (a : EF) : EF := fun C env h => (a C env h).bind op
def binF (op : D → D → Hv → R D) (a b : EF) : EF := fun C env h => (a C env h).bind fun x h1 => (b C env h1).bind fun y h2 => op x y h2
def andF (a b : EF) : EF := fun C env h => (a C env h).bind fun x h1 => match x with
  | .bl true => b C env h1
  | .bl false => .ok (.bl false) h1
  | _ => .stuck
def orF (a b : EF) : EF := fun C env h => (a C env h).bind fun x h1 => match x with
  | .bl true => .ok (.bl true) h1
  | .bl false => b C env h1
  | _ => .stuck
def chainF (op op' : D → D → Hv → R D) (a b c : EF) : EF := fun C env h => (a C env h).bind fun x h1 => (b C env h1).bind fun y h2 => (op x y h2).bind fun z h3 => match z with
  | .bl true => (c C env h3).bind fun w h4 => op' y w h4
  | .bl false => .ok (.bl false) h3
  | _ => .stuck
def iteF (c a b : EF) : EF := fun C env h => (c C env h).bind fun x h1 => match x with
  | .bl true => a C env h1
  | .bl false => b C env h1
  | _ => .stuck
def listF : List EF → Or → Env → Hv → R (List D)
  | [], _, _, h => .ok [] h
  | e :: es, C, env, h => (e C env h).bind fun x h1 => (listF es C env h1).bind fun xs h2 => .ok (x :: xs) h2
def tupF (es : List EF) : EF := fun C env h => (listF es C env h).bind fun ds h1 => if ds.length ≤ szl then .ok (.tup ds) h1 else .stuck
def lstF (es : List EF) : EF := fun C env h => (listF es C env h).bind fun ds h1 => if ds.length ≤ szl then .ok (.ref h1.length) (h1 ++ [.lst ds]) else .stuck
def callF (f : Str) (es : List EF) : EF := fun C env h => (listF es C env h).bind fun ds h1 => C f ds h1
def bltF (g : List D → Hv → R D) (es : List EF) : EF := fun C env h => (listF es C env h).bind g
def optF : Option EF → Or → Env → Hv → R (Option Int)
  | none, _, _, h => .ok none h
  | some e, C, env, h => (e C env h).bind fun x h1 => match x with
    | .int i => .ok (some i) h1
    | _ => .stuck
def slcF (op : D → Option Int → Option Int → Hv → R D) (a : EF) (lo hi : Option EF) : EF := fun C env h => (a C env h).bind fun x h1 => (optF lo C env h1).bind fun l h2 => (optF hi C env h2).bind fun u h3 => op x l u h3
def wipeD (env : Env) : List Nat → Env
  | [] => env
  | v :: vs => (wipeD env vs).set v none
def guardsOk (gs : Guards) (h : Hv) : Bool := gs.all fun g => decide (h[g.1]? = some (.lst g.2) ∨ h[g.1]? = some (.ro g.2))
/-- [elt for tg in items if t]: the new list stands at n -/
def lcLoop (C : Or) (env : Env) (tg : TF) (t : EF) (elt : EF) (gs : Guards) (n : Nat) : List D → Hv → R Unit
  | [], h => if guardsOk gs h then .ok () h else .stuck
  | x :: xs, h => if guardsOk gs h then (match tg x env h with
    | some env1 => (t C env1 h).bind fun b h1 => match b with
      | .bl true => (elt C env1 h1).bind fun y h2 => (match h2[n]? with
        | some (.lst acc) => if acc.length < szl then lcLoop C env tg t elt gs n xs (h2.set n (.lst (acc ++ [y]))) else .stuck
        | _ => .stuck)
      | .bl false => lcLoop C env tg t elt gs n xs h1
      | _ => .stuck
    | none => .stuck) else .stuck
def R.noexc {α : Type} : R α → R α
  | .exc _ _ _ => .stuck
  | r => r
def lcF (it : IF) (tg : TF) (own : List Nat) (t elt : EF) : EF := fun C env h => (it C env h).bind fun z h1 =>
  ((lcLoop C (wipeD env own) tg t elt z.2 h1.length z.1 (h1 ++ [.lst []])).noexc).bind fun _ h2 => .ok (.ref h1.length) h2

/-! what is walked -/
def seqOf (d : D) (h : Hv) : Option (List D × Guards) := match d with
  | .tup ds => some (ds, [])
  | .ref i => (match h[i]? with
    | some (.lst ds) => some (ds, [(i, ds)])
    | some (.ro ds) => some (ds, [(i, ds)])
    | _ => none)
  | _ => none
/-- a dict's keys: ints and texts -/
def keyD : D → Option DKey
  | .int i => some (.inl i)
  | .str z => some (.inr z)
  | _ => none
def kD : DKey → D
  | .inl i => .int i
  | .inr z => .str z
def dctAt (d : D) (h : Hv) : Option (List (DKey × D)) := match d with
  | .ref p => (match h[p]? with
    | some (.dct kvs) => some kvs
    | _ => none)
  | _ => none
def getD_ (kvs : List (DKey × D)) (k : DKey) : Option D := (kvs.find? fun kv => decide (kv.1 = k)).map (·.2)
def putD_ (kvs : List (DKey × D)) (k : DKey) (d : D) : List (DKey × D) :=
  if (kvs.any fun kv => decide (kv.1 = k)) = true then kvs.map (fun kv => if kv.1 = k then (kv.1, d) else kv) else kvs ++ [(k, d)]
def signsD (z : Str) : List D := z.cps.toList.map fun c => .str ⟨#[c]⟩
def itE (e : EF) : IF := fun C env h => (e C env h).bind fun x h1 => match seqOf x h1 with
  | some z => .ok z h1
  | none => (match x with
    | .str z => if z.length ≤ szl then .ok (signsD z, []) h1 else .stuck
    | _ => .stuck)
def rng (lo : Int) (n : Nat) : List D := (List.range n).map fun i => .int (lo + (i : Nat))
def it1F (e : EF) : IF := fun C env h => (e C env h).bind fun x h1 => match x with
  | .int j => if -(2 ^ 60) ≤ j ∧ j ≤ 2 ^ 60 then .ok (rng 0 j.toNat, []) h1 else .stuck
  | _ => .stuck
def it2F (a b : EF) : IF := fun C env h => (a C env h).bind fun x h1 => (b C env h1).bind fun y h2 => match x, y with
  | .int i, .int j => if (-(2 ^ 60) ≤ i ∧ i ≤ 2 ^ 60) ∧ -(2 ^ 60) ≤ j ∧ j ≤ 2 ^ 60 then .ok (rng i (j - i).toNat, []) h2 else .stuck
  | _, _ => .stuck
def zipD : List D → List D → List D
  | x :: xs, y :: ys => .tup [x, y] :: zipD xs ys
  | _, _ => []
def enumD : Nat → List D → List D
  | _, [] => []
  | i, x :: xs => .tup [.int (i : Nat), x] :: enumD (i + 1) xs
def itZ (a b : EF) : IF := fun C env h => (a C env h).bind fun x h1 => (b C env h1).bind fun y h2 => match seqOf x h2, seqOf y h2 with
  | some z, some w => .ok (zipD z.1 w.1, z.2 ++ w.2) h2
  | _, _ => .stuck
def itN (a : EF) : IF := fun C env h => (a C env h).bind fun x h1 => match seqOf x h1 with
  | some z => .ok (enumD 0 z.1, z.2) h1
  | none => .stuck

/-! targets -/
def nmT (i : Nat) : TF := fun d env _ => if i < env.length then some (env.set i (some d)) else none
def tgsT : List TF → List D → Env → Hv → Option Env
  | [], [], env, _ => some env
  | t :: ts, d :: ds, env, h => match t d env h with
    | some env1 => tgsT ts ds env1 h
    | none => none
  | _, _, _, _ => none
def tupT (ts : List TF) : TF := fun d env h => match d with
  | .tup ds => tgsT ts ds env h
  | .ref i => (match h[i]? with
    | some (.lst ds) => tgsT ts ds env h
    | _ => none)
  | _ => none

/-! statements -/
def nxS : SF := fun _ env h => .nx env h
def bkS : SF := fun _ env h => .bk env h
def ctS : SF := fun _ env h => .ct env h
def seqS (a b : SF) : SF := fun C env h => match a C env h with
  | .nx env1 h1 => b C env1 h1
  | r => r
def expS (e : EF) : SF := fun C env h => (e C env h).thenS env fun _ h1 => .nx env h1
def asgS (t : TF) (e : EF) : SF := fun C env h => (e C env h).thenS env fun d h1 => match t d env h1 with
  | some env1 => .nx env1 h1
  | none => .stuck
/-- o[i] = e -/
def setL (o i d : D) (h : Hv) : Option Hv := match o with
  | .ref p => (match h[p]? with
    | some (.lst ds) => (match i with
      | .int k => (match ixN ds.length k with
        | some j => some (h.set p (.lst (ds.set j d)))
        | none => none)
      | _ => none)
    | some (.dct kvs) => (match keyD i with
      | some k => if kvs.length < szl then some (h.set p (.dct (putD_ kvs k d))) else none
      | none => none)
    | _ => none)
  | _ => none
def setS (o i e : EF) : SF := fun C env h => (e C env h).thenS env fun d h1 => (o C env h1).thenS env fun x h2 => (i C env h2).thenS env fun k h3 => match setL x k d h3 with
  | some h4 => .nx env h4
  | none => .stuck
/-- a, b = x, y (plain local names) -/
def parS (i j : Nat) (a b : EF) : SF := fun C env h => (a C env h).thenS env fun x h1 => (b C env h1).thenS env fun y h2 => if i < env.length ∧ j < env.length then .nx ((env.set i (some x)).set j (some y)) h2 else .stuck
def retS (e : EF) : SF := fun C env h => (e C env h).thenS env fun d h1 => .rt d h1
def retN : SF := fun _ _ h => .rt .non h
def ifS (c : EF) (a b : SF) : SF := fun C env h => (c C env h).thenS env fun x h1 => match x with
  | .bl true => a C env h1
  | .bl false => b C env h1
  | _ => .stuck
def forL (C : Or) (tg : TF) (body : SF) (gs : Guards) : List D → Env → Hv → SR
  | [], env, h => if guardsOk gs h then .nx env h else .stuck
  | x :: xs, env, h => if guardsOk gs h then (match tg x env h with
    | some env1 => (match body C env1 h with
      | .nx env2 h2 => forL C tg body gs xs env2 h2
      | .ct env2 h2 => forL C tg body gs xs env2 h2
      | .bk env2 h2 => .nx env2 h2
      | r => r)
    | none => .stuck) else .stuck
def R.thenI (r : R (List D × Guards)) (e : Env) (f : List D × Guards → Hv → SR) : SR := match r with
  | .ok a h => f a h
  | .exc c d h => .exc c d e h
  | .stuck => .stuck
def forS (it : IF) (tg : TF) (body : SF) : SF := fun C env h => (it C env h).thenI env fun z h1 => forL C tg body z.2 z.1 env h1
def whileL (C : Or) (c : EF) (body : SF) : Nat → Env → Hv → SR
  | 0, _, _ => .stuck
  | n + 1, env, h => (c C env h).thenS env fun x h1 => match x with
    | .bl true => (match body C env h1 with
      | .nx env2 h2 => whileL C c body n env2 h2
      | .ct env2 h2 => whileL C c body n env2 h2
      | .bk env2 h2 => .nx env2 h2
      | r => r)
    | .bl false => .nx env h1
    | _ => .stuck
def wfuel : Nat := 1000000
def whileS (c : EF) (body : SF) : SF := fun C env h => whileL C c body wfuel env h
def raiS (c : Str) (e : EF) : SF := fun C env h => (e C env h).thenS env fun d h1 => .exc c d env h1

/-- an except clause: its suite; return e.at; return (s, e.at) -/
inductive Hd where
  | su (f : SF) | at_ (i : Nat) | pr (i : Nat) (s : Str)
def runHd : Hd → D → SF
  | .su f, _ => f
  | .at_ i, d => fun _ env h => if d = .non ∨ env.length ≤ i then .stuck else .rt d h
  | .pr i s, d => fun _ env h => if d = .non ∨ env.length ≤ i then .stuck else .rt (.tup [.str s, d]) h
def SR.noexc : SR → SR
  | .exc _ _ _ _ => .stuck
  | r => r
/-- try: body, its clauses by the classes' names; ks: the classes known -/
def tryS (ks : List Str) (body : SF) (hs : List (Str × Hd)) : SF := fun C env h => match body C env h with
  | .exc c d env1 h1 => if ks.contains c = true then (match hs.lookup c with
    | some g => (runHd g d C env1 h1).noexc
    | none => .exc c d env1 h1) else .stuck
  | r => r
/-- x or y, of tuples -/
def orT (a b : EF) : EF := fun C env h => (a C env h).bind fun x h1 => match x with
  | .tup [] => b C env h1
  | .tup (d :: ds) => .ok (.tup (d :: ds)) h1
  | _ => .stuck
/-! defs -/
structure FnRec where
  np : Nat
  nl : Nat
  body : SF
/-- what a def has made and no one can see any more is forgotten -/
def sameOrGr (h h' : Hv) : Bool := (List.range h.length).all fun i => decide (h'[i]? = h[i]?) || (match h'[i]? with
  | some o => o.gr
  | none => false)
def gc (h : Hv) (d : D) (h' : Hv) : R D :=
  if h.length ≤ h'.length ∧ sameOrGr h h' = true then
    (if d.gr then .ok d (h'.take h.length) else match d with
      | .ref i => (match h'[i]? with
        | some (.lst ds) => if h.length ≤ i ∧ D.grs ds = true then .ok (.ref h.length) (h'.take h.length ++ [.lst ds]) else .ok d h'
        | _ => .ok d h')
      | _ => .ok d h')
  else .ok d h'
def runFn (r : FnRec) (C : Or) (args : List D) (h : Hv) : R D :=
  if args.length = r.np then (match r.body C (args.map some ++ List.replicate (r.nl - r.np) none) h with
    | .nx _ h' => gc h .non h'
    | .rt d h' => gc h d h'
    | .exc c d _ h' => .exc c d h'
    | _ => .stuck) else .stuck
def callK (tbl : Str → Option FnRec) : Nat → Or
  | 0 => fun _ _ _ => .stuck
  | k + 1 => fun f args h => match tbl f with
    | some r => runFn r (callK tbl k) args h
    | none => .stuck

/-! operators -/
def opAdd : D → D → Hv → R D := fun x y h => match x, y with
  | .int i, .int j => .ok (.int (i + j)) h
  | .str a, .str b => if a.length + b.length ≤ szl then .ok (.str (a ++ b)) h else .stuck
  | .tup a, .tup b => if a.length + b.length ≤ szl then .ok (.tup (a ++ b)) h else .stuck
  | .ref p, .ref q => (match h[p]?, h[q]? with
    | some (.lst a), some (.lst b) => if a.length + b.length ≤ szl then .ok (.ref h.length) (h ++ [.lst (a ++ b)]) else .stuck
    | _, _ => .stuck)
  | _, _ => .stuck
def opSub : D → D → Hv → R D := fun x y h => match x, y with
  | .int i, .int j => .ok (.int (i - j)) h
  | _, _ => .stuck
def opMul : D → D → Hv → R D := fun x y h => match x, y with
  | .int i, .int j => if i.natAbs < big64 ∨ j.natAbs < big64 ∨ (i.natAbs < bigM ∧ j.natAbs < bigM) then .ok (.int (i * j)) h else .stuck
  | .ref p, .int k => (match h[p]? with
    | some (.lst a) => if 0 ≤ k ∧ k ≤ 1000 ∧ a.length ≤ 1000 then .ok (.ref h.length) (h ++ [.lst (List.replicate k.toNat a).flatten]) else .stuck
    | _ => .stuck)
  | .tup a, .int k => if k = 0 then .ok (.tup []) h else if k = 1 then .ok (.tup a) h else if a ≠ [] ∧ 2 ≤ k ∧ k ≤ 1000 ∧ a.length ≤ 1000 then .ok (.tup (List.replicate k.toNat a).flatten) h else .stuck
  | _, _ => .stuck
def opFdiv : D → D → Hv → R D := fun x y h => match x, y with
  | .int i, .int j => if 0 < j ∧ j.natAbs < bigD then .ok (.int (i / j)) h else .stuck
  | _, _ => .stuck
def opMod : D → D → Hv → R D := fun x y h => match x, y with
  | .int i, .int j => if 0 < j then .ok (.int (i % j)) h else .stuck
  | _, _ => .stuck
def opPow : D → D → Hv → R D := fun x y h => match x, y with
  | .int i, .int j => if 0 ≤ j ∧ j ≤ 1000 ∧ i.natAbs < big64 then .ok (.int (i ^ j.toNat)) h else .stuck
  | _, _ => .stuck
def opNeg : D → Hv → R D := fun x h => match x with
  | .int i => .ok (.int (-i)) h
  | _ => .stuck
def opNot : D → Hv → R D := fun x h => match x with
  | .bl b => .ok (.bl (!b)) h
  | _ => .stuck
def cmpI (p : Int → Int → Bool) : D → D → Hv → R D := fun x y h => match x, y with
  | .int i, .int j => .ok (.bl (p i j)) h
  | _, _ => .stuck
def opLt := cmpI fun i j => decide (i < j)
def opLe : D → D → Hv → R D := fun x y h => match x, y with
  | .str a, .str b => .ok (.bl (!decide (b.cps.toList < a.cps.toList))) h
  | x, y => cmpI (fun i j => decide (i ≤ j)) x y h
def opGt := cmpI fun i j => decide (j < i)
def opGe := cmpI fun i j => decide (j ≤ i)
/-! == -/
mutual
/-- the data of a value; lists are read, n deep -/
def toP (h : Hv) : Nat → D → Option PyData
  | _, .non => some .none
  | _, .bl b => some (.bool b)
  | _, .int i => some (.int i)
  | _, .str s => if PyData.strOk s = true then some (.str s) else none
  | n + 1, .tup ds => (toPs h n ds).map .tuple
  | n + 1, .ref i => match h[i]? with
    | some (.lst ds) => (toPs h n ds).map .list
    | _ => none
  | _ + 1, .fn _ => none
  | _ + 1, .exn _ _ => none
  | 0, _ => none
def toPs (h : Hv) : Nat → List D → Option (List PyData)
  | _, [] => some []
  | n, d :: ds => match toP h n d with
    | some p => (match toPs h n ds with
      | some ps => some (p :: ps)
      | none => none)
    | none => none
end
/-- of unlike kinds, whatever is in them -/
def stdO : Option Ob → Bool
  | some (.obj _ _) => false
  | some _ => true
  | none => false
theorem stdO_some {x : Option Ob} (h : stdO x = true) : ∃ o, x = some o := by
  cases x with
  | none => cases h
  | some o => exact ⟨o, rfl⟩
def unlikeD (h : Hv) : D → D → Bool
  | .tup _, .int _ => true
  | .ref i, .int _ => (match h[i]? with
    | some (.lst _) => true
    | some (.dct _) => true
    | _ => false)
  | .ref i, .tup _ => (match h[i]? with
    | some (.dct _) => true
    | _ => false)
  | .ref i, .ref j => (match h[i]?, h[j]? with
    | some (.dct _), some (.lst _) => true
    | _, _ => false)
  | .int _, .tup _ => true
  | .non, .tup _ => true
  | .int _, .ref j => stdO h[j]?
  | .non, .ref j => stdO h[j]?
  | .tup _, .ref j => stdO h[j]?
  | _, _ => false
def opEqD (neg : Bool) : D → D → Hv → R D := fun x y h => match toP h 60 x, toP h 60 y with
  | some p, some q => .ok (.bl (if neg then !PyData.eqv p q else PyData.eqv p q)) h
  | _, _ => if neg = false ∧ unlikeD h x y = true then .ok (.bl false) h else .stuck
def opIs (neg : Bool) : D → D → Hv → R D := fun x y h => match x, y with
  | .bl a, .bl b => .ok (.bl (if neg then !decide (a = b) else decide (a = b))) h
  | x, .non => .ok (.bl (if neg then !decide (x = .non) else decide (x = .non))) h
  | _, _ => .stuck
def flatD : D → Bool
  | .non => true | .bl _ => true | .int _ => true | .str _ => true
  | _ => false
def eqD : D → D → Bool
  | .non, .non => true
  | .bl a, .bl b => a == b
  | .bl a, .int b => (if a then 1 else 0) == b
  | .int a, .bl b => a == (if b then 1 else 0)
  | .int a, .int b => a == b
  | .str a, .str b => a == b
  | _, _ => false
/-- of a list whose things are of any kind -/
def inP (neg : Bool) (x y : D) (h : Hv) : R D := match toP h 50 x, toP h 50 y with
  | some p, some (.list ds) => .ok (.bl (if neg then !(ds.any fun z => PyData.eqv z p) else ds.any fun z => PyData.eqv z p)) h
  | _, _ => .stuck
def opIn (neg : Bool) : D → D → Hv → R D := fun x y h => match seqOf y h with
  | some z => if flatD x = true ∧ z.1.all flatD = true then .ok (.bl (if neg then !(z.1.any fun y => eqD y x) else z.1.any fun y => eqD y x)) h else inP neg x y h
  | none => (match y with
    | .str t => (match x with
      | .str a => (match a.cps.toList with
        | [c] => .ok (.bl (if neg then !decide (c ∈ t.cps.toList) else decide (c ∈ t.cps.toList))) h
        | _ => .stuck)
      | _ => .stuck)
    | _ => (match dctAt y h, keyD x with
      | some kvs, some k => .ok (.bl (if neg then !(getD_ kvs k).isSome else (getD_ kvs k).isSome)) h
      | _, _ => .stuck))
/-! subscripts -/
/-- of a dict -/
def ixK (x y : D) (h : Hv) : R D := match dctAt x h, keyD y with
  | some kvs, some k => (match getD_ kvs k with
    | some d => .ok d h
    | none => .stuck)
  | _, _ => .stuck
def opIx : D → D → Hv → R D := fun x y h => match y with
  | .int i => (match x with
    | .str z => if z.length ≤ szl then (match atI z.cps.toList i with
      | some c => .ok (.str ⟨#[c]⟩) h
      | none => .stuck) else .stuck
    | _ => (match seqOf x h with
      | some z => (match atI z.1 i with
        | some d => .ok d h
        | none => .stuck)
      | none => ixK x y h))
  | _ => ixK x y h
def cutD {α : Type} (xs : List α) (lo hi : Option Int) : List α := (xs.drop (HT.sIx xs.length 0 lo)).take (HT.sIx xs.length xs.length hi - HT.sIx xs.length 0 lo)
def opSl : D → Option Int → Option Int → Hv → R D := fun x lo hi h => match x with
  | .tup ds => .ok (.tup (cutD ds lo hi)) h
  | .ref p => (match h[p]? with
    | some (.lst ds) => .ok (.ref h.length) (h ++ [.lst (cutD ds lo hi)])
    | _ => .stuck)
  | .str z => if z.length ≤ szl then .ok (.str (cutS z lo hi)) h else .stuck
  | _ => .stuck
/-- x[::-1] -/
def opRev : D → Hv → R D := fun x h => match x with
  | .tup ds => .ok (.tup ds.reverse) h
  | .ref p => (match h[p]? with
    | some (.lst ds) => .ok (.ref h.length) (h ++ [.lst ds.reverse])
    | _ => .stuck)
  | _ => .stuck
/-! texts' methods -/
def smth0 (g : Str → Option D) : D → Hv → R D := fun x h => match x with
  | .str z => (match g z with
    | some d => .ok d h
    | none => .stuck)
  | _ => .stuck
def mUpper (z : Str) : Option D := if z.length ≤ szl then some (.str (Txt.upper z)) else none
def mIsdigit (z : Str) : Option D := some (.bl (Txt.isdigit z))
/-! built-ins -/
def bLen : List D → Hv → R D := fun xs h => match xs with
  | [.str z] => if z.length ≤ szl then .ok (.int z.length) h else .stuck
  | [x] => (match seqOf x h with
    | some z => .ok (.int z.1.length) h
    | none => .stuck)
  | _ => .stuck
def bAbs : List D → Hv → R D := fun xs h => match xs with
  | [.int i] => .ok (.int (if i < 0 then -i else i)) h
  | _ => .stuck
def bInt : List D → Hv → R D := fun xs h => match xs with
  | [.int i] => .ok (.int i) h
  | [.bl b] => .ok (.int (if b then 1 else 0)) h
  | [.str z] => if z.length ≤ 640 then (match PySem.intText? z with
    | some n => .ok (.int n) h
    | none => .stuck) else .stuck
  | _ => .stuck
/-- str(x) -/
def bStr : List D → Hv → R D := fun xs h => match xs with
  | [.int i] => if i.natAbs.log2 < 1920 then .ok (.str (toString i)) h else .stuck
  | [.str z] => .ok (.str z) h
  | [.non] => .ok (.str "None") h
  | _ => .stuck
def bMax : List D → Hv → R D := fun xs h => match xs with
  | [.int i, .int j] => .ok (.int (if j > i then j else i)) h
  | _ => .stuck
def bMin : List D → Hv → R D := fun xs h => match xs with
  | [.int i, .int j] => .ok (.int (if j < i then j else i)) h
  | _ => .stuck
def intsD : List D → Option (List Int)
  | [] => some []
  | .int i :: r => (intsD r).map (i :: ·)
  | _ => none
def blsD : List D → Option (List Bool)
  | [] => some []
  | .bl i :: r => (blsD r).map (i :: ·)
  | _ => none
def lstAt (d : D) (h : Hv) : Option (List D) := match d with
  | .ref p => (match h[p]? with
    | some (.lst ds) => some ds
    | some (.ro ds) => some ds
    | _ => none)
  | _ => none
def bSum : List D → Hv → R D := fun xs h => match xs with
  | [x] => (match (lstAt x h).bind intsD with
    | some ns => .ok (.int ns.sum) h
    | none => .stuck)
  | _ => .stuck
def bAll : List D → Hv → R D := fun xs h => match xs with
  | [x] => (match (lstAt x h).bind blsD with
    | some bs => .ok (.bl (bs.all id)) h
    | none => .stuck)
  | _ => .stuck
def bAny : List D → Hv → R D := fun xs h => match xs with
  | [x] => (match (lstAt x h).bind blsD with
    | some bs => .ok (.bl (bs.any id)) h
    | none => .stuck)
  | _ => .stuck
def bTuple : List D → Hv → R D := fun xs h => match xs with
  | [x] => (match seqOf x h with
    | some z => .ok (.tup z.1) h
    | none => .stuck)
  | _ => .stuck
def bList : List D → Hv → R D := fun xs h => match xs with
  | [x] => (match seqOf x h with
    | some z => .ok (.ref h.length) (h ++ [.lst z.1])
    | none => (match dctAt x h with
      | some kvs => .ok (.ref h.length) (h ++ [.lst (kvs.map fun kv => kD kv.1)])
      | none => .stuck))
  | _ => .stuck
/-! methods of lists -/
def mAppend : D → List D → Hv → R D := fun o xs h => match o, xs with
  | .ref p, [d] => (match h[p]? with
    | some (.lst ds) => if ds.length < szl then .ok .non (h.set p (.lst (ds ++ [d]))) else .stuck
    | _ => .stuck)
  | _, _ => .stuck
def mReverse : D → List D → Hv → R D := fun o xs h => match o, xs with
  | .ref p, [] => (match h[p]? with
    | some (.lst ds) => .ok .non (h.set p (.lst ds.reverse))
    | _ => .stuck)
  | _, _ => .stuck
def isLst (d : D) (h : Hv) : Bool := match d with
  | .ref p => (match h[p]? with
    | some (.lst _) => true
    | some (.ro _) => true
    | _ => false)
  | _ => false
/-- d.m(..) of a dict -/
def methD (g : D → List D → Hv → R D) (o : EF) (es : List EF) : EF := fun C env h => (o C env h).bind fun x h1 => match dctAt x h1 with
  | some _ => (listF es C env h1).bind fun ds h2 => g x ds h2
  | none => .stuck
def mGet : D → List D → Hv → R D := fun o xs h => match dctAt o h, xs with
  | some kvs, [k] => (match keyD k with
    | some k => .ok ((getD_ kvs k).getD .non) h
    | none => .stuck)
  | some kvs, [k, d] => (match keyD k with
    | some k => .ok ((getD_ kvs k).getD d) h
    | none => .stuck)
  | _, _ => .stuck
def pairsF : List (EF × EF) → Or → Env → Hv → R (List (DKey × D))
  | [], _, _, h => .ok [] h
  | p :: r, C, env, h => (p.1 C env h).bind fun x h1 => (p.2 C env h1).bind fun y h2 => (pairsF r C env h2).bind fun ps h3 => match keyD x with
    | some k => .ok ((k, y) :: ps) h3
    | none => .stuck
def mergeD (kvs more : List (DKey × D)) : List (DKey × D) := more.foldl (fun acc kv => putD_ acc kv.1 kv.2) kvs
/-- {k: v, ..} -/
def dctF (es : List (EF × EF)) : EF := fun C env h => (pairsF es C env (h ++ [.dct []])).bind fun ps h2 => if h2[h.length]? = some (.dct []) ∧ ps.length ≤ 15 then .ok (.ref h.length) (h2.set h.length (.dct (mergeD [] ps))) else .stuck
def methF (g : D → List D → Hv → R D) (o : EF) (es : List EF) : EF := fun C env h => (o C env h).bind fun x h1 => if isLst x h1 = true then (listF es C env h1).bind fun ds h2 => g x ds h2 else .stuck
def mExtend : D → List D → Hv → R D := fun o xs h => match o, xs with
  | .ref p, [.tup es] => (match h[p]? with
    | some (.lst ds) => if ds.length + es.length ≤ szl then .ok .non (h.set p (.lst (ds ++ es))) else .stuck
    | _ => .stuck)
  | .ref p, [.ref q] => (match h[p]?, h[q]? with
    | some (.lst ds), some (.lst es) => if ds.length + es.length ≤ szl then .ok .non (h.set p (.lst (ds ++ es))) else .stuck
    | _, _ => .stuck)
  | _, _ => .stuck
def mClear : D → List D → Hv → R D := fun o xs h => match o, xs with
  | .ref p, [] => (match h[p]? with
    | some (.lst _) => .ok .non (h.set p (.lst []))
    | _ => .stuck)
  | _, _ => .stuck
/-- l.pop(i), i from 0 on -/
def mPop : D → List D → Hv → R D := fun o xs h => match o, xs with
  | .ref p, [.int i] => (match h[p]? with
    | some (.lst ds) => if 0 ≤ i ∧ i ≤ 1000 then (match ds[i.toNat]? with
      | some d => .ok d (h.set p (.lst (ds.eraseIdx i.toNat)))
      | none => .stuck) else .stuck
    | _ => .stuck)
  | _, _ => .stuck
/-- list(range(a)) -/
def lrF (a : EF) : EF := fun C env h => (a C env h).bind fun x h1 => match x with
  | .int j => if 0 ≤ j ∧ j ≤ 1000 then .ok (.ref h1.length) (h1 ++ [.lst (rng 0 j.toNat)]) else .stuck
  | _ => .stuck
/-! isinstance, by the name of a built-in class -/
def tyD (d : D) (h : Hv) : Option String := match d with
  | .non => some "NoneType"
  | .bl _ => some "bool"
  | .int _ => some "int"
  | .str _ => some "str"
  | .tup _ => some "tuple"
  | .fn _ => none
  | .exn _ _ => none
  | .ref p => (match h[p]? with
    | some (.dct _) => some "dict"
    | some (.rod _) => some "dict"
    | some (.obj _ _) => none
    | some _ => some "list"
    | none => none)
def isiD (t T : String) : Bool := t == T || (t == "bool" && T == "int")
def isiF (T : String) : D → Hv → R D := fun x h => match tyD x h with
  | some t => .ok (.bl (isiD t T)) h
  | none => .stuck
end VM

set_option maxRecDepth 100000
set_option maxHeartbeats 1000000
namespace VM
open PySem L2
/-! isinstance of a tuple of two classes -/
def isi2F (T U : String) : D → Hv → R D := fun x h => match tyD x h with
  | some t => .ok (.bl (isiD t T || isiD t U)) h
  | none => .stuck
/-! a lambda handed to a def that tries it -/
/-- what the def makes of the lambda: no exception comes out of it -/
def hofR (nl : Nat) (B : EF → SF) (C : Or) (th : Hv → R D) (h : Hv) : R D := match B (fun _ _ h => th h) C (List.replicate nl none) h with
  | .rt d h' => .ok d h'
  | .nx _ h' => .ok .non h'
  | _ => .stuck
def hofF (nl : Nat) (B : EF → SF) (body : EF) : EF := fun C env h => hofR nl B C (fun h => body C env h) h
end VM

set_option maxRecDepth 100000
set_option maxHeartbeats 1000000
namespace VM
open PySem L2
/-! sorts: whole numbers, or tuples told apart by their first numbers -/
def numD : D → Int
  | .int i => i
  | .tup (.int i :: _) => i
  | _ => 0
def fstD_ : D → Bool
  | .tup (.int _ :: _) => true
  | _ => false
def insD (d : D) : List D → List D
  | [] => [d]
  | e :: es => if numD d ≤ numD e then d :: e :: es else e :: insD d es
def srtD : List D → List D
  | [] => []
  | d :: ds => insD d (srtD ds)
def sortL (ds : List D) (h : Hv) : R D := match intsD ds with
  | some _ => if ds.length < 64 then .ok (.ref h.length) (h ++ [.lst (srtD ds)]) else .stuck
  | none => if ds.length < 64 ∧ (ds.all fstD_ = true ∧ (ds.map numD).Nodup) then .ok (.ref h.length) (h ++ [.lst (srtD ds)]) else .stuck
/-- the keys of a dict, whole numbers -/
def intsK : List (DKey × D) → Option (List Int)
  | [] => some []
  | (.inl i, _) :: r => (intsK r).map (i :: ·)
  | _ => none
/-- sorted(d), by keys -/
def sortK (x : D) (h : Hv) : R D := match dctAt x h with
  | some kvs => (match intsK kvs with
    | some ks => if ks.length < 64 then .ok (.ref h.length) (h ++ [.lst (srtD (ks.map .int))]) else .stuck
    | none => .stuck)
  | none => .stuck
/-- sorted(x) -/
def bSorted : List D → Hv → R D := fun xs h => match xs with
  | [x] => (match lstAt x h with
    | some z => sortL z h
    | none => sortK x h)
  | _ => .stuck
/-- sorted(d.values()) -/
def opSortV : D → Hv → R D := fun x h => match dctAt x h with
  | some kvs => if kvs.length < 64 ∧ ((kvs.map (·.2)).all fstD_ = true ∧ ((kvs.map (·.2)).map numD).Nodup) then .ok (.ref h.length) (h ++ [.lst (srtD (kvs.map (·.2)))]) else .stuck
  | none => .stuck
/-- len(set(t)), t a tuple of whole numbers -/
def metI : List Int → List Int → List Int
  | acc, [] => acc
  | acc, n :: ns => metI (if n ∈ acc then acc else acc ++ [n]) ns
def opLenSet : D → Hv → R D := fun x h => match x with
  | .tup ds => (match intsD ds with
    | some ns => if ns.length ≤ 1000 then .ok (.int (metI [] ns).length) h else .stuck
    | none => .stuck)
  | _ => .stuck
/-- tuple(range(a)) -/
def opTupRg : D → Hv → R D := fun x h => match x with
  | .int j => if 0 ≤ j ∧ j ≤ 1000 then .ok (.tup (rng 0 j.toNat)) h else .stuck
  | _ => .stuck
/-- zip of three tuples -/
def zip3D : List D → List D → List D → List D
  | x :: xs, y :: ys, w :: ws => .tup [x, y, w] :: zip3D xs ys ws
  | _, _, _ => []
def itZ3 (a b c : EF) : IF := fun C env h => (a C env h).bind fun x h1 => (b C env h1).bind fun y h2 => (c C env h2).bind fun v h3 => match x, y, v with
  | .tup xs, .tup ys, .tup ws => .ok (zip3D xs ys ws, []) h3
  | _, _, _ => .stuck
end VM

set_option maxRecDepth 100000
set_option maxHeartbeats 1000000
namespace VM
open PySem L2
/-! dicts walked -/
def itemsD (kvs : List (DKey × D)) : List D := kvs.map fun kv => .tup [kD kv.1, kv.2]
/-- list(d.items()) -/
def opItems : D → Hv → R D := fun x h => match dctAt x h with
  | some kvs => if kvs.length ≤ szl then .ok (.ref h.length) (h ++ [.lst (itemsD kvs)]) else .stuck
  | none => .stuck
/-- pairs of a key and a value -/
def pairsD : List D → Option (List (DKey × D))
  | [] => some []
  | .tup [k, v] :: r => (keyD k).bind fun key => (pairsD r).map ((key, v) :: ·)
  | _ => none
/-- dict(x): of pairs, of a dict -/
def bDict : List D → Hv → R D := fun xs h => match xs with
  | [x] => (match lstAt x h with
    | some z => (match pairsD z with
      | some kvs => .ok (.ref h.length) (h ++ [.dct (mergeD [] kvs)])
      | none => .stuck)
    | none => (match dctAt x h with
      | some kvs => .ok (.ref h.length) (h ++ [.dct kvs])
      | none => .stuck))
  | _ => .stuck
/-- the items of a dict that is locked -/
def itRodF (i : Nat) : IF := fun _ env h => match env[i]? with
  | some (some (.ref p)) => (match h[p]? with
    | some (.rod kvs) => .ok (itemsD kvs, []) h
    | _ => .stuck)
  | _ => .stuck
def dctIn (i : Nat) (env : Env) (h : Hv) : Option (Nat × List (DKey × D)) := match env[i]? with
  | some (some (.ref p)) => (match h[p]? with
    | some (.dct kvs) => some (p, kvs)
    | _ => none)
  | _ => none
def SR.unlock (p : Nat) (kvs : List (DKey × D)) : SR → SR
  | .nx env h => if h[p]? = some (.rod kvs) then .nx env (h.set p (.dct kvs)) else .stuck
  | _ => .stuck
/-- for k, v in d.items(): d a name -/
def forDS (i : Nat) (tg : TF) (body : SF) : SF := fun C env h => match dctIn i env h with
  | some (p, kvs) => (forS (itRodF i) tg body C env (h.set p (.rod kvs))).unlock p kvs
  | none => .stuck
def R.unlock (p : Nat) (kvs : List (DKey × D)) : R D → R D
  | .ok d h => if h[p]? = some (.rod kvs) then .ok d (h.set p (.dct kvs)) else .stuck
  | _ => .stuck
/-- [elt for k, v in d.items() if t]: d a name -/
def lcDF (i : Nat) (tg : TF) (own : List Nat) (t elt : EF) : EF := fun C env h => match dctIn i env h with
  | some (p, kvs) => (lcF (itRodF i) tg own t elt C env (h.set p (.rod kvs))).unlock p kvs
  | none => .stuck
/-- sorted(set(x)), x a list of whole numbers -/
def opSortSet : D → Hv → R D := fun x h => match (lstAt x h).bind intsD with
  | some ns => if ns.length < 64 then .ok (.ref h.length) (h ++ [.lst (srtD ((metI [] ns).map .int))]) else .stuck
  | none => .stuck
/-! the least one -/
def bestD {α : Type} (lt : α → α → Bool) : α → List α → α
  | b, [] => b
  | b, x :: xs => bestD lt (if lt x b = true then x else b) xs
/-- min(x), max(x): whole numbers -/
def opMin1 : D → Hv → R D := fun x h => match seqOf x h with
  | some z => (match intsD z.1 with
    | some (n :: ns) => .ok (.int (bestD (fun a b => decide (a < b)) n ns)) h
    | _ => .stuck)
  | none => .stuck
def opMax1 : D → Hv → R D := fun x h => match seqOf x h with
  | some z => (match intsD z.1 with
    | some (n :: ns) => .ok (.int (bestD (fun a b => decide (a > b)) n ns)) h
    | _ => .stuck)
  | none => .stuck
/-- sorted(t), t a tuple of whole numbers -/
def opSortT : D → Hv → R D := fun x h => match x with
  | .tup ds => (match intsD ds with
    | some _ => if ds.length < 64 then .ok (.ref h.length) (h ++ [.lst (srtD ds)]) else .stuck
    | none => .stuck)
  | _ => .stuck
/-- sorted(e[a:b]) -/
def opSortS : D → Hv → R D := fun x h => match x with
  | .tup ds => opSortT (.tup ds) h
  | _ => bSorted [x] h
/-! the least of tuples of whole numbers -/
def tupI : D → Option (List Int)
  | .tup ds => intsD ds
  | _ => none
def tupsI : List D → Option (List (List Int))
  | [] => some []
  | d :: ds => match tupI d with
    | some n => (match tupsI ds with
      | some r => some (n :: r)
      | none => none)
    | none => none
/-- min(x) -/
def opMinT : D → Hv → R D := fun x h => match seqOf x h with
  | some z => (match tupsI z.1 with
    | some (n :: ns) => .ok (.tup ((bestD HT.lexLt n ns).map .int)) h
    | _ => .stuck)
  | none => .stuck
/-- min(x, default=d) -/
def opMinD : D → D → Hv → R D := fun x d h => match seqOf x h with
  | some z => (match tupsI z.1 with
    | some [] => .ok d h
    | some (n :: ns) => .ok (.tup ((bestD HT.lexLt n ns).map .int)) h
    | none => .stuck)
  | none => .stuck
end VM

set_option maxRecDepth 100000
namespace VM
open PySem L2
/-! objects of the text's own classes -/
def objAt (d : D) (h : Hv) : Option (Str × List (Str × D)) := match d with
  | .ref p => (match h[p]? with
    | some (.obj c fs) => some (c, fs)
    | _ => none)
  | _ => none
def putO (f : Str) (d : D) : List (Str × D) → List (Str × D)
  | [] => [(f, d)]
  | (g, x) :: r => if g = f then (g, d) :: r else (g, x) :: putO f d r
/-- o.f -/
def fldF (f : Str) (a : EF) : EF := fun C env h => (a C env h).bind fun x h1 => match objAt x h1 with
  | some q => (match q.2.lookup f with
    | some d => .ok d h1
    | none => .stuck)
  | none => .stuck
/-- o.m(..), m a method of the class c -/
def mthF (c m : Str) (a : EF) (es : List EF) : EF := fun C env h => (a C env h).bind fun x h1 => match objAt x h1 with
  | some q => if q.1 = c ∧ q.2.lookup m = none then (listF es C env h1).bind fun ds h2 => C (c ++ "." ++ m) (x :: ds) h2 else .stuck
  | none => .stuck
/-- c(..): a new object, then __init__ -/
def newF (c : Str) (es : List EF) : EF := fun C env h => (listF es C env h).bind fun ds h1 => (C (c ++ ".__init__") (.ref h1.length :: ds) (h1 ++ [.obj c []])).bind fun d h2 => match d with
  | .non => .ok (.ref h1.length) h2
  | _ => .stuck
def setO (o : D) (f : Str) (d : D) (h : Hv) : Option Hv := match o with
  | .ref p => (match h[p]? with
    | some (.obj c fs) => if fs.length < 1000 then some (h.set p (.obj c (putO f d fs))) else none
    | _ => none)
  | _ => none
/-- o.f = e -/
def atS (o : EF) (f : Str) (e : EF) : SF := fun C env h => (e C env h).thenS env fun d h1 => (o C env h1).thenS env fun x h2 => match setO x f d h2 with
  | some h3 => .nx env h3
  | none => .stuck
/-- xs.pop() -/
def mPop0 : D → List D → Hv → R D := fun o xs h => match o, xs with
  | .ref p, [] => (match h[p]? with
    | some (.lst ds) => (match ds[ds.length - 1]? with
      | some d => .ok d (h.set p (.lst ds.dropLast))
      | none => .stuck)
    | _ => .stuck)
  | _, _ => .stuck
end VM

set_option maxRecDepth 100000
namespace VM
open PySem L2
/-! texts: join, split, f-strings; tables of the text's top -/
def strsD : List D → Option (List Str)
  | [] => some []
  | .str z :: r => (strsD r).map (z :: ·)
  | _ => none
def mJoin (a : Str) (y : D) (h : Hv) : R D := match (seqOf y h).bind fun z => strsD z.1 with
  | some ys => if (ys.map (·.length)).sum + ys.length * a.length ≤ szl then .ok (.str (Txt.join a ys)) h else .stuck
  | none => .stuck
def mSplit (a : Str) (y : D) (h : Hv) : R D := match y with
  | .str b => if b.length ≠ 0 ∧ a.length ≤ szl then .ok (.ref h.length) (h ++ [.lst ((Txt.split a b).map .str)]) else .stuck
  | _ => .stuck
/-- z.m(y), of a text z -/
def methS (g : Str → D → Hv → R D) (o e : EF) : EF := fun C env h => (o C env h).bind fun x h1 => match x with
  | .str a => (e C env h1).bind fun y h2 => g a y h2
  | _ => .stuck
/-- an f-string's parts, one behind the other -/
def fsL (C : Or) (env : Env) : List EF → Str → Hv → R D
  | [], acc, h => .ok (.str acc) h
  | e :: es, acc, h => (e C env h).bind fun x h1 => match x with
    | .str y => if (acc ++ y).length ≤ szl then fsL C env es (acc ++ y) h1 else .stuck
    | _ => .stuck
def fstF (es : List EF) : EF := fun C env h => fsL C env es Str.empty h
/-- {x} -/
def opFmt : D → Hv → R D := fun x h => match x with
  | .str z => if z.length ≤ szl then .ok (.str z) h else .stuck
  | .int i => if i.natAbs.log2 < 1920 then .ok (.str (toString i)) h else .stuck
  | _ => .stuck
/-- of a table of the top: texts to numbers -/
def opIxK (kvs : List (Str × Int)) : D → Hv → R D := fun x h => match x with
  | .str z => (match kvs.lookup z with
    | some i => .ok (.int i) h
    | none => .stuck)
  | _ => .stuck
def opInK (neg : Bool) (kvs : List (Str × Int)) : D → Hv → R D := fun x h => match x with
  | .str z => .ok (.bl (if neg then !(kvs.lookup z).isSome else (kvs.lookup z).isSome)) h
  | _ => .stuck
end VM

set_option maxRecDepth 100000
set_option maxHeartbeats 1000000
namespace VM
open PySem L2
/-- x.replace(y, z) -/
def opRep (y z : Str) : D → Hv → R D
  | .str x, h => if x.length + (x.length + 1) * z.length ≤ 16777216 then .ok (.str (Txt.replace x y z)) h else .stuck
  | _, _ => .stuck
end VM

set_option maxRecDepth 100000
namespace VM
open PySem L2
/-! a def as a value, a local that holds one called -/
def callvF (fs : List Str) (i : Nat) (es : List EF) : EF := fun C env h => match env[i]? with
  | some (some (.fn x)) => if fs.contains x = true then (listF es C env h).bind fun ds h1 => C x ds h1 else .stuck
  | _ => .stuck
end VM

set_option maxRecDepth 100000
namespace VM
open PySem L2
/-! exceptions held as values -/
/-- x("..") -/
def xcF (c : Str) : EF := fun _ _ h => .ok (.exn c none) h
/-- x(e), its place is e -/
def opXat (c : Str) : D → Hv → R D := fun x h => match x with
  | .int i => .ok (.exn c (some i)) h
  | _ => .stuck
/-- isinstance(e, c) -/
def opXis (l : List Str) (c : Str) : D → Hv → R D := fun x h => match x with
  | .exn k _ => if l.contains k = true ∧ l.contains c = true then .ok (.bl (decide (k = c))) h else .stuck
  | _ => .stuck
def opXve (l : List Str) : D → Hv → R D := fun x h => match x with
  | .exn k _ => if l.contains k = true then .ok (.bl true) h else .stuck
  | _ => .stuck
/-- e.at -/
def opXf (l : List Str) : D → Hv → R D := fun x h => match x with
  | .exn k (some i) => if l.contains k = true then .ok (.int i) h else .stuck
  | _ => .stuck
end VM

set_option maxRecDepth 100000
set_option maxHeartbeats 4000000
namespace VM
open PySem PySem.Spec PyProof.Rows L2
/-! what is looked at behind the top -/
def stkS : SF := fun _ _ _ => .stuck
inductive GV where
  | con (d : D) | fn (np : Nat) | blt | exc (arg : Bool) | hof (nl : Nat) (B : EF → SF) | cls (np : Nat) | mth (c m : Str) (np : Nat) | fld (f : Str) | dct (kvs : List (Str × Int)) | fnT (np : Nat) | fvs (l : List Str) | xcs (l : List Str)
structure Row where
  x : Str
  st : Stmt
  N : List Str
  ps : List Str
  fr : FnRec
def dvB (K : PySem.W.Frag) : Nat → D → Value → Bool
  | _, .non, .none => true
  | _, .bl b, .bool c => b == c
  | _, .int i, .int j _ => decide (i = j)
  | _, .str x, .str y _ => decide (x = y)
  | n + 1, .tup ds, .ref a => (match K.lookup a with
    | some ⟨.type c, _, .seq its _, _⟩ => decide (c = "tuple") && (decide (its.size ≤ sizeLine) && dvs n ds its.toList)
    | _ => false)
  | _, _, _ => false
where dvs (n : Nat) : List D → List Value → Bool
  | [], [] => true
  | d :: ds, u :: us => dvB K n d u && dvs n ds us
  | _, _ => false
def Row.dd (r : Row) : He.DefD := ⟨(r.x, none), r.x, r.x, defArgs r.st, defBody r.st, defScope r.st, [], []⟩
/-- a statement of a class's body -/
def clsStmt : Stmt → Nat → Stmt
  | .ClassDef (body := b) .., j => b.getD j (.Pass ⟨0, 0, 0, 0⟩)
  | _, _ => .Pass ⟨0, 0, 0, 0⟩
/-- an exception's class with an __init__ of its own: self, at -/
structure IniD where
  cls : Str
  sup : Str
  qual : Str
  st : Stmt
def IniD.dd (d : IniD) : He.DefD := ⟨(d.cls, some "__init__"), "__init__", d.qual, defArgs d.st, defBody d.st, defScope d.st, [], []⟩
def oexB (K : PySem.W.Frag) (C : Addr) : Bool := (match K.lookup C with
  | some ⟨.type "type", _, .cls cd, sl⟩ => (match cd.mro, sl.toList with
    | .ref C1 :: bm, [_, _, _, _, some (.builtin n), _] => (C1 == C) && ((n == "ValueError.__new__") && (!cd.hasDel && (cd.hasDict && PySem.HandSPX.refsVE bm)))
    | _, _ => false)
  | _ => false) && (He.eqO (PySem.W.findIn K (.ref C) "__setattr__") (some (some (.builtin "object.__setattr__"))) && (decide (PySem.W.subIn K (.ref C) (.type "BaseException") = some true) && (decide (PySem.W.typeIn K (.ref C) = some (.type "type")) && PySem.W.keepIn K (.ref C))))
def teB (K : PySem.W.Frag) (S : Addr) : Bool := He.eqO (PySem.W.specialIn K (.ref S) "__getattribute__") (some (some (.builtin "type.__getattribute__"))) && (decide (PySem.W.typeIn K (.ref S) = some (.type "type")) && (PySem.W.readsIn K S (.type "type") &&
  (match PySem.W.findCls K (.ref S) (.type "type") "__init__" with
    | some (.val (.builtin b)) => decide (b = "ValueError.__init__")
    | _ => false)))
def iniB (K : PySem.W.Frag) (d : IniD) : Bool := (He.Fa.glo d.cls).ok K && ((He.Fa.glo d.sup).ok K && (d.dd.ok K && (He.eqO (PySem.W.findIn K (.ref (He.ga K d.cls)) "__init__") (some (some (.ref (He.ma K (He.ga K d.cls) "__init__")))) &&
  (decide (PySem.W.typeIn K (.ref (He.ma K (He.ga K d.cls) "__init__")) = some (.type "function")) && (oexB K (He.ga K d.cls) && (He.eqO (PySem.W.findIn K (.ref (He.ga K d.cls)) "at") (some none) && (xfB K (He.ga K d.cls) && teB K (He.ga K d.sup))))))))
/-- a method of one of the text's own classes -/
structure MRow where
  r : Row
  c : Str
  m : Str
def MRow.dd (q : MRow) : He.DefD := ⟨(q.c, some q.m), q.m, q.r.x, defArgs q.r.st, defBody q.r.st, defScope q.r.st, [], []⟩
def MRow.okB (K : PySem.W.Frag) (fs : List Str) (q : MRow) : Bool := q.dd.ok K && (He.Fa.ok K (.glo q.c) && (He.Fa.ok K (.cls q.c) && ((if q.m = "__init__" then He.Fa.ok K (.mkr q.c) else He.Fa.ok K (.meth q.c q.m)) && fs.all fun f => He.Fa.ok K (.noat q.c f))))
/-- what a name of the top is: a value; a table of texts to numbers -/
inductive CV where
  | d (x : D) | t (kvs : List (Str × Int))
def keyVal (e : DictEntry) : Option (Str × Int) := match e.key, e.val with
  | .str x _, .int i _ => some (x, i)
  | _, _ => none
def dctV (K : PySem.W.Frag) (a : Addr) : Option (List (Option (Str × Int))) := match K.lookup a with
  | some ⟨_, _, .dict es _, _⟩ => some (es.toList.map keyVal)
  | _ => none
/-- what the head's facts are read for -/
structure Facts0 where
  rows : List Row
  cons : List (Str × CV)
  blts : List Str
  ex0 : List Str
  ini : List IniD
  ms : List MRow
  fs : List Str
def Facts0.ex (z : Facts0) : List Str := z.ex0 ++ z.ini.map IniD.cls
def Facts0.dds (z : Facts0) : List He.DefD := z.rows.map Row.dd ++ (z.ini.map IniD.dd ++ z.ms.map MRow.dd)
def conB0 (K : PySem.W.Frag) (c : Str × CV) : Bool := match c.2 with
  | .d x => (match PySem.W.nsIn K mainGlobals c.1 with
    | some (some u) => dvB K 20 x u
    | _ => false)
  | .t kvs => He.Fa.ok K (.glo c.1) && decide (dctV K (He.ga K c.1) = some (kvs.map some))
/-- the tables' keys -/
def tabsOf (cons : List (Str × CV)) : List (Str × List Str) := cons.filterMap fun c => match c.2 with
  | .d _ => none
  | .t kvs => some (c.1, kvs.map (·.1))
/-- exceptions held as values: their classes -/
def xv1 (K : PySem.W.Frag) (x : Str) : Bool :=
  He.Fa.ok K (.glo x) && (decide (PySem.W.findIn K (.ref (He.ga K x)) "__getattribute__" = some (some (.builtin "BaseException.__getattribute__"))) && (decide (PySem.W.findIn K (.ref (He.ga K x)) "__getattr__" = some none) && (decide (PySem.W.subIn K (.ref (He.ga K x)) (.type "BaseException") = some true) &&
    (PySem.W.hasDictIn K (He.ga K x) && (decide (PySem.W.findIn K (.ref (He.ga K x)) "__class__" = some (some (.builtin "object.__class__"))) && (decide (PySem.W.mroIn K (He.ga K x) (.type "object") = some true) && (decide (PySem.W.findIn K (.ref (He.ga K x)) "at" = some none) &&
    (decide (PySem.W.kitOne K (.ref (He.ga K x)) (.ref (He.ga K "TrailError")) = some true) && decide (PySem.W.kitOne K (.ref (He.ga K x)) (.type "ValueError") = some true)))))))))
def xvB (K : PySem.W.Frag) (l : List Str) : Bool :=
  He.Fa.ok K (.glo "TrailError") && (He.Fa.ok K (.free "ValueError") && (decide (PySem.W.specialIn K (.builtin "object.__class__") "__get__" = some (some (.builtin "getset_descriptor.__get__"))) && (decide (PySem.W.takesIn K (.builtin "object.__class__") = some true) &&
    ((l.all fun x => xv1 K x) && (l.all fun x => l.all fun y => decide (PySem.W.kitOne K (.ref (He.ga K x)) (.ref (He.ga K y)) = some (decide (x = y))))))))
/-- the facts, as one Bool -/
def sayB (z : Facts0) (K : PySem.W.Frag) : Bool :=
  (z.rows.all fun r => r.dd.ok K && He.Fa.ok K (.glo r.x)) && ((z.cons.all fun c => conB0 K c) && ((z.blts.all fun x => He.Fa.ok K (.free x)) && ((z.ex0.all fun x => He.Fa.ok K (.glo x) && He.Fa.ok K (.exc x)) && ((z.ini.all fun d => iniB K d) && ((z.ex.all fun x => z.ex.all fun y => He.Fa.ok K (.exm x y (decide (x = y)))) && ((z.ms.all fun q => q.okB K z.fs) && (!z.fs.contains "!" || xvB K (z.fs.filter fun y => !(y == "!")))))))))
abbrev AlV : Type := Bool × List He.FnW × List (Option (List (Option (Str × Int))))
def obsV (z : Facts0) (K : PySem.W.Frag) : AlV := (sayB z K, z.dds.map fun d => He.fnW K d.at_, (tabsOf z.cons).map fun t => He.dicW K (He.ga K t.1))
def valM0 (z : Facts0) (w : World) : AlV := (true, z.dds.map fun d => d.val, (tabsOf z.cons).map fun t => some (He.keysIn w.params t.2))
def SaysV (z : Facts0) (w : World) (K : PySem.W.Frag) : Prop := obsV z K = valM0 z w
/-- what lies so many steps behind the names of the main module -/
def lvE (g : Addr → Option Obj) : Nat → List Addr
  | 0 => [PySem.mainGlobals]
  | n + 1 => (lvE g n).flatMap fun a => match g a with
    | some o => (He.refsD o).filter fun b => !(b == PySem.mainGlobals)
    | none => []
def asE (g : Addr → Option Obj) (n : Nat) : List Addr := (List.range (n + 1)).flatMap (lvE g)
def obsVG (n : Nat) (z : Facts0) (g : Addr → Option Obj) : AlV := obsV z (He.frG g (PySem.cStatics :: asE g n))
def hookV (n : Nat) (z : Facts0) : PySem.W.Hook where
  α := AlV
  obs := fun s => obsVG n z s.heap.get?
  val := fun w => valM0 z w
  says := fun w h => ∃ K : PySem.W.Frag, K.In h ∧ SaysV z w K
  of := fun _ _ e => ⟨_, He.frG_in, e⟩
  keeps := fun _ _ _ ⟨K, hK, c⟩ k => ⟨K, PySem.W.Frag.In.keeps hK k, c⟩
theorem obsVG_eq {n : Nat} {z : Facts0} {g : Addr → Option Obj} {s : Shared} (h : ∀ a, g a = s.heap.get? a) : obsVG n z g = (hookV n z).obs s := by
  have e : g = s.heap.get? := funext h
  rw [e] <;> rfl
theorem lookup_filter {f : Addr → Bool} : ∀ (l : List (Addr × Obj)) (a : Addr), (l.filter fun p => f p.1).lookup a = if f a = true then l.lookup a else none
  | [], a => by simp
  | (b, v) :: l, a => by
    have ih := lookup_filter (f := f) l a
    by_cases e : a = b
    · subst e
      by_cases h : f a = true
      · simp [List.filter_cons, h, List.lookup_cons]
      · rw [if_neg h] at ih ⊢
        rw [List.filter_cons, if_neg h, ih]
    · have e' : (a == b) = false := by simpa using e
      rw [List.lookup_cons, e', List.filter_cons]
      by_cases h : f b = true
      · rw [if_pos h, List.lookup_cons, e']; exact ih
      · rw [if_neg h]; exact ih
/-- the heap's part without the tables that lambdas write -/
def cutT (K : PySem.W.Frag) (lams : List Str) : PySem.W.Frag := K.filter fun p => !((lams.filterMap (PySem.W.tabIn K)).any fun q => q.2 == p.1)
theorem cutT_in {K : PySem.W.Frag} {lams : List Str} {h : Heap} (hK : K.In h) : (cutT K lams).In h := fun a o e => by
  unfold cutT at e
  rw [lookup_filter (f := fun a => !((lams.filterMap (PySem.W.tabIn K)).any fun q => q.2 == a))] at e
  split at e
  · exact hK a o e
  · cases e
def sayT (lams : List Str) (K : PySem.W.Frag) : Bool := lams.all fun x => match PySem.W.tabIn K x with
  | some q => (K.lookup q.2).isNone && lams.all fun y => match PySem.W.tabIn K y with
    | some q' => !(q'.2 == q.2) || decide (x = y)
    | none => false
  | none => false
abbrev AlL : Type := Bool × AlV
def obsL (z : Facts0) (lams : List Str) (K : PySem.W.Frag) : AlL := (sayT lams (cutT K lams), obsV z (cutT K lams))
def obsLG (n : Nat) (z : Facts0) (lams : List Str) (g : Addr → Option Obj) : AlL := obsL z lams (He.frG g (PySem.cStatics :: asE g n))
def hookL (n : Nat) (z : Facts0) (lams : List Str) : PySem.W.Hook where
  α := AlL
  obs := fun s => obsLG n z lams s.heap.get?
  val := fun w => (true, valM0 z w)
  says := fun w h => ∃ K : PySem.W.Frag, K.In h ∧ SaysV z w K ∧ sayT lams K = true
  of := fun _ _ e => ⟨_, cutT_in He.frG_in, congrArg (fun p : AlL => p.2) e, congrArg (fun p : AlL => p.1) e⟩
  keeps := fun _ _ _ ⟨K, hK, c⟩ k => ⟨K, PySem.W.Frag.In.keeps hK k, c⟩
theorem obsLG_eq {n : Nat} {z : Facts0} {lams : List Str} {g : Addr → Option Obj} {s : Shared} (h : ∀ a, g a = s.heap.get? a) : obsLG n z lams g = (hookL n z lams).obs s := by
  have e : g = s.heap.get? := funext h
  rw [e] <;> rfl
structure HRow where
  r : Row
  a : Str
  B : EF → SF
/-! the head's equation in parts -/
theorem obsL_split {A : List Row} {c : List (Str × CV)} {bl e : List Str} {i : List IniD} {m : List MRow} {f lams : List Str} {K : PySem.W.Frag} {w : World}
    (h1 : obsL ⟨A, [], [], [], [], [], []⟩ lams K = (true, valM0 ⟨A, [], [], [], [], [], []⟩ w)) (h2 : obsL ⟨[], c, bl, e, i, m, f⟩ lams K = (true, valM0 ⟨[], c, bl, e, i, m, f⟩ w)) :
    obsL ⟨A, c, bl, e, i, m, f⟩ lams K = (true, valM0 ⟨A, c, bl, e, i, m, f⟩ w) := by
  simp only [obsL, obsV, valM0, sayB, Facts0.dds, Facts0.ex, Prod.mk.injEq, Bool.and_eq_true, List.map_append, List.append_nil, List.map_nil, List.nil_append] at h1 h2 ⊢
  obtain ⟨s1, ⟨a1, a2⟩, v1, _⟩ := h1
  obtain ⟨_, ⟨b1, b2⟩, v2, v3⟩ := h2
  exact ⟨s1, ⟨a1, b2⟩, by rw [v1, v2], v3⟩
theorem obsLG_split {n : Nat} {A : List Row} {c : List (Str × CV)} {bl e : List Str} {i : List IniD} {m : List MRow} {f lams : List Str} {g : Addr → Option Obj} {w : World}
    (h1 : obsLG n ⟨A, [], [], [], [], [], []⟩ lams g = (hookL n ⟨A, [], [], [], [], [], []⟩ lams).val w) (h2 : obsLG n ⟨[], c, bl, e, i, m, f⟩ lams g = (hookL n ⟨[], c, bl, e, i, m, f⟩ lams).val w) :
    obsLG n ⟨A, c, bl, e, i, m, f⟩ lams g = (hookL n ⟨A, c, bl, e, i, m, f⟩ lams).val w := obsL_split h1 h2
theorem run_join {α β γ δ δ1 δ2 : Type} {o : Option α} {f1 : α → β} {f2 : α → γ} {f3 : α → δ} {g1 : α → δ1} {g2 : α → δ2} {a : β} {b : γ} {c : δ} {c1 : δ1} {c2 : δ2} (h12 : o.map (fun s => (f1 s, f2 s)) = some (a, b)) (k1 : o.map g1 = some c1) (k2 : o.map g2 = some c2)
    (k : ∀ s, g1 s = c1 → g2 s = c2 → f3 s = c) : o.map (fun s => (f1 s, f2 s, f3 s)) = some (a, b, c) := by
  cases o with
  | none => cases h12
  | some s =>
    have e1 := Option.some.inj h12
    have e2 := Option.some.inj k1
    have e3 := Option.some.inj k2
    show some (f1 s, f2 s, f3 s) = _
    rw [k s e2 e3, show f1 s = a from congrArg Prod.fst e1, show f2 s = b from congrArg Prod.snd e1]
end VM

set_option maxRecDepth 100000
set_option maxHeartbeats 0
namespace VM
open PySem L2
def exs : List Str := ["NoDeed", "NoFirst", "NoLoad", "NoNext", "NoNumber", "NoOrder", "NoPartner", "NoPrices", "NoRow", "NoSale", "NoText", "NoThrow", "NoTrain", "NothingDone", "TooMany", "NotDone"]
def xcs : List Str := ["NoDeed", "NoFirst", "NoLoad", "NoNext", "NoNumber", "NoOrder", "NoPartner", "NoPrices", "NoRow", "NoSale", "NoText", "NoThrow", "NoTrain", "NotDone", "NothingDone", "TooMany"]
def F_common : SF := (seqS (whileS (binF opGt (varF 1) (conF (.int 0))) (seqS (parS 0 1 (varF 1) (binF opMod (varF 0) (varF 1))) nxS)) (seqS (retS (varF 0)) nxS))
def R_common : FnRec := ⟨2, 2, F_common⟩
def F_made : SF := (seqS (asgS (nmT 2) (callF "common" [(bltF bAbs [(varF 0)]), (varF 1)])) (seqS (retS (tupF [(binF opFdiv (varF 0) (varF 2)), (binF opFdiv (varF 1) (varF 2))])) nxS))
def R_made : FnRec := ⟨2, 3, F_made⟩
def F_plus : SF := (seqS (retS (callF "made" [(binF opAdd (binF opMul (binF opIx (varF 0) (conF (.int 0))) (binF opIx (varF 1) (conF (.int 1)))) (binF opMul (binF opIx (varF 1) (conF (.int 0))) (binF opIx (varF 0) (conF (.int 1))))), (binF opMul (binF opIx (varF 0) (conF (.int 1))) (binF opIx (varF 1) (conF (.int 1))))])) nxS)
def R_plus : FnRec := ⟨2, 2, F_plus⟩
def F_less : SF := (seqS (retS (callF "made" [(binF opSub (binF opMul (binF opIx (varF 0) (conF (.int 0))) (binF opIx (varF 1) (conF (.int 1)))) (binF opMul (binF opIx (varF 1) (conF (.int 0))) (binF opIx (varF 0) (conF (.int 1))))), (binF opMul (binF opIx (varF 0) (conF (.int 1))) (binF opIx (varF 1) (conF (.int 1))))])) nxS)
def R_less : FnRec := ⟨2, 2, F_less⟩
def F_times : SF := (seqS (retS (callF "made" [(binF opMul (binF opIx (varF 0) (conF (.int 0))) (binF opIx (varF 1) (conF (.int 0)))), (binF opMul (binF opIx (varF 0) (conF (.int 1))) (binF opIx (varF 1) (conF (.int 1))))])) nxS)
def R_times : FnRec := ⟨2, 2, F_times⟩
def F_so_many : SF := (seqS (retS (callF "made" [(binF opMul (varF 0) (binF opIx (varF 1) (conF (.int 0)))), (binF opIx (varF 1) (conF (.int 1)))])) nxS)
def R_so_many : FnRec := ⟨2, 2, F_so_many⟩
def F_lies : SF := (seqS (retS (andF (binF opLt (varF 1) (bltF bLen [(varF 0)])) (binF opGe (binF opIx (binF opIx (varF 0) (varF 1)) (conF (.int 1))) (varF 2)))) nxS)
def R_lies : FnRec := ⟨3, 3, F_lies⟩
def F_can_do : SF := (seqS (asgS (tupT [(nmT 3), (nmT 4), (nmT 5)]) (varF 0)) (seqS (asgS (nmT 2) (binF opIx (varF 1) (conF (.int 0)))) (seqS (ifS (binF (opEqD false) (varF 2) (conF (.str "pool"))) (seqS (ifS (orF (un1F opNot (callF "lies" [(varF 3), (binF opIx (varF 1) (conF (.int 1))), (conF (.int 1))])) (un1F opNot (callF "lies" [(varF 3), (binF opIx (varF 1) (conF (.int 2))), (conF (.int 1))]))) (seqS (retS (conF (.bl false))) nxS) nxS) (seqS (retS (binF (opEqD false) (binF opIx (binF opIx (varF 3) (binF opIx (varF 1) (conF (.int 1)))) (conF (.int 0))) (binF opIx (binF opIx (varF 3) (binF opIx (varF 1) (conF (.int 2)))) (conF (.int 0))))) nxS)) nxS) (seqS (ifS (binF (opEqD false) (varF 2) (conF (.str "trade"))) (seqS (retS (andF (binF (opIn true) (binF opIx (varF 1) (conF (.int 1))) (varF 5)) (callF "can_do" [(varF 0), (binF opAdd (tupF [(conF (.str "swap"))]) (slcF opSl (varF 1) (some (conF (.int 2))) none))]))) nxS) nxS) (seqS (ifS (binF (opEqD false) (varF 2) (conF (.str "swap"))) (seqS (retS (andF (callF "lies" [(varF 3), (binF opIx (varF 1) (conF (.int 1))), (binF opIx (varF 1) (conF (.int 2)))]) (binF (opEqD true) (binF opIx (binF opIx (varF 3) (binF opIx (varF 1) (conF (.int 1)))) (conF (.int 0))) (binF opIx (varF 1) (conF (.int 3)))))) nxS) nxS) (seqS (ifS (binF (opIn false) (varF 2) (tupF [(conF (.str "spoil")), (conF (.str "throw"))])) (seqS (retS (callF "lies" [(varF 3), (binF opIx (varF 1) (conF (.int 1))), (binF opIx (varF 1) (conF (.int 2)))])) nxS) nxS) (seqS (retS (conF (.bl true))) nxS)))))))
def R_can_do : FnRec := ⟨2, 6, F_can_do⟩
def F_with_less : SF := (seqS (asgS (tupT [(nmT 3), (nmT 4), (nmT 5)]) (binF opIx (varF 0) (varF 1))) (seqS (retS (binF opAdd (binF opAdd (slcF opSl (varF 0) none (some (varF 1))) (tupF [(tupF [(varF 3), (binF opSub (varF 4) (varF 2)), (varF 5)])])) (slcF opSl (varF 0) (some (binF opAdd (varF 1) (conF (.int 1)))) none))) nxS))
def R_with_less : FnRec := ⟨3, 6, F_with_less⟩
def F_pooled : SF := (seqS (parS 6 7 (binF opIx (varF 0) (varF 1)) (binF opIx (varF 0) (varF 2))) (seqS (asgS (nmT 3) (binF opAdd (binF opIx (varF 6) (conF (.int 1))) (binF opIx (varF 7) (conF (.int 1))))) (seqS (asgS (nmT 4) (lstF [])) (seqS (forS (itZ (binF opIx (varF 6) (conF (.int 2))) (binF opIx (varF 7) (conF (.int 2)))) (tupT [(nmT 8), (nmT 9)]) (seqS (asgS (nmT 10) (callF "plus" [(callF "so_many" [(binF opIx (varF 6) (conF (.int 1))), (varF 8)]), (callF "so_many" [(binF opIx (varF 7) (conF (.int 1))), (varF 9)])])) (seqS (expS (methF mAppend (varF 4) [(callF "made" [(binF opIx (varF 10) (conF (.int 0))), (binF opMul (binF opIx (varF 10) (conF (.int 1))) (varF 3))])])) nxS))) (seqS (asgS (nmT 5) (callF "with_less" [(callF "with_less" [(varF 0), (varF 1), (binF opIx (varF 6) (conF (.int 1)))]), (varF 2), (binF opIx (varF 7) (conF (.int 1)))])) (seqS (retS (binF opAdd (varF 5) (tupF [(tupF [(binF opIx (varF 6) (conF (.int 0))), (varF 3), (bltF bTuple [(varF 4)])])]))) nxS))))))
def R_pooled : FnRec := ⟨3, 11, F_pooled⟩
def F_sold_of : SF := (seqS (asgS (nmT 4) (callF "times" [(binF opIx (varF 0) (varF 1)), (varF 3)])) (seqS (asgS (nmT 5) (bltF bList [(varF 0)])) (seqS (setS (varF 5) (varF 1) (callF "less" [(binF opIx (varF 5) (varF 1)), (varF 4)])) (seqS (setS (varF 5) (varF 2) (callF "plus" [(binF opIx (varF 5) (varF 2)), (varF 4)])) (seqS (retS (bltF bTuple [(varF 5)])) nxS)))))
def R_sold_of : FnRec := ⟨4, 6, F_sold_of⟩
def F_borne_of : SF := (seqS (asgS (nmT 3) (callF "less" [(conF (.tup [(.int 1), (.int 1)])), (varF 1)])) (seqS (retS (bltF bTuple [(lcF (itZ (varF 0) (varF 2)) (tupT [(nmT 4), (nmT 5)]) [4, 5] (conF (.bl true)) (callF "plus" [(callF "times" [(varF 4), (varF 3)]), (callF "times" [(varF 5), (varF 1)])]))])) nxS))
def R_borne_of : FnRec := ⟨3, 6, F_borne_of⟩
def F_worth_of : SF := (seqS (retS (binF opAdd (bltF bSum [(lcF (itE (varF 1)) (nmT 3) [3] (conF (.bl true)) (binF opMul (binF opIx (varF 3) (conF (.int 1))) (binF opIx (varF 2) (binF opIx (varF 3) (conF (.int 0))))))]) (binF opMul (binF opIx (varF 0) (conF (.int 2))) (binF opIx (varF 2) (un1F opNeg (conF (.int 1))))))) nxS)
def R_worth_of : FnRec := ⟨3, 4, F_worth_of⟩
def F_cost_in : SF := (seqS (asgS (nmT 3) (binF opIx (varF 1) (conF (.int 0)))) (seqS (retS (callF "made" [(binF opMul (binF opIx (varF 2) (conF (.int 2))) (binF opIx (binF opIx (varF 2) (conF (.int 3))) (binF opIx (binF opIx (varF 3) (binF opIx (varF 2) (conF (.int 1)))) (conF (.int 0))))), (callF "worth_of" [(varF 0), (varF 3), (binF opIx (varF 2) (conF (.int 3)))])])) nxS))
def R_cost_in : FnRec := ⟨3, 4, F_cost_in⟩
def F_thrown : SF := (seqS (asgS (tupT [(nmT 4), (nmT 5), (nmT 6)]) (varF 1)) (seqS (asgS (tupT [(nmT 7), (nmT 8)]) (tupF [(callF "cost_in" [(varF 0), (varF 1), (varF 2)]), (binF opIx (binF opIx (varF 4) (binF opIx (varF 2) (conF (.int 1)))) (conF (.int 2)))])) (seqS (asgS (nmT 3) (callF "with_less" [(varF 4), (binF opIx (varF 2) (conF (.int 1))), (binF opIx (varF 2) (conF (.int 2)))])) (seqS (asgS (nmT 4) (bltF bTuple [(lcF (itE (varF 3)) (tupT [(nmT 9), (nmT 10), (nmT 11)]) [9, 10, 11] (conF (.bl true)) (tupF [(varF 9), (varF 10), (callF "borne_of" [(varF 11), (varF 7), (varF 8)])]))])) (seqS (retS (tupF [(varF 4), (callF "borne_of" [(varF 5), (varF 7), (varF 8)]), (varF 6)])) nxS)))))
def R_thrown : FnRec := ⟨3, 12, F_thrown⟩
def F_done : SF := (seqS (asgS (tupT [(nmT 5), (nmT 6), (nmT 7)]) (varF 1)) (seqS (asgS (nmT 3) (binF opIx (varF 2) (conF (.int 0)))) (seqS (ifS (binF (opEqD false) (varF 3) (conF (.str "bring"))) (seqS (asgS (nmT 8) (bltF bTuple [(lcF (it1F (binF opIx (varF 0) (conF (.int 0)))) (nmT 12) [12] (conF (.bl true)) (tupF [(bltF bInt [(binF (opEqD false) (varF 12) (binF opIx (varF 2) (conF (.int 1))))]), (conF (.int 1))]))])) (seqS (retS (tupF [(binF opAdd (varF 5) (tupF [(tupF [(binF opIx (varF 2) (conF (.int 2))), (binF opIx (varF 2) (conF (.int 3))), (varF 8)])])), (varF 6), (varF 7)])) nxS)) nxS) (seqS (ifS (binF (opEqD false) (varF 3) (conF (.str "pool"))) (seqS (retS (tupF [(callF "pooled" [(varF 5), (binF opIx (varF 2) (conF (.int 1))), (binF opIx (varF 2) (conF (.int 2)))]), (varF 6), (varF 7)])) nxS) nxS) (seqS (ifS (binF (opEqD false) (varF 3) (conF (.str "trade"))) (seqS (asgS (tupT [(nmT 5), (nmT 6), (nmT 7)]) (callF "done" [(varF 0), (varF 1), (binF opAdd (tupF [(conF (.str "swap"))]) (slcF opSl (varF 2) (some (conF (.int 2))) none))])) (seqS (retS (tupF [(varF 5), (varF 6), (binF opAdd (varF 7) (tupF [(binF opIx (varF 2) (conF (.int 1)))]))])) nxS)) nxS) (seqS (ifS (binF (opEqD false) (varF 3) (conF (.str "swap"))) (seqS (retS (tupF [(binF opAdd (callF "with_less" [(varF 5), (binF opIx (varF 2) (conF (.int 1))), (binF opIx (varF 2) (conF (.int 2)))]) (tupF [(tupF [(binF opIx (varF 2) (conF (.int 3))), (binF opIx (varF 2) (conF (.int 4))), (binF opIx (binF opIx (varF 5) (binF opIx (varF 2) (conF (.int 1)))) (conF (.int 2)))])])), (varF 6), (varF 7)])) nxS) nxS) (seqS (ifS (binF (opEqD false) (varF 3) (conF (.str "spoil"))) (seqS (retS (tupF [(callF "with_less" [(varF 5), (binF opIx (varF 2) (conF (.int 1))), (binF opIx (varF 2) (conF (.int 2)))]), (varF 6), (varF 7)])) nxS) nxS) (seqS (ifS (binF (opEqD false) (varF 3) (conF (.str "throw"))) (seqS (retS (callF "thrown" [(varF 0), (varF 1), (varF 2)])) nxS) nxS) (seqS (asgS (tupT [(nmT 9), (nmT 10), (nmT 11)]) (slcF opSl (varF 2) (some (conF (.int 1))) none)) (seqS (asgS (nmT 4) (bltF bTuple [(lcF (itE (varF 5)) (tupT [(nmT 13), (nmT 14), (nmT 15)]) [13, 14, 15] (conF (.bl true)) (tupF [(varF 13), (varF 14), (callF "sold_of" [(varF 15), (varF 9), (varF 10), (varF 11)])]))])) (seqS (retS (tupF [(varF 4), (callF "sold_of" [(varF 6), (varF 9), (varF 10), (varF 11)]), (varF 7)])) nxS)))))))))))
def R_done : FnRec := ⟨3, 16, F_done⟩
def F_begun : SF := (seqS (retS (tupF [(binF opIx (varF 0) (conF (.int 1))), (binF opIx (binF opIx (varF 0) (conF (.int 0))) (conF (.int 3))), (tupF [])])) nxS)
def R_begun : FnRec := ⟨1, 1, F_begun⟩
def F_wrong_in : SF := (seqS (asgS (nmT 1) (callF "begun" [(varF 0)])) (seqS (forS (itN (binF opIx (varF 0) (conF (.int 2)))) (tupT [(nmT 2), (nmT 3)]) (seqS (ifS (un1F opNot (callF "can_do" [(varF 1), (varF 3)])) (seqS (retS (varF 2)) nxS) nxS) (seqS (asgS (nmT 1) (callF "done" [(binF opIx (varF 0) (conF (.int 0))), (varF 1), (varF 3)])) nxS))) (seqS (retS (conF .non)) nxS)))
def R_wrong_in : FnRec := ⟨1, 4, F_wrong_in⟩
def F_first_wrong : SF := (seqS (retS (callF "wrong_in" [(varF 0)])) nxS)
def R_first_wrong : FnRec := ⟨1, 1, F_first_wrong⟩
def F__law_cell_at : SF := (seqS (ifS (binF opLt (varF 1) (bltF bLen [(varF 0)])) (seqS (retS (binF opIx (varF 0) (varF 1))) nxS) nxS) (seqS (retS (conF (.int 0))) nxS))
def R__law_cell_at : FnRec := ⟨2, 2, F__law_cell_at⟩
def F__law_pen : SF := (seqS (retS (lstF [(varF 0), (bltF bInt [(binF opGe (varF 0) (binF opPow (conF (.int 10)) (conF (.int 18))))]), (conF (.int 0)), (binF opMod (varF 0) (conF (.int 1000000007)))])) nxS)
def R__law_pen : FnRec := ⟨1, 1, F__law_pen⟩
def F__law_draw : SF := (seqS (ifS (andF (binF (opEqD false) (binF opIx (varF 0) (conF (.int 1))) (conF (.int 1))) (binF opGt (binF opIx (varF 0) (conF (.int 0))) (conF (.int 0)))) (seqS (asgS (nmT 3) (binF opMod (binF opIx (varF 0) (conF (.int 0))) (varF 1))) (seqS (setS (varF 0) (conF (.int 0)) (binF opFdiv (binF opIx (varF 0) (conF (.int 0))) (varF 1))) (seqS (retS (varF 3)) nxS))) nxS) (seqS (setS (varF 0) (conF (.int 2)) (binF opAdd (binF opIx (varF 0) (conF (.int 2))) (conF (.int 1)))) (seqS (asgS (nmT 2) (binF opMod (binF opMul (binF opAdd (binF opIx (varF 0) (conF (.int 3))) (conF (.int 17))) (binF opAdd (conF (.int 69621)) (binF opMul (conF (.int 2)) (binF opIx (varF 0) (conF (.int 2)))))) (conF (.int 2147483647)))) (seqS (asgS (nmT 2) (binF opMod (binF opAdd (binF opAdd (binF opMul (varF 2) (varF 2)) (binF opMul (conF (.int 40503)) (binF opIx (varF 0) (conF (.int 2))))) (conF (.int 5))) (conF (.int 2147483629)))) (seqS (retS (binF opMod (binF opFdiv (binF opMod (binF opMul (varF 2) (conF (.int 48271))) (conF (.int 2147483647))) (conF (.int 32))) (varF 1))) nxS)))))
def R__law_draw : FnRec := ⟨2, 4, F__law_draw⟩
def F__law_first_ones : SF := (seqS (asgS (nmT 1) (lstF [(bltF bLen [(lcF (itE (varF 0)) (nmT 2) [2] (un1F (opXis xcs "NoDeed") (varF 2)) (varF 2))])])) (seqS (expS (methF mAppend (varF 1) [(bltF bLen [(lcF (itE (varF 0)) (nmT 2) [2] (un1F (opXis xcs "NoFirst") (varF 2)) (varF 2))])])) (seqS (expS (methF mAppend (varF 1) [(bltF bLen [(lcF (itE (varF 0)) (nmT 2) [2] (un1F (opXis xcs "NoLoad") (varF 2)) (varF 2))])])) (seqS (expS (methF mAppend (varF 1) [(bltF bLen [(lcF (itE (varF 0)) (nmT 2) [2] (un1F (opXis xcs "NoNext") (varF 2)) (varF 2))])])) (seqS (expS (methF mAppend (varF 1) [(bltF bLen [(lcF (itE (varF 0)) (nmT 2) [2] (un1F (opXis xcs "NoNumber") (varF 2)) (varF 2))])])) (seqS (expS (methF mAppend (varF 1) [(bltF bLen [(lcF (itE (varF 0)) (nmT 2) [2] (un1F (opXis xcs "NoOrder") (varF 2)) (varF 2))])])) (seqS (expS (methF mAppend (varF 1) [(bltF bLen [(lcF (itE (varF 0)) (nmT 2) [2] (un1F (opXis xcs "NoPartner") (varF 2)) (varF 2))])])) (seqS (retS (binF opAdd (varF 1) (lstF [(bltF bLen [(lcF (itE (varF 0)) (nmT 2) [2] (un1F (opXis xcs "NoPrices") (varF 2)) (varF 2))])]))) nxS))))))))
def R__law_first_ones : FnRec := ⟨1, 3, F__law_first_ones⟩
def F__law_other_ones : SF := (seqS (asgS (nmT 1) (lstF [(bltF bLen [(lcF (itE (varF 0)) (nmT 2) [2] (un1F (opXis xcs "NoRow") (varF 2)) (varF 2))])])) (seqS (expS (methF mAppend (varF 1) [(bltF bLen [(lcF (itE (varF 0)) (nmT 2) [2] (un1F (opXis xcs "NoSale") (varF 2)) (varF 2))])])) (seqS (expS (methF mAppend (varF 1) [(bltF bLen [(lcF (itE (varF 0)) (nmT 2) [2] (un1F (opXis xcs "NoText") (varF 2)) (varF 2))])])) (seqS (expS (methF mAppend (varF 1) [(bltF bLen [(lcF (itE (varF 0)) (nmT 2) [2] (un1F (opXis xcs "NoThrow") (varF 2)) (varF 2))])])) (seqS (expS (methF mAppend (varF 1) [(bltF bLen [(lcF (itE (varF 0)) (nmT 2) [2] (un1F (opXis xcs "NoTrain") (varF 2)) (varF 2))])])) (seqS (expS (methF mAppend (varF 1) [(bltF bLen [(lcF (itE (varF 0)) (nmT 2) [2] (un1F (opXis xcs "NotDone") (varF 2)) (varF 2))])])) (seqS (expS (methF mAppend (varF 1) [(bltF bLen [(lcF (itE (varF 0)) (nmT 2) [2] (un1F (opXis xcs "NothingDone") (varF 2)) (varF 2))])])) (seqS (retS (binF opAdd (varF 1) (lstF [(bltF bLen [(lcF (itE (varF 0)) (nmT 2) [2] (un1F (opXis xcs "TooMany") (varF 2)) (varF 2))])]))) nxS))))))))
def R__law_other_ones : FnRec := ⟨1, 3, F__law_other_ones⟩
def F_law_b1 : SF := (seqS (asgS (nmT 3) (callF "_law_draw" [(callF "_law_pen" [(callF "_law_cell_at" [(varF 0), (varF 2)])]), (conF (.int 99))])) (seqS (asgS (nmT 4) (binF opAdd (varF 1) (lstF [(xcF "TooMany"), (un1F (opXat "NotDone") (varF 3))]))) (seqS (ifS (binF (opEqD true) (lcF (itE (varF 4)) (nmT 5) [5] (orF (un1F opNot (un1F (opXve xcs) (varF 5))) (un1F opNot (un1F (opXve xcs) (varF 5)))) (varF 5)) (lstF [])) (seqS (retS (conF (.bl false))) nxS) nxS) (seqS (ifS (orF (binF (opEqD true) (binF opAdd (callF "_law_first_ones" [(varF 4)]) (callF "_law_other_ones" [(varF 4)])) (binF opMul (lstF [(conF (.int 1))]) (conF (.int 16)))) (binF (opEqD true) (un1F (opXf xcs) (binF opIx (varF 4) (un1F opNeg (conF (.int 1))))) (varF 3))) (seqS (retS (conF (.bl false))) nxS) nxS) nxS))))
def F_law : SF := (seqS (asgS (nmT 1) (lstF [(xcF "NoDeed"), (xcF "NoFirst"), (xcF "NoLoad"), (xcF "NoNext"), (xcF "NoNumber"), (xcF "NoOrder"), (xcF "NoPartner")])) (seqS (asgS (nmT 1) (binF opAdd (varF 1) (lstF [(xcF "NoPrices"), (xcF "NoRow"), (xcF "NoSale"), (xcF "NoText"), (xcF "NoThrow"), (xcF "NoTrain"), (xcF "NothingDone")]))) (seqS (forS (it1F (bltF bMax [(conF (.int 1)), (bltF bMin [(bltF bLen [(varF 0)]), (conF (.int 3))])])) (nmT 2) F_law_b1) (seqS (retS (binF (opEqD false) (callF "first_wrong" [(tupF [(tupF [(conF (.int 1)), (conF (.int 1)), (conF (.int 1)), (tupF [(tupF [(conF (.int 1)), (conF (.int 1))])]), (conF (.int 0)), (conF (.int 0))]), (tupF []), (tupF [(tupF [(conF (.str "spoil")), (conF (.int 0)), (conF (.int 1))])])])]) (conF (.int 0)))) nxS))))
def R_law : FnRec := ⟨1, 6, F_law⟩
end VM
namespace VM
open PySem PySem.Spec PyProof.Rows L2
abbrev pw : PySem.Program := PySem.Challenge.pw_sharetrail_k42_refusals_stand_alone
def topS (i : Nat) : Stmt := pw.main.body.getD i (.Pass ⟨0, 0, 0, 0⟩)
def row_common : Row := ⟨"common", topS 2, ["one", "other"], ["one", "other"], R_common⟩
def row_made : Row := ⟨"made", topS 3, ["top", "bottom", "by"], ["top", "bottom"], R_made⟩
def row_plus : Row := ⟨"plus", topS 4, ["one", "other"], ["one", "other"], R_plus⟩
def row_less : Row := ⟨"less", topS 5, ["one", "other"], ["one", "other"], R_less⟩
def row_times : Row := ⟨"times", topS 6, ["one", "other"], ["one", "other"], R_times⟩
def row_so_many : Row := ⟨"so_many", topS 7, ["number", "amount"], ["number", "amount"], R_so_many⟩
def row_lies : Row := ⟨"lies", topS 27, ["loads", "load", "pieces"], ["loads", "load", "pieces"], R_lies⟩
def row_can_do : Row := ⟨"can_do", topS 28, ["state", "deed", "word", "loads", "holders", "numbers"], ["state", "deed"], R_can_do⟩
def row_with_less : Row := ⟨"with_less", topS 29, ["loads", "load", "pieces", "kind", "many", "owners"], ["loads", "load", "pieces"], R_with_less⟩
def row_pooled : Row := ⟨"pooled", topS 30, ["loads", "one", "other", "whole", "owners", "rest", "mine", "its", "share", "another", "both"], ["loads", "one", "other"], R_pooled⟩
def row_sold_of : Row := ⟨"sold_of", topS 31, ["shares", "partner", "other", "part", "passes", "found"], ["shares", "partner", "other", "part"], R_sold_of⟩
def row_borne_of : Row := ⟨"borne_of", topS 32, ["shares", "part", "owners", "kept", "share", "own"], ["shares", "part", "owners"], R_borne_of⟩
def row_worth_of : Row := ⟨"worth_of", topS 33, ["train", "loads", "worths", "load"], ["train", "loads", "worths"], R_worth_of⟩
def row_cost_in : Row := ⟨"cost_in", topS 34, ["train", "state", "deed", "loads"], ["train", "state", "deed"], R_cost_in⟩
def row_thrown : Row := ⟨"thrown", topS 35, ["train", "state", "deed", "rest", "loads", "holders", "numbers", "part", "owners", "kind", "pieces", "shares"], ["train", "state", "deed"], R_thrown⟩
def row_done : Row := ⟨"done", topS 36, ["train", "state", "deed", "word", "sold", "loads", "holders", "numbers", "owners", "partner", "other", "part", "one", "kind", "pieces", "shares"], ["train", "state", "deed"], R_done⟩
def row_begun : Row := ⟨"begun", topS 37, ["book"], ["book"], R_begun⟩
def row_wrong_in : Row := ⟨"wrong_in", topS 38, ["book", "state", "at", "deed"], ["book"], R_wrong_in⟩
def row_first_wrong : Row := ⟨"first_wrong", topS 39, ["book"], ["book"], R_first_wrong⟩
def row__law_cell_at : Row := ⟨"_law_cell_at", topS 41, ["_law_script", "_law_k"], ["_law_script", "_law_k"], R__law_cell_at⟩
def row__law_pen : Row := ⟨"_law_pen", topS 42, ["_law_cell"], ["_law_cell"], R__law_pen⟩
def row__law_draw : Row := ⟨"_law_draw", topS 43, ["_law_pen_here", "_law_bound", "_law_stir", "_law_found"], ["_law_pen_here", "_law_bound"], R__law_draw⟩
def row__law_first_ones : Row := ⟨"_law_first_ones", topS 44, ["_law_row", "_law_found", "_law_one"], ["_law_row"], R__law_first_ones⟩
def row__law_other_ones : Row := ⟨"_law_other_ones", topS 45, ["_law_row", "_law_found", "_law_one"], ["_law_row"], R__law_other_ones⟩
def row_law : Row := ⟨"law", topS 46, ["_law_script", "_law_row", "_law_k", "_law_number", "_law_some", "_law_one"], ["_law_script"], R_law⟩
def frsq0 : List Row := [row_common, row_made, row_plus, row_less, row_times, row_so_many, row_lies, row_can_do, row_with_less, row_pooled, row_sold_of, row_borne_of, row_worth_of, row_cost_in, row_thrown, row_done, row_begun, row_wrong_in, row_first_wrong, row__law_cell_at]
def frsq1 : List Row := [row__law_pen, row__law_draw, row__law_first_ones, row__law_other_ones, row_law]
def frsq : List Row := frsq0 ++ frsq1
def hrs : List HRow := []
def lams : List Str := []
def rows : List Row := frsq ++ hrs.map (·.r)
def ms : List MRow := []
def fs : List Str := ["!", "NoDeed", "NoFirst", "NoLoad", "NoNext", "NoNumber", "NoOrder", "NoPartner", "NoPrices", "NoRow", "NoSale", "NoText", "NoThrow", "NoTrain", "NotDone", "NothingDone", "TooMany"]
def os : List (Str × GV) := [("!", .xcs xcs)]
def names0 : List (Str × Nat) := [("common", 2), ("made", 2), ("plus", 2), ("less", 2), ("times", 2), ("so_many", 2), ("lies", 3), ("can_do", 2), ("with_less", 3), ("pooled", 3), ("sold_of", 4), ("borne_of", 3), ("worth_of", 3), ("cost_in", 3), ("thrown", 3), ("done", 3), ("begun", 1), ("wrong_in", 1), ("first_wrong", 1), ("_law_cell_at", 2)]
def names1 : List (Str × Nat) := [("_law_pen", 1), ("_law_draw", 2), ("_law_first_ones", 1), ("_law_other_ones", 1), ("law", 1)]
def names : List (Str × Nat) := names0 ++ names1
def cons : List (Str × CV) := [("ALL", .d (.tup [(.int 1), (.int 1)]))]
def blts : List Str := ["abs", "enumerate", "int", "isinstance", "len", "list", "max", "min", "range", "sum", "tuple", "zip"]
def ex0 : List Str := ["NoDeed", "NoFirst", "NoLoad", "NoNext", "NoNumber", "NoOrder", "NoPartner", "NoPrices", "NoRow", "NoSale", "NoText", "NoThrow", "NoTrain", "NothingDone", "TooMany"]
def inis : List IniD := [⟨"NotDone", "TrailError", "NotDone.__init__", clsStmt (topS 10) 0⟩]
def fz : Facts0 := ⟨rows, cons, blts, ex0, inis, ms, fs⟩
def lawIx : Nat := 46
def viewIx : List Nat := [lawIx]
def loose0 : List PySem.Str := ["__name__", "ALL", "common", "made", "plus", "less", "times", "so_many", "TrailError", "NotDone", "NoNumber", "NoLoad", "NoPartner", "NoPrices", "NoThrow", "NoSale", "NoOrder", "NoTrain", "NoFirst", "NoDeed"]
def loose1 : List PySem.Str := ["NoNext", "NothingDone", "TooMany", "NoText", "NoRow", "lies", "can_do", "with_less", "pooled", "sold_of", "borne_of", "worth_of", "cost_in", "thrown", "done", "begun", "wrong_in", "first_wrong", "_law_cell_at", "_law_pen"]
def loose2 : List PySem.Str := ["_law_draw", "_law_first_ones", "_law_other_ones"]
def loose : List PySem.Str := loose0 ++ loose1 ++ loose2
abbrev Rw : PySem.W.OpenRow := PySem.W.OpenLaw.row PySem.Challenge.rw_sharetrail_k42_refusals_stand_alone
abbrev hk : PySem.W.Hook := hookL 5 fz lams
def ob (s : PySem.W.SharedT) : AlL := obsLG 5 fz lams (HandSHeadRun.getT s)
theorem ob_eq (s : PySem.W.SharedT) : ob s = hk.obs s.abs := obsLG_eq (HandSHeadRun.getT_eq s)
theorem run (w : World) : HandSHeadRun.RunEq Rw (PySem.W.view Rw.prog viewIx) hk ob 40000 loose w := by
  intro os
  kernel_rfl
theorem recs_ok : ∀ x ∈ lams, ∃ d, (recsOf (PySem.W.view Rw.prog viewIx)).find? (fun e => e.name == x) = some d := fun x hx =>
  Option.isSome_iff_exists.mp (List.all_eq_true.mp (show (lams.all fun x => ((recsOf (PySem.W.view Rw.prog viewIx)).find? (fun e => e.name == x)).isSome) = true by kernel_rfl) x hx)
end VM
set_option maxRecDepth 100000
set_option maxHeartbeats 1000000
namespace VM
open PySem PySem.Spec PyProof.Rows L2

class HasT where
  T : List (Addr × Str)
  C : Str → Addr
  F : List Str
variable [HasT]
/-! what a value of ours is over there -/
/-- an exception of the class at C, with its place -/
def ExH (H : Hp) (C a : Addr) : Option Int → Prop
  | none => H a = some (ExO (.ref C) a)
  | some i => ∃ (d : Addr) (fs : List (Str × V)), H a = some (exo a C (some d)) ∧ H d = some (exd d fs) ∧ fs.lookup ("at" : Str) = some (V.int i)
theorem ExH.keep {H H' : Hp} {C a : Addr} {o : Option Int} (e : ExH H C a o) (k : ∀ b φ, H b = some (.ext φ) → H' b = some (.ext φ)) : ExH H' C a o := by
  cases o with
  | none => exact k _ _ e
  | some i =>
    obtain ⟨d, fs, h1, h2, h3⟩ := e
    exact ⟨d, fs, k _ _ h1, k _ _ h2, h3⟩
mutual
inductive Rel (K : PySem.W.Frag) (L : List Addr) (H : Hp) : D → V → Prop
  | non : Rel K L H .non .non
  | bl (b : Bool) : Rel K L H (.bl b) (.bl b)
  | int (i : Int) : Rel K L H (.int i) (.int i)
  | str (s : Str) : Rel K L H (.str s) (.str s)
  | tup {ds : List D} {a : Addr} {xs : List V} : SqT K H a xs → Rels K L H ds xs → Rel K L H (.tup ds) (.ref a)
  | ref {i : Nat} {a : Addr} : L[i]? = some a → Rel K L H (.ref i) (.ref a)
  | fn (s : Str) : Rel K L H (.fn s) (.ref (HasT.C s))
  | exn {c : Str} {o : Option Int} {a : Addr} : ExH H (HasT.C c) a o → Rel K L H (.exn c o) (.ref a)
inductive Rels (K : PySem.W.Frag) (L : List Addr) (H : Hp) : List D → List V → Prop
  | nil : Rels K L H [] []
  | cons {d : D} {ds : List D} {v : V} {vs : List V} : Rel K L H d v → Rels K L H ds vs → Rels K L H (d :: ds) (v :: vs)
end
def LE (L L' : List Addr) : Prop := ∀ (i : Nat) (a : Addr), L[i]? = some a → L'[i]? = some a
theorem LE.refl (L : List Addr) : LE L L := fun _ _ h => h
theorem LE.trans {L L1 L2 : List Addr} (a : LE L L1) (b : LE L1 L2) : LE L L2 := fun i x h => b i x (a i x h)
theorem LE.app (L M : List Addr) : LE L (L ++ M) := fun i a h => by
  have hi : i < L.length := (List.getElem?_eq_some_iff.mp h).1
  rw [List.getElem?_append_left hi]; exact h
structure Keep (K : PySem.W.Frag) (H H' : Hp) : Prop where
  tup : ∀ a xs, SqT K H a xs → SqT K H' a xs
  frz : ∀ a o u, H a = some (.frz o u) → H' a = some (.frz o u)
  ext : ∀ a φ, H a = some (.ext φ) → H' a = some (.ext φ)
theorem Keep.refl {K : PySem.W.Frag} (H : Hp) : Keep K H H := ⟨fun _ _ h => h, fun _ _ _ h => h, fun _ _ h => h⟩
theorem Keep.trans {K : PySem.W.Frag} {H H1 H2 : Hp} (a : Keep K H H1) (b : Keep K H1 H2) : Keep K H H2 :=
  ⟨fun x xs h => b.tup x xs (a.tup x xs h), fun x o u h => b.frz x o u (a.frz x o u h), fun x φ h => b.ext x φ (a.ext x φ h)⟩
theorem Keep.new {K : PySem.W.Frag} {H : Hp} {p : Addr} {o : HO} (h : H p = none) : Keep K H (upd H p o) := by
  refine ⟨fun a xs q => ?_, fun a ob u q => ?_, fun a φ q => by rw [upd_ne (ne_of_none q h)]; exact q⟩
  · rcases q with (q | ⟨ob, q⟩) | q
    · exact .inl (.inl (by rw [upd_ne (ne_of_none q h)]; exact q))
    · exact .inl (.inr ⟨ob, by rw [upd_ne (ne_of_none q h)]; exact q⟩)
    · exact .inr q
  · rw [upd_ne (ne_of_none q h)]; exact q
theorem Keep.setL {K : PySem.W.Frag} {H : Hp} {p : Addr} {xs ys : List V} (h : H p = some (.lst xs)) : Keep K H (upd H p (.lst ys)) := by
  refine ⟨fun a zs q => ?_, fun a ob u q => ?_, fun a φ q => by rw [upd_ne (ne_of q h (by intro z; cases z))]; exact q⟩
  · rcases q with (q | ⟨ob, q⟩) | q
    · exact .inl (.inl (by rw [upd_ne (ne_of q h (by intro z; cases z))]; exact q))
    · exact .inl (.inr ⟨ob, by rw [upd_ne (ne_of q h (by intro z; cases z))]; exact q⟩)
    · exact .inr q
  · rw [upd_ne (ne_of q h (by intro z; cases z))]; exact q
theorem Keep.setD {K : PySem.W.Frag} {H : Hp} {p : Addr} {xs ys : List (Key × V)} (h : H p = some (.dK xs)) : Keep K H (upd H p (.dK ys)) := by
  refine ⟨fun a zs q => ?_, fun a ob u q => ?_, fun a φ q => by rw [upd_ne (ne_of q h (by intro z; cases z))]; exact q⟩
  · rcases q with (q | ⟨ob, q⟩) | q
    · exact .inl (.inl (by rw [upd_ne (ne_of q h (by intro z; cases z))]; exact q))
    · exact .inl (.inr ⟨ob, by rw [upd_ne (ne_of q h (by intro z; cases z))]; exact q⟩)
    · exact .inr q
  · rw [upd_ne (ne_of q h (by intro z; cases z))]; exact q
section
variable {K : PySem.W.Frag} {L L' : List Addr} {H H' : Hp}
mutual
theorem Rel.mono (le : LE L L') (kp : Keep K H H') : ∀ {d : D} {v : V}, Rel K L H d v → Rel K L' H' d v
  | _, _, .non => .non
  | _, _, .bl b => .bl b
  | _, _, .int i => .int i
  | _, _, .str s => .str s
  | _, _, .tup h r => .tup (kp.tup _ _ h) (Rels.mono le kp r)
  | _, _, .ref h => .ref (le _ _ h)
  | _, _, .fn s => .fn s
  | _, _, .exn e => .exn (e.keep kp.ext)
theorem Rels.mono (le : LE L L') (kp : Keep K H H') : ∀ {ds : List D} {vs : List V}, Rels K L H ds vs → Rels K L' H' ds vs
  | _, _, .nil => .nil
  | _, _, .cons r t => .cons (Rel.mono le kp r) (Rels.mono le kp t)
end
theorem Rels.len : ∀ {ds : List D} {vs : List V}, Rels K L H ds vs → ds.length = vs.length
  | _, _, .nil => rfl
  | _, _, .cons _ t => congrArg Nat.succ t.len
theorem Rels.get : ∀ {ds : List D} {vs : List V} {i : Nat} {d : D}, Rels K L H ds vs → ds[i]? = some d → ∃ v, vs[i]? = some v ∧ Rel K L H d v
  | _, _, _, _, .nil, e => by simp at e
  | _, _, 0, _, .cons r _, e => by simp at e; subst e; exact ⟨_, rfl, r⟩
  | _, _, i + 1, _, .cons _ t, e => by simpa using t.get (by simpa using e)
theorem Rels.getV : ∀ {ds : List D} {vs : List V} {i : Nat} {v : V}, Rels K L H ds vs → vs[i]? = some v → ∃ d, ds[i]? = some d ∧ Rel K L H d v
  | _, _, _, _, .nil, e => by simp at e
  | _, _, 0, _, .cons r _, e => by simp at e; subst e; exact ⟨_, rfl, r⟩
  | _, _, i + 1, _, .cons _ t, e => by simpa using t.getV (by simpa using e)
theorem Rels.app : ∀ {ds : List D} {vs : List V} {es : List D} {us : List V}, Rels K L H ds vs → Rels K L H es us → Rels K L H (ds ++ es) (vs ++ us)
  | _, _, _, _, .nil, s => s
  | _, _, _, _, .cons r t, s => .cons r (t.app s)
theorem Rels.set {d : D} {v : V} (r : Rel K L H d v) : ∀ {ds : List D} {vs : List V} (i : Nat), Rels K L H ds vs → Rels K L H (ds.set i d) (vs.set i v)
  | _, _, _, .nil => .nil
  | _, _, 0, .cons _ t => .cons r t
  | _, _, i + 1, .cons q t => .cons q (t.set r i)
theorem Rels.take : ∀ {ds : List D} {vs : List V} (n : Nat), Rels K L H ds vs → Rels K L H (ds.take n) (vs.take n)
  | _, _, 0, _ => .nil
  | _, _, _ + 1, .nil => .nil
  | _, _, n + 1, .cons r t => .cons r (t.take n)
theorem Rels.drop : ∀ {ds : List D} {vs : List V} (n : Nat), Rels K L H ds vs → Rels K L H (ds.drop n) (vs.drop n)
  | _, _, 0, r => r
  | _, _, _ + 1, .nil => .nil
  | _, _, n + 1, .cons _ t => t.drop n
theorem Rels.erase : ∀ {ds : List D} {vs : List V} (i : Nat), Rels K L H ds vs → Rels K L H (ds.eraseIdx i) (vs.eraseIdx i)
  | _, _, _, .nil => by simpa using Rels.nil
  | _, _, 0, .cons r t => by simpa using t
  | _, _, i + 1, .cons r t => by simpa using Rels.cons r (Rels.erase i t)
theorem Rels.ints (f : Nat → Int) : ∀ ns : List Nat, Rels K L H (ns.map fun i => .int (f i)) (ns.map fun i => V.int (f i))
  | [] => .nil
  | n :: ns => .cons (.int _) (Rels.ints f ns)
theorem Rels.rev : ∀ {ds : List D} {vs : List V}, Rels K L H ds vs → Rels K L H ds.reverse vs.reverse
  | _, _, .nil => .nil
  | _, _, .cons r t => by rw [List.reverse_cons, List.reverse_cons]; exact t.rev.app (.cons r .nil)
theorem Rels.rep {ds : List D} {vs : List V} (r : Rels K L H ds vs) : ∀ k : Nat, Rels K L H (List.replicate k ds).flatten (List.replicate k vs).flatten
  | 0 => .nil
  | k + 1 => by rw [List.replicate_succ, List.replicate_succ, List.flatten_cons, List.flatten_cons]; exact r.app (r.rep k)
theorem Rels.cut {ds : List D} {vs : List V} (r : Rels K L H ds vs) (lo hi : Option Int) : Rels K L H (cutD ds lo hi) (cutV vs lo hi) := by
  unfold cutD cutV
  rw [r.len]
  exact (r.drop _).take _
end
/-- the script: read, never written -/
def RoL (K : PySem.W.Frag) (H : Hp) (a : Addr) (xs : List V) : Prop := (∃ o, H a = some (.frz o (.lst xs))) ∨
  ∃ (o : Obj) (its : Array Value) (n : Nat), K.lookup a = some o ∧ o.cls = .type "list" ∧ o.dict = none ∧ o.data = .seq its n ∧ its.size ≤ sizeLine ∧ Vals xs its.toList
theorem RoL.seq {K : PySem.W.Frag} {H : Hp} {a : Addr} {xs : List V} (h : RoL K H a xs) : SqL K H a xs := by
  rcases h with ⟨o, h⟩ | h
  · exact .inl (.inr ⟨o, h⟩)
  · exact .inr h
theorem RoL.keep {K : PySem.W.Frag} {H H' : Hp} {a : Addr} {xs : List V} (kp : Keep K H H') (h : RoL K H a xs) : RoL K H' a xs := by
  rcases h with ⟨o, h⟩ | h
  · exact .inl ⟨o, kp.frz _ _ _ h⟩
  · exact .inr h
/-- a dict: the same keys, in the same order -/
def KRs (K : PySem.W.Frag) (L : List Addr) (H : Hp) (kvs : List (DKey × D)) (us : List (Key × V)) : Prop := kvs.map (·.1) = us.map (·.1) ∧ Rels K L H (kvs.map (·.2)) (us.map (·.2))
theorem KRs.mono {K : PySem.W.Frag} {L L' : List Addr} {H H' : Hp} {kvs : List (DKey × D)} {us : List (Key × V)} (r : KRs K L H kvs us) (le : LE L L') (kp : Keep K H H') : KRs K L' H' kvs us := ⟨r.1, r.2.mono le kp⟩
theorem KRs.len {K : PySem.W.Frag} {L : List Addr} {H : Hp} {kvs : List (DKey × D)} {us : List (Key × V)} (r : KRs K L H kvs us) : kvs.length = us.length := by
  have := congrArg List.length r.1
  simpa using this
theorem KRs.nil {K : PySem.W.Frag} {L : List Addr} {H : Hp} : KRs K L H [] [] := ⟨rfl, .nil⟩
theorem KRs.cons {K : PySem.W.Frag} {L : List Addr} {H : Hp} {k : DKey} {d : D} {v : V} {kvs : List (DKey × D)} {us : List (Key × V)} (r : Rel K L H d v) (t : KRs K L H kvs us) : KRs K L H ((k, d) :: kvs) ((k, v) :: us) := ⟨by simp only [List.map_cons]; rw [t.1], .cons r t.2⟩
theorem KRs.get {K : PySem.W.Frag} {L : List Addr} {H : Hp} (k : DKey) : ∀ {kvs : List (DKey × D)} {us : List (Key × V)}, KRs K L H kvs us → (getD_ kvs k = none ∧ valV us k = none) ∨ ∃ d v, getD_ kvs k = some d ∧ valV us k = some v ∧ Rel K L H d v
  | [], [], _ => .inl ⟨rfl, rfl⟩
  | [], q :: us, r => by have := r.len; simp at this
  | p :: kvs, [], r => by have := r.len; simp at this
  | (a, d) :: kvs, (b, v) :: us, r => by
    obtain ⟨e, r⟩ := r
    simp only [List.map_cons, List.cons.injEq] at e r
    obtain ⟨rfl, e⟩ := e
    cases r with
    | cons r t =>
      by_cases h : a = k
      · exact .inr ⟨d, v, by simp [getD_, h], by simp [valV, h], r⟩
      · have ih := KRs.get k (kvs := kvs) (us := us) ⟨e, t⟩
        have e1 : getD_ ((a, d) :: kvs) k = getD_ kvs k := by simp [getD_, h]
        have e2 : valV ((a, v) :: us) k = valV us k := by simp [valV, h]
        rw [e1, e2]
        exact ih
theorem KRs.any {K : PySem.W.Frag} {L : List Addr} {H : Hp} (k : DKey) : ∀ {kvs : List (DKey × D)} {us : List (Key × V)}, KRs K L H kvs us → (kvs.any fun kv => decide (kv.1 = k)) = us.any fun kv => decide (kv.1 = k)
  | [], [], _ => rfl
  | [], q :: us, r => by have := r.len; simp at this
  | p :: kvs, [], r => by have := r.len; simp at this
  | (a, d) :: kvs, (b, v) :: us, r => by
    obtain ⟨e, r⟩ := r
    simp only [List.map_cons, List.cons.injEq] at e r
    obtain ⟨rfl, e⟩ := e
    cases r with
    | cons r t => rw [List.any_cons, List.any_cons, KRs.any k (kvs := kvs) (us := us) ⟨e, t⟩]
theorem KRs.app {K : PySem.W.Frag} {L : List Addr} {H : Hp} {kvs lvs : List (DKey × D)} {us ws : List (Key × V)} (r : KRs K L H kvs us) (t : KRs K L H lvs ws) : KRs K L H (kvs ++ lvs) (us ++ ws) :=
  ⟨by rw [List.map_append, List.map_append, r.1, t.1], by rw [List.map_append, List.map_append]; exact r.2.app t.2⟩
theorem KRs.repl {K : PySem.W.Frag} {L : List Addr} {H : Hp} (k : DKey) {d : D} {v : V} (q : Rel K L H d v) : ∀ {kvs : List (DKey × D)} {us : List (Key × V)}, KRs K L H kvs us →
    KRs K L H (kvs.map fun kv => if kv.1 = k then (kv.1, d) else kv) (us.map fun kv => if kv.1 = k then (kv.1, v) else kv)
  | [], [], _ => KRs.nil
  | [], q :: us, r => by have := r.len; simp at this
  | p :: kvs, [], r => by have := r.len; simp at this
  | (a, e) :: kvs, (b, u) :: us, r => by
    obtain ⟨ek, r⟩ := r
    simp only [List.map_cons, List.cons.injEq] at ek r
    obtain ⟨rfl, ek⟩ := ek
    cases r with
    | cons r t =>
      have ih := KRs.repl k q (kvs := kvs) (us := us) ⟨ek, t⟩
      rw [List.map_cons, List.map_cons]
      by_cases h : a = k
      · simp only [h, if_true]; exact KRs.cons q ih
      · simp only [h, if_false]; exact KRs.cons r ih
theorem KRs.put {K : PySem.W.Frag} {L : List Addr} {H : Hp} (k : DKey) {d : D} {v : V} (q : Rel K L H d v) {kvs : List (DKey × D)} {us : List (Key × V)} (r : KRs K L H kvs us) : KRs K L H (putD_ kvs k d) (putK us k v) := by
  unfold putD_ putK
  rw [r.any k]
  split
  · exact r.repl k q
  · exact r.app (KRs.cons q KRs.nil)
/-- the tables of code objects that lambdas ask for -/
theorem tabs_new {T : List (Addr × Str)} {H : Hp} {p : Addr} {o : HO} (t : LamX.Tabs T H) (n : H p = none) : LamX.Tabs T (upd H p o) := t.ext fun b u e => by rw [upd_ne (ne_of_none e n)]; exact e
theorem tabs_set {T : List (Addr × Str)} {H : Hp} {p : Addr} {o u0 : HO} (t : LamX.Tabs T H) (e0 : H p = some u0) (n1 : ∀ ps, u0 ≠ .tbl ps) (n2 : ∀ c q, u0 ≠ LamX.CodeO c q) : LamX.Tabs T (upd H p o) := fun x hx => by
  obtain ⟨ps, h1, h2, h3⟩ := t x hx
  refine ⟨ps, ?_, h2, fun pos cv hc => ?_⟩
  · rw [upd_ne (fun z => by rw [z, e0] at h1; exact n1 ps (Option.some.inj h1))]; exact h1
  · obtain ⟨c, e1, e2⟩ := h3 pos cv hc
    exact ⟨c, e1, by rw [upd_ne (fun z => by rw [z, e0] at e2; exact n2 _ _ (Option.some.inj e2))]; exact e2⟩
/-- an object's fields: the same names, in the same order -/
def FRs (K : PySem.W.Frag) (L : List Addr) (H : Hp) (fs : List (Str × D)) (us : List (Str × V)) : Prop := fs.map (·.1) = us.map (·.1) ∧ Rels K L H (fs.map (·.2)) (us.map (·.2))
theorem FRs.mono {K : PySem.W.Frag} {L L' : List Addr} {H H' : Hp} {fs : List (Str × D)} {us : List (Str × V)} (r : FRs K L H fs us) (le : LE L L') (kp : Keep K H H') : FRs K L' H' fs us := ⟨r.1, r.2.mono le kp⟩
theorem FRs.len {K : PySem.W.Frag} {L : List Addr} {H : Hp} {fs : List (Str × D)} {us : List (Str × V)} (r : FRs K L H fs us) : fs.length = us.length := by
  have := congrArg List.length r.1
  simpa using this
theorem FRs.nil {K : PySem.W.Frag} {L : List Addr} {H : Hp} : FRs K L H [] [] := ⟨rfl, .nil⟩
theorem FRs.uncons {K : PySem.W.Frag} {L : List Addr} {H : Hp} {f g : Str} {d : D} {v : V} {fs : List (Str × D)} {us : List (Str × V)} (r : FRs K L H ((f, d) :: fs) ((g, v) :: us)) : f = g ∧ Rel K L H d v ∧ FRs K L H fs us := by
  obtain ⟨e, r⟩ := r
  simp only [List.map_cons, List.cons.injEq] at e r
  cases r with
  | cons r t => exact ⟨e.1, r, e.2, t⟩
theorem FRs.cons {K : PySem.W.Frag} {L : List Addr} {H : Hp} {f : Str} {d : D} {v : V} {fs : List (Str × D)} {us : List (Str × V)} (r : Rel K L H d v) (t : FRs K L H fs us) : FRs K L H ((f, d) :: fs) ((f, v) :: us) := ⟨by simp only [List.map_cons]; rw [t.1], .cons r t.2⟩
theorem FRs.get {K : PySem.W.Frag} {L : List Addr} {H : Hp} (f : Str) : ∀ {fs : List (Str × D)} {us : List (Str × V)}, FRs K L H fs us → (fs.lookup f = none ∧ us.lookup f = none) ∨ ∃ d v, fs.lookup f = some d ∧ us.lookup f = some v ∧ Rel K L H d v
  | [], [], _ => .inl ⟨rfl, rfl⟩
  | [], q :: us, r => by have := r.len; simp at this
  | p :: fs, [], r => by have := r.len; simp at this
  | (a, d) :: fs, (b, v) :: us, r => by
    obtain ⟨rfl, r, t⟩ := r.uncons
    rw [List.lookup_cons, List.lookup_cons]
    cases q : (f == a) with
    | true => exact .inr ⟨d, v, rfl, rfl, r⟩
    | false => exact FRs.get f t
theorem FRs.put {K : PySem.W.Frag} {L : List Addr} {H : Hp} (f : Str) {d : D} {v : V} (q : Rel K L H d v) : ∀ {fs : List (Str × D)} {us : List (Str × V)}, FRs K L H fs us → FRs K L H (putO f d fs) (putF f v us)
  | [], [], _ => FRs.cons q FRs.nil
  | [], q :: us, r => by have := r.len; simp at this
  | p :: fs, [], r => by have := r.len; simp at this
  | (a, d) :: fs, (b, v) :: us, r => by
    obtain ⟨rfl, r, t⟩ := r.uncons
    unfold putO putF
    by_cases h : a = f
    · rw [if_pos h, if_pos h]; exact FRs.cons q t
    · rw [if_neg h, if_neg h]; exact FRs.cons r (FRs.put f q t)
/-- objects of ours over there -/
structure ObR (K : PySem.W.Frag) (L : List Addr) (H : Hp) (h : Hv) : Prop where
  obj : ∀ (i : Nat) (a : Addr) (c : Str) (fs : List (Str × D)), h[i]? = some (Ob.obj c fs) → L[i]? = some a → (∃ dx us, H a = some (.ins (HasT.C c) dx us) ∧ FRs K L H fs us) ∧ Cls K (HasT.C c) ∧ ∀ f ∈ HasT.F, NoAttr K (HasT.C c) f
  inj : ∀ (i j : Nat) (a : Addr) (c c' : Str) (fs fs' : List (Str × D)), h[i]? = some (Ob.obj c fs) → h[j]? = some (Ob.obj c' fs') → L[i]? = some a → L[j]? = some a → i = j
theorem ObR.keep {K : PySem.W.Frag} {L L' : List Addr} {H H' : Hp} {h h' : Hv} (o : ObR K L H h) (hs : ∀ (i : Nat) (c : Str) (fs : List (Str × D)), h'[i]? = some (Ob.obj c fs) → h[i]? = some (Ob.obj c fs) ∧ ∀ a, L'[i]? = some a → L[i]? = some a) (hH : ∀ a C dx us, H a = some (.ins C dx us) → H' a = some (.ins C dx us))
    (rm : ∀ fs us, FRs K L H fs us → FRs K L' H' fs us) : ObR K L' H' h' := by
  refine ⟨fun i a c fs e1 e2 => ?_, fun i j a c c' fs fs' e1 e2 e3 e4 => ?_⟩
  · obtain ⟨f1, f2⟩ := hs i c fs e1
    obtain ⟨⟨dx, us, q, r⟩, cl, na⟩ := o.obj i a c fs f1 (f2 a e2)
    exact ⟨⟨dx, us, hH _ _ _ _ q, rm _ _ r⟩, cl, na⟩
  · obtain ⟨f1, f2⟩ := hs i c fs e1
    obtain ⟨g1, g2⟩ := hs j c' fs' e2
    exact o.inj i j a c c' fs fs' f1 g1 (f2 a e3) (g2 a e4)
/-- behind a new thing that is no object -/
theorem ob_app {L : List Addr} {h : Hv} {ob : Ob} {p : Addr} (hl : L.length = h.length) (no : ∀ c fs, ob ≠ Ob.obj c fs) : ∀ (i : Nat) (c : Str) (fs : List (Str × D)), (h ++ [ob])[i]? = some (Ob.obj c fs) → h[i]? = some (Ob.obj c fs) ∧ ∀ a, (L ++ [p])[i]? = some a → L[i]? = some a := fun i c fs e => by
  by_cases hi : i < h.length
  · rw [List.getElem?_append_left hi] at e
    exact ⟨e, fun a q => by rw [List.getElem?_append_left (by rw [hl]; exact hi)] at q; exact q⟩
  · have e2 : i < h.length + 1 := by have := (List.getElem?_eq_some_iff.mp e).1; simpa using this
    have e3 : i = h.length := by omega
    subst e3
    simp at e
    exact (no _ _ e).elim
/-- .. in the place of another one -/
theorem ob_set {L : List Addr} {h : Hv} {ob : Ob} {k : Nat} (no : ∀ c fs, ob ≠ Ob.obj c fs) : ∀ (i : Nat) (c : Str) (fs : List (Str × D)), (h.set k ob)[i]? = some (Ob.obj c fs) → h[i]? = some (Ob.obj c fs) ∧ ∀ a, L[i]? = some a → L[i]? = some a := fun i c fs e => by
  by_cases hj : i = k
  · subst hj
    have hi : i < h.length := by have := (List.getElem?_eq_some_iff.mp e).1; simpa using this
    rw [List.getElem?_set_self hi] at e
    exact (no _ _ (Option.some.inj e)).elim
  · rw [List.getElem?_set_ne (Ne.symm hj)] at e
    exact ⟨e, fun a q => q⟩
structure HR (K : PySem.W.Frag) (L : List Addr) (H : Hp) (h : Hv) : Prop where
  len : L.length = h.length
  lst : ∀ (i : Nat) (a : Addr) (ds : List D), h[i]? = some (Ob.lst ds) → L[i]? = some a → ∃ xs, H a = some (.lst xs) ∧ Rels K L H ds xs
  ro : ∀ (i : Nat) (a : Addr) (ds : List D), h[i]? = some (Ob.ro ds) → L[i]? = some a → ∃ xs, RoL K H a xs ∧ Rels K L H ds xs
  inj : ∀ (i j : Nat) (a : Addr) (ds es : List D), h[i]? = some (Ob.lst ds) → h[j]? = some (Ob.lst es) → L[i]? = some a → L[j]? = some a → i = j
  dct : ∀ (i : Nat) (a : Addr) (kvs : List (DKey × D)), h[i]? = some (Ob.dct kvs) → L[i]? = some a → ∃ us, H a = some (.dK us) ∧ KRs K L H kvs us
  injD : ∀ (i j : Nat) (a : Addr) (ds es : List (DKey × D)), h[i]? = some (Ob.dct ds) → h[j]? = some (Ob.dct es) → L[i]? = some a → L[j]? = some a → i = j
  tb : LamX.Tabs HasT.T H
  rod : ∀ (i : Nat) (a : Addr) (kvs : List (DKey × D)), h[i]? = some (Ob.rod kvs) → L[i]? = some a → ∃ od us, H a = some (.frz od (.dK us)) ∧ KRs K L H kvs us
  injR : ∀ (i j : Nat) (a : Addr) (ds es : List (DKey × D)), h[i]? = some (Ob.rod ds) → h[j]? = some (Ob.rod es) → L[i]? = some a → L[j]? = some a → i = j
  oj : ObR K L H h
section
variable {K : PySem.W.Frag} {L L' : List Addr} {H H' : Hp} {h h' : Hv}
theorem HR.addr (hr : HR K L H h) {i : Nat} {o : Ob} (e : h[i]? = some o) : ∃ a, L[i]? = some a := by
  have hi : i < h.length := (List.getElem?_eq_some_iff.mp e).1
  exact ⟨_, List.getElem?_eq_getElem (by rw [hr.len]; exact hi)⟩
theorem HR.ob (hr : HR K L H h) {i : Nat} {a : Addr} (e : L[i]? = some a) : ∃ o, h[i]? = some o := by
  have hi : i < L.length := (List.getElem?_eq_some_iff.mp e).1
  exact ⟨_, List.getElem?_eq_getElem (by rw [← hr.len]; exact hi)⟩
/-- something new that is no list of ours -/
theorem HR.new {p : Addr} {o : HO} (hr : HR K L H h) (n : H p = none) : HR K L (upd H p o) h := by
  have kp : Keep K H (upd H p o) := Keep.new n
  refine ⟨hr.len, fun i a ds e1 e2 => ?_, fun i a ds e1 e2 => ?_, hr.inj, fun i a ds e1 e2 => ?_, hr.injD, tabs_new hr.tb n, fun i a ds e1 e2 => (let ⟨od, us, q, r⟩ := hr.rod i a ds e1 e2; ⟨od, us, kp.frz _ _ _ q, r.mono (LE.refl L) kp⟩), hr.injR, hr.oj.keep (fun i c fs e => ⟨e, fun a q => q⟩) (fun a C dx us q => by rw [upd_ne (ne_of_none q n)]; exact q) (fun _ _ r => r.mono (LE.refl L) kp)⟩
  · obtain ⟨xs, q, r⟩ := hr.lst i a ds e1 e2
    exact ⟨xs, by rw [upd_ne (ne_of_none q n)]; exact q, r.mono (LE.refl L) kp⟩
  · obtain ⟨xs, q, r⟩ := hr.ro i a ds e1 e2
    exact ⟨xs, q.keep kp, r.mono (LE.refl L) kp⟩
  · obtain ⟨xs, q, r⟩ := hr.dct i a ds e1 e2
    exact ⟨xs, by rw [upd_ne (ne_of_none q n)]; exact q, r.mono (LE.refl L) kp⟩
theorem HR.alloc {p : Addr} {ds : List D} {xs : List V} (hr : HR K L H h) (n : H p = none) (r : Rels K L H ds xs) : HR K (L ++ [p]) (upd H p (.lst xs)) (h ++ [.lst ds]) := by
  have kp : Keep K H (upd H p (.lst xs)) := Keep.new n
  have le := LE.app L [p]
  have old : ∀ {i : Nat} {o : Ob}, (h ++ [.lst ds])[i]? = some o → (i < h.length ∧ h[i]? = some o) ∨ (i = h.length ∧ o = .lst ds) := fun {i o} e => by
    by_cases hi : i < h.length
    · rw [List.getElem?_append_left hi] at e; exact .inl ⟨hi, e⟩
    · have e2 : i < h.length + 1 := by have := (List.getElem?_eq_some_iff.mp e).1; simpa using this
      have e3 : i = h.length := by omega
      subst e3
      simp at e
      exact .inr ⟨rfl, e.symm⟩
  have oldL : ∀ {i : Nat} {a : Addr}, i < h.length → (L ++ [p])[i]? = some a → L[i]? = some a := fun {i a} hi e => by
    rw [List.getElem?_append_left (by rw [hr.len]; exact hi)] at e; exact e
  have newL : ∀ {a : Addr}, (L ++ [p])[h.length]? = some a → a = p := fun {a} e => by
    rw [← hr.len] at e; simp at e; exact e.symm
  refine ⟨by simp [hr.len], fun i a es e1 e2 => ?_, fun i a es e1 e2 => ?_, fun i j a es fs e1 e2 e3 e4 => ?_, fun i a es e1 e2 => ?_, fun i j a es fs e1 e2 e3 e4 => ?_, tabs_new hr.tb n, (fun i a es e1 e2 => by
    rcases old e1 with ⟨hi, e1⟩ | ⟨rfl, e9⟩
    · obtain ⟨od, ys, q, s⟩ := hr.rod i a es e1 (oldL hi e2)
      exact ⟨od, ys, kp.frz _ _ _ q, s.mono le kp⟩
    · cases e9), (fun i j a es fs e1 e2 e3 e4 => by
    rcases old e1 with ⟨hi, e1⟩ | ⟨rfl, e9⟩
    · rcases old e2 with ⟨hj, e2⟩ | ⟨rfl, e9⟩
      · exact hr.injR i j a es fs e1 e2 (oldL hi e3) (oldL hj e4)
      · cases e9
    · cases e9), hr.oj.keep (ob_app hr.len (fun _ _ z => by cases z)) (fun a C dx us q => by rw [upd_ne (ne_of_none q n)]; exact q) (fun _ _ r => r.mono le kp)⟩
  rotate_left 3
  · rcases old e1 with ⟨hi, e1⟩ | ⟨rfl, e9⟩
    · obtain ⟨ys, q, s⟩ := hr.dct i a es e1 (oldL hi e2)
      exact ⟨ys, by rw [upd_ne (ne_of_none q n)]; exact q, s.mono le kp⟩
    · cases e9
  · rcases old e1 with ⟨hi, e1⟩ | ⟨rfl, e9⟩
    · rcases old e2 with ⟨hj, e2⟩ | ⟨rfl, e9⟩
      · exact hr.injD i j a es fs e1 e2 (oldL hi e3) (oldL hj e4)
      · cases e9
    · cases e9
  · rcases old e1 with ⟨hi, e1⟩ | ⟨rfl, e9⟩
    · obtain ⟨ys, q, s⟩ := hr.lst i a es e1 (oldL hi e2)
      exact ⟨ys, by rw [upd_ne (ne_of_none q n)]; exact q, s.mono le kp⟩
    · cases e9
      obtain rfl := newL e2
      exact ⟨xs, upd_same, r.mono le kp⟩
  · rcases old e1 with ⟨hi, e1⟩ | ⟨rfl, e9⟩
    · obtain ⟨ys, q, s⟩ := hr.ro i a es e1 (oldL hi e2)
      exact ⟨ys, q.keep kp, s.mono le kp⟩
    · cases e9
  · rcases old e1 with ⟨hi, e1⟩ | ⟨rfl, e9⟩
    · rcases old e2 with ⟨hj, e2⟩ | ⟨rfl, e9⟩
      · exact hr.inj i j a es fs e1 e2 (oldL hi e3) (oldL hj e4)
      · obtain rfl := newL e4
        obtain ⟨ys, q, s⟩ := hr.lst i _ es e1 (oldL hi e3)
        rw [n] at q; cases q
    · rcases old e2 with ⟨hj, e2⟩ | ⟨rfl, e9⟩
      · obtain rfl := newL e3
        obtain ⟨ys, q, s⟩ := hr.lst j _ fs e2 (oldL hj e4)
        rw [n] at q; cases q
      · rfl
theorem HR.set {i : Nat} {a : Addr} {ds0 ds : List D} {xs : List V} (hr : HR K L H h) (e : h[i]? = some (.lst ds0)) (ea : L[i]? = some a) (r : Rels K L H ds xs) : HR K L (upd H a (.lst xs)) (h.set i (.lst ds)) := by
  obtain ⟨xs0, q0, r0⟩ := hr.lst i a ds0 e ea
  have kp : Keep K H (upd H a (.lst xs)) := Keep.setL q0
  have hi : i < h.length := (List.getElem?_eq_some_iff.mp e).1
  have old : ∀ {j : Nat} {o : Ob}, (h.set i (.lst ds))[j]? = some o → (j ≠ i ∧ h[j]? = some o) ∨ (j = i ∧ o = .lst ds) := fun {j o} e => by
    by_cases hj : j = i
    · subst hj
      rw [List.getElem?_set_self hi] at e
      exact .inr ⟨rfl, (Option.some.inj e).symm⟩
    · rw [List.getElem?_set_ne (Ne.symm hj)] at e
      exact .inl ⟨hj, e⟩
  refine ⟨by rw [List.length_set]; exact hr.len, fun j b es e1 e2 => ?_, fun j b es e1 e2 => ?_, fun j k b es fs e1 e2 e3 e4 => ?_, fun j b es e1 e2 => ?_, fun j k b es fs e1 e2 e3 e4 => ?_, tabs_set hr.tb q0 (fun _ z => by cases z) (fun _ _ z => by unfold LamX.CodeO at z; cases z), (fun j b es e1 e2 => by
    rcases old e1 with ⟨hj, e1⟩ | ⟨rfl, e9⟩
    · obtain ⟨od, ys, q, s⟩ := hr.rod j b es e1 e2
      exact ⟨od, ys, kp.frz _ _ _ q, s.mono (LE.refl L) kp⟩
    · cases e9), (fun j k b es fs e1 e2 e3 e4 => by
    rcases old e1 with ⟨hj, e1⟩ | ⟨rfl, e9⟩
    · rcases old e2 with ⟨hk, e2⟩ | ⟨rfl, e9⟩
      · exact hr.injR j k b es fs e1 e2 e3 e4
      · cases e9
    · cases e9), hr.oj.keep (ob_set (fun _ _ z => by cases z)) (fun a2 C dx us q => by rw [upd_ne (ne_of q q0 (by intro z; cases z))]; exact q) (fun _ _ r => r.mono (LE.refl L) kp)⟩
  rotate_left 3
  · rcases old e1 with ⟨hj, e1⟩ | ⟨rfl, e9⟩
    · obtain ⟨ys, q, s⟩ := hr.dct j b es e1 e2
      exact ⟨ys, by rw [upd_ne (ne_of q q0 (by intro z; cases z))]; exact q, s.mono (LE.refl L) kp⟩
    · cases e9
  · rcases old e1 with ⟨hj, e1⟩ | ⟨rfl, e9⟩
    · rcases old e2 with ⟨hk, e2⟩ | ⟨rfl, e9⟩
      · exact hr.injD j k b es fs e1 e2 e3 e4
      · cases e9
    · cases e9
  · rcases old e1 with ⟨hj, e1⟩ | ⟨rfl, e9⟩
    · obtain ⟨ys, q, s⟩ := hr.lst j b es e1 e2
      have hb : b ≠ a := fun z => by subst z; exact hj (hr.inj j i b es ds0 e1 e e2 ea)
      exact ⟨ys, by rw [upd_ne hb]; exact q, s.mono (LE.refl L) kp⟩
    · cases e9
      rw [ea] at e2; cases e2
      exact ⟨xs, upd_same, r.mono (LE.refl L) kp⟩
  · rcases old e1 with ⟨hj, e1⟩ | ⟨rfl, e9⟩
    · obtain ⟨ys, q, s⟩ := hr.ro j b es e1 e2
      exact ⟨ys, q.keep kp, s.mono (LE.refl L) kp⟩
    · cases e9
  · have l1 : ∃ es', h[j]? = some (.lst es') := by
      rcases old e1 with ⟨_, e1⟩ | ⟨rfl, _⟩
      · exact ⟨es, e1⟩
      · exact ⟨ds0, e⟩
    have l2 : ∃ es', h[k]? = some (.lst es') := by
      rcases old e2 with ⟨_, e2⟩ | ⟨rfl, _⟩
      · exact ⟨fs, e2⟩
      · exact ⟨ds0, e⟩
    obtain ⟨es', l1⟩ := l1
    obtain ⟨fs', l2⟩ := l2
    exact hr.inj j k b es' fs' l1 l2 e3 e4
end
section
variable {K : PySem.W.Frag} {L L' : List Addr} {H H' : Hp} {h h' : Hv}
theorem HR.allocD {p : Addr} {ds : List (DKey × D)} {xs : List (Key × V)} (hr : HR K L H h) (n : H p = none) (r : KRs K L H ds xs) : HR K (L ++ [p]) (upd H p (.dK xs)) (h ++ [.dct ds]) := by
  have kp : Keep K H (upd H p (.dK xs)) := Keep.new n
  have le := LE.app L [p]
  have old : ∀ {i : Nat} {o : Ob}, (h ++ [.dct ds])[i]? = some o → (i < h.length ∧ h[i]? = some o) ∨ (i = h.length ∧ o = .dct ds) := fun {i o} e => by
    by_cases hi : i < h.length
    · rw [List.getElem?_append_left hi] at e; exact .inl ⟨hi, e⟩
    · have e2 : i < h.length + 1 := by have := (List.getElem?_eq_some_iff.mp e).1; simpa using this
      have e3 : i = h.length := by omega
      subst e3
      simp at e
      exact .inr ⟨rfl, e.symm⟩
  have oldL : ∀ {i : Nat} {a : Addr}, i < h.length → (L ++ [p])[i]? = some a → L[i]? = some a := fun {i a} hi e => by
    rw [List.getElem?_append_left (by rw [hr.len]; exact hi)] at e; exact e
  have newL : ∀ {a : Addr}, (L ++ [p])[h.length]? = some a → a = p := fun {a} e => by
    rw [← hr.len] at e; simp at e; exact e.symm
  refine ⟨by simp [hr.len], fun i a es e1 e2 => ?_, fun i a es e1 e2 => ?_, fun i j a es fs e1 e2 e3 e4 => ?_, fun i a es e1 e2 => ?_, fun i j a es fs e1 e2 e3 e4 => ?_, tabs_new hr.tb n, (fun i a es e1 e2 => by
    rcases old e1 with ⟨hi, e1⟩ | ⟨rfl, e9⟩
    · obtain ⟨od, ys, q, s⟩ := hr.rod i a es e1 (oldL hi e2)
      exact ⟨od, ys, kp.frz _ _ _ q, s.mono le kp⟩
    · cases e9), (fun i j a es fs e1 e2 e3 e4 => by
    rcases old e1 with ⟨hi, e1⟩ | ⟨rfl, e9⟩
    · rcases old e2 with ⟨hj, e2⟩ | ⟨rfl, e9⟩
      · exact hr.injR i j a es fs e1 e2 (oldL hi e3) (oldL hj e4)
      · cases e9
    · cases e9), hr.oj.keep (ob_app hr.len (fun _ _ z => by cases z)) (fun a C dx us q => by rw [upd_ne (ne_of_none q n)]; exact q) (fun _ _ r => r.mono le kp)⟩
  · rcases old e1 with ⟨hi, e1⟩ | ⟨rfl, e9⟩
    · obtain ⟨ys, q, s⟩ := hr.lst i a es e1 (oldL hi e2)
      exact ⟨ys, by rw [upd_ne (ne_of_none q n)]; exact q, s.mono le kp⟩
    · cases e9
  · rcases old e1 with ⟨hi, e1⟩ | ⟨rfl, e9⟩
    · obtain ⟨ys, q, s⟩ := hr.ro i a es e1 (oldL hi e2)
      exact ⟨ys, q.keep kp, s.mono le kp⟩
    · cases e9
  · rcases old e1 with ⟨hi, e1⟩ | ⟨rfl, e9⟩
    · rcases old e2 with ⟨hj, e2⟩ | ⟨rfl, e9⟩
      · exact hr.inj i j a es fs e1 e2 (oldL hi e3) (oldL hj e4)
      · cases e9
    · cases e9
  · rcases old e1 with ⟨hi, e1⟩ | ⟨rfl, e9⟩
    · obtain ⟨ys, q, s⟩ := hr.dct i a es e1 (oldL hi e2)
      exact ⟨ys, by rw [upd_ne (ne_of_none q n)]; exact q, s.mono le kp⟩
    · cases e9
      obtain rfl := newL e2
      exact ⟨xs, upd_same, r.mono le kp⟩
  · rcases old e1 with ⟨hi, e1⟩ | ⟨rfl, e9⟩
    · rcases old e2 with ⟨hj, e2⟩ | ⟨rfl, e9⟩
      · exact hr.injD i j a es fs e1 e2 (oldL hi e3) (oldL hj e4)
      · obtain rfl := newL e4
        obtain ⟨ys, q, s⟩ := hr.dct i _ es e1 (oldL hi e3)
        rw [n] at q; cases q
    · rcases old e2 with ⟨hj, e2⟩ | ⟨rfl, e9⟩
      · obtain rfl := newL e3
        obtain ⟨ys, q, s⟩ := hr.dct j _ fs e2 (oldL hj e4)
        rw [n] at q; cases q
      · rfl
theorem HR.setD {i : Nat} {a : Addr} {ds0 ds : List (DKey × D)} {xs : List (Key × V)} (hr : HR K L H h) (e : h[i]? = some (.dct ds0)) (ea : L[i]? = some a) (r : KRs K L H ds xs) : HR K L (upd H a (.dK xs)) (h.set i (.dct ds)) := by
  obtain ⟨xs0, q0, r0⟩ := hr.dct i a ds0 e ea
  have kp : Keep K H (upd H a (.dK xs)) := Keep.setD q0
  have hi : i < h.length := (List.getElem?_eq_some_iff.mp e).1
  have old : ∀ {j : Nat} {o : Ob}, (h.set i (.dct ds))[j]? = some o → (j ≠ i ∧ h[j]? = some o) ∨ (j = i ∧ o = .dct ds) := fun {j o} e => by
    by_cases hj : j = i
    · subst hj
      rw [List.getElem?_set_self hi] at e
      exact .inr ⟨rfl, (Option.some.inj e).symm⟩
    · rw [List.getElem?_set_ne (Ne.symm hj)] at e
      exact .inl ⟨hj, e⟩
  refine ⟨by rw [List.length_set]; exact hr.len, fun j b es e1 e2 => ?_, fun j b es e1 e2 => ?_, fun j k b es fs e1 e2 e3 e4 => ?_, fun j b es e1 e2 => ?_, fun j k b es fs e1 e2 e3 e4 => ?_, tabs_set hr.tb q0 (fun _ z => by cases z) (fun _ _ z => by unfold LamX.CodeO at z; cases z), (fun j b es e1 e2 => by
    rcases old e1 with ⟨hj, e1⟩ | ⟨rfl, e9⟩
    · obtain ⟨od, ys, q, s⟩ := hr.rod j b es e1 e2
      exact ⟨od, ys, kp.frz _ _ _ q, s.mono (LE.refl L) kp⟩
    · cases e9), (fun j k b es fs e1 e2 e3 e4 => by
    rcases old e1 with ⟨hj, e1⟩ | ⟨rfl, e9⟩
    · rcases old e2 with ⟨hk, e2⟩ | ⟨rfl, e9⟩
      · exact hr.injR j k b es fs e1 e2 e3 e4
      · cases e9
    · cases e9), hr.oj.keep (ob_set (fun _ _ z => by cases z)) (fun a2 C dx us q => by rw [upd_ne (ne_of q q0 (by intro z; cases z))]; exact q) (fun _ _ r => r.mono (LE.refl L) kp)⟩
  · rcases old e1 with ⟨hj, e1⟩ | ⟨rfl, e9⟩
    · obtain ⟨ys, q, s⟩ := hr.lst j b es e1 e2
      exact ⟨ys, by rw [upd_ne (ne_of q q0 (by intro z; cases z))]; exact q, s.mono (LE.refl L) kp⟩
    · cases e9
  · rcases old e1 with ⟨hj, e1⟩ | ⟨rfl, e9⟩
    · obtain ⟨ys, q, s⟩ := hr.ro j b es e1 e2
      exact ⟨ys, q.keep kp, s.mono (LE.refl L) kp⟩
    · cases e9
  · rcases old e1 with ⟨hj, e1⟩ | ⟨rfl, e9⟩
    · rcases old e2 with ⟨hk, e2⟩ | ⟨rfl, e9⟩
      · exact hr.inj j k b es fs e1 e2 e3 e4
      · cases e9
    · cases e9
  · rcases old e1 with ⟨hj, e1⟩ | ⟨rfl, e9⟩
    · obtain ⟨ys, q, s⟩ := hr.dct j b es e1 e2
      have hb : b ≠ a := fun z => by subst z; exact hj (hr.injD j i b es ds0 e1 e e2 ea)
      exact ⟨ys, by rw [upd_ne hb]; exact q, s.mono (LE.refl L) kp⟩
    · cases e9
      rw [ea] at e2; cases e2
      exact ⟨xs, upd_same, r.mono (LE.refl L) kp⟩
  · have l1 : ∃ es', h[j]? = some (.dct es') := by
      rcases old e1 with ⟨_, e1⟩ | ⟨rfl, _⟩
      · exact ⟨es, e1⟩
      · exact ⟨ds0, e⟩
    have l2 : ∃ es', h[k]? = some (.dct es') := by
      rcases old e2 with ⟨_, e2⟩ | ⟨rfl, _⟩
      · exact ⟨fs, e2⟩
      · exact ⟨ds0, e⟩
    obtain ⟨es', l1⟩ := l1
    obtain ⟨fs', l2⟩ := l2
    exact hr.injD j k b es' fs' l1 l2 e3 e4
theorem Keep.setO {K : PySem.W.Frag} {H : Hp} {p C C' dx dx' : Addr} {xs ys : List (Str × V)} (h : H p = some (.ins C dx xs)) : Keep K H (upd H p (.ins C' dx' ys)) := by
  refine ⟨fun a zs q => ?_, fun a ob u q => ?_, fun a φ q => by rw [upd_ne (ne_of q h (by intro z; cases z))]; exact q⟩
  · rcases q with (q | ⟨ob, q⟩) | q
    · exact .inl (.inl (by rw [upd_ne (ne_of q h (by intro z; cases z))]; exact q))
    · exact .inl (.inr ⟨ob, by rw [upd_ne (ne_of q h (by intro z; cases z))]; exact q⟩)
    · exact .inr q
  · rw [upd_ne (ne_of q h (by intro z; cases z))]; exact q
/-- a new object -/
theorem HR.appO {p dx : Addr} {c : Str} {fs : List (Str × D)} {us : List (Str × V)} (hr : HR K L H h) (e0 : H p = some (.ins (HasT.C c) dx us)) (r : FRs K L H fs us) (cl : Cls K (HasT.C c)) (na : ∀ f ∈ HasT.F, NoAttr K (HasT.C c) f)
    (fr : ∀ (i : Nat) (c' : Str) (fs' : List (Str × D)), h[i]? = some (.obj c' fs') → L[i]? = some p → False) : HR K (L ++ [p]) H (h ++ [.obj c fs]) := by
  have le := LE.app L [p]
  have kp : Keep K H H := Keep.refl H
  have old : ∀ {i : Nat} {o : Ob}, (h ++ [.obj c fs])[i]? = some o → (i < h.length ∧ h[i]? = some o) ∨ (i = h.length ∧ o = .obj c fs) := fun {i o} e => by
    by_cases hi : i < h.length
    · rw [List.getElem?_append_left hi] at e; exact .inl ⟨hi, e⟩
    · have e2 : i < h.length + 1 := by have := (List.getElem?_eq_some_iff.mp e).1; simpa using this
      have e3 : i = h.length := by omega
      subst e3
      simp at e
      exact .inr ⟨rfl, e.symm⟩
  have oldL : ∀ {i : Nat} {a : Addr}, i < h.length → (L ++ [p])[i]? = some a → L[i]? = some a := fun {i a} hi e => by
    rw [List.getElem?_append_left (by rw [hr.len]; exact hi)] at e; exact e
  have newL : ∀ {a : Addr}, (L ++ [p])[h.length]? = some a → a = p := fun {a} e => by
    rw [← hr.len] at e; simp at e; exact e.symm
  refine ⟨by simp [hr.len], fun i a es e1 e2 => ?_, fun i a es e1 e2 => ?_, fun i j a es fs e1 e2 e3 e4 => ?_, fun i a es e1 e2 => ?_, fun i j a es fs e1 e2 e3 e4 => ?_, hr.tb, fun i a es e1 e2 => ?_, fun i j a es fs e1 e2 e3 e4 => ?_, fun i a c' es e1 e2 => ?_, fun i j a c1 c2 es fs e1 e2 e3 e4 => ?_⟩
  · rcases old e1 with ⟨hi, e1⟩ | ⟨rfl, e9⟩
    · obtain ⟨ys, q, s⟩ := hr.lst i a es e1 (oldL hi e2)
      exact ⟨ys, q, s.mono le kp⟩
    · cases e9
  · rcases old e1 with ⟨hi, e1⟩ | ⟨rfl, e9⟩
    · obtain ⟨ys, q, s⟩ := hr.ro i a es e1 (oldL hi e2)
      exact ⟨ys, q, s.mono le kp⟩
    · cases e9
  · rcases old e1 with ⟨hi, e1⟩ | ⟨rfl, e9⟩
    · rcases old e2 with ⟨hj, e2⟩ | ⟨rfl, e9⟩
      · exact hr.inj i j a es fs e1 e2 (oldL hi e3) (oldL hj e4)
      · cases e9
    · cases e9
  · rcases old e1 with ⟨hi, e1⟩ | ⟨rfl, e9⟩
    · obtain ⟨ys, q, s⟩ := hr.dct i a es e1 (oldL hi e2)
      exact ⟨ys, q, s.mono le kp⟩
    · cases e9
  · rcases old e1 with ⟨hi, e1⟩ | ⟨rfl, e9⟩
    · rcases old e2 with ⟨hj, e2⟩ | ⟨rfl, e9⟩
      · exact hr.injD i j a es fs e1 e2 (oldL hi e3) (oldL hj e4)
      · cases e9
    · cases e9
  · rcases old e1 with ⟨hi, e1⟩ | ⟨rfl, e9⟩
    · obtain ⟨od, ys, q, s⟩ := hr.rod i a es e1 (oldL hi e2)
      exact ⟨od, ys, q, s.mono le kp⟩
    · cases e9
  · rcases old e1 with ⟨hi, e1⟩ | ⟨rfl, e9⟩
    · rcases old e2 with ⟨hj, e2⟩ | ⟨rfl, e9⟩
      · exact hr.injR i j a es fs e1 e2 (oldL hi e3) (oldL hj e4)
      · cases e9
    · cases e9
  · rcases old e1 with ⟨hi, e1⟩ | ⟨rfl, e9⟩
    · obtain ⟨⟨dx', ys, q, s⟩, t⟩ := hr.oj.obj i a c' es e1 (oldL hi e2)
      exact ⟨⟨dx', ys, q, s.mono le kp⟩, t⟩
    · cases e9
      obtain rfl := newL e2
      exact ⟨⟨dx, us, e0, r.mono le kp⟩, cl, na⟩
  · rcases old e1 with ⟨hi, e1⟩ | ⟨rfl, e9⟩
    · rcases old e2 with ⟨hj, e2⟩ | ⟨rfl, e9⟩
      · exact hr.oj.inj i j a c1 c2 es fs e1 e2 (oldL hi e3) (oldL hj e4)
      · obtain rfl := newL e4
        exact (fr i c1 es e1 (oldL hi e3)).elim
    · rcases old e2 with ⟨hj, e2⟩ | ⟨rfl, e9⟩
      · obtain rfl := newL e3
        exact (fr j c2 fs e2 (oldL hj e4)).elim
      · rfl
/-- another field -/
theorem HR.setO {i : Nat} {a dx : Addr} {c : Str} {fs0 fs : List (Str × D)} {us0 us : List (Str × V)} (hr : HR K L H h) (e : h[i]? = some (.obj c fs0)) (ea : L[i]? = some a) (q0 : H a = some (.ins (HasT.C c) dx us0)) (r : FRs K L H fs us) : HR K L (upd H a (.ins (HasT.C c) dx us)) (h.set i (.obj c fs)) := by
  have kp : Keep K H (upd H a (.ins (HasT.C c) dx us)) := Keep.setO q0
  have hi : i < h.length := (List.getElem?_eq_some_iff.mp e).1
  have old : ∀ {j : Nat} {o : Ob}, (h.set i (.obj c fs))[j]? = some o → (j ≠ i ∧ h[j]? = some o) ∨ (j = i ∧ o = .obj c fs) := fun {j o} e => by
    by_cases hj : j = i
    · subst hj
      rw [List.getElem?_set_self hi] at e
      exact .inr ⟨rfl, (Option.some.inj e).symm⟩
    · rw [List.getElem?_set_ne (Ne.symm hj)] at e
      exact .inl ⟨hj, e⟩
  refine ⟨by rw [List.length_set]; exact hr.len, fun j b es e1 e2 => ?_, fun j b es e1 e2 => ?_, fun j k b es fs e1 e2 e3 e4 => ?_, fun j b es e1 e2 => ?_, fun j k b es fs e1 e2 e3 e4 => ?_, tabs_set hr.tb q0 (fun _ z => by cases z) (fun _ _ z => by unfold LamX.CodeO at z; cases z), fun j b es e1 e2 => ?_, fun j k b es fs e1 e2 e3 e4 => ?_, fun j b c' es e1 e2 => ?_, fun j k b c1 c2 es fs e1 e2 e3 e4 => ?_⟩
  · rcases old e1 with ⟨hj, e1⟩ | ⟨rfl, e9⟩
    · obtain ⟨ys, q, s⟩ := hr.lst j b es e1 e2
      exact ⟨ys, by rw [upd_ne (ne_of q q0 (by intro z; cases z))]; exact q, s.mono (LE.refl L) kp⟩
    · cases e9
  · rcases old e1 with ⟨hj, e1⟩ | ⟨rfl, e9⟩
    · obtain ⟨ys, q, s⟩ := hr.ro j b es e1 e2
      exact ⟨ys, q.keep kp, s.mono (LE.refl L) kp⟩
    · cases e9
  · rcases old e1 with ⟨hj, e1⟩ | ⟨rfl, e9⟩
    · rcases old e2 with ⟨hk, e2⟩ | ⟨rfl, e9⟩
      · exact hr.inj j k b es fs e1 e2 e3 e4
      · cases e9
    · cases e9
  · rcases old e1 with ⟨hj, e1⟩ | ⟨rfl, e9⟩
    · obtain ⟨ys, q, s⟩ := hr.dct j b es e1 e2
      exact ⟨ys, by rw [upd_ne (ne_of q q0 (by intro z; cases z))]; exact q, s.mono (LE.refl L) kp⟩
    · cases e9
  · rcases old e1 with ⟨hj, e1⟩ | ⟨rfl, e9⟩
    · rcases old e2 with ⟨hk, e2⟩ | ⟨rfl, e9⟩
      · exact hr.injD j k b es fs e1 e2 e3 e4
      · cases e9
    · cases e9
  · rcases old e1 with ⟨hj, e1⟩ | ⟨rfl, e9⟩
    · obtain ⟨od, ys, q, s⟩ := hr.rod j b es e1 e2
      exact ⟨od, ys, kp.frz _ _ _ q, s.mono (LE.refl L) kp⟩
    · cases e9
  · rcases old e1 with ⟨hj, e1⟩ | ⟨rfl, e9⟩
    · rcases old e2 with ⟨hk, e2⟩ | ⟨rfl, e9⟩
      · exact hr.injR j k b es fs e1 e2 e3 e4
      · cases e9
    · cases e9
  · rcases old e1 with ⟨hj, e1⟩ | ⟨rfl, e9⟩
    · obtain ⟨⟨dx', ys, q, s⟩, t⟩ := hr.oj.obj j b c' es e1 e2
      have hb : b ≠ a := fun z => by subst z; exact hj (hr.oj.inj j i b c' c es fs0 e1 e e2 ea)
      exact ⟨⟨dx', ys, by rw [upd_ne hb]; exact q, s.mono (LE.refl L) kp⟩, t⟩
    · cases e9
      rw [ea] at e2; cases e2
      exact ⟨⟨dx, us, upd_same, r.mono (LE.refl L) kp⟩, (hr.oj.obj _ _ _ _ e ea).2⟩
  · have l1 : ∃ c' es', h[j]? = some (.obj c' es') := by
      rcases old e1 with ⟨_, e1⟩ | ⟨rfl, _⟩
      · exact ⟨_, _, e1⟩
      · exact ⟨_, _, e⟩
    have l2 : ∃ c' es', h[k]? = some (.obj c' es') := by
      rcases old e2 with ⟨_, e2⟩ | ⟨rfl, _⟩
      · exact ⟨_, _, e2⟩
      · exact ⟨_, _, e⟩
    obtain ⟨_, es', l1⟩ := l1
    obtain ⟨_, fs', l2⟩ := l2
    exact hr.oj.inj j k b _ _ es' fs' l1 l2 e3 e4
end
/-! a dict locked while it is walked -/
theorem Keep.lockD {K : PySem.W.Frag} {H : Hp} {p : Addr} {o : Obj} {us : List (Key × V)} (h : H p = some (.dK us)) : Keep K H (upd H p (.frz o (.dK us))) := by
  refine ⟨fun a zs q => ?_, fun a ob u q => ?_, fun a φ q => by rw [upd_ne (ne_of q h (by intro z; cases z))]; exact q⟩
  · rcases q with (q | ⟨ob, q⟩) | q
    · exact .inl (.inl (by rw [upd_ne (ne_of q h (by intro z; cases z))]; exact q))
    · exact .inl (.inr ⟨ob, by rw [upd_ne (ne_of q h (by intro z; cases z))]; exact q⟩)
    · exact .inr q
  · rw [upd_ne (ne_of q h (by intro z; cases z))]; exact q
section
variable {K : PySem.W.Frag} {L L' : List Addr} {H H' : Hp} {h h' : Hv}
structure KT (K : PySem.W.Frag) (H H' : Hp) : Prop where
  tup : ∀ b xs, SqT K H b xs → SqT K H' b xs
  ext : ∀ b φ, H b = some (.ext φ) → H' b = some (.ext φ)
/-- tuples stay when the lock goes -/
theorem unlock_tup {a : Addr} {o : Obj} {us : List (Key × V)} (q0 : H a = some (.frz o (.dK us))) : KT K H (upd H a (.dK us)) := by
  refine ⟨fun b xs q => ?_, fun b φ q => by rw [upd_ne (ne_of q q0 (by intro z; cases z))]; exact q⟩
  rcases q with (q | ⟨ob, q⟩) | q
  · exact .inl (.inl (by rw [upd_ne (ne_of q q0 (by intro z; cases z))]; exact q))
  · exact .inl (.inr ⟨ob, by rw [upd_ne (ne_of q q0 (by intro z; cases z))]; exact q⟩)
  · exact .inr q
mutual
theorem Rel.monoT (le : LE L L') (kp : KT K H H') : ∀ {d : D} {v : V}, Rel K L H d v → Rel K L' H' d v
  | _, _, .non => .non
  | _, _, .bl b => .bl b
  | _, _, .int i => .int i
  | _, _, .str s => .str s
  | _, _, .tup h r => .tup (kp.tup _ _ h) (Rels.monoT le kp r)
  | _, _, .ref h => .ref (le _ _ h)
  | _, _, .fn s => .fn s
  | _, _, .exn e => .exn (e.keep kp.ext)
theorem Rels.monoT (le : LE L L') (kp : KT K H H') : ∀ {ds : List D} {vs : List V}, Rels K L H ds vs → Rels K L' H' ds vs
  | _, _, .nil => .nil
  | _, _, .cons r t => .cons (Rel.monoT le kp r) (Rels.monoT le kp t)
end
theorem HR.lock {p : Nat} {a : Addr} {kvs : List (DKey × D)} {us : List (Key × V)} {o : Obj} (hr : HR K L H h) (e : h[p]? = some (.dct kvs)) (ea : L[p]? = some a) (q0 : H a = some (.dK us)) (r0 : KRs K L H kvs us) :
    HR K L (upd H a (.frz o (.dK us))) (h.set p (.rod kvs)) := by
  have kp : Keep K H (upd H a (.frz o (.dK us))) := Keep.lockD q0
  have hi : p < h.length := (List.getElem?_eq_some_iff.mp e).1
  have old : ∀ {j : Nat} {ob : Ob}, (h.set p (.rod kvs))[j]? = some ob → (j ≠ p ∧ h[j]? = some ob) ∨ (j = p ∧ ob = .rod kvs) := fun {j ob} e => by
    by_cases hj : j = p
    · subst hj
      rw [List.getElem?_set_self hi] at e
      exact .inr ⟨rfl, (Option.some.inj e).symm⟩
    · rw [List.getElem?_set_ne (Ne.symm hj)] at e
      exact .inl ⟨hj, e⟩
  refine ⟨by rw [List.length_set]; exact hr.len, fun j b es e1 e2 => ?_, fun j b es e1 e2 => ?_, fun j k b es fs e1 e2 e3 e4 => ?_, fun j b es e1 e2 => ?_, fun j k b es fs e1 e2 e3 e4 => ?_, tabs_set hr.tb q0 (fun _ z => by cases z) (fun _ _ z => by unfold LamX.CodeO at z; cases z), fun j b es e1 e2 => ?_, fun j k b es fs e1 e2 e3 e4 => ?_, hr.oj.keep (ob_set (fun _ _ z => by cases z)) (fun a2 C dx us q => by rw [upd_ne (ne_of q q0 (by intro z; cases z))]; exact q) (fun _ _ r => r.mono (LE.refl L) kp)⟩
  · rcases old e1 with ⟨hj, e1⟩ | ⟨rfl, e9⟩
    · obtain ⟨ys, q, s⟩ := hr.lst j b es e1 e2
      exact ⟨ys, by rw [upd_ne (ne_of q q0 (by intro z; cases z))]; exact q, s.mono (LE.refl L) kp⟩
    · cases e9
  · rcases old e1 with ⟨hj, e1⟩ | ⟨rfl, e9⟩
    · obtain ⟨ys, q, s⟩ := hr.ro j b es e1 e2
      exact ⟨ys, q.keep kp, s.mono (LE.refl L) kp⟩
    · cases e9
  · rcases old e1 with ⟨hj, e1⟩ | ⟨rfl, e9⟩
    · rcases old e2 with ⟨hk, e2⟩ | ⟨rfl, e9⟩
      · exact hr.inj j k b es fs e1 e2 e3 e4
      · cases e9
    · cases e9
  · rcases old e1 with ⟨hj, e1⟩ | ⟨rfl, e9⟩
    · obtain ⟨ys, q, s⟩ := hr.dct j b es e1 e2
      have hb : b ≠ a := fun z => by subst z; exact hj (hr.injD j p b es kvs e1 e e2 ea)
      exact ⟨ys, by rw [upd_ne hb]; exact q, s.mono (LE.refl L) kp⟩
    · cases e9
  · rcases old e1 with ⟨hj, e1⟩ | ⟨rfl, e9⟩
    · rcases old e2 with ⟨hk, e2⟩ | ⟨rfl, e9⟩
      · exact hr.injD j k b es fs e1 e2 e3 e4
      · cases e9
    · cases e9
  · rcases old e1 with ⟨hj, e1⟩ | ⟨rfl, e9⟩
    · obtain ⟨od, ys, q, s⟩ := hr.rod j b es e1 e2
      exact ⟨od, ys, kp.frz _ _ _ q, s.mono (LE.refl L) kp⟩
    · cases e9
      rw [ea] at e2; cases e2
      exact ⟨o, us, upd_same, r0.mono (LE.refl L) kp⟩
  · have no : ∀ (k : Nat) (fs : List (DKey × D)), h[k]? = some (.rod fs) → L[k]? = some a → False := fun k fs f1 f2 => by
      obtain ⟨od, ys, q, _⟩ := hr.rod k a fs f1 f2
      rw [q0] at q
      cases q
    rcases old e1 with ⟨hj, f1⟩ | ⟨y1, e9⟩
    · rcases old e2 with ⟨hk, f2⟩ | ⟨y2, e9⟩
      · exact hr.injR j k b es fs f1 f2 e3 e4
      · rw [y2, ea] at e4; cases e4
        exact (no j es f1 e3).elim
    · rcases old e2 with ⟨hk, f2⟩ | ⟨y2, e9⟩
      · rw [y1, ea] at e3; cases e3
        exact (no k fs f2 e4).elim
      · rw [y1, y2]
theorem HR.unlock {p : Nat} {a : Addr} {kvs : List (DKey × D)} {us : List (Key × V)} {o : Obj} (hr : HR K L H h) (e : h[p]? = some (.rod kvs)) (ea : L[p]? = some a) (q0 : H a = some (.frz o (.dK us))) :
    HR K L (upd H a (.dK us)) (h.set p (.dct kvs)) := by
  have kt := unlock_tup (K := K) q0
  obtain ⟨_, us', q1, r0⟩ := hr.rod p a kvs e ea
  rw [q0] at q1
  cases q1
  have hi : p < h.length := (List.getElem?_eq_some_iff.mp e).1
  have old : ∀ {j : Nat} {ob : Ob}, (h.set p (.dct kvs))[j]? = some ob → (j ≠ p ∧ h[j]? = some ob) ∨ (j = p ∧ ob = .dct kvs) := fun {j ob} e => by
    by_cases hj : j = p
    · subst hj
      rw [List.getElem?_set_self hi] at e
      exact .inr ⟨rfl, (Option.some.inj e).symm⟩
    · rw [List.getElem?_set_ne (Ne.symm hj)] at e
      exact .inl ⟨hj, e⟩
  refine ⟨by rw [List.length_set]; exact hr.len, fun j b es e1 e2 => ?_, fun j b es e1 e2 => ?_, fun j k b es fs e1 e2 e3 e4 => ?_, fun j b es e1 e2 => ?_, fun j k b es fs e1 e2 e3 e4 => ?_, tabs_set hr.tb q0 (fun _ z => by cases z) (fun _ _ z => by unfold LamX.CodeO at z; cases z), fun j b es e1 e2 => ?_, fun j k b es fs e1 e2 e3 e4 => ?_, hr.oj.keep (ob_set (fun _ _ z => by cases z)) (fun a2 C dx us q => by rw [upd_ne (ne_of q q0 (by intro z; cases z))]; exact q) (fun _ _ r => ⟨r.1, r.2.monoT (LE.refl L) kt⟩)⟩
  · rcases old e1 with ⟨hj, e1⟩ | ⟨rfl, e9⟩
    · obtain ⟨ys, q, s⟩ := hr.lst j b es e1 e2
      exact ⟨ys, by rw [upd_ne (ne_of q q0 (by intro z; cases z))]; exact q, s.monoT (LE.refl L) kt⟩
    · cases e9
  · rcases old e1 with ⟨hj, e1⟩ | ⟨rfl, e9⟩
    · obtain ⟨ys, q, s⟩ := hr.ro j b es e1 e2
      refine ⟨ys, ?_, s.monoT (LE.refl L) kt⟩
      rcases q with ⟨ob, q⟩ | q
      · exact .inl ⟨ob, by rw [upd_ne (ne_of q q0 (by intro z; cases z))]; exact q⟩
      · exact .inr q
    · cases e9
  · rcases old e1 with ⟨hj, e1⟩ | ⟨rfl, e9⟩
    · rcases old e2 with ⟨hk, e2⟩ | ⟨rfl, e9⟩
      · exact hr.inj j k b es fs e1 e2 e3 e4
      · cases e9
    · cases e9
  · rcases old e1 with ⟨hj, e1⟩ | ⟨rfl, e9⟩
    · obtain ⟨ys, q, s⟩ := hr.dct j b es e1 e2
      exact ⟨ys, by rw [upd_ne (ne_of q q0 (by intro z; cases z))]; exact q, s.1, s.2.monoT (LE.refl L) kt⟩
    · cases e9
      rw [ea] at e2; cases e2
      exact ⟨us, upd_same, r0.1, r0.2.monoT (LE.refl L) kt⟩
  · have no : ∀ (k : Nat) (fs : List (DKey × D)), h[k]? = some (.dct fs) → L[k]? = some a → False := fun k fs f1 f2 => by
      obtain ⟨ys, q, _⟩ := hr.dct k a fs f1 f2
      rw [q0] at q
      cases q
    rcases old e1 with ⟨hj, f1⟩ | ⟨y1, e9⟩
    · rcases old e2 with ⟨hk, f2⟩ | ⟨y2, e9⟩
      · exact hr.injD j k b es fs f1 f2 e3 e4
      · rw [y2, ea] at e4; cases e4
        exact (no j es f1 e3).elim
    · rcases old e2 with ⟨hk, f2⟩ | ⟨y2, e9⟩
      · rw [y1, ea] at e3; cases e3
        exact (no k fs f2 e4).elim
      · rw [y1, y2]
  · rcases old e1 with ⟨hj, e1⟩ | ⟨rfl, e9⟩
    · obtain ⟨od, ys, q, s⟩ := hr.rod j b es e1 e2
      have hb : b ≠ a := fun z => by subst z; exact hj (hr.injR j p b es kvs e1 e e2 ea)
      exact ⟨od, ys, by rw [upd_ne hb]; exact q, s.1, s.2.monoT (LE.refl L) kt⟩
    · cases e9
  · rcases old e1 with ⟨hj, e1⟩ | ⟨rfl, e9⟩
    · rcases old e2 with ⟨hk, e2⟩ | ⟨rfl, e9⟩
      · exact hr.injR j k b es fs e1 e2 e3 e4
      · cases e9
    · cases e9
/-- locked, then unlocked: what stays from ahead -/
theorem Keep.locked {a : Addr} {us : List (Key × V)} {o : Obj} (q0 : H a = some (.dK us)) (kp : Keep K (upd H a (.frz o (.dK us))) H') (q1 : H' a = some (.frz o (.dK us))) : Keep K H (upd H' a (.dK us)) := by
  have k1 : Keep K H (upd H a (.frz o (.dK us))) := Keep.lockD q0
  refine ⟨fun b xs q => (unlock_tup q1).tup b xs (kp.tup b xs (k1.tup b xs q)), fun b ob u q => ?_, fun b φ q => (unlock_tup (K := K) q1).ext b φ (kp.ext b φ (k1.ext b φ q))⟩
  rw [upd_ne (ne_of q q0 (by intro z; cases z))]
  exact kp.frz _ _ _ (k1.frz _ _ _ q)
end
/-- the slots -/
structure SRel (K : PySem.W.Frag) (L : List Addr) (H : Hp) (env : Env) (σ : L2.St) : Prop where
  len : env.length = σ.length
  at_ : ∀ (i : Nat) d, env[i]? = some (some d) → ∃ v, σ[i]? = some (some v) ∧ Rel K L H d v
theorem SRel.mono {K : PySem.W.Frag} {L L' : List Addr} {H H' : Hp} {env : Env} {σ : L2.St} (s : SRel K L H env σ) (le : LE L L') (kp : Keep K H H') : SRel K L' H' env σ :=
  ⟨s.len, fun i d e => let ⟨v, e1, r⟩ := s.at_ i d e; ⟨v, e1, r.mono le kp⟩⟩
theorem SRel.set {K : PySem.W.Frag} {L : List Addr} {H : Hp} {env : Env} {σ : L2.St} {i : Nat} {d : D} {v : V} (s : SRel K L H env σ) (r : Rel K L H d v) : SRel K L H (env.set i (some d)) (σ.set i (some v)) := by
  refine ⟨by rw [List.length_set, List.length_set]; exact s.len, fun j e h => ?_⟩
  by_cases hj : i = j
  · subst hj
    have hi : i < env.length := by have := (List.getElem?_eq_some_iff.mp h).1; simpa using this
    rw [List.getElem?_set_self hi] at h
    cases h
    exact ⟨v, by rw [List.getElem?_set_self (by rw [← s.len]; exact hi)], r⟩
  · rw [List.getElem?_set_ne hj] at h
    obtain ⟨u, e1, q⟩ := s.at_ j e h
    exact ⟨u, by rw [List.getElem?_set_ne hj]; exact e1, q⟩
theorem SRel.wipe {K : PySem.W.Frag} {L : List Addr} {H : Hp} {env : Env} {σ : L2.St} (s : SRel K L H env σ) : ∀ vs : List Nat, SRel K L H (wipeD env vs) (wipe σ vs)
  | [] => s
  | v :: vs => by
    have ih := s.wipe vs
    unfold wipeD L2.wipe
    refine ⟨by rw [List.length_set, List.length_set]; exact ih.len, fun j e h => ?_⟩
    by_cases hj : v = j
    · subst hj
      by_cases hv : v < (wipeD env vs).length
      · rw [List.getElem?_set_self hv] at h; cases h
      · rw [List.getElem?_eq_none (by simpa using hv)] at h; cases h
    · rw [List.getElem?_set_ne hj] at h
      obtain ⟨u, e1, q⟩ := ih.at_ j e h
      exact ⟨u, by rw [List.getElem?_set_ne hj]; exact e1, q⟩

/-! ends -/
/-- an exception of ours over there: its class by the module's name, what it bears -/
def ExR (K : PySem.W.Frag) (mg : Str → Option Value) (L : List Addr) (H : Hp) (c : Str) (d : D) (cv : Value) (dx : Option Addr) : Prop :=
  mg c = some cv ∧ ((d = .non ∧ dx = none) ∨ ∃ p v, dx = some p ∧ H p = some (.xd [("at", v)]) ∧ Rel K L H d v)
/-- a wish at the end of what gives an a: b over there, as ρ says -/
def pRg {α β : Type} (ρ : List Addr → Hp → α → β → Prop) (K : PySem.W.Frag) (mg : Str → Option Value) (L : List Addr) (H : Hp) (W : WX) (σ : L2.St) (Q : β → Hp → Prop) : R α → Prop
  | .ok a h' => ∀ L' H' b, LE L L' → Keep K H H' → HR K L' H' h' → ρ L' H' a b → Q b H'
  | .exc c d h' => ∀ L' H' cv dx, LE L L' → Keep K H H' → HR K L' H' h' → ExR K mg L' H' c d cv dx → W cv dx σ H'
  | .stuck => False
section
variable {K : PySem.W.Frag} {mg : Str → Option Value} {L L' : List Addr} {H H' : Hp} {h h' : Hv} {W : WX} {σ : L2.St} {α β γ δ : Type} {ρ : List Addr → Hp → α → β → Prop} {ρ' : List Addr → Hp → γ → δ → Prop} {Q : δ → Hp → Prop}
theorem pRg.mono {r : R γ} (p : pRg ρ' K mg L H W σ Q r) (le : LE L L') (kp : Keep K H H') : pRg ρ' K mg L' H' W σ Q r := by
  cases r with
  | ok a h1 => exact fun L2 H2 b l k => p L2 H2 b (le.trans l) (kp.trans k)
  | exc c d h1 => exact fun L2 H2 cv dx l k => p L2 H2 cv dx (le.trans l) (kp.trans k)
  | stuck => exact p
theorem pRg.then_ {r : R α} {g : α → Hv → R γ} {REST : β → Hp → Prop} (p : pRg ρ' K mg L H W σ Q (r.bind g))
    (k : ∀ a h1 L1 H1 b, LE L L1 → Keep K H H1 → HR K L1 H1 h1 → ρ L1 H1 a b → pRg ρ' K mg L1 H1 W σ Q (g a h1) → REST b H1) : pRg ρ K mg L H W σ REST r := by
  cases r with
  | ok a h1 => exact fun L1 H1 b le kp hr rl => k a h1 L1 H1 b le kp hr rl (pRg.mono p le kp)
  | exc c d h1 => exact p
  | stuck => exact p
end
abbrev pR (K : PySem.W.Frag) (mg : Str → Option Value) (L : List Addr) (H : Hp) (W : WX) (σ : L2.St) (Q : VK) : R D → Prop := pRg (Rel K) K mg L H W σ Q
abbrev pA (K : PySem.W.Frag) (mg : Str → Option Value) (L : List Addr) (H : Hp) (W : WX) (σ : L2.St) (Q : List V → Hp → Prop) : R (List D) → Prop := pRg (Rels K) K mg L H W σ Q
abbrev pO (K : PySem.W.Frag) (mg : Str → Option Value) (L : List Addr) (H : Hp) (W : WX) (σ : L2.St) (Q : Option Int → Hp → Prop) : R (Option Int) → Prop := pRg (fun _ _ a b => a = b) K mg L H W σ Q
abbrev Fe := Env → Hv → R D
/-- the reading of ours -/
def tE (X : Cx) (W : WX) (f : Fe) : TE := fun σ H Q => ∃ L h env, HR X.K L H h ∧ SRel X.K L H env σ ∧ pR X.K X.mg L H W σ Q (f env h)
def tA (X : Cx) (W : WX) (f : Env → Hv → R (List D)) : TA := fun σ H Q => ∃ L h env, HR X.K L H h ∧ SRel X.K L H env σ ∧ pA X.K X.mg L H W σ Q (f env h)
def tO (X : Cx) (W : WX) (f : Env → Hv → R (Option Int)) : TO := fun σ H Q => ∃ L h env, HR X.K L H h ∧ SRel X.K L H env σ ∧ pO X.K X.mg L H W σ Q (f env h)
/-- a test -/
def tT (X : Cx) (W : WX) (f : Fe) : TT := fun σ H Q => ∃ L h env, HR X.K L H h ∧ SRel X.K L H env σ ∧ pRg (fun _ _ d b => d = D.bl b) X.K X.mg L H W σ Q (f env h) ∧ ∀ d h', f env h = .ok d h' → ∃ b, d = D.bl b
theorem PE.weak {X : Cx} {e : Expr} {t t' : TE} (h : PE X e t) (w : ∀ σ H Q, t' σ H Q → t σ H Q) : PE X e t' := ⟨fun pins s σ H Q I q => h.run pins s σ H Q I (w σ H Q q)⟩
theorem PT.weak {X : Cx} {e : Expr} {t t' : TT} (h : PT X e t) (w : ∀ σ H Q, t' σ H Q → t σ H Q) : PT X e t' := ⟨fun pins s σ H Q I q => h.run pins s σ H Q I (w σ H Q q)⟩
theorem PW.weak {X : Cx} {e : Expr} {t t' : TT} (h : PW X e t) (w : ∀ σ H Q, t' σ H Q → t σ H Q) : PW X e t' := ⟨fun wh pins s σ H Q I q => h.run wh pins s σ H Q I (w σ H Q q)⟩
theorem PA.weak {X : Cx} {e : List Expr} {t t' : TA} (h : PA X e t) (w : ∀ σ H Q, t' σ H Q → t σ H Q) : PA X e t' := ⟨fun pos pins s σ H Q I q => h.run pos pins s σ H Q I (w σ H Q q)⟩
theorem PO.weak {X : Cx} {e : Option Expr} {t t' : TO} (h : PO X e t) (w : ∀ σ H Q, t' σ H Q → t σ H Q) : PO X e t' := ⟨fun pins s σ H Q I q => h.run pins s σ H Q I (w σ H Q q)⟩
theorem PS.weak {X : Cx} {e : Stmt} {t t' : TS} (h : PS X e t) (w : ∀ D σ H, t' D σ H → t D σ H) : PS X e t' := ⟨fun pins s σ H D I q => h.run pins s σ H D I (w D σ H q)⟩
theorem PSs.weak {X : Cx} {e : List Stmt} {t t' : TS} (h : PSs X e t) (w : ∀ D σ H, t' D σ H → t D σ H) : PSs X e t' := ⟨fun pins s σ H D I q => h.run pins s σ H D I (w D σ H q)⟩
end VM

set_option maxRecDepth 100000
set_option maxHeartbeats 1000000
namespace VM
open PySem PySem.Spec PyProof.Rows L2
variable [HasT]

/-! tests -/
def pT (K : PySem.W.Frag) (mg : Str → Option Value) (L : List Addr) (H : Hp) (W : WX) (σ : L2.St) (Q : Bool → Hp → Prop) : R D → Prop
  | .ok (.bl b) h' => ∀ L' H', LE L L' → Keep K H H' → HR K L' H' h' → Q b H'
  | .exc c d h' => ∀ L' H' cv dx, LE L L' → Keep K H H' → HR K L' H' h' → ExR K mg L' H' c d cv dx → W cv dx σ H'
  | _ => False
def tB (X : Cx) (W : WX) (f : Fe) : TT := fun σ H Q => ∃ L h env, HR X.K L H h ∧ SRel X.K L H env σ ∧ pT X.K X.mg L H W σ Q (f env h)
section
variable {K : PySem.W.Frag} {mg : Str → Option Value} {L L' : List Addr} {H H' : Hp} {h h' : Hv} {W : WX} {σ : L2.St}
theorem pT.toR {Q : Bool → Hp → Prop} {r : R D} (p : pT K mg L H W σ Q r) : pR K mg L H W σ (fun x H1 => ∃ c, x = .bl c ∧ Q c H1) r := by
  cases r with
  | ok d h1 =>
    cases d with
    | bl b =>
      intro L' H' v le kp hr rel
      cases rel
      exact ⟨b, rfl, p L' H' le kp hr⟩
    | _ => exact p.elim
  | exc c d h1 => exact p
  | stuck => exact p.elim
/-- a test's use -/
theorem pT.use {α β : Type} {ρ : List Addr → Hp → α → β → Prop} {Q : β → Hp → Prop} {REST : Bool → Hp → Prop} {r : R D} {g : D → Hv → R α} (p : pRg ρ K mg L H W σ Q (r.bind g)) (st : ∀ d h, (∀ b, d ≠ .bl b) → g d h = .stuck)
    (k : ∀ b h1 L1 H1, LE L L1 → Keep K H H1 → HR K L1 H1 h1 → pRg ρ K mg L1 H1 W σ Q (g (.bl b) h1) → REST b H1) : pT K mg L H W σ REST r := by
  cases r with
  | ok d h1 =>
    have p' : pRg ρ K mg L H W σ Q (g d h1) := p
    cases d with
    | bl b => exact fun L1 H1 le kp hr => k b h1 L1 H1 le kp hr (p'.mono le kp)
    | _ => exact absurd p' (by rw [st _ h1 (by intro b z; cases z)]; exact id)
  | exc c d h1 => exact p
  | stuck => exact p
theorem pT.useT {REST Q : Bool → Hp → Prop} {r : R D} {g : D → Hv → R D} (p : pT K mg L H W σ Q (r.bind g)) (st : ∀ d h, (∀ b, d ≠ .bl b) → g d h = .stuck)
    (k : ∀ b h1 L1 H1, LE L L1 → Keep K H H1 → HR K L1 H1 h1 → pT K mg L1 H1 W σ Q (g (.bl b) h1) → REST b H1) : pT K mg L H W σ REST r := by
  have mono : ∀ {r : R D} {L1 H1}, pT K mg L H W σ Q r → LE L L1 → Keep K H H1 → pT K mg L1 H1 W σ Q r := fun {r L1 H1} q le kp => by
    cases r with
    | ok d h1 =>
      cases d with
      | bl b => exact fun L2 H2 l kk => q L2 H2 (le.trans l) (kp.trans kk)
      | _ => exact q.elim
    | exc c d h1 => exact fun L2 H2 cv dx l kk => q L2 H2 cv dx (le.trans l) (kp.trans kk)
    | stuck => exact q.elim
  cases r with
  | ok d h1 =>
    have p' : pT K mg L H W σ Q (g d h1) := p
    cases d with
    | bl b => exact fun L1 H1 le kp hr => k b h1 L1 H1 le kp hr (mono p' le kp)
    | _ => exact absurd p' (by rw [st _ h1 (by intro b z; cases z)]; exact id)
  | exc c d h1 => exact p
  | stuck => exact p
end

/-! expressions -/
section
variable {X : Cx} {W : WX} {a b c e : Expr} {fa fb fc : Fe} {pos : Pos}
theorem here {Q : VK} {L : List Addr} {H : Hp} {h : Hv} {σ : L2.St} {d : D} {v : V} (hr : HR X.K L H h) (hp : pR X.K X.mg L H W σ Q (.ok d h)) (r : Rel X.K L H d v) : Q v H := hp L H v (LE.refl L) (Keep.refl H) hr r
theorem r_var {i : Nat} {x : Str} (C : Or) (hN : X.N[i]? = some x) (hv : Vis X.env.scope x) (hd : (x == ("__debug__" : Str)) = false) (hcd : (x == ("__classdict__" : Str)) = false) : PE X (.Name x pos) (tE X W (varF i C)) := by
  refine PE.weak (pe_var hN hv hd hcd) fun σ H Q ⟨L, h, env, hr, sr, hp⟩ => ?_
  unfold varF at hp
  split at hp
  · rename_i d e
    obtain ⟨v, e1, r⟩ := sr.at_ i d e
    exact ⟨v, e1, here hr hp r⟩
  · exact hp.elim
theorem r_int {i : Int} {j : Nat} (C : Or) : PE X (.Constant (.int i) j pos) (tE X W (conF (.int i) C)) := PE.weak pe_int fun σ H Q ⟨L, h, env, hr, sr, hp⟩ => here hr hp (.int i)
theorem r_bl {i : Bool} {j : Nat} (C : Or) : PE X (.Constant (.bool i) j pos) (tE X W (conF (.bl i) C)) := PE.weak pe_bl fun σ H Q ⟨L, h, env, hr, sr, hp⟩ => here hr hp (.bl i)
theorem r_str {i : Str} {j : Nat} (C : Or) : PE X (.Constant (.str i) j pos) (tE X W (conF (.str i) C)) := PE.weak pe_str fun σ H Q ⟨L, h, env, hr, sr, hp⟩ => here hr hp (.str i)
theorem r_non {j : Nat} (C : Or) : PE X (.Constant .none j pos) (tE X W (conF .non C)) := PE.weak pe_non fun σ H Q ⟨L, h, env, hr, sr, hp⟩ => here hr hp .non
theorem r_glob {x : Str} {d : D} {u : Value} {v : V} (C : Or) (hg : Gl X x) (hm : X.mg x = some u) (rv : RelV v u) (rel : ∀ L H, Rel X.K L H d v) (hd : (x == ("__debug__" : Str)) = false) : PE X (.Name x pos) (tE X W (conF d C)) :=
  PE.weak (pe_glob hg hm rv hd) fun σ H Q ⟨L, h, env, hr, sr, hp⟩ => here hr hp (rel L H)
/-- what a two-place operation asks is what ours gives -/
def OkR (X : Cx) (W : WX) (g : D → D → Hv → R D) (r : R2) : Prop := ∀ L H h σ d1 d2 v1 v2 Q, HR X.K L H h → Rel X.K L H d1 v1 → Rel X.K L H d2 v2 → pR X.K X.mg L H W σ Q (g d1 d2 h) → r v1 v2 H Q
def OkU (X : Cx) (W : WX) (g : D → Hv → R D) (r : V → Hp → VK → Prop) : Prop := ∀ L H h σ d v Q, HR X.K L H h → Rel X.K L H d v → pR X.K X.mg L H W σ Q (g d h) → r v H Q
def OkC (X : Cx) (W : WX) (g : List D → Hv → R D) (r : List V → Hp → VK → Prop) : Prop := ∀ L H h σ ds vs Q, HR X.K L H h → Rels X.K L H ds vs → pR X.K X.mg L H W σ Q (g ds h) → r vs H Q
/-- two in a row -/
theorem two {g : D → D → Hv → R D} {r : R2} (o : OkR X W g r) {σ : L2.St} {H : Hp} {Q : VK} {L : List Addr} {h : Hv} {env : Env} (hr : HR X.K L H h) (sr : SRel X.K L H env σ)
    (hp : pR X.K X.mg L H W σ Q ((fa env h).bind fun x h1 => (fb env h1).bind fun y h2 => g x y h2)) : tE X W fa σ H fun x H1 => tE X W fb σ H1 fun y H2 => r x y H2 Q :=
  ⟨L, h, env, hr, sr, hp.then_ fun d1 h1 L1 H1 v1 le kp hr1 r1 hp1 => ⟨L1, h1, env, hr1, sr.mono le kp, hp1.then_ fun d2 h2 L2 H2 v2 le2 kp2 hr2 r2 hp2 => o L2 H2 h2 σ d1 d2 v1 v2 Q hr2 (r1.mono le2 kp2) r2 hp2⟩⟩
theorem r_op {op : Operator} {g : D → D → Hv → R D} {r : R2} (C : Or) {fa fb : EF} (o : OkR X W g r) (ho : OpR X (binaryOp op) r) (ha : PE X a (tE X W (fa C))) (hb : PE X b (tE X W (fb C))) : PE X (.BinOp a op b pos) (tE X W (binF g fa fb C)) :=
  PE.weak (pe_op ho ha hb) fun σ H Q ⟨L, h, env, hr, sr, hp⟩ => two o hr sr hp
theorem r_cmp {op : CmpOp} {g : D → D → Hv → R D} {r : R2} (C : Or) {fa fb : EF} (o : OkR X W g r) (ho : OpR X (compareOp op) r) (hm : behindInMarks op b = false) (ha : PE X a (tE X W (fa C))) (hb : PE X b (tE X W (fb C))) : PE X (.Compare a [op] [b] pos) (tE X W (binF g fa fb C)) :=
  PE.weak (pe_cmpR ho ha hb hm) fun σ H Q ⟨L, h, env, hr, sr, hp⟩ => two o hr sr hp
theorem r_ix {g : D → D → Hv → R D} {r : R2} (C : Or) {fa fb : EF} (o : OkR X W g r) (ho : IxR X r) (ha : PE X a (tE X W (fa C))) (hb : PE X b (tE X W (fb C))) (hs : PlainIx b) : PE X (.Subscript a b pos) (tE X W (binF g fa fb C)) :=
  PE.weak (pe_ix ho ha hb hs) fun σ H Q ⟨L, h, env, hr, sr, hp⟩ => two o hr sr hp
theorem r_un {op : UnaryOp} {g : D → Hv → R D} {r : V → Hp → VK → Prop} (C : Or) {fa : EF} (o : OkU X W g r) (ho : UnR X (unaryOp op) r) (ha : PE X a (tE X W (fa C))) : PE X (.UnaryOp op a pos) (tE X W (un1F g fa C)) :=
  PE.weak (pe_un ho ha) fun σ H Q ⟨L, h, env, hr, sr, hp⟩ => ⟨L, h, env, hr, sr, pRg.then_ hp fun d1 h1 L1 H1 v1 le kp hr1 r1 hp1 => o L1 H1 h1 σ d1 v1 Q hr1 r1 hp1⟩
theorem r_not (C : Or) {fa : EF} (ha : PE X a (tE X W (fa C))) : PE X (.UnaryOp .Not a pos) (tE X W (un1F opNot fa C)) :=
  PE.weak (pe_not ha) fun σ H Q ⟨L, h, env, hr, sr, hp⟩ => ⟨L, h, env, hr, sr, pRg.then_ hp fun d1 h1 L1 H1 v1 le kp hr1 r1 hp1 => by
    cases r1 with
    | bl b => exact ⟨b, rfl, here hr1 hp1 (.bl _)⟩
    | _ => exact hp1.elim⟩
theorem r_one {op : BoolOp} {f : Fe} (ha : PE X a (tE X W f)) : PE X (.BoolOp op [a] pos) (tE X W f) := pe_one ha
theorem r_and {rest : List Expr} (C : Or) {fa fb : EF} (ha : PE X a (tE X W (fa C))) (hb : PE X (.BoolOp .And (b :: rest) pos) (tE X W (fb C))) : PE X (.BoolOp .And (a :: b :: rest) pos) (tE X W (andF fa fb C)) :=
  PE.weak (pe_and ha hb) fun σ H Q ⟨L, h, env, hr, sr, hp⟩ => ⟨L, h, env, hr, sr, pRg.then_ hp fun d1 h1 L1 H1 v1 le kp hr1 r1 hp1 => by
    cases r1 with
    | bl b =>
      refine ⟨b, rfl, ?_⟩
      cases b with
      | true => exact ⟨L1, h1, env, hr1, sr.mono le kp, hp1⟩
      | false => exact here hr1 hp1 (.bl _)
    | _ => exact hp1.elim⟩
theorem r_or {rest : List Expr} (C : Or) {fa fb : EF} (ha : PE X a (tE X W (fa C))) (hb : PE X (.BoolOp .Or (b :: rest) pos) (tE X W (fb C))) : PE X (.BoolOp .Or (a :: b :: rest) pos) (tE X W (orF fa fb C)) :=
  PE.weak (pe_or ha hb) fun σ H Q ⟨L, h, env, hr, sr, hp⟩ => ⟨L, h, env, hr, sr, pRg.then_ hp fun d1 h1 L1 H1 v1 le kp hr1 r1 hp1 => by
    cases r1 with
    | bl b =>
      refine ⟨b, rfl, ?_⟩
      cases b with
      | false => exact ⟨L1, h1, env, hr1, sr.mono le kp, hp1⟩
      | true => exact here hr1 hp1 (.bl _)
    | _ => exact hp1.elim⟩
theorem chain_ {g g' : D → D → Hv → R D} {r r' : R2} (o : OkR X W g r) (o' : OkR X W g' r') (C : Or) {fa fb fc : EF} {σ : L2.St} {H : Hp} {Q : VK} {L : List Addr} {h : Hv} {env : Env} (hr : HR X.K L H h) (sr : SRel X.K L H env σ)
    (hp : pR X.K X.mg L H W σ Q (chainF g g' fa fb fc C env h)) : tChain r r' (tE X W (fa C)) (tE X W (fb C)) (tE X W (fc C)) σ H Q := by
  refine ⟨L, h, env, hr, sr, pRg.then_ hp fun d1 h1 L1 H1 v1 le kp hr1 r1 hp1 => ⟨L1, h1, env, hr1, sr.mono le kp, pRg.then_ hp1 fun d2 h2 L2 H2 v2 le2 kp2 hr2 r2 hp2 => ?_⟩⟩
  refine o L2 H2 h2 σ d1 d2 v1 v2 _ hr2 (r1.mono le2 kp2) r2 (pRg.then_ hp2 fun d3 h3 L3 H3 v3 le3 kp3 hr3 r3 hp3 => ?_)
  cases r3 with
  | bl k =>
    refine ⟨k, rfl, ?_⟩
    cases k with
    | true => exact ⟨L3, h3, env, hr3, (sr.mono le kp).mono (le2.trans le3) (kp2.trans kp3), pRg.then_ hp3 fun d4 h4 L4 H4 v4 le4 kp4 hr4 r4 hp4 => o' L4 H4 h4 σ d2 d4 v2 v4 Q hr4 (r2.mono (le3.trans le4) (kp3.trans kp4)) r4 hp4⟩
    | false => exact here hr3 hp3 (.bl _)
  | _ => exact hp3.elim
theorem r_chain {op op' : CmpOp} {g g' : D → D → Hv → R D} {r r' : R2} (C : Or) {fa fb fc : EF} (o : OkR X W g r) (o' : OkR X W g' r') (ho : OpR X (compareOp op) r) (ho' : OpR X (compareOp op') r') (hm : behindInMarks op' c = false)
    (ha : PE X a (tE X W (fa C))) (hb : PE X b (tE X W (fb C))) (hc : PE X c (tE X W (fc C))) : PE X (.Compare a [op, op'] [b, c] pos) (tE X W (chainF g g' fa fb fc C)) :=
  PE.weak (pe_chain ho ho' ha hb hc hm) fun σ H Q ⟨L, h, env, hr, sr, hp⟩ => chain_ o o' C hr sr hp
/-! tests -/
theorem t_val {f : Fe} (h : PE X e (tE X W f)) (he : ∀ whole, isTrue e X.env whole = (do let v ← whole; standAt e.pos; holding [v] (truthy v))) : PT X e (tB X W f) :=
  PT.weak (pt_val h he) fun σ H Q ⟨L, h, env, hr, sr, hp⟩ => ⟨L, h, env, hr, sr, hp.toR⟩
theorem t_cmp {op : CmpOp} {g : D → D → Hv → R D} {r : R2} (C : Or) {fa fb : EF} (o : OkR X W g r) (ho : OpR X (compareOp op) r) (hm : behindInMarks op b = false) (ha : PE X a (tE X W (fa C))) (hb : PE X b (tE X W (fb C))) : PT X (.Compare a [op] [b] pos) (tB X W (binF g fa fb C)) :=
  PT.weak (pt_cmpR ho ha hb hm) fun σ H Q ⟨L, h, env, hr, sr, hp⟩ => two o hr sr hp.toR
theorem t_chain {op op' : CmpOp} {g g' : D → D → Hv → R D} {r r' : R2} (C : Or) {fa fb fc : EF} (o : OkR X W g r) (o' : OkR X W g' r') (ho : OpR X (compareOp op) r) (ho' : OpR X (compareOp op') r') (hm : behindInMarks op' c = false)
    (ha : PE X a (tE X W (fa C))) (hb : PE X b (tE X W (fb C))) (hc : PE X c (tE X W (fc C))) : PT X (.Compare a [op, op'] [b, c] pos) (tB X W (chainF g g' fa fb fc C)) :=
  PT.weak (pt_chain ho ho' ha hb hc hm) fun σ H Q ⟨L, h, env, hr, sr, hp⟩ => chain_ o o' C hr sr hp.toR
theorem t_not (C : Or) {fa : EF} (ha : PT X a (tB X W (fa C))) : PT X (.UnaryOp .Not a pos) (tB X W (un1F opNot fa C)) :=
  PT.weak (pt_not ha) fun σ H Q ⟨L, h, env, hr, sr, hp⟩ => ⟨L, h, env, hr, sr, pT.useT hp (fun d h n => by cases d <;> first | rfl | exact absurd rfl (n _)) fun b h1 L1 H1 le kp hr1 hp1 => hp1 L1 H1 (LE.refl _) (Keep.refl _) hr1⟩
theorem t_and1 {f : Fe} (ha : PT X a (tB X W f)) : PW X (.BoolOp .And [a] pos) (tB X W f) := pw_and1 ha
theorem t_or1 {f : Fe} (ha : PT X a (tB X W f)) : PW X (.BoolOp .Or [a] pos) (tB X W f) := pw_or1 ha
theorem t_and {rest : List Expr} (C : Or) {fa fb : EF} (ha : PT X a (tB X W (fa C))) (hb : PW X (.BoolOp .And (b :: rest) pos) (tB X W (fb C))) : PW X (.BoolOp .And (a :: b :: rest) pos) (tB X W (andF fa fb C)) :=
  PW.weak (pw_and ha hb) fun σ H Q ⟨L, h, env, hr, sr, hp⟩ => ⟨L, h, env, hr, sr, pT.useT hp (fun d h n => by cases d <;> first | rfl | exact absurd rfl (n _)) fun b h1 L1 H1 le kp hr1 hp1 => by
    cases b with
    | true => exact ⟨L1, h1, env, hr1, sr.mono le kp, hp1⟩
    | false => exact hp1 L1 H1 (LE.refl _) (Keep.refl _) hr1⟩
theorem t_or {rest : List Expr} (C : Or) {fa fb : EF} (ha : PT X a (tB X W (fa C))) (hb : PW X (.BoolOp .Or (b :: rest) pos) (tB X W (fb C))) : PW X (.BoolOp .Or (a :: b :: rest) pos) (tB X W (orF fa fb C)) :=
  PW.weak (pw_or ha hb) fun σ H Q ⟨L, h, env, hr, sr, hp⟩ => ⟨L, h, env, hr, sr, pT.useT hp (fun d h n => by cases d <;> first | rfl | exact absurd rfl (n _)) fun b h1 L1 H1 le kp hr1 hp1 => by
    cases b with
    | false => exact ⟨L1, h1, env, hr1, sr.mono le kp, hp1⟩
    | true => exact hp1 L1 H1 (LE.refl _) (Keep.refl _) hr1⟩
theorem r_ite (C : Or) {fc fa fb : EF} (hc : PT X c (tB X W (fc C))) (ha : PE X a (tE X W (fa C))) (hb : PE X b (tE X W (fb C))) : PE X (.IfExp c a b pos) (tE X W (iteF fc fa fb C)) :=
  PE.weak (pe_ifExp hc ha hb) fun σ H Q ⟨L, h, env, hr, sr, hp⟩ => ⟨L, h, env, hr, sr, pT.use hp (fun d h n => by cases d <;> first | rfl | exact absurd rfl (n _)) fun b h1 L1 H1 le kp hr1 hp1 => by
    cases b with
    | true => exact ⟨L1, h1, env, hr1, sr.mono le kp, hp1⟩
    | false => exact ⟨L1, h1, env, hr1, sr.mono le kp, hp1⟩⟩
/-! lists of expressions -/
theorem a_nil (C : Or) : PA X [] (tA X W (listF [] C)) := PA.weak pa_nil fun σ H Q ⟨L, h, env, hr, sr, hp⟩ => hp L H [] (LE.refl L) (Keep.refl H) hr .nil
theorem a_cons {es : List Expr} (C : Or) {f : EF} {fs : List EF} (ha : PE X e (tE X W (f C))) (hr : PA X es (tA X W (listF fs C))) (hs : starEach (e :: es) X.env = (false, eval e X.env) :: starEach es X.env) : PA X (e :: es) (tA X W (listF (f :: fs) C)) :=
  PA.weak (pa_cons ha hr hs) fun σ H Q ⟨L, h, env, hr, sr, hp⟩ => ⟨L, h, env, hr, sr, pRg.then_ hp fun d1 h1 L1 H1 v1 le kp hr1 r1 hp1 => ⟨L1, h1, env, hr1, sr.mono le kp, pRg.then_ hp1 fun ds h2 L2 H2 vs le2 kp2 hr2 r2 hp2 => hp2 L2 H2 _ (LE.refl _) (Keep.refl _) hr2 (.cons (r1.mono le2 kp2) r2)⟩⟩
theorem szl_le : szl ≤ sizeLine := by rw [sizeLine_eq]; decide
theorem r_tup {es : List Expr} {k : Nat} (C : Or) {fs : List EF} (ha : PA X es (tA X W (listF fs C))) : PE X (.Tuple es k pos) (tE X W (tupF fs C)) :=
  PE.weak (pe_tup ha) fun σ H Q ⟨L, h, env, hr, sr, hp⟩ => ⟨L, h, env, hr, sr, pRg.then_ hp fun ds h1 L1 H1 vs le kp hr1 r1 hp1 => by
    split at hp1
    · rename_i hz
      exact ⟨Nat.le_trans (by rw [← r1.len]; exact hz) szl_le, fun p np => hp1 L1 _ _ (LE.refl _) (Keep.new np) (hr1.new np) (.tup (.inl (.inl upd_same)) (r1.mono (LE.refl _) (Keep.new np)))⟩
    · exact hp1.elim⟩
theorem allocd {L : List Addr} {H : Hp} {h : Hv} {σ : L2.St} {Q : VK} {ds : List D} {vs : List V} {p : Addr} (hr : HR X.K L H h) (r : Rels X.K L H ds vs) (np : H p = none) (hp : pR X.K X.mg L H W σ Q (.ok (.ref h.length) (h ++ [.lst ds]))) : Q (.ref p) (upd H p (.lst vs)) :=
  hp (L ++ [p]) _ _ (LE.app _ _) (Keep.new np) (hr.alloc np r) (.ref (by rw [← hr.len]; simp))
theorem r_lst {es : List Expr} (C : Or) {fs : List EF} (ha : PA X es (tA X W (listF fs C))) : PE X (.List es pos) (tE X W (lstF fs C)) :=
  PE.weak (pe_lst ha) fun σ H Q ⟨L, h, env, hr, sr, hp⟩ => ⟨L, h, env, hr, sr, pRg.then_ hp fun ds h1 L1 H1 vs le kp hr1 r1 hp1 => by
    split at hp1
    · rename_i hz
      exact ⟨Nat.le_trans (by rw [← r1.len]; exact hz) szl_le, fun p np => allocd hr1 r1 np hp1⟩
    · exact hp1.elim⟩
/-! calls -/
def spOf (K : PySem.W.Frag) (mg : Str → Option Value) (np : Nat) (F : List D → Hv → R D) : Sp := fun vs H Q E => vs.length = np ∧ ∃ L h ds, HR K L H h ∧ Rels K L H ds vs ∧ pR K mg L H (fun cv dx _ H' => E cv dx H') [] Q (F ds h)
theorem pR.at_ {K : PySem.W.Frag} {mg : Str → Option Value} {L : List Addr} {H : Hp} {σ τ : L2.St} {W W' : WX} {Q : VK} {r : R D} (p : pR K mg L H W σ Q r) (w : ∀ cv dx H', W cv dx σ H' → W' cv dx τ H') : pR K mg L H W' τ Q r := by
  cases r with
  | ok d h => exact p
  | exc c d h => exact fun L' H' cv dx l k hr x => w _ _ _ (p L' H' cv dx l k hr x)
  | stuck => exact p
theorem r_call {x : Str} {p : Pos} {es : List Expr} (C : Or) {fs : List EF} {k : Nat} {f : Addr} {fd : FuncData} {ps : List Str} (tk : Takes X W)
    (F : FnOk X.prog X.w X.K X.mg X.base (L2.CX X.prog X.w) k f fd ps (spOf X.K X.mg ps.length (C x))) (hl : ∀ ds h, ds.length ≠ ps.length → C x ds h = .stuck) (hr : Room k X.A) (hg : Gl X x) (hm : X.mg x = some (.ref f)) (hk : PySem.W.keepIn X.K (.ref f) = true) (hb : Binds X.K fd ps [])
    (ha : PA X (e :: es) (tA X W (listF fs C))) (hdb : (x == ("__debug__" : Str)) = false) (he : starEach (e :: es) X.env = (false, eval e X.env) :: starEach es X.env) (hpl : (backTo pos (starEach es X.env)).any (·.1) = false) :
    PE X (.Call (.Name x p) (e :: es) [] pos) (tE X W (callF x fs C)) :=
  PE.weak (pe_callS F hr hg hm hk hb (fun σ => passAt tk σ) ha hdb he hpl) fun σ H Q ⟨L, h, env, hr, sr, hp⟩ => ⟨L, h, env, hr, sr, pRg.then_ hp fun ds h1 L1 H1 vs le kp hr1 r1 hp1 => by
    refine ⟨?_, L1, h1, ds, hr1, r1, pR.at_ hp1 fun _ _ _ w => w⟩
    by_cases q : ds.length = ps.length
    · rw [← r1.len]; exact q
    · have hp2 : pR X.K X.mg L1 H1 W σ Q (C x ds h1) := hp1
      rw [hl ds h1 q] at hp2
      exact hp2.elim⟩
theorem r_cb {x : Str} {id : String} {p : Pos} {es : List Expr} {g : List D → Hv → R D} {r : List V → Hp → VK → Prop} (C : Or) {fs : List EF} (o : OkC X W g r) (hc : CallR X (.builtin id) r) (hg : Gl X x) (hm : X.mg x = none) (hv : bootBuiltins x = some (.builtin id)) (ha : PA X (e :: es) (tA X W (listF fs C)))
    (hn : x ≠ "__name__") (hdb : (x == ("__debug__" : Str)) = false) (he : starEach (e :: es) X.env = (false, eval e X.env) :: starEach es X.env) (hpl : (backTo pos (starEach es X.env)).any (·.1) = false) : PE X (.Call (.Name x p) (e :: es) [] pos) (tE X W (bltF g fs C)) :=
  PE.weak (pe_callB hc hg hm hv ha hn hdb he hpl) fun σ H Q ⟨L, h, env, hr, sr, hp⟩ => ⟨L, h, env, hr, sr, pRg.then_ hp fun ds h1 L1 H1 vs le kp hr1 r1 hp1 => o L1 H1 h1 σ ds vs Q hr1 r1 hp1⟩
theorem r_ct {x : Str} {T : String} {p : Pos} {es : List Expr} {g : List D → Hv → R D} {r : List V → Hp → VK → Prop} (C : Or) {fs : List EF} (o : OkC X W g r) (hc : CallR X (.type T) r) (hg : Gl X x) (hm : X.mg x = none) (hv : bootBuiltins x = some (.type T)) (ha : PA X (e :: es) (tA X W (listF fs C)))
    (hn : x ≠ "__name__") (hdb : (x == ("__debug__" : Str)) = false) (he : starEach (e :: es) X.env = (false, eval e X.env) :: starEach es X.env) (hpl : (backTo pos (starEach es X.env)).any (·.1) = false) : PE X (.Call (.Name x p) (e :: es) [] pos) (tE X W (bltF g fs C)) :=
  PE.weak (pe_callTy hc hg hm hv ha hn hdb he hpl) fun σ H Q ⟨L, h, env, hr, sr, hp⟩ => ⟨L, h, env, hr, sr, pRg.then_ hp fun ds h1 L1 H1 vs le kp hr1 r1 hp1 => o L1 H1 h1 σ ds vs Q hr1 r1 hp1⟩
/-! slices -/
theorem o_none (C : Or) : PO X none (tO X W (optF none C)) := PO.weak po_none fun σ H Q ⟨L, h, env, hr, sr, hp⟩ => hp L H none (LE.refl _) (Keep.refl _) hr rfl
theorem o_some (C : Or) {fa : EF} (ha : PE X a (tE X W (fa C))) : PO X (some a) (tO X W (optF (some fa) C)) :=
  PO.weak (po_some ha) fun σ H Q ⟨L, h, env, hr, sr, hp⟩ => ⟨L, h, env, hr, sr, pRg.then_ hp fun d1 h1 L1 H1 v1 le kp hr1 r1 hp1 => by
    cases r1 with
    | int i => exact ⟨i, rfl, hp1 L1 H1 _ (LE.refl _) (Keep.refl _) hr1 rfl⟩
    | _ => exact hp1.elim⟩
theorem r_slc {lo hi : Option Expr} {p2 : Pos} {g : D → Option Int → Option Int → Hv → R D} {r : V → Option Int → Option Int → Hp → VK → Prop} (C : Or) {fa : EF} {fl fh : Option EF}
    (o : ∀ L H h σ d v l u Q, HR X.K L H h → Rel X.K L H d v → pR X.K X.mg L H W σ Q (g d l u h) → r v l u H Q) (hs : SlR X r) (ha : PE X a (tE X W (fa C))) (hl : PO X lo (tO X W (optF fl C))) (hh : PO X hi (tO X W (optF fh C))) :
    PE X (.Subscript a (.Slice lo hi none p2) pos) (tE X W (slcF g fa fl fh C)) :=
  PE.weak (pe_slice hs ha hl hh) fun σ H Q ⟨L, h, env, hr, sr, hp⟩ => ⟨L, h, env, hr, sr, pRg.then_ hp fun d1 h1 L1 H1 v1 le kp hr1 r1 hp1 => ⟨L1, h1, env, hr1, sr.mono le kp, pRg.then_ hp1 fun l h2 L2 H2 l' le2 kp2 hr2 e2 hp2 => by
    subst e2
    exact ⟨L2, h2, env, hr2, (sr.mono le kp).mono le2 kp2, pRg.then_ hp2 fun u h3 L3 H3 u' le3 kp3 hr3 e3 hp3 => by
      subst e3
      exact o L3 H3 h3 σ d1 v1 l u Q hr3 (r1.mono (le2.trans le3) (kp2.trans kp3)) hp3⟩⟩⟩
end
end VM

set_option maxRecDepth 100000
set_option maxHeartbeats 1000000
namespace PySem.SeqAt
open AutoSeq1 (wpAny_loadPart')
open MeetsSeq
theorem int_eq_declines_dict (b : Int) (u : Tok) (l : Addr) (c : Value) (items : Array DictEntry) (n : Nat) (dd : Option Addr) (sl : Array (Option Value)) :
    Meets (Builtin.«int.__eq__» ⟨[.int b u, .ref l], []⟩) (fun _ R s => s.heap.get? l = some { cls := c, dict := dd, data := .dict items n, slots := sl } ∧ R (.ok (.ret .notImplemented)) s) :=
  .of_wp fun prog w A R s h => by obtain ⟨hp, g, d, tk, os⟩ := s; obtain ⟨hl, h⟩ := h; wp_walk using wpAny_loadPart' hl, wpAny_load hl; exact ⟨_, rfl, h⟩
theorem list_eq_declines_dict (l b : Addr) (items : Array Value) (items2 : Array DictEntry) (n : Nat) (n2 : Nat) (dd dd2 : Option Addr) (sl sl2 : Array (Option Value)) :
    Meets (Builtin.«list.__eq__» ⟨[.ref l, .ref b], []⟩) (fun _ R s => s.heap.get? l = some { cls := .type "list", dict := dd, data := .seq items n, slots := sl } ∧ s.heap.get? b = some { cls := .type "dict", dict := dd2, data := .dict items2 n2, slots := sl2 } ∧ R (.ok (.ret .notImplemented)) s) :=
  .of_wp fun prog w A R s h => by obtain ⟨hp, g, d, tk, os⟩ := s; obtain ⟨hl, hb, h⟩ := h; have f1 := F.sub_dict_list; wp_walk using wpAny_loadPart' hl, wpAny_loadPart' hb; exact ⟨_, rfl, h⟩
theorem tuple_eq_declines_dict (l b : Addr) (items : Array Value) (items2 : Array DictEntry) (n : Nat) (n2 : Nat) (dd dd2 : Option Addr) (sl sl2 : Array (Option Value)) :
    Meets (Builtin.«tuple.__eq__» ⟨[.ref l, .ref b], []⟩) (fun _ R s => s.heap.get? l = some { cls := .type "tuple", dict := dd, data := .seq items n, slots := sl } ∧ s.heap.get? b = some { cls := .type "dict", dict := dd2, data := .dict items2 n2, slots := sl2 } ∧ R (.ok (.ret .notImplemented)) s) :=
  .of_wp fun prog w A R s h => by obtain ⟨hp, g, d, tk, os⟩ := s; obtain ⟨hl, hb, h⟩ := h; have f1 := F.sub_dict_tuple; wp_walk using wpAny_loadPart' hl, wpAny_loadPart' hb; exact ⟨_, rfl, h⟩
section
variable {prog : Program} {w : World} {A : Around} {E : Value → Shared → Prop} {s : Shared} {Q : Value → Shared → Prop}
theorem dict_eq_declines {d : Addr} {x : Value} {T : String} (hd : s.TypeIs (.ref d) "dict") (hx : s.TypeIs x T) (hsub : isSubtype (.type T) (.type "dict") = pure false) (hq : Q .notImplemented s) :
    wpAny (model prog w) A (call (.builtin "dict.__eq__") [.ref d, x]) Q E s := by
  refine wpAny_call_entry F.slot_dict_eq hd F.entry_dict_eq ?_ (F.args_dict_eq_2 _ _)
  show wpAny _ _ (Builtin.Dict.dictSlotArgs "__eq__" ⟨[.ref d, x], []⟩ >>= _) _ _ s
  refine wpAny_bind ?_
  unfold Builtin.Dict.dictSlotArgs
  refine wpAny_bind (wpAny_notOrdered_dict hd ?_)
  show wpAny _ _ (pure (Value.ref d, x)) _ _ s
  refine wpAny_pure ?_
  refine wpAny_bind (wpAny_isInstance (T := T) hx hsub ?_)
  simp only [Bool.not_false, if_true]
  refine wpAny_bind (wpAny_rule ?_)
  exact wpAny_pure ⟨_, rfl, hq⟩
end
end PySem.SeqAt
namespace PySem.SeqAt
section
variable {A : Around} {s : Shared}
/-- a dict, raw -/
def IsDct (h : Heap) (d : Addr) : Prop := ∃ (es : Array DictEntry) (n : Nat) (dd : Option Addr) (sl : Array (Option Value)), h.get? d = some { cls := .type "dict", dict := dd, data := .dict es n, slots := sl }
theorem RcAt.dict_int {d : Addr} (b : Int) (u : Tok) (hd : IsDct s.heap d) (hu : A.units < cLine) : RcAt A s (.ref d) (.int b u) false := fun prog w E Q h => by
  obtain ⟨es, n, dd, sl, ho⟩ := hd
  exact rc_eq_decline_or (k := false) ⟨_, ho, rfl⟩ (typeIs_int s b u) (by decide) F.sub_int_dict F.slot_dict_eq F.slot_int_eq_refl
    (fun _ hq => dict_eq_declines ⟨_, ho, rfl⟩ (typeIs_int s b u) F.sub_int_dict hq)
    (fun _ hq => call_meets F.slot_int_eq_refl (typeIs_int s b u) F.entry_int_eq (F.args_int_eq_2 _ _) (int_eq_declines_dict b u d (.type "dict") es n dd sl) ⟨ho, hq⟩)
    (fun _ hq => wpAny_of_eq (rfl : isSame (.ref d) (.int b u) = pure false) hq) (.inr hu) h
theorem RcAt.int_dict {d : Addr} (b : Int) (u : Tok) (hd : IsDct s.heap d) (hu : A.units < cLine) : RcAt A s (.int b u) (.ref d) false := fun prog w E Q h => by
  obtain ⟨es, n, dd, sl, ho⟩ := hd
  exact rc_eq_decline_or (k := false) (typeIs_int s b u) ⟨_, ho, rfl⟩ (by decide) F.sub_dict_int F.slot_int_eq F.slot_dict_eq_refl
    (fun _ hq => call_meets F.slot_int_eq (typeIs_int s b u) F.entry_int_eq (F.args_int_eq_2 _ _) (int_eq_declines_dict b u d (.type "dict") es n dd sl) ⟨ho, hq⟩)
    (fun _ hq => dict_eq_declines ⟨_, ho, rfl⟩ (typeIs_int s b u) F.sub_int_dict hq)
    (fun _ hq => wpAny_of_eq (rfl : isSame (.int b u) (.ref d) = pure false) hq) (.inr hu) h
theorem RcAt.none_dict {d : Addr} (hd : IsDct s.heap d) (hu : A.units < cLine) : RcAt A s .none (.ref d) false := fun prog w E Q h => by
  obtain ⟨es, n, dd, sl, ho⟩ := hd
  exact rc_eq_decline_or (k := false) rfl ⟨_, ho, rfl⟩ (by decide) F.sub_dict_NoneType F.slot_NoneType_eq F.slot_dict_eq_refl
    (fun _ hq => call_gives F.slot_NoneType_eq rfl F.entry_NoneType_eq (F.args_NoneType_eq_2 _ _) (NoneType___eq___none_ref_0 d) hq)
    (fun _ hq => dict_eq_declines ⟨_, ho, rfl⟩ rfl F.sub_NoneType_dict hq)
    (fun _ hq => wpAny_of_eq (rfl : isSame .none (.ref d) = pure false) hq) (.inr hu) h
theorem RcAt.tuple_dict {d b : Addr} {items : Array Value} (hb : s.heap.IsTuple b items) (hd : IsDct s.heap d) (hu : A.units < cLine) : RcAt A s (.ref b) (.ref d) false := fun prog w E Q h => by
  obtain ⟨es, n, dd, sl, ho⟩ := hd
  obtain ⟨⟨cls2, dd2, data2, sl2⟩, ho2, hc2, n2, hd2⟩ := id hb
  simp only at hc2 hd2
  subst hc2 hd2
  have hne : b ≠ d := fun e => by
    subst e
    rw [ho] at ho2
    simp at ho2
  exact (rc_eq_decline_or (k := false) ⟨_, ho2, rfl⟩ ⟨_, ho, rfl⟩ (by decide) F.sub_dict_tuple F.slot_tuple_eq F.slot_dict_eq_refl
    (fun _ hq => call_meets F.slot_tuple_eq ⟨_, ho2, rfl⟩ F.entry_tuple_eq (F.args_tuple_eq_2 _ _) (tuple_eq_declines_dict b d items es n2 n dd2 dd sl2 sl) ⟨ho2, ho, hq⟩)
    (fun _ hq => dict_eq_declines ⟨_, ho, rfl⟩ ⟨_, ho2, rfl⟩ F.sub_tuple_dict hq)
    (fun _ hq => wpAny_isSame_ref_other' hne ho2 ho (by simp) hq) (.inr hu) h)
theorem RcAt.dict_tuple {d b : Addr} {items : Array Value} (hd : IsDct s.heap d) (hb : s.heap.IsTuple b items) (hu : A.units < cLine) : RcAt A s (.ref d) (.ref b) false := fun prog w E Q h => by
  obtain ⟨es, n, dd, sl, ho⟩ := hd
  obtain ⟨⟨cls2, dd2, data2, sl2⟩, ho2, hc2, n2, hd2⟩ := id hb
  simp only at hc2 hd2
  subst hc2 hd2
  have hne : d ≠ b := fun e => by
    subst e
    rw [ho] at ho2
    simp at ho2
  exact (rc_eq_decline_or (k := false) ⟨_, ho, rfl⟩ ⟨_, ho2, rfl⟩ (by decide) F.sub_tuple_dict F.slot_dict_eq F.slot_tuple_eq_refl
    (fun _ hq => dict_eq_declines ⟨_, ho, rfl⟩ ⟨_, ho2, rfl⟩ F.sub_tuple_dict hq)
    (fun _ hq => call_meets F.slot_tuple_eq_refl ⟨_, ho2, rfl⟩ F.entry_tuple_eq (F.args_tuple_eq_2 _ _) (tuple_eq_declines_dict b d items es n2 n dd2 dd sl2 sl) ⟨ho2, ho, hq⟩)
    (fun _ hq => wpAny_isSame_ref_other hne ho ho2 (by simp) hq) (.inr hu) h)
theorem RcAt.dict_list {d b : Addr} {items : Array Value} (hd : IsDct s.heap d) (hb : s.heap.IsList b items) (hu : A.units < cLine) : RcAt A s (.ref d) (.ref b) false := fun prog w E Q h => by
  obtain ⟨es, n, dd, sl, ho⟩ := hd
  obtain ⟨⟨cls2, dd2, data2, sl2⟩, ho2, hc2, n2, hd2⟩ := id hb
  simp only at hc2 hd2
  subst hc2 hd2
  have hne : d ≠ b := fun e => by
    subst e
    rw [ho] at ho2
    simp at ho2
  exact (rc_eq_decline_or (k := false) ⟨_, ho, rfl⟩ ⟨_, ho2, rfl⟩ (by decide) F.sub_list_dict F.slot_dict_eq F.slot_list_eq_refl
    (fun _ hq => dict_eq_declines ⟨_, ho, rfl⟩ ⟨_, ho2, rfl⟩ F.sub_list_dict hq)
    (fun _ hq => call_meets F.slot_list_eq_refl ⟨_, ho2, rfl⟩ F.entry_list_eq (F.args_list_eq_2 _ _) (list_eq_declines_dict b d items es n2 n dd2 dd sl2 sl) ⟨ho2, ho, hq⟩)
    (fun _ hq => wpAny_isSame_ref_other hne ho ho2 (by simp) hq) (.inr hu) h)
end
end PySem.SeqAt
namespace VM
open PySem PySem.Spec PyProof.Rows L2
section
variable {X : Cx}
/-- == of values of unlike kinds, whatever is in them -/
def rUn (K : PySem.W.Frag) : R2 := fun x y H Q => Q (.bl false) H ∧ ((∃ a vs i, x = .ref a ∧ SqT K H a vs ∧ y = .int i) ∨ (∃ a vs i, x = .ref a ∧ SqL K H a vs ∧ y = .int i) ∨ (∃ a us i, x = .ref a ∧ H a = some (.dK us) ∧ y = .int i) ∨
  (∃ a us b vs, x = .ref a ∧ H a = some (.dK us) ∧ y = .ref b ∧ SqT K H b vs) ∨ (∃ a us b vs, x = .ref a ∧ H a = some (.dK us) ∧ y = .ref b ∧ SqL K H b vs))
/-- the same, the other way about -/
def rUnB (K : PySem.W.Frag) : R2 := fun x y H Q => Q (.bl false) H ∧ ∃ a, y = .ref a ∧ ((∃ vs, SqT K H a vs ∧ ((∃ i, x = .int i) ∨ x = .non)) ∨ (∃ vs, SqL K H a vs ∧ ((∃ i, x = .int i) ∨ x = .non ∨ ∃ b us, x = .ref b ∧ SqT K H b us)) ∨ (∃ vs, Rd H a (.dK vs) ∧ ((∃ i, x = .int i) ∨ x = .non ∨ ∃ b us, x = .ref b ∧ SqT K H b us)))
theorem isDct {pins : List (Addr × Obj)} {σ : L2.St} {H : Hp} {s : Shared} (I : Inv X pins σ H s) {d : Addr} {us : List (Key × V)} (e : H d = some (.dK us)) : SeqAt.IsDct s.heap d := by
  obtain ⟨_, _, vs, _, o, es, ep, ho, hc, hd, _⟩ := I.hok d _ e
  obtain ⟨cls, dd, data, sl⟩ := o
  obtain ⟨h1, h2⟩ := hc
  simp only at h1 hd
  subst h1 hd
  exact ⟨es, ep, dd, sl, ho⟩
theorem op_un (hu : X.A.units < cLine) : OpR X (compareOp .Eq) (rUn X.K) := by
  intro pins s σ H x y v u Q I rx ry h
  obtain ⟨q, h⟩ := h
  show wpAny _ _ (richCompare .Eq v u) _ _ s
  rcases h with ⟨a, vs, i, rfl, ha, rfl⟩ | ⟨a, vs, i, rfl, ha, rfl⟩ | ⟨a, us, i, rfl, ha, rfl⟩ | ⟨a, us, b, vs, rfl, ha, rfl, hb⟩ | ⟨a, us, b, vs, rfl, ha, rfl, hb⟩
  · obtain rfl : v = Value.ref a := rx
    obtain ⟨t, rfl⟩ := ry
    obtain ⟨its, _, p, _⟩ := I.tuple ha
    exact SeqAt.RcAt.tuple_int _ _ p hu _ _ _ _ ⟨.bl _, H, I, rfl, q⟩
  · obtain rfl : v = Value.ref a := rx
    obtain ⟨t, rfl⟩ := ry
    obtain ⟨its, _, p, _⟩ := I.list ha
    exact SeqAt.RcAt.list_int _ _ p.isList hu _ _ _ _ ⟨.bl _, H, I, rfl, q⟩
  · obtain rfl : v = Value.ref a := rx
    obtain ⟨t, rfl⟩ := ry
    exact SeqAt.RcAt.dict_int _ _ (isDct I ha) hu _ _ _ _ ⟨.bl _, H, I, rfl, q⟩
  · obtain rfl : v = Value.ref a := rx
    obtain rfl : u = Value.ref b := ry
    obtain ⟨its, _, p, _⟩ := I.tuple hb
    exact SeqAt.RcAt.dict_tuple (isDct I ha) p hu _ _ _ _ ⟨.bl _, H, I, rfl, q⟩
  · obtain rfl : v = Value.ref a := rx
    obtain rfl : u = Value.ref b := ry
    obtain ⟨its, _, p, _⟩ := I.list hb
    exact SeqAt.RcAt.dict_list (isDct I ha) p.isList hu _ _ _ _ ⟨.bl _, H, I, rfl, q⟩
theorem isDctR {pins : List (Addr × Obj)} {σ : L2.St} {H : Hp} {s : Shared} (I : Inv X pins σ H s) {d : Addr} {us : List (Key × V)} (e : Rd H d (.dK us)) : SeqAt.IsDct s.heap d := by
  rcases e with e | ⟨od, e⟩
  · exact isDct I e
  · obtain ⟨_, _, _, vs, _, o, es, ep, ho, hc, hd, _⟩ := I.hok d _ e
    obtain ⟨cls, dd, data, sl⟩ := o
    obtain ⟨h1, h2⟩ := hc
    simp only at h1 hd
    subst h1 hd
    exact ⟨es, ep, dd, sl, ho⟩
theorem op_unB (hu : X.A.units < cLine) : OpR X (compareOp .Eq) (rUnB X.K) := by
  intro pins s σ H x y v u Q I rx ry h
  obtain ⟨q, a, rfl, h⟩ := h
  show wpAny _ _ (richCompare .Eq v u) _ _ s
  obtain rfl : u = Value.ref a := ry
  rcases h with ⟨vs, ha, h⟩ | ⟨vs, ha, h⟩ | ⟨vs, ha, h⟩
  · obtain ⟨its, _, p, _⟩ := I.tuple ha
    rcases h with ⟨i, rfl⟩ | rfl
    · obtain ⟨t, rfl⟩ := rx
      exact SeqAt.RcAt.int_tuple _ _ p hu _ _ _ _ ⟨.bl _, H, I, rfl, q⟩
    · obtain rfl : v = Value.none := rx
      exact SeqAt.RcAt.none_tuple p hu _ _ _ _ ⟨.bl _, H, I, rfl, q⟩
  · obtain ⟨its, _, p, _⟩ := I.list ha
    rcases h with ⟨i, rfl⟩ | rfl | ⟨b, us, rfl, hb⟩
    · obtain ⟨t, rfl⟩ := rx
      exact SeqAt.RcAt.int_list _ _ p.isList hu _ _ _ _ ⟨.bl _, H, I, rfl, q⟩
    · obtain rfl : v = Value.none := rx
      exact SeqAt.RcAt.none_list p.isList hu _ _ _ _ ⟨.bl _, H, I, rfl, q⟩
    · obtain rfl : v = Value.ref b := rx
      obtain ⟨its2, _, p2, _⟩ := I.tuple hb
      exact SeqAt.RcAt.tuple_list p2 p.isList hu _ _ _ _ ⟨.bl _, H, I, rfl, q⟩
  · have p := isDctR I ha
    rcases h with ⟨i, rfl⟩ | rfl | ⟨b, us, rfl, hb⟩
    · obtain ⟨t, rfl⟩ := rx
      exact SeqAt.RcAt.int_dict _ _ p hu _ _ _ _ ⟨.bl _, H, I, rfl, q⟩
    · obtain rfl : v = Value.none := rx
      exact SeqAt.RcAt.none_dict p hu _ _ _ _ ⟨.bl _, H, I, rfl, q⟩
    · obtain rfl : v = Value.ref b := rx
      obtain ⟨its2, _, p2, _⟩ := I.tuple hb
      exact SeqAt.RcAt.tuple_dict p2 p hu _ _ _ _ ⟨.bl _, H, I, rfl, q⟩
end
end VM

set_option maxRecDepth 100000
set_option maxHeartbeats 1000000
namespace VM
open PySem PySem.Spec PyProof.Rows L2
variable [HasT]
section
variable {X : Cx} {W : WX}
def rAddA (K : PySem.W.Frag) : R2 := fun x y H Q => rI0 (fun i j => .int (i + j)) x y H Q ∨ ((fun x y H Q => ∃ i j, x = .str i ∧ y = .str j ∧ i.length + j.length ≤ sizeLine ∧ Q (.str (i ++ j)) H) : R2) x y H Q ∨ rCatA K x y H Q ∨ rCat x y H Q
theorem op_addA : OpR X (binaryOp .Add) (rAddA X.K) := op_add.or (op_add_str.or (op_catA.or op_cat))
theorem o_add : OkR X W opAdd (rAddA X.K) := by
  intro L H h σ d1 d2 v1 v2 Q hr r1 r2 hp
  cases r1 with
  | int i =>
    cases r2 with
    | int j => exact .inl ⟨i, j, rfl, rfl, here hr hp (.int _)⟩
    | _ => exact hp.elim
  | str i =>
    cases r2 with
    | str j =>
      simp only [opAdd] at hp
      split at hp
      · rename_i hz
        exact .inr (.inl ⟨i, j, rfl, rfl, Nat.le_trans hz szl_le, here hr hp (.str _)⟩)
      · exact hp.elim
    | _ => exact hp.elim
  | @tup ds a xs ha ra =>
    cases r2 with
    | @tup es b ys hb rb =>
      simp only [opAdd] at hp
      split at hp
      · rename_i hz
        refine .inr (.inr (.inl ⟨a, b, xs, ys, rfl, rfl, ha, hb, ?_, fun e => ?_, fun e e2 => ?_, fun e e2 p np => ?_⟩))
        · rw [← ra.len, ← rb.len]; exact Nat.le_trans hz szl_le
        · refine here hr hp (.tup hb ?_)
          subst e
          cases ra
          exact rb
        · refine here hr hp (.tup ha ?_)
          subst e2
          cases rb
          rw [List.append_nil]
          exact ra
        · exact hp L _ _ (LE.refl _) (Keep.new np) (hr.new np) (.tup (.inl (.inl upd_same)) ((ra.app rb).mono (LE.refl _) (Keep.new np)))
      · exact hp.elim
    | _ => exact hp.elim
  | @ref i a ea =>
    cases r2 with
    | @ref j b eb =>
      simp only [opAdd] at hp
      split at hp
      · rename_i ds es e1 e2
        split at hp
        · rename_i hz
          obtain ⟨xs, q1, s1⟩ := hr.lst i a ds e1 ea
          obtain ⟨ys, q2, s2⟩ := hr.lst j b es e2 eb
          exact .inr (.inr (.inr ⟨a, b, xs, ys, rfl, rfl, q1, q2, by rw [← s1.len, ← s2.len]; exact Nat.le_trans hz szl_le, fun p np => allocd hr (s1.app s2) np hp⟩))
        · exact hp.elim
      · exact hp.elim
    | _ => exact hp.elim
  | _ => exact hp.elim
theorem o_sub : OkR X W opSub (rI0 fun i j => .int (i - j)) := by
  intro L H h σ d1 d2 v1 v2 Q hr r1 r2 hp
  cases r1 <;> cases r2 <;> first
    | exact hp.elim
    | exact ⟨_, _, rfl, rfl, here hr hp (.int _)⟩
theorem o_cmpI (p : Int → Int → Bool) : OkR X W (cmpI p) (rI0 fun i j => .bl (p i j)) := by
  intro L H h σ d1 d2 v1 v2 Q hr r1 r2 hp
  cases r1 <;> cases r2 <;> first
    | exact hp.elim
    | exact ⟨_, _, rfl, rfl, here hr hp (.bl _)⟩
def rLeV : R2 := fun x y H Q => rI0 (fun i j => .bl (decide (i ≤ j))) x y H Q ∨ ((fun x y H Q => ∃ i j, x = .str i ∧ y = .str j ∧ Q (.bl (!decide (j.cps.toList < i.cps.toList))) H) : R2) x y H Q
theorem op_leV : OpR X (compareOp .LtE) rLeV := op_le.or op_le_str
theorem o_le : OkR X W opLe rLeV := by
  intro L H h σ d1 d2 v1 v2 Q hr r1 r2 hp
  cases r1 <;> cases r2 <;> first
    | exact hp.elim
    | exact .inl ⟨_, _, rfl, rfl, here hr hp (.bl _)⟩
    | exact .inr ⟨_, _, rfl, rfl, here hr hp (.bl _)⟩
theorem o_mod : OkR X W opMod (rI (fun _ j => 0 < j) fun i j => .int (i % j)) := by
  intro L H h σ d1 d2 v1 v2 Q hr r1 r2 hp
  cases r1 <;> cases r2 <;> try exact hp.elim
  simp only [opMod] at hp
  split at hp
  · rename_i hz
    exact ⟨_, _, rfl, rfl, hz, here hr hp (.int _)⟩
  · exact hp.elim
theorem o_fdiv : OkR X W opFdiv (rI CDivW fun i j => .int (i / j)) := by
  intro L H h σ d1 d2 v1 v2 Q hr r1 r2 hp
  cases r1 <;> cases r2 <;> try exact hp.elim
  simp only [opFdiv] at hp
  split at hp
  · rename_i hz
    exact ⟨_, _, rfl, rfl, wide_div hz.1 hz.2 (by decide) (by decide), here hr hp (.int _)⟩
  · exact hp.elim
theorem o_pow : OkR X W opPow (rI CPow fun i j => .int (i ^ j.toNat)) := by
  intro L H h σ d1 d2 v1 v2 Q hr r1 r2 hp
  cases r1 <;> cases r2 <;> try exact hp.elim
  simp only [opPow] at hp
  split at hp
  · rename_i hz
    exact ⟨_, _, rfl, rfl, ⟨hz.1, by omega, hz.2.2⟩, here hr hp (.int _)⟩
  · exact hp.elim
theorem o_neg : OkU X W opNeg (rU fun i => .int (-i)) := by
  intro L H h σ d v Q hr r hp
  cases r <;> first
    | exact hp.elim
    | exact ⟨_, rfl, here hr hp (.int _)⟩
theorem o_is : OkR X W (opIs false) (fun x y H Q => (∃ a b, x = .bl a ∧ y = .bl b ∧ Q (.bl (decide (a = b))) H) ∨ (y = .non ∧ Q (.bl (decide (x = .non))) H)) := by
  intro L H h σ d1 d2 v1 v2 Q hr r1 r2 hp
  cases r2 <;> cases r1 <;> first
    | exact hp.elim
    | exact .inl ⟨_, _, rfl, rfl, here hr hp (.bl _)⟩
    | exact .inr ⟨rfl, here hr hp (by simp <;> exact .bl _)⟩
theorem o_isnot : OkR X W (opIs true) (fun x y H Q => (∃ a b, x = .bl a ∧ y = .bl b ∧ Q (.bl (!decide (a = b))) H) ∨ (y = .non ∧ Q (.bl (!decide (x = .non))) H)) := by
  intro L H h σ d1 d2 v1 v2 Q hr r1 r2 hp
  cases r2 <;> cases r1 <;> first
    | exact hp.elim
    | exact .inl ⟨_, _, rfl, rfl, here hr hp (.bl _)⟩
    | exact .inr ⟨rfl, here hr hp (by simp <;> exact .bl _)⟩
theorem op_is2 : OpR X (compareOp .Is) (fun x y H Q => (∃ a b, x = .bl a ∧ y = .bl b ∧ Q (.bl (decide (a = b))) H) ∨ (y = .non ∧ Q (.bl (decide (x = .non))) H)) := by
  intro pins s σ H x y v u Q I rx ry h
  rcases h with h | h
  · exact op_is_bl pins s σ H x y v u Q I rx ry h
  · exact op_isN pins s σ H x y v u Q I rx ry h
theorem op_isnot2 : OpR X (compareOp .IsNot) (fun x y H Q => (∃ a b, x = .bl a ∧ y = .bl b ∧ Q (.bl (!decide (a = b))) H) ∨ (y = .non ∧ Q (.bl (!decide (x = .non))) H)) := by
  intro pins s σ H x y v u Q I rx ry h
  rcases h with h | h
  · exact op_isnot_bl pins s σ H x y v u Q I rx ry h
  · exact op_notN pins s σ H x y v u Q I rx ry h
/-! == -/
mutual
theorem dp_of {K : PySem.W.Frag} {L : List Addr} {H : Hp} {h : Hv} (hr : HR K L H h) : ∀ (n : Nat) (d : D) (v : V) (p : PyData), Rel K L H d v → toP h n d = some p → Dp K H v p ∧ p.canLay0 = true ∧ p.depth ≤ n
  | n, .non, _, p, r, e => by cases r; cases n <;> (simp only [toP, Option.some.injEq] at e; subst e; exact ⟨.non, rfl, Nat.zero_le _⟩)
  | n, .bl b, _, p, r, e => by cases r; cases n <;> (simp only [toP, Option.some.injEq] at e; subst e; exact ⟨.bl b, rfl, Nat.zero_le _⟩)
  | n, .int b, _, p, r, e => by cases r; cases n <;> (simp only [toP, Option.some.injEq] at e; subst e; exact ⟨.int b, rfl, Nat.zero_le _⟩)
  | n, .str b, _, p, r, e => by
    cases r
    have e2 : (if PyData.strOk b = true then some (PyData.str b) else none) = some p := by cases n <;> (simp only [toP] at e; exact e)
    split at e2
    · rename_i z
      cases e2
      exact ⟨.str b, by simp only [PyData.canLay0]; exact z, Nat.zero_le _⟩
    · cases e2
  | 0, .tup ds, _, p, r, e => by simp [toP] at e
  | n + 1, .tup ds, _, p, r, e => by
    cases r with
    | tup ha ra =>
      simp only [toP, Option.map_eq_some_iff] at e
      obtain ⟨ps, e1, rfl⟩ := e
      obtain ⟨h1, h2, h3⟩ := dps_of hr n ds _ ps ra e1
      exact ⟨.tup ha h1, by simp only [PyData.canLay0]; exact h2, by simp only [PyData.depth]; omega⟩
  | 0, .fn i, _, p, r, e => by simp [toP] at e
  | n + 1, .fn i, _, p, r, e => by simp [toP] at e
  | 0, .exn _ _, _, p, r, e => by simp [toP] at e
  | n + 1, .exn _ _, _, p, r, e => by simp [toP] at e
  | 0, .ref i, _, p, r, e => by simp [toP] at e
  | n + 1, .ref i, _, p, r, e => by
    cases r with
    | ref ea =>
      simp only [toP] at e
      split at e
      · rename_i ds e0
        simp only [Option.map_eq_some_iff] at e
        obtain ⟨ps, e1, rfl⟩ := e
        obtain ⟨xs, q, s⟩ := hr.lst i _ ds e0 ea
        obtain ⟨h1, h2, h3⟩ := dps_of hr n ds _ ps s e1
        exact ⟨.lst (SqL.of q) h1, by simp only [PyData.canLay0]; exact h2, by simp only [PyData.depth]; omega⟩
      · cases e
termination_by n d => (n, 0, sizeOf d)
theorem dps_of {K : PySem.W.Frag} {L : List Addr} {H : Hp} {h : Hv} (hr : HR K L H h) : ∀ (n : Nat) (ds : List D) (vs : List V) (ps : List PyData), Rels K L H ds vs → toPs h n ds = some ps → DpAll K H vs ps ∧ PyData.canLayAll0 ps = true ∧ PyData.depthAll ps ≤ n
  | n, [], _, ps, r, e => by
    cases r
    have e2 : (some [] : Option (List PyData)) = some ps := by cases n <;> (simp only [toPs] at e; exact e)
    cases e2
    exact ⟨.nil, rfl, Nat.zero_le _⟩
  | n, d :: ds, _, ps, r, e => by
    cases r with
    | cons r1 r2 =>
      have e2 : (match toP h n d with
        | some p => (match toPs h n ds with
          | some ps => some (p :: ps)
          | none => none)
        | none => none) = some ps := by cases n <;> (simp only [toPs] at e; exact e)
      split at e2
      · rename_i p ep
        split at e2
        · rename_i qs eq
          cases e2
          obtain ⟨h1, h2, h3⟩ := dp_of hr n d _ p r1 ep
          obtain ⟨k1, k2, k3⟩ := dps_of hr n ds _ qs r2 eq
          exact ⟨.cons h1 k1, by simp only [PyData.canLayAll0, h2, k2, Bool.and_self], by simp only [PyData.depthAll]; omega⟩
        · cases e2
      · cases e2
termination_by n ds => (n, 1, sizeOf ds)
end
theorem shaped_of {p : PyData} (h : p.canLay0 = true) (h2 : p.depth ≤ 60) : SeqAt.shaped p = true := by
  unfold SeqAt.shaped
  rw [h, Bool.true_and]
  exact decide_eq_true (by omega)
def rEqU (K : PySem.W.Frag) : R2 := fun x y H Q => rEqD K x y H Q ∨ (rUn K x y H Q ∨ rUnB K x y H Q)
theorem op_eqU (hu : X.A.units + 64 < cLine) : OpR X (compareOp .Eq) (rEqU X.K) := (op_eqD hu).or ((op_un (by omega)).or (op_unB (by omega)))
theorem unlike_ok {L : List Addr} {H : Hp} {h : Hv} {d1 d2 : D} {v1 v2 : V} {Q : VK} (hr : HR X.K L H h) (r1 : Rel X.K L H d1 v1) (r2 : Rel X.K L H d2 v2) (e : unlikeD h d1 d2 = true) (q : Q (.bl false) H) : rUn X.K v1 v2 H Q ∨ rUnB X.K v1 v2 H Q := by
  unfold unlikeD at e
  split at e
  · cases r2
    cases r1 with
    | tup ha ra => exact .inl ⟨q, .inl ⟨_, _, _, rfl, ha, rfl⟩⟩
  · cases r2
    cases r1 with
    | ref ea =>
      split at e
      · rename_i e0
        obtain ⟨xs, q1, s⟩ := hr.lst _ _ _ e0 ea
        exact .inl ⟨q, .inr (.inl ⟨_, _, _, rfl, SqL.of q1, rfl⟩)⟩
      · rename_i e0
        obtain ⟨us, q1, s⟩ := hr.dct _ _ _ e0 ea
        exact .inl ⟨q, .inr (.inr (.inl ⟨_, _, _, rfl, q1, rfl⟩))⟩
      · cases e
  · cases r2 with
    | tup hb rb =>
      cases r1 with
      | ref ea =>
        split at e
        · rename_i e0
          obtain ⟨us, q1, s⟩ := hr.dct _ _ _ e0 ea
          exact .inl ⟨q, .inr (.inr (.inr (.inl ⟨_, _, _, _, rfl, q1, rfl, hb⟩)))⟩
        · cases e
  · cases r2 with
    | ref eb =>
      cases r1 with
      | ref ea =>
        split at e
        · rename_i e0 e1
          obtain ⟨us, q1, s⟩ := hr.dct _ _ _ e0 ea
          obtain ⟨xs, q2, s2⟩ := hr.lst _ _ _ e1 eb
          exact .inl ⟨q, .inr (.inr (.inr (.inr ⟨_, _, _, _, rfl, q1, rfl, SqL.of q2⟩)))⟩
        · cases e
  · cases r1
    cases r2 with
    | tup ha ra => exact .inr ⟨q, _, rfl, .inl ⟨_, ha, .inl ⟨_, rfl⟩⟩⟩
  · cases r1
    cases r2 with
    | tup ha ra => exact .inr ⟨q, _, rfl, .inl ⟨_, ha, .inr rfl⟩⟩
  · cases r1
    cases r2 with
    | @ref j a ea =>
      obtain ⟨o, ob⟩ := stdO_some e
      cases o with
      | lst ds =>
        obtain ⟨xs, q1, s⟩ := hr.lst _ _ _ ob ea
        exact .inr ⟨q, _, rfl, .inr (.inl ⟨_, SqL.of q1, .inl ⟨_, rfl⟩⟩)⟩
      | ro ds =>
        obtain ⟨xs, q1, s⟩ := hr.ro _ _ _ ob ea
        exact .inr ⟨q, _, rfl, .inr (.inl ⟨_, q1.seq, .inl ⟨_, rfl⟩⟩)⟩
      | dct ds =>
        obtain ⟨us, q1, s⟩ := hr.dct _ _ _ ob ea
        exact .inr ⟨q, _, rfl, .inr (.inr ⟨_, .inl q1, .inl ⟨_, rfl⟩⟩)⟩
      | rod ds =>
        obtain ⟨od, us, q1, s⟩ := hr.rod _ _ _ ob ea
        exact .inr ⟨q, _, rfl, .inr (.inr ⟨_, .inr ⟨_, q1⟩, .inl ⟨_, rfl⟩⟩)⟩
      | obj c fs => rw [ob] at e; cases e
  · cases r1
    cases r2 with
    | @ref j a ea =>
      obtain ⟨o, ob⟩ := stdO_some e
      cases o with
      | lst ds =>
        obtain ⟨xs, q1, s⟩ := hr.lst _ _ _ ob ea
        exact .inr ⟨q, _, rfl, .inr (.inl ⟨_, SqL.of q1, .inr (.inl rfl)⟩)⟩
      | ro ds =>
        obtain ⟨xs, q1, s⟩ := hr.ro _ _ _ ob ea
        exact .inr ⟨q, _, rfl, .inr (.inl ⟨_, q1.seq, .inr (.inl rfl)⟩)⟩
      | dct ds =>
        obtain ⟨us, q1, s⟩ := hr.dct _ _ _ ob ea
        exact .inr ⟨q, _, rfl, .inr (.inr ⟨_, .inl q1, .inr (.inl rfl)⟩)⟩
      | rod ds =>
        obtain ⟨od, us, q1, s⟩ := hr.rod _ _ _ ob ea
        exact .inr ⟨q, _, rfl, .inr (.inr ⟨_, .inr ⟨_, q1⟩, .inr (.inl rfl)⟩)⟩
      | obj c fs => rw [ob] at e; cases e
  · cases r2 with
    | @ref j a eb =>
      cases r1 with
      | tup hb rb =>
        obtain ⟨o, ob⟩ := stdO_some e
        cases o with
        | lst ds =>
          obtain ⟨xs, q1, s⟩ := hr.lst _ _ _ ob eb
          exact .inr ⟨q, _, rfl, .inr (.inl ⟨_, SqL.of q1, .inr (.inr ⟨_, _, rfl, hb⟩)⟩)⟩
        | ro ds =>
          obtain ⟨xs, q1, s⟩ := hr.ro _ _ _ ob eb
          exact .inr ⟨q, _, rfl, .inr (.inl ⟨_, q1.seq, .inr (.inr ⟨_, _, rfl, hb⟩)⟩)⟩
        | dct ds =>
          obtain ⟨us, q1, s⟩ := hr.dct _ _ _ ob eb
          exact .inr ⟨q, _, rfl, .inr (.inr ⟨_, .inl q1, .inr (.inr ⟨_, _, rfl, hb⟩)⟩)⟩
        | rod ds =>
          obtain ⟨od, us, q1, s⟩ := hr.rod _ _ _ ob eb
          exact .inr ⟨q, _, rfl, .inr (.inr ⟨_, .inr ⟨_, q1⟩, .inr (.inr ⟨_, _, rfl, hb⟩)⟩)⟩
        | obj c fs => rw [ob] at e; cases e
  · cases e
theorem o_eq : OkR X W (opEqD false) (rEqU X.K) := by
  intro L H h σ d1 d2 v1 v2 Q hr r1 r2 hp
  simp only [opEqD] at hp
  split at hp
  · rename_i p q e1 e2
    obtain ⟨a1, a2, a3⟩ := dp_of hr 60 d1 v1 p r1 e1
    obtain ⟨b1, b2, b3⟩ := dp_of hr 60 d2 v2 q r2 e2
    exact .inl ⟨p, q, a1, b1, shaped_of a2 a3, shaped_of b2 b3, here hr hp (.bl _)⟩
  · split at hp
    · rename_i e
      exact .inr (unlike_ok hr r1 r2 e.2 (here hr hp (.bl _)))
    · exact hp.elim
theorem o_ne : OkR X W (opEqD true) (rNeD X.K) := by
  intro L H h σ d1 d2 v1 v2 Q hr r1 r2 hp
  simp only [opEqD] at hp
  split at hp
  · rename_i p q e1 e2
    obtain ⟨a1, a2, a3⟩ := dp_of hr 60 d1 v1 p r1 e1
    obtain ⟨b1, b2, b3⟩ := dp_of hr 60 d2 v2 q r2 e2
    exact ⟨p, q, a1, b1, shaped_of a2 a3, shaped_of b2 b3, here hr hp (.bl _)⟩
  · split at hp
    · rename_i e
      exact absurd e.1 (by decide)
    · exact hp.elim
/-! sequences -/
theorem seq_of {K : PySem.W.Frag} {L : List Addr} {H : Hp} {h : Hv} (hr : HR K L H h) {d : D} {v : V} (r : Rel K L H d v) {z : List D × Guards} (e : seqOf d h = some z) :
    ∃ a xs, v = .ref a ∧ (SqL K H a xs ∨ SqT K H a xs) ∧ Rels K L H z.1 xs := by
  cases r with
  | tup ha ra =>
    simp only [seqOf, Option.some.injEq] at e
    subst e
    exact ⟨_, _, rfl, .inr ha, ra⟩
  | @ref i a ea =>
    simp only [seqOf] at e
    split at e
    · rename_i ds e0
      cases e
      obtain ⟨xs, q, s⟩ := hr.lst i a ds e0 ea
      exact ⟨a, xs, rfl, .inl (SqL.of q), s⟩
    · rename_i ds e0
      cases e
      obtain ⟨xs, q, s⟩ := hr.ro i a ds e0 ea
      exact ⟨a, xs, rfl, .inl q.seq, s⟩
    · cases e
  | _ => cases e
theorem flat_of {K : PySem.W.Frag} {L : List Addr} {H : Hp} {d : D} {v : V} (r : Rel K L H d v) (f : flatD d = true) : flatV v = true := by
  cases r <;> first
    | rfl
    | cases f
theorem flats_of {K : PySem.W.Frag} {L : List Addr} {H : Hp} : ∀ {ds : List D} {vs : List V}, Rels K L H ds vs → ds.all flatD = true → vs.all flatV = true
  | _, _, .nil, _ => rfl
  | _, _, .cons r t, f => by
    rw [List.all_cons, Bool.and_eq_true] at f
    rw [List.all_cons, flat_of r f.1, flats_of t f.2]; rfl
theorem eqV_of {K : PySem.W.Frag} {L : List Addr} {H : Hp} {d e : D} {v u : V} (r : Rel K L H d v) (q : Rel K L H e u) (f : flatD d = true) (g : flatD e = true) : eqV v u = eqD d e := by
  cases r <;> cases q <;> first
    | rfl
    | cases f
    | cases g
theorem inV_of {K : PySem.W.Frag} {L : List Addr} {H : Hp} {d : D} {v : V} (r : Rel K L H d v) (f : flatD d = true) : ∀ {ds : List D} {vs : List V}, Rels K L H ds vs → ds.all flatD = true → inV v vs = ds.any fun y => eqD y d
  | _, _, .nil, _ => rfl
  | _, _, .cons q t, g => by
    rw [List.all_cons, Bool.and_eq_true] at g
    have ih := inV_of r f t g.2
    unfold inV at ih ⊢
    rw [List.any_cons, List.any_cons, ih, eqV_of q r g.1 f]
/-- a dict's keys, over there -/
theorem key_rel {K : PySem.W.Frag} {L : List Addr} {H : Hp} {d : D} {v : V} (r : Rel K L H d v) {k : DKey} (e : keyD d = some k) : v = kV k := by
  cases r <;> cases e <;> rfl
theorem dct_of {K : PySem.W.Frag} {L : List Addr} {H : Hp} {h : Hv} (hr : HR K L H h) {d : D} {v : V} (r : Rel K L H d v) {kvs : List (DKey × D)} (e : dctAt d h = some kvs) : ∃ i a us, d = .ref i ∧ v = .ref a ∧ L[i]? = some a ∧ h[i]? = some (.dct kvs) ∧ H a = some (.dK us) ∧ KRs K L H kvs us := by
  cases r with
  | @ref i a ea =>
    simp only [dctAt] at e
    split at e
    · rename_i ds e0
      cases e
      obtain ⟨us, q, s⟩ := hr.dct i a _ e0 ea
      exact ⟨i, a, us, rfl, rfl, ea, e0, q, s⟩
    · cases e
  | _ => cases e
def rInK (neg : Bool) : R2 := fun x y H Q => ∃ a us k, y = .ref a ∧ H a = some (.dK us) ∧ x = kV k ∧ Q (.bl (if neg then !(valV us k).isSome else (valV us k).isSome)) H
theorem in_dct : OpR X (compareOp .In) (rInK false) := by
  intro pins s σ H x y v u Q I rx ry h
  obtain ⟨a, us, k, rfl, e, rfl, q⟩ := h
  cases ry
  obtain ⟨z, hd, vs, rel, dd⟩ := dk_of I.hok e
  refine wpAny_in_of (kV_is rx) hd dd.mapOf ?_
  rw [← (rel.val k).isSome_eq]
  exact ⟨.bl _, H, I.tok _, rfl, q⟩
theorem notIn_dct : OpR X (compareOp .NotIn) (rInK true) := by
  intro pins s σ H x y v u Q I rx ry h
  obtain ⟨a, us, k, rfl, e, rfl, q⟩ := h
  cases ry
  obtain ⟨z, hd, vs, rel, dd⟩ := dk_of I.hok e
  refine wpAny_notIn_of (kV_is rx) hd dd.mapOf ?_
  rw [← (rel.val k).isSome_eq]
  exact ⟨.bl _, H, I.tok _, rfl, q⟩
def rIxK : R2 := fun x y H Q => ∃ a us k v, x = .ref a ∧ H a = some (.dK us) ∧ y = kV k ∧ valV us k = some v ∧ Q v H
theorem ix_dct : IxR X rIxK := by
  intro value slice pins s σ H x y v u Q I rx ry h hs
  obtain ⟨a, us, k, z, rfl, e, rfl, l, q⟩ := h
  cases rx
  obtain ⟨_, hd, vs, rel, dd⟩ := dk_of I.hok e
  obtain ⟨w', hw, rw'⟩ := RelO.some_of (v := z) (o := valueAt vs k) (by rw [← l]; exact rel.val k)
  exact subscriptTail_builtinR (x := w') dd.typeIs PySem.F.slot_dict_getitem.lookup (wpAny_getItem_of (kV_is ry) dd.mapOf hw ⟨rfl, z, H, I.tok _, rw', q⟩) hs
def rSetK : V → V → V → Hp → (Hp → Prop) → Prop := fun o i v H Q => ∃ p us k, o = .ref p ∧ H p = some (.dK us) ∧ i = kV k ∧ us.length < sizeLine ∧ Q (upd H p (.dK (putK us k v)))
theorem set_dct : PSet X rSetK := by
  intro pins s σ H o i v ov iv u Q I ro ri rv h
  obtain ⟨p, us, k, rfl, e, rfl, l, q⟩ := h
  cases ro
  obtain ⟨z, hd, vs, rel, dd⟩ := dk_of I.hok e
  have hz : vs.length ≤ sizeLine := by rw [← rel.length]; exact z
  have hl : (putK us k v).length ≤ sizeLine := by have := length_putK us k v; omega
  refine wpAny_setItem_pairs (hsz := hz) (kV_is ri) dd fun h' dd' hs => ⟨_, ?_, q⟩
  have he : ∃ q, h'.get? p = some q := let ⟨q, _, _, hq, _⟩ := dd'; ⟨q, hq⟩
  exact d_write I (by rw [e]; exact True.intro) hs he (dk_new hl hd (rel.put k rv) dd')
def rSetV : V → V → V → Hp → (Hp → Prop) → Prop := fun o i v H Q => rSetL o i v H Q ∨ rSetK o i v H Q
theorem set_any : PSet X rSetV := by
  intro pins s σ H o i v ov iv u Q I ro ri rv h
  rcases h with h | h
  · exact set_list pins s σ H o i v ov iv u Q I ro ri rv h
  · exact set_dct pins s σ H o i v ov iv u Q I ro ri rv h
def rInP (K : PySem.W.Frag) (neg : Bool) : R2 := fun x y H Q => ∃ d ds, Dp K H x d ∧ Dp K H y (.list ds) ∧ SeqAt.shaped d = true ∧ SeqAt.shaped (.list ds) = true ∧ Q (.bl (if neg then !(ds.any fun z => PyData.eqv z d) else ds.any fun z => PyData.eqv z d)) H
def rInT (neg : Bool) : R2 := fun x y H Q => ∃ (c : Nat) (z : Str), x = .str ⟨#[c]⟩ ∧ y = .str z ∧ Q (.bl (if neg = true then !decide (c ∈ z.cps.toList) else decide (c ∈ z.cps.toList))) H
def rInV (K : PySem.W.Frag) (neg : Bool) : R2 := fun x y H Q => rIn K neg x y H Q ∨ rInK neg x y H Q ∨ rInP K neg x y H Q ∨ rInT neg x y H Q
theorem op_inV (hu : X.A.units + 65 < cLine) : OpR X (compareOp .In) (rInV X.K false) := op_in_seq.or (in_dct.or ((op_inD hu).or op_in_sign))
theorem op_notInV (hu : X.A.units + 65 < cLine) : OpR X (compareOp .NotIn) (rInV X.K true) := op_notIn_seq.or (notIn_dct.or ((op_notInD hu).or op_notIn_sign))
theorem inP_ok (neg : Bool) {L : List Addr} {H : Hp} {h : Hv} {σ : L2.St} {d1 d2 : D} {v1 v2 : V} {Q : VK} (hr : HR X.K L H h) (r1 : Rel X.K L H d1 v1) (r2 : Rel X.K L H d2 v2) (hp : pR X.K X.mg L H W σ Q (inP neg d1 d2 h)) : rInP X.K neg v1 v2 H Q := by
  unfold inP at hp
  split at hp
  · rename_i p ds e1 e2
    obtain ⟨a1, a2, a3⟩ := dp_of hr 50 d1 v1 p r1 e1
    obtain ⟨b1, b2, b3⟩ := dp_of hr 50 d2 v2 _ r2 e2
    exact ⟨p, ds, a1, b1, shaped_of a2 (by omega), shaped_of b2 (by omega), here hr hp (.bl _)⟩
  · exact hp.elim
def rIxV (K : PySem.W.Frag) : R2 := fun x y H Q => rIx K x y H Q ∨ rIxK x y H Q
theorem o_in (neg : Bool) : OkR X W (opIn neg) (rInV X.K neg) := by
  intro L H h σ d1 d2 v1 v2 Q hr r1 r2 hp
  simp only [opIn] at hp
  split at hp
  · rename_i z e
    split at hp
    · rename_i f
      obtain ⟨a, xs, rfl, sq, s⟩ := seq_of hr r2 e
      refine .inl ⟨a, xs, rfl, sq, flat_of r1 f.1, flats_of s f.2, ?_⟩
      rw [inV_of r1 f.1 s f.2]
      exact here hr hp (.bl _)
    · exact .inr (.inr (.inl (inP_ok neg hr r1 r2 hp)))
  · split at hp
    · rename_i t _
      split at hp
      · rename_i a
        split at hp
        · rename_i c ec
          cases r1
          cases r2
          have ea : a = ⟨#[c]⟩ := Str.ext' (Array.toList_inj.mp ec)
          subst ea
          exact .inr (.inr (.inr ⟨c, t, rfl, rfl, here hr hp (.bl _)⟩))
        · exact hp.elim
      · exact hp.elim
    split at hp
    · rename_i kvs k e1 e2
      obtain ⟨i, a, us, rfl, rfl, ea, e0, q, s⟩ := dct_of hr r2 e1
      refine .inr (.inl ⟨a, us, k, rfl, q, key_rel r1 e2, ?_⟩)
      have ee : (getD_ kvs k).isSome = (valV us k).isSome := by
        rcases s.get k with ⟨g1, g2⟩ | ⟨d, v, g1, g2, _⟩ <;> (rw [g1, g2]; rfl)
      rw [← ee]
      exact here hr hp (.bl _)
    · exact hp.elim
theorem atI_of {K : PySem.W.Frag} {L : List Addr} {H : Hp} {ds : List D} {vs : List V} (r : Rels K L H ds vs) {i : Int} {d : D} (e : atI ds i = some d) : ∃ v, atI vs i = some v ∧ Rel K L H d v := by
  unfold atI at e ⊢
  rw [r.len] at e
  cases q : ixN vs.length i with
  | none => rw [q] at e; cases e
  | some j =>
    rw [q] at e
    exact r.get e
theorem ixK_ok {L : List Addr} {H : Hp} {h : Hv} {σ : L2.St} {d1 d2 : D} {v1 v2 : V} {Q : VK} (hr : HR X.K L H h) (r1 : Rel X.K L H d1 v1) (r2 : Rel X.K L H d2 v2) (hp : pR X.K X.mg L H W σ Q (ixK d1 d2 h)) : rIxK v1 v2 H Q := by
  unfold ixK at hp
  split at hp
  · rename_i kvs k e1 e2
    obtain ⟨i, a, us, rfl, rfl, ea, e0, q, s⟩ := dct_of hr r1 e1
    split at hp
    · rename_i d e3
      rcases s.get k with ⟨g1, g2⟩ | ⟨d', v, g1, g2, r⟩
      · rw [g1] at e3; cases e3
      · rw [g1] at e3; cases e3
        exact ⟨a, us, k, v, rfl, q, key_rel r2 e2, g2, here hr hp r⟩
    · exact hp.elim
  · exact hp.elim
theorem o_ix : OkR X W opIx (rIxV X.K) := by
  intro L H h σ d1 d2 v1 v2 Q hr r1 r2 hp
  cases r2 with
  | int i =>
    have gen : ∀ {z : List D × Guards}, seqOf d1 h = some z → ∀ {d}, atI z.1 i = some d → pR X.K X.mg L H W σ Q (.ok d h) → rIxV X.K v1 (.int i) H Q := fun {z} ez {d} ed hq => by
      obtain ⟨a, xs, rfl, sq, s⟩ := seq_of hr r1 ez
      obtain ⟨v, e1, r⟩ := atI_of s ed
      rcases sq with sq | sq
      · exact .inl (.inl ⟨a, xs, i, v, rfl, rfl, sq, e1, here hr hq r⟩)
      · exact .inl (.inr (.inl ⟨a, xs, i, v, rfl, rfl, sq, e1, here hr hq r⟩))
    cases r1 with
    | str z =>
      simp only [opIx] at hp
      split at hp
      · rename_i hz
        split at hp
        · rename_i c e
          exact .inl (.inr (.inr ⟨z, i, c, rfl, rfl, Nat.le_trans hz szl_le, e, here hr hp (.str _)⟩))
        · exact hp.elim
      · exact hp.elim
    | tup ha ra =>
      simp only [opIx] at hp
      split at hp
      · rename_i z e
        split at hp
        · rename_i d e2
          exact gen e e2 hp
        · exact hp.elim
      · exact .inr (ixK_ok hr (.tup ha ra) (.int i) hp)
    | ref ea =>
      simp only [opIx] at hp
      split at hp
      · rename_i z e
        split at hp
        · rename_i d e2
          exact gen e e2 hp
        · exact hp.elim
      · exact .inr (ixK_ok hr (.ref ea) (.int i) hp)
    | non => exact .inr (ixK_ok hr .non (.int i) (by simpa only [opIx, seqOf] using hp))
    | bl b => exact .inr (ixK_ok hr (.bl b) (.int i) (by simpa only [opIx, seqOf] using hp))
    | int j => exact .inr (ixK_ok hr (.int j) (.int i) (by simpa only [opIx, seqOf] using hp))
    | fn s => exact .inr (ixK_ok hr (.fn s) (.int i) (by simpa only [opIx, seqOf] using hp))
    | exn e => exact .inr (ixK_ok hr (.exn e) (.int i) (by simpa only [opIx, seqOf] using hp))
  | str z => exact .inr (ixK_ok hr r1 (.str z) (by simpa only [opIx] using hp))
  | non => exact .inr (ixK_ok hr r1 .non (by simpa only [opIx] using hp))
  | bl b => exact .inr (ixK_ok hr r1 (.bl b) (by simpa only [opIx] using hp))
  | tup ha ra => exact .inr (ixK_ok hr r1 (.tup ha ra) (by simpa only [opIx] using hp))
  | ref ea => exact .inr (ixK_ok hr r1 (.ref ea) (by simpa only [opIx] using hp))
  | fn s => exact .inr (ixK_ok hr r1 (.fn s) (by simpa only [opIx] using hp))
  | exn e => exact .inr (ixK_ok hr r1 (.exn e) (by simpa only [opIx] using hp))
def rSlB (K : PySem.W.Frag) : V → Option Int → Option Int → Hp → VK → Prop := fun x lo hi H Q => rSlA K x lo hi H Q ∨ rSlL K x lo hi H Q ∨ rSlS x lo hi H Q
theorem sl_B : SlR X (rSlB X.K) := sl_tupA.or (sl_list.or sl_str)
theorem o_sl : ∀ L H h (σ : L2.St) d v l u Q, HR X.K L H h → Rel X.K L H d v → pR X.K X.mg L H W σ Q (opSl d l u h) → rSlB X.K v l u H Q := by
  intro L H h σ d v l u Q hr r hp
  cases r with
  | @tup ds a xs ha ra =>
    refine .inl ⟨a, xs, rfl, ha, fun e => here hr hp (.tup ha ?_), fun e p np => hp L _ _ (LE.refl _) (Keep.new np) (hr.new np) (.tup (.inl (.inl upd_same)) ((ra.cut l u).mono (LE.refl _) (Keep.new np)))⟩
    have z := ra.cut l u
    unfold cutV at z
    rw [e.1, e.2, List.drop_zero, Nat.sub_zero, List.take_length] at z
    exact z
  | @ref i a ea =>
    simp only [opSl] at hp
    split at hp
    · rename_i ds e0
      obtain ⟨xs, q, s⟩ := hr.lst i a ds e0 ea
      exact .inr (.inl ⟨a, xs, rfl, SqL.of q, fun p np => allocd hr (s.cut l u) np hp⟩)
    · exact hp.elim
  | str z =>
    simp only [opSl] at hp
    split at hp
    · rename_i hz
      exact .inr (.inr ⟨z, rfl, Nat.le_trans hz szl_le, here hr hp (.str _)⟩)
    · exact hp.elim
  | _ => exact hp.elim
/-! built-ins -/
def rLenB (K : PySem.W.Frag) : List V → Hp → VK → Prop := fun xs H Q => (∃ p ys, xs = [V.ref p] ∧ (SqL K H p ys ∨ SqT K H p ys) ∧ Q (.int ys.length) H) ∨ ∃ z : Str, xs = [V.str z] ∧ z.length ≤ sizeLine ∧ Q (.int z.length) H
theorem c_len : CallR X (.builtin "len") (rLenB X.K) := call_len_seq.or call_len_str
theorem one_of {K : PySem.W.Frag} {L : List Addr} {H : Hp} {d : D} {vs : List V} (r : Rels K L H [d] vs) : ∃ v, vs = [v] ∧ Rel K L H d v := by
  cases r with
  | cons a b => cases b; exact ⟨_, rfl, a⟩
theorem o_len : OkC X W bLen (rLenB X.K) := by
  intro L H h σ ds vs Q hr rs hp
  have gen : ∀ {d : D}, ds = [d] → ∀ {z}, seqOf d h = some z → pR X.K X.mg L H W σ Q (.ok (.int z.1.length) h) → rLenB X.K vs H Q := fun {d} e1 {z} e2 hq => by
    subst e1
    obtain ⟨v, rfl, r⟩ := one_of rs
    obtain ⟨a, xs, rfl, sq, s⟩ := seq_of hr r e2
    exact .inl ⟨a, xs, rfl, sq, here hr hq (by rw [s.len]; exact .int _)⟩
  unfold bLen at hp
  split at hp
  · rename_i z
    split at hp
    · rename_i hz
      obtain ⟨v, rfl, r⟩ := one_of rs
      cases r
      exact .inr ⟨z, rfl, Nat.le_trans hz szl_le, here hr hp (.int _)⟩
    · exact hp.elim
  · split at hp
    · rename_i z e
      exact gen rfl e hp
    · exact hp.elim
  · exact hp.elim
theorem o_abs : OkC X W bAbs (fun xs H Q => ∃ i, xs = [V.int i] ∧ Q (.int (if i < 0 then -i else i)) H) := by
  intro L H h σ ds vs Q hr rs hp
  unfold bAbs at hp
  split at hp
  · obtain ⟨v, rfl, r⟩ := one_of rs
    cases r
    exact ⟨_, rfl, here hr hp (.int _)⟩
  · exact hp.elim
def rIntB : List V → Hp → VK → Prop := fun xs H Q => ((∃ i, xs = [V.int i] ∧ Q (.int i) H) ∨ ∃ k, xs = [V.bl k] ∧ Q (.int (if k then 1 else 0)) H) ∨ ∃ a n, xs = [.str a] ∧ PySem.intText? a = some n ∧ a.length ≤ 640 ∧ Q (.int n) H
theorem c_int : CallR X (.type "int") rIntB := call_int1.or call_int_str
theorem o_int : OkC X W bInt rIntB := by
  intro L H h σ ds vs Q hr rs hp
  unfold bInt at hp
  split at hp
  · obtain ⟨v, rfl, r⟩ := one_of rs
    cases r
    exact .inl (.inl ⟨_, rfl, here hr hp (.int _)⟩)
  · obtain ⟨v, rfl, r⟩ := one_of rs
    cases r
    exact .inl (.inr ⟨_, rfl, here hr hp (.int _)⟩)
  · rename_i z
    split at hp
    · rename_i hz
      split at hp
      · rename_i n en
        obtain ⟨v, rfl, r⟩ := one_of rs
        cases r
        exact .inr ⟨z, n, rfl, en, hz, here hr hp (.int _)⟩
      · exact hp.elim
    · exact hp.elim
  · exact hp.elim
theorem call_str_non : CallR X (.type "str") (fun xs H Q => xs = [.non] ∧ Q (.str "None") H) := by
  intro pins s σ H xs us Q I r h
  obtain ⟨rfl, q⟩ := h
  obtain ⟨u, rfl, rv⟩ := vals1 r
  cases rv
  exact PySem.P.str_of_none ⟨.str _, H, I.tok _, ⟨_, rfl⟩, q⟩
def rStrB : List V → Hp → VK → Prop := fun xs H Q => (∃ i, xs = [V.int i] ∧ i.natAbs.log2 < 1920 ∧ Q (.str (toString i)) H) ∨ ((∃ a, xs = [.str a] ∧ Q (.str a) H) ∨ (xs = [.non] ∧ Q (.str "None") H))
theorem c_str : CallR X (.type "str") rStrB := call_str_int.or (SkE.call_str_str.or call_str_non)
theorem o_str : OkC X W bStr rStrB := by
  intro L H h σ ds vs Q hr rs hp
  unfold bStr at hp
  split at hp
  · rename_i i
    split at hp
    · rename_i hz
      obtain ⟨v, rfl, r⟩ := one_of rs
      cases r
      exact .inl ⟨_, rfl, hz, here hr hp (.str _)⟩
    · exact hp.elim
  · obtain ⟨v, rfl, r⟩ := one_of rs
    cases r
    exact .inr (.inl ⟨_, rfl, here hr hp (.str _)⟩)
  · obtain ⟨v, rfl, r⟩ := one_of rs
    cases r
    exact .inr (.inr ⟨rfl, here hr hp (.str _)⟩)
  · exact hp.elim
theorem two_of {K : PySem.W.Frag} {L : List Addr} {H : Hp} {d e : D} {vs : List V} (r : Rels K L H [d, e] vs) : ∃ v u, vs = [v, u] ∧ Rel K L H d v ∧ Rel K L H e u := by
  cases r with
  | cons a b =>
    obtain ⟨u, rfl, q⟩ := one_of b
    exact ⟨_, u, rfl, a, q⟩
theorem o_max : OkC X W bMax (fun xs H Q => ∃ i j, xs = [V.int i, .int j] ∧ Q (.int (if j > i then j else i)) H) := by
  intro L H h σ ds vs Q hr rs hp
  unfold bMax at hp
  split at hp
  · obtain ⟨v, u, rfl, r, q⟩ := two_of rs
    cases r
    cases q
    exact ⟨_, _, rfl, here hr hp (.int _)⟩
  · exact hp.elim
theorem o_min : OkC X W bMin (fun xs H Q => ∃ i j, xs = [V.int i, .int j] ∧ Q (.int (if j < i then j else i)) H) := by
  intro L H h σ ds vs Q hr rs hp
  unfold bMin at hp
  split at hp
  · obtain ⟨v, u, rfl, r, q⟩ := two_of rs
    cases r
    cases q
    exact ⟨_, _, rfl, here hr hp (.int _)⟩
  · exact hp.elim
theorem ints_of {K : PySem.W.Frag} {L : List Addr} {H : Hp} : ∀ {ds : List D} {vs : List V} {ns : List Int}, Rels K L H ds vs → intsD ds = some ns → vs = ns.map V.int
  | _, _, _, .nil, e => by simp only [intsD, Option.some.injEq] at e; subst e; rfl
  | d :: ds, _, _, .cons r t, e => by
    cases r with
    | int i =>
      simp only [intsD, Option.map_eq_some_iff] at e
      obtain ⟨ms, e1, rfl⟩ := e
      rw [List.map_cons, ints_of t e1]
    | _ => simp [intsD] at e
theorem bls_of {K : PySem.W.Frag} {L : List Addr} {H : Hp} : ∀ {ds : List D} {vs : List V} {ns : List Bool}, Rels K L H ds vs → blsD ds = some ns → vs = ns.map V.bl
  | _, _, _, .nil, e => by simp only [blsD, Option.some.injEq] at e; subst e; rfl
  | d :: ds, _, _, .cons r t, e => by
    cases r with
    | bl i =>
      simp only [blsD, Option.map_eq_some_iff] at e
      obtain ⟨ms, e1, rfl⟩ := e
      rw [List.map_cons, bls_of t e1]
    | _ => simp [blsD] at e
theorem lst_of {K : PySem.W.Frag} {L : List Addr} {H : Hp} {h : Hv} (hr : HR K L H h) {d : D} {v : V} (r : Rel K L H d v) {z : List D} (e : lstAt d h = some z) : ∃ a xs, v = .ref a ∧ SqL K H a xs ∧ Rels K L H z xs := by
  cases r with
  | @ref i a ea =>
    simp only [lstAt] at e
    split at e
    · rename_i ds e0
      cases e
      obtain ⟨xs, q, s⟩ := hr.lst i a _ e0 ea
      exact ⟨a, xs, rfl, SqL.of q, s⟩
    · rename_i ds e0
      cases e
      obtain ⟨xs, q, s⟩ := hr.ro i a _ e0 ea
      exact ⟨a, xs, rfl, q.seq, s⟩
    · cases e
  | _ => cases e
theorem o_sum : OkC X W bSum (rSum X.K) := by
  intro L H h σ ds vs Q hr rs hp
  unfold bSum at hp
  split at hp
  · split at hp
    · rename_i ns e
      obtain ⟨v, rfl, r⟩ := one_of rs
      obtain ⟨z, e1, e2⟩ := Option.bind_eq_some_iff.mp e
      obtain ⟨a, xs, rfl, sq, s⟩ := lst_of hr r e1
      have e3 := ints_of s e2
      subst e3
      exact ⟨a, ns, rfl, sq, here hr hp (.int _)⟩
    · exact hp.elim
  · exact hp.elim
theorem o_all : OkC X W bAll (rAll X.K) := by
  intro L H h σ ds vs Q hr rs hp
  unfold bAll at hp
  split at hp
  · split at hp
    · rename_i ns e
      obtain ⟨v, rfl, r⟩ := one_of rs
      obtain ⟨z, e1, e2⟩ := Option.bind_eq_some_iff.mp e
      obtain ⟨a, xs, rfl, sq, s⟩ := lst_of hr r e1
      have e3 := bls_of s e2
      subst e3
      exact ⟨a, ns, rfl, sq, here hr hp (.bl _)⟩
    · exact hp.elim
  · exact hp.elim
theorem o_any : OkC X W bAny (rAny X.K) := by
  intro L H h σ ds vs Q hr rs hp
  unfold bAny at hp
  split at hp
  · split at hp
    · rename_i ns e
      obtain ⟨v, rfl, r⟩ := one_of rs
      obtain ⟨z, e1, e2⟩ := Option.bind_eq_some_iff.mp e
      obtain ⟨a, xs, rfl, sq, s⟩ := lst_of hr r e1
      have e3 := bls_of s e2
      subst e3
      exact ⟨a, ns, rfl, sq, here hr hp (.bl _)⟩
    · exact hp.elim
  · exact hp.elim
theorem o_tuple : OkC X W bTuple (fun xs H Q => ∃ p ys, xs = [V.ref p] ∧ ((SqL X.K H p ys ∧ ∀ l, H l = none → Q (.ref l) (upd H l (.tup ys))) ∨ (SqT X.K H p ys ∧ Q (.ref p) H))) := by
  intro L H h σ ds vs Q hr rs hp
  unfold bTuple at hp
  split at hp
  · split at hp
    · rename_i z e
      obtain ⟨v, rfl, r⟩ := one_of rs
      obtain ⟨a, xs, rfl, sq, s⟩ := seq_of hr r e
      refine ⟨a, xs, rfl, ?_⟩
      rcases sq with sq | sq
      · exact .inl ⟨sq, fun p np => hp L _ _ (LE.refl _) (Keep.new np) (hr.new np) (.tup (.inl (.inl upd_same)) (s.mono (LE.refl _) (Keep.new np)))⟩
      · exact .inr ⟨sq, here hr hp (.tup sq s)⟩
    · exact hp.elim
  · exact hp.elim
theorem kD_rel {K : PySem.W.Frag} {L : List Addr} {H : Hp} (k : DKey) : Rel K L H (kD k) (kV k) := by
  cases k
  · exact .int _
  · exact .str _
theorem KRs.keys {K : PySem.W.Frag} {L L' : List Addr} {H H' : Hp} : ∀ {kvs : List (DKey × D)} {us : List (Key × V)}, KRs K L H kvs us → Rels K L' H' (kvs.map fun kv => kD kv.1) (us.map fun kv => kV kv.1)
  | [], [], _ => .nil
  | [], q :: us, r => by have := r.len; simp at this
  | p :: kvs, [], r => by have := r.len; simp at this
  | (a, e) :: kvs, (b, u) :: us, r => by
    obtain ⟨ek, r⟩ := r
    simp only [List.map_cons, List.cons.injEq] at ek r
    obtain ⟨rfl, ek⟩ := ek
    cases r with
    | cons r t => exact .cons (kD_rel a) (KRs.keys (kvs := kvs) (us := us) ⟨ek, t⟩)
def rListB (K : PySem.W.Frag) : List V → Hp → VK → Prop := fun xs H Q => (∃ p ys, xs = [V.ref p] ∧ (SqL K H p ys ∨ SqT K H p ys) ∧ ∀ l, H l = none → Q (.ref l) (upd H l (.lst ys))) ∨ rListD xs H Q
theorem c_list (hc : X.calm = true) : CallR X (.type "list") (rListB X.K) := call_list_of.or (call_list_dK hc)
theorem o_list : OkC X W bList (rListB X.K) := by
  intro L H h σ ds vs Q hr rs hp
  unfold bList at hp
  split at hp
  · split at hp
    · rename_i z e
      obtain ⟨v, rfl, r⟩ := one_of rs
      obtain ⟨a, xs, rfl, sq, s⟩ := seq_of hr r e
      exact .inl ⟨a, xs, rfl, sq, fun p np => allocd hr s np hp⟩
    · split at hp
      · rename_i kvs e2
        obtain ⟨v, rfl, r⟩ := one_of rs
        obtain ⟨i, a, us, rfl, rfl, ea, e0, q, s⟩ := dct_of hr r e2
        exact .inr ⟨a, us, rfl, q, fun p np => allocd hr s.keys np hp⟩
      · exact hp.elim
  · exact hp.elim
end
end VM

set_option maxRecDepth 100000
set_option maxHeartbeats 1000000
namespace VM
open PySem PySem.Spec PyProof.Rows L2
variable [HasT]

/-! ends of statements -/
def pS (K : PySem.W.Frag) (mg : Str → Option Value) (L : List Addr) (H : Hp) (W : WX) (D_ : Ends) : SR → Prop
  | .nx env h' => ∀ L' H' σ', LE L L' → Keep K H H' → HR K L' H' h' → SRel K L' H' env σ' → D_.nx σ' H'
  | .bk env h' => ∀ L' H' σ', LE L L' → Keep K H H' → HR K L' H' h' → SRel K L' H' env σ' → D_.bk σ' H'
  | .ct env h' => ∀ L' H' σ', LE L L' → Keep K H H' → HR K L' H' h' → SRel K L' H' env σ' → D_.ct σ' H'
  | .rt d h' => ∀ L' H' v, LE L L' → Keep K H H' → HR K L' H' h' → Rel K L' H' d v → D_.rt v H'
  | .exc c d env h' => ∀ L' H' σ' cv dx, LE L L' → Keep K H H' → HR K L' H' h' → SRel K L' H' env σ' → ExR K mg L' H' c d cv dx → W cv dx σ' H'
  | .stuck => False
abbrev Fs := Env → Hv → SR
def tS (X : Cx) (W : WX) (f : Fs) : TS := fun D_ σ H => ∃ L h env, HR X.K L H h ∧ SRel X.K L H env σ ∧ pS X.K X.mg L H W D_ (f env h)
section
variable {K : PySem.W.Frag} {mg : Str → Option Value} {L L' : List Addr} {H H' : Hp} {h h' : Hv} {W : WX} {σ : L2.St} {D_ : Ends}
theorem pS.mono {r : SR} (p : pS K mg L H W D_ r) (le : LE L L') (kp : Keep K H H') : pS K mg L' H' W D_ r := by
  cases r with
  | nx e h1 => exact fun L2 H2 s l k => p L2 H2 s (le.trans l) (kp.trans k)
  | bk e h1 => exact fun L2 H2 s l k => p L2 H2 s (le.trans l) (kp.trans k)
  | ct e h1 => exact fun L2 H2 s l k => p L2 H2 s (le.trans l) (kp.trans k)
  | rt d h1 => exact fun L2 H2 s l k => p L2 H2 s (le.trans l) (kp.trans k)
  | exc c d e h1 => exact fun L2 H2 s cv dx l k => p L2 H2 s cv dx (le.trans l) (kp.trans k)
  | stuck => exact p
/-- an expression first -/
theorem pS.then_ {r : R D} {env : Env} {g : D → Hv → SR} {REST : VK} (sr : SRel K L H env σ) (p : pS K mg L H W D_ (r.thenS env g))
    (k : ∀ a h1 L1 H1 b, LE L L1 → Keep K H H1 → HR K L1 H1 h1 → Rel K L1 H1 a b → pS K mg L1 H1 W D_ (g a h1) → REST b H1) : pR K mg L H W σ REST r := by
  cases r with
  | ok a h1 => exact fun L1 H1 b le kp hr rl => k a h1 L1 H1 b le kp hr rl (pS.mono p le kp)
  | exc c d h1 => exact fun L1 H1 cv dx le kp hr ex => p L1 H1 σ cv dx le kp hr (sr.mono le kp) ex
  | stuck => exact p
theorem pS.thenT {r : R D} {env : Env} {g : D → Hv → SR} {REST : Bool → Hp → Prop} (sr : SRel K L H env σ) (p : pS K mg L H W D_ (r.thenS env g)) (st : ∀ d h, (∀ b, d ≠ .bl b) → g d h = .stuck)
    (k : ∀ b h1 L1 H1, LE L L1 → Keep K H H1 → HR K L1 H1 h1 → pS K mg L1 H1 W D_ (g (.bl b) h1) → REST b H1) : pT K mg L H W σ REST r := by
  cases r with
  | ok d h1 =>
    have p' : pS K mg L H W D_ (g d h1) := p
    cases d with
    | bl b => exact fun L1 H1 le kp hr => k b h1 L1 H1 le kp hr (p'.mono le kp)
    | _ => exact absurd p' (by rw [st _ h1 (by intro b z; cases z)]; exact id)
  | exc c d h1 => exact fun L1 H1 cv dx le kp hr ex => p L1 H1 σ cv dx le kp hr (sr.mono le kp) ex
  | stuck => exact p
end

/-! targets -/
def Off (fp : List Nat) (σ σ' : L2.St) : Prop := σ'.length = σ.length ∧ ∀ j, j ∉ fp → σ'[j]? = σ[j]?
theorem Off.trans {fp fq : List Nat} {σ σ1 σ2 : L2.St} (a : Off fp σ σ1) (b : Off fq σ1 σ2) : Off (fp ++ fq) σ σ2 :=
  ⟨b.1.trans a.1, fun j hj => (b.2 j fun z => hj (List.mem_append_right _ z)).trans (a.2 j fun z => hj (List.mem_append_left _ z))⟩
def tG (K : PySem.W.Frag) (fp : List Nat) (f : TF) : TG := fun v σ H Q => ∃ L h env d env', HR K L H h ∧ SRel K L H env σ ∧ Rel K L H d v ∧ f d env h = some env' ∧ ∀ σ', SRel K L H env' σ' → Off fp σ σ' → Q σ' H
def tGs (K : PySem.W.Frag) (fp : List Nat) (fs : List TF) : TGs := fun vs σ H Q => ∃ L h env ds env', HR K L H h ∧ SRel K L H env σ ∧ Rels K L H ds vs ∧ tgsT fs ds env h = some env' ∧ ∀ σ', SRel K L H env' σ' → Off fp σ σ' → Q σ' H
theorem PG.weak {X : Cx} {e : Expr} {t t' : TG} (h : PG X e t) (w : ∀ v σ H Q, t' v σ H Q → t v σ H Q) : PG X e t' := ⟨fun pins s σ H v u Q I r q => h.run pins s σ H v u Q I r (w v σ H Q q)⟩
theorem PGs.weak {X : Cx} {e : List Expr} {t t' : TGs} (h : PGs X e t) (w : ∀ v σ H Q, t' v σ H Q → t v σ H Q) : PGs X e t' := ⟨fun pins s σ H v u Q I r q => h.run pins s σ H v u Q I r (w v σ H Q q)⟩
section
variable {X : Cx} {W : WX} {pos : Pos}
theorem g_name {i : Nat} {x : Str} (hN : X.N.Nodup) (hi : X.N[i]? = some x) (hx : Loc X.env.scope x) (hf : X.fn x = true ∨ X.env.scope.names.lookup x = some .local) : PG X (.Name x pos) (tG X.K [i] (nmT i)) :=
  PG.weak (pg_name hN hi hx hf) fun v σ H Q ⟨L, h, env, d, env', hr, sr, r, e, q⟩ => by
    unfold nmT at e
    split at e
    · cases e
      exact q _ (sr.set r) ⟨List.length_set .., fun j hj => List.getElem?_set_ne (fun z => hj (by simp [z]))⟩
    · cases e
theorem gs_nil : PGs X [] (tGs X.K [] []) := PGs.weak pgs_nil fun v σ H Q ⟨L, h, env, ds, env', hr, sr, r, e, q⟩ => by
  cases r with
  | nil =>
    have e2 : some env = some env' := e
    cases e2
    exact ⟨rfl, q σ sr ⟨rfl, fun _ _ => rfl⟩⟩
  | cons _ _ => cases e
theorem gs_cons {e : Expr} {es : List Expr} {fp fq : List Nat} {f : TF} {fs : List TF} (h1 : PG X e (tG X.K fp f)) (h2 : PGs X es (tGs X.K fq fs)) (hs : (assignEach (e :: es) X.env).map (·.2) = assign e X.env :: (assignEach es X.env).map (·.2)) :
    PGs X (e :: es) (tGs X.K (fp ++ fq) (f :: fs)) := PGs.weak (pgs_cons h1 h2 hs) fun v σ H Q ⟨L, h, env, ds, env', hr, sr, r, e, q⟩ => by
  cases r with
  | nil => cases e
  | @cons d ds u us rd rs =>
    have e2 : (match f d env h with
      | some env1 => tgsT fs ds env1 h
      | none => none) = some env' := e
    split at e2
    · rename_i env1 e1
      exact ⟨u, us, rfl, L, h, env, d, env1, hr, sr, rd, e1, fun σ1 s1 o1 => ⟨L, h, env1, ds, env', hr, s1, rs, e2, fun σ2 s2 o2 => q σ2 s2 (o1.trans o2)⟩⟩
    · cases e2
theorem g_tup {es : List Expr} {k : Nat} {fp : List Nat} {fs : List TF} (hc : X.calm = true) (h : PGs X es (tGs X.K fp fs)) (hn : (assignEach es X.env).length = fs.length) (hst : (assignEach es X.env).findIdx? (·.1) = none) : PG X (.Tuple es k pos) (tG X.K fp (tupT fs)) := by
  have len : ∀ (fs : List TF) (ds : List D) (env env' : Env) (h : Hv), tgsT fs ds env h = some env' → ds.length = fs.length := by
    intro fs
    induction fs with
    | nil => intro ds env env' h e; cases ds with | nil => rfl | cons _ _ => cases e
    | cons f fs ih =>
      intro ds env env' h e
      cases ds with
      | nil => cases e
      | cons d ds =>
        simp only [tgsT] at e
        split at e
        · simp only [List.length_cons]; rw [ih _ _ _ _ e]
        · cases e
  refine ⟨fun pins s σ H v u Q I r hq => ?_⟩
  obtain ⟨L, h0, env, d, env', hr, sr, rd, e, q⟩ := hq
  cases rd with
  | @tup ds a xs ha ra =>
    have e2 : tgsT fs ds env h0 = some env' := e
    exact (pg_tup hc h hn hst).run pins s σ H _ u Q I r ⟨a, xs, rfl, ha, by rw [← ra.len]; exact len _ _ _ _ _ e2, L, h0, env, ds, env', hr, sr, ra, e2, q⟩
  | @ref i a ea =>
    simp only [tupT] at e
    split at e
    · rename_i ds e0
      obtain ⟨xs, q1, ra⟩ := hr.lst i a ds e0 ea
      exact (pg_lst hc h hn hst).run pins s σ H _ u Q I r ⟨a, xs, rfl, SqL.of q1, by rw [← ra.len]; exact len _ _ _ _ _ e, L, h0, env, ds, env', hr, sr, ra, e, q⟩
    · cases e
  | _ => cases e

/-! statements -/
variable {e c : Expr} {st : Stmt} {sts bs cs : List Stmt}
theorem s_nil : PSs X [] (tS X W fun env h => .nx env h) := PSs.weak pss_nil fun D_ σ H ⟨L, h, env, hr, sr, hp⟩ => hp L H σ (LE.refl _) (Keep.refl _) hr sr
theorem s_cons (C : Or) {f g : SF} (h1 : PS X st (tS X W (f C))) (h2 : PSs X sts (tS X W (g C))) : PSs X (st :: sts) (tS X W (seqS f g C)) :=
  PSs.weak (pss_cons h1 h2) fun D_ σ H ⟨L, h, env, hr, sr, hp⟩ => ⟨L, h, env, hr, sr, by
    unfold seqS at hp
    split at hp
    · rename_i env1 h1 e1
      rw [e1]
      exact fun L1 H1 σ1 le kp hr1 sr1 => ⟨L1, h1, env1, hr1, sr1, pS.mono hp le kp⟩
    · rename_i q
      cases z : f C env h with
      | nx e1 h1 => exact absurd z (q e1 h1)
      | bk _ _ => rw [z] at hp; exact hp
      | ct _ _ => rw [z] at hp; exact hp
      | rt _ _ => rw [z] at hp; exact hp
      | exc _ _ _ _ => rw [z] at hp; exact hp
      | stuck => rw [z] at hp; exact hp⟩
theorem s_pass (C : Or) : PS X (.Pass pos) (tS X W (nxS C)) := PS.weak ps_pass fun D_ σ H ⟨L, h, env, hr, sr, hp⟩ => hp L H σ (LE.refl _) (Keep.refl _) hr sr
theorem s_break (C : Or) : PS X (.Break pos) (tS X W (bkS C)) := PS.weak ps_break fun D_ σ H ⟨L, h, env, hr, sr, hp⟩ => hp L H σ (LE.refl _) (Keep.refl _) hr sr
theorem s_cont (C : Or) : PS X (.Continue pos) (tS X W (ctS C)) := PS.weak ps_continue fun D_ σ H ⟨L, h, env, hr, sr, hp⟩ => hp L H σ (LE.refl _) (Keep.refl _) hr sr
theorem s_exp (C : Or) {f : EF} (he : PE X e (tE X W (f C))) (hs : swapsWith e none pos.line X.env = pure false) : PS X (.Expr e pos) (tS X W (expS f C)) :=
  PS.weak (ps_expr he hs) fun D_ σ H ⟨L, h, env, hr, sr, hp⟩ => ⟨L, h, env, hr, sr, pS.then_ sr hp fun d h1 L1 H1 v le kp hr1 r1 hp1 => hp1 L1 H1 σ (LE.refl _) (Keep.refl _) hr1 (sr.mono le kp)⟩
theorem s_ret (C : Or) {f : EF} (he : PE X e (tE X W (f C))) : PS X (.Return (some e) pos) (tS X W (retS f C)) :=
  PS.weak (ps_ret he) fun D_ σ H ⟨L, h, env, hr, sr, hp⟩ => ⟨L, h, env, hr, sr, pS.then_ sr hp fun d h1 L1 H1 v le kp hr1 r1 hp1 => hp1 L1 H1 v (LE.refl _) (Keep.refl _) hr1 r1⟩
theorem s_retN (C : Or) : PS X (.Return none pos) (tS X W (retN C)) := PS.weak ps_retN fun D_ σ H ⟨L, h, env, hr, sr, hp⟩ => hp L H .non (LE.refl _) (Keep.refl _) hr .non
theorem s_if (C : Or) {fc : EF} {f g : SF} (hc : PT X c (tB X W (fc C))) (h1 : PSs X bs (tS X W (f C))) (h2 : PSs X cs (tS X W (g C))) : PS X (.If c bs cs pos) (tS X W (ifS fc f g C)) :=
  PS.weak (ps_if hc h1 h2) fun D_ σ H ⟨L, h, env, hr, sr, hp⟩ => ⟨L, h, env, hr, sr, pS.thenT sr hp (fun d h n => by cases d <;> first | rfl | exact absurd rfl (n _)) fun b h1 L1 H1 le kp hr1 hp1 => by
    cases b with
    | true => exact ⟨L1, h1, env, hr1, sr.mono le kp, hp1⟩
    | false => exact ⟨L1, h1, env, hr1, sr.mono le kp, hp1⟩⟩
/-- the wish of an assignment -/
theorem asg_ {t : TF} {fp : List Nat} (C : Or) {f : EF} {D_ : Ends} {σ : L2.St} {H : Hp} (q : tS X W (asgS t f C) D_ σ H) : tE X W (f C) σ H fun x H1 => tG X.K fp t x σ H1 D_.nx := by
  obtain ⟨L, h, env, hr, sr, hp⟩ := q
  refine ⟨L, h, env, hr, sr, pS.then_ sr hp fun d h1 L1 H1 v le kp hr1 r1 hp1 => ?_⟩
  split at hp1
  · rename_i env1 e1
    exact ⟨L1, h1, env, d, env1, hr1, sr.mono le kp, r1, e1, fun σ' sr' _ => hp1 L1 H1 σ' (LE.refl _) (Keep.refl _) hr1 sr'⟩
  · exact hp1.elim
theorem s_asg {tg : Expr} {t : TF} {fp : List Nat} (C : Or) {f : EF} (he : PE X e (tE X W (f C))) (hg : PG X tg (tG X.K fp t)) (hs : swapsWithSole [tg] e pos.line X.env = pure false) (hw : swappedStores [tg] e X.env = pure none)
    (h1 : (assignEach [tg] X.env).map (·.2) = [assign tg X.env]) : PS X (.Assign [tg] e pos) (tS X W (asgS t f C)) := PS.weak (ps_asg he hg hs hw h1) fun D_ σ H q => asg_ C q
theorem s_set {i : Nat} {x : Str} {pos' : Pos} (C : Or) {f : EF} (hN : X.N.Nodup) (hi : X.N[i]? = some x) (hx : Loc X.env.scope x) (he : PE X e (tE X W (f C))) (hs : swapsWith e (some (.Name x pos')) pos.line X.env = pure false) (hf : X.fn x = true ∨ X.env.scope.names.lookup x = some .local) :
    PS X (.Assign [.Name x pos'] e pos) (tS X W (asgS (nmT i) f C)) := PS.weak (ps_set hN hi hx he hs hf) fun D_ σ H ⟨L, h, env, hr, sr, hp⟩ => ⟨L, h, env, hr, sr, pS.then_ sr hp fun d h1 L1 H1 v le kp hr1 r1 hp1 => by
  unfold nmT at hp1
  split at hp1
  · rename_i env1 e1
    split at e1
    · cases e1
      exact hp1 L1 H1 _ (LE.refl _) (Keep.refl _) hr1 ((sr.mono le kp).set r1)
    · cases e1
  · exact hp1.elim⟩
theorem s_par {i j : Nat} {x y : Str} {a b : Expr} {px py pt : Pos} {kt k2 : Nat} {pt2 : Pos} (C : Or) {fa fb : EF} (hc : X.calm = true) (hN : X.N.Nodup) (hi : X.N[i]? = some x) (hj : X.N[j]? = some y) (hij : i ≠ j)
    (hx : X.env.scope.names.lookup x = some .local) (hy : X.env.scope.names.lookup y = some .local) (ha : PE X a (tE X W (fa C))) (hb : PE X b (tE X W (fb C)))
    (s1 : starEach (a :: [b]) X.env = (false, eval a X.env) :: starEach [b] X.env) (s2 : starEach (b :: []) X.env = (false, eval b X.env) :: starEach [] X.env)
    (hw : swappedStores [.Tuple [.Name x px, .Name y py] kt pt] (.Tuple [a, b] k2 pt2) X.env = pure (some [x, y]))
    (hs : swapsWithSole [.Tuple [.Name x px, .Name y py] kt pt] (.Tuple [a, b] k2 pt2) pos.line X.env = pure false) :
    PS X (.Assign [.Tuple [.Name x px, .Name y py] kt pt] (.Tuple [a, b] k2 pt2) pos) (tS X W (parS i j fa fb C)) :=
  PS.weak (ps_par hc hN hi hj hij hx hy (pa_cons ha (pa_cons hb pa_nil s2) s1) hw hs) fun D_ σ H ⟨L, h, env, hr, sr, hp⟩ => ⟨L, h, env, hr, sr, pS.then_ sr hp fun d h1 L1 H1 v le kp hr1 r1 hp1 => ⟨L1, h1, env, hr1, sr.mono le kp, pS.then_ (sr.mono le kp) hp1 fun d2 h2 L2 H2 v2 le2 kp2 hr2 r2 hp2 => by
    split at hp2
    · exact ⟨v, v2, rfl, hp2 L2 H2 _ (LE.refl _) (Keep.refl _) hr2 ((((sr.mono le kp).mono le2 kp2).set (r1.mono le2 kp2)).set r2)⟩
    · exact hp2.elim⟩⟩
/-- o[i] = e -/
theorem s_setL {o i : Expr} {tpos : Pos} (C : Or) {fo fi f : EF} (he : PE X e (tE X W (f C))) (ho : PE X o (tE X W (fo C))) (hi : PE X i (tE X W (fi C)))
    (ha : ∀ v, assign (.Subscript o i tpos) X.env v = (do
      let ov ← holding [v] (eval o X.env)
      let iv ← holding [v, ov] (eval i X.env)
      standAt tpos
      holding [v, ov, iv] (setItem ov iv v)
      release [v, ov, iv] [])) (hs : swapsWithSole [.Subscript o i tpos] e pos.line X.env = pure false) (hw : swappedStores [.Subscript o i tpos] e X.env = pure none)
    (h1 : (assignEach [.Subscript o i tpos] X.env).map (·.2) = [assign (.Subscript o i tpos) X.env]) : PS X (.Assign [.Subscript o i tpos] e pos) (tS X W (setS fo fi f C)) :=
  PS.weak (ps_asg he (pg_sub ho hi set_any ha) hs hw h1) fun D_ σ H ⟨L, h, env, hr, sr, hp⟩ => ⟨L, h, env, hr, sr, pS.then_ sr hp fun d h1 L1 H1 v le kp hr1 r1 hp1 => ⟨L1, h1, env, hr1, sr.mono le kp, pS.then_ (sr.mono le kp) hp1 fun x h2 L2 H2 vx le2 kp2 hr2 r2 hp2 =>
    ⟨L2, h2, env, hr2, (sr.mono le kp).mono le2 kp2, pS.then_ ((sr.mono le kp).mono le2 kp2) hp2 fun k h3 L3 H3 vk le3 kp3 hr3 r3 hp3 => by
      split at hp3
      · rename_i h4 e4
        have r1' := (r1.mono le2 kp2).mono le3 kp3
        have r2' := r2.mono le3 kp3
        cases r2' with
        | @ref p a ea =>
          simp only [setL] at e4
          split at e4
          · rename_i ds e0
            cases r3 with
            | int z =>
              simp only at e4
              split at e4
              · rename_i j ej
                cases e4
                obtain ⟨xs, q, s⟩ := hr3.lst p a ds e0 ea
                exact .inl ⟨a, xs, z, j, rfl, rfl, q, by rw [← s.len]; exact ej, hp3 L3 _ σ (LE.refl _) (Keep.setL q) (hr3.set e0 ea (s.set r1' j)) ((((sr.mono le kp).mono le2 kp2).mono le3 kp3).mono (LE.refl _) (Keep.setL q))⟩
              · cases e4
            | _ => cases e4
          · rename_i kvs e0
            split at e4
            · rename_i key ek
              split at e4
              · rename_i hl
                cases e4
                obtain ⟨us, q, s⟩ := hr3.dct p a kvs e0 ea
                exact .inr ⟨a, us, key, rfl, q, key_rel r3 ek, Nat.lt_of_lt_of_le (by rw [← s.len]; exact hl) szl_le, hp3 L3 _ σ (LE.refl _) (Keep.setD q) (hr3.setD e0 ea (s.put key r1')) ((((sr.mono le kp).mono le2 kp2).mono le3 kp3).mono (LE.refl _) (Keep.setD q))⟩
              · cases e4
            · cases e4
          · cases e4
        | _ => cases e4
      · exact hp3.elim⟩⟩⟩

/-! what is walked -/
theorem guards_at {gs : Guards} {h : Hv} (g : guardsOk gs h = true) {i : Nat} {ds : List D} (m : (i, ds) ∈ gs) : h[i]? = some (.lst ds) ∨ h[i]? = some (.ro ds) := of_decide_eq_true (List.all_eq_true.mp g _ m)
def WalkOk (K : PySem.W.Frag) (L0 : List Addr) (H0 : Hp) (J : It) (items : List D) (gs : Guards) : Prop := ∀ L H h i, LE L0 L → Keep K H0 H → HR K L H h → guardsOk gs h = true →
  (∀ d, items[i]? = some d → J.go i H ∧ ∀ x H', J.yld i H x H' → Keep K H H' ∧ HR K L H' h ∧ Rel K L H' d x) ∧ (i = items.length → J.stop i H)
def tI (X : Cx) (W : WX) (f : Env → Hv → R (List D × Guards)) : TI := fun σ H Q => ∃ L h env, HR X.K L H h ∧ SRel X.K L H env σ ∧ pRg (fun L H (z : List D × Guards) J => WalkOk X.K L H J z.1 z.2) X.K X.mg L H W σ Q (f env h)
theorem PI.weak {X : Cx} {tg e : Expr} {t t' : TI} (h : PI X tg e t) (w : ∀ σ H Q, t' σ H Q → t σ H Q) : PI X tg e t' := ⟨fun pins s σ H Q I q => h.run pins s σ H Q I (w σ H Q q)⟩
theorem walk_tupW {K : PySem.W.Frag} {L : List Addr} {H : Hp} {a : Addr} {ds : List D} {xs : List V} (ha : SqT K H a xs) (r : Rels K L H ds xs) : WalkOk K L H (Itt K a) ds [] := by
  intro L1 H1 h i le kp hr _
  refine ⟨fun d e => ?_, fun e => ?_⟩
  · obtain ⟨v, e1, rv⟩ := r.get e
    refine ⟨⟨xs, v, kp.tup _ _ ha, e1⟩, fun x H' y => ?_⟩
    obtain ⟨rfl, f⟩ := y
    have e2 := f xs (kp.tup _ _ ha)
    rw [e1] at e2
    cases e2
    exact ⟨Keep.refl _, hr, rv.mono le kp⟩
  · exact ⟨xs, kp.tup _ _ ha, by rw [e, r.len]; exact Nat.le_refl _⟩
theorem walk_lstW {K : PySem.W.Frag} {L : List Addr} {H : Hp} {a : Addr} {p : Nat} {ds : List D} (ea : L[p]? = some a) : WalkOk K L H (Itl K a) ds [(p, ds)] := by
  intro L1 H1 h i le kp hr g
  have at_ : ∃ xs, SqL K H1 a xs ∧ Rels K L1 H1 ds xs := by
    rcases guards_at g (List.mem_cons_self ..) with z | z
    · obtain ⟨xs, q, r⟩ := hr.lst p a ds z (le _ _ ea)
      exact ⟨xs, SqL.of q, r⟩
    · obtain ⟨xs, q, r⟩ := hr.ro p a ds z (le _ _ ea)
      exact ⟨xs, q.seq, r⟩
  obtain ⟨xs, sq, r⟩ := at_
  refine ⟨fun d e => ?_, fun e => ⟨xs, sq, by rw [e, r.len]; exact Nat.le_refl _⟩⟩
  obtain ⟨v, e1, rv⟩ := r.get e
  refine ⟨⟨xs, v, sq, e1⟩, fun x H' y => ?_⟩
  obtain ⟨rfl, f⟩ := y
  have e2 := f xs sq
  rw [e1] at e2
  cases e2
  exact ⟨Keep.refl _, hr, rv⟩
theorem rng_get {lo : Int} {n i : Nat} {d : D} (e : (rng lo n)[i]? = some d) : i < n ∧ d = .int (lo + (i : Nat)) := by
  unfold rng at e
  rw [List.getElem?_map] at e
  cases q : (List.range n)[i]? with
  | none => rw [q] at e; cases e
  | some j =>
    rw [q] at e
    obtain ⟨h1, h2⟩ := List.getElem?_eq_some_iff.mp q
    rw [List.getElem_range] at h2
    subst h2
    exact ⟨by simpa using h1, (Option.some.inj e).symm⟩
theorem walk_rngW {K : PySem.W.Frag} {L : List Addr} {H : Hp} {lo : Int} {n : Nat} : WalkOk K L H (Itr lo n) (rng lo n) [] := by
  intro L1 H1 h i le kp hr g
  refine ⟨fun d e => ?_, fun e => by rw [e]; unfold rng; rw [List.length_map, List.length_range]; exact Nat.le_refl _⟩
  obtain ⟨hi, rfl⟩ := rng_get e
  refine ⟨hi, fun x H' y => ?_⟩
  obtain ⟨rfl, rfl⟩ := y
  exact ⟨Keep.refl _, hr, .int _⟩
theorem walk_strW {K : PySem.W.Frag} {L : List Addr} {H : Hp} {z : Str} : WalkOk K L H (Its z) (signsD z) [] := by
  have ln : (signsD z).length = z.cps.size := by simp [signsD]
  have at_ : ∀ i : Nat, (signsD z)[i]? = (z.cps[i]?).map fun c => D.str ⟨#[c]⟩ := fun i => by
    unfold signsD
    rw [List.getElem?_map, Array.getElem?_toList]
  intro L1 H1 h i le kp hr g
  refine ⟨fun d e => ?_, fun e => by rw [e, ln]; exact Nat.le_refl _⟩
  rw [at_, Option.map_eq_some_iff] at e
  obtain ⟨c, e1, rfl⟩ := e
  refine ⟨by obtain ⟨h1, _⟩ := Array.getElem?_eq_some_iff.mp e1; exact h1, fun x H' y => ?_⟩
  obtain ⟨rfl, c', e2, rfl⟩ := y
  rw [e1] at e2
  cases e2
  exact ⟨Keep.refl _, hr, .str _⟩
theorem i_e {tg : Expr} (C : Or) {f : EF} (he : PE X e (tE X W (f C))) : PI X tg e (tI X W (itE f C)) := by
  refine ⟨fun pins s σ H R_ I q => ?_⟩
  obtain ⟨L, h, env, hr, sr, hp⟩ := q
  have go : tE X W (f C) σ H fun x H1 => (∃ a, x = .ref a ∧ ((∃ xs, SqL X.K H1 a xs ∧ R_ (Itl X.K a) H1) ∨ ∃ xs, SqT X.K H1 a xs ∧ R_ (Itt X.K a) H1)) ∨ ∃ z, x = .str z ∧ R_ (Its z) H1 := by
    refine ⟨L, h, env, hr, sr, pRg.then_ hp fun d h1 L1 H1 v le kp hr1 r1 hp1 => ?_⟩
    split at hp1
    · rename_i z ez
      cases r1 with
      | @tup ds a xs ha ra =>
        cases ez
        exact .inl ⟨a, rfl, .inr ⟨xs, ha, hp1 L1 H1 _ (LE.refl _) (Keep.refl _) hr1 (walk_tupW ha ra)⟩⟩
      | @ref p a ea =>
        simp only [seqOf] at ez
        split at ez
        · rename_i ds e0
          cases ez
          obtain ⟨xs, q, s⟩ := hr1.lst p a ds e0 ea
          exact .inl ⟨a, rfl, .inl ⟨xs, SqL.of q, hp1 L1 H1 _ (LE.refl _) (Keep.refl _) hr1 (walk_lstW ea)⟩⟩
        · rename_i ds e0
          cases ez
          obtain ⟨xs, q, s⟩ := hr1.ro p a ds e0 ea
          exact .inl ⟨a, rfl, .inl ⟨xs, q.seq, hp1 L1 H1 _ (LE.refl _) (Keep.refl _) hr1 (walk_lstW ea)⟩⟩
        · cases ez
      | _ => cases ez
    · split at hp1
      · rename_i z _
        split at hp1
        · cases r1
          exact .inr ⟨z, rfl, hp1 L1 H1 _ (LE.refl _) (Keep.refl _) hr1 walk_strW⟩
        · exact hp1.elim
      · exact hp1.elim
  refine thn (he.run pins s σ H _ I go) fun v s1 ⟨x, H1, I1, r1, q0⟩ => ?_
  rcases q0 with ⟨a, ex, q1⟩ | ⟨z, ez, q1⟩
  rotate_left
  · subst ez
    obtain ⟨t, rfl⟩ := r1
    cases ha : z.cps.all (· < 128)
    · exact wpAny_pyIter_wide ha (pi_one (tk := s1.toks) I1 _ (turn_str _ z t "str_iterator" (.inr rfl)) ⟨_, Heap.get?_push_size _ rfl, rfl, rfl⟩ q1)
    · exact wpAny_pyIter_ascii ha (pi_one (tk := s1.toks) I1 _ (turn_str _ z t "str_ascii_iterator" (.inl rfl)) ⟨_, Heap.get?_push_size _ rfl, rfl, rfl⟩ q1)
  subst ex
  rcases q1 with ⟨xs, sq, q1⟩ | ⟨xs, sq, q1⟩
  · have t : PI X tg e (iList X.K fun _ H Q => H = H1 ∧ Q (.ref a) H) → True := fun _ => trivial
    cases r1
    obtain ⟨its, rv, pl, hz⟩ := I1.list sq
    refine wpAny_pyIter_list pl.isList ?_
    refine ⟨s1.heap.objs.size, [s1.heap.objs.size], _, _, H1, rfl, I1.kept (t' := s1.toks) fun b o e => Heap.get?_push_of_some _ e, turn_list a _, ⟨_, Heap.get?_push_size _ rfl, rfl, rfl⟩, fun b hb => ?_, q1⟩
    obtain rfl : b = s1.heap.objs.size := by simpa using hb
    exact I1.fpOk (Nat.le_refl _) (I1.hok.fresh (Nat.le_refl _))
  · cases r1
    obtain ⟨its, rv, pl, hz⟩ := I1.tuple sq
    refine wpAny_pyIter_tuple (show s1.heap.IsTuple a its.toArray from pl) ?_
    refine ⟨s1.heap.objs.size, [s1.heap.objs.size], _, _, H1, rfl, I1.kept (t' := s1.toks) fun b o e => Heap.get?_push_of_some _ e, turn_tuple a _, ⟨_, Heap.get?_push_size _ rfl, rfl, rfl⟩, fun b hb => ?_, q1⟩
    obtain rfl : b = s1.heap.objs.size := by simpa using hb
    exact I1.fpOk (Nat.le_refl _) (I1.hok.fresh (Nat.le_refl _))
theorem i_r1 {tg a : Expr} {p : Pos} (C : Or) {fa : EF} (hg : Gl X "range") (hm : X.mg "range" = none) (ha : PE X a (tE X W (fa C))) (s1 : starEach [a] X.env = (false, eval a X.env) :: starEach [] X.env) : PI X tg (.Call (.Name "range" p) [a] [] pos) (tI X W (it1F fa C)) :=
  PI.weak (pi_range1 hg hm (pa_cons ha pa_nil s1) (by rw [s1]; rfl)) fun σ H Q ⟨L, h, env, hr, sr, hp⟩ => ⟨L, h, env, hr, sr, pRg.then_ hp fun d h1 L1 H1 v le kp hr1 r1 hp1 => by
    cases r1 with
    | int j =>
      simp only at hp1
      split at hp1
      · rename_i hz
        exact ⟨j, rfl, by omega, by omega, hp1 L1 H1 _ (LE.refl _) (Keep.refl _) hr1 walk_rngW⟩
      · exact hp1.elim
    | _ => exact hp1.elim⟩
theorem i_r2 {tg a b : Expr} {p : Pos} (C : Or) {fa fb : EF} (hg : Gl X "range") (hm : X.mg "range" = none) (ha : PE X a (tE X W (fa C))) (hb : PE X b (tE X W (fb C))) (s1 : starEach [a, b] X.env = (false, eval a X.env) :: starEach [b] X.env) (s2 : starEach [b] X.env = (false, eval b X.env) :: starEach [] X.env) :
    PI X tg (.Call (.Name "range" p) [a, b] [] pos) (tI X W (it2F fa fb C)) :=
  PI.weak (pi_range2 hg hm (pa_cons ha (pa_cons hb pa_nil s2) s1) (by rw [s1, s2]; rfl) (by rw [s2]; rfl)) fun σ H Q ⟨L, h, env, hr, sr, hp⟩ => ⟨L, h, env, hr, sr, pRg.then_ hp fun d h1 L1 H1 v le kp hr1 r1 hp1 => ⟨L1, h1, env, hr1, sr.mono le kp, pRg.then_ hp1 fun d2 h2 L2 H2 v2 le2 kp2 hr2 r2 hp2 => by
    cases r1 with
    | int i =>
      cases r2 with
      | int j =>
        simp only at hp2
        split at hp2
        · rename_i hz
          exact ⟨i, j, rfl, ⟨by omega, by omega, by omega, by omega⟩, hp2 L2 H2 _ (LE.refl _) (Keep.refl _) hr2 walk_rngW⟩
        · exact hp2.elim
      | _ => exact hp2.elim
    | _ => exact hp2.elim⟩⟩
end
end VM

set_option maxRecDepth 100000
set_option maxHeartbeats 1000000
namespace VM
open PySem PySem.Spec PyProof.Rows L2
variable [HasT]
section
variable {X : Cx} {W : WX} {pos : Pos} {bs : List Stmt} {c : Expr}
/-- the walked thing first -/
theorem pS.thenI {K : PySem.W.Frag} {mg : Str → Option Value} {L : List Addr} {H : Hp} {σ : L2.St} {D_ : Ends} {r : R (List D × Guards)} {env : Env} {g : List D × Guards → Hv → SR} {REST : It → Hp → Prop} (sr : SRel K L H env σ) (p : pS K mg L H W D_ (r.thenI env g))
    (k : ∀ z h1 L1 H1 J, LE L L1 → Keep K H H1 → HR K L1 H1 h1 → WalkOk K L1 H1 J z.1 z.2 → pS K mg L1 H1 W D_ (g z h1) → REST J H1) : pRg (fun L H (z : List D × Guards) J => WalkOk K L H J z.1 z.2) K mg L H W σ REST r := by
  cases r with
  | ok a h1 => exact fun L1 H1 J le kp hr wk => k a h1 L1 H1 J le kp hr wk (pS.mono p le kp)
  | exc c d h1 => exact fun L1 H1 cv dx le kp hr ex => p L1 H1 σ cv dx le kp hr (sr.mono le kp) ex
  | stuck => exact p
theorem s_for {tg iter : Expr} {t : TF} {fp : List Nat} (C : Or) {fi : IF} {f : SF} (hp0 : PassesOwn (model X.prog X.w) X.A X.env X.xe) (hc : X.calm = true) (hi : PI X tg iter (tI X W (fi C))) (hg : PG X tg (tG X.K fp t)) (hb : PSs X bs (tS X W (f C)))
    (hs : ∀ x, foldedSetIterable iter X.env x = pure x) : PS X (.For tg iter bs [] pos) (tS X W (forS fi t f C)) := by
  refine PS.weak (ps_for hp0 hc hi hg hb hs) fun D_ σ H ⟨L, h, env, hr, sr, hp⟩ => ⟨L, h, env, hr, sr, pS.thenI sr hp fun z h1 L1 H1 J le kp hr1 wk hp1 => ?_⟩
  refine ⟨fun i m σ' H' => m = z.1.length - i ∧ i ≤ z.1.length ∧ ∃ L' h' env', LE L1 L' ∧ Keep X.K H1 H' ∧ HR X.K L' H' h' ∧ SRel X.K L' H' env' σ' ∧ pS X.K X.mg L' H' W D_ (forL C t (f) z.2 (z.1.drop i) env' h'), ⟨z.1.length, by simp, Nat.zero_le _, L1, h1, env, LE.refl _, Keep.refl _, hr1, sr.mono le kp, by rw [List.drop_zero]; exact hp1⟩, ?_⟩
  rintro i m σ' H' ⟨rfl, hi, L2, h2, env2, le2, kp2, hr2, sr2, hp2⟩
  by_cases hlt : i < z.1.length
  · rw [List.drop_eq_getElem_cons hlt] at hp2
    simp only [forL] at hp2
    split at hp2
    · rename_i gd
      obtain ⟨w1, _⟩ := wk L2 H' h2 i le2 kp2 hr2 gd
      obtain ⟨go, yl⟩ := w1 _ (List.getElem?_eq_getElem hlt)
      split at hp2
      · rename_i env3 e3
        refine .inr ⟨go, fun σ4 H4 => ∃ L' h' env', LE L1 L' ∧ Keep X.K H1 H4 ∧ HR X.K L' H4 h' ∧ SRel X.K L' H4 env' σ4 ∧ pS X.K X.mg L' H4 W D_ (forL C t (f) z.2 (z.1.drop (i + 1)) env' h'), fun σ4 H4 q => ⟨z.1.length - (i + 1), by omega, rfl, hlt, q⟩, fun x H3 y => ?_⟩
        obtain ⟨kp3, hr3, rx⟩ := yl x H3 y
        refine ⟨L2, h2, env2, _, env3, hr3, sr2.mono (LE.refl _) kp3, rx, e3, fun σ4 sr4 _ => ⟨L2, h2, env3, hr3, sr4, ?_⟩⟩
        have hp3 := pS.mono hp2 (LE.refl _) kp3
        cases q : f C env3 h2 with
        | nx env5 h5 =>
          rw [q] at hp3
          exact fun L5 H5 σ5 le5 kp5 hr5 sr5 => ⟨L5, h5, env5, le2.trans le5, (kp2.trans kp3).trans kp5, hr5, sr5, pS.mono hp3 le5 kp5⟩
        | ct env5 h5 =>
          rw [q] at hp3
          exact fun L5 H5 σ5 le5 kp5 hr5 sr5 => ⟨L5, h5, env5, le2.trans le5, (kp2.trans kp3).trans kp5, hr5, sr5, pS.mono hp3 le5 kp5⟩
        | bk env5 h5 => rw [q] at hp3; exact hp3
        | rt d h5 => rw [q] at hp3; exact hp3
        | exc c d e h5 => rw [q] at hp3; exact hp3
        | stuck => rw [q] at hp3; exact hp3
      · exact hp2.elim
    · exact hp2.elim
  · have e : i = z.1.length := by omega
    rw [List.drop_eq_nil_of_le (by omega)] at hp2
    simp only [forL] at hp2
    split at hp2
    · rename_i gd
      obtain ⟨_, w2⟩ := wk L2 H' h2 i le2 kp2 hr2 gd
      exact .inl ⟨w2 e, hp2 L2 H' σ' (LE.refl _) (Keep.refl _) hr2 sr2⟩
    · exact hp2.elim
theorem s_while (C : Or) {fc : EF} {f : SF} (hp0 : PassesOwn (model X.prog X.w) X.A X.env X.xe) (hc : PT X c (tB X W (fc C))) (hb : PSs X bs (tS X W (f C))) : PS X (.While c bs [] pos) (tS X W (whileS fc f C)) := by
  refine PS.weak (ps_while hp0 hc hb) fun D_ σ H ⟨L, h, env, hr, sr, hp⟩ => ?_
  refine ⟨fun m σ' H' => ∃ L' h' env', HR X.K L' H' h' ∧ SRel X.K L' H' env' σ' ∧ pS X.K X.mg L' H' W D_ (whileL C fc f m env' h'), ⟨wfuel, L, h, env, hr, sr, hp⟩, ?_⟩
  rintro m σ' H' ⟨L1, h1, env1, hr1, sr1, hp1⟩
  cases m with
  | zero => exact hp1.elim
  | succ m =>
    refine ⟨L1, h1, env1, hr1, sr1, pS.thenT sr1 hp1 (fun d h n => by cases d <;> first | rfl | exact absurd rfl (n _)) fun b h2 L2 H2 le2 kp2 hr2 hp2 => ?_⟩
    cases b with
    | true =>
      refine ⟨fun σ4 H4 => ∃ L' h' env', HR X.K L' H4 h' ∧ SRel X.K L' H4 env' σ4 ∧ pS X.K X.mg L' H4 W D_ (whileL C fc f m env' h'), fun σ4 H4 q => ⟨m, Nat.lt_succ_self m, q⟩, L2, h2, env1, hr2, sr1.mono le2 kp2, ?_⟩
      have hp3 : pS X.K X.mg L2 H2 W D_ (match f C env1 h2 with
        | .nx env2 h2 => whileL C fc f m env2 h2
        | .ct env2 h2 => whileL C fc f m env2 h2
        | .bk env2 h2 => .nx env2 h2
        | r => r) := hp2
      cases q : f C env1 h2 with
      | nx env5 h5 =>
        rw [q] at hp3
        exact fun L5 H5 σ5 le5 kp5 hr5 sr5 => ⟨L5, h5, env5, hr5, sr5, pS.mono hp3 le5 kp5⟩
      | ct env5 h5 =>
        rw [q] at hp3
        exact fun L5 H5 σ5 le5 kp5 hr5 sr5 => ⟨L5, h5, env5, hr5, sr5, pS.mono hp3 le5 kp5⟩
      | bk env5 h5 => rw [q] at hp3; exact hp3
      | rt d h5 => rw [q] at hp3; exact hp3
      | exc c d e h5 => rw [q] at hp3; exact hp3
      | stuck => rw [q] at hp3; exact hp3
    | false => exact hp2 L2 H2 σ' (LE.refl _) (Keep.refl _) hr2 (sr1.mono le2 kp2)
/-! comprehensions -/
theorem wipe_at (σ : L2.St) : ∀ (vs : List Nat) (j : Nat), (wipe σ vs)[j]? = if j ∈ vs then (σ[j]?).map (fun _ => none) else σ[j]?
  | [], j => by simp [wipe]
  | v :: vs, j => by
    unfold wipe
    by_cases hj : v = j
    · subst hj
      rw [if_pos (List.mem_cons_self ..)]
      by_cases hv : v < σ.length
      · rw [List.getElem?_set_self (by rw [wipe_length]; exact hv), List.getElem?_eq_getElem hv]; rfl
      · rw [List.getElem?_eq_none (by rw [List.length_set, wipe_length]; omega), List.getElem?_eq_none (by omega)]; rfl
    · rw [List.getElem?_set_ne hj, wipe_at σ vs j]
      by_cases hm : j ∈ vs
      · rw [if_pos hm, if_pos (List.mem_cons_of_mem _ hm)]
      · rw [if_neg hm, if_neg (by simp only [List.mem_cons, not_or]; exact ⟨fun z => hj z.symm, hm⟩)]
theorem wipe_off {σ σ' : L2.St} {fp vs : List Nat} (o : Off fp (wipe σ vs) σ') (sub : ∀ j ∈ fp, j ∈ vs) : wipe σ' vs = wipe σ vs := by
  apply List.ext_getElem?
  intro j
  by_cases hm : j ∈ vs
  · rw [wipe_at, wipe_at, if_pos hm, if_pos hm]
    have hl : σ'.length = σ.length := by rw [o.1, wipe_length]
    by_cases hj : j < σ.length
    · rw [List.getElem?_eq_getElem hj, List.getElem?_eq_getElem (by omega)]; rfl
    · rw [List.getElem?_eq_none (by omega), List.getElem?_eq_none (by omega)]
  · rw [wipe_at, if_neg hm]
    exact o.2 j fun z => hm (sub j z)
theorem pRg.noexc {α β : Type} {ρ : List Addr → Hp → α → β → Prop} {K : PySem.W.Frag} {mg : Str → Option Value} {L : List Addr} {H : Hp} {W W' : WX} {σ τ : L2.St} {Q : β → Hp → Prop} {r : R α} (p : pRg ρ K mg L H W σ Q r.noexc) : pRg ρ K mg L H W' τ Q r := by
  cases r with
  | ok a h => exact p
  | exc c d h => exact p.elim
  | stuck => exact p
abbrev W0 : WX := fun _ _ _ _ => False
theorem lc_read {own : List (Str × Nat)} {t : TF} {fp : List Nat} (C : Or) {fi : IF} {ft fe : EF} (sub : ∀ j ∈ fp, j ∈ own.map fun (q : Str × Nat) => q.2) : ∀ σ H Q, tE X W (lcF fi t (own.map fun (q : Str × Nat) => q.2) ft fe C) σ H Q → tLc (tI X W (fi C)) (tG X.K fp t) (tB X W0 (ft C)) (tE X W0 (fe C)) (own.map fun (q : Str × Nat) => q.2) σ H Q := by
  intro σ H Q ⟨L, h, env, hr, sr, hp⟩
  refine ⟨L, h, env, hr, sr, pRg.then_ hp fun z h1 L1 H1 J le kp hr1 wk hp1 => ?_⟩
  intro p np
  have hrN := hr1.alloc np (Rels.nil (K := X.K) (L := L1) (H := H1))
  have kpN : Keep X.K H1 (upd H1 p (.lst [])) := Keep.new np
  have leN := LE.app L1 [p]
  have atN : (L1 ++ [p])[h1.length]? = some p := by rw [← hr1.len]; simp
  have srN : SRel X.K (L1 ++ [p]) (upd H1 p (.lst [])) (wipeD env (own.map fun (q : Str × Nat) => q.2)) (wipe σ (own.map fun (q : Str × Nat) => q.2)) := ((sr.mono le kp).mono leN kpN).wipe _
  generalize hL : L1 ++ [p] = LN at *
  generalize hH : upd H1 p (.lst []) = HN at *
  have hp2 := pRg.mono hp1 leN kpN
  refine ⟨fun i m H' => m = z.1.length - i ∧ i ≤ z.1.length ∧ ∃ L' h', LE LN L' ∧ Keep X.K HN H' ∧ HR X.K L' H' h' ∧ pR X.K X.mg L' H' W σ Q ((lcLoop C (wipeD env (own.map fun (q : Str × Nat) => q.2)) t ft fe z.2 h1.length (z.1.drop i) h').noexc.bind fun _ h2 => .ok (.ref h1.length) h2),
    ⟨z.1.length, by simp, Nat.zero_le _, LN, _, LE.refl _, Keep.refl _, hrN, by rw [List.drop_zero]; exact hp2⟩, ?_⟩
  rintro i m H' ⟨rfl, hi, L2, h2, le2, kp2, hr2, hq2⟩
  by_cases hlt : i < z.1.length
  · rw [List.drop_eq_getElem_cons hlt] at hq2
    simp only [lcLoop] at hq2
    split at hq2
    · rename_i gd
      obtain ⟨w1, _⟩ := wk L2 H' h2 i (leN.trans le2) (kpN.trans kp2) hr2 gd
      obtain ⟨go, yl⟩ := w1 _ (List.getElem?_eq_getElem hlt)
      split at hq2
      · rename_i env3 e3
        refine .inr ⟨go, fun H4 => ∃ L' h', LE LN L' ∧ Keep X.K HN H4 ∧ HR X.K L' H4 h' ∧ pR X.K X.mg L' H4 W σ Q ((lcLoop C (wipeD env (own.map fun (q : Str × Nat) => q.2)) t ft fe z.2 h1.length (z.1.drop (i + 1)) h').noexc.bind fun _ h2 => .ok (.ref h1.length) h2), fun H4 q => ⟨z.1.length - (i + 1), by omega, rfl, hlt, q⟩, fun x H3 y => ?_⟩
        obtain ⟨kp3, hr3, rx⟩ := yl x H3 y
        refine ⟨L2, h2, _, _, env3, hr3, (srN.mono le2 kp2).mono (LE.refl _) kp3, rx, e3, fun σ4 sr4 off => ⟨wipe_off off sub, L2, h2, env3, hr3, sr4, ?_⟩⟩
        have hq3 := pRg.mono hq2 (LE.refl _) kp3
        -- the test
        cases qt : ft C env3 h2 with
        | stuck => rw [qt] at hq3; exact hq3.elim
        | exc c d h5 => rw [qt] at hq3; exact hq3.elim
        | ok d h5 =>
          rw [qt] at hq3
          cases d with
          | bl b =>
            intro L5 H5 le5 kp5 hr5
            have hq5 := pRg.mono hq3 le5 kp5
            cases b with
            | false =>
              refine (if_neg Bool.false_ne_true).mpr ?_
              exact ⟨L5, h5, le2.trans le5, (kp2.trans kp3).trans kp5, hr5, hq5⟩
            | true =>
              refine (if_pos rfl).mpr ?_
              refine ⟨L5, h5, env3, hr5, sr4.mono le5 kp5, ?_⟩
              cases qe : fe C env3 h5 with
              | stuck =>
                have z2 : pR X.K X.mg L5 H5 W σ Q (((fe C env3 h5).bind fun y h2 => (match h2[h1.length]? with
                  | some (.lst acc) => if acc.length < szl then lcLoop C (wipeD env (own.map fun (q : Str × Nat) => q.2)) t ft fe z.2 h1.length (z.1.drop (i + 1)) (h2.set h1.length (.lst (acc ++ [y]))) else .stuck
                  | _ => .stuck)).noexc.bind fun _ h2 => .ok (.ref h1.length) h2) := hq5
                rw [qe] at z2; exact z2.elim
              | exc c d h6 =>
                have z2 : pR X.K X.mg L5 H5 W σ Q (((fe C env3 h5).bind fun y h2 => (match h2[h1.length]? with
                  | some (.lst acc) => if acc.length < szl then lcLoop C (wipeD env (own.map fun (q : Str × Nat) => q.2)) t ft fe z.2 h1.length (z.1.drop (i + 1)) (h2.set h1.length (.lst (acc ++ [y]))) else .stuck
                  | _ => .stuck)).noexc.bind fun _ h2 => .ok (.ref h1.length) h2) := hq5
                rw [qe] at z2; exact z2.elim
              | ok y h6 =>
                have z2 : pR X.K X.mg L5 H5 W σ Q (((fe C env3 h5).bind fun y h2 => (match h2[h1.length]? with
                  | some (.lst acc) => if acc.length < szl then lcLoop C (wipeD env (own.map fun (q : Str × Nat) => q.2)) t ft fe z.2 h1.length (z.1.drop (i + 1)) (h2.set h1.length (.lst (acc ++ [y]))) else .stuck
                  | _ => .stuck)).noexc.bind fun _ h2 => .ok (.ref h1.length) h2) := hq5
                rw [qe] at z2
                intro L6 H6 vy le6 kp6 hr6 ry
                have z3 := pRg.mono z2 le6 kp6
                have z4 : pR X.K X.mg L6 H6 W σ Q ((match h6[h1.length]? with
                  | some (.lst acc) => if acc.length < szl then lcLoop C (wipeD env (own.map fun (q : Str × Nat) => q.2)) t ft fe z.2 h1.length (z.1.drop (i + 1)) (h6.set h1.length (.lst (acc ++ [y]))) else .stuck
                  | _ => .stuck).noexc.bind fun _ h2 => .ok (.ref h1.length) h2) := z3
                split at z4
                · rename_i acc ea
                  split at z4
                  · rename_i hz
                    have at6 : L6[h1.length]? = some p := le6 _ _ (le5 _ _ (le2 _ _ atN))
                    obtain ⟨xs, q, s⟩ := hr6.lst _ p acc ea at6
                    refine ⟨xs, q, Nat.lt_of_lt_of_le (by rw [← s.len]; exact hz) szl_le, L6, _, (le2.trans le5).trans le6, (((kp2.trans kp3).trans kp5).trans kp6).trans (Keep.setL q), hr6.set ea at6 (s.app (.cons ry .nil)), pRg.mono z4 (LE.refl _) (Keep.setL q)⟩
                  · exact z4.elim
                · exact z4.elim
          | _ => exact hq3.elim
      · exact hq2.elim
    · exact hq2.elim
  · have e : i = z.1.length := by omega
    rw [List.drop_eq_nil_of_le (by omega)] at hq2
    simp only [lcLoop] at hq2
    split at hq2
    · rename_i gd
      obtain ⟨_, w2⟩ := wk L2 H' h2 i (leN.trans le2) (kpN.trans kp2) hr2 gd
      exact .inl ⟨w2 e, hq2 L2 H' _ (LE.refl _) (Keep.refl _) hr2 (.ref (le2 _ _ atN))⟩
    · exact hq2.elim
end
end VM

set_option maxRecDepth 100000
set_option maxHeartbeats 4000000
/-! zip over inner iterators of either kind; one step of zip, whatever comes of it -/
namespace ZM
open PySem PySem.Spec PyProof.Rows L2
open PySem.Sem (wp)
def Cur (t : Bool) (h : Heap) (i l : Addr) (k : Nat) : Prop := match t with
  | true => h.IsTupleIter i l k
  | false => h.IsListIter i l k
def Src (t : Bool) (h : Heap) (l : Addr) (xs : Array Value) : Prop := match t with
  | true => h.IsTuple l xs
  | false => h.IsList l xs
theorem Cur.ext {t : Bool} {h g : Heap} {b i l : Addr} {k : Nat} (c : Cur t h i l k) (e : Heap.ExtBut b h g) (n : i ≠ b) : Cur t g i l k := by
  cases t
  · exact Heap.IsListIter.extBut c e n
  · exact Heap.IsTupleIter.extBut c e n
theorem Src.ext {t : Bool} {h g : Heap} {b l : Addr} {xs : Array Value} (c : Src t h l xs) (e : Heap.ExtBut b h g) (n : l ≠ b) : Src t g l xs := by
  cases t
  · exact Heap.IsList.extBut c e n
  · exact Heap.IsTuple.extBut c e n
theorem Cur.mv {t : Bool} {h g : Heap} {i l : Addr} {k : Nat} (c : Cur t h i l k) (e : ∀ o, h.get? i = some o → g.get? i = some o) : Cur t g i l k := by
  cases t
  · exact Heap.IsListIter.at c e
  · exact Heap.IsTupleIter.at c e
theorem Cur.obj {t : Bool} {h : Heap} {i l : Addr} {k : Nat} (c : Cur t h i l k) : ∃ o, h.get? i = some o ∧ ∀ v, o.data ≠ .cell v := by
  cases t
  · obtain ⟨o, e, _, d⟩ := c
    exact ⟨o, e, fun v q => by rw [d] at q; cases q⟩
  · obtain ⟨o, e, _, d⟩ := c
    exact ⟨o, e, fun v q => by rw [d] at q; cases q⟩
section
variable {prog : Program} {w : World} {A : Around} {E : Value → Shared → Prop} {s : Shared}
theorem cur_get {t : Bool} {i l : Addr} {k : Nat} {xs : Array Value} {x : Value} {Q : Value → Shared → Prop} (c : Cur t s.heap i l k) (d : Src t s.heap l xs) (hx : xs[k]? = some x)
    (hQ : ∀ g, Cur t g i l (k + 1) → Heap.SameBut i s.heap g → Q x { s with heap := g }) : wpAny (model prog w) A (Builtin.SmallTypes.nextOf (.ref i)) Q E s := by
  cases t
  · exact wpAny_nextOf_list_item c d hx hQ
  · exact RZ.nextOf_tuple_item c d hx hQ
theorem cur_out {t : Bool} {i l : Addr} {k : Nat} {xs : Array Value} {Q : Value → Shared → Prop} (hh : A.handled = none) (c : Cur t s.heap i l k) (d : Src t s.heap l xs) (hx : xs[k]? = none)
    (hE : ∀ g e, Heap.ExtBut i s.heap g → (∃ o, g.get? e = some o ∧ o.cls = .type "StopIteration") → E (.ref e) { s with heap := g }) : wpAny (model prog w) A (Builtin.SmallTypes.nextOf (.ref i)) Q E s := by
  cases t
  · exact wpAny_nextOf_list_end hh c d hx hE
  · exact RZ.nextOf_tuple_end hh c d hx hE
/-- what stays: all but the zip, the tuple it keeps, and the two inner iterators -/
def Rest (h g : Heap) (z to u v : Addr) : Prop := ∀ c o, c ≠ z → c ≠ to → c ≠ u → c ≠ v → h.get? c = some o → g.get? c = some o
theorem next_any {tu tv : Bool} {z ti to u v p q : Addr} {m n : Nat} {xs ys : Array Value} {a b : Value} {R : Fin → Shared → Prop} (hh : A.handled = none) (D : ZipApart z ti to u v p q)
    (gz : IsZip s.heap z ti to .none) (gi : IsPair s.heap ti (.ref u) (.ref v)) (go : IsPair s.heap to a b)
    (cu : Cur tu s.heap u p m) (cv : Cur tv s.heap v q n) (su : Src tu s.heap p xs) (sv : Src tv s.heap q ys)
    (hret : ∀ x y g, xs[m]? = some x → ys[n]? = some y → IsZip g z ti to (rawInt s.heap.objs.size) → IsPair g to x y → Cur tu g u p (m + 1) → Cur tv g v q (n + 1) → IsPair g s.heap.objs.size x y →
      g.objs.size = s.heap.objs.size + 1 → Rest s.heap g z to u v → R (.done (.ret (.ref s.heap.objs.size))) { s with heap := g })
    (hstop : (xs[m]? = none ∨ ys[n]? = none) → ∀ g e, Rest s.heap g z to u v → (∃ o, g.get? e = some o ∧ o.cls = .type "StopIteration") → E (.ref e) { s with heap := g }) :
    wpAny (model prog w) A (Builtin.«zip.__next__» ⟨[.ref z], []⟩) R E s := by
  show wpAny _ _ (field (.ref z) 2 >>= _) R E s
  refine wpAny_bind (wpAny_field gz rfl (x := .bool false) rfl ?_)
  show wpAny _ _ (field (.ref z) 3 >>= _) R E s
  refine wpAny_bind (wpAny_field gz rfl (x := .ref ti) rfl (wpAny_bind (wpAny_seqItems gi rfl ?_)))
  show wpAny _ _ (Builtin.SmallTypes.ownedTupleIsFree (.ref z) >>= _) R E s
  unfold Builtin.SmallTypes.ownedTupleIsFree
  refine wpAny_bind (wpAny_bind (wpAny_field gz rfl (x := .none) rfl (wpAny_pure ?_)))
  rw [if_pos (by rfl)]
  refine wpAny_bind (wpAny_rule (wpAny_bind (wpAny_field gz rfl (x := .ref to) rfl ?_)))
  refine wpAny_bind (wpAny_setField_rec gz (by simp) fun A1 z1 k1 => ?_)
  have z1 : IsZip A1 z ti to .ellipsis := z1
  simp only [List.zipIdx_cons, List.zipIdx_nil, List.forIn_cons, List.forIn_nil]
  refine wpAny_bind (wpAny_bind (wpAny_bind (wpAny_onRaise ?_)))
  show wpAny _ _ (Builtin.SmallTypes.nextOf (.ref u) >>= _) _ _ _
  have cu1 := cu.ext k1.extBut D.i1z
  have su1 := su.ext k1.extBut D.l1z
  rcases hx : xs[m]? with _ | x
  · refine wpAny_bind (cur_out hh cu1 su1 hx fun A2 e k2 ⟨oe, e1, e2⟩ => ?_)
    have z2 : IsZip A2 z ti to .ellipsis := k2 _ _ D.i1z.symm z1
    have ne : e ≠ z := by
      rintro rfl
      rw [z2] at e1
      cases e1
      simp at e2
    exact wpAny_setField_rec z2 (by simp) fun A3 _ k3 => hstop (.inl hx) A3 e (fun c o c1 _ c3 _ y => k3.extBut _ _ c1 (k2 _ _ c3 (k1.extBut _ _ c1 y))) ⟨oe, k3.extBut _ _ ne e1, e2⟩
  · refine wpAny_bind (cur_get cu1 su1 hx fun A2 cu2 k2 => wpAny_pure ?_)
    have o2 : IsPair A2 to a b := k2.extBut _ _ D.TOi1 (k1.extBut _ _ D.TOz go)
    refine wpAny_bind (wpAny_seqItems o2 rfl (wpAny_bind (wpAny_updateSeq_pair o2 fun A3 o3 k3 => ?_)))
    have o3 : IsPair A3 to x b := o3
    refine wpAny_bind (wpAny_letGo (wpAny_pure (wpAny_bind (wpAny_bind (wpAny_onRaise ?_)))))
    show wpAny _ _ (Builtin.SmallTypes.nextOf (.ref v) >>= _) _ _ _
    have cv3 := ((cv.ext k1.extBut D.i2z).ext k2.extBut D.i12.symm).ext k3.extBut D.TOi2.symm
    have sv3 := ((sv.ext k1.extBut D.l2z).ext k2.extBut D.l2i1).ext k3.extBut D.l2TO
    have z3 : IsZip A3 z ti to .ellipsis := k3.extBut _ _ D.TOz.symm (k2.extBut _ _ D.i1z.symm z1)
    have r3 : ∀ c o, c ≠ z → c ≠ to → c ≠ u → s.heap.get? c = some o → A3.get? c = some o := fun c o c1 c2 c3 y => k3.extBut _ _ c2 (k2.extBut _ _ c3 (k1.extBut _ _ c1 y))
    rcases hy : ys[n]? with _ | y
    · refine wpAny_bind (cur_out hh cv3 sv3 hy fun A4 e k4 ⟨oe, e1, e2⟩ => ?_)
      have z4 : IsZip A4 z ti to .ellipsis := k4 _ _ D.i2z.symm z3
      have ne : e ≠ z := by
        rintro rfl
        rw [z4] at e1
        cases e1
        simp at e2
      exact wpAny_setField_rec z4 (by simp) fun A5 _ k5 => hstop (.inr hy) A5 e (fun c o c1 c2 c3 c4 y => k5.extBut _ _ c1 (k4 _ _ c4 (r3 c o c1 c2 c3 y))) ⟨oe, k5.extBut _ _ ne e1, e2⟩
    · refine wpAny_bind (cur_get cv3 sv3 hy fun A4 cv4 k4 => wpAny_pure ?_)
      have o4 : IsPair A4 to x b := k4.extBut _ _ D.TOi2 o3
      refine wpAny_bind (wpAny_seqItems o4 rfl (wpAny_bind (wpAny_updateSeq_pair o4 fun A5 o5 k5 => ?_)))
      have o5 : IsPair A5 to x y := o5
      refine wpAny_bind (wpAny_letGo (wpAny_pure (wpAny_pure (wpAny_bind (wpAny_seqItems o5 rfl (wpAny_bind (wpAny_newTuple ?_)))))))
      have sz : A5.objs.size = s.heap.objs.size := by rw [k5.1, k4.1, k3.1, k2.1, k1.1]
      have z5 : IsZip A5 z ti to .ellipsis := k5.extBut _ _ D.TOz.symm (k4.extBut _ _ D.i2z.symm z3)
      have r5 : Rest s.heap A5 z to u v := fun c o c1 c2 c3 c4 y => k5.extBut _ _ c2 (k4.extBut _ _ c4 (r3 c o c1 c2 c3 y))
      have cu5 := ((cu2.ext k3.extBut D.TOi1.symm).ext k4.extBut D.i12).ext k5.extBut D.TOi1.symm
      have cv5 := cv4.ext k5.extBut D.TOi2.symm
      show wpAny _ _ (Builtin.SmallTypes.ownedTupleHandOut (.ref z) (.ref A5.objs.size) >>= _) _ _ _
      unfold Builtin.SmallTypes.ownedTupleHandOut
      have z6 : IsZip (A5.push { cls := .type "tuple", data := .seq #[x, y] }) z ti to .ellipsis := Heap.get?_push_of_some _ z5
      refine wpAny_bind (wpAny_bind (wpAny_setField_rec z6 (by simp) fun A7 z7 k7 => ?_))
      have z7 : IsZip A7 z ti to (rawInt A5.objs.size) := z7
      refine wpAny_setField_rec z7 (by simp) fun A8 z8 k8 => ?_
      have z8 : IsZip A8 z ti to (rawInt A5.objs.size) := z8
      have up : ∀ c o, c ≠ z → A5.get? c = some o → A8.get? c = some o := fun c o c1 e => k8.extBut _ _ c1 (k7.extBut _ _ c1 (Heap.get?_push_of_some _ e))
      have far : A5.objs.size ≠ z := Nat.ne_of_gt (Heap.lt_size z5)
      have t8 : IsPair A8 A5.objs.size x y := k8.extBut _ _ far (k7.extBut _ _ far (Heap.get?_push_size _ rfl))
      have s8 : A8.objs.size = A5.objs.size + 1 := by rw [k8.1, k7.1, Heap.size_push]
      rw [sz] at z8 t8 s8
      refine wpAny_pure ?_
      show R (.done (.ret (.ref A5.objs.size))) _
      rw [sz]
      exact hret x y A8 hx hy z8 (up _ _ D.TOz o5) (cu5.mv fun o e => up _ o D.i1z e) (cv5.mv fun o e => up _ o D.i2z e) t8 s8 fun c o c1 c2 c3 c4 e => up c o c1 (r5 c o c1 c2 c3 c4 e)
end
end ZM

set_option maxRecDepth 100000
set_option maxHeartbeats 4000000
namespace ZM
open PySem PySem.Spec PyProof.Rows L2
open PySem.Sem (wp)
section
variable {prog : Program} {w : World} {A : Around} {E : Value → Shared → Prop} {s : Shared}
theorem py_any {tu tv : Bool} {z ti to u v p q : Addr} {m n : Nat} {xs ys : Array Value} {a b : Value} {Q : Option Value → Shared → Prop} (hh : A.handled = none) (D : ZipApart z ti to u v p q)
    (gz : IsZip s.heap z ti to .none) (gi : IsPair s.heap ti (.ref u) (.ref v)) (go : IsPair s.heap to a b)
    (cu : Cur tu s.heap u p m) (cv : Cur tv s.heap v q n) (su : Src tu s.heap p xs) (sv : Src tv s.heap q ys)
    (hret : ∀ x y g, xs[m]? = some x → ys[n]? = some y → IsZip g z ti to (rawInt s.heap.objs.size) → IsPair g to x y → Cur tu g u p (m + 1) → Cur tv g v q (n + 1) → IsPair g s.heap.objs.size x y →
      g.objs.size = s.heap.objs.size + 1 → Rest s.heap g z to u v → Q (some (.ref s.heap.objs.size)) { s with heap := g })
    (hstop : (xs[m]? = none ∨ ys[n]? = none) → ∀ g, Rest s.heap g z to u v → Q none { s with heap := g }) : wpAny (model prog w) A (pyNext (.ref z)) Q E s := by
  have tz : s.TypeIs (.ref z) "zip" := ⟨_, gz, rfl⟩
  unfold pyNext
  refine wpAny_bind (wpAny_attempt (wpAny_callSpecial?_slot (name := Str.ofString "__next__") tz F.slot_zip_next (wpAny_call_entry F.slot_zip_next tz F.entry_zip_next
    (next_any hh D gz gi go cu cv su sv (fun x y g a1 a2 a3 a4 a5 a6 a7 a8 a9 => ⟨_, rfl, wpAny_pure (hret x y g a1 a2 a3 a4 a5 a6 a7 a8 a9)⟩) fun he g e r ⟨o, e1, e2⟩ => ?_) (F.args_zip_next_1 _))))
  exact wpAny_bind (wpAny_isInstance (T := "StopIteration") (b := true) ⟨o, e1, e2⟩ isSubtype_stop (wpAny_pure (hstop he _ r)))
end
def itOb (t : Bool) (l : Addr) : Obj := match t with
  | true => { cls := .type "tuple_iterator", data := .fields #[.ref l, .int 0 0] }
  | false => { cls := .type "list_iterator", data := .fields #[.ref l, .int 0 0] }
abbrev N1 (tu : Bool) (h : Heap) (p : Addr) : Heap := h.push (itOb tu p)
abbrev N2 (tu tv : Bool) (h : Heap) (p q : Addr) : Heap := (N1 tu h p).push (itOb tv q)
abbrev N3 (tu tv : Bool) (h : Heap) (p q : Addr) : Heap := (N2 tu tv h p q).push { cls := .type "tuple", data := .seq #[.ref h.objs.size, .ref (N1 tu h p).objs.size] }
abbrev N4 (tu tv : Bool) (h : Heap) (p q : Addr) : Heap := (N3 tu tv h p q).push { cls := .type "tuple", data := .seq #[.none, .none] }
abbrev N5 (tu tv : Bool) (h : Heap) (p q : Addr) : Heap := (N4 tu tv h p q).push { cls := .type "zip", data := .fields #[.none, .bool false, .bool false, .ref (N2 tu tv h p q).objs.size, .ref (N3 tu tv h p q).objs.size] }
theorem new_any (tu tv : Bool) (p q : Addr) (xs ys : Array Value) :
    Meets (Builtin.«zip.__new__» ⟨[.type "zip", .ref p, .ref q], []⟩) (fun _ R s => Src tu s.heap p xs ∧ Src tv s.heap q ys ∧ R (.ok (.ret (.ref (N4 tu tv s.heap p q).objs.size))) { s with heap := N5 tu tv s.heap p q }) :=
  .of_wp fun prog w A R s h => by
    obtain ⟨hp, g, d, tk, os⟩ := s
    obtain ⟨a1, a2, h⟩ := h
    have below := sub_zip
    cases tu <;> cases tv
    · have b1 : Heap.IsList (Shared.heap ⟨hp, g, d, tk, os⟩) p xs := a1
      have b2 : Heap.IsList (Shared.heap ⟨hp.push { cls := .type "list_iterator", data := .fields #[.ref p, .int 0 0] }, g, d, tk, os⟩) q ys := Heap.IsList.push a2 _
      wp_walk using wpAny_pyIter_list b1, wpAny_pyIter_list b2
      exact ⟨_, rfl, h⟩
    · have b1 : Heap.IsList (Shared.heap ⟨hp, g, d, tk, os⟩) p xs := a1
      have b2 : Heap.IsTuple (Shared.heap ⟨hp.push { cls := .type "list_iterator", data := .fields #[.ref p, .int 0 0] }, g, d, tk, os⟩) q ys := Heap.IsTuple.push a2 _
      wp_walk using wpAny_pyIter_list b1, wpAny_pyIter_tuple b2
      exact ⟨_, rfl, h⟩
    · have b1 : Heap.IsTuple (Shared.heap ⟨hp, g, d, tk, os⟩) p xs := a1
      have b2 : Heap.IsList (Shared.heap ⟨hp.push { cls := .type "tuple_iterator", data := .fields #[.ref p, .int 0 0] }, g, d, tk, os⟩) q ys := Heap.IsList.push a2 _
      wp_walk using wpAny_pyIter_tuple b1, wpAny_pyIter_list b2
      exact ⟨_, rfl, h⟩
    · have b1 : Heap.IsTuple (Shared.heap ⟨hp, g, d, tk, os⟩) p xs := a1
      have b2 : Heap.IsTuple (Shared.heap ⟨hp.push { cls := .type "tuple_iterator", data := .fields #[.ref p, .int 0 0] }, g, d, tk, os⟩) q ys := Heap.IsTuple.push a2 _
      wp_walk using wpAny_pyIter_tuple b1, wpAny_pyIter_tuple b2
      exact ⟨_, rfl, h⟩
theorem cur_new {t : Bool} {h : Heap} {i l : Addr} (e : h.get? i = some (itOb t l)) : Cur t h i l 0 := by
  cases t
  · exact ⟨_, e, rfl, rfl⟩
  · exact ⟨_, e, rfl, rfl⟩
section
variable {prog : Program} {w : World} {A : Around} {E : Value → Shared → Prop} {s : Shared}
theorem call_any {tu tv : Bool} {p q : Addr} {xs ys : Array Value} {Q : Value → Shared → Prop} (su : Src tu s.heap p xs) (sv : Src tv s.heap q ys)
    (hQ : ∀ g, IsZip g (s.heap.objs.size + 4) (s.heap.objs.size + 2) (s.heap.objs.size + 3) .none → IsPair g (s.heap.objs.size + 2) (.ref s.heap.objs.size) (.ref (s.heap.objs.size + 1)) →
      IsPair g (s.heap.objs.size + 3) .none .none → Cur tu g s.heap.objs.size p 0 → Cur tv g (s.heap.objs.size + 1) q 0 → (∀ c o, s.heap.get? c = some o → g.get? c = some o) → Q (.ref (s.heap.objs.size + 4)) { s with heap := g }) :
    wpAny (model prog w) A (call (.type "zip") [.ref p, .ref q]) Q E s := by
  refine callType_new F.called_zip (by decide) (F.typeCall_zip_2 _ _) (F.newCall_zip_2 _ _) (fun obj => F.args_object_init_3 obj _ _) F.entry_zip_new (new_any tu tv p q xs ys) ⟨su, sv, ?_⟩
  have f1 : (itOb tu p).isFreed = false := by cases tu <;> rfl
  have f2 : (itOb tv q).isFreed = false := by cases tv <;> rfl
  have n1 : (N1 tu s.heap p).objs.size = s.heap.objs.size + 1 := Heap.size_push ..
  have n2 : (N2 tu tv s.heap p q).objs.size = s.heap.objs.size + 2 := by rw [Heap.size_push, n1]
  have n3 : (N3 tu tv s.heap p q).objs.size = s.heap.objs.size + 3 := by rw [Heap.size_push, n2]
  have n4 : (N4 tu tv s.heap p q).objs.size = s.heap.objs.size + 4 := by rw [Heap.size_push, n3]
  have u5 : ∀ {c o}, (N4 tu tv s.heap p q).get? c = some o → (N5 tu tv s.heap p q).get? c = some o := fun e => Heap.get?_push_of_some _ e
  have u4 : ∀ {c o}, (N3 tu tv s.heap p q).get? c = some o → (N5 tu tv s.heap p q).get? c = some o := fun e => u5 (Heap.get?_push_of_some _ e)
  have u3 : ∀ {c o}, (N2 tu tv s.heap p q).get? c = some o → (N5 tu tv s.heap p q).get? c = some o := fun e => u4 (Heap.get?_push_of_some _ e)
  have u2 : ∀ {c o}, (N1 tu s.heap p).get? c = some o → (N5 tu tv s.heap p q).get? c = some o := fun e => u3 (Heap.get?_push_of_some _ e)
  have c5 : (N5 tu tv s.heap p q).get? (N4 tu tv s.heap p q).objs.size = some _ := Heap.get?_push_size _ rfl
  have c4 : (N5 tu tv s.heap p q).get? (N3 tu tv s.heap p q).objs.size = some _ := u5 (Heap.get?_push_size _ rfl)
  have c3 : (N5 tu tv s.heap p q).get? (N2 tu tv s.heap p q).objs.size = some _ := u4 (Heap.get?_push_size _ rfl)
  have c2 : (N5 tu tv s.heap p q).get? (N1 tu s.heap p).objs.size = some (itOb tv q) := u3 (Heap.get?_push_size _ f2)
  have c1 : (N5 tu tv s.heap p q).get? s.heap.objs.size = some (itOb tu p) := u2 (Heap.get?_push_size _ f1)
  show _ ∧ _
  rw [n2, n3, n4] at c5
  rw [n1, n2] at c3
  rw [n3] at c4
  rw [n1] at c2
  rw [n4]
  exact ⟨⟨_, c5, rfl⟩, hQ _ c5 c3 c4 (cur_new c1) (cur_new c2) fun c o e => u2 (Heap.get?_push_of_some _ e)⟩
end
def SqG (t : Bool) (K : PySem.W.Frag) (H : Hp) (a : Addr) (xs : List V) : Prop := match t with
  | true => SqT K H a xs
  | false => SqL K H a xs
theorem src_of {X : Cx} {pins : List (Addr × Obj)} {σ : L2.St} {H : Hp} {s : Shared} {t : Bool} {a : Addr} {xs : List V} (I : Inv X pins σ H s) (h : SqG t X.K H a xs) : ∃ its : List Value, Vals xs its ∧ Src t s.heap a its.toArray ∧ a < s.heap.objs.size := by
  cases t
  · obtain ⟨its, rv, p, _⟩ := I.list h
    exact ⟨its, rv, p.isList, p.lt⟩
  · obtain ⟨its, rv, p, _⟩ := I.tuple h
    obtain ⟨o, e, _⟩ := id p
    exact ⟨its, rv, p, Heap.lt_size e⟩
theorem sq_one {X : Cx} {pins : List (Addr × Obj)} {σ : L2.St} {H : Hp} {s : Shared} {t : Bool} {a : Addr} {xs ys : List V} (I : Inv X pins σ H s) (h : SqG t X.K H a xs) (h' : SqG t X.K H a ys) : xs = ys := by
  cases t
  · exact I.list_inj h h'
  · exact I.tuple_inj h h'
/-- a and b, each a list or a tuple, as they stand at each turn -/
def Itg (K : PySem.W.Frag) (tu tv : Bool) (a b : Addr) : It :=
  ⟨fun i H => ∃ (xs ys : List V) (x y : V), SqG tu K H a xs ∧ SqG tv K H b ys ∧ xs[i]? = some x ∧ ys[i]? = some y,
    fun i H v G => ∃ N x y, v = .ref N ∧ H N = none ∧ G = upd H N (.tup [x, y]) ∧ (∀ xs, SqG tu K H a xs → xs[i]? = some x) ∧ ∀ ys, SqG tv K H b ys → ys[i]? = some y,
    fun i H => ∃ xs ys : List V, SqG tu K H a xs ∧ SqG tv K H b ys ∧ (xs.length ≤ i ∨ ys.length ≤ i)⟩
theorem turn_any {P : Program} {w : World} {K : PySem.W.Frag} {elts : List Expr} {kk : Nat} {tpos : Pos} {tu tv : Bool} {a b z ti to u v : Addr} (D : ZipApart z ti to u v a b) :
    Turn P w K (.Tuple elts kk tpos) (Itg K tu tv a b) [z, ti, to, u, v] z (fun i h => IsZip h z ti to .none ∧ IsPair h ti (.ref u) (.ref v) ∧ (∃ x y, IsPair h to x y) ∧ Cur tu h u a i ∧ Cur tv h v b i) where
  mem := List.mem_cons_self ..
  obj := fun i h st c hc => by
    obtain ⟨gz, gi, ⟨x, y, go⟩, cu, cv⟩ := st
    simp only [List.mem_cons, List.not_mem_nil, or_false] at hc
    rcases hc with rfl | rfl | rfl | rfl | rfl
    · exact ⟨_, gz, fun _ q => nomatch q⟩
    · exact ⟨_, gi, fun _ q => nomatch q⟩
    · exact ⟨_, go, fun _ q => nomatch q⟩
    · exact cu.obj
    · exact cv.obj
  keep := fun i h g st k => by
    obtain ⟨gz, gi, ⟨x, y, go⟩, cu, cv⟩ := st
    exact ⟨k z (by simp) _ gz, k ti (by simp) _ gi, ⟨x, y, k to (by simp) _ go⟩, cu.mv (k u (by simp)), cv.mv (k v (by simp))⟩
  item := by
    rintro X rfl rfl rfl hc i pins s σ H E I hf ⟨gz, gi, ⟨x0, y0, go⟩, cu, cv⟩ ⟨xs, ys, x, y, qx, qy, ex, ey⟩
    obtain ⟨as, rx, sx, lx⟩ := src_of I qx
    obtain ⟨bs, ry, sy, ly⟩ := src_of I qy
    obtain ⟨n1, en1, r1⟩ := rx.get ex
    obtain ⟨n2, en2, r2⟩ := ry.get ey
    have zl : z < s.heap.objs.size := Heap.lt_size gz
    refine py_any (I.ok.hd hc) D gz gi go cu cv sx sy (fun x' y' g e1 e2 z' go' cu' cv' gt gs rest => ?_) (fun he => ?_)
    · rw [List.getElem?_toArray, en1] at e1
      rw [List.getElem?_toArray, en2] at e2
      cases e1
      cases e2
      refine ⟨_, rfl, wpAny_letOwnedTupleGo_zip (s := { s with heap := g }) z' fun g2 z2 sb => ?_⟩
      have gt2 : g2.get? s.heap.objs.size = some { cls := .type "tuple", data := .seq #[n1, n2] } := (sb.2 _ (Nat.ne_of_gt zl)).trans gt
      have ob : ObjOk X.prog X.w (upd H s.heap.objs.size (.tup [x, y])) g2 s.heap.objs.size (.tup [x, y]) := ⟨by show 2 ≤ sizeLine; decide, [n1, n2], .cons r1 (.cons r2 .nil), ⟨_, gt2, rfl, _, rfl⟩⟩
      have far : ∀ c o, c ∉ [z, ti, to, u, v] → s.heap.get? c = some o → g2.get? c = some o := fun c o hb e => by
        simp only [List.mem_cons, List.not_mem_nil, or_false, not_or] at hb
        exact (sb.2 c hb.1).trans (rest c o hb.1 hb.2.2.1 hb.2.2.2.1 hb.2.2.2.2 e)
      refine ⟨.ref s.heap.objs.size, _, I.turnedNew (t' := s.toks) (ch := [z, ti, to, u, v]) far hf (Nat.le_refl _) ob, rfl, ⟨_, x, y, rfl, I.hok.fresh (Nat.le_refl _), rfl, fun l hl => by rw [sq_one I hl qx]; exact ex, fun l hl => by rw [sq_one I hl qy]; exact ey⟩,
        ⟨z2, (sb.2 _ D.TIz).trans (rest _ _ D.TIz D.TITO D.TIi1 D.TIi2 gi), ⟨n1, n2, (sb.2 _ D.TOz).trans go'⟩, cu'.mv fun o e => (sb.2 _ D.i1z).trans e, cv'.mv fun o e => (sb.2 _ D.i2z).trans e⟩, fun c hcm => ?_⟩
      have hlt : c < s.heap.objs.size := by
        obtain ⟨o1, f1, _⟩ := cu.obj
        obtain ⟨o2, f2, _⟩ := cv.obj
        have hcm' := hcm
        simp only [List.mem_cons, List.not_mem_nil, or_false] at hcm'
        rcases hcm' with rfl | rfl | rfl | rfl | rfl
        · exact zl
        · exact Heap.lt_size gi
        · exact Heap.lt_size go
        · exact Heap.lt_size f1
        · exact Heap.lt_size f2
      rw [upd_ne (Nat.ne_of_lt hlt)]
      exact (hf c hcm).1
    · exfalso
      rw [List.getElem?_toArray, List.getElem?_toArray, en1, en2] at he
      rcases he with he | he <;> cases he
  done := by
    rintro X rfl rfl rfl hc i pins s σ H E I hf ⟨gz, gi, ⟨x0, y0, go⟩, cu, cv⟩ ⟨xs, ys, qx, qy, he⟩
    obtain ⟨as, rx, sx, lx⟩ := src_of I qx
    obtain ⟨bs, ry, sy, ly⟩ := src_of I qy
    have l1 := rx.length
    have l2 := ry.length
    refine py_any (I.ok.hd hc) D gz gi go cu cv sx sy (fun x' y' g e1 e2 _ _ _ _ _ _ _ => ?_) (fun _ g rest => ⟨rfl, ?_⟩)
    · exfalso
      rw [List.getElem?_toArray] at e1 e2
      have m1 := (List.getElem?_eq_some_iff.1 e1).1
      have m2 := (List.getElem?_eq_some_iff.1 e2).1
      rcases he with he | he <;> omega
    · exact I.turnedL (t' := s.toks) (ch := [z, ti, to, u, v]) (fun c o hb e => by
        simp only [List.mem_cons, List.not_mem_nil, or_false, not_or] at hb
        exact rest c o hb.1 hb.2.2.1 hb.2.2.2.1 hb.2.2.2.2 e) hf
  self := fun A i s Q E st h => wpAny_pyIter_zip st.1 h
def iZipG (K : PySem.W.Frag) (ta : TA) : TI := fun σ H R => ta σ H fun vs H1 => ∃ tu tv a b xs ys, vs = [.ref a, .ref b] ∧ SqG tu K H1 a xs ∧ SqG tv K H1 b ys ∧ R (Itg K tu tv a b) H1
theorem pi_zipG {X : Cx} {e e2 : Expr} {ta : TA} {p pos tpos : Pos} {elts : List Expr} {kk : Nat} (hg : Gl X "zip") (hm : X.mg "zip" = none) (ha : PA X [e, e2] ta)
    (hs : starEach [e, e2] X.env = (false, eval e X.env) :: starEach [e2] X.env) (hpl : (backTo pos (starEach [e2] X.env)).any (·.1) = false) :
    PI X (.Tuple elts kk tpos) (.Call (.Name "zip" p) [e, e2] [] pos) (iZipG X.K ta) := by
  constructor
  intro pins s σ H R I h
  refine Call_ (ld_blt I hg hm PyProof.Rows.boot_zip (PyProof.Rows.callWith_type1 (thn (ha.run pos pins s σ H _ I h) fun us s1 ⟨vs, H1, I1, r1, tu, tv, a, b, xs, ys, ev, qa, qb, q⟩ => ?_) hs hpl))
  subst ev
  rcases r1 with _ | ⟨ru, _ | ⟨rv, _ | _⟩⟩
  cases ru
  cases rv
  obtain ⟨as, rx, sx, lx⟩ := src_of I1 qa
  obtain ⟨bs, ry, sy, ly⟩ := src_of I1 qb
  refine call_any sx sy fun g gz gi go cu cv keep => wpAny_pyIter_zip gz ?_
  have I2 : Inv X pins σ H1 { s1 with heap := g } := I1.kept (t' := s1.toks) keep
  refine ⟨_, [s1.heap.objs.size + 4, s1.heap.objs.size + 2, s1.heap.objs.size + 3, s1.heap.objs.size, s1.heap.objs.size + 1], _, _, H1, rfl, I2, turn_any (PySem.W.ktu_apart s1.heap.objs.size a b lx ly), ⟨gz, gi, ⟨_, _, go⟩, cu, cv⟩, fun c hc => ?_, q⟩
  have le : s1.heap.objs.size ≤ c := by
    simp only [List.mem_cons, List.not_mem_nil, or_false] at hc
    rcases hc with rfl | rfl | rfl | rfl | rfl <;> simp
  exact I1.fpOk le (I1.hok.fresh le)
end ZM

set_option maxRecDepth 100000
set_option maxHeartbeats 4000000
namespace ZM
open PySem PySem.Spec PyProof.Rows L2
open PySem.Sem (wp)
/-- three tuples, side by side -/
def It3 (K : PySem.W.Frag) (a b c : Addr) : It :=
  ⟨fun i H => ∃ (xs ys ws : List V) (x y u : V), SqT K H a xs ∧ SqT K H b ys ∧ SqT K H c ws ∧ xs[i]? = some x ∧ ys[i]? = some y ∧ ws[i]? = some u,
    fun i H v G => ∃ N x y u, v = .ref N ∧ H N = none ∧ G = upd H N (.tup [x, y, u]) ∧ (∀ xs, SqT K H a xs → xs[i]? = some x) ∧ (∀ ys, SqT K H b ys → ys[i]? = some y) ∧ ∀ ws, SqT K H c ws → ws[i]? = some u,
    fun i H => ∃ xs ys ws : List V, SqT K H a xs ∧ SqT K H b ys ∧ SqT K H c ws ∧ i ≤ xs.length ∧ i ≤ ys.length ∧ i ≤ ws.length ∧ (i = xs.length ∨ i = ys.length ∨ i = ws.length)⟩
theorem it_mv {h g : Heap} {i l : Addr} {n : Nat} (h1 : h.IsTupleIter i l n) (k : ∀ o, h.get? i = some o → g.get? i = some o) : g.IsTupleIter i l n := h1.at k
theorem turn3 {P : Program} {w : World} {K : PySem.W.Frag} {elts : List Expr} {kk : Nat} {tpos : Pos} {a b c z TI TO i1 i2 i3 : Addr} (D : ZipSep3 z TI TO i1 i2 i3 [i1, a] [i2, b] [i3, c]) :
    Turn P w K (.Tuple elts kk tpos) (It3 K a b c) [z, TI, TO, i1, i2, i3] z (fun i h => IsZip h z TI TO .none ∧ IsTupOf3 h TI (.ref i1) (.ref i2) (.ref i3) ∧ (∃ x y u, IsTupOf3 h TO x y u) ∧ h.IsTupleIter i1 a i ∧ h.IsTupleIter i2 b i ∧ h.IsTupleIter i3 c i) where
  mem := List.mem_cons_self ..
  obj := fun i h st cc hc => by
    obtain ⟨gz, gi, ⟨x, y, u, go⟩, ⟨o1, e1, f1, d1⟩, ⟨o2, e2, f2, d2⟩, ⟨o3, e3, f3, d3⟩⟩ := st
    simp only [List.mem_cons, List.not_mem_nil, or_false] at hc
    rcases hc with rfl | rfl | rfl | rfl | rfl | rfl
    · exact ⟨_, gz, fun _ q => nomatch q⟩
    · exact ⟨_, gi, fun _ q => nomatch q⟩
    · exact ⟨_, go, fun _ q => nomatch q⟩
    · exact ⟨_, e1, fun _ q => by rw [d1] at q; cases q⟩
    · exact ⟨_, e2, fun _ q => by rw [d2] at q; cases q⟩
    · exact ⟨_, e3, fun _ q => by rw [d3] at q; cases q⟩
  keep := fun i h g st k => by
    obtain ⟨gz, gi, ⟨x, y, u, go⟩, c1, c2, c3⟩ := st
    exact ⟨k z (by simp) _ gz, k TI (by simp) _ gi, ⟨x, y, u, k TO (by simp) _ go⟩, it_mv c1 (k i1 (by simp)), it_mv c2 (k i2 (by simp)), it_mv c3 (k i3 (by simp))⟩
  item := by
    rintro X rfl rfl rfl hc i pins s σ H E I hf ⟨gz, gi, ⟨x0, y0, u0, go⟩, c1, c2, c3⟩ ⟨xs, ys, ws, x, y, u, qx, qy, qw, ex, ey, ew⟩
    obtain ⟨as, rx, sx, _⟩ := I.tuple qx
    obtain ⟨bs, ry, sy, _⟩ := I.tuple qy
    obtain ⟨cs, rw_, sw, _⟩ := I.tuple qw
    obtain ⟨n1, en1, r1⟩ := rx.get ex
    obtain ⟨n2, en2, r2⟩ := ry.get ey
    obtain ⟨n3, en3, r3⟩ := rw_.get ew
    have zl : z < s.heap.objs.size := Heap.lt_size gz
    have h1 : a ≠ i1 := fun e => by
      subst e
      obtain ⟨o, q1, q2, _⟩ := sx
      obtain ⟨o', q1', q2', _⟩ := c1
      rw [q1] at q1'; cases q1'; rw [q2] at q2'; simp at q2'
    have h2 : b ≠ i2 := fun e => by
      subst e
      obtain ⟨o, q1, q2, _⟩ := sy
      obtain ⟨o', q1', q2', _⟩ := c2
      rw [q1] at q1'; cases q1'; rw [q2] at q2'; simp at q2'
    have h3 : c ≠ i3 := fun e => by
      subst e
      obtain ⟨o, q1, q2, _⟩ := sw
      obtain ⟨o', q1', q2', _⟩ := c3
      rw [q1] at q1'; cases q1'; rw [q2] at q2'; simp at q2'
    have l1 : i < as.toArray.size := by rw [List.size_toArray]; exact (List.getElem?_eq_some_iff.1 en1).1
    have l2 : i < bs.toArray.size := by rw [List.size_toArray]; exact (List.getElem?_eq_some_iff.1 en2).1
    have l3 : i < cs.toArray.size := by rw [List.size_toArray]; exact (List.getElem?_eq_some_iff.1 en3).1
    refine wpAny_pyNext_zipD3_item D (Draws.tuple (A := X.A.in1) (show X.A.in1.handled = none from I.ok.hd hc) i1 a h1 as.toArray) (Draws.tuple (A := X.A.in1) (show X.A.in1.handled = none from I.ok.hd hc) i2 b h2 bs.toArray) (Draws.tuple (A := X.A.in1) (show X.A.in1.handled = none from I.ok.hd hc) i3 c h3 cs.toArray) gz gi go ⟨c1, sx⟩ ⟨c2, sy⟩ ⟨c3, sw⟩ l1 l2 l3 (fun x' y' u' g tk e1 e2 e3 z' go' cu1 cu2 cu3 gt gs rest => ?_)
    rw [List.getElem?_toArray, en1] at e1
    rw [List.getElem?_toArray, en2] at e2
    rw [List.getElem?_toArray, en3] at e3
    cases e1
    cases e2
    cases e3
    refine ⟨_, rfl, wpAny_letOwnedTupleGo_zip (s := { s with heap := g, toks := tk }) z' fun g2 z2 sb => ?_⟩
    have gt2 : g2.get? s.heap.objs.size = some { cls := .type "tuple", data := .seq #[n1, n2, n3] } := (sb.2 _ (Nat.ne_of_gt zl)).trans gt
    have ob : ObjOk X.prog X.w (upd H s.heap.objs.size (.tup [x, y, u])) g2 s.heap.objs.size (.tup [x, y, u]) := ⟨by show 3 ≤ sizeLine; decide, [n1, n2, n3], .cons r1 (.cons r2 (.cons r3 .nil)), ⟨_, gt2, rfl, _, rfl⟩⟩
    have far : ∀ cc o, cc ∉ [z, TI, TO, i1, i2, i3] → s.heap.get? cc = some o → g2.get? cc = some o := fun cc o hb e => by
      simp only [List.mem_cons, List.not_mem_nil, or_false, not_or] at hb
      exact (sb.2 cc hb.1).trans (rest cc o hb.1 hb.2.2.1 hb.2.2.2.1 hb.2.2.2.2.1 hb.2.2.2.2.2 e)
    refine ⟨.ref s.heap.objs.size, _, I.turnedNew (t' := tk) (ch := [z, TI, TO, i1, i2, i3]) far hf (Nat.le_refl _) ob, rfl, ⟨_, x, y, u, rfl, I.hok.fresh (Nat.le_refl _), rfl, fun l hl => by rw [I.tuple_inj hl qx]; exact ex, fun l hl => by rw [I.tuple_inj hl qy]; exact ey, fun l hl => by rw [I.tuple_inj hl qw]; exact ew⟩,
      ⟨z2, (sb.2 _ D.TIz).trans (rest _ _ D.TIz D.TITO D.TIi1 D.TIi2 D.TIi3 gi), ⟨n1, n2, n3, (sb.2 _ D.TOz).trans go'⟩, it_mv cu1.1 fun o e => (sb.2 _ (Ne.symm D.zi1)).trans e, it_mv cu2.1 fun o e => (sb.2 _ (Ne.symm D.zi2)).trans e, it_mv cu3.1 fun o e => (sb.2 _ (Ne.symm D.zi3)).trans e⟩, fun cc hcm => ?_⟩
    have hlt : cc < s.heap.objs.size := by
      obtain ⟨o1, f1, _⟩ := c1
      obtain ⟨o2, f2, _⟩ := c2
      obtain ⟨o3, f3, _⟩ := c3
      have hcm' := hcm
      simp only [List.mem_cons, List.not_mem_nil, or_false] at hcm'
      rcases hcm' with rfl | rfl | rfl | rfl | rfl | rfl
      · exact zl
      · exact Heap.lt_size gi
      · exact Heap.lt_size go
      · exact Heap.lt_size f1
      · exact Heap.lt_size f2
      · exact Heap.lt_size f3
    rw [upd_ne (Nat.ne_of_lt hlt)]
    exact (hf cc hcm).1
  done := by
    rintro X rfl rfl rfl hc i pins s σ H E I hf ⟨gz, gi, ⟨x0, y0, u0, go⟩, c1, c2, c3⟩ ⟨xs, ys, ws, qx, qy, qw, b1, b2, b3, he⟩
    obtain ⟨as, rx, sx, _⟩ := I.tuple qx
    obtain ⟨bs, ry, sy, _⟩ := I.tuple qy
    obtain ⟨cs, rw_, sw, _⟩ := I.tuple qw
    have m1 := rx.length
    have m2 := ry.length
    have m3 := rw_.length
    have h1 : a ≠ i1 := fun e => by
      subst e
      obtain ⟨o, q1, q2, _⟩ := sx
      obtain ⟨o', q1', q2', _⟩ := c1
      rw [q1] at q1'; cases q1'; rw [q2] at q2'; simp at q2'
    have h2 : b ≠ i2 := fun e => by
      subst e
      obtain ⟨o, q1, q2, _⟩ := sy
      obtain ⟨o', q1', q2', _⟩ := c2
      rw [q1] at q1'; cases q1'; rw [q2] at q2'; simp at q2'
    have h3 : c ≠ i3 := fun e => by
      subst e
      obtain ⟨o, q1, q2, _⟩ := sw
      obtain ⟨o', q1', q2', _⟩ := c3
      rw [q1] at q1'; cases q1'; rw [q2] at q2'; simp at q2'
    refine wpAny_pyNext_zipD3_end D (Draws.tuple (A := X.A.in1) (show X.A.in1.handled = none from I.ok.hd hc) i1 a h1 as.toArray) (Draws.tuple (A := X.A.in1) (show X.A.in1.handled = none from I.ok.hd hc) i2 b h2 bs.toArray) (Draws.tuple (A := X.A.in1) (show X.A.in1.handled = none from I.ok.hd hc) i3 c h3 cs.toArray) gz gi go ⟨c1, sx⟩ ⟨c2, sy⟩ ⟨c3, sw⟩ (by rw [List.size_toArray]; omega) (by rw [List.size_toArray]; omega) (by rw [List.size_toArray]; omega) (by rw [List.size_toArray, List.size_toArray, List.size_toArray]; omega) (fun g tk rest => ⟨rfl, ?_⟩)
    exact I.turnedL (t' := tk) (ch := [z, TI, TO, i1, i2, i3]) (fun cc o hb e => by
      simp only [List.mem_cons, List.not_mem_nil, or_false, not_or] at hb
      exact rest cc o hb.1 hb.2.2.1 hb.2.2.2.1 hb.2.2.2.2.1 hb.2.2.2.2.2 e) hf
  self := fun A i s Q E st h => wpAny_pyIter_zip st.1 h
end ZM
namespace ZM
open PySem PySem.Spec PyProof.Rows L2
open PySem.Sem (wp)
def iZip3 (K : PySem.W.Frag) (ta : TA) : TI := fun σ H R => ta σ H fun vs H1 => ∃ a b c xs ys ws, vs = [.ref a, .ref b, .ref c] ∧ SqT K H1 a xs ∧ SqT K H1 b ys ∧ SqT K H1 c ws ∧ R (It3 K a b c) H1
theorem apart3 (n a b c : Nat) (ha : a < n) (hb : b < n) (hc : c < n) : ZipSep3 (n + 5) (n + 3) (n + 4) n (n + 1) (n + 2) [n, a] [n + 1, b] [n + 2, c] := by
  constructor <;> simp only [List.mem_cons, List.not_mem_nil, or_false, not_or, true_or, ne_eq] <;> unfold PySem.Addr at * <;> omega
theorem pi_zip3 {X : Cx} {e e2 e3 : Expr} {ta : TA} {p pos tpos : Pos} {elts : List Expr} {kk : Nat} (hg : Gl X "zip") (hm : X.mg "zip" = none) (ha : PA X [e, e2, e3] ta)
    (hs : starEach [e, e2, e3] X.env = (false, eval e X.env) :: starEach [e2, e3] X.env) (hpl : (backTo pos (starEach [e2, e3] X.env)).any (·.1) = false) :
    PI X (.Tuple elts kk tpos) (.Call (.Name "zip" p) [e, e2, e3] [] pos) (iZip3 X.K ta) := by
  constructor
  intro pins s σ H R I h
  refine Call_ (ld_blt I hg hm PyProof.Rows.boot_zip (PyProof.Rows.callWith_type1 (thn (ha.run pos pins s σ H _ I h) fun us s1 ⟨vs, H1, I1, r1, a, b, c, xs, ys, ws, ev, qa, qb, qc, q⟩ => ?_) hs hpl))
  subst ev
  rcases r1 with _ | ⟨ru, _ | ⟨rv, _ | ⟨rw_, _ | _⟩⟩⟩
  cases ru
  cases rv
  cases rw_
  obtain ⟨as, rx, sx, _⟩ := I1.tuple qa
  obtain ⟨bs, ry, sy, _⟩ := I1.tuple qb
  obtain ⟨cs, rz, sz, _⟩ := I1.tuple qc
  have lx : a < s1.heap.objs.size := let ⟨_, q, _⟩ := sx; Heap.lt_size q
  have ly : b < s1.heap.objs.size := let ⟨_, q, _⟩ := sy; Heap.lt_size q
  have lz : c < s1.heap.objs.size := let ⟨_, q, _⟩ := sz; Heap.lt_size q
  refine zip_begins3 (begins_tuple a as.toArray) (begins_tuple b bs.toArray) (begins_tuple c cs.toArray) sx sy sz fun g gz gi go c1 c2 c3 _ keep => wpAny_pyIter_zip gz ?_
  have I2 : Inv X pins σ H1 { s1 with heap := g } := I1.kept (t' := s1.toks) keep
  refine ⟨_, [s1.heap.objs.size + 5, s1.heap.objs.size + 3, s1.heap.objs.size + 4, s1.heap.objs.size, s1.heap.objs.size + 1, s1.heap.objs.size + 2], _, _, H1, rfl, I2, turn3 (apart3 s1.heap.objs.size a b c lx ly lz), ⟨gz, gi, ⟨_, _, _, go⟩, ⟨_, c1, rfl, rfl⟩, ⟨_, c2, rfl, rfl⟩, ⟨_, c3, rfl, rfl⟩⟩, fun cc hc => ?_, q⟩
  have le : s1.heap.objs.size ≤ cc := by
    simp only [List.mem_cons, List.not_mem_nil, or_false] at hc
    rcases hc with rfl | rfl | rfl | rfl | rfl | rfl <;> simp
  exact I1.fpOk le (I1.hok.fresh le)
end ZM

set_option maxRecDepth 100000
set_option maxHeartbeats 4000000
namespace VM
open PySem PySem.Spec PyProof.Rows L2
variable [HasT]
/-! zip -/
theorem zipD_get : ∀ {ds es : List D} {i : Nat} {d : D}, (zipD ds es)[i]? = some d → ∃ x y, d = .tup [x, y] ∧ ds[i]? = some x ∧ es[i]? = some y
  | [], _, i, d, e => by cases i <;> simp [zipD] at e
  | _ :: _, [], i, d, e => by cases i <;> simp [zipD] at e
  | x :: xs, y :: ys, 0, d, e => by simp [zipD] at e; exact ⟨x, y, e.symm, rfl, rfl⟩
  | x :: xs, y :: ys, i + 1, d, e => by
    have e2 : (zipD xs ys)[i]? = some d := by simpa [zipD] using e
    simpa using zipD_get e2
theorem zipD_len : ∀ (ds es : List D), (zipD ds es).length = min ds.length es.length
  | [], _ => by simp [zipD]
  | _ :: _, [] => by simp [zipD]
  | x :: xs, y :: ys => by simp only [zipD, List.length_cons, zipD_len xs ys]; omega
theorem pairRel {K : PySem.W.Frag} {L : List Addr} {H : Hp} {h : Hv} {T : Addr} {d e : D} {x y : V} (hr : HR K L H h) (hT : H T = none) (rd : Rel K L H d x) (re : Rel K L H e y) :
    Keep K H (upd H T (.tup [x, y])) ∧ HR K L (upd H T (.tup [x, y])) h ∧ Rel K L (upd H T (.tup [x, y])) (.tup [d, e]) (.ref T) :=
  ⟨Keep.new hT, hr.new hT, .tup (.inl (.inl upd_same)) (.cons (rd.mono (LE.refl _) (Keep.new hT)) (.cons (re.mono (LE.refl _) (Keep.new hT)) .nil))⟩
theorem seq_src {K : PySem.W.Frag} {L : List Addr} {H : Hp} {h : Hv} {d : D} {v : V} {z : List D × Guards} (hr : HR K L H h) (r : Rel K L H d v) (ez : seqOf d h = some z) : ∃ t a, v = .ref a ∧ (∃ xs, ZM.SqG t K H a xs) ∧
    ∀ L1 H1 h1, LE L L1 → Keep K H H1 → HR K L1 H1 h1 → guardsOk z.2 h1 = true → ∃ xs, ZM.SqG t K H1 a xs ∧ Rels K L1 H1 z.1 xs := by
  cases r with
  | @tup ds a xs ha ra =>
    cases ez
    exact ⟨true, a, rfl, ⟨xs, ha⟩, fun L1 H1 h1 le kp _ _ => ⟨xs, kp.tup _ _ ha, ra.mono le kp⟩⟩
  | @ref p a ea =>
    have look : ∀ {L1 H1 h1} {ds : List D}, LE L L1 → HR K L1 H1 h1 → (h1[p]? = some (.lst ds) ∨ h1[p]? = some (.ro ds)) → ∃ xs, ZM.SqG false K H1 a xs ∧ Rels K L1 H1 ds xs := fun {L1 H1 h1 ds} le hr1 q => by
      rcases q with q | q
      · obtain ⟨xs, q, r⟩ := hr1.lst p a ds q (le _ _ ea)
        exact ⟨xs, SqL.of q, r⟩
      · obtain ⟨xs, q, r⟩ := hr1.ro p a ds q (le _ _ ea)
        exact ⟨xs, q.seq, r⟩
    have go : ∀ ds, (h[p]? = some (.lst ds) ∨ h[p]? = some (.ro ds)) → z = (ds, [(p, ds)]) → ∃ t b, Value.ref a = .ref b ∧ (∃ xs, ZM.SqG t K H b xs) ∧ ∀ L1 H1 h1, LE L L1 → Keep K H H1 → HR K L1 H1 h1 → guardsOk z.2 h1 = true → ∃ xs, ZM.SqG t K H1 b xs ∧ Rels K L1 H1 z.1 xs := fun ds e0 e1 => by
      subst e1
      obtain ⟨xs, q, _⟩ := look (LE.refl _) hr e0
      exact ⟨false, a, rfl, ⟨xs, q⟩, fun L1 H1 h1 le _ hr1 g => look le hr1 (guards_at g (List.mem_cons_self ..))⟩
    simp only [seqOf] at ez
    split at ez
    · rename_i ds e0
      obtain ⟨t, b, e, q⟩ := go ds (.inl e0) (by cases ez; rfl)
      exact ⟨t, b, by cases e; rfl, q⟩
    · rename_i ds e0
      obtain ⟨t, b, e, q⟩ := go ds (.inr e0) (by cases ez; rfl)
      exact ⟨t, b, by cases e; rfl, q⟩
    · cases ez
  | _ => cases ez
theorem walk_zipG {K : PySem.W.Frag} {L : List Addr} {H : Hp} {a b : Addr} {tu tv : Bool} {ds es : List D} {g1 g2 : Guards}
    (ha : ∀ L1 H1 h1, LE L L1 → Keep K H H1 → HR K L1 H1 h1 → guardsOk g1 h1 = true → ∃ xs, ZM.SqG tu K H1 a xs ∧ Rels K L1 H1 ds xs)
    (hb : ∀ L1 H1 h1, LE L L1 → Keep K H H1 → HR K L1 H1 h1 → guardsOk g2 h1 = true → ∃ xs, ZM.SqG tv K H1 b xs ∧ Rels K L1 H1 es xs) :
    WalkOk K L H (ZM.Itg K tu tv a b) (zipD ds es) (g1 ++ g2) := by
  intro L1 H1 h i le kp hr g
  have g' : guardsOk g1 h = true ∧ guardsOk g2 h = true := by simpa only [guardsOk, List.all_append, Bool.and_eq_true] using g
  obtain ⟨xs, sx, rx⟩ := ha L1 H1 h le kp hr g'.1
  obtain ⟨ys, sy, ry⟩ := hb L1 H1 h le kp hr g'.2
  refine ⟨fun d e => ?_, fun e => ⟨xs, ys, sx, sy, by rw [e, zipD_len, rx.len, ry.len]; omega⟩⟩
  obtain ⟨x, y, rfl, e1, e2⟩ := zipD_get e
  obtain ⟨u, f1, r1⟩ := rx.get e1
  obtain ⟨w, f2, r2⟩ := ry.get e2
  refine ⟨⟨xs, ys, u, w, sx, sy, f1, f2⟩, fun v H' yl => ?_⟩
  obtain ⟨T, u', w', rfl, hT, rfl, q1, q2⟩ := yl
  have z1 := q1 xs sx
  have z2 := q2 ys sy
  rw [f1] at z1
  rw [f2] at z2
  cases z1
  cases z2
  exact pairRel hr hT r1 r2
/-! enumerate -/
theorem enumD_get : ∀ {ds : List D} {k i : Nat} {d : D}, (enumD k ds)[i]? = some d → ∃ x, d = .tup [.int ((k + i : Nat) : Int), x] ∧ ds[i]? = some x
  | [], _, i, d, e => by cases i <;> simp [enumD] at e
  | x :: xs, k, 0, d, e => by simp [enumD] at e; exact ⟨x, e.symm, rfl⟩
  | x :: xs, k, i + 1, d, e => by
    have e2 : (enumD (k + 1) xs)[i]? = some d := by simpa [enumD] using e
    obtain ⟨y, h1, h2⟩ := enumD_get e2
    exact ⟨y, by rw [h1]; congr 4; omega, by simpa using h2⟩
theorem enumD_len : ∀ (ds : List D) (k : Nat), (enumD k ds).length = ds.length
  | [], _ => rfl
  | x :: xs, k => by simp only [enumD, List.length_cons, enumD_len xs (k + 1)]
theorem walk_enumL {K : PySem.W.Frag} {L : List Addr} {H : Hp} {a : Addr} {p : Nat} {ds : List D} (ea : L[p]? = some a) : WalkOk K L H (Ite K a) (enumD 0 ds) [(p, ds)] := by
  intro L1 H1 h i le kp hr g
  have at_ : ∃ xs, SqL K H1 a xs ∧ Rels K L1 H1 ds xs := by
    rcases guards_at g (List.mem_cons_self ..) with z | z
    · obtain ⟨xs, q, r⟩ := hr.lst p a ds z (le _ _ ea)
      exact ⟨xs, SqL.of q, r⟩
    · obtain ⟨xs, q, r⟩ := hr.ro p a ds z (le _ _ ea)
      exact ⟨xs, q.seq, r⟩
  obtain ⟨xs, sq, r⟩ := at_
  refine ⟨fun d e => ?_, fun e => ⟨xs, sq, by rw [e, enumD_len, r.len]; exact Nat.le_refl _⟩⟩
  obtain ⟨x, rfl, e1⟩ := enumD_get e
  obtain ⟨v, e2, rv⟩ := r.get e1
  refine ⟨⟨xs, v, sq, e2⟩, fun y H' yl => ?_⟩
  obtain ⟨T, u, rfl, hT, rfl, f⟩ := yl
  have z := f xs sq
  rw [e2] at z
  cases z
  exact pairRel hr hT (by rw [Nat.zero_add]; exact .int _) rv
/-- the tuple at a, each item in a new pair -/
def IteT (K : PySem.W.Frag) (a : Addr) : It :=
  ⟨fun i H => ∃ (xs : List V) (x : V), SqT K H a xs ∧ xs[i]? = some x, fun i H v H' => ∃ T x, v = .ref T ∧ H T = none ∧ H' = upd H T (.tup [.int (i : Nat), x]) ∧ ∀ xs, SqT K H a xs → xs[i]? = some x, fun i H => ∃ xs : List V, SqT K H a xs ∧ xs.length ≤ i⟩
theorem walk_enumT {K : PySem.W.Frag} {L : List Addr} {H : Hp} {a : Addr} {ds : List D} {xs : List V} (ha : SqT K H a xs) (r : Rels K L H ds xs) : WalkOk K L H (IteT K a) (enumD 0 ds) [] := by
  intro L1 H1 h i le kp hr g
  have sq := kp.tup _ _ ha
  refine ⟨fun d e => ?_, fun e => ⟨xs, sq, by rw [e, enumD_len, r.len]; exact Nat.le_refl _⟩⟩
  obtain ⟨x, rfl, e1⟩ := enumD_get e
  obtain ⟨v, e2, rv⟩ := r.get e1
  refine ⟨⟨xs, v, sq, e2⟩, fun y H' yl => ?_⟩
  obtain ⟨T, u, rfl, hT, rfl, f⟩ := yl
  have z := f xs sq
  rw [e2] at z
  cases z
  exact pairRel hr hT (by rw [Nat.zero_add]; exact .int _) (rv.mono le kp)
/-- enumerate over a tuple: how its parts turn -/
theorem turn_enumT {P : Program} {w : World} {K : PySem.W.Frag} {elts : List Expr} {kk : Nat} {tpos : Pos} (a e it : Addr) (ha : a < it) :
    Turn P w K (.Tuple elts kk tpos) (IteT K a) [e, it] e (fun i h => (∃ old, IsEnum h e it ((i : Nat) : Int) old) ∧ h.IsTupleIter it a i ∧ e ≠ it ∧ a ≠ e) where
  mem := List.mem_cons_self ..
  obj := by
    rintro i h ⟨⟨old, he⟩, ⟨o, ho, hc, hd⟩, _⟩ b hb
    rcases List.mem_cons.mp hb with rfl | hb
    · exact ⟨_, he, fun v q => nomatch q⟩
    · obtain rfl : b = it := by simpa using hb
      exact ⟨o, ho, fun v q => by rw [hd] at q; cases q⟩
  keep := by
    rintro i h h' ⟨⟨old, he⟩, hi, hne⟩ k
    exact ⟨⟨old, k e (List.mem_cons_self ..) _ he⟩, hi.at fun o q => k it (by simp) o q, hne⟩
  item := by
    intro X hP hw hK hc i pins s σ H E I hf st hg
    subst hP hw hK
    obtain ⟨⟨old, he⟩, hit, hne, hae⟩ := st
    obtain ⟨xs, x, hq, hx⟩ := hg
    obtain ⟨its, rv, tp, hz⟩ := I.tuple hq
    obtain ⟨u, hu, ru⟩ := rv.get hx
    have hel : e < s.heap.objs.size := Heap.lt_size he
    have hil : it < s.heap.objs.size := let ⟨_, q, _⟩ := hit; Heap.lt_size q
    have hi : i < its.toArray.size := by
      have := (List.getElem?_eq_some_iff.mp hu).1
      simpa using this
    have Dr := Draws.tuple (prog := X.prog) (w := X.w) (A := X.A.in1) (by show X.A.handled = none; exact I.ok.hd hc) it a (Nat.ne_of_lt ha) its.toArray
    refine wpAny_pyNext_enum_itemD Dr he ⟨hit, tp⟩ hi hne (by simp only [List.mem_cons, List.not_mem_nil, or_false, not_or]; exact ⟨hne, hae.symm⟩) fun y h' tk hy ho hst hT hsz hk => ?_
    obtain rfl : u = y := by
      have z : its[i]? = some y := by simpa using hy
      rw [hu] at z
      exact Option.some.inj z
    refine ⟨_, rfl, wpAny_letOwnedTupleGo_enum (s := { s with heap := h', toks := tk + 1 }) ho fun h2 he2 sb => ?_⟩
    have hT2 : h2.get? s.heap.objs.size = some { cls := .type "tuple", data := .seq #[.int i tk, u] } := (sb.2 _ (Nat.ne_of_gt hel)).trans hT
    have nw : ObjOk X.prog X.w (upd H s.heap.objs.size (.tup [.int (i : Nat), x])) h2 s.heap.objs.size (.tup [.int (i : Nat), x]) :=
      ⟨by rw [sizeLine_eq]; exact (by decide : 2 ≤ 16777216), [.int i tk, u], .cons ⟨tk, rfl⟩ (.cons ru .nil), ⟨_, hT2, rfl, 0, rfl⟩⟩
    have I1 : Inv X pins σ (upd H s.heap.objs.size (.tup [.int (i : Nat), x])) { s with heap := h2, toks := tk + 1 } := by
      refine I.turnedNew (ch := [e, it]) (fun b ob hb q => ?_) hf (Nat.le_refl _) nw
      have n1 : b ≠ e := fun z => hb (by rw [z]; exact List.mem_cons_self ..)
      have n2 : b ≠ it := fun z => hb (by rw [z]; simp)
      exact (sb.2 b n1).trans (hk b ob n1 n2 q)
    refine ⟨.ref s.heap.objs.size, _, I1, rfl, ⟨_, x, rfl, I.hok.fresh (Nat.le_refl _), rfl, fun ys hy => by rw [I.tuple_inj hy hq]; exact hx⟩, ⟨⟨u, ?_⟩, hst.1.at fun o q => (sb.2 it (Ne.symm hne)).trans q, hne, hae⟩, fun b hb => ?_⟩
    · have e1 : ((i + 1 : Nat) : Int) = (i : Int) + 1 := by omega
      rw [e1]
      exact he2
    · have lt : b < s.heap.objs.size := by
        rcases List.mem_cons.mp hb with rfl | hb
        · exact hel
        · obtain rfl : b = it := by simpa using hb
          exact hil
      rw [upd_ne (Nat.ne_of_lt lt)]
      exact (hf b hb).1
  done := by
    intro X hP hw hK hc i pins s σ H E I hf st hg
    subst hP hw hK
    obtain ⟨⟨old, he⟩, hit, hne, hae⟩ := st
    obtain ⟨xs, hq, hx⟩ := hg
    obtain ⟨its, rv, tp, hz⟩ := I.tuple hq
    obtain ⟨f0, f1, f2, f3, f4, f5⟩ := hf it (by simp)
    have hl := rv.length
    have len : its.toArray.size ≤ i := by rw [List.size_toArray]; omega
    have end_ : wpAny (model X.prog X.w) X.A.in1 (Builtin.SmallTypes.nextOf (.ref it)) (fun _ _ => False) (fun v s' => ∃ h' x, v = .ref x ∧ Heap.ExtBut it s.heap h' ∧ (∃ o, h'.get? x = some o ∧ o.cls = .type "StopIteration") ∧ s' = { s with heap := h' }) s :=
      wpAny_nextOf_tuple_end (I.ok.hd hc) hit tp (Array.getElem?_eq_none len) fun h' x e1 e2 => ⟨h', x, rfl, e1, e2, rfl⟩
    have hT : s.TypeIs (.ref e) "enumerate" := ⟨_, he, rfl⟩
    unfold pyNext
    refine wpAny_bind (wpAny_attempt (wpAny_callSpecial?_slot (name := Str.ofString "__next__") hT F.slot_enumerate_next (wpAny_call_entry F.slot_enumerate_next hT F.entry_enumerate_next ?_ (F.args_enumerate_next_1 _))))
    show wpAny _ _ (field (.ref e) 2 >>= _) _ _ s
    refine wpAny_bind (wpAny_field he rfl (x := .ref it) rfl ?_)
    refine wpAny_bind (wpAny_mono end_ (fun _ _ z => z.elim) fun v s' z => ?_)
    obtain ⟨h', x, rfl, eb, ⟨o, ho, hcl⟩, rfl⟩ := z
    refine wpAny_bind (wpAny_isInstance (T := "StopIteration") (b := true) ⟨o, ho, hcl⟩ isSubtype_stop ?_)
    exact wpAny_pure ⟨rfl, I.turned (t' := s.toks) (fun b o hb q => eb b o hb q) f0 f1 f3 f4 f5⟩
  self := fun A i s Q E st h => let ⟨⟨_, he⟩, _⟩ := st; wpAny_pyIter_enum he h
theorem enum_newT (l : Addr) (items : Array Value) (n : Nat) (dct : Option Addr) (sl : Array (Option Value)) :
    Meets (Builtin.«enumerate.__new__» ⟨[.type "enumerate", .ref l], []⟩) (fun _ R s => s.heap.get? l = some { cls := .type "tuple", dict := dct, data := .seq items n, slots := sl } ∧
      R (.ok (.ret (.ref (s.heap.push { cls := .type "tuple_iterator", data := .fields #[.ref l, .int 0 0] }).objs.size)))
        { s with heap := (s.heap.push { cls := .type "tuple_iterator", data := .fields #[.ref l, .int 0 0] }).push { cls := .type "enumerate", data := .fields #[.none, .bool false, .ref s.heap.objs.size, rawInt 0, .none, .none] } }) := by
  refine .of_wp fun prog w A R s hh => ?_
  rcases s with ⟨hp, g, d, tk, os⟩
  rcases hh with ⟨hl, h⟩
  have hsub := sub_enumerate
  have hL : Heap.IsTuple (Shared.heap ⟨hp, g, d, tk, os⟩) l items := ⟨_, hl, rfl, n, rfl⟩
  wp_walk using AutoSeq1.wpAny_loadPart' hl
  refine wpAny_stack_any fun st => wpAny_pure ?_
  split
  · rename_i c _ _ _ _ _
    cases (c == Value.type "enumerate") <;> (wp_walk using AutoSeq1.wpAny_loadPart' hl, wpAny_pyIter_tuple hL; exact ⟨_, rfl, h⟩)
  · (wp_walk using AutoSeq1.wpAny_loadPart' hl, wpAny_pyIter_tuple hL); exact ⟨_, rfl, h⟩
theorem call_enumT {prog : Program} {w : World} {A : Around} {E : Value → Shared → Prop} {s : Shared} {l : Addr} {items : Array Value} {Q : Value → Shared → Prop} (hL : IsTup s.heap l items)
    (h : ∀ h', IsEnum h' (s.heap.objs.size + 1) s.heap.objs.size 0 .none → h'.IsTupleIter s.heap.objs.size l 0 → (∀ b o, s.heap.get? b = some o → h'.get? b = some o) → Q (.ref (s.heap.objs.size + 1)) { s with heap := h' }) :
    wpAny (model prog w) A (call (.type "enumerate") [.ref l]) Q E s := by
  rcases hL with ⟨⟨c, dct, dt, sl⟩, hl, hc, n, hd⟩
  cases (show c = .type "tuple" from hc)
  cases (show dt = .seq items n from hd)
  refine callType_new F.called_enumerate (by decide) (F.typeCall_enumerate_1 _) (F.newCall_enumerate_1 _) (fun obj => F.args_object_init_2 obj _) F.entry_enumerate_new (enum_newT l items n dct sl) ⟨hl, ?_⟩
  have sz : (s.heap.push { cls := .type "tuple_iterator", data := .fields #[.ref l, .int 0 0] }).objs.size = s.heap.objs.size + 1 := Heap.size_push ..
  show _ ∧ _
  rw [sz]
  have he : IsEnum ((s.heap.push { cls := .type "tuple_iterator", data := .fields #[.ref l, .int 0 0] }).push { cls := .type "enumerate", data := .fields #[.none, .bool false, .ref s.heap.objs.size, rawInt 0, .none, .none] }) (s.heap.objs.size + 1) s.heap.objs.size 0 .none := by
    have z := Heap.get?_push_size (s.heap.push { cls := .type "tuple_iterator", data := .fields #[.ref l, .int 0 0] }) (o := { cls := .type "enumerate", data := .fields #[.none, .bool false, .ref s.heap.objs.size, rawInt 0, .none, .none] }) rfl
    rw [sz] at z
    exact z
  exact ⟨⟨_, he, rfl⟩, h _ he ⟨_, Heap.get?_push_of_some _ (Heap.get?_push_size _ rfl), rfl, rfl⟩ fun b o x => Heap.get?_push_of_some _ (Heap.get?_push_of_some _ x)⟩
section
variable {X : Cx} {W : WX} {pos : Pos}
theorem i_enum {a : Expr} {elts : List Expr} {kk : Nat} {p tpos : Pos} (C : Or) {fa : EF} (hg : Gl X "enumerate") (hm : X.mg "enumerate" = none) (ha : PE X a (tE X W (fa C))) (s1 : starEach [a] X.env = (false, eval a X.env) :: starEach [] X.env) :
    PI X (.Tuple elts kk tpos) (.Call (.Name "enumerate" p) [a] [] pos) (tI X W (itN fa C)) := by
  refine ⟨fun pins s σ H R_ I q => ?_⟩
  obtain ⟨L, h, env, hr, sr, hp⟩ := q
  have go : tE X W (fa C) σ H fun x H1 => ∃ a, x = .ref a ∧ ((∃ xs, SqL X.K H1 a xs ∧ R_ (Ite X.K a) H1) ∨ ∃ xs, SqT X.K H1 a xs ∧ R_ (IteT X.K a) H1) := by
    refine ⟨L, h, env, hr, sr, pRg.then_ hp fun d h1 L1 H1 v le kp hr1 r1 hp1 => ?_⟩
    split at hp1
    · rename_i z ez
      cases r1 with
      | @tup ds a xs ha ra =>
        cases ez
        exact ⟨a, rfl, .inr ⟨xs, ha, hp1 L1 H1 _ (LE.refl _) (Keep.refl _) hr1 (walk_enumT ha ra)⟩⟩
      | @ref p a ea =>
        simp only [seqOf] at ez
        split at ez
        · rename_i ds e0
          cases ez
          obtain ⟨xs, q, s⟩ := hr1.lst p a ds e0 ea
          exact ⟨a, rfl, .inl ⟨xs, SqL.of q, hp1 L1 H1 _ (LE.refl _) (Keep.refl _) hr1 (walk_enumL ea)⟩⟩
        · rename_i ds e0
          cases ez
          obtain ⟨xs, q, s⟩ := hr1.ro p a ds e0 ea
          exact ⟨a, rfl, .inl ⟨xs, q.seq, hp1 L1 H1 _ (LE.refl _) (Keep.refl _) hr1 (walk_enumL ea)⟩⟩
        · cases ez
      | _ => cases ez
    · exact hp1.elim
  have hA : PA X [a] (fun σ H Q => tE X W (fa C) σ H fun x H1 => Q [x] H1) := PA.weak (pa_cons ha pa_nil s1) fun σ H Q z => z
  refine Call_ (ld_blt I hg hm boot_enumerate (PyProof.Rows.callWith_type1 (thn (hA.run pos pins s σ H (fun vs H1 => ∃ a, vs = [.ref a] ∧ ((∃ xs, SqL X.K H1 a xs ∧ R_ (Ite X.K a) H1) ∨ ∃ xs, SqT X.K H1 a xs ∧ R_ (IteT X.K a) H1)) I ?_) fun us s1 ⟨vs, H1, I1, r1, q1⟩ => ?_) (by rw [s1] <;> rfl) rfl))
  · obtain ⟨L, h, env, hr, sr, hp⟩ := go
    exact ⟨L, h, env, hr, sr, pRg.then_ (g := fun d h => R.ok d h) (ρ' := Rel X.K) (Q := fun x H1 => ∃ a, x = .ref a ∧ ((∃ xs, SqL X.K H1 a xs ∧ R_ (Ite X.K a) H1) ∨ ∃ xs, SqT X.K H1 a xs ∧ R_ (IteT X.K a) H1)) (by
      cases z : fa C env h with
      | ok d h1 => rw [z] at hp; exact hp
      | exc c d h1 => rw [z] at hp; exact hp
      | stuck => rw [z] at hp; exact hp) fun d h1 L1 H1 v le kp hr1 r1 hp1 => by
        obtain ⟨a, rfl, z⟩ := hp1 L1 H1 v (LE.refl _) (Keep.refl _) hr1 r1
        exact ⟨a, rfl, z⟩⟩
  · obtain ⟨a, ev, q1⟩ := q1
    subst ev
    obtain ⟨u, rfl, ru⟩ := Vals.one r1
    cases (show u = Value.ref a from ru)
    rcases q1 with ⟨xs, sq, q1⟩ | ⟨xs, sq, q1⟩
    · obtain ⟨its, rv, pl, hz⟩ := I1.list sq
      refine call_enumerate_list pl.isList fun h' he hit hsz hk => wpAny_pyIter_enum he ?_
      have I2 : Inv X pins σ H1 { s1 with heap := h' } := I1.kept (t' := s1.toks) hk
      refine ⟨s1.heap.objs.size + 1, [s1.heap.objs.size + 1, s1.heap.objs.size], _, _, H1, rfl, I2, turn_enum a (s1.heap.objs.size + 1) s1.heap.objs.size, ⟨⟨.none, he⟩, hit, Nat.succ_ne_self _⟩, fun b hb => ?_, q1⟩
      have le : s1.heap.objs.size ≤ b := by
        have z : b = s1.heap.objs.size + 1 ∨ b = s1.heap.objs.size := by simpa using hb
        rcases z with z | z <;> rw [z]
        · exact Nat.le_succ _
        · exact Nat.le_refl _
      exact I1.fpOk le (I1.hok.fresh le)
    · obtain ⟨its, rv, tp, hz⟩ := I1.tuple sq
      have al : a < s1.heap.objs.size := let ⟨_, q, _⟩ := tp; Heap.lt_size q
      refine call_enumT tp fun h' he hit hk => wpAny_pyIter_enum he ?_
      have I2 : Inv X pins σ H1 { s1 with heap := h' } := I1.kept (t' := s1.toks) hk
      refine ⟨s1.heap.objs.size + 1, [s1.heap.objs.size + 1, s1.heap.objs.size], _, _, H1, rfl, I2, turn_enumT a (s1.heap.objs.size + 1) s1.heap.objs.size al, ⟨⟨.none, he⟩, hit, Nat.succ_ne_self _, Nat.ne_of_lt (Nat.lt_succ_of_lt al)⟩, fun b hb => ?_, q1⟩
      have le : s1.heap.objs.size ≤ b := by
        have z : b = s1.heap.objs.size + 1 ∨ b = s1.heap.objs.size := by simpa using hb
        rcases z with z | z <;> rw [z]
        · exact Nat.le_succ _
        · exact Nat.le_refl _
      exact I1.fpOk le (I1.hok.fresh le)
theorem i_zip {a b : Expr} {elts : List Expr} {kk : Nat} {p tpos : Pos} (C : Or) {fa fb : EF} (hg : Gl X "zip") (hm : X.mg "zip" = none) (ha : PE X a (tE X W (fa C))) (hb : PE X b (tE X W (fb C)))
    (s1 : starEach [a, b] X.env = (false, eval a X.env) :: starEach [b] X.env) (s2 : starEach [b] X.env = (false, eval b X.env) :: starEach [] X.env) : PI X (.Tuple elts kk tpos) (.Call (.Name "zip" p) [a, b] [] pos) (tI X W (itZ fa fb C)) :=
  PI.weak (ZM.pi_zipG hg hm (pa_cons ha (pa_cons hb pa_nil s2) s1) s1 (by rw [s2]; rfl)) fun σ H Q ⟨L, h, env, hr, sr, hp⟩ => ⟨L, h, env, hr, sr, pRg.then_ hp fun d h1 L1 H1 v le kp hr1 r1 hp1 => ⟨L1, h1, env, hr1, sr.mono le kp, pRg.then_ hp1 fun d2 h2 L2 H2 v2 le2 kp2 hr2 r2 hp2 => by
    have r1' := r1.mono le2 kp2
    split at hp2
    · rename_i z w ez ew
      obtain ⟨tu, a, rfl, ⟨xs, qa⟩, ka⟩ := seq_src hr2 r1' ez
      obtain ⟨tv, b, rfl, ⟨ys, qb⟩, kb⟩ := seq_src hr2 r2 ew
      exact ⟨tu, tv, a, b, xs, ys, rfl, qa, qb, hp2 L2 H2 _ (LE.refl _) (Keep.refl _) hr2 (walk_zipG ka kb)⟩
    · exact hp2.elim⟩⟩
/-! isinstance -/
theorem kit_isi {K : PySem.W.Frag} {t T : String} (ht : t ∈ ["NoneType", "bool", "int", "str", "tuple", "list", "dict"]) (hT : T ∈ ["bool", "int", "str", "tuple", "list", "dict"]) : PySem.W.kitOne K (.type t) (.type T) = some (isiD t T) := by
  have z : kitB t T = some (isiD t T) := by
    have all : ∀ t ∈ ["NoneType", "bool", "int", "str", "tuple", "list", "dict"], ∀ T ∈ ["bool", "int", "str", "tuple", "list", "dict"], kitB t T = some (isiD t T) := by decide +kernel
    exact all t ht T hT
  exact kit_ty z
theorem ty_of {K : PySem.W.Frag} {L : List Addr} {H : Hp} {h : Hv} (hr : HR K L H h) {d : D} {v : V} (r : Rel K L H d v) {t : String} (e : tyD d h = some t) : TyX K H v (.type t) ∧ t ∈ ["NoneType", "bool", "int", "str", "tuple", "list", "dict"] := by
  cases r with
  | non => cases e; exact ⟨.base .non, by decide⟩
  | bl b => cases e; exact ⟨.base (.bl b), by decide⟩
  | int b => cases e; exact ⟨.base (.int b), by decide⟩
  | str b => cases e; exact ⟨.base (.str b), by decide⟩
  | fn s => cases e
  | exn _ => cases e
  | @tup ds a xs ha ra =>
    cases e
    refine ⟨?_, by decide⟩
    rcases ha with (ha | ⟨o, ha⟩) | ⟨o, its, n, hk, hc, _⟩
    · exact .base (.tup ha)
    · exact .fTuple ha
    · exact .kTuple hk hc
  | @ref p a ea =>
    simp only [tyD] at e
    split at e
    · rename_i kvs e0
      cases e
      obtain ⟨us, q, s⟩ := hr.dct p a kvs e0 ea
      exact ⟨.base (.dK q), by decide⟩
    · rename_i kvs e0
      cases e
      obtain ⟨od, us, q, s⟩ := hr.rod p a kvs e0 ea
      exact ⟨.fDict q, by decide⟩
    · cases e
    · rename_i ob n1 n2 n3 e0
      cases e
      refine ⟨?_, by decide⟩
      cases ob with
      | lst ds =>
        obtain ⟨xs, q, s⟩ := hr.lst p a ds e0 ea
        exact .base (.lst q)
      | ro ds =>
        obtain ⟨xs, q, s⟩ := hr.ro p a ds e0 ea
        rcases q with ⟨o, q⟩ | ⟨o, its, n, hk, hc, _⟩
        · exact .base (.frz q)
        · exact .kList hk hc
      | dct kvs => exact (n1 kvs rfl).elim
      | rod kvs => exact (n2 kvs rfl).elim
      | obj c fs => exact (n3 c fs rfl).elim
    · cases e
theorem r_isi {a : Expr} {T : Str} {Ts : String} {p p2 : Pos} (C : Or) {fa : EF} (hg : Gl X "isinstance") (hm : X.mg "isinstance" = none) (hgT : Gl X T) (hmT : X.mg T = none) (hv : bootBuiltins T = some (.type Ts)) (hT : Ts ∈ ["bool", "int", "str", "tuple", "list", "dict"]) (hn : T ≠ "__name__") (hd : (T == ("__debug__" : Str)) = false)
    (ha : PE X a (tE X W (fa C))) (s1 : starEach [a, .Name T p2] X.env = (false, eval a X.env) :: starEach [.Name T p2] X.env) : PE X (.Call (.Name "isinstance" p) [a, .Name T p2] [] pos) (tE X W (un1F (isiF Ts) fa C)) :=
  PE.weak (pe_callB call_isi hg hm boot_isinstance (pa_cons ha (pa_cons (pe_bltn (v := .ty Ts) hgT hmT hv rfl hn hd) pa_nil rfl) s1) (by decide) (by decide) s1 rfl) fun σ H Q ⟨L, h, env, hr, sr, hp⟩ => ⟨L, h, env, hr, sr, pRg.then_ hp fun d h1 L1 H1 v le kp hr1 r1 hp1 => by
    unfold isiF at hp1
    split at hp1
    · rename_i t e
      obtain ⟨ty, mem⟩ := ty_of hr1 r1 e
      exact ⟨v, .ty Ts, _, _, _, rfl, .ty Ts, ty, kit_isi mem hT, here hr1 hp1 (.bl _)⟩
    · exact hp1.elim⟩
end
end VM

set_option maxRecDepth 100000
set_option maxHeartbeats 1000000
namespace VM
open PySem PySem.Spec PyProof.Rows L2 HT
theorem zip3_get : ∀ {xs ys ws : List D} {i : Nat} {d : D}, (zip3D xs ys ws)[i]? = some d → ∃ x y w, d = .tup [x, y, w] ∧ xs[i]? = some x ∧ ys[i]? = some y ∧ ws[i]? = some w
  | x :: xs, y :: ys, w :: ws, 0, d, e => by
    simp only [zip3D, List.getElem?_cons_zero, Option.some.injEq] at e
    exact ⟨x, y, w, e.symm, rfl, rfl, rfl⟩
  | x :: xs, y :: ys, w :: ws, i + 1, d, e => by
    simp only [zip3D, List.getElem?_cons_succ] at e
    obtain ⟨a, b, c, e1, e2, e3, e4⟩ := zip3_get e
    exact ⟨a, b, c, e1, by simpa using e2, by simpa using e3, by simpa using e4⟩
  | [], _, _, _, _, e => by simp [zip3D] at e
  | _ :: _, [], _, _, _, e => by simp [zip3D] at e
  | _ :: _, _ :: _, [], _, _, e => by simp [zip3D] at e
theorem zip3_len : ∀ xs ys ws : List D, (zip3D xs ys ws).length = min xs.length (min ys.length ws.length)
  | [], _, _ => by simp [zip3D]
  | _ :: _, [], _ => by simp [zip3D]
  | _ :: _, _ :: _, [] => by simp [zip3D]
  | x :: xs, y :: ys, w :: ws => by
    simp only [zip3D, List.length_cons, zip3_len xs ys ws]; omega
section
variable {X : Cx} {W : WX} [HasT]
theorem walk_zip3 {K : PySem.W.Frag} {L : List Addr} {H : Hp} {a b c : Addr} {ds es fs : List D} {xs ys ws : List V} (ha : SqT K H a xs) (ra : Rels K L H ds xs) (hb : SqT K H b ys) (rb : Rels K L H es ys) (hc : SqT K H c ws) (rc : Rels K L H fs ws) :
    WalkOk K L H (ZM.It3 K a b c) (zip3D ds es fs) [] := by
  intro L1 H1 h i le kp hr _
  have sx := kp.tup _ _ ha
  have sy := kp.tup _ _ hb
  have sw := kp.tup _ _ hc
  have rx := ra.mono le kp
  have ry := rb.mono le kp
  have rw_ := rc.mono le kp
  refine ⟨fun d e => ?_, fun e => ⟨xs, ys, ws, sx, sy, sw, ?_⟩⟩
  · obtain ⟨x, y, w, rfl, e1, e2, e3⟩ := zip3_get e
    obtain ⟨u1, f1, r1⟩ := rx.get e1
    obtain ⟨u2, f2, r2⟩ := ry.get e2
    obtain ⟨u3, f3, r3⟩ := rw_.get e3
    refine ⟨⟨xs, ys, ws, u1, u2, u3, sx, sy, sw, f1, f2, f3⟩, fun v H' yl => ?_⟩
    obtain ⟨T, x', y', w', rfl, hT, rfl, q1, q2, q3⟩ := yl
    have z1 := q1 xs sx
    have z2 := q2 ys sy
    have z3 := q3 ws sw
    rw [f1] at z1
    rw [f2] at z2
    rw [f3] at z3
    cases z1
    cases z2
    cases z3
    exact ⟨Keep.new hT, hr.new hT, .tup (.inl (.inl upd_same)) (.cons (r1.mono (LE.refl _) (Keep.new hT)) (.cons (r2.mono (LE.refl _) (Keep.new hT)) (.cons (r3.mono (LE.refl _) (Keep.new hT)) .nil)))⟩
  · rw [zip3_len] at e
    have l1 := rx.len
    have l2 := ry.len
    have l3 := rw_.len
    omega
theorem i_zip3 {a b c : Expr} {elts : List Expr} {kk : Nat} {p tpos pos : Pos} (C : Or) {fa fb fc : EF} (hg : Gl X "zip") (hm : X.mg "zip" = none) (ha : PE X a (tE X W (fa C))) (hb : PE X b (tE X W (fb C))) (hc : PE X c (tE X W (fc C)))
    (s1 : starEach [a, b, c] X.env = (false, eval a X.env) :: starEach [b, c] X.env) (s2 : starEach [b, c] X.env = (false, eval b X.env) :: starEach [c] X.env) (s3 : starEach [c] X.env = (false, eval c X.env) :: starEach [] X.env) : PI X (.Tuple elts kk tpos) (.Call (.Name "zip" p) [a, b, c] [] pos) (tI X W (itZ3 fa fb fc C)) :=
  PI.weak (ZM.pi_zip3 hg hm (pa_cons ha (pa_cons hb (pa_cons hc pa_nil s3) s2) s1) s1 (by rw [s2, s3]; rfl)) fun σ H Q ⟨L, h, env, hr, sr, hp⟩ => ⟨L, h, env, hr, sr, pRg.then_ hp fun d h1 L1 H1 v le kp hr1 r1 hp1 => ⟨L1, h1, env, hr1, sr.mono le kp, pRg.then_ hp1 fun d2 h2 L2 H2 v2 le2 kp2 hr2 r2 hp2 => ⟨L2, h2, env, hr2, (sr.mono le kp).mono le2 kp2, pRg.then_ hp2 fun d3 h3 L3 H3 v3 le3 kp3 hr3 r3 hp3 => by
    have r1' := (r1.mono le2 kp2).mono le3 kp3
    have r2' := r2.mono le3 kp3
    split at hp3
    · cases r1' with
      | tup qa ra =>
        cases r2' with
        | tup qb rb =>
          cases r3 with
          | tup qc rc => exact ⟨_, _, _, _, _, _, rfl, qa, qb, qc, hp3 L3 H3 _ (LE.refl _) (Keep.refl _) hr3 (walk_zip3 qa ra qb rb qc rc)⟩
    · exact hp3.elim⟩⟩⟩
end
end VM

set_option maxRecDepth 100000
set_option maxHeartbeats 4000000
namespace VM
open PySem PySem.Spec PyProof.Rows L2
variable [HasT]
/-! tuple times 0, times 1 -/
theorem tmul_same (l : Addr) (items : Array Value) (n : Nat) (dd : Option Addr) (sl : Array (Option Value)) (x : Int) (u : Tok) (q0 : (decide (x < -(2 ^ 63)) || decide (x ≥ 2 ^ 63)) = false) (q1 : (items.isEmpty || x == 1) = true) :
    Meets (Builtin.«tuple.__mul__» ⟨[.ref l, .int x u], []⟩) (fun _ R s => s.heap.get? l = some { cls := .type "tuple", dict := dd, data := .seq items n, slots := sl } ∧ R (.ok (.ret (Value.ref l))) s) := by
  refine .of_wp fun prog w A R s hh => ?_
  rcases s with ⟨hp, g, d, tk, os⟩
  rcases hh with ⟨hl, h⟩
  have f1 := AutoSeq1.idx_int
  wp_walk using AutoSeq1.wpAny_loadPart' hl
  repeat (first
    | (refine wpAny_ite_false (decide_eq_false (by rw [q0]; exact Bool.false_ne_true)) ?_; wp_walk using AutoSeq1.wpAny_loadPart' hl)
    | (refine wpAny_ite_true (decide_eq_true q1) ?_; wp_walk using AutoSeq1.wpAny_loadPart' hl))
  exact ⟨_, rfl, h⟩
theorem tmul_none (l : Addr) (items : Array Value) (n : Nat) (dd : Option Addr) (sl : Array (Option Value)) (x : Int) (u : Tok) (q0 : (decide (x < -(2 ^ 63)) || decide (x ≥ 2 ^ 63)) = false) (q1 : (items.isEmpty || x == 1) = false) (q2 : (decide (x ≤ 0) || items.isEmpty) = true) :
    Meets (Builtin.«tuple.__mul__» ⟨[.ref l, .int x u], []⟩) (fun _ R s => s.heap.get? l = some { cls := .type "tuple", dict := dd, data := .seq items n, slots := sl } ∧
      R (.ok (.ret (Value.ref s.heap.objs.size))) { s with heap := s.heap.push { cls := Value.type "tuple", data := Data.seq #[] }, toks := s.toks }) := by
  refine .of_wp fun prog w A R s hh => ?_
  rcases s with ⟨hp, g, d, tk, os⟩
  rcases hh with ⟨hl, h⟩
  have f1 := AutoSeq1.idx_int
  wp_walk using AutoSeq1.wpAny_loadPart' hl
  repeat (first
    | (refine wpAny_ite_false (decide_eq_false (by rw [q0]; exact Bool.false_ne_true)) ?_; wp_walk using AutoSeq1.wpAny_loadPart' hl)
    | (refine wpAny_ite_false (decide_eq_false (by rw [q1]; exact Bool.false_ne_true)) ?_; wp_walk using AutoSeq1.wpAny_loadPart' hl)
    | (refine wpAny_ite_true (decide_eq_true q2) ?_; wp_walk using AutoSeq1.wpAny_loadPart' hl))
  exact ⟨_, rfl, h⟩
/-- the tuple where it is empty or once; a new empty one -/
def rRep01 (K : PySem.W.Frag) : R2 := fun x y H Q => ∃ l k xs, x = .ref l ∧ y = .int k ∧ SqT K H l xs ∧ ((k = 1 ∧ Q (.ref l) H) ∨ (k = 0 ∧ (xs = [] → Q (.ref l) H) ∧ (xs ≠ [] → ∀ p, H p = none → Q (.ref p) (upd H p (.tup [])))))
theorem op_rep01 {X : Cx} : OpR X (binaryOp .Mult) (rRep01 X.K) := by
  intro pins s σ H x y v u Q I rx ry h
  obtain ⟨l, k, xs, rfl, rfl, hT, q⟩ := h
  cases rx
  obtain ⟨t, rfl⟩ := ry
  obtain ⟨its, r, ⟨⟨cls, dd, data, sl⟩, ho, hc, n, hd⟩, hs⟩ := I.tuple hT
  cases (show cls = .type "tuple" from hc)
  cases (show data = .seq its.toArray n from hd)
  have len : its.length = xs.length := r.length.symm
  have hk : k = 0 ∨ k = 1 := by
    rcases q with ⟨rfl, _⟩ | ⟨rfl, _⟩
    · exact .inr rfl
    · exact .inl rfl
  have q0 : (decide (k < -(2 ^ 63)) || decide (k ≥ 2 ^ 63)) = false := by
    rcases hk with rfl | rfl <;> decide
  have run : ∀ {Q' : Value → Shared → Prop}, (∀ A, codeAny (model X.prog X.w) A (.builtin "tuple.__mul__" ⟨[.ref l, .int k t], []⟩) (fun r s' => ∃ v, r = .ok (.ret v) ∧ Q' v s') s → True) → True := fun _ => trivial
  have same : (its.toArray.isEmpty || k == 1) = true → Q (.ref l) H → wpAny (model X.prog X.w) X.A (binaryOp .Mult (.ref l) (.int k t)) (EP X pins σ Q) X.xe s := fun q1 qq => by
    refine wpAny_binaryOp_repeat_ref (T := "tuple") (U := "int") (by decide) ⟨_, ho, rfl⟩ (fun s' => typeIs_int s' k t) noFill_tuple_mul F.fills_int_mul F.slot_int_rmul repeat_tuple F.slot_int_index.lookup
      (call_meets F.slot_int_rmul (typeIs_int s k t) F.entry_int_rmul (F.args_int_rmul_2 _ _) (int_rmul_tuple k t l its.toArray n dd sl)
        ⟨ho, rfl, ⟨_, ho, rfl⟩, call_meets F.slot_tuple_mul ⟨_, ho, rfl⟩ F.entry_tuple_mul (F.args_tuple_mul_2 _ _) (tmul_same l its.toArray n dd sl k t q0 q1) ⟨ho, ?_⟩⟩)
    exact ⟨.ref l, H, I, rfl, qq⟩
  rcases q with ⟨rfl, qq⟩ | ⟨rfl, qe, qn⟩
  · exact same (by simp) qq
  · cases its with
    | nil =>
      have e : xs = [] := by cases xs with | nil => rfl | cons _ _ => simp at len
      exact same (by simp) (qe e)
    | cons i0 ir =>
      have e : xs ≠ [] := by intro z; subst z; simp at len
      refine wpAny_binaryOp_repeat_ref (T := "tuple") (U := "int") (by decide) ⟨_, ho, rfl⟩ (fun s' => typeIs_int s' 0 t) noFill_tuple_mul F.fills_int_mul F.slot_int_rmul repeat_tuple F.slot_int_index.lookup
        (call_meets F.slot_int_rmul (typeIs_int s 0 t) F.entry_int_rmul (F.args_int_rmul_2 _ _) (int_rmul_tuple 0 t l (i0 :: ir).toArray n dd sl)
          ⟨ho, rfl, ⟨_, ho, rfl⟩, call_meets F.slot_tuple_mul ⟨_, ho, rfl⟩ F.entry_tuple_mul (F.args_tuple_mul_2 _ _) (tmul_none l (i0 :: ir).toArray n dd sl 0 t q0 (by simp) (by simp)) ⟨ho, ?_⟩⟩)
      refine ⟨.ref s.heap.objs.size, _, I.laid (t' := s.toks) (o := .tup []) (fun b ob q => Heap.get?_push_of_some _ q) (Nat.le_refl _) ?_, rfl, qn e _ (I.hok.fresh (Nat.le_refl _))⟩
      exact ⟨Nat.zero_le _, [], .nil, IsTup.new _ _⟩
section
variable {X : Cx} {W : WX} {pos : Pos}
def rMulA (K : PySem.W.Frag) : R2 := fun x y H Q => rI CMul (fun i j => .int (i * j)) x y H Q ∨ rI CMulW (fun i j => .int (i * j)) x y H Q ∨ rRep x y H Q ∨ rRepT K x y H Q ∨ rRep01 K x y H Q
theorem op_mulA : OpR X (binaryOp .Mult) (rMulA X.K) := op_mul.or (op_mulW.or (op_rep.or (op_repT.or op_rep01)))
theorem o_mul : OkR X W opMul (rMulA X.K) := by
  intro L H h σ d1 d2 v1 v2 Q hr r1 r2 hp
  cases r1 with
  | int i =>
    cases r2 with
    | int j =>
      simp only [opMul] at hp
      split at hp
      · rename_i hz
        have big : ∀ {z : Int}, z.natAbs < big64 → -(2 ^ 64) < z ∧ z < 2 ^ 64 := fun {z} q => by
          have q2 : z.natAbs < 18446744073709551616 := q
          omega
        rcases hz with hz | hz | ⟨h1, h2⟩
        · exact .inl ⟨i, j, rfl, rfl, .inl (big hz), here hr hp (.int _)⟩
        · exact .inl ⟨i, j, rfl, rfl, .inr (big hz), here hr hp (.int _)⟩
        · exact .inr (.inl ⟨i, j, rfl, rfl, wide_mul h1 h2 (by decide) (by decide) (by decide), here hr hp (.int _)⟩)
      · exact hp.elim
    | _ => exact hp.elim
  | @ref p a ea =>
    cases r2 with
    | int k =>
      simp only [opMul] at hp
      split at hp
      · rename_i ds e0
        split at hp
        · rename_i hz
          obtain ⟨xs, q, s⟩ := hr.lst p a ds e0 ea
          refine .inr (.inr (.inl ⟨a, k, xs, rfl, rfl, q, by omega, by omega, ?_, fun b nb => allocd hr (s.rep _) nb hp⟩))
          have z : xs.length * k.toNat ≤ 1000 * 1000 := Nat.mul_le_mul (by rw [← s.len]; exact hz.2.2) (by omega)
          rw [sizeLine_eq]; omega
        · exact hp.elim
      · exact hp.elim
    | _ => exact hp.elim
  | @tup ds a xs ha ra =>
    cases r2 with
    | int k =>
      simp only [opMul] at hp
      split at hp
      · rename_i hk
        subst hk
        refine .inr (.inr (.inr (.inr ⟨a, 0, xs, rfl, rfl, ha, .inr ⟨rfl, fun e => here hr hp (.tup ha ?_), fun e p np => hp L _ _ (LE.refl _) (Keep.new np) (hr.new np) (.tup (.inl (.inl upd_same)) .nil)⟩⟩)))
        subst e
        exact .nil
      · split at hp
        · rename_i hk
          subst hk
          exact .inr (.inr (.inr (.inr ⟨a, 1, xs, rfl, rfl, ha, .inl ⟨rfl, here hr hp (.tup ha ra)⟩⟩)))
        · split at hp
          · rename_i hz
            refine .inr (.inr (.inr (.inl ⟨a, k, xs, rfl, rfl, ha, fun z => hz.1 (by subst z; cases ra; rfl), hz.2.1, hz.2.2.1, by rw [← ra.len]; exact hz.2.2.2, fun p np => hp L _ _ (LE.refl _) (Keep.new np) (hr.new np) (.tup (.inl (.inl upd_same)) ((ra.rep _).mono (LE.refl _) (Keep.new np)))⟩)))
          · exact hp.elim
    | _ => exact hp.elim
  | _ => exact hp.elim
/-! methods of lists -/
theorem ext_tupW (l : Addr) (items : Array Value) (n : Nat) (b : Addr) (items2 : Array Value) (n2 : Nat) (dd : Option Addr) (sl : Array (Option Value)) (q0 : ¬(!items.isEmpty && Builtin.List.listTooLong (items.size + items2.size)) = true) (q1 : items.size ≤ sizeLine) (q2 : items.size + items2.size ≤ sizeLine + 1) :
    Meets (Builtin.«list.extend» ⟨[.ref l, .ref b], []⟩) (fun _ R s => s.heap.get? l = some { cls := .type "list", dict := none, data := .seq items n, slots := #[] } ∧ s.heap.get? b = some { cls := .type "tuple", dict := dd, data := .seq items2 n2, slots := sl } ∧
      R (.ok (.ret Value.none)) { s with heap := s.heap.update l (Obj.mapSeq fun x => x ++ items2), toks := s.toks }) := by
  refine .of_wp fun prog w A R s hh => ?_
  rcases s with ⟨hp, g, d, tk, os⟩
  rcases hh with ⟨hl, hb, h⟩
  have f1 := AutoSeq1.idx_int
  have f2 := AutoSeq1.sub_tuple_tuple
  have f3 := AutoSeq1.sub_list_list
  have f4 := AutoSeq1.sub_tuple_list
  have f5 := AutoSeq1.sub_list_tuple
  have hz' : (items ++ items2).size ≤ sizeLine + 1 := by rw [Array.size_append]; exact q2
  wp_walk using (wpAny_updateSeq hl rfl (hz := q1) (_hz' := hz')), AutoSeq1.wpAny_loadPart' hl, AutoSeq1.wpAny_loadPart' hb
  exact ⟨_, rfl, h⟩
def rExtT (K : PySem.W.Frag) : V → List V → Hp → VK → Prop := fun x vs H Q => ∃ l b xs zs, x = .ref l ∧ vs = [.ref b] ∧ H l = some (.lst xs) ∧ SqT K H b zs ∧ xs.length + zs.length ≤ sizeLine ∧ Q .non (upd H l (.lst (xs ++ zs)))
theorem mt_extT : MtR X "list.extend" (rExtT X.K) := by
  intro pins s σ H x vs v us Q I rx rv h
  obtain ⟨l, b, xs, zs, rfl, rfl, hH, hB, hz, q⟩ := h
  cases rx
  obtain ⟨u, rfl, ru⟩ := Vals.one rv
  cases ru
  obtain ⟨z, its, n, r, hl, e⟩ := I.lstM hH
  obtain ⟨its2, r2, ⟨⟨cls, dd, data, sl⟩, ho, hc, n2, hd⟩, hz2⟩ := I.tuple hB
  cases (show cls = .type "tuple" from hc)
  cases (show data = .seq its2.toArray n2 from hd)
  have l2 := r2.length
  have sz : its.toArray.size + its2.toArray.size ≤ sizeLine := by rw [List.size_toArray, List.size_toArray]; omega
  have q0 : ¬ (!its.toArray.isEmpty && Builtin.List.listTooLong (its.toArray.size + its2.toArray.size)) = true := by
    rw [notLongL sz, Bool.and_false]
    exact Bool.false_ne_true
  refine call_meets F.slot_list_extend ⟨_, e, rfl⟩ F.entry_list_extend (F.args_list_extend_2 _ _) (ext_tupW l its.toArray n b its2.toArray n2 dd sl q0 (by rw [List.size_toArray]; omega) (by omega)) ⟨e, ho, ?_⟩
  exact ⟨.non, _, I.lset (its' := its ++ its2) hH e (by simp) (r.append r2) (by rw [List.length_append]; omega), rfl, q⟩
def OkM (X : Cx) (W : WX) (g : D → List D → Hv → R D) (r : V → List V → Hp → VK → Prop) : Prop := ∀ L H h (σ : L2.St) d v ds vs Q, HR X.K L H h → Rel X.K L H d v → Rels X.K L H ds vs → pR X.K X.mg L H W σ Q (g d ds h) → r v vs H Q
theorem tyL {L : List Addr} {H : Hp} {h : Hv} {d : D} {v : V} (hr : HR X.K L H h) (r : Rel X.K L H d v) (e : isLst d h = true) : tyV X.K "list" v H := by
  cases r with
  | @ref p a ea =>
    obtain ⟨o, eo⟩ := hr.ob ea
    cases o with
    | lst ds =>
      obtain ⟨xs, q, s⟩ := hr.lst p a ds eo ea
      exact .inl ⟨rfl, xs, SqL.of q⟩
    | ro ds =>
      obtain ⟨xs, q, s⟩ := hr.ro p a ds eo ea
      exact .inl ⟨rfl, xs, q.seq⟩
    | _ => simp only [isLst, eo] at e; cases e
  | _ => cases e
theorem r_meth {o e : Expr} {es : List Expr} {name : Str} {apos : Pos} {id : String} {g : D → List D → Hv → R D} {r : V → List V → Hp → VK → Prop} (C : Or) {fo : EF} {fs : List EF}
    (ok : OkM X W g r) (slot : Slot "list" name id) (hty : typeOf (.builtin id) = pure (.type "method_descriptor")) (hm : MtR X id r) (ho : PE X o (tE X W (fo C))) (ha : PA X (e :: es) (tA X W (listF fs C)))
    (hbase : attributeBase o name X.env (eval o X.env) = eval o X.env) (hfew : ((backTo pos (starEach (e :: es) X.env)).all (fun x => !x.1) && (backToKw pos (keywordEach [] X.env)).all (fun x => x.1.isSome)
      && decide ((e :: es).length + ([] : List Keyword).length + (if ([] : List Keyword).isEmpty then 0 else 1) < 30)) = true) (hline : (apos.endLine == pos.line) = true)
    (hs : starEach (e :: es) X.env = (false, eval e X.env) :: starEach es X.env) (hplain : (backTo pos (starEach es X.env)).any (·.1) = false) : PE X (.Call (.Attribute o name apos) (e :: es) [] pos) (tE X W (methF g fo fs C)) :=
  PE.weak (pe_bm PySem.F.plainAttrs_list slot hty hm ho ha hbase hfew hline hs hplain) fun σ H Q ⟨L, h, env, hr, sr, hp⟩ => ⟨L, h, env, hr, sr, pRg.then_ hp fun d h1 L1 H1 v le kp hr1 r1 hp1 => by
    split at hp1
    · rename_i il
      exact ⟨tyL hr1 r1 il, L1, h1, env, hr1, sr.mono le kp, pRg.then_ hp1 fun ds h2 L2 H2 vs le2 kp2 hr2 r2 hp2 => ok L2 H2 h2 σ d v ds vs Q hr2 (r1.mono le2 kp2) r2 hp2⟩
    · exact hp1.elim⟩
theorem r_meth0 {o : Expr} {name : Str} {apos : Pos} {id : String} {g : D → List D → Hv → R D} {r : V → List V → Hp → VK → Prop} (C : Or) {fo : EF}
    (ok : OkM X W g r) (slot : Slot "list" name id) (hty : typeOf (.builtin id) = pure (.type "method_descriptor")) (hm : MtR X id r) (ho : PE X o (tE X W (fo C)))
    (hbase : attributeBase o name X.env (eval o X.env) = eval o X.env) (hline : (apos.endLine == pos.line) = true) : PE X (.Call (.Attribute o name apos) [] [] pos) (tE X W (methF g fo [] C)) :=
  PE.weak (pe_bm0 PySem.F.plainAttrs_list slot hty hm ho hbase hline) fun σ H Q ⟨L, h, env, hr, sr, hp⟩ => ⟨L, h, env, hr, sr, pRg.then_ hp fun d h1 L1 H1 v le kp hr1 r1 hp1 => by
    split at hp1
    · rename_i il
      exact ⟨tyL hr1 r1 il, ok L1 H1 h1 σ d v [] [] Q hr1 r1 .nil hp1⟩
    · exact hp1.elim⟩
theorem m_append : OkM X W mAppend rAppend := by
  intro L H h σ d v ds vs Q hr r rs hp
  unfold mAppend at hp
  split at hp
  · rename_i p d
    split at hp
    · rename_i ds e0
      split at hp
      · rename_i hz
        cases r with
        | @ref _ a ea =>
          obtain ⟨u, rfl, ru⟩ := one_of rs
          obtain ⟨xs, q, s⟩ := hr.lst p a ds e0 ea
          exact ⟨a, xs, u, rfl, rfl, q, Nat.lt_of_lt_of_le (by rw [← s.len]; exact hz) szl_le, hp L _ _ (LE.refl _) (Keep.setL q) (hr.set e0 ea (s.app (.cons ru .nil))) .non⟩
      · exact hp.elim
    · exact hp.elim
  · exact hp.elim
theorem m_pop : OkM X W mPop rPopAt := by
  intro L H h σ d v ds vs Q hr r rs hp
  unfold mPop at hp
  split at hp
  · rename_i p i
    split at hp
    · rename_i ds e0
      split at hp
      · rename_i hz
        split at hp
        · rename_i d hd
          cases r with
          | @ref _ a ea =>
            obtain ⟨u, rfl, ru⟩ := one_of rs
            cases ru
            obtain ⟨xs, q, s⟩ := hr.lst p a ds e0 ea
            obtain ⟨y, hy, ry⟩ := s.get hd
            have hlt := (List.getElem?_eq_some_iff.1 hy).1
            refine ⟨a, xs, i, i.toNat, y, rfl, rfl, q, by omega, by omega, ?_, hy, hp L _ _ (LE.refl _) (Keep.setL q) (hr.set e0 ea (s.erase _)) (ry.mono (LE.refl _) (Keep.setL q))⟩
            unfold seqIndex?
            simp only []
            rw [if_neg (show ¬ i < 0 by omega)]
            have hb : (decide (0 ≤ i) && decide (i < (xs.length : Int))) = true := by
              rw [Bool.and_eq_true, decide_eq_true_eq, decide_eq_true_eq]
              omega
            rw [if_pos hb]
        · exact hp.elim
      · exact hp.elim
    · exact hp.elim
  · exact hp.elim
theorem r_lrg {p p2 pos pos2 : Pos} {a : Expr} (C : Or) {fa : EF} (hc : X.calm = true) (hg : Gl X "list") (hm : X.mg "list" = none) (hg2 : Gl X "range") (hm2 : X.mg "range" = none) (ha : PE X a (tE X W (fa C))) (na : starEach [a] X.env = (false, eval a X.env) :: starEach [] X.env) :
    PE X (.Call (.Name "list" p) [.Call (.Name "range" p2) [a] [] pos2] [] pos) (tE X W (lrF fa C)) :=
  PE.weak (pe_listRg hc hg hm (prg_1 hg2 hm2 ha na)) fun σ H Q ⟨L, h, env, hr, sr, hp⟩ => ⟨L, h, env, hr, sr, hp.then_ fun d h1 L1 H1 v le kp hr1 r1 hp1 => by
    cases r1 <;> try exact hp1.elim
    rename_i j
    simp only at hp1
    split at hp1
    · rename_i hz
      refine ⟨j, rfl, RgOk.of_le (by omega) (by omega) (by omega) (by omega), fun q np => allocd hr1 ?_ np hp1⟩
      unfold rng rgV
      rw [Int.sub_zero]
      exact Rels.ints (fun i => 0 + (i : Nat)) _
    · exact hp1.elim⟩
theorem m_reverse : OkM X W mReverse rReverse := by
  intro L H h σ d v ds vs Q hr r rs hp
  unfold mReverse at hp
  split at hp
  · rename_i p
    split at hp
    · rename_i ds e0
      cases r with
      | @ref _ a ea =>
        cases rs
        obtain ⟨xs, q, s⟩ := hr.lst p a ds e0 ea
        exact ⟨a, xs, rfl, rfl, q, hp L _ _ (LE.refl _) (Keep.setL q) (hr.set e0 ea s.rev) .non⟩
    · exact hp.elim
  · exact hp.elim
theorem m_clear : OkM X W mClear rClear := by
  intro L H h σ d v ds vs Q hr r rs hp
  unfold mClear at hp
  split at hp
  · rename_i p
    split at hp
    · rename_i ds e0
      cases r with
      | @ref _ a ea =>
        cases rs
        obtain ⟨xs, q, s⟩ := hr.lst p a ds e0 ea
        exact ⟨a, xs, rfl, rfl, q, hp L _ _ (LE.refl _) (Keep.setL q) (hr.set e0 ea .nil) .non⟩
    · exact hp.elim
  · exact hp.elim
def rExtA (K : PySem.W.Frag) : V → List V → Hp → VK → Prop := fun x vs H Q => rExtend x vs H Q ∨ rExtT K x vs H Q
theorem mt_extA : MtR X "list.extend" (rExtA X.K) := MtR.or mt_extend mt_extT
theorem m_extend : OkM X W mExtend (rExtA X.K) := by
  intro L H h σ d v ds vs Q hr r rs hp
  unfold mExtend at hp
  split at hp
  · rename_i p es
    split at hp
    · rename_i ds e0
      split at hp
      · rename_i hz
        cases r with
        | @ref _ a ea =>
          obtain ⟨u, rfl, ru⟩ := one_of rs
          cases ru with
          | @tup _ b ys hb rb =>
            obtain ⟨xs, q, s⟩ := hr.lst p a ds e0 ea
            exact .inr ⟨a, b, xs, ys, rfl, rfl, q, hb, Nat.le_trans (by rw [← s.len, ← rb.len]; exact hz) szl_le, hp L _ _ (LE.refl _) (Keep.setL q) (hr.set e0 ea (s.app rb)) .non⟩
      · exact hp.elim
    · exact hp.elim
  · rename_i p q'
    split at hp
    · rename_i ds es e0 e1
      split at hp
      · rename_i hz
        cases r with
        | @ref _ a ea =>
          obtain ⟨u, rfl, ru⟩ := one_of rs
          cases ru with
          | @ref _ b eb =>
            obtain ⟨xs, q, s⟩ := hr.lst p a ds e0 ea
            obtain ⟨ys, qb, sb⟩ := hr.lst _ b es e1 eb
            exact .inl ⟨a, b, xs, ys, rfl, rfl, q, qb, Nat.le_trans (by rw [← s.len, ← sb.len]; exact hz) szl_le, hp L _ _ (LE.refl _) (Keep.setL q) (hr.set e0 ea (s.app sb)) .non⟩
      · exact hp.elim
    · exact hp.elim
  · exact hp.elim
end
end VM

set_option maxRecDepth 100000
set_option maxHeartbeats 4000000
namespace VM
open PySem PySem.Spec PyProof.Rows L2
section
variable {X : Cx} {W : WX} {pos : Pos}
/-! x or y, of tuples -/
variable [HasT] in
theorem r_orT {a b : Expr} (C : Or) {fa fb : EF} (ha : PE X a (tE X W (fa C))) (hb : PE X (.BoolOp .Or [b] pos) (tE X W (fb C))) : PE X (.BoolOp .Or [a, b] pos) (tE X W (orT fa fb C)) :=
  PE.weak (pe_orT ha hb) fun σ H Q ⟨L, h, env, hr, sr, hp⟩ => ⟨L, h, env, hr, sr, pRg.then_ hp fun d1 h1 L1 H1 v1 le kp hr1 r1 hp1 => by
    cases r1 with
    | @tup ds a xs ha ra =>
      cases ra with
      | nil => exact ⟨false, .inr (.inl ⟨[], ha, rfl⟩), by rw [if_neg (by decide)]; exact ⟨L1, h1, env, hr1, sr.mono le kp, hp1⟩⟩
      | cons r t => exact ⟨true, .inr (.inl ⟨_, ha, rfl⟩), by rw [if_pos rfl]; exact here hr1 hp1 (.tup ha (.cons r t))⟩
    | _ => exact hp1.elim⟩
/-! an exception with a place: its __init__ -/
/-- self, a fresh exception of the class at C, gets its at -/
def spInit (K : PySem.W.Frag) : Sp := fun vs H Q _ => ∃ (a C : Addr) (y : V), vs = [.ref a, y] ∧ OexC K C ∧ PySem.W.findIn K (.ref C) "at" = some none ∧ H a = some (exo a C none) ∧
  ∀ dx, H dx = none → dx ≠ a → Q .non (upd (upd H dx (exd dx [("at", y)])) a (exo a C (some dx)))
/-- the class above it, whose __init__ is ValueError's -/
structure TeOk (K : PySem.W.Frag) (C : Addr) (mc : Value) : Prop where
  ga : PySem.W.specialIn K (.ref C) "__getattribute__" = some (some (.builtin "type.__getattribute__"))
  ty : PySem.W.typeIn K (.ref C) = some mc
  rd : PySem.W.readsIn K C mc = true
  fi : PySem.W.findCls K (.ref C) mc "__init__" = some (.val (.builtin "ValueError.__init__"))
theorem pe_oinit {x : Str} {C : Addr} {mc : Value} {e : Expr} {es : List Expr} {ta : TA} {p1 p2 : Pos} (T : TeOk X.K C mc) (hg : Gl X x) (hm : X.mg x = some (.ref C)) (hd : (x == ("__debug__" : Str)) = false) (ha : PA X (e :: es) ta)
    (hf : methodCallForm ((e :: es).length + ([] : List Keyword).length) (backTo pos (starEach (e :: es) X.env)) (backToKw pos (keywordEach [] X.env)) = true) (hl : (p2.endLine == pos.line) = true)
    (s1 : starEach (e :: es) X.env = (false, eval e X.env) :: starEach es X.env) (s2 : (backTo pos (starEach es X.env)).any (·.1) = false) :
    PE X (.Call (.Attribute (.Name x p1) "__init__" p2) (e :: es) [] pos) (tVeI X.K ta) := by
  refine ⟨fun pins s σ H Q I w => ?_⟩
  have ev : eval (.Call (.Attribute (.Name x p1) "__init__" p2) (e :: es) [] pos) X.env = (do
      let ov ← eval (.Name x p1) X.env
      standAt p2.atName
      let (f, first) ← holding [ov] (getMethod ov "__init__" (plainOf (.Name x p1) X.env))
      callWith pos f first (backTo pos (starEach (e :: es) X.env)) (backToKw pos (keywordEach [] X.env))) := by
    rw [arm_eval_Call, show attributeBase (.Name x p1) "__init__" X.env (eval (.Name x p1) X.env) = eval (.Name x p1) X.env from rfl]
    simp only [mcall_line hf hl]
  refine PySem.W.methodCall_KW (ld_glob I hg hm ?_ hd) ev
  obtain ⟨m, fr⟩ := I.fr
  refine PySem.W.method_of_cls fr I.ok.mod.kin T.ga (PySem.W.cls_val fr I.ok.mod.kin T.ty T.rd T.fi (by decide +kernel) ?_)
  refine PyProof.Rows.callWith_method1 (thn (ha.run pos pins _ σ H _ (I.tok _) w) fun us s1 hh => ?_) s1 s2
  obtain ⟨vs, H1, I1, r1, a, C, ws, rfl, hl, T1, ea, q⟩ := hh
  cases r1 with
  | @cons _ u0 _ ur ra rw' =>
    cases (show u0 = Value.ref a from ra)
    have hn := Paired.length rw'
    exact oinit_ok T1 I1 ea (by rw [← hn, sizeLine_eq]; omega) fun s' J => ⟨.non, H1, J, rfl, q⟩
end
/-- the def __init__ -/
theorem init_ok {P : Program} {w : World} {K : PySem.W.Frag} {mg : Str → Option Value} {base : Heap} {qual x m : Str} {args : Arguments} {scope : Scope} {f : Addr} {fd : FuncData} {C0 : Addr} {mc : Value} {j : Nat} {p1 p2 p3 p4 p5 p6 p7 p8 p9 p10 : Pos}
    (F : FunD K "__init__" qual args [.Expr (.Call (.Attribute (.Name x p1) "__init__" p2) [.Name "self" p3, .Constant (.str m) j p4] [] p5) p6, .Assign [.Attribute (.Name "self" p7) "at" p8] (.Name "at" p9) p10] scope [] [] f fd)
    (sc : FnScope ["self", "at"] ["self", "at"] scope) (hg : scope.names.lookup x = some .globalImplicit) (hv1 : scope.names.lookup ("self" : Str) = some .local) (hv2 : scope.names.lookup ("at" : Str) = some .local) (hm : mg x = some (.ref C0)) (hd : (x == ("__debug__" : Str)) = false) (T : TeOk K C0 mc) (hl : (p2.endLine == p5.line) = true) :
    FnOk P w K mg base (L2.CX P w) 1 f fd ["self", "at"] (spInit K) := by
  refine F.ok sc (fun vs H Q E h => by obtain ⟨a, C, y, rfl, _⟩ := h; rfl) (fun cdv A outer s H vs Q E hr h => ?_)
  obtain ⟨a, C, y, rfl, T1, no, ea, hq⟩ := h
  refine ⟨_, pss_cons (ps_expr (pe_oinit T hg hm hd (pa_cons (pe_var (i := 0) rfl (.inl hv1) (by decide) (by decide)) (pa_cons pe_str pa_nil)) rfl hl (by rfl) (by rfl)) (by rfl)) (pss_one (ps_ost (pe_var (i := 0) rfl (.inl hv1) (by decide) (by decide)) (pe_var (i := 1) rfl (.inl hv2) (by decide) (by decide)) rfl)), ?_⟩
  refine ⟨.ref a, rfl, a, C, _, rfl, by show 1 ≤ 1000; decide, T1, ea, y, rfl, .ref a, rfl, a, C, rfl, T1, no, .inl ⟨ea, hq⟩⟩
variable [HasT]
/-- what the text says of a class: raise x("..") -/
structure X0Ok (K : PySem.W.Frag) (Ca : Addr) : Prop where
  ex : PySem.W.excIn K Ca He.veBase "ValueError.__new__" = true
  kp : PySem.W.keepIn K (.ref Ca) = true
  sb : PySem.W.subIn K (.ref Ca) (.type "BaseException") = some true
  ty : PySem.W.typeIn K (.ref Ca) = some (.type "type")
/-- raise x(e), e is its at -/
def X1Ok (X : Cx) (Ca : Addr) : Prop := (∃ (fI : Addr) (fd : FuncData), PySem.W.findIn X.K (.ref Ca) "__init__" = some (some (.ref fI)) ∧ PySem.W.typeIn X.K (.ref fI) = some (.type "function") ∧
    Binds X.K fd ["self", "at"] [] ∧ (X.calm = true → Room 2 X.A) ∧ FnOk X.prog X.w X.K X.mg X.base (L2.CX X.prog X.w) 1 fI fd ["self", "at"] (spInit X.K)) ∧ OexC X.K Ca ∧ PySem.W.findIn X.K (.ref Ca) "at" = some none ∧ XfC X.K Ca
def XOk (X : Cx) (b : Bool) (Ca : Addr) : Prop := if b = true then X1Ok X Ca else X0Ok X.K Ca
section
variable {X : Cx} {W : WX} {pos : Pos}
theorem r_raise0 {x m : Str} {j : Nat} {p p2 p3 : Pos} {Ca : Addr} (C : Or) (hc : X.calm = true) (tk : Takes X W) (hg : Gl X x) (hm : X.mg x = some (.ref Ca)) (o : X0Ok X.K Ca) (hd : (x == ("__debug__" : Str)) = false) :
    PS X (.Raise (some (.Call (.Name x p) [.Constant (.str m) j p2] [] p3)) none pos) (tS X W (raiS x (conF .non) C)) :=
  PS.weak (ps_raise hc tk (pmk_own PySem.F.excBase_ValueError o.ex hm o.kp (raises_own o.sb o.ty) hg hd)) fun D_ σ H ⟨L, h, env, hr, sr, hp⟩ => hp L H σ (.ref Ca) none (LE.refl _) (Keep.refl _) hr sr ⟨hm, .inl ⟨rfl, rfl⟩⟩
theorem xd_heap {H1 : Hp} {a dx : Addr} {e0 e1 D u : HO} (ha : H1 a = none) (hne : dx ≠ a) : upd (del (upd (upd (upd H1 a e0) dx D) a e1) a) dx u = upd H1 dx u := by
  funext b
  by_cases hb : b = dx
  · subst hb; rw [upd_same, upd_same]
  · rw [upd_ne hb, upd_ne hb]
    by_cases hb2 : b = a
    · subst hb2; rw [del_same, ha]
    · rw [del_ne hb2, upd_ne hb2, upd_ne hb, upd_ne hb2]
theorem r_raise1 {x : Str} {e : Expr} {p p3 : Pos} {Ca : Addr} (C : Or) {fe : EF} (hc : X.calm = true) (tk : Takes X W) (hg : Gl X x) (hm : X.mg x = some (.ref Ca)) (o : X1Ok X Ca) (hd : (x == ("__debug__" : Str)) = false) (he : PE X e (tE X W (fe C)))
    (s1 : starEach [e] X.env = (false, eval e X.env) :: starEach [] X.env) : PS X (.Raise (some (.Call (.Name x p) [e] [] p3)) none pos) (tS X W (raiS x fe C)) := by
  obtain ⟨⟨fI, fd, iC, tI, bd, rm, F1⟩, T, no, xf⟩ := o
  refine PS.weak (ps_raise hc tk (pmk_oex T iC tI F1 (rm hc) bd .nil (passes_call tk (E := fun _ _ _ => False) fun _ _ _ _ z => z.elim) hg hm (a_cons (W := W) C he (a_nil C) s1) hd s1 rfl)) fun D_ σ H ⟨L, h, env, hr, sr, hp⟩ => ⟨L, h, env, hr, sr, ?_⟩
  have hp' : pS X.K X.mg L H W D_ ((fe C env h).thenS env fun d h1 => .exc x d env h1) := hp
  show pA X.K X.mg L H W σ _ ((fe C env h).bind fun d h1 => .ok [d] h1)
  cases q : fe C env h with
  | stuck => rw [q] at hp'; exact hp'.elim
  | exc c d h1 =>
    rw [q] at hp'
    exact fun L1 H1 cv dx le kp hr1 ex => hp' L1 H1 σ cv dx le kp hr1 (sr.mono le kp) ex
  | ok d h1 =>
    rw [q] at hp'
    intro L1 H1 vs le kp hr1 rs
    obtain ⟨v, rfl, rv⟩ := one_of rs
    refine ⟨by show 1 ≤ 1000; decide, fun a na => ⟨a, Ca, v, rfl, T, no, upd_same, fun dx ndx hne => ?_⟩⟩
    have n1 : H1 dx = none := by rw [upd_ne hne] at ndx; exact ndx
    refine ⟨rfl, dx, [("at", v)], upd_same, by rw [upd_ne hne]; exact upd_same, n1, ?_⟩
    rw [xd_heap na hne]
    have kN : Keep X.K H1 (upd H1 dx (.xd [("at", v)])) := Keep.new n1
    exact hp' L1 _ σ (.ref Ca) (some dx) le (kp.trans kN) (hr1.new n1) (sr.mono le (kp.trans kN)) ⟨hm, .inr ⟨dx, v, rfl, upd_same, rv.mono (LE.refl _) kN⟩⟩
/-! try -/
theorem pS.noexc {K : PySem.W.Frag} {mg : Str → Option Value} {L : List Addr} {H : Hp} {W W' : WX} {D_ : Ends} {r : SR} (p : pS K mg L H W D_ r.noexc) : pS K mg L H W' D_ r := by
  cases r with
  | exc _ _ _ _ => exact p.elim
  | _ => exact p
/-- the clauses without a name -/
inductive HRel (X : Cx) (C : Or) (ks : List Str) : List ExceptHandler → List (Str × Hd) → List (Value × (Addr → Value → Option Addr → TS)) → Prop
  | nil : HRel X C ks [] [] []
  | cons {x : Str} {Cx_ : Addr} {b₀ : Stmt} {suite : List Stmt} {np pos' : Pos} {hds : List ExceptHandler} {hs : List (Str × Hd)} {l : List (Value × (Addr → Value → Option Addr → TS))} {f : SF} (hk : x ∈ ks) (hm : X.mg x = some (.ref Cx_)) (hc : Names X x (.ref Cx_))
      (hsu : ∀ (a : Addr) (oe : Obj) (cls : Value) (d : Option Addr) (pn : List (Addr × Obj)), Zc cls d oe → (∃ vs, oe.data = .fields vs) → PSs (X.suite a ((a, oe) :: pn)) (b₀ :: suite) (tS X W0 (f C))) (r : HRel X C ks hds hs l) :
      HRel X C ks (.ExceptHandler (some (.Name x np)) none (b₀ :: suite) pos' :: hds) ((x, .su f) :: hs) ((.ref Cx_, fun _ _ _ => tS X W0 (f C)) :: l)
theorem HRel.ok {C : Or} {ks : List Str} {hds : List ExceptHandler} {hs : List (Str × Hd)} {l : List (Value × (Addr → Value → Option Addr → TS))} (r : HRel X C ks hds hs l) : HdsOk X hds l := by
  induction r with
  | nil => exact .nil
  | cons hk hm hc hsu r ih => exact .cons hc hsu ih
/-- the classes that are known -/
def KnX (X : Cx) (ks : List Str) : Prop := ∀ x ∈ ks, ∀ y ∈ ks, ∃ Cx Cy, X.mg x = some (.ref Cx) ∧ X.mg y = some (.ref Cy) ∧ PySem.W.exmOne X.K (.ref Cx) (.ref Cy) = some (decide (x = y))
theorem s_try {body : List Stmt} {h0 : ExceptHandler} {hds : List ExceptHandler} {ks : List Str} {hs : List (Str × Hd)} {l : List (Value × (Addr → Value → Option Addr → TS))} (C : Or) {fb : SF} (hst : X.stack = X.env :: X.outer) (hfr : X.env.frame = some X.env.locals) (tk : Takes X W) (kn : KnX X ks)
    (hb : ∀ (W' : WX) (pn : List (Addr × Obj)) (xe : Value → Shared → Prop), Takes (X.tr pn xe) W' → PassesOwn (model X.prog X.w) X.A X.env xe → PSs (X.tr pn xe) body (tS X W' (fb C)))
    (hh : HRel X C ks (h0 :: hds) hs l) : PS X (.Try body (h0 :: hds) [] [] pos) (tS X W (tryS ks fb hs C)) := by
  refine PS.weak (ps_try_many (tb := fun W' => tS X W' (fb C)) hst hfr tk hb hh.ok) fun D_ σ H ⟨L, h, env, hr, sr, hp⟩ => ⟨L, h, env, hr, sr, ?_⟩
  unfold tryS at hp
  cases q : fb C env h with
  | nx _ _ => rw [q] at hp; exact hp
  | bk _ _ => rw [q] at hp; exact hp
  | ct _ _ => rw [q] at hp; exact hp
  | rt _ _ => rw [q] at hp; exact hp
  | stuck => rw [q] at hp; exact hp
  | exc c d env1 h1 =>
    rw [q] at hp
    simp only at hp
    split at hp
    · rename_i hc
      have hc' : c ∈ ks := List.contains_iff_mem.mp hc
      intro L1 H1 σ1 cv dx le kp hr1 sr1 ex
      have go : ∀ {hds' : List ExceptHandler} {hs' : List (Str × Hd)} {l' : List (Value × (Addr → Value → Option Addr → TS))}, HRel X C ks hds' hs' l' → pS X.K X.mg L H W D_ (match hs'.lookup c with
          | some g => (runHd g d C env1 h1).noexc
          | none => .exc c d env1 h1) → wMany X.K W D_ l' cv dx σ1 H1 := by
        intro hds' hs' l' r
        induction r with
        | nil => exact fun hp => hp L1 H1 σ1 cv dx le kp hr1 sr1 ex
        | @cons x Cx_ b₀ suite np pos' hds hs l f hk hm _ hsu r ih =>
          intro hp
          obtain ⟨Cc, Cy, m1, m2, em⟩ := kn c hc' x hk
          have e1 : cv = .ref Cc := by have z := ex.1; rw [m1] at z; cases z; rfl
          rw [hm] at m2
          cases m2
          refine ⟨decide (c = x), by rw [e1]; exact em, fun hb a na => ?_, fun hb => ?_⟩
          · have ecx := of_decide_eq_true hb
            subst ecx
            rw [List.lookup_cons, beq_self_eq_true] at hp
            exact ⟨L1, h1, env1, hr1, sr1, (pS.mono (pS.noexc (W' := W0) hp) le kp)⟩
          · have ecx := of_decide_eq_false hb
            have eb : (c == x) = false := by simpa using ecx
            rw [List.lookup_cons, eb] at hp
            exact ih hp
      exact go hh hp
    · exact hp.elim
/-- except x as n: return n.at -/
theorem s_tryAt {body : List Stmt} {x n : Str} {i : Nat} {ks : List Str} {g : Hd} {st : Stmt} {np pos' p1 p2 p3 p4 p5 : Pos} {j kk : Nat} {m : Str} {Ca : Addr} (C : Or) {fb : SF} (hst : X.stack = X.env :: X.outer) (hfr : X.env.frame = some X.env.locals) (tk : Takes X W) (kn : KnX X ks)
    (hb : ∀ (W' : WX) (pn : List (Addr × Obj)) (xe : Value → Shared → Prop), Takes (X.tr pn xe) W' → PassesOwn (model X.prog X.w) X.A X.env xe → PSs (X.tr pn xe) body (tS X W' (fb C)))
    (hN : X.N.Nodup) (hi : X.N[i]? = some n) (hl : X.env.scope.names.lookup n = some .local) (hk : x ∈ ks) (hm : X.mg x = some (.ref Ca)) (hc : Names X x (.ref Ca)) (xf : XfC X.K Ca) (no : PySem.W.findIn X.K (.ref Ca) "at" = some none) (d1 : (n == ("__debug__" : Str)) = false) (d2 : (n == ("__classdict__" : Str)) = false)
    (hg : (g = .at_ i ∧ st = .Return (some (.Attribute (.Name n p1) "at" p2)) p3) ∨ (g = .pr i m ∧ st = .Return (some (.Tuple [.Constant (.str m) j p4, .Attribute (.Name n p1) "at" p2] kk p5)) p3)) :
    PS X (.Try body [.ExceptHandler (some (.Name x np)) (some n) [st] pos'] [] [] pos) (tS X W (tryS ks fb [(x, g)] C)) := by
  have at_ : ∀ (a : Addr) (oe : Obj) (cls : Value) (d : Option Addr) (pn : List (Addr × Obj)), Zc cls d oe → (∃ vs, oe.data = .fields vs) → PE (X.suite a ((a, oe) :: pn)) (.Attribute (.Name n p1) "at" p2) (tXf a cls d Ca "at" fun σ H Q => ∃ v, σ[i]? = some (some v) ∧ Q v H) := fun a oe cls d pn hz hf =>
    pe_xf xf no hz hf (pe_var (X := X.suite a ((a, oe) :: pn)) hi (.inl hl) d1 d2)
  have suite_ : ∃ ts : Addr → Value → Option Addr → TS, (∀ (a : Addr) (oe : Obj) (cls : Value) (d : Option Addr) (pn : List (Addr × Obj)), Zc cls d oe → (∃ vs, oe.data = .fields vs) → PSs (X.suite a ((a, oe) :: pn)) [st] (ts a cls d)) ∧
      ∀ (a dd : Addr) (v : V) (dv : D) (D_ : Ends) (σ : L2.St) (H : Hp) (L : List Addr) (h1 : Hv) (env : Env), i < env.length → dv ≠ .non → H dd = some (.xd [("at", v)]) → HR X.K L H h1 → Rel X.K L H dv v → pS X.K X.mg L H W D_ (runHd g dv C env h1) → i < σ.length → ts a (.ref Ca) (some dd) D_ (σ.set i (some (.ref a))) H := by
    rcases hg with ⟨rfl, rfl⟩ | ⟨rfl, rfl⟩
    · refine ⟨_, fun a oe cls d pn hz hf => pss_one (ps_ret (at_ a oe cls d pn hz hf)), fun a dd v dv D_ σ H L h1 env hi2 nd hH hr rv hp hs => ?_⟩
      simp only [runHd] at hp
      rw [if_neg (by simp only [not_or]; exact ⟨nd, by omega⟩)] at hp
      exact ⟨.ref a, by rw [List.getElem?_set_self hs], rfl, rfl, dd, _, v, rfl, hH, rfl, hp L H v (LE.refl _) (Keep.refl _) hr rv⟩
    · refine ⟨_, fun a oe cls d pn hz hf => pss_one (ps_ret (pe_tup (pa_cons pe_str (pa_cons (at_ a oe cls d pn hz hf) pa_nil)))), fun a dd v dv D_ σ H L h1 env hi2 nd hH hr rv hp hs => ?_⟩
      simp only [runHd] at hp
      rw [if_neg (by simp only [not_or]; exact ⟨nd, by omega⟩)] at hp
      refine ⟨.ref a, by rw [List.getElem?_set_self hs], rfl, rfl, dd, _, v, rfl, hH, rfl, by rw [sizeLine_eq]; show 2 ≤ _; decide, fun p np => ?_⟩
      exact hp L _ _ (LE.refl _) (Keep.new np) (hr.new np) (.tup (.inl (.inl upd_same)) (.cons (.str m) (.cons (rv.mono (LE.refl _) (Keep.new np)) .nil)))
  obtain ⟨ts, su1, su2⟩ := suite_
  refine PS.weak (ps_try_as (tb := fun W' => tS X W' (fb C)) hst hfr hN hi hl hc tk hb su1) fun D_ σ H ⟨L, h, env, hr, sr, hp⟩ => ⟨L, h, env, hr, sr, ?_⟩
  unfold tryS at hp
  cases q : fb C env h with
  | nx _ _ => rw [q] at hp; exact hp
  | bk _ _ => rw [q] at hp; exact hp
  | ct _ _ => rw [q] at hp; exact hp
  | rt _ _ => rw [q] at hp; exact hp
  | stuck => rw [q] at hp; exact hp
  | exc c d env1 h1 =>
    rw [q] at hp
    simp only at hp
    split at hp
    · rename_i hc2
      intro L1 H1 σ1 cv dx le kp hr1 sr1 ex
      obtain ⟨Cc, Cy, m1, m2, em⟩ := kn c (List.contains_iff_mem.mp hc2) x hk
      have e1 : cv = .ref Cc := by have z := ex.1; rw [m1] at z; cases z; rfl
      rw [hm] at m2
      cases m2
      refine ⟨decide (c = x), by rw [e1]; exact em, fun hb a na => ?_, fun hb => ?_⟩
      · have ecx := of_decide_eq_true hb
        subst ecx
        rw [List.lookup_cons, beq_self_eq_true] at hp
        rw [hm] at m1
        cases m1
        have hp2 : pS X.K X.mg L H W D_ (runHd g d C env1 h1) := pS.noexc hp
        have ok : d ≠ .non ∧ i < env1.length := by
          rcases hg with ⟨rfl, _⟩ | ⟨rfl, _⟩
          all_goals
            simp only [runHd] at hp2
            split at hp2
            · exact hp2.elim
            · rename_i z; simp only [not_or] at z; exact ⟨z.1, by omega⟩
        rcases ex.2 with ⟨z, _⟩ | ⟨pp, v, rfl, hH, rv⟩
        · exact absurd z ok.1
        · rw [e1]
          have := su2 a pp v d { nx := fun σ' H' => D_.nx (σ'.set i none) H', rt := D_.rt, bk := fun σ' H' => D_.bk (σ'.set i none) H', ct := fun σ' H' => D_.ct (σ'.set i none) H' } σ1 H1 L1 h1 env1 ok.2 ok.1 hH hr1 rv (by
            have hp3 := pS.mono hp2 le kp
            rcases hg with ⟨rfl, _⟩ | ⟨rfl, _⟩
            all_goals
              have nn : ¬ (d = .non ∨ env1.length ≤ i) := by simp only [not_or]; exact ⟨ok.1, by omega⟩
              simp only [runHd] at hp3 ⊢
              rw [if_neg nn] at hp3 ⊢
              exact hp3) (by rw [← sr1.len]; exact ok.2)
          exact this
      · have ecx := of_decide_eq_false hb
        have eb : (c == x) = false := by simpa using ecx
        rw [List.lookup_cons, eb] at hp
        exact hp L1 H1 σ1 cv dx le kp hr1 sr1 ex
    · exact hp.elim
end
end VM

set_option maxRecDepth 100000
set_option maxHeartbeats 4000000
namespace VM
open PySem PySem.Spec PyProof.Rows L2
/-! a try with several clauses, some of which name the exception -/
abbrev HdT : Type := Value × Option Nat × (Addr → Value → Option Addr → TS)
/-- the ends of a suite behind which slot i is unbound -/
def gone (i : Nat) (D : Ends) : Ends := { nx := fun σ' H' => D.nx (σ'.set i none) H', rt := D.rt, bk := fun σ' H' => D.bk (σ'.set i none) H', ct := fun σ' H' => D.ct (σ'.set i none) H' }
def asT (D : Ends) (a : Addr) (cls : Value) (d : Option Addr) (σ : L2.St) (H : Hp) : Option Nat → (Addr → Value → Option Addr → TS) → Prop
  | none, ts => ts a cls d D σ H
  | some i, ts => ts a cls d (gone i D) (σ.set i (some (.ref a))) H
def wMix (K : PySem.W.Frag) (Wout : WX) (D : Ends) : List HdT → WX
  | [] => Wout
  | t :: r => fun cls d σ H => ∃ b, PySem.W.exmOne K cls t.1 = some b ∧ (b = true → ∀ a, H a = none → asT D a cls d σ H t.2.1 t.2.2) ∧ (b = false → wMix K Wout D r cls d σ H)
inductive HdsMix (X : Cx) : List ExceptHandler → List HdT → Prop
  | nil : HdsMix X [] []
  | plain {x : Str} {c : Value} {ts : Addr → Value → Option Addr → TS} {b₀ : Stmt} {suite : List Stmt} {np pos' : Pos} {hds : List ExceptHandler} {l : List HdT} (hc : Names X x c)
      (hsu : ∀ (a : Addr) (oe : Obj) (cls : Value) (d : Option Addr) (pn : List (Addr × Obj)), Zc cls d oe → (∃ vs, oe.data = .fields vs) → PSs (X.suite a ((a, oe) :: pn)) (b₀ :: suite) (ts a cls d)) (r : HdsMix X hds l) :
      HdsMix X (.ExceptHandler (some (.Name x np)) none (b₀ :: suite) pos' :: hds) ((c, none, ts) :: l)
  | named {x n : Str} {i : Nat} {c : Value} {ts : Addr → Value → Option Addr → TS} {b₀ : Stmt} {suite : List Stmt} {np pos' : Pos} {hds : List ExceptHandler} {l : List HdT} (hc : Names X x c) (hi : X.N[i]? = some n) (hl : X.env.scope.names.lookup n = some .local)
      (hsu : ∀ (a : Addr) (oe : Obj) (cls : Value) (d : Option Addr) (pn : List (Addr × Obj)), Zc cls d oe → (∃ vs, oe.data = .fields vs) → PSs (X.suite a ((a, oe) :: pn)) (b₀ :: suite) (ts a cls d)) (r : HdsMix X hds l) :
      HdsMix X (.ExceptHandler (some (.Name x np)) (some n) (b₀ :: suite) pos' :: hds) ((c, some i, ts) :: l)
section
variable {X : Cx} {body : List Stmt} {h₀ : ExceptHandler} {hds : List ExceptHandler} {l : List HdT} {pos : Pos} {tb : WX → TS} {Wout : WX}
theorem ps_try_mix (hs : X.stack = X.env :: X.outer) (hf : X.env.frame = some X.env.locals) (hN : X.N.Nodup) (tk : Takes X Wout)
    (hb : ∀ (W : WX) (pn : List (Addr × Obj)) (xe : Value → Shared → Prop), Takes (X.tr pn xe) W → PassesOwn (model X.prog X.w) X.A X.env xe → PSs (X.tr pn xe) body (tb W))
    (hh : HdsMix X (h₀ :: hds) l) : PS X (.Try body (h₀ :: hds) [] [] pos) (fun D σ H => tb (wMix X.K Wout D l) D σ H) := by
  refine ⟨fun pins s σ H D I h => ?_⟩
  have ok := I.ok
  have hfr : X.A.frames = some (X.env :: X.outer) := by rw [ok.frames, hs]
  refine wpAny_Try_except (wpAny_mono ((hb (wMix X.K Wout D l) (X.pn ++ pins) (fun e s₁ => wpAny (model X.prog X.w) X.A (noteFrame e X.env) (fun _ s₂ => wpAny (model X.prog X.w) X.A (setFlight e none) (fun _ s₃ =>
    wpAny (model X.prog X.w) X.A (handleBy e X.env (h₀ :: hds)) (SP X pins D) X.xe s₃) X.xe s₂) X.xe s₁) (fun u s' xx => ?_) PassesOwn.looking).run [] s σ H D (I.toTry _) h) (fun f s1 hsp => ?_) (fun e s1 he => he))
  · -- what is caught
    obtain ⟨a, B, sI, pins', σ', H', cls, d, rfl, J', nb, up, sky, na, os, ag, w⟩ := xx
    have J : Inv X pins σ' H' sI := J'.ofTry ok
    have sky' : Sky B (X.env :: X.outer) a (Zc cls d) X.env.locals s'.heap := by rw [← hs]; exact sky
    show wpAny (model X.prog X.w) X.A (noteFrame (.ref a) X.env) _ _ _
    refine Sky.land Zc.steady hfr hf sky' fun h3 fl3 up3 => ?_
    have J3 : Inv X pins σ' H' { s' with heap := h3 } := J.landed nb fl3.1 (up.trans up3) os ag
    obtain ⟨oe3, vs3, he3, hz3, hd3⟩ := fl3.there
    have nfr : a ∉ frs (X.env :: X.outer) := fun hm => by
      obtain ⟨_, o', e', hnf⟩ := fl3.2.2.1.mem hm
      rw [he3] at e'
      cases e'
      exact hnf _ hd3
    have nL : a ≠ X.env.locals := fun z => nfr (List.mem_filterMap.mpr ⟨X.env, List.mem_cons_self, by rw [hf, z]⟩)
    have nF : a ∉ X.fs := fun hm => by
      obtain ⟨e, he, q⟩ := List.mem_filterMap.mp hm
      exact nfr (List.mem_filterMap.mpr ⟨e, List.mem_cons_of_mem _ he, q⟩)
    have S3 := J3.suite he3 hd3 na nL nF
    have LT : PySem.W.Looks (model X.prog X.w) h3 (typeOf (.ref a)) cls := fun A Q E s k q => wpAny_typeOf_ref (k _ _ he3) (by rw [hz3.1]; exact q)
    have test : ∀ {x : Str} {c : Value} {np : Pos} {Q : Value → Shared → Prop} {E : Value → Shared → Prop}, Names X x c → Q c { s' with heap := h3 } → wpAny (model X.prog X.w) (X.A.mark (some (.ref a))) (eval (.Name x np) X.env) Q E { s' with heap := h3 } := fun {x c np Q E} hc q => by
      obtain ⟨hg, hdbg, hm | ⟨hm, hv, hnn⟩⟩ := hc
      · exact ld_glob (X := X.suite a ((a, oe3) :: (X.pn ++ pins))) S3 hg hm q hdbg
      · exact ld_blt (X := X.suite a ((a, oe3) :: (X.pn ++ pins))) S3 hg hm hv q hnn hdbg
    have go : ∀ {hds' : List ExceptHandler} {l' : List HdT}, HdsMix X hds' l' → wMix X.K Wout D l' cls d σ' H' → wpAny (model X.prog X.w) X.A (handleBy (.ref a) X.env hds') (SP X pins D) X.xe { s' with heap := h3 } := by
      intro hds' l' hk
      induction hk with
      | nil =>
        intro w
        refine wpAny_handleBy_nil ?_
        obtain ⟨k1, k2, k3, oe, vs, T, oT, ts', he, hz, hd, h1, hr⟩ := id fl3
        unfold PySem.passOn
        refine wpAny_bind (wpAny_field he hd h1 ?_)
        rw [if_neg (show ¬ ((Value.ref T == Value.none) = true) from by simp)]
        have fin : wpAny (model X.prog X.w) X.A (setFlight (.ref a) X.env.frame) (fun _ s4 => wpAny (model X.prog X.w) X.A (throw (.ref a) : Sem Flow) (SP X pins D) X.xe s4) X.xe { s' with heap := h3 } := by
          rw [hf]
          exact HandSPX.setFlight_upZ fl3 fun h4 hh4 up4 => wpAny_throw (tk _ _ ⟨a, B, sI, pins, σ', H', cls, d, rfl, J, nb, (up.trans up3).trans up4, .inr (.inr (by rw [hs]; exact hh4)), na, os, ag, w⟩)
        first
          | exact wpAny_bind (wpAny_pure (wpAny_bind fin))
          | exact wpAny_bind fin
      | @plain x c ts b₀ suite np pos' hds2 l2 hc hsu r ih =>
        rintro ⟨b, hb1, hyes, hno⟩
        refine wpAny_handleBy_cons (codeAny_handlers_test (test hc ((PySem.W.exm_one (M := model X.prog X.w) J3.kIn LT hb1).here ?_))) (by intro q; cases q)
        cases b with
        | false => exact ih (hno rfl)
        | true =>
          refine codeAny_handlers_suite (HandSPX.lands_againZ fl3 fun h4 fl4 up4 => ?_)
          have J4 : Inv X pins σ' H' { s' with heap := h4 } := J.landed nb fl4.1 ((up.trans up3).trans up4) os ag
          obtain ⟨oe4, vs4, he4, hz4, hd4⟩ := fl4.there
          refine wpAny_mono ((hsu a oe4 cls d (X.pn ++ pins) hz4 ⟨_, hd4⟩).run [] _ _ H' _ (J4.suite he4 hd4 na nL nF) (hyes rfl a na)) (fun f s6 hsp => ?_) (fun _ _ z => False.elim z)
          cases f with
          | ret u =>
            obtain ⟨v6, σ6, H6, S6, r6, q6⟩ := hsp
            exact ⟨_, _, _, S6.unsuite ok, r6, q6⟩
          | next => exact let ⟨σ6, H6, S6, q6⟩ := hsp; ⟨_, _, S6.unsuite ok, q6⟩
          | brk => exact let ⟨σ6, H6, S6, q6⟩ := hsp; ⟨_, _, S6.unsuite ok, q6⟩
          | cont => exact let ⟨σ6, H6, S6, q6⟩ := hsp; ⟨_, _, S6.unsuite ok, q6⟩
      | @named x n i c ts b₀ suite np pos' hds2 l2 hc hi hl hsu r ih =>
        rintro ⟨b, hb1, hyes, hno⟩
        refine wpAny_handleBy_cons (codeAny_handlers_test (test hc ((PySem.W.exm_one (M := model X.prog X.w) J3.kIn LT hb1).here ?_))) (by intro q; cases q)
        cases b with
        | false => exact ih (hno rfl)
        | true =>
          refine codeAny_handlers_suite_as (HandSPX.lands_againZ fl3 fun h4 fl4 up4 => ?_)
          have J4 : Inv X pins σ' H' { s' with heap := h4 } := J.landed nb fl4.1 ((up.trans up3).trans up4) os ag
          obtain ⟨oe4, vs4, he4, hz4, hd4⟩ := fl4.there
          refine store_ok (X := X.suite a ((a, oe4) :: (X.pn ++ pins))) (v := .ref a) (J4.suite he4 hd4 na nL nF) hN hi (.inl hl) rfl (fun s5 S5 => ?_) (.inr hl)
          refine wpAny_mono ((hsu a oe4 cls d (X.pn ++ pins) hz4 ⟨_, hd4⟩).run [] s5 _ H' _ S5 (hyes rfl a na)) (fun f s6 hsp => ?_) (fun _ _ z => False.elim z)
          have fin : ∀ {σ6 : L2.St} {H6 : Hp} {Q : Shared → Prop}, Inv (X.suite a ((a, oe4) :: (X.pn ++ pins))) [] σ6 H6 s6 → (∀ s7, Inv X pins (σ6.set i none) H6 s7 → Q s7) →
              wpAny (model X.prog X.w) X.A (do bindName X.env n .none; unbindBehindTheSuite X.env n pos') (fun _ s7 => Q s7) X.xe s6 := fun {σ6 H6 Q} S6 hq => gone_ok (S6.unsuite ok) hN hi hl hq
          cases f with
          | ret u =>
            obtain ⟨v6, σ6, H6, S6, r6, q6⟩ := hsp
            exact fin S6 fun s7 J7 => ⟨_, _, _, J7, r6, q6⟩
          | next => exact let ⟨σ6, H6, S6, q6⟩ := hsp; fin S6 fun s7 J7 => ⟨_, _, J7, q6⟩
          | brk => exact let ⟨σ6, H6, S6, q6⟩ := hsp; fin S6 fun s7 J7 => ⟨_, _, J7, q6⟩
          | cont => exact let ⟨σ6, H6, S6, q6⟩ := hsp; fin S6 fun s7 J7 => ⟨_, _, J7, q6⟩
    exact go hh w
  · cases f with
    | next => exact let ⟨σ', H', J', q⟩ := hsp; wpAny_execs_nil ⟨σ', H', J'.ofTry ok, q⟩
    | brk => exact let ⟨σ', H', J', q⟩ := hsp; ⟨σ', H', J'.ofTry ok, q⟩
    | cont => exact let ⟨σ', H', J', q⟩ := hsp; ⟨σ', H', J'.ofTry ok, q⟩
    | ret u => exact let ⟨v, σ', H', J', r, q⟩ := hsp; ⟨v, σ', H', J'.ofTry ok, r, q⟩
end
variable [HasT]
section
variable {X : Cx} {W : WX} {pos : Pos}
inductive HRelM (X : Cx) (C : Or) (ks : List Str) : List ExceptHandler → List (Str × Hd) → List HdT → Prop
  | nil : HRelM X C ks [] [] []
  | plain {x : Str} {Cx_ : Addr} {b₀ : Stmt} {suite : List Stmt} {np pos' : Pos} {hds : List ExceptHandler} {hs : List (Str × Hd)} {l : List HdT} {f : SF} (hk : x ∈ ks) (hm : X.mg x = some (.ref Cx_)) (hc : Names X x (.ref Cx_))
      (hsu : ∀ (a : Addr) (oe : Obj) (cls : Value) (d : Option Addr) (pn : List (Addr × Obj)), Zc cls d oe → (∃ vs, oe.data = .fields vs) → PSs (X.suite a ((a, oe) :: pn)) (b₀ :: suite) (tS X W0 (f C))) (r : HRelM X C ks hds hs l) :
      HRelM X C ks (.ExceptHandler (some (.Name x np)) none (b₀ :: suite) pos' :: hds) ((x, .su f) :: hs) ((.ref Cx_, none, fun _ _ _ => tS X W0 (f C)) :: l)
  | named {x n : Str} {i : Nat} {Ca : Addr} {st : Stmt} {np pos' : Pos} {g : Hd} {ts : Addr → Value → Option Addr → TS} {hds : List ExceptHandler} {hs : List (Str × Hd)} {l : List HdT} (hk : x ∈ ks) (hm : X.mg x = some (.ref Ca)) (hc : Names X x (.ref Ca)) (hi : X.N[i]? = some n) (hl : X.env.scope.names.lookup n = some .local)
      (su1 : ∀ (a : Addr) (oe : Obj) (cls : Value) (d : Option Addr) (pn : List (Addr × Obj)), Zc cls d oe → (∃ vs, oe.data = .fields vs) → PSs (X.suite a ((a, oe) :: pn)) [st] (ts a cls d))
      (hg : g = .at_ i ∨ ∃ m, g = .pr i m)
      (su2 : ∀ (a dd : Addr) (v : V) (dv : D) (D_ : Ends) (σ : L2.St) (H : Hp) (L : List Addr) (h1 : Hv) (env : Env) (W : WX), i < env.length → dv ≠ .non → H dd = some (.xd [("at", v)]) → HR X.K L H h1 → Rel X.K L H dv v → pS X.K X.mg L H W D_ (runHd g dv C env h1) → i < σ.length → ts a (.ref Ca) (some dd) D_ (σ.set i (some (.ref a))) H)
      (r : HRelM X C ks hds hs l) : HRelM X C ks (.ExceptHandler (some (.Name x np)) (some n) [st] pos' :: hds) ((x, g) :: hs) ((.ref Ca, some i, ts) :: l)
theorem HRelM.ok {C : Or} {ks : List Str} {hds : List ExceptHandler} {hs : List (Str × Hd)} {l : List HdT} (r : HRelM X C ks hds hs l) : HdsMix X hds l := by
  induction r with
  | nil => exact .nil
  | plain hk hm hc hsu r ih => exact .plain hc hsu ih
  | named hk hm hc hi hl su1 hg su2 r ih => exact .named hc hi hl su1 ih
/-- except x as n: return n.at; return (s, n.at) -/
theorem HRelM.at_ {x n : Str} {i : Nat} {ks : List Str} {g : Hd} {st : Stmt} {np pos' p1 p2 p3 p4 p5 : Pos} {j kk : Nat} {m : Str} {Ca : Addr} {C : Or} {hds : List ExceptHandler} {hs : List (Str × Hd)} {l : List HdT}
    (hi : X.N[i]? = some n) (hl : X.env.scope.names.lookup n = some .local) (hk : x ∈ ks) (hm : X.mg x = some (.ref Ca)) (hc : Names X x (.ref Ca)) (xf : XfC X.K Ca) (no : PySem.W.findIn X.K (.ref Ca) "at" = some none) (d1 : (n == ("__debug__" : Str)) = false) (d2 : (n == ("__classdict__" : Str)) = false)
    (hg : (g = .at_ i ∧ st = .Return (some (.Attribute (.Name n p1) "at" p2)) p3) ∨ (g = .pr i m ∧ st = .Return (some (.Tuple [.Constant (.str m) j p4, .Attribute (.Name n p1) "at" p2] kk p5)) p3)) (r : HRelM X C ks hds hs l) :
    ∃ ts, HRelM X C ks (.ExceptHandler (some (.Name x np)) (some n) [st] pos' :: hds) ((x, g) :: hs) ((.ref Ca, some i, ts) :: l) := by
  have at_ : ∀ (a : Addr) (oe : Obj) (cls : Value) (d : Option Addr) (pn : List (Addr × Obj)), Zc cls d oe → (∃ vs, oe.data = .fields vs) → PE (X.suite a ((a, oe) :: pn)) (.Attribute (.Name n p1) "at" p2) (tXf a cls d Ca "at" fun σ H Q => ∃ v, σ[i]? = some (some v) ∧ Q v H) := fun a oe cls d pn hz hf =>
    pe_xf xf no hz hf (pe_var (X := X.suite a ((a, oe) :: pn)) hi (.inl hl) d1 d2)
  rcases hg with ⟨rfl, rfl⟩ | ⟨rfl, rfl⟩
  · refine ⟨_, .named hk hm hc hi hl (fun a oe cls d pn hz hf => pss_one (ps_ret (at_ a oe cls d pn hz hf))) (.inl rfl) (fun a dd v dv D_ σ H L h1 env W hi2 nd hH hr rv hp hs => ?_) r⟩
    simp only [runHd] at hp
    rw [if_neg (by simp only [not_or]; exact ⟨nd, by omega⟩)] at hp
    exact ⟨.ref a, by rw [List.getElem?_set_self hs], rfl, rfl, dd, _, v, rfl, hH, rfl, hp L H v (LE.refl _) (Keep.refl _) hr rv⟩
  · refine ⟨_, .named hk hm hc hi hl (fun a oe cls d pn hz hf => pss_one (ps_ret (pe_tup (pa_cons pe_str (pa_cons (at_ a oe cls d pn hz hf) pa_nil))))) (.inr ⟨m, rfl⟩) (fun a dd v dv D_ σ H L h1 env W hi2 nd hH hr rv hp hs => ?_) r⟩
    simp only [runHd] at hp
    rw [if_neg (by simp only [not_or]; exact ⟨nd, by omega⟩)] at hp
    refine ⟨.ref a, by rw [List.getElem?_set_self hs], rfl, rfl, dd, _, v, rfl, hH, rfl, by rw [sizeLine_eq]; show 2 ≤ _; decide, fun p np => ?_⟩
    exact hp L _ _ (LE.refl _) (Keep.new np) (hr.new np) (.tup (.inl (.inl upd_same)) (.cons (.str m) (.cons (rv.mono (LE.refl _) (Keep.new np)) .nil)))
/-- what the clauses make of an exception -/
theorem goM {C : Or} {ks : List Str} {c : Str} {d : D} {L L1 : List Addr} {H H1 : Hp} {h1 : Hv} {env1 : Env} {σ1 : L2.St} {cv : Value} {dx : Option Addr} {D_ : Ends} (kn : KnX X ks) (hc' : c ∈ ks) (le : LE L L1) (kp : Keep X.K H H1) (hr1 : HR X.K L1 H1 h1) (sr1 : SRel X.K L1 H1 env1 σ1) (ex : ExR X.K X.mg L1 H1 c d cv dx) :
    ∀ {hds' : List ExceptHandler} {hs' : List (Str × Hd)} {l' : List HdT}, HRelM X C ks hds' hs' l' → pS X.K X.mg L H W D_ (match hs'.lookup c with
      | some g => (runHd g d C env1 h1).noexc
      | none => .exc c d env1 h1) → wMix X.K W D_ l' cv dx σ1 H1 := by
  intro hds' hs' l' r
  -- the class, tested
  have tst : ∀ {x : Str} {Ca : Addr}, x ∈ ks → X.mg x = some (.ref Ca) → ∃ Cc, X.mg c = some (.ref Cc) ∧ cv = .ref Cc ∧ PySem.W.exmOne X.K cv (.ref Ca) = some (decide (c = x)) := fun {x Ca} hk hm => by
    obtain ⟨Cc, Cy, m1, m2, em⟩ := kn c hc' x hk
    have e1 : cv = .ref Cc := by have z := ex.1; rw [m1] at z; cases z; rfl
    rw [hm] at m2
    cases m2
    exact ⟨Cc, m1, e1, by rw [e1]; exact em⟩
  induction r with
  | nil => exact fun hp => hp L1 H1 σ1 cv dx le kp hr1 sr1 ex
  | @plain x Ca b₀ suite np pos' hds hs l f hk hm _ hsu r ih =>
    intro hp
    obtain ⟨Cc, m1, e1, em⟩ := tst hk hm
    refine ⟨decide (c = x), em, fun hb a na => ?_, fun hb => ?_⟩
    · have ecx := of_decide_eq_true hb
      subst ecx
      rw [List.lookup_cons, beq_self_eq_true] at hp
      exact ⟨L1, h1, env1, hr1, sr1, (pS.mono (pS.noexc (W' := W0) hp) le kp)⟩
    · have eb : (c == x) = false := by simpa using of_decide_eq_false hb
      rw [List.lookup_cons, eb] at hp
      exact ih hp
  | @named x n i Ca st np pos' g ts hds hs l hk hm hc hi hl su1 hg su2 r ih =>
    intro hp
    obtain ⟨Cc, m1, e1, em⟩ := tst hk hm
    refine ⟨decide (c = x), em, fun hb a na => ?_, fun hb => ?_⟩
    · have ecx := of_decide_eq_true hb
      subst ecx
      rw [List.lookup_cons, beq_self_eq_true] at hp
      rw [hm] at m1
      cases m1
      have hp2 : pS X.K X.mg L H W D_ (runHd g d C env1 h1) := pS.noexc hp
      have ok : d ≠ .non ∧ i < env1.length := by
        rcases hg with rfl | ⟨m, rfl⟩
        all_goals
          simp only [runHd] at hp2
          split at hp2
          · exact hp2.elim
          · rename_i z; simp only [not_or] at z; exact ⟨z.1, by omega⟩
      rcases ex.2 with ⟨z, _⟩ | ⟨pp, v, rfl, hH, rv⟩
      · exact absurd z ok.1
      · rw [e1]
        exact su2 a pp v d (gone i D_) σ1 H1 L1 h1 env1 W ok.2 ok.1 hH hr1 rv (by
          have hp3 := pS.mono hp2 le kp
          have nn : ¬ (d = .non ∨ env1.length ≤ i) := by simp only [not_or]; exact ⟨ok.1, by omega⟩
          rcases hg with rfl | ⟨m, rfl⟩
          all_goals
            simp only [runHd] at hp3 ⊢
            rw [if_neg nn] at hp3 ⊢
            exact hp3) (by rw [← sr1.len]; exact ok.2)
    · have eb : (c == x) = false := by simpa using of_decide_eq_false hb
      rw [List.lookup_cons, eb] at hp
      exact ih hp
theorem s_tryM {body : List Stmt} {h0 : ExceptHandler} {hds : List ExceptHandler} {ks : List Str} {hs : List (Str × Hd)} {l : List HdT} (C : Or) {fb : SF} (hst : X.stack = X.env :: X.outer) (hfr : X.env.frame = some X.env.locals) (hN : X.N.Nodup) (tk : Takes X W) (kn : KnX X ks)
    (hb : ∀ (W' : WX) (pn : List (Addr × Obj)) (xe : Value → Shared → Prop), Takes (X.tr pn xe) W' → PassesOwn (model X.prog X.w) X.A X.env xe → PSs (X.tr pn xe) body (tS X W' (fb C)))
    (hh : HRelM X C ks (h0 :: hds) hs l) : PS X (.Try body (h0 :: hds) [] [] pos) (tS X W (tryS ks fb hs C)) := by
  refine PS.weak (ps_try_mix (tb := fun W' => tS X W' (fb C)) hst hfr hN tk hb hh.ok) fun D_ σ H ⟨L, h, env, hr, sr, hp⟩ => ⟨L, h, env, hr, sr, ?_⟩
  unfold tryS at hp
  cases q : fb C env h with
  | exc c d env1 h1 =>
    rw [q] at hp
    simp only at hp
    split at hp
    · rename_i hc
      intro L1 H1 σ1 cv dx le kp hr1 sr1 ex
      exact goM kn (List.contains_iff_mem.mp hc) le kp hr1 sr1 ex hh hp
    · exact hp.elim
  | _ => rw [q] at hp; exact hp
end
end VM

set_option maxRecDepth 100000
set_option maxHeartbeats 1000000
namespace VM
open PySem PySem.Spec PyProof.Rows L2
variable [HasT]
/-! dicts: displays, get -/
section
variable {X : Cx} {W : WX} {pos : Pos}
theorem KRs.merge {K : PySem.W.Frag} {L : List Addr} {H : Hp} : ∀ {more : List (DKey × D)} {ws : List (Key × V)} {kvs : List (DKey × D)} {us : List (Key × V)}, KRs K L H more ws → KRs K L H kvs us → KRs K L H (mergeD kvs more) (mergeK us ws)
  | [], [], _, _, _, r => r
  | [], q :: us, _, _, r, _ => by have := r.len; simp at this
  | p :: kvs, [], _, _, r, _ => by have := r.len; simp at this
  | (a, d) :: more, (b, v) :: ws, kvs, us, r, t => by
    obtain ⟨e, r⟩ := r
    simp only [List.map_cons, List.cons.injEq] at e r
    obtain ⟨rfl, e⟩ := e
    cases r with
    | cons r q => exact KRs.merge (more := more) (ws := ws) ⟨e, q⟩ (t.put a r)
theorem pairs_ok (C : Or) {env : Env} {σ : L2.St} : ∀ (es : List (EF × EF)) {L : List Addr} {H : Hp} {h : Hv} {Q2 : List (Key × V) → Hp → Prop} {Q : List (V × V) → Hp → Prop}, HR X.K L H h → SRel X.K L H env σ → pRg (KRs X.K) X.K X.mg L H W σ Q2 (pairsF es C env h) →
    (∀ us H', Q2 us H' → Q (us.map fun kv => (kV kv.1, kv.2)) H') → tPairs (es.map fun p => (tE X W (p.1 C), tE X W (p.2 C))) σ H Q
  | [], L, H, h, Q2, Q, hr, sr, hp, w => w [] H (hp L H [] (LE.refl L) (Keep.refl H) hr KRs.nil)
  | p :: r, L, H, h, Q2, Q, hr, sr, hp, w =>
    ⟨L, h, env, hr, sr, pRg.then_ hp fun x h1 L1 H1 v le kp hr1 r1 hp1 => ⟨L1, h1, env, hr1, sr.mono le kp, pRg.then_ hp1 fun y h2 L2 H2 u le2 kp2 hr2 r2 hp2 => by
      refine pairs_ok C r (Q2 := fun us' H3 => Q ((v, u) :: us'.map fun kv => (kV kv.1, kv.2)) H3) hr2 ((sr.mono le kp).mono le2 kp2) (pRg.then_ hp2 fun ps h3 L3 H3 us le3 kp3 hr3 r3 hp3 => ?_) fun us H' q => q
      split at hp3
      · rename_i k ek
        rw [key_rel r1 ek]
        exact w ((k, u) :: us) H3 (hp3 L3 H3 ((k, u) :: us) (LE.refl _) (Keep.refl _) hr3 (KRs.cons (r2.mono le3 kp3) r3))
      · exact hp3.elim⟩⟩
theorem r_disp {keys : List (Option Expr)} {values : List Expr} (C : Or) (es : List (EF × EF)) (h : PPs X pos keys values (es.map fun p => (tE X W (p.1 C), tE X W (p.2 C)))) (hall : keys.all (·.isSome) = true) (hl : keys.length = values.length) (h0 : keys ≠ [])
    (h15 : keys.length ≤ 15) : PE X (.Dict keys values pos) (tE X W (dctF es C)) :=
  PE.weak (pe_disp h hall hl h0 h15) fun σ H Q ⟨L, h, env, hr, sr, hp⟩ => fun p np => by
    have le := LE.app L [p]
    have kp : Keep X.K H (upd H p (.dK [])) := Keep.new np
    refine pairs_ok C es (Q2 := fun us H2 => H2 p = some (.dK []) ∧ us.length ≤ 15 ∧ Q (.ref p) (upd H2 p (.dK (mergeK [] us)))) (hr.allocD np KRs.nil) (sr.mono le kp) (pRg.then_ (pRg.mono hp le kp) fun ps h2 L2 H2 us le2 kp2 hr2 r2 hp2 => ?_) fun us H' ⟨q1, q2, q3⟩ => ⟨q1, us, rfl, q2, q3⟩
    split at hp2
    · rename_i hc
      have ea : L2[h.length]? = some p := le2 _ _ (by rw [← hr.len]; simp)
      obtain ⟨us0, q, s⟩ := hr2.dct h.length p [] hc.1 ea
      have e0 : us0 = [] := by have := s.len; simpa using this.symm
      subst e0
      exact ⟨q, by rw [← r2.len]; exact hc.2, hp2 L2 _ (.ref p) (LE.refl _) (Keep.setD q) (hr2.setD hc.1 ea (KRs.merge r2 KRs.nil)) (.ref ea)⟩
    · exact hp2.elim
theorem r_disp0 (C : Or) : PE X (.Dict [] [] pos) (tE X W (dctF [] C)) :=
  PE.weak pe_dnewK fun σ H Q ⟨L, h, env, hr, sr, hp⟩ => fun p np => by
    unfold dctF pairsF at hp
    simp only [R.bind] at hp
    split at hp
    · have z := hr.allocD np (ds := []) KRs.nil
      have e : (h ++ [Ob.dct []]).set h.length (.dct (mergeD [] [])) = h ++ [Ob.dct []] := by simp [mergeD, List.set_append]
      rw [e] at hp
      exact hp (L ++ [p]) _ (.ref p) (LE.app L [p]) (Keep.new np) z (.ref (by rw [← hr.len]; simp))
    · exact hp.elim
def rGetK : V → List V → Hp → VK → Prop := fun x xs H Q => ∃ a us k, x = .ref a ∧ H a = some (.dK us) ∧ ((xs = [kV k] ∧ Q ((valV us k).getD .non) H) ∨ ∃ d, xs = [kV k, d] ∧ Q ((valV us k).getD d) H)
theorem mt_get : MtR X "dict.get" rGetK := by
  intro pins s σ H x xs v us Q I rx rs h
  obtain ⟨a, kvs, k, rfl, e, h⟩ := h
  cases rx
  obtain ⟨z, hd, vs, rel, dd⟩ := dk_of I.hok e
  rcases h with ⟨rfl, q⟩ | ⟨d, rfl, q⟩
  · obtain ⟨u, rfl, ru⟩ := vals1 rs
    exact call_meetsIn PySem.F.slot_dict_get dd.typeIs PySem.F.entry_dict_get (PySem.F.args_dict_get_2 _ _) (meets_dict_get (mixKind X.prog X.w) a (kV_is ru) hd) ⟨_, dd.mapOf, (valV kvs k).getD .non, H, I.tok _, (rel.val k).getD (show RelV .non Value.none from rfl), q⟩
  · obtain ⟨u, r, rfl, ru, rd⟩ := vals2 rs
    exact call_meetsIn PySem.F.slot_dict_get dd.typeIs PySem.F.entry_dict_get (PySem.F.args_dict_get_3 _ _ _) (meets_dict_get_default (mixKind X.prog X.w) a (kV_is ru) hd r) ⟨_, dd.mapOf, (valV kvs k).getD d, H, I.tok _, (rel.val k).getD rd, q⟩
theorem m_get : OkM X W mGet rGetK := by
  intro L H h σ d v ds vs Q hr r rs hp
  unfold mGet at hp
  split at hp
  · rename_i kvs k e
    obtain ⟨i, a, us, rfl, rfl, ea, e0, q, s⟩ := dct_of hr r e
    split at hp
    · rename_i key ek
      obtain ⟨u, rfl, ru⟩ := one_of rs
      refine ⟨a, us, key, rfl, q, .inl ⟨by rw [key_rel ru ek], ?_⟩⟩
      rcases s.get key with ⟨g1, g2⟩ | ⟨d, v, g1, g2, rd⟩
      · rw [g1] at hp; rw [g2]; exact here hr hp .non
      · rw [g1] at hp; rw [g2]; exact here hr hp rd
    · exact hp.elim
  · rename_i kvs k d e
    obtain ⟨i, a, us, rfl, rfl, ea, e0, q, s⟩ := dct_of hr r e
    split at hp
    · rename_i key ek
      cases rs with
      | cons ru rs =>
        cases rs with
        | cons rd rs =>
          cases rs
          refine ⟨a, us, key, rfl, q, .inr ⟨_, by rw [key_rel ru ek], ?_⟩⟩
          rcases s.get key with ⟨g1, g2⟩ | ⟨d, v, g1, g2, rg⟩
          · rw [g1] at hp; rw [g2]; exact here hr hp rd
          · rw [g1] at hp; rw [g2]; exact here hr hp rg
    · exact hp.elim
  · exact hp.elim
theorem r_methD {o e : Expr} {es : List Expr} {name : Str} {apos : Pos} {id : String} {g : D → List D → Hv → R D} {r : V → List V → Hp → VK → Prop} (C : Or) {fo : EF} {fs : List EF}
    (ok : OkM X W g r) (slot : Slot "dict" name id) (hty : typeOf (.builtin id) = pure (.type "method_descriptor")) (hm : MtR X id r) (ho : PE X o (tE X W (fo C))) (ha : PA X (e :: es) (tA X W (listF fs C)))
    (hbase : attributeBase o name X.env (eval o X.env) = eval o X.env) (hfew : ((backTo pos (starEach (e :: es) X.env)).all (fun x => !x.1) && (backToKw pos (keywordEach [] X.env)).all (fun x => x.1.isSome)
      && decide ((e :: es).length + ([] : List Keyword).length + (if ([] : List Keyword).isEmpty then 0 else 1) < 30)) = true) (hline : (apos.endLine == pos.line) = true)
    (hs : starEach (e :: es) X.env = (false, eval e X.env) :: starEach es X.env) (hplain : (backTo pos (starEach es X.env)).any (·.1) = false) : PE X (.Call (.Attribute o name apos) (e :: es) [] pos) (tE X W (methD g fo fs C)) :=
  PE.weak (pe_bm PySem.F.plainAttrs_dict slot hty hm ho ha hbase hfew hline hs hplain) fun σ H Q ⟨L, h, env, hr, sr, hp⟩ => ⟨L, h, env, hr, sr, pRg.then_ hp fun d h1 L1 H1 v le kp hr1 r1 hp1 => by
    split at hp1
    · rename_i kvs il
      obtain ⟨i, a, us, rfl, rfl, ea, e0, q, s⟩ := dct_of hr1 r1 il
      exact ⟨.inr (.inr (.inl ⟨rfl, .inl ⟨us, q⟩⟩)), L1, h1, env, hr1, sr.mono le kp, pRg.then_ hp1 fun ds h2 L2 H2 vs le2 kp2 hr2 r2 hp2 => ok L2 H2 h2 σ _ _ ds vs Q hr2 ((Rel.ref ea).mono le2 kp2) r2 hp2⟩
    · exact hp1.elim⟩
end
end VM

set_option maxRecDepth 100000
set_option maxHeartbeats 1000000
namespace VM
open PySem PySem.Spec PyProof.Rows L2 HT
variable [HasT]
/-! x[::-1] -/
section
variable {prog : Program} {w : World} {A : Around} {E : Value → Shared → Prop} {s : Shared}
theorem adjust_rev (n : Nat) : Builtin.Slice.sliceAdjust none none (-1) (n : Int) = ((n : Int) - 1, -1) := rfl
theorem places_rev (n : Nat) : Builtin.Slice.slicePlaces ((n : Int) - 1) (-1) (-1) = n := by
  unfold Builtin.Slice.slicePlaces
  have h1 : ¬ ((-1 : Int) > 0) := by omega
  have e : (- -1 : Int) = 1 := by decide
  simp only [h1, if_false, e, Int.ediv_one]
  split <;> omega
theorem sliceApplied_rev {sl : Addr} {vl vu vs : Value} {n : Nat} {Q : Int × Int × Nat → Shared → Prop} (hs : s.heap.IsSliceOf sl vl vu vs) (pl : IsPart vl none) (pu : IsPart vu none) (ps : IsPart vs (some (-1)))
    (h : Q ((n : Int) - 1, -1, n) s) : wpAny (model prog w) A (Builtin.Slice.sliceApplied (.ref sl) (pure (n : Int))) Q E s := by
  obtain ⟨os, hos, hcs, hds⟩ := id hs
  unfold Builtin.Slice.sliceApplied Builtin.Slice.sliceFields
  refine wpAny_bind (wpAny_bind (wpAny_field hos hds (x := vl) rfl (wpAny_bind (wpAny_field hos hds (x := vu) rfl (wpAny_bind (wpAny_field hos hds (x := vs) rfl (wpAny_pure ?_)))))))
  refine wpAny_bind (slicePart_ ps ?_)
  show wpAny _ _ (if ((-1 : Int) == 0) = true then _ else _) _ _ s
  rw [if_neg (by decide)]
  refine wpAny_bind (slicePart_ pl (wpAny_bind (slicePart_ pu (wpAny_bind (wpAny_pure ?_)))))
  show wpAny _ _ (match Builtin.Slice.sliceAdjust none none (-1) (n : Int) with | (lo, hi) => pure (lo, (-1 : Int), Builtin.Slice.slicePlaces lo hi (-1))) _ _ s
  rw [adjust_rev n]
  show wpAny _ _ (pure ((n : Int) - 1, (-1 : Int), Builtin.Slice.slicePlaces ((n : Int) - 1) (-1) (-1))) _ _ s
  rw [places_rev]
  exact wpAny_pure h
theorem pick_rev (xs : Array Value) : ((List.range xs.size).filterMap fun (m : Nat) => xs[(((xs.size : Int) - 1) + (m : Int) * (-1)).toNat]?).toArray = xs.toList.reverse.toArray := by
  congr 1
  have e : ∀ m ∈ List.range xs.size, (xs[(((xs.size : Int) - 1) + (m : Int) * (-1)).toNat]?) = (fun i => xs[i]?) (xs.size - 1 - m) := fun m hm => by
    have := List.mem_range.mp hm
    have e : (((xs.size : Int) - 1) + (m : Int) * (-1)).toNat = xs.size - 1 - m := by omega
    rw [e]
  have e2 : ((List.range xs.size).filterMap fun (m : Nat) => xs[(((xs.size : Int) - 1) + (m : Int) * (-1)).toNat]?) = ((List.range xs.size).map fun m => xs.size - 1 - m).filterMap fun i => xs[i]? := by
    rw [List.filterMap_map]
    have aux : ∀ l : List Nat, (∀ m ∈ l, xs[(((xs.size : Int) - 1) + (m : Int) * (-1)).toNat]? = (fun i => xs[i]?) (xs.size - 1 - m)) → l.filterMap (fun (m : Nat) => xs[(((xs.size : Int) - 1) + (m : Int) * (-1)).toNat]?) = l.filterMap ((fun i => xs[i]?) ∘ fun m => xs.size - 1 - m) := by
      intro l
      induction l with
      | nil => intro _; rfl
      | cons m l ih =>
        intro hl
        rw [List.filterMap_cons, List.filterMap_cons, hl m (List.mem_cons_self ..), ih fun k hk => hl k (List.mem_cons_of_mem _ hk)]
        rfl
    exact aux _ e
  rw [e2, PySem.W.krv_range, List.filterMap_reverse, PySem.W.krv_all]
theorem getItem_tuple_rev {t sl : Addr} {items : Array Value} {vl vu vs : Value} {Q : Value → Shared → Prop} (ht : IsTup s.heap t items) (hs : s.heap.IsSliceOf sl vl vu vs) (pl : IsPart vl none) (pu : IsPart vu none) (ps : IsPart vs (some (-1)))
    (h : Q (.ref s.heap.objs.size) { s with heap := s.heap.push { cls := .type "tuple", data := .seq items.toList.reverse.toArray } })
    (hsz : items.size ≤ sizeLine) : wpAny (model prog w) A (getItem (.ref t) (.ref sl)) Q E s := by
  have htake : sizeOk (.seq items.toList.reverse.toArray) := by
    show items.toList.reverse.toArray.size ≤ sizeLine
    rw [List.size_toArray, List.length_reverse, Array.length_toList]
    exact hsz
  obtain ⟨os, hos, hcs, hds⟩ := id hs
  have hTs : s.TypeIs (.ref sl) "slice" := ⟨os, hos, hcs⟩
  unfold getItem
  try with_reducible refine wpAny_holding ?_
  first | refine wpAny_bind (wpAny_pure ?_) | skip
  refine wpAny_bind (wpAny_sequenceKey ht.typeIs (by decide) ?_)
  refine wpAny_bind (wpAny_callSpecial?_slot (name := Str.ofString "__getitem__") ht.typeIs PyProof.Rows.slot_tuple_getitem
    (wpAny_call_entry PyProof.Rows.slot_tuple_getitem ht.typeIs entry_tuple_getitem ?_ (args_tuple_getitem _ _)))
  show wpAny _ _ (Builtin.Tuple.tupleItemsOf (.ref t) >>= _) _ _ s
  refine wpAny_bind (tupleItemsOf_ ht ?_)
  refine wpAny_bind (wpAny_typeOf hTs ?_)
  rw [if_pos (by decide)]
  refine wpAny_bind (sliceApplied_rev hs pl pu ps ?_)
  show wpAny _ _ (if (((items.size : Int) - 1) == 0 && (-1 : Int) == 1 && items.size == items.size) = true then _ else _) _ _ s
  have hno : ¬ ((((items.size : Int) - 1) == 0 && (-1 : Int) == 1 && items.size == items.size) = true) := by
    intro q
    rw [Bool.and_eq_true, Bool.and_eq_true] at q
    exact absurd q.1.2 (by decide)
  rw [if_neg hno, pick_rev]
  first
    | exact wpAny_bind (m := Builtin.Tuple.tupleExact _) (wpAny_newObj_type (wpAny_pure ⟨_, rfl, wpAny_pure h⟩) htake)
    | exact wpAny_bind (m := Builtin.Tuple.tupleExact _) (wpAny_newObj_type (wpAny_bind (wpAny_pure (wpAny_pure ⟨_, rfl, wpAny_pure h⟩))) htake)
end
section
variable {X : Cx} {W : WX} {pos : Pos}
def tRevA (K : PySem.W.Frag) (te : TE) : TE := fun σ H Q => te σ H fun x H1 => ∃ a xs, x = .ref a ∧ ((SqL K H1 a xs ∧ ∀ p, H1 p = none → Q (.ref p) (upd H1 p (.lst xs.reverse))) ∨ (SqT K H1 a xs ∧ ∀ p, H1 p = none → Q (.ref p) (upd H1 p (.tup xs.reverse))))
theorem pe_revA {e : Expr} {te : TE} {k : Nat} {p1 p2 p3 pos : Pos} (he : PE X e te) : PE X (.Subscript e (.Slice none none (some (.UnaryOp .USub (.Constant (.int 1) k p1) p2)) p3) pos) (tRevA X.K te) := by
  refine ⟨fun pins s σ H Q I h => ?_⟩
  refine Subscript_ (thn (he.run pins s σ H _ I h) fun v s1 ⟨x, H1, I1, r1, q1⟩ => ?_)
  obtain ⟨a, xs, ex, hx⟩ := q1
  subst ex
  cases r1
  have hst : PO X (some (.UnaryOp .USub (.Constant (.int 1) k p1) p2)) (tPart (tUn (rU fun i => .int (-i)) (tC (.int 1)))) := po_some (pe_un un_neg pe_int)
  refine wpAny_Slice (thn (po_none.run pins s1 σ H1 (fun o H2 => o = none ∧ H2 = H1) I1 ⟨rfl, rfl⟩) fun vl s2 ⟨l, H2, I2, pl, el, e2⟩ => ?_)
  subst el e2
  refine thn (po_none.run pins s2 σ H2 (fun o H3 => o = none ∧ H3 = H2) I2 ⟨rfl, rfl⟩) fun vu s3 ⟨u, H3, I3, pu, eu, e3⟩ => ?_
  subst eu e3
  refine thn (hst.run pins s3 σ H3 (fun o H4 => o = some (-1) ∧ H4 = H3) I3 ⟨1, rfl, -1, rfl, rfl, rfl⟩) fun vs s4 ⟨o, H4, I4, ps, eo, e4⟩ => ?_
  subst eo e4
  have I5 : Inv X pins σ H4 { s4 with heap := s4.heap.push { cls := .type "slice", data := .fields #[vl, vu, vs] } } := I4.kept (t' := s4.toks) fun b ob q => Heap.get?_push_of_some _ q
  show wpAny (model X.prog X.w) X.A (subscriptTail e (.Slice none none (some (.UnaryOp .USub (.Constant (.int 1) k p1) p2)) p3) (.ref a) (.ref s4.heap.objs.size)) (EP X pins σ Q) X.xe { s4 with heap := s4.heap.push { cls := .type "slice", data := .fields #[vl, vu, vs] } }
  rcases hx with ⟨hx, q⟩ | ⟨hx, q⟩
  · obtain ⟨its, r, ht, hz⟩ := I5.list hx
    have hlen := r.length
    refine tail_any (ops := [.ref a, .ref s4.heap.objs.size]) ht.isList.typeIs (PySem.slot_list_getitem.lookup) ?_ (by with_unfolding_all rfl)
    refine wpAny_getItem_list_slice ht.isList (Heap.IsSliceOf.new _ vl vu vs) pl pu ps (by decide) ?_ (by rw [List.size_toArray]; omega)
    rw [PySem.W.krv_pick]
    refine ⟨.ref _, _, I5.laid (t' := s4.toks) (o := .lst xs.reverse) (fun b ob q => Heap.get?_push_of_some _ q) (Nat.le_refl _) ?_, rfl, q _ (I5.hok.fresh (Nat.le_refl _))⟩
    exact ⟨by rw [List.length_reverse]; exact hz, _, 0, r.reverse, Heap.get?_push_size _ rfl⟩
  · obtain ⟨its, r, ht, hz⟩ := I5.tuple hx
    have hlen := r.length
    refine tail_any (ops := [.ref a, .ref s4.heap.objs.size]) ht.typeIs (PyProof.Rows.slot_tuple_getitem.lookup) ?_ (by with_unfolding_all rfl)
    refine getItem_tuple_rev ht (Heap.IsSliceOf.new _ vl vu vs) pl pu ps ?_ (by rw [List.size_toArray]; omega)
    refine ⟨.ref _, _, I5.laid (t' := s4.toks) (o := .tup xs.reverse) (fun b ob q => Heap.get?_push_of_some _ q) (Nat.le_refl _) ?_, rfl, q _ (I5.hok.fresh (Nat.le_refl _))⟩
    exact ⟨by rw [List.length_reverse]; exact hz, _, r.reverse, IsTup.new _ _⟩
theorem r_rev {e : Expr} {k : Nat} {p1 p2 p3 : Pos} (C : Or) {fa : EF} (he : PE X e (tE X W (fa C))) : PE X (.Subscript e (.Slice none none (some (.UnaryOp .USub (.Constant (.int 1) k p1) p2)) p3) pos) (tE X W (un1F opRev fa C)) :=
  PE.weak (pe_revA he) fun σ H Q ⟨L, h, env, hr, sr, hp⟩ => ⟨L, h, env, hr, sr, pRg.then_ hp fun d h1 L1 H1 v le kp hr1 r1 hp1 => by
    cases r1 with
    | @tup ds a xs ha ra => exact ⟨a, xs, rfl, .inr ⟨ha, fun p np => hp1 L1 _ _ (LE.refl _) (Keep.new np) (hr1.new np) (.tup (.inl (.inl upd_same)) (ra.rev.mono (LE.refl _) (Keep.new np)))⟩⟩
    | @ref p a ea =>
      simp only [opRev] at hp1
      split at hp1
      · rename_i ds e0
        obtain ⟨xs, q, s⟩ := hr1.lst p a ds e0 ea
        exact ⟨a, xs, rfl, .inl ⟨SqL.of q, fun b nb => allocd hr1 s.rev nb hp1⟩⟩
      · exact hp1.elim
    | _ => exact hp1.elim⟩
/-! methods of texts without arguments -/
def rSm (g : Str → Option D) : V → List V → Hp → VK → Prop := fun x xs H Q => ∃ a d v, x = .str a ∧ xs = [] ∧ g a = some d ∧ (∀ K L, Rel K L H d v) ∧ Q v H
theorem r_smeth0 {o : Expr} {name : Str} {apos : Pos} {id : String} {g : Str → Option D} (C : Or) {fo : EF} (slot : Slot "str" name id) (hty : typeOf (.builtin id) = pure (.type "method_descriptor")) (hm : MtR X id (rSm g)) (hv : ∀ z d, g z = some d → ∃ v : V, ∀ K L H, Rel K L H d v) (ho : PE X o (tE X W (fo C)))
    (hbase : attributeBase o name X.env (eval o X.env) = eval o X.env) (hline : (apos.endLine == pos.line) = true) : PE X (.Call (.Attribute o name apos) [] [] pos) (tE X W (un1F (smth0 g) fo C)) :=
  PE.weak (pe_m0 slot hty hm ho hbase hline) fun σ H Q ⟨L, h, env, hr, sr, hp⟩ => ⟨L, h, env, hr, sr, pRg.then_ hp fun d h1 L1 H1 v le kp hr1 r1 hp1 => by
    cases r1 with
    | str z =>
      refine ⟨⟨z, rfl⟩, ?_⟩
      simp only [smth0] at hp1
      split at hp1
      · rename_i d e
        obtain ⟨v, rv⟩ := hv z d e
        exact ⟨z, d, v, rfl, rfl, e, fun K L => rv K L _, here hr1 hp1 (rv _ _ _)⟩
      · exact hp1.elim
    | _ => exact hp1.elim⟩
theorem mt_upperD : MtR X "str.upper" (rSm mUpper) := by
  intro pins s σ H x xs v us Q I rx rs h
  obtain ⟨a, d, v2, rfl, rfl, e, rv, q⟩ := h
  unfold mUpper at e
  split at e
  · rename_i hz
    cases e
    have z := rv X.K []
    cases z
    exact mt_upper pins s σ H _ _ v us Q I rx rs ⟨a, rfl, rfl, Nat.le_trans hz (by decide), q⟩
  · cases e
theorem mt_isdigitD : MtR X "str.isdigit" (rSm mIsdigit) := by
  intro pins s σ H x xs v us Q I rx rs h
  obtain ⟨a, d, v2, rfl, rfl, e, rv, q⟩ := h
  unfold mIsdigit at e
  cases e
  have z := rv X.K []
  cases z
  exact mt_isdigit pins s σ H _ _ v us Q I rx rs ⟨a, rfl, rfl, True.intro, q⟩
theorem mUpper_v : ∀ z d, mUpper z = some d → ∃ v : V, ∀ K L H, Rel K L H d v := fun z d e => by
  unfold mUpper at e
  split at e
  · cases e; exact ⟨.str _, fun _ _ _ => .str _⟩
  · cases e
theorem mIsdigit_v : ∀ z d, mIsdigit z = some d → ∃ v : V, ∀ K L H, Rel K L H d v := fun z d e => by
  unfold mIsdigit at e
  cases e
  exact ⟨.bl _, fun _ _ _ => .bl _⟩
/-! isinstance of a tuple of two classes -/
theorem r_isi2 {a : Expr} {T U : Str} {Ts Us : String} {p p2 p3 p4 : Pos} {kk : Nat} (C : Or) {fa : EF} (hg : Gl X "isinstance") (hm : X.mg "isinstance" = none) (hgT : Gl X T) (hmT : X.mg T = none) (hv : bootBuiltins T = some (.type Ts)) (hT : Ts ∈ ["bool", "int", "str", "tuple", "list", "dict"]) (hn : T ≠ "__name__") (hd : (T == ("__debug__" : Str)) = false)
    (hgU : Gl X U) (hmU : X.mg U = none) (hvU : bootBuiltins U = some (.type Us)) (hU : Us ∈ ["bool", "int", "str", "tuple", "list", "dict"]) (hnU : U ≠ "__name__") (hdU : (U == ("__debug__" : Str)) = false)
    (ha : PE X a (tE X W (fa C))) (s1 : ∀ es, starEach (a :: es) X.env = (false, eval a X.env) :: starEach es X.env) : PE X (.Call (.Name "isinstance" p) [a, .Tuple [.Name T p2, .Name U p3] kk p4] [] pos) (tE X W (un1F (isi2F Ts Us) fa C)) :=
  PE.weak (pe_callB call_isiT hg hm boot_isinstance (pa_cons ha (pa_cons (pe_tup (pa_cons (pe_bltn (v := .ty Ts) hgT hmT hv rfl hn hd) (pa_cons (pe_bltn (v := .ty Us) hgU hmU hvU rfl hnU hdU) pa_nil rfl) rfl)) pa_nil rfl) (s1 _)) (by decide) (by decide) (s1 _) rfl) fun σ H Q ⟨L, h, env, hr, sr, hp⟩ => ⟨L, h, env, hr, sr, pRg.then_ hp fun d h1 L1 H1 v le kp hr1 r1 hp1 => by
    unfold isi2F at hp1
    split at hp1
    · rename_i t e
      refine ⟨by rw [sizeLine_eq]; show 2 ≤ _; decide, fun tp np => ?_⟩
      obtain ⟨ty, mem⟩ := ty_of (hr1.new (o := .tup [.ty Ts, .ty Us]) np) (r1.mono (LE.refl _) (Keep.new np)) e
      refine ⟨v, tp, [.ty Ts, .ty Us], _, [.type Ts, .type Us], _, rfl, upd_same, .cons (.ty Ts) (.cons (.ty Us) .nil), ty, ?_, hp1 L1 _ _ (LE.refl _) (Keep.new np) (hr1.new np) (.bl _)⟩
      refine kitAny_cons (kit_isi mem hT) (fun hb => ?_) (fun hb => by rw [hb]; rfl)
      rw [hb, Bool.false_or]
      exact kitAny_cons (kit_isi mem hU) (fun hb => by rw [hb]; exact kitAny_nil) (fun hb => hb)
    · exact hp1.elim⟩
end
end VM

set_option maxRecDepth 100000
set_option maxHeartbeats 2000000
namespace VM
open PySem PySem.Spec PyProof.Rows L2 HT
/-! sorts of tuples told apart by their first numbers -/
def TupF (h : Heap) (v : Value) (i : Int) : Prop := ∃ a o xs n t r, v = .ref a ∧ h.get? a = some o ∧ o.cls = .type "tuple" ∧ o.data = .seq xs n ∧ xs.toList = Value.int i t :: r
theorem TupF.keeps {h h' : Heap} {v : Value} {i : Int} (x : TupF h v i) (k : ∀ b o, h.get? b = some o → o.cls = .type "tuple" → h'.get? b = some o) : TupF h' v i := by
  obtain ⟨a, o, xs, n, t, r, e, ho, hc, hd, hx⟩ := x
  exact ⟨a, o, xs, n, t, r, e, k _ _ ho hc, hc, hd, hx⟩
def fstV (h : Heap) (v : Value) : Int := match v with
  | .ref a => match h.get? a with
    | some o => match o.data with
      | .seq xs _ => match xs.toList with
        | .int i _ :: _ => i
        | _ => 0
      | _ => 0
    | none => 0
  | _ => 0
theorem TupF.fst {h : Heap} {v : Value} {i : Int} (x : TupF h v i) : fstV h v = i := by
  obtain ⟨a, o, xs, n, t, r, rfl, ho, hc, hd, hx⟩ := x
  simp only [fstV, ho, hd, hx]
theorem firstsF {h : Heap} : ∀ vs : List Value, (∀ v ∈ vs, ∃ i, TupF h v i) → ∃ fs, PySem.W.KatTups h vs fs ∧ fs.length = vs.length ∧ ∀ f, f ∈ fs → ∃ n t, f = Value.int n t
  | [], _ => ⟨[], PySem.W.KatTups.nil, rfl, fun f hf => by simp at hf⟩
  | v :: vs, x => by
    obtain ⟨fs, k, hl, hi⟩ := firstsF vs fun u hu => x u (List.mem_cons_of_mem _ hu)
    obtain ⟨i, a, o, xs, n, t, r, rfl, ho, hc, hd, hx⟩ := x v (List.mem_cons_self ..)
    refine ⟨Value.int i t :: fs, PySem.W.KatTups.cons ho hc hd ?_ k, by simp [hl], ?_⟩
    · have z := congrArg (fun l : List Value => l[0]?) hx
      simpa using z
    · intro f hf
      rcases List.mem_cons.mp hf with rfl | hf
      · exact ⟨i, t, rfl⟩
      · exact hi f hf
section
variable {prog : Program} {w : World} {A : Around} {E : Value → Shared → Prop} {s : Shared}
theorem eqBool_self {v : Value} {Q : Bool → Shared → Prop} {E : Value → Shared → Prop} (h : Q true s) : wpAny (model prog w) A (eqBool v v) Q E s := by
  unfold eqBool
  refine wpAny_holding ?_
  rw [if_pos (beq_self_eq_true v)]
  exact wpAny_bind (wpAny_rule (wpAny_pure h))
theorem lex_self {b fin : Bool} {Q : Bool → Shared → Prop} (h : Q fin s) : ∀ (xs : List Value) (i : Nat), PySem.W.KatLex prog w A b fin Q (xs.zip xs) i s
  | [], i => PySem.W.kat_nil h
  | x :: xs, i => by
    show PySem.W.KatLex prog w A b fin Q ((x, x) :: xs.zip xs) i s
    exact PySem.W.kat_cons (eqBool_self (PySem.W.kat_yes (lex_self h xs (i + 1))))
theorem kindF {vs : List Value} (h2 : 2 ≤ vs.length) (x : ∀ v ∈ vs, ∃ i, TupF s.heap v i) (nd : ∀ u ∈ vs, ∀ v ∈ vs, fstV s.heap u = fstV s.heap v → u = v) (r : Value → Int) (hr : ∀ v ∈ vs, r v = fstV s.heap v) (Q : SortKind → Shared → Prop)
    (h : ∀ κ, TS.Cmp prog w A s κ (pairsOf vs) r → Q κ s) : wpAny (model prog w) A (keyKind' vs.toArray) Q E s := by
  obtain ⟨fs, k, hl, hi⟩ := firstsF vs x
  refine PySem.W.kat_kind (T := Value.type "int") k (by omega) (fun f hf => ?_) rfl (h _ ?_)
  · obtain ⟨n, t, rfl⟩ := hi f hf
    exact PySem.W.Looks.of_pure rfl
  · intro p q hp hq Q' E' hQ
    rw [pairsOf_toList] at hp hq
    have mp := (mem_zip_self hp).2
    have mq := (mem_zip_self hq).2
    have ep := hr _ mp
    have eq2 := hr _ mq
    have hQ' : Q' (decide (fstV s.heap p.1 < fstV s.heap q.1)) s := by
      have z : decide (r p.1 < r q.1) = decide (fstV s.heap p.1 < fstV s.heap q.1) := by rw [ep, eq2]
      rw [← z]; exact hQ
    by_cases e : p.1 = q.1
    · obtain ⟨i, a, o, xs, n, t, rr, e1, ho, hc, hd, hx⟩ := x _ mp
      rw [← e, e1]
      refine PySem.W.kat_lt ho hd ho hd (lex_self ?_ _ _)
      rw [← e] at hQ'
      have z1 : decide (fstV s.heap p.1 < fstV s.heap p.1) = false := decide_eq_false (Int.lt_irrefl _)
      have z2 : decide (xs.size < xs.size) = false := decide_eq_false (Nat.lt_irrefl _)
      rw [z1] at hQ'
      rw [z2]
      exact hQ'
    · have ne : fstV s.heap p.1 ≠ fstV s.heap q.1 := fun z => e (nd _ mp _ mq z)
      obtain ⟨i, tp⟩ := x _ mp
      obtain ⟨j, tq⟩ := x _ mq
      rw [tp.fst, tq.fst] at ne hQ'
      obtain ⟨a, o, xs, n, t, rr, e1, ho, hc, hd, hx⟩ := tp
      obtain ⟨a', o', ys, n', t', rr', e2, ho', hc', hd', hx'⟩ := tq
      rw [e1, e2]
      refine PySem.W.kat_lt ho hd ho' hd' ?_
      rw [hx, hx']
      show PySem.W.KatLex prog w A _ _ Q' ((Value.int i t, Value.int j t') :: rr.zip rr') 0 s
      refine PySem.W.kat_cons (wpAny_eqBool_int ?_)
      rw [show (i == j) = false from beq_eq_false_iff_ne.mpr ne]
      exact PySem.W.kat_no (TS.oneLt_ints _ hQ')
/-- list.sort of such -/
theorem sortF {a : Addr} {vs : List Value} {n : Nat} {P : PySem.Fin → Shared → Prop} (ho : s.heap.get? a = some (seqObj "list" vs.toArray n)) (h64 : vs.length < 64) (x : ∀ v ∈ vs, ∃ i, TupF s.heap v i) (nd : ∀ u ∈ vs, ∀ v ∈ vs, fstV s.heap u = fstV s.heap v → u = v)
    (h : ∀ out : Array Value, out.toList.Perm vs → out.toList.Pairwise (fun u v => fstV s.heap u ≤ fstV s.heap v) → P (.done (.ret .none)) { s with heap := sortedHeap s.heap a vs out }) :
    wpAny (model prog w) A (Builtin.«list.sort» ⟨[.ref a], []⟩) P E s := by
  have keep : ∀ b o, s.heap.get? b = some o → o.cls = .type "tuple" → (TS.midHeap s.heap a vs).get? b = some o := fun b o e hc => by
    refine TS.midHeap_old ?_ e
    rintro rfl
    rw [ho] at e
    have e' : seqObj "list" vs.toArray n = o := Option.some.inj e
    rw [← e'] at hc
    have c' : Value.type "list" = Value.type "tuple" := hc
    injection c' with c''
    exact absurd c'' (by decide)
  have same : ∀ v ∈ vs, fstV (TS.midHeap s.heap a vs) v = fstV s.heap v := fun v hv => by
    obtain ⟨i, t⟩ := x v hv
    rw [t.fst, (t.keeps keep).fst]
  refine SK.plain_sort (r := fstV s.heap) ho h64 (fun h2 Q hQ => ?_) fun ps out h1 h2 h3 => ?_
  · refine kindF (s := { s with heap := TS.midHeap s.heap a vs }) h2 (fun v hv => ?_) (fun u hu v hv e => ?_) (fstV s.heap) (fun v hv => (same v hv).symm) Q hQ
    · obtain ⟨i, t⟩ := x v hv
      exact ⟨i, t.keeps keep⟩
    · have e' : fstV (TS.midHeap s.heap a vs) u = fstV (TS.midHeap s.heap a vs) v := e
      rw [same u hu, same v hv] at e'
      exact nd u hu v hv e'
  · have m : ∀ p ∈ ps, p.1 = p.2 := fun p hp => (mem_zip_self (h2.mem_iff.mp hp)).1
    refine h out ?_ ?_
    · rw [h1]
      have z := h2.map Prod.snd
      rw [List.map_snd_zip (Nat.le_refl _)] at z
      exact z
    · rw [h1, List.pairwise_map]
      refine List.Pairwise.imp_of_mem (fun {p q} hp hq h => ?_) h3
      show fstV s.heap p.2 ≤ fstV s.heap q.2
      rw [← m p hp, ← m q hq]
      exact h
theorem call_sortF {a : Addr} {vs : List Value} {n : Nat} {Q : Value → Shared → Prop} (ho : s.heap.get? a = some (seqObj "list" vs.toArray n)) (h64 : vs.length < 64) (x : ∀ v ∈ vs, ∃ i, TupF s.heap v i) (nd : ∀ u ∈ vs, ∀ v ∈ vs, fstV s.heap u = fstV s.heap v → u = v)
    (h : ∀ out : Array Value, out.toList.Perm vs → out.toList.Pairwise (fun u v => fstV s.heap u ≤ fstV s.heap v) → Q .none { s with heap := sortedHeap s.heap a vs out }) :
    wpAny (model prog w) A (call (.builtin "list.sort") [.ref a]) Q E s :=
  wpAny_call_entry slot_list_sort ⟨_, ho, rfl⟩ entry_list_sort (sortF ho h64 x nd fun out h1 h2 => ⟨_, rfl, h out h1 h2⟩) (args_list_sort _)
/-- what sorted does behind what it has collected -/
theorem tailF {vs : List Value} {Q : Value → Shared → Prop} (h64 : vs.length < 64) (x : ∀ v ∈ vs, ∃ i, TupF s.heap v i) (nd : ∀ u ∈ vs, ∀ v ∈ vs, fstV s.heap u = fstV s.heap v → u = v)
    (h : ∀ (F : Heap) (out : Array Value) (e : Nat), out.toList.Perm vs → out.toList.Pairwise (fun u v => fstV s.heap u ≤ fstV s.heap v) → (∀ b o, s.heap.get? b = some o → F.get? b = some o) → F.get? s.heap.objs.size = some (seqObj "list" out e) → Q (.ref s.heap.objs.size) { s with heap := F }) :
    wpAny (model prog w) A (call (.builtin "list.sort") [.ref s.heap.objs.size]) (fun _ s' => Q (.ref s.heap.objs.size) s') E { s with heap := s.heap.push (seqObj "list" vs.toArray 0) } := by
  have hob : (s.heap.push (seqObj "list" vs.toArray 0)).get? s.heap.objs.size = some (seqObj "list" vs.toArray 0) := Heap.get?_push_size _ rfl
  have kp : ∀ b o, s.heap.get? b = some o → (s.heap.push (seqObj "list" vs.toArray 0)).get? b = some o := fun b o e => Heap.get?_push_of_some _ e
  have same : ∀ v ∈ vs, fstV (s.heap.push (seqObj "list" vs.toArray 0)) v = fstV s.heap v := fun v hv => by
    obtain ⟨i, t⟩ := x v hv
    rw [t.fst, (t.keeps fun b o e _ => kp b o e).fst]
  refine call_sortF (s := { s with heap := s.heap.push (seqObj "list" vs.toArray 0) }) hob h64 (fun v hv => ?_) (fun u hu v hv e => ?_) fun out h1 h2 => ?_
  · obtain ⟨i, t⟩ := x v hv
    exact ⟨i, t.keeps fun b o e _ => kp b o e⟩
  · have e' : fstV (s.heap.push (seqObj "list" vs.toArray 0)) u = fstV (s.heap.push (seqObj "list" vs.toArray 0)) v := e
    rw [same u hu, same v hv] at e'
    exact nd u hu v hv e'
  · obtain ⟨ep, he⟩ := sortedHeap_at (vs := vs) (out := out) hob
    refine h _ out ep h1 ?_ (fun b o e => ?_) he
    · refine List.Pairwise.imp_of_mem (fun {u v} hu hv z => ?_) h2
      have z' : fstV (s.heap.push (seqObj "list" vs.toArray 0)) u ≤ fstV (s.heap.push (seqObj "list" vs.toArray 0)) v := z
      rw [same u (h1.mem_iff.mp hu), same v (h1.mem_iff.mp hv)] at z'
      exact z'
    · have hlt := Heap.lt_size e
      exact (sortedHeap_old (Nat.ne_of_lt hlt) (by rw [size_push']; exact Nat.lt_succ_of_lt hlt)).trans (kp b o e)
end
/-! by values -/
/-- the rank's places: l, with what is there -/
def SrtAt (K : PySem.W.Frag) (H : Hp) {α : Type} (l : List α) (g : α → Int) (v : α → V) : Prop := l.length < 64 ∧ (∀ p ∈ l, ∃ t rest, v p = .ref t ∧ SqT K H t (.int (g p) :: rest)) ∧ (l.map g).Nodup
section
variable {X : Cx}
theorem srt_raw {pins : List (Addr × Obj)} {σ : L2.St} {H : Hp} {s : Shared} (I : Inv X pins σ H s) {α : Type} {l : List α} {g : α → Int} {v : α → V} {its : List Value} (S : SrtAt X.K H l g v) (rv : Vals (l.map v) its) :
    its.length < 64 ∧ (∀ u ∈ its, ∃ i, TupF s.heap u i) ∧ (∀ u ∈ its, ∀ w ∈ its, fstV s.heap u = fstV s.heap w → u = w) ∧ ∀ (j : Nat) (p : α) (u : Value), l[j]? = some p → its[j]? = some u → TupF s.heap u (g p) := by
  obtain ⟨h64, ht, nd⟩ := S
  have len : l.length = its.length := by have := rv.length; rwa [List.length_map] at this
  have key : ∀ (j : Nat) (p : α) (u : Value), l[j]? = some p → its[j]? = some u → TupF s.heap u (g p) := by
    intro j p u hp hu
    obtain ⟨t, rest, e, q⟩ := ht p (List.mem_of_getElem? hp)
    obtain ⟨u', hu', r⟩ := rv.get (i := j) (x := v p) (by rw [List.getElem?_map, hp]; rfl)
    have e' : u' = u := Option.some.inj (hu'.symm.trans hu)
    rw [e', e] at r
    obtain rfl : u = Value.ref t := r
    obtain ⟨ts, rt, ⟨o, ho, hc, n, hd⟩, _⟩ := I.tuple q
    cases rt with
    | cons r1 r2 =>
      obtain ⟨t1, rfl⟩ := r1
      exact ⟨t, o, _, n, t1, _, rfl, ho, hc, hd, List.toList_toArray⟩
  have at_ : ∀ u ∈ its, ∃ (j : Nat) (p : α), l[j]? = some p ∧ its[j]? = some u := by
    intro u hu
    obtain ⟨j, hj⟩ := List.mem_iff_getElem?.mp hu
    have hlt : j < l.length := by rw [len]; exact (List.getElem?_eq_some_iff.mp hj).1
    exact ⟨j, _, List.getElem?_eq_getElem hlt, hj⟩
  refine ⟨by omega, fun u hu => ?_, fun u hu w hw e => ?_, key⟩
  · obtain ⟨j, p, hp, hj⟩ := at_ u hu
    exact ⟨_, key j p u hp hj⟩
  · obtain ⟨j, p, hp, hj⟩ := at_ u hu
    obtain ⟨k, q, hq, hk⟩ := at_ w hw
    rw [(key j p u hp hj).fst, (key k q w hq hk).fst] at e
    have e1 : (l.map g)[j]? = some (g p) := by rw [List.getElem?_map, hp]; rfl
    have e2 : (l.map g)[k]? = some (g p) := by rw [List.getElem?_map, hq, e]; rfl
    have ejk : j = k := (List.getElem?_inj (List.getElem?_eq_some_iff.mp e1).1 nd).mp (e1.trans e2.symm)
    subst ejk
    exact Option.some.inj (hj.symm.trans hk)
theorem srt_back {pins : List (Addr × Obj)} {σ : L2.St} {H : Hp} {s s' : Shared} (I : Inv X pins σ H s) {α : Type} {l : List α} {g : α → Int} {v : α → V} {its : List Value} (rv : Vals (l.map v) its)
    (key : ∀ (j : Nat) (p : α) (u : Value), l[j]? = some p → its[j]? = some u → TupF s'.heap u (g p)) {out : List Value} (h1 : out.Perm its) (h2 : out.Pairwise fun u w => fstV s'.heap u ≤ fstV s'.heap w) :
    ∃ qs : List α, Vals (qs.map v) out ∧ qs.Perm l ∧ qs.Pairwise fun x y => g x ≤ g y := by
  have len : l.length = its.length := by have := rv.length; rwa [List.length_map] at this
  have m2 : (l.zip its).map Prod.snd = its := List.map_snd_zip (by omega)
  have m1 : (l.zip its).map Prod.fst = l := List.map_fst_zip (by omega)
  obtain ⟨zs, p, q⟩ := perm_lift Prod.snd h1 _ m2
  have all : ∀ z ∈ zs, RelV (v z.1) z.2 ∧ fstV s'.heap z.2 = g z.1 := by
    intro z hz
    obtain ⟨j, hj⟩ := List.mem_iff_getElem?.mp (p.mem_iff.mp hz)
    obtain ⟨e1, e2⟩ := List.getElem?_zip_eq_some.mp hj
    obtain ⟨u, e3, e4⟩ := rv.get (i := j) (x := v z.1) (by rw [List.getElem?_map, e1]; rfl)
    have e : u = z.2 := Option.some.inj (e3.symm.trans e2)
    rw [e] at e4
    exact ⟨e4, (key j _ _ e1 e2).fst⟩
  refine ⟨zs.map Prod.fst, ?_, ?_, ?_⟩
  · rw [← q, List.map_map]
    exact vals_maps (fun z => v z.1) Prod.snd zs fun z hz => (all z hz).1
  · have h := p.map Prod.fst
    rw [m1] at h
    exact h
  · rw [← q, List.pairwise_map] at h2
    rw [List.pairwise_map]
    refine List.Pairwise.imp_of_mem (fun {x y} hx hy h => ?_) h2
    have h' : fstV s'.heap x.2 ≤ fstV s'.heap y.2 := h
    rw [(all x hx).2, (all y hy).2] at h'
    exact h'
/-- sorted(l) -/
def rSrtF (K : PySem.W.Frag) : List V → Hp → VK → Prop := fun vs H Q => ∃ (α : Type) (l : List α) (g : α → Int) (v : α → V) (a : Addr), vs = [.ref a] ∧ SqL K H a (l.map v) ∧ SrtAt K H l g v ∧
  ∀ (qs : List α) (p : Addr), qs.Perm l → (qs.Pairwise fun x y => g x ≤ g y) → H p = none → Q (.ref p) (upd H p (.lst (qs.map v)))
theorem cr_srtF : CallR X (.builtin "sorted") (rSrtF X.K) := by
  intro pins s σ H vs us Q I r h
  obtain ⟨α, l, g, v, a, rfl, hs, S, q⟩ := h
  obtain ⟨its, rv, hl, hz⟩ := I.list hs
  rw [Vals.ref1 r]
  obtain ⟨h64, hx, nd, key⟩ := srt_raw I S rv
  refine Calls.call_function_entry kind_sorted plain_sorted entry_sorted (args_sorted1 _) ?_
  unfold Builtin.«sorted»
  refine wpAny_bind (m := checkCount "sorted" 1 1 _) (wpAny_pure ?_)
  refine wpAny_bind (collect_list hl.isList ?_ (by rw [sizeLine_eq]; omega))
  refine wpAny_bind (wpAny_newList ?_ (by rw [sizeLine_eq]; omega))
  have hsz : ((s.heap.push (seqObj "list" #[] 0)).update s.heap.objs.size (Obj.mapSeq (· ++ its.toArray))).objs.size = s.heap.objs.size + 1 := by
    rw [Heap.size_update, size_push']
  have keep : ∀ b o, s.heap.get? b = some o → ((s.heap.push (seqObj "list" #[] 0)).update s.heap.objs.size (Obj.mapSeq (· ++ its.toArray))).get? b = some o := fun b o q => by
    have hlt : b < s.heap.objs.size := Heap.lt_size q
    rw [Heap.get?_update_ne _ _ _ _ (Nat.ne_of_lt hlt), Heap.get?_push_ne _ _ _ (Nat.ne_of_lt hlt)]
    exact q
  have same : ∀ u ∈ its, fstV ((s.heap.push (seqObj "list" #[] 0)).update s.heap.objs.size (Obj.mapSeq (· ++ its.toArray))) u = fstV s.heap u := fun u hu => by
    obtain ⟨i, t⟩ := hx u hu
    rw [t.fst, (t.keeps fun b o e _ => keep b o e).fst]
  generalize hh : (s.heap.push (seqObj "list" #[] 0)).update s.heap.objs.size (Obj.mapSeq (· ++ its.toArray)) = h1 at *
  have tail := tailF (prog := X.prog) (w := X.w) (A := X.A.in1) (E := X.xe) (s := { s with heap := h1 }) (vs := its) (Q := EP X pins σ Q) h64 (fun u hu => by
      obtain ⟨i, t⟩ := hx u hu
      exact ⟨i, t.keeps fun b o e _ => keep b o e⟩) (fun u hu w hw e => by
      have e' : fstV h1 u = fstV h1 w := e
      rw [same u hu, same w hw] at e'
      exact nd u hu w hw e') (fun F out e o1 o2 o3 o4 => by
    have o2' : out.toList.Pairwise fun u w => fstV s.heap u ≤ fstV s.heap w := List.Pairwise.imp_of_mem (fun {u w} hu hw z => by
      have z' : fstV h1 u ≤ fstV h1 w := z
      rw [same u (o1.mem_iff.mp hu), same w (o1.mem_iff.mp hw)] at z'
      exact z') o2
    obtain ⟨qs, b1, b2, b3⟩ := srt_back (s' := s) I rv key o1 o2'
    have hp : s.heap.objs.size ≤ h1.objs.size := by omega
    have hlen : (qs.map v).length ≤ sizeLine := by rw [List.length_map, b2.length_eq, sizeLine_eq]; have := S.1; omega
    exact ⟨.ref _, upd H h1.objs.size (.lst (qs.map v)), I.laid (t' := s.toks) (fun b o e => o3 b o (keep b o e)) hp ⟨hlen, out.toList, e, b1, o4⟩, rfl, q qs _ b2 b3 (I.hok.fresh hp)⟩)
  refine wpAny_bind (wpAny_holding (wpAny_mono tail (fun _ s' x => ?_) fun _ _ e => e))
  exact wpAny_pure ⟨_, rfl, x⟩
/-- sorted(d.values()) -/
def rSortV (K : PySem.W.Frag) : V → Hp → VK → Prop := fun x H Q => ∃ (α : Type) (l : List α) (g : α → Int) (v : α → V) (d : Addr) (us : List (Key × V)), x = .ref d ∧ H d = some (.dK us) ∧ us.map (·.2) = l.map v ∧ SrtAt K H l g v ∧
  ∀ (qs : List α) (p : Addr), qs.Perm l → (qs.Pairwise fun x y => g x ≤ g y) → H p = none → Q (.ref p) (upd H p (.lst (qs.map v)))
def tSortV (K : PySem.W.Frag) (te : TE) : TE := fun σ H Q => te σ H fun x H1 => rSortV K x H1 Q
theorem vals_snd : ∀ {us : List (Key × V)} {vs : List (Key × Value)}, KV us vs → Vals (us.map (·.2)) (vs.map (·.2))
  | _, _, .nil => .nil
  | _, _, .cons h t => .cons h.2 (vals_snd t)
theorem pe_sortV {e : Expr} {te : TE} {p apos cpos pos : Pos} (hc : X.calm = true) (he : PE X e te) (hg : Gl X "sorted") (hm : X.mg "sorted" = none) (hv : bootBuiltins "sorted" = some (.builtin "sorted")) (hbase : attributeBase e "values" X.env (eval e X.env) = eval e X.env) (hline : (apos.endLine == cpos.line) = true)
    (hs : starEach [.Call (.Attribute e "values" apos) [] [] cpos] X.env = (false, eval (.Call (.Attribute e "values" apos) [] [] cpos) X.env) :: starEach [] X.env := by rfl) :
    PE X (.Call (.Name "sorted" p) [.Call (.Attribute e "values" apos) [] [] cpos] [] pos) (tSortV X.K te) := by
  refine ⟨fun pins s σ H Q I hq => ?_⟩
  refine Call_ (ld_blt I hg hm hv ?_)
  refine PyProof.Rows.callWith_builtin1 (PyProof.Rows.args_cons ?_ hs) hs rfl
  refine wpAny_Call_method (T := "dict") (id := "dict.values") hbase rfl hline F.plainAttrs_dict F.slot_dict_values F.type_dict_values (thn (he.run pins s σ H _ I hq) fun u s1 ⟨x, H1, I1, rx, q⟩ => ?_)
  obtain ⟨α, l, g, v, d, us, ex, hd, el, S, q⟩ := q
  subst ex
  obtain rfl : u = Value.ref d := rx
  obtain ⟨hz, hs0, vs, kv, hdo⟩ := I1.hok d _ hd
  obtain ⟨ep, hat⟩ := hdo.dictAt
  have lk : us.length = vs.length := Paired.length kv
  have lu : us.length = l.length := by have := congrArg List.length el; simpa using this
  refine ⟨hdo.typeIs, hdo.mapOf.noDict, ?_⟩
  show wpAny _ _ (callWith cpos (.builtin "dict.values") [.ref d] [] []) _ X.xe s1
  refine method_meetsIn F.slot_dict_values F.entry_dict_values rfl (PySem.evalArgs_none ⟨rfl, hdo.typeIs, F.args_dict_values_1 _, _, meets_dict_values (mixKind X.prog X.w) d hs0, ⟨vs, hdo⟩, ?_⟩)
  refine PyProof.Rows.args_nil ?_
  refine Calls.call_function_entry kind_sorted plain_sorted entry_sorted (args_sorted1 _) ?_
  unfold Builtin.«sorted»
  refine wpAny_bind (m := checkCount "sorted" 1 1 _) (wpAny_pure ?_)
  have h64 := S.1
  refine wpAny_bind (PySem.W.kdu_collect (A := X.A.in1) (PySem.W.kdl_values (knd := mixKind X.prog X.w) (kvs := vs) (ep := ep)) (I1.ok.hd hc) ⟨⟨_, Heap.get?_push_size _ rfl, rfl, rfl⟩, hat.push _⟩ (by rw [sizeLine_eq]; omega) fun h' tk acc hk hacc => ?_)
  have eacc : acc.toList = vs.map (·.2) := PySem.W.kdl_vals_eq acc.toList (by rw [Array.length_toList]; exact hacc.1) fun j w e => hacc.2 j w (by rw [← Array.getElem?_toList]; exact e)
  refine wpAny_bind (wpAny_newList ?_ (by rw [eacc, List.length_map, sizeLine_eq]; omega))
  rw [eacc]
  have kp : ∀ b o, s1.heap.get? b = some o → h'.get? b = some o := fun b o e => hk b o (Heap.get?_push_of_some _ e)
  have I2 : Inv X pins σ H1 { s1 with heap := h', toks := tk } := I1.kept (t' := tk) kp
  have rv : Vals (l.map v) (vs.map (·.2)) := by rw [← el]; exact vals_snd kv
  obtain ⟨h64', hx, nd, key⟩ := srt_raw I2 S rv
  have tail := tailF (prog := X.prog) (w := X.w) (A := X.A.in1) (E := X.xe) (s := { s1 with heap := h', toks := tk }) (vs := vs.map (·.2)) (Q := EP X pins σ Q) h64' hx nd (fun F out e o1 o2 o3 o4 => by
    obtain ⟨qs, b1, b2, b3⟩ := srt_back (s' := { s1 with heap := h', toks := tk }) I2 rv key o1 o2
    have hlen : (qs.map v).length ≤ sizeLine := by rw [List.length_map, b2.length_eq, sizeLine_eq]; omega
    exact ⟨.ref _, upd H1 h'.objs.size (.lst (qs.map v)), I2.laid (t' := tk) o3 (Nat.le_refl _) ⟨hlen, out.toList, e, b1, o4⟩, rfl, q qs _ b2 b3 (I2.hok.fresh (Nat.le_refl _))⟩)
  refine wpAny_bind (wpAny_holding (wpAny_mono tail (fun _ s' x => ?_) fun _ _ e => e))
  exact wpAny_pure ⟨_, rfl, x⟩
end
end VM

set_option maxRecDepth 100000
set_option maxHeartbeats 2000000
namespace VM
open PySem PySem.Spec PyProof.Rows L2 HT
/-! srtD -/
theorem insD_perm (d : D) : ∀ ds : List D, (insD d ds).Perm (d :: ds)
  | [] => List.Perm.refl _
  | e :: es => by
    unfold insD
    split
    · exact List.Perm.refl _
    · exact ((insD_perm d es).cons e).trans (List.Perm.swap d e es)
theorem srtD_perm : ∀ ds : List D, (srtD ds).Perm ds
  | [] => List.Perm.refl _
  | d :: ds => (insD_perm d (srtD ds)).trans ((srtD_perm ds).cons d)
theorem insD_srt (d : D) : ∀ ds : List D, (ds.Pairwise fun x y => numD x ≤ numD y) → (insD d ds).Pairwise fun x y => numD x ≤ numD y
  | [], _ => List.pairwise_singleton _ _
  | e :: es, h => by
    obtain ⟨h1, h2⟩ := List.pairwise_cons.mp h
    unfold insD
    split
    · rename_i q
      refine List.pairwise_cons.mpr ⟨fun y hy => ?_, h⟩
      rcases List.mem_cons.mp hy with rfl | hy
      · exact q
      · exact Int.le_trans q (h1 y hy)
    · rename_i q
      refine List.pairwise_cons.mpr ⟨fun y hy => ?_, insD_srt d es h2⟩
      rcases List.mem_cons.mp ((insD_perm d es).mem_iff.mp hy) with rfl | hy
      · omega
      · exact h1 y hy
theorem srtD_srt : ∀ ds : List D, (srtD ds).Pairwise fun x y => numD x ≤ numD y
  | [] => List.Pairwise.nil
  | d :: ds => insD_srt d _ (srtD_srt ds)
theorem srt_uniq {as ds : List D} (inj : ∀ x ∈ ds, ∀ y ∈ ds, numD x = numD y → x = y) (p : as.Perm ds) (h : as.Pairwise fun x y => numD x ≤ numD y) : as = srtD ds :=
  List.Perm.eq_of_pairwise (le := fun x y => numD x ≤ numD y) (fun a b ha hb h1 h2 => inj a (p.mem_iff.mp ha) b ((srtD_perm ds).mem_iff.mp hb) (Int.le_antisymm h1 h2)) h (srtD_srt ds) (p.trans (srtD_perm ds).symm)
theorem nodup_inj {α β : Type} {f : α → β} : ∀ {l : List α}, (l.map f).Nodup → ∀ x ∈ l, ∀ y ∈ l, f x = f y → x = y
  | [], _, x, hx, _, _, _ => by simp at hx
  | a :: l, h, x, hx, y, hy, e => by
    rw [List.map_cons, List.nodup_cons] at h
    obtain ⟨h1, h2⟩ := h
    rcases List.mem_cons.mp hx with ex | hx1
    · rcases List.mem_cons.mp hy with ey | hy1
      · rw [ex, ey]
      · exact absurd (List.mem_map.mpr ⟨y, hy1, by rw [← e, ex]⟩) h1
    · rcases List.mem_cons.mp hy with ey | hy1
      · exact absurd (List.mem_map.mpr ⟨x, hx1, by rw [e, ey]⟩) h1
      · exact nodup_inj h2 x hx1 y hy1 e
variable [HasT]
section
variable {X : Cx} {W : WX}
theorem rels_zip {K : PySem.W.Frag} {L : List Addr} {H : Hp} : ∀ {ds : List D} {xs : List V}, Rels K L H ds xs → ∀ p ∈ ds.zip xs, Rel K L H p.1 p.2
  | _, _, .nil, _, h => nomatch h
  | d :: ds, v :: vs, .cons r t, p, h => by
    have h' : p ∈ (d, v) :: ds.zip vs := h
    rcases List.mem_cons.mp h' with e | h'
    · rw [e]; exact r
    · exact rels_zip t p h'
theorem rels_of {K : PySem.W.Frag} {L : List Addr} {H : Hp} : ∀ {l : List (D × V)}, (∀ p ∈ l, Rel K L H p.1 p.2) → Rels K L H (l.map (·.1)) (l.map (·.2))
  | [], _ => .nil
  | p :: l, h => .cons (h p (by simp)) (rels_of fun q hq => h q (by simp [hq]))
/-- the places of a sort, and what comes of it -/
theorem srt_at {K : PySem.W.Frag} {L : List Addr} {H : Hp} {ds : List D} {xs : List V} (rs : Rels K L H ds xs) (h64 : ds.length < 64) (hf : ds.all fstD_ = true) (nd : (ds.map numD).Nodup) :
    SrtAt K H (ds.zip xs) (fun p => numD p.1) (fun p => p.2) ∧ (ds.zip xs).map (fun p => p.2) = xs ∧
      ∀ qs : List (D × V), qs.Perm (ds.zip xs) → (qs.Pairwise fun x y => numD x.1 ≤ numD y.1) → Rels K L H (srtD ds) (qs.map fun p => p.2) := by
  have len := rs.len
  have m1 : (ds.zip xs).map (fun p => p.1) = ds := List.map_fst_zip (by omega)
  have m2 : (ds.zip xs).map (fun p => p.2) = xs := List.map_snd_zip (by omega)
  refine ⟨⟨by rw [List.length_zip]; omega, fun p hp => ?_, ?_⟩, m2, fun qs pq sq => ?_⟩
  · have r := rels_zip rs p hp
    have hm : p.1 ∈ ds := by rw [← m1]; exact List.mem_map.mpr ⟨p, hp, rfl⟩
    have f := List.all_eq_true.mp hf _ hm
    obtain ⟨d, v⟩ := p
    cases d with
    | tup es =>
      cases es with
      | nil => cases f
      | cons e es =>
        cases e <;> first | (cases f; done) | skip
        rename_i i
        cases r with
        | tup ha ra =>
          cases ra with
          | cons r1 r2 =>
            cases r1
            exact ⟨_, _, rfl, ha⟩
    | _ => cases f
  · have e : (ds.zip xs).map (fun p => numD p.1) = ds.map numD := by
      have z := congrArg (List.map numD) m1
      rw [List.map_map] at z
      exact z
    rw [e]
    exact nd
  · have p1 : (qs.map fun p => p.1).Perm ds := by
      have z := pq.map fun p => p.1
      rw [m1] at z
      exact z
    have e := srt_uniq (nodup_inj nd) p1 (List.pairwise_map.mpr sq)
    rw [← e]
    exact rels_of fun p hp => rels_zip rs p (pq.mem_iff.mp hp)
theorem intsD_eq : ∀ {ds : List D} {ns : List Int}, intsD ds = some ns → ds = ns.map .int
  | [], _, e => by cases e; rfl
  | d :: ds, _, e => by
    cases d with
    | int i =>
      simp only [intsD, Option.map_eq_some_iff] at e
      obtain ⟨ms, e1, rfl⟩ := e
      rw [intsD_eq e1]; rfl
    | _ => cases e
theorem rels_ints {K : PySem.W.Frag} {L : List Addr} {H : Hp} : ∀ ns : List Int, Rels K L H (ns.map .int) (ns.map V.int)
  | [] => .nil
  | n :: ns => .cons (.int n) (rels_ints ns)
theorem srt_ints {ns ns' : List Int} (p : ns'.Perm ns) (s : ns'.Pairwise (· ≤ ·)) : ns'.map D.int = srtD (ns.map .int) := by
  refine srt_uniq (fun x hx y hy e => ?_) (p.map _) (List.pairwise_map.mpr (s.imp fun {a b} h => h))
  obtain ⟨i, _, rfl⟩ := List.mem_map.mp hx
  obtain ⟨j, _, rfl⟩ := List.mem_map.mp hy
  have e' : i = j := e
  rw [e']
def rSortD : List V → Hp → VK → Prop := fun xs H Q => ∃ (a : Addr) (kvs : List (Key × V)) (ks : List Int), xs = [.ref a] ∧ Rd H a (.dK kvs) ∧ kvs.map (·.1) = ks.map Sum.inl ∧ ks.length < 64 ∧
    ∀ (ys : List Int) (p : Addr), ys.Perm ks → ys.Pairwise (· ≤ ·) → H p = none → Q (.ref p) (upd H p (.lst (ys.map V.int)))
def rSortedA (K : PySem.W.Frag) : List V → Hp → VK → Prop := fun vs H Q => rSorted K vs H Q ∨ rSrtF K vs H Q ∨ rSortD vs H Q
theorem cr_sortedA (hc : X.calm = true) : CallR X (.builtin "sorted") (rSortedA X.K) := by
  intro pins s σ H vs us Q I r h
  rcases h with h | h | h
  · exact cr_sorted pins s σ H vs us Q I r h
  · exact cr_srtF pins s σ H vs us Q I r h
  · exact call_sortedDI hc pins s σ H vs us Q I r h
theorem intsK_eq : ∀ {kvs : List (DKey × D)} {ks : List Int}, intsK kvs = some ks → kvs.map (·.1) = ks.map Sum.inl
  | [], _, e => by cases e; rfl
  | (.inl i, d) :: r, _, e => by
    obtain ⟨ms, e1, rfl⟩ := Option.map_eq_some_iff.mp e
    rw [List.map_cons, List.map_cons, intsK_eq e1]
  | (.inr z, d) :: r, _, e => by cases e
theorem o_sorted : OkC X W bSorted (rSortedA X.K) := by
  intro L H h σ ds vs Q hr rs hp
  unfold bSorted at hp
  split at hp
  · split at hp
    · rename_i z e
      obtain ⟨v, rfl, r⟩ := one_of rs
      obtain ⟨a, xs, rfl, sq, s⟩ := lst_of hr r e
      unfold sortL at hp
      split at hp
      · rename_i ns en
        split at hp
        · rename_i h64
          have e3 := ints_of s en
          subst e3
          have e4 := intsD_eq en
          subst e4
          refine .inl ⟨a, ns, rfl, sq, by simpa using h64, fun ns' p pm so np => ?_⟩
          refine allocd hr ?_ np hp
          rw [← srt_ints pm so]
          exact rels_ints ns'
        · exact hp.elim
      · split at hp
        · rename_i hc
          obtain ⟨c1, c2, c3⟩ := hc
          obtain ⟨z1, z2, z3⟩ := srt_at s c1 c2 c3
          exact .inr (.inl ⟨D × V, z.zip xs, fun p => numD p.1, fun p => p.2, a, rfl, by rw [z2]; exact sq, z1, fun qs p pm so np => allocd hr (z3 qs pm so) np hp⟩)
        · exact hp.elim
    · obtain ⟨v, rfl, r⟩ := one_of rs
      unfold sortK at hp
      split at hp
      · rename_i kvs e
        split at hp
        · rename_i ks ek
          split at hp
          · rename_i h64
            obtain ⟨i, a, us, rfl, rfl, ea, e0, q, s⟩ := dct_of hr r e
            refine .inr (.inr ⟨a, us, ks, rfl, .of q, by rw [← s.1]; exact intsK_eq ek, h64, fun ys p pm so np => allocd hr ?_ np hp⟩)
            rw [← srt_ints pm so]
            exact rels_ints ys
          · exact hp.elim
        · exact hp.elim
      · exact hp.elim
  · exact hp.elim
/-- sorted(d.values()) -/
theorem r_sortV {e : Expr} {p apos cpos pos : Pos} (C : Or) {fa : EF} (hc : X.calm = true) (he : PE X e (tE X W (fa C))) (hg : Gl X "sorted") (hm : X.mg "sorted" = none) (hbase : attributeBase e "values" X.env (eval e X.env) = eval e X.env) (hline : (apos.endLine == cpos.line) = true) :
    PE X (.Call (.Name "sorted" p) [.Call (.Attribute e "values" apos) [] [] cpos] [] pos) (tE X W (un1F opSortV fa C)) :=
  PE.weak (pe_sortV hc he hg hm boot_sorted hbase hline) fun σ H Q ⟨L, h, env, hr, sr, hp⟩ => ⟨L, h, env, hr, sr, pRg.then_ hp fun d h1 L1 H1 v le kp hr1 r1 hp1 => by
    unfold opSortV at hp1
    split at hp1
    · rename_i kvs e
      split at hp1
      · rename_i hcd
        obtain ⟨c1, c2, c3⟩ := hcd
        obtain ⟨i, a, us, rfl, rfl, ea, e0, q, s⟩ := dct_of hr1 r1 e
        obtain ⟨z1, z2, z3⟩ := srt_at s.2 (by simpa using c1) c2 c3
        exact ⟨D × V, _, fun p => numD p.1, fun p => p.2, a, us, rfl, q, z2.symm, z1, fun qs p pm so np => allocd hr1 (z3 qs pm so) np hp1⟩
      · exact hp1.elim
    · exact hp1.elim⟩
/-! len(set(t)) -/
theorem metI_in : ∀ (ns acc : List Int), acc.Nodup → (metI acc ns).Nodup ∧ ∀ k, k ∈ metI acc ns ↔ k ∈ acc ∨ k ∈ ns
  | [], acc, h => ⟨h, fun k => by simp [metI]⟩
  | n :: ns, acc, h => by
    unfold metI
    by_cases q : n ∈ acc
    · rw [if_pos q]
      obtain ⟨h1, h2⟩ := metI_in ns acc h
      refine ⟨h1, fun k => ?_⟩
      rw [h2, List.mem_cons]
      constructor
      · rintro (z | z)
        · exact .inl z
        · exact .inr (.inr z)
      · rintro (z | rfl | z)
        · exact .inl z
        · exact .inl q
        · exact .inr z
    · rw [if_neg q]
      obtain ⟨h1, h2⟩ := metI_in ns (acc ++ [n]) (List.nodup_append.mpr ⟨h, List.nodup_cons.mpr ⟨by simp, List.nodup_nil⟩, fun a ha b hb e => by
        rw [List.mem_singleton] at hb
        rw [e, hb] at ha
        exact q ha⟩)
      refine ⟨h1, fun k => ?_⟩
      rw [h2, List.mem_cons, List.mem_append, List.mem_singleton]
      constructor
      · rintro ((z | z) | z)
        · exact .inl z
        · exact .inr (.inl z)
        · exact .inr (.inr z)
      · rintro (z | z | z)
        · exact .inl (.inl z)
        · exact .inl (.inr z)
        · exact .inr z
theorem ints_are : ∀ {ns : List Int} {us : List Value}, Vals (ns.map V.int) us → PyProof.Rows.IntsAre us ns
  | [], _, .nil => .nil
  | n :: ns, _, .cons r t => by
    obtain ⟨k, rfl⟩ := r
    exact .cons n k (ints_are t)
theorem nodup_len {as bs : List Int} (ha : as.Nodup) (hb : bs.Nodup) (h : ∀ k, k ∈ as ↔ k ∈ bs) : as.length = bs.length := ((List.perm_ext_iff_of_nodup ha hb).mpr h).length_eq
def tLenSetT (K : PySem.W.Frag) (ta : TE) : TE := fun σ H Q => ta σ H fun x H1 => ∃ (l : Addr) (ns : List Int), x = .ref l ∧ SqT K H1 l (ns.map V.int) ∧ ns.length ≤ 1000 ∧ Q (.int ((metI [] ns).length : Nat)) H1
theorem pe_lenSetT {a : Expr} {ta : TE} {p p2 q pos : Pos} (hg : Gl X "len") (hm : X.mg "len" = none) (hg2 : Gl X "set") (hm2 : X.mg "set" = none) (ha : PE X a ta) (hc : X.calm = true)
    (na : starEach [a] X.env = (false, eval a X.env) :: starEach [] X.env) : PE X (.Call (.Name "len" p) [.Call (.Name "set" p2) [a] [] q] [] pos) (tLenSetT X.K ta) := by
  refine ⟨fun pins s σ H Q I h => ?_⟩
  refine Call_ (ld_blt I hg hm boot_len ?_)
  refine PyProof.Rows.callWith_builtin1 (PyProof.Rows.args_cons ?_ rfl) rfl rfl
  refine Call_ (ld_blt I hg2 hm2 boot_set ?_)
  refine PyProof.Rows.callWith_type1 (PyProof.Rows.args_cons (thn (ha.run pins s σ H _ I h) fun v s1 ⟨x, H1, I1, r1, q1⟩ => PyProof.Rows.args_nil ?_) na) na rfl
  obtain ⟨l, ns, rfl, hq, hl, q1⟩ := q1
  cases r1
  obtain ⟨its, r, pl, hz⟩ := I1.tuple hq
  refine call_set_tupI ns (I1.ok.hd hc) pl (by simpa using ints_are r) (by unfold scanBound; omega) fun h' tk c hS hcl hk => ?_
  refine PyProof.Rows.args_nil ?_
  obtain ⟨o, es, ep, t, ho, hex, hd, _, hnd, hmem, _, hf, hn, _, _⟩ := hS
  have I2 : Inv X pins σ H1 { s1 with heap := h', toks := tk } := I1.kept hk
  have elen : c = (metI [] ns).length := by
    obtain ⟨m1, m2⟩ := metI_in ns [] List.nodup_nil
    have z := nodup_len m1 hnd fun k => by
      rw [m2, ← hmem]
      simp
    have z2 : (es.toList.map keyOf).length = es.size := by rw [List.length_map, Array.length_toList]
    omega
  refine call_len_set ho hex hd hf (by rw [hn]; omega) ⟨.int (metI [] ns).length, H1, I2.tok _, ⟨_, by rw [hn, elen]⟩, q1⟩
theorem r_lenSet {a : Expr} {p p2 q pos : Pos} (C : Or) {fa : EF} (hg : Gl X "len") (hm : X.mg "len" = none) (hg2 : Gl X "set") (hm2 : X.mg "set" = none) (ha : PE X a (tE X W (fa C))) (hc : X.calm = true)
    (na : starEach [a] X.env = (false, eval a X.env) :: starEach [] X.env) : PE X (.Call (.Name "len" p) [.Call (.Name "set" p2) [a] [] q] [] pos) (tE X W (un1F opLenSet fa C)) :=
  PE.weak (pe_lenSetT hg hm hg2 hm2 ha hc na) fun σ H Q ⟨L, h, env, hr, sr, hp⟩ => ⟨L, h, env, hr, sr, pRg.then_ hp fun d h1 L1 H1 v le kp hr1 r1 hp1 => by
    cases r1 with
    | @tup ds a xs ha ra =>
      simp only [opLenSet] at hp1
      split at hp1
      · rename_i ns en
        split at hp1
        · rename_i hl
          have e3 := ints_of ra en
          subst e3
          exact ⟨a, ns, rfl, ha, hl, here hr1 hp1 (.int _)⟩
        · exact hp1.elim
      · exact hp1.elim
    | _ => exact hp1.elim⟩
end
end VM

set_option maxRecDepth 100000
set_option maxHeartbeats 1000000
namespace VM
open PySem PySem.Spec PyProof.Rows L2 HT
section
variable {X : Cx} {W : WX} [HasT]
theorem r_tupRg {p p2 pos pos2 : Pos} {a : Expr} (C : Or) {fa : EF} (hc : X.calm = true) (hg : Gl X "tuple") (hm : X.mg "tuple" = none) (hg2 : Gl X "range") (hm2 : X.mg "range" = none) (ha : PE X a (tE X W (fa C))) (na : starEach [a] X.env = (false, eval a X.env) :: starEach [] X.env) :
    PE X (.Call (.Name "tuple" p) [.Call (.Name "range" p2) [a] [] pos2] [] pos) (tE X W (un1F opTupRg fa C)) :=
  PE.weak (pe_tupRg hc hg hm (prg_1 hg2 hm2 ha na)) fun σ H Q ⟨L, h, env, hr, sr, hp⟩ => ⟨L, h, env, hr, sr, pRg.then_ hp fun d h1 L1 H1 v le kp hr1 r1 hp1 => by
    cases r1 <;> try exact hp1.elim
    rename_i j
    simp only [opTupRg] at hp1
    split at hp1
    · rename_i hz
      refine ⟨j, rfl, RgOk.of_le (by omega) (by omega) (by omega) (by omega), fun q np => hp1 L1 _ _ (LE.refl _) (Keep.new np) (hr1.new np) (.tup (.inl (.inl upd_same)) ?_)⟩
      unfold rng rgV
      rw [Int.sub_zero]
      exact Rels.ints (fun i => 0 + (i : Nat)) _
    · exact hp1.elim⟩
end
end VM

set_option maxRecDepth 100000
set_option maxHeartbeats 2000000
namespace VM
open PySem PySem.Spec PyProof.Rows L2
variable [HasT]
/-! more stands there -/
section
variable {K : PySem.W.Frag} {L L' : List Addr} {H H' : Hp} {h h' : Hv}
theorem keep_ext (e : ∀ b o, H b = some o → H' b = some o) : Keep K H H' := by
  refine ⟨fun a xs q => ?_, fun a o u q => e _ _ q, fun a φ q => e _ _ q⟩
  rcases q with (q | ⟨ob, q⟩) | q
  · exact .inl (.inl (e _ _ q))
  · exact .inl (.inr ⟨ob, e _ _ q⟩)
  · exact .inr q
theorem HR.allocE {p : Addr} {ds : List D} {xs : List V} (hr : HR K L H h) (ext : ∀ b o, H b = some o → H' b = some o) (n : H p = none) (hp : H' p = some (.lst xs)) (r : Rels K L H' ds xs) : HR K (L ++ [p]) H' (h ++ [.lst ds]) := by
  have kp : Keep K H H' := keep_ext ext
  have le := LE.app L [p]
  have old : ∀ {i : Nat} {o : Ob}, (h ++ [.lst ds])[i]? = some o → (i < h.length ∧ h[i]? = some o) ∨ (i = h.length ∧ o = .lst ds) := fun {i o} e => by
    by_cases hi : i < h.length
    · rw [List.getElem?_append_left hi] at e; exact .inl ⟨hi, e⟩
    · have e2 : i < h.length + 1 := by have := (List.getElem?_eq_some_iff.mp e).1; simpa using this
      have e3 : i = h.length := by omega
      subst e3
      simp at e
      exact .inr ⟨rfl, e.symm⟩
  have oldL : ∀ {i : Nat} {a : Addr}, i < h.length → (L ++ [p])[i]? = some a → L[i]? = some a := fun {i a} hi e => by
    rw [List.getElem?_append_left (by rw [hr.len]; exact hi)] at e; exact e
  have newL : ∀ {a : Addr}, (L ++ [p])[h.length]? = some a → a = p := fun {a} e => by
    rw [← hr.len] at e; simp at e; exact e.symm
  refine ⟨by simp [hr.len], fun i a es e1 e2 => ?_, fun i a es e1 e2 => ?_, fun i j a es fs e1 e2 e3 e4 => ?_, fun i a es e1 e2 => ?_, fun i j a es fs e1 e2 e3 e4 => ?_, hr.tb.ext ext, fun i a es e1 e2 => ?_, fun i j a es fs e1 e2 e3 e4 => ?_, hr.oj.keep (ob_app hr.len (fun _ _ z => by cases z)) (fun a C dx us q => ext _ _ q) (fun _ _ r => r.mono le kp)⟩
  · rcases old e1 with ⟨hi, f1⟩ | ⟨rfl, e9⟩
    · obtain ⟨ys, q, s⟩ := hr.lst i a es f1 (oldL hi e2)
      exact ⟨ys, ext _ _ q, s.mono le kp⟩
    · cases e9
      obtain rfl := newL e2
      exact ⟨xs, hp, r.mono le (Keep.refl _)⟩
  · rcases old e1 with ⟨hi, f1⟩ | ⟨rfl, e9⟩
    · obtain ⟨ys, q, s⟩ := hr.ro i a es f1 (oldL hi e2)
      exact ⟨ys, q.keep kp, s.mono le kp⟩
    · cases e9
  · rcases old e1 with ⟨hi, f1⟩ | ⟨y1, e9⟩
    · rcases old e2 with ⟨hj, f2⟩ | ⟨y2, e9⟩
      · exact hr.inj i j a es fs f1 f2 (oldL hi e3) (oldL hj e4)
      · rw [y2] at e4
        obtain rfl := newL e4
        obtain ⟨ys, q, s⟩ := hr.lst i _ es f1 (oldL hi e3)
        rw [n] at q; cases q
    · rcases old e2 with ⟨hj, f2⟩ | ⟨y2, e9⟩
      · rw [y1] at e3
        obtain rfl := newL e3
        obtain ⟨ys, q, s⟩ := hr.lst j _ fs f2 (oldL hj e4)
        rw [n] at q; cases q
      · rw [y1, y2]
  · rcases old e1 with ⟨hi, f1⟩ | ⟨rfl, e9⟩
    · obtain ⟨ys, q, s⟩ := hr.dct i a es f1 (oldL hi e2)
      exact ⟨ys, ext _ _ q, s.mono le kp⟩
    · cases e9
  · rcases old e1 with ⟨hi, f1⟩ | ⟨rfl, e9⟩
    · rcases old e2 with ⟨hj, f2⟩ | ⟨rfl, e9⟩
      · exact hr.injD i j a es fs f1 f2 (oldL hi e3) (oldL hj e4)
      · cases e9
    · cases e9
  · rcases old e1 with ⟨hi, f1⟩ | ⟨rfl, e9⟩
    · obtain ⟨od, ys, q, s⟩ := hr.rod i a es f1 (oldL hi e2)
      exact ⟨od, ys, ext _ _ q, s.mono le kp⟩
    · cases e9
  · rcases old e1 with ⟨hi, f1⟩ | ⟨rfl, e9⟩
    · rcases old e2 with ⟨hj, f2⟩ | ⟨rfl, e9⟩
      · exact hr.injR i j a es fs f1 f2 (oldL hi e3) (oldL hj e4)
      · cases e9
    · cases e9
theorem rel_key (k : DKey) : Rel K L H (kD k) (kV k) := by
  cases k with
  | inl i => exact .int i
  | inr z => exact .str z
/-- the pairs of a dict, each a tuple -/
theorem items_rel : ∀ {kvs : List (DKey × D)} {us : List (Key × V)} {ts : List Addr}, KRs K L H kvs us → Paired (fun (t : Addr) (q : Key × V) => SqT K H t [kV q.1, q.2]) ts us → Rels K L H (itemsD kvs) (ts.map V.ref)
  | [], [], _, _, p => by cases p; exact .nil
  | [], q :: us, _, r, _ => by have := r.len; simp at this
  | p :: kvs, [], _, r, _ => by have := r.len; simp at this
  | (a, d) :: kvs, (b, v) :: us, _, r, p => by
    obtain ⟨e, r⟩ := r
    simp only [List.map_cons, List.cons.injEq] at e r
    obtain ⟨rfl, e⟩ := e
    cases r with
    | cons r t =>
      cases p with
      | cons p1 p2 => exact .cons (.tup p1 (.cons (rel_key a) (.cons r .nil))) (items_rel ⟨e, t⟩ p2)
end
section
variable {X : Cx} {W : WX} {pos : Pos}
/-! list(d.items()) -/
theorem r_items {e : Expr} {p apos cpos pos : Pos} (C : Or) {fa : EF} (hc : X.calm = true) (he : PE X e (tE X W (fa C))) (hg : Gl X "list") (hm : X.mg "list" = none) (hbase : attributeBase e "items" X.env (eval e X.env) = eval e X.env) (hline : (apos.endLine == cpos.line) = true) :
    PE X (.Call (.Name "list" p) [.Call (.Attribute e "items" apos) [] [] cpos] [] pos) (tE X W (un1F opItems fa C)) :=
  PE.weak (LiI.pe_listItems hc he hg hm boot_list hbase hline rfl) fun σ H Q ⟨L, h, env, hr, sr, hp⟩ => ⟨L, h, env, hr, sr, pRg.then_ hp fun d h1 L1 H1 v le kp hr1 r1 hp1 => by
    unfold opItems at hp1
    split at hp1
    · rename_i kvs e
      split at hp1
      · obtain ⟨i, a, us, rfl, rfl, ea, e0, q, s⟩ := dct_of hr1 r1 e
        refine ⟨a, us, rfl, q, fun H' p ts ext np nts pn hp' prs => ?_⟩
        have kp := keep_ext (K := X.K) ext
        refine hp1 (L1 ++ [p]) H' (.ref p) (LE.app _ _) kp (hr1.allocE ext np hp' (items_rel (s.mono (LE.refl _) kp) ?_)) (.ref (by rw [← hr1.len]; simp))
        exact Paired.mapP prs fun t q z => .inl (.inl z)
      · exact hp1.elim
    · exact hp1.elim⟩
/-! dict(x) -/
theorem pairs_at {K : PySem.W.Frag} {L : List Addr} {H : Hp} : ∀ {ds : List D} {xs : List V} {kvs : List (DKey × D)}, Rels K L H ds xs → pairsD ds = some kvs → ∃ (ps : List Addr) (us : List (Key × V)), xs = ps.map V.ref ∧ Paired (fun p (kv : Key × V) => SqT K H p [kV kv.1, kv.2]) ps us ∧ KRs K L H kvs us
  | [], _, _, .nil, e => by cases e; exact ⟨[], [], rfl, .nil, KRs.nil⟩
  | d :: ds, _, kvs, .cons r t, e => by
    cases d with
    | tup es =>
      match es, e with
      | [k, v], e =>
        obtain ⟨key, ek, e⟩ := Option.bind_eq_some_iff.mp e
        obtain ⟨kr, e2, rfl⟩ := Option.map_eq_some_iff.mp e
        obtain ⟨ps, us, rfl, p2, p3⟩ := pairs_at t e2
        cases r with
        | @tup _ a ys ha ra =>
          cases ra with
          | cons r1 ra =>
            cases ra with
            | cons r2 ra =>
              cases ra
              rename_i u
              rw [key_rel r1 ek] at ha
              exact ⟨a :: ps, (key, u) :: us, rfl, .cons ha p2, KRs.cons r2 p3⟩
    | _ => cases e
def rDictA (K : PySem.W.Frag) : List V → Hp → VK → Prop := fun xs H Q => (∃ (a : Addr) (ps : List Addr) (kvs : List (Key × V)), xs = [.ref a] ∧ SqL K H a (ps.map V.ref) ∧ Paired (fun p (kv : Key × V) => SqT K H p [kV kv.1, kv.2]) ps kvs ∧
    ∀ p, H p = none → Q (.ref p) (upd H p (.dK (mergeK [] kvs)))) ∨ ∃ (a : Addr) (kvs : List (Key × V)), xs = [.ref a] ∧ Rd H a (.dK kvs) ∧ ∀ p, H p = none → Q (.ref p) (upd H p (.dK kvs))
theorem cr_dictA (hc : X.calm = true) : CallR X (.type "dict") (rDictA X.K) := by
  intro pins s σ H vs us Q I r h
  rcases h with h | h
  · exact call_dictP hc pins s σ H vs us Q I r h
  · exact call_dictD pins s σ H vs us Q I r h
theorem o_dict : OkC X W bDict (rDictA X.K) := by
  intro L H h σ ds vs Q hr rs hp
  have fin : ∀ (kvs : List (DKey × D)) (us : List (Key × V)), KRs X.K L H kvs us → pR X.K X.mg L H W σ Q (.ok (.ref h.length) (h ++ [.dct kvs])) → ∀ p, H p = none → Q (.ref p) (upd H p (.dK us)) := fun kvs us r hp p np =>
    hp (L ++ [p]) _ (.ref p) (LE.app _ _) (Keep.new np) (hr.allocD np r) (.ref (by rw [← hr.len]; simp))
  unfold bDict at hp
  split at hp
  · obtain ⟨v, rfl, r⟩ := one_of rs
    split at hp
    · rename_i z e
      obtain ⟨a, xs, rfl, sq, s⟩ := lst_of hr r e
      split at hp
      · rename_i kvs ek
        obtain ⟨ps, us, rfl, p2, p3⟩ := pairs_at s ek
        exact .inl ⟨a, ps, us, rfl, sq, p2, fin _ _ (KRs.merge p3 KRs.nil) hp⟩
      · exact hp.elim
    · split at hp
      · rename_i kvs e
        obtain ⟨i, a, us, rfl, rfl, ea, e0, q, s⟩ := dct_of hr r e
        exact .inr ⟨a, us, rfl, .of q, fin _ _ s hp⟩
      · exact hp.elim
  · exact hp.elim
/-! the items of a locked dict, one by one -/
theorem walk_itemsW {K : PySem.W.Frag} {L : List Addr} {H : Hp} {a : Addr} {o : Obj} {kvs : List (DKey × D)} {us : List (Key × V)} (q : H a = some (.frz o (.dK us))) (s : KRs K L H kvs us) : WalkOk K L H (Iti a o us) (itemsD kvs) [] := by
  intro L1 H1 h i le kp hr _
  have q1 := kp.frz _ _ _ q
  have s1 := s.mono le kp
  have ln : (itemsD kvs).length = us.length := by rw [itemsD, List.length_map, s.len]
  refine ⟨fun d e => ?_, fun e => ⟨q1, by rw [e, ln]; exact Nat.le_refl _⟩⟩
  unfold itemsD at e
  rw [List.getElem?_map, Option.map_eq_some_iff] at e
  obtain ⟨⟨k, d0⟩, e1, rfl⟩ := e
  have hi : i < us.length := by rw [← s.len]; exact (List.getElem?_eq_some_iff.mp e1).1
  refine ⟨⟨q1, hi⟩, fun x H' y => ?_⟩
  obtain ⟨T, k', v, h1, rfl, hT, rfl⟩ := y
  have ek : k = k' := by
    have z1 : (kvs.map (·.1))[i]? = some k := by rw [List.getElem?_map, e1]; rfl
    have z2 : (us.map (·.1))[i]? = some k' := by rw [List.getElem?_map, h1]; rfl
    rw [s1.1, z2] at z1
    exact (Option.some.inj z1).symm
  subst ek
  have rv : Rel K L1 H1 d0 v := by
    have z1 : (kvs.map (·.2))[i]? = some d0 := by rw [List.getElem?_map, e1]; rfl
    obtain ⟨u, z2, r⟩ := s1.2.get z1
    have z3 : (us.map (·.2))[i]? = some v := by rw [List.getElem?_map, h1]; rfl
    rw [z3] at z2
    cases z2
    exact r
  exact pairRel hr hT (rel_key k) rv
theorem i_items {x : Str} {i : Nat} {elts : List Expr} {kk : Nat} {xpos apos cpos tpos : Pos} (C : Or) (hN : X.N[i]? = some x) (hv : Vis X.env.scope x) (hd : (x == ("__debug__" : Str)) = false) (hcd : (x == ("__classdict__" : Str)) = false) (hline : (apos.endLine == cpos.line) = true) :
    PI X (.Tuple elts kk tpos) (.Call (.Attribute (.Name x xpos) "items" apos) [] [] cpos) (tI X W (itRodF i C)) :=
  PI.weak (pi_items (r_var (W := W) C hN hv hd hcd) rfl hline) fun σ H Q ⟨L, h, env, hr, sr, hp⟩ => ⟨L, h, env, hr, sr, by
    unfold itRodF at hp
    split at hp
    · rename_i p e0
      split at hp
      · rename_i kvs e1
        have ev : varF i C env h = .ok (.ref p) h := by simp only [varF, e0]
        rw [ev]
        intro L' H' b le kp hr' rel
        cases rel with
        | @ref _ a ea =>
          obtain ⟨od, us, q, s⟩ := hr'.rod p a kvs e1 ea
          exact ⟨a, od, us, rfl, q, hp L' H' (Iti a od us) le kp hr' (walk_itemsW q s)⟩
      · exact hp.elim
    · exact hp.elim⟩
theorem dctIn_at {i : Nat} {env : Env} {h : Hv} {p : Nat} {kvs : List (DKey × D)} (e : dctIn i env h = some (p, kvs)) : env[i]? = some (some (.ref p)) ∧ h[p]? = some (.dct kvs) := by
  unfold dctIn at e
  split at e
  · rename_i q e0
    split at e
    · rename_i ks e1
      cases e
      exact ⟨e0, e1⟩
    · cases e
  · cases e
theorem SRel.monoT {K : PySem.W.Frag} {L L' : List Addr} {H H' : Hp} {env : Env} {σ : L2.St} (s : SRel K L H env σ) (le : LE L L') (kp : KT K H H') : SRel K L' H' env σ :=
  ⟨s.len, fun i d e => let ⟨v, e1, r⟩ := s.at_ i d e; ⟨v, e1, r.monoT le kp⟩⟩
theorem s_forD {st : Stmt} {i : Nat} {t : TF} {f : SF} (C : Or) (S : PS X st (tS X W (forS (itRodF i) t f C))) : PS X st (tS X W (forDS i t f C)) := by
  refine PS.weak (ps_lock S) fun D_ σ H ⟨L, h, env, hr, sr, hp⟩ => ?_
  unfold forDS at hp
  split at hp
  · rename_i p kvs e
    obtain ⟨e0, e1⟩ := dctIn_at e
    obtain ⟨v, _, r⟩ := sr.at_ i _ e0
    cases r with
    | @ref _ a ea =>
      obtain ⟨us, q, s⟩ := hr.dct p a kvs e1 ea
      refine ⟨a, .dK us, q, trivial, fun od => ⟨L, h.set p (.rod kvs), env, hr.lock e1 ea q s, sr.mono (LE.refl _) (Keep.lockD q), ?_⟩⟩
      cases z : forS (itRodF i) t f C env (h.set p (.rod kvs)) with
      | nx env' h' =>
        rw [z] at hp
        have hp' : pS X.K X.mg L H W D_ (if h'[p]? = some (.rod kvs) then .nx env' (h'.set p (.dct kvs)) else .stuck) := hp
        split at hp'
        · rename_i e2
          intro L' H' σ' le kp hr' sr'
          have q1 : H' a = some (.frz od (.dK us)) := kp.frz _ _ _ upd_same
          exact ⟨q1, hp' L' _ σ' le (Keep.locked q kp q1) (hr'.unlock e2 (le _ _ ea) q1) (sr'.monoT (LE.refl _) (unlock_tup q1))⟩
        · exact hp'.elim
      | _ => rw [z] at hp; exact hp.elim
  · exact hp.elim
theorem r_lcD {e : Expr} {i : Nat} {t : TF} {own : List Nat} {ft fe : EF} (C : Or) (S : PE X e (tE X W (lcF (itRodF i) t own ft fe C))) : PE X e (tE X W (lcDF i t own ft fe C)) := by
  refine PE.weak (pe_lock S) fun σ H Q ⟨L, h, env, hr, sr, hp⟩ => ?_
  unfold lcDF at hp
  split at hp
  · rename_i p kvs e
    obtain ⟨e0, e1⟩ := dctIn_at e
    obtain ⟨v, _, r⟩ := sr.at_ i _ e0
    cases r with
    | @ref _ a ea =>
      obtain ⟨us, q, s⟩ := hr.dct p a kvs e1 ea
      refine ⟨a, .dK us, q, trivial, fun od => ⟨L, h.set p (.rod kvs), env, hr.lock e1 ea q s, sr.mono (LE.refl _) (Keep.lockD q), ?_⟩⟩
      cases z : lcF (itRodF i) t own ft fe C env (h.set p (.rod kvs)) with
      | ok d h' =>
        rw [z] at hp
        have hp' : pR X.K X.mg L H W σ Q (if h'[p]? = some (.rod kvs) then .ok d (h'.set p (.dct kvs)) else .stuck) := hp
        split at hp'
        · rename_i e2
          intro L' H' v le kp hr' rel
          have q1 : H' a = some (.frz od (.dK us)) := kp.frz _ _ _ upd_same
          exact ⟨q1, hp' L' _ v le (Keep.locked q kp q1) (hr'.unlock e2 (le _ _ ea) q1) (rel.monoT (LE.refl _) (unlock_tup q1))⟩
        · exact hp'.elim
      | _ => rw [z] at hp; exact hp.elim
  · exact hp.elim
end
end VM

set_option maxRecDepth 100000
set_option maxHeartbeats 3200000
namespace VM
open PySem PySem.Spec PyProof.Rows L2 HT
/-! sorted(t), a tuple of whole numbers -/
section
variable {X : Cx}
def rSortT (K : PySem.W.Frag) : List V → Hp → VK → Prop := fun vs H Q => ∃ (a : Addr) (ns : List Int), vs = [V.ref a] ∧ SqT K H a (ns.map V.int) ∧ ns.length < 64 ∧
  ∀ (ns' : List Int) (p : Addr), ns'.Perm ns → ns'.Pairwise (· ≤ ·) → H p = none → Q (.ref p) (upd H p (.lst (ns'.map V.int)))
theorem cr_sortT : CallR X (.builtin "sorted") (rSortT X.K) := by
  intro pins s σ H vs us Q I r h
  obtain ⟨a, ns, rfl, hs, h64, q⟩ := h
  obtain ⟨its, rv, tp, hz⟩ := I.tuple hs
  rw [Vals.ref1 r]
  have hi := rv.ints
  have hl : its.length < 64 := by rw [hi.length]; exact h64
  obtain ⟨o, ho, hc, n, hd⟩ := tp
  refine Calls.call_function_entry kind_sorted plain_sorted entry_sorted (args_sorted1 _) ?_
  unfold Builtin.«sorted»
  refine wpAny_bind (m := checkCount "sorted" 1 1 _) (wpAny_pure ?_)
  refine wpAny_bind (wpAny_collect_seq a (.inr rfl) ho hc hd (fun g hk => ?_) (by rw [List.size_toArray, sizeLine_eq]; omega))
  rw [List.toList_toArray]
  refine wpAny_bind (wpAny_newList ?_ (by rw [sizeLine_eq]; omega))
  have hob : (g.push (seqObj "list" its.toArray 0)).get? g.objs.size = some (seqObj "list" its.toArray 0) := Heap.get?_push_size _ rfl
  have I2 : Inv X pins σ H { s with heap := g } := I.kept (t' := s.toks) hk
  refine wpAny_bind (wpAny_holding (wpAny_call_entry slot_list_sort ⟨_, hob, rfl⟩ entry_list_sort (list_sort_tree hob hi hl fun out ns' a1 a2 a3 => ⟨_, rfl, ?_⟩) (args_list_sort _)))
  obtain ⟨ep, he⟩ := sortedHeap_at (vs := its) (out := out) hob
  have hlen : (ns'.map V.int).length ≤ sizeLine := by rw [List.length_map, a2.length_eq, sizeLine_eq]; omega
  refine wpAny_pure ⟨_, rfl, .ref g.objs.size, upd H g.objs.size (.lst (ns'.map V.int)), I2.laid (t' := s.toks) (fun b u e => ?_) (Nat.le_refl _) ⟨hlen, out.toList, ep, vals_of_ints a1, he⟩, rfl, q ns' _ a2 a3 (I2.hok.fresh (Nat.le_refl _))⟩
  have hlt := Heap.lt_size e
  exact (sortedHeap_old (Nat.ne_of_lt hlt) (by rw [size_push']; exact Nat.lt_succ_of_lt hlt)).trans (Heap.get?_push_of_some _ e)
end
/-! the least, the greatest of a tuple or a list of whole numbers -/
theorem best_snoc {α : Type} (lt : α → α → Bool) (y : α) : ∀ (ys : List α) (x : α), bestD lt x (ys ++ [y]) = if lt y (bestD lt x ys) = true then y else bestD lt x ys
  | [], x => rfl
  | z :: ys, x => best_snoc lt y ys _
theorem arg_best {α : Type} (lt : α → α → Bool) (bt : Nat → Nat → Bool) (x : α) (xs : List α) (hb : ∀ i j a b, (x :: xs)[i]? = some a → (x :: xs)[j]? = some b → bt i j = lt a b) :
    ∀ k, k ≤ xs.length → (x :: xs)[argBest bt k]? = some (bestD lt x (xs.take k))
  | 0, _ => by simp [argBest, bestD]
  | k + 1, hk => by
    have ih := arg_best lt bt x xs hb k (by omega)
    have e1 : (x :: xs)[k + 1]? = some xs[k] := by rw [List.getElem?_cons_succ, List.getElem?_eq_getElem (by omega)]
    have e2 : xs.take (k + 1) = xs.take k ++ [xs[k]] := List.take_succ_eq_append_getElem (by omega)
    rw [e2, best_snoc, argBest, hb _ _ _ _ e1 ih]
    by_cases q : lt xs[k] (bestD lt x (xs.take k)) = true
    · rw [if_pos q, if_pos q, e1]
    · rw [if_neg q, if_neg q, ih]
section
variable {X : Cx}
theorem int_vals {n : Int} {ns : List Int} {its : List Value} (r : Vals ((n :: ns).map V.int) its) {i : Nat} {v : Value} (e : its.toArray[i]? = some v) : ∃ k t, (n :: ns)[i]? = some k ∧ v = .int k t := by
  rw [List.getElem?_toArray] at e
  have hl := r.length
  have hi : i < (n :: ns).length := by
    have := (List.getElem?_eq_some_iff.mp e).1
    rw [List.length_map] at hl
    omega
  obtain ⟨u, hu, rr⟩ := r.get (i := i) (x := .int (n :: ns)[i]) (by rw [List.getElem?_map, List.getElem?_eq_getElem hi]; rfl)
  rw [e] at hu
  cases hu
  obtain ⟨t, rfl⟩ := rr
  exact ⟨_, t, List.getElem?_eq_getElem hi, rfl⟩
/-- min(x), max(x): of a list, of a tuple -/
def rBest (K : PySem.W.Frag) (lt : Int → Int → Bool) : List V → Hp → VK → Prop := fun vs H Q => ∃ (a : Addr) (n : Int) (ns : List Int), vs = [V.ref a] ∧ (SqT K H a ((n :: ns).map V.int) ∨ SqL K H a ((n :: ns).map V.int)) ∧ Q (.int (bestD lt n ns)) H
theorem best_of {pins : List (Addr × Obj)} {σ : L2.St} {H : Hp} {s s2 : Shared} {Q : VK} {n : Int} {ns : List Int} {its : List Value} (lt : Int → Int → Bool) (bt : Nat → Nat → Bool) (hbt : ∀ i j a b, (n :: ns)[i]? = some a → (n :: ns)[j]? = some b → bt i j = lt a b) (I : Inv X pins σ H s) (r : Vals ((n :: ns).map V.int) its) (q : Q (.int (bestD lt n ns)) H)
    {v : Value} {h' : Heap} {tk : Nat} (e : its.toArray[argBest bt (its.toArray.size - 1)]? = some v) (hk : ∀ b o, s.heap.get? b = some o → h'.get? b = some o) : EP X pins σ Q v { s with heap := h', toks := tk } := by
  have hl := r.length
  rw [List.length_map, List.length_cons] at hl
  have es : its.toArray.size - 1 = ns.length := by rw [List.size_toArray]; omega
  rw [es] at e
  have b := arg_best lt bt n ns hbt ns.length (Nat.le_refl _)
  rw [List.take_length] at b
  obtain ⟨k, t, e1, rfl⟩ := int_vals r e
  rw [e1] at b
  obtain rfl := Option.some.inj b
  exact ⟨.int _, H, I.kept hk, ⟨t, rfl⟩, q⟩
def ixI (ns : List Int) (i : Nat) : Int := (ns[i]?).getD 0
theorem cr_min1 (hc : X.calm = true) : CallR X (.builtin "min") (rBest X.K fun a b => decide (a < b)) := by
  intro pins s σ H vs us Q I r h
  obtain ⟨a, n, ns, rfl, hs, q⟩ := h
  rw [Vals.ref1 r]
  have hbt : ∀ i j x y, (n :: ns)[i]? = some x → (n :: ns)[j]? = some y → decide (ixI (n :: ns) i < ixI (n :: ns) j) = decide (x < y) := fun i j x y e1 e2 => by simp only [ixI, e1, e2, Option.getD_some]
  rcases hs with hs | hs
  · obtain ⟨its, rv, tp, hz⟩ := I.tuple hs
    have hl := rv.length
    rw [List.length_map, List.length_cons] at hl
    have al : a < s.heap.objs.size := let ⟨_, q, _⟩ := tp; Heap.lt_size q
    refine call_min_walk (wpAny_pyIter_tuple tp ?_)
    refine ⟨_, [s.heap.objs.size, a], [s.heap.objs.size], _, _, _, _, rfl, Walks.tuple (A := X.A.in1) (show X.A.handled = none from I.ok.hd hc) s.heap.objs.size a (Nat.ne_of_lt al) its.toArray, ⟨⟨_, Heap.get?_push_size _ rfl, rfl, rfl⟩, tp.push _⟩, fun c hm => ?_, by rw [List.size_toArray]; omega,
      CmpOf.ints_lt (ixI (n :: ns)) (fun i v e => by obtain ⟨k, t, e1, rfl⟩ := int_vals rv e; exact ⟨t, by rw [ixI, e1]; rfl⟩), fun v h' tk hP hk => ?_⟩
    · show c < (s.heap.push _).objs.size
      rw [Heap.size_push]
      have z : c = s.heap.objs.size ∨ c = a := by simpa using hm
      rcases z with z | z
      · rw [z]; exact Nat.lt_succ_self _
      · rw [z]; exact Nat.lt_succ_of_lt al
    · refine best_of (s2 := s) _ _ hbt I rv q hP fun b o e => hk b o (fun hm => ?_) (Heap.get?_push_of_some _ e)
      have z : b = s.heap.objs.size := by simpa using hm
      have lt := Heap.lt_size e
      rw [z] at lt
      exact Nat.lt_irrefl _ lt
  · obtain ⟨its, rv, hlp, hz⟩ := I.list hs
    have hl := rv.length
    rw [List.length_map, List.length_cons] at hl
    have tp := hlp.isList
    have al : a < s.heap.objs.size := let ⟨_, q, _⟩ := tp; Heap.lt_size q
    refine call_min_walk (wpAny_pyIter_list tp ?_)
    refine ⟨_, [s.heap.objs.size, a], [s.heap.objs.size], _, _, _, _, rfl, Walks.list (A := X.A.in1) (show X.A.handled = none from I.ok.hd hc) s.heap.objs.size a (Nat.ne_of_lt al) its.toArray, ⟨⟨_, Heap.get?_push_size _ rfl, rfl, rfl⟩, tp.push _⟩, fun c hm => ?_, by rw [List.size_toArray]; omega,
      CmpOf.ints_lt (ixI (n :: ns)) (fun i v e => by obtain ⟨k, t, e1, rfl⟩ := int_vals rv e; exact ⟨t, by rw [ixI, e1]; rfl⟩), fun v h' tk hP hk => ?_⟩
    · show c < (s.heap.push _).objs.size
      rw [Heap.size_push]
      have z : c = s.heap.objs.size ∨ c = a := by simpa using hm
      rcases z with z | z
      · rw [z]; exact Nat.lt_succ_self _
      · rw [z]; exact Nat.lt_succ_of_lt al
    · refine best_of (s2 := s) _ _ hbt I rv q hP fun b o e => hk b o (fun hm => ?_) (Heap.get?_push_of_some _ e)
      have z : b = s.heap.objs.size := by simpa using hm
      have lt := Heap.lt_size e
      rw [z] at lt
      exact Nat.lt_irrefl _ lt
theorem cr_max1 (hc : X.calm = true) : CallR X (.builtin "max") (rBest X.K fun a b => decide (a > b)) := by
  intro pins s σ H vs us Q I r h
  obtain ⟨a, n, ns, rfl, hs, q⟩ := h
  rw [Vals.ref1 r]
  have hbt : ∀ i j x y, (n :: ns)[i]? = some x → (n :: ns)[j]? = some y → decide (ixI (n :: ns) i > ixI (n :: ns) j) = decide (x > y) := fun i j x y e1 e2 => by simp only [ixI, e1, e2, Option.getD_some]
  rcases hs with hs | hs
  · obtain ⟨its, rv, tp, hz⟩ := I.tuple hs
    have hl := rv.length
    rw [List.length_map, List.length_cons] at hl
    have al : a < s.heap.objs.size := let ⟨_, q, _⟩ := tp; Heap.lt_size q
    refine call_max_walk (wpAny_pyIter_tuple tp ?_)
    refine ⟨_, [s.heap.objs.size, a], [s.heap.objs.size], _, _, _, _, rfl, Walks.tuple (A := X.A.in1) (show X.A.handled = none from I.ok.hd hc) s.heap.objs.size a (Nat.ne_of_lt al) its.toArray, ⟨⟨_, Heap.get?_push_size _ rfl, rfl, rfl⟩, tp.push _⟩, fun c hm => ?_, by rw [List.size_toArray]; omega,
      CmpOf.ints_gt (ixI (n :: ns)) (fun i v e => by obtain ⟨k, t, e1, rfl⟩ := int_vals rv e; exact ⟨t, by rw [ixI, e1]; rfl⟩), fun v h' tk hP hk => ?_⟩
    · show c < (s.heap.push _).objs.size
      rw [Heap.size_push]
      have z : c = s.heap.objs.size ∨ c = a := by simpa using hm
      rcases z with z | z
      · rw [z]; exact Nat.lt_succ_self _
      · rw [z]; exact Nat.lt_succ_of_lt al
    · refine best_of (s2 := s) _ _ hbt I rv q hP fun b o e => hk b o (fun hm => ?_) (Heap.get?_push_of_some _ e)
      have z : b = s.heap.objs.size := by simpa using hm
      have lt := Heap.lt_size e
      rw [z] at lt
      exact Nat.lt_irrefl _ lt
  · obtain ⟨its, rv, hlp, hz⟩ := I.list hs
    have hl := rv.length
    rw [List.length_map, List.length_cons] at hl
    have tp := hlp.isList
    have al : a < s.heap.objs.size := let ⟨_, q, _⟩ := tp; Heap.lt_size q
    refine call_max_walk (wpAny_pyIter_list tp ?_)
    refine ⟨_, [s.heap.objs.size, a], [s.heap.objs.size], _, _, _, _, rfl, Walks.list (A := X.A.in1) (show X.A.handled = none from I.ok.hd hc) s.heap.objs.size a (Nat.ne_of_lt al) its.toArray, ⟨⟨_, Heap.get?_push_size _ rfl, rfl, rfl⟩, tp.push _⟩, fun c hm => ?_, by rw [List.size_toArray]; omega,
      CmpOf.ints_gt (ixI (n :: ns)) (fun i v e => by obtain ⟨k, t, e1, rfl⟩ := int_vals rv e; exact ⟨t, by rw [ixI, e1]; rfl⟩), fun v h' tk hP hk => ?_⟩
    · show c < (s.heap.push _).objs.size
      rw [Heap.size_push]
      have z : c = s.heap.objs.size ∨ c = a := by simpa using hm
      rcases z with z | z
      · rw [z]; exact Nat.lt_succ_self _
      · rw [z]; exact Nat.lt_succ_of_lt al
    · refine best_of (s2 := s) _ _ hbt I rv q hP fun b o e => hk b o (fun hm => ?_) (Heap.get?_push_of_some _ e)
      have z : b = s.heap.objs.size := by simpa using hm
      have lt := Heap.lt_size e
      rw [z] at lt
      exact Nat.lt_irrefl _ lt
end
section
variable {X : Cx} {W : WX} [HasT]
theorem best_at {L : List Addr} {H : Hp} {h : Hv} {d : D} {v : V} {z : List D × Guards} {n : Int} {ns : List Int} (hr : HR X.K L H h) (r : Rel X.K L H d v) (ez : seqOf d h = some z) (en : intsD z.1 = some (n :: ns)) :
    ∃ a, v = .ref a ∧ (SqT X.K H a ((n :: ns).map V.int) ∨ SqL X.K H a ((n :: ns).map V.int)) := by
  cases r with
  | @tup ds a xs ha ra =>
    cases ez
    have e3 := ints_of ra en
    subst e3
    exact ⟨a, rfl, .inl ha⟩
  | @ref p a ea =>
    simp only [seqOf] at ez
    split at ez
    · rename_i ds e0
      cases ez
      obtain ⟨xs, q, s⟩ := hr.lst p a ds e0 ea
      have e3 := ints_of s en
      subst e3
      exact ⟨a, rfl, .inr (SqL.of q)⟩
    · rename_i ds e0
      cases ez
      obtain ⟨xs, q, s⟩ := hr.ro p a ds e0 ea
      have e3 := ints_of s en
      subst e3
      exact ⟨a, rfl, .inr q.seq⟩
    · cases ez
  | _ => cases ez
theorem o_min1 (L : List Addr) (H : Hp) (h : Hv) (σ : L2.St) (d : D) (v : V) (Q : VK) (hr : HR X.K L H h) (r : Rel X.K L H d v) (hp : pR X.K X.mg L H W σ Q (opMin1 d h)) : rBest X.K (fun a b => decide (a < b)) [v] H Q := by
  unfold opMin1 at hp
  split at hp
  · rename_i z ez
    split at hp
    · rename_i n ns en
      obtain ⟨a, rfl, q⟩ := best_at hr r ez en
      exact ⟨a, n, ns, rfl, q, here hr hp (.int _)⟩
    · exact hp.elim
  · exact hp.elim
theorem o_max1 (L : List Addr) (H : Hp) (h : Hv) (σ : L2.St) (d : D) (v : V) (Q : VK) (hr : HR X.K L H h) (r : Rel X.K L H d v) (hp : pR X.K X.mg L H W σ Q (opMax1 d h)) : rBest X.K (fun a b => decide (a > b)) [v] H Q := by
  unfold opMax1 at hp
  split at hp
  · rename_i z ez
    split at hp
    · rename_i n ns en
      obtain ⟨a, rfl, q⟩ := best_at hr r ez en
      exact ⟨a, n, ns, rfl, q, here hr hp (.int _)⟩
    · exact hp.elim
  · exact hp.elim
end
end VM

set_option maxRecDepth 100000
set_option maxHeartbeats 6400000
namespace VM
open PySem PySem.Spec PyProof.Rows L2 HT
/-! set(l), a list of whole numbers -/
/-- a set as it is laid -/
def set0 (w : World) : Obj := { cls := .type "set", dict := none, data := .set #[] 0 (.fresh 0 0 (!w.params.followText "set-order")) }
section
variable {P : Program} {w : World} {A : Around} {E : Value → Shared → Prop} {s : Shared}
theorem call_set_lst {q : Addr} {us : Array Value} (ns : List Int) {Q : Value → Shared → Prop} (nh : A.handled = none) (hq : s.heap.IsList q us) (iv : IntsAre us.toList ns) (few : ns.length + 1 < scanBound)
    (h : ∀ (g : Heap) (tk c : Nat), SetR w g s.heap.objs.size (fun j => decide (j ∈ ns)) c → c ≤ ns.length → (∀ b o, s.heap.get? b = some o → g.get? b = some o) → Q (.ref s.heap.objs.size) { s with heap := g, toks := tk }) :
    wpAny (model P w) A (call (.type "set") [.ref q]) Q E s := by
  have nu : us.size = ns.length := by
    have z := IntsAre.length iv
    rwa [Array.length_toList] at z
  obtain ⟨mc, mt, mm⟩ := F.called_set.mro
  have mk := F.called_set.made
  have sb := F.called_set.sub
  refine wpAny_call (codeAny_of_tree ?_)
  show wpAny _ _ (callAny (.type "set") _) _ _ _
  refine wpAny_pure ⟨Code.quiet_builtin _ (by decide +kernel), codeAny_builtin F.entry_type_call ?_⟩
  rw [Around.under_plain (weight_type_call_type "set" [.ref q] []) rfl]
  have c1 := F.called_set.notType
  have c2 := F.called_set.canCreate
  have c3 := F.typeCall_set_1 (.ref q)
  repeat (any_goals (first | assumption | wp_step))

  refine codeAny_mono (code_set_led1 (.ref q) (E := E) (Q₁ := fun ob s1 => ob = .ref s.heap.objs.size ∧ s1 = { s with heap := s.heap.push (set0 w) }) ⟨rfl, rfl⟩) fun rr s1 hr => ?_
  cases rr with
  | error e => exact hr
  | ok fl =>
    cases fl with
    | ret ob =>
      obtain ⟨rfl, rfl⟩ := hr
      have at0 : (s.heap.push (set0 w)).get? s.heap.objs.size = some (set0 w) := Heap.get?_push_size _ rfl
      have ty : Shared.TypeIs { s with heap := s.heap.push (set0 w) } (.ref s.heap.objs.size) "set" := ⟨_, at0, rfl⟩
      have il := F.called_set.init.lookup
      have ib := F.called_set.init.bind (.ref s.heap.objs.size)
      repeat (any_goals (first | assumption | wp_step))

      refine codeAny_mono (codeAny_call_builtin (R := wants (fun r s2 => r = .none ∧ ∃ g tk c, s2 = { s with heap := g, toks := tk } ∧ SetR w g s.heap.objs.size (fun j => decide (j ∈ ns)) c ∧ c ≤ ns.length ∧
          (∀ b o, s.heap.get? b = some o → g.get? b = some o)) E) F.called_set.init.plain F.entry_set_init (check_set_init_1 ty ?_)) fun r2 s2 hr2 => ?_
      · obtain ⟨ol, e0, cl, nl, dl⟩ := hq
        obtain ⟨occ, odd, oda, osl⟩ := ol
        simp only at cl dl
        subst cl; subst dl
        have e1 : (s.heap.push (set0 w)).get? q = some { cls := .type "list", dict := odd, data := .seq us nl, slots := osl } := Heap.get?_push_of_some _ e0
        have f1 := F.sub_list_set
        have f2 := F.sub_list_frozenset
        have f3 : (Value.type "list" == Value.type "dict") = false := by decide
        have lq : (s.heap.push (set0 w)).IsList q us := ⟨_, e1, rfl, nl, rfl⟩
        unfold Builtin.«set.__init__» noKeywords Builtin.Frozenset.updateFrom
        generalize hPI : pyIter = PI
        wp_walk
        subst hPI

        refine wpAny_pyIter_list lq ?_
        refine wpAny_bind (wpAny_runValue ?_)
        have ql : q < s.heap.objs.size := Heap.lt_size e0
        have nh3 : A.in1.in1.in1.handled = none := by simp [nh]
        have sz1 : (s.heap.push (set0 w)).objs.size = s.heap.objs.size + 1 := Heap.size_push ..
        have qI : q ≠ (s.heap.push (set0 w)).objs.size := by
          rw [sz1]; exact Nat.ne_of_lt (Nat.lt_succ_of_lt ql)
        have far : s.heap.objs.size ∉ [(s.heap.push (set0 w)).objs.size, q] := by
          rw [sz1]; simp only [List.mem_cons, List.mem_singleton, List.not_mem_nil, or_false, not_or]
          exact ⟨Nat.ne_of_lt (Nat.lt_succ_self _), Nat.ne_of_gt ql⟩
        have val : ∀ (i : Nat) (v : Value), us[i]? = some v → ∃ k t, ns[i]? = some k ∧ v = .int k t := fun i v hv => by
          have hi : i < ns.length := by rw [← nu]; exact (Array.getElem?_eq_some_iff.mp hv).1
          obtain ⟨t, e⟩ := PyProof.Rows.IntsAre.int_at iv i v (by rw [Array.getElem?_toList]; exact hv)
          refine ⟨ns[i], t, List.getElem?_eq_getElem hi, ?_⟩
          rw [e, List.getD_eq_getElem?_getD, List.getElem?_eq_getElem hi] <;> rfl
        refine set_update_ints ((Walks.list nh3 _ q qI us).toS) s.heap.objs.size
          far ns nu few val (us.size - 0) 0 _ (by omega) (Nat.zero_le _)
          ⟨⟨_, Heap.get?_push_size _ rfl, rfl, rfl⟩, (lq.push _)⟩ ?g0 ?g1
        case g0 =>
          have z : ((s.heap.push (set0 w)).push { cls := .type "list_iterator", data := .fields #[.ref q, .int 0 0] }).get? s.heap.objs.size = some (set0 w) := Heap.get?_push_of_some _ at0
          exact ⟨0, Nat.le_refl 0, setR_new_at z⟩
        case g1 =>
          intro s3 c hm hc hS
          obtain ⟨g, ge, dr, tk, os⟩ := s3
          have eg : ge = s.gens := hm.gens
          have ed : dr = s.drawn := hm.drawn
          have eo : os = s.os := hm.os
          subst eg; subst ed; subst eo
          show wpAny _ _ _ _ _ _
          refine wpAny_pure ?_
          show wpAny _ _ (ret Value.none) _ _ _
          rw [nu] at hc
          refine wpAny_pure ⟨rfl, g, tk, c, rfl, hS, hc, fun b o e => ?_⟩
          have b0 : b < s.heap.objs.size := Heap.lt_size e
          refine hm.heap b o ?_ (Heap.get?_push_of_some _ (Heap.get?_push_of_some _ e))
          simp only [List.mem_cons, List.mem_singleton, List.not_mem_nil, or_false, not_or]
          exact ⟨Nat.ne_of_lt b0, by rw [sz1]; exact Nat.ne_of_lt (Nat.lt_succ_of_lt b0)⟩

      · cases r2 with
        | error e => exact hr2
        | ok f2 =>
          cases f2 with
          | ret r =>
            obtain ⟨rfl, g, tk, c, rfl, hS, hc, hk⟩ := hr2
            repeat (any_goals (first | assumption | wp_step))
            exact h _ _ _ hS hc hk
          | _ => exact hr2.elim
    | _ => exact hr.elim
end
section
variable {X : Cx} {W : WX} [HasT]
/-- set(l), by values -/
def rSetL (w : World) (K : PySem.W.Frag) : List V → Hp → VK → Prop := fun vs H Q => ∃ (a : Addr) (ns : List Int), vs = [V.ref a] ∧ SqL K H a (ns.map V.int) ∧ ns.length + 1 < scanBound ∧
  ∀ (p : Addr) (c : Nat), c ≤ ns.length → H p = none → Q (.ref p) (upd H p (SetO w p (fun j => decide (j ∈ ns)) c))
theorem cr_setL (hc : X.calm = true) : CallR X (.type "set") (rSetL X.w X.K) := by
  intro pins s σ H vs us Q I r h
  obtain ⟨a, ns, rfl, hs, few, q⟩ := h
  obtain ⟨its, rv, hlp, hz⟩ := I.list hs
  rw [Vals.ref1 r]
  refine call_set_lst ns (I.ok.hd hc) hlp.isList (by simpa using ints_are rv) few fun g tk c hS hcl hk => ?_
  exact ⟨.ref _, upd H s.heap.objs.size (SetO X.w s.heap.objs.size (fun j => decide (j ∈ ns)) c), I.laid (t' := tk) hk (Nat.le_refl _) (setO_new hS), rfl, q _ c hcl (I.hok.fresh (Nat.le_refl _))⟩
theorem srt_lt {as bs : List Int} (ha : as.Pairwise (· < ·)) (hb : bs.Nodup) (e : ∀ k, k ∈ as ↔ k ∈ bs) : as.map D.int = srtD (bs.map .int) := by
  have na : as.Nodup := ha.imp fun h => Int.ne_of_lt h
  exact srt_ints ((List.perm_ext_iff_of_nodup na hb).mpr e) (ha.imp fun h => Int.le_of_lt h)
theorem r_sortSet {a : Expr} {p p2 q pos : Pos} (C : Or) {fa : EF} (hc : X.calm = true) (hg : Gl X "sorted") (hm : X.mg "sorted" = none) (hg2 : Gl X "set") (hm2 : X.mg "set" = none) (ha : PE X a (tE X W (fa C)))
    (na : starEach [a] X.env = (false, eval a X.env) :: starEach [] X.env) : PE X (.Call (.Name "sorted" p) [.Call (.Name "set" p2) [a] [] q] [] pos) (tE X W (un1F opSortSet fa C)) := by
  have h1 := pe_callTy (cr_setL hc) hg2 hm2 boot_set (pa_cons ha pa_nil na) (p := p2) (pos := q) (by decide) (by decide) na rfl
  refine PE.weak (pe_callB (cr_sortedSet hc) hg hm boot_sorted (pa_cons h1 pa_nil rfl) (by decide) (by decide) rfl rfl) fun σ H Q ⟨L, h, env, hr, sr, hp⟩ => ⟨L, h, env, hr, sr, pRg.then_ hp fun d h1 L1 H1 v le kp hr1 r1 hp1 => ?_⟩
  unfold opSortSet at hp1
  split at hp1
  · rename_i ns e
    obtain ⟨z, ez, en⟩ := Option.bind_eq_some_iff.mp e
    obtain ⟨a, xs, rfl, sq, s⟩ := lst_of hr1 r1 ez
    split at hp1
    · rename_i hl
      have e3 := ints_of s en
      subst e3
      refine ⟨a, ns, rfl, sq, by unfold scanBound; omega, fun p c hcl np => ?_⟩
      refine ⟨p, _, c, rfl, upd_same, by omega, fun ns' p' so mem ln np' => ?_⟩
      have hne : p' ≠ p := fun z => by rw [z, upd_same] at np'; cases np'
      have np2 : H1 p' = none := by rw [upd_ne hne] at np'; exact np'
      have hr2 := hr1.new (o := SetO X.w p (fun j => decide (j ∈ ns)) c) np
      obtain ⟨m1, m2⟩ := metI_in ns [] List.nodup_nil
      refine hp1 (L1 ++ [p']) _ (.ref p') (LE.app _ _) ((Keep.new np).trans (Keep.new np')) (hr2.alloc np' ?_) (.ref (by rw [← hr1.len]; simp))
      have e5 : srtD ((metI [] ns).map .int) = ns'.map D.int := (srt_lt so m1 fun k => by
        rw [mem, m2, decide_eq_true_iff]
        simp).symm
      rw [e5]
      exact rels_ints ns'
    · exact hp1.elim
  · exact hp1.elim
end
end VM

set_option maxRecDepth 100000
set_option maxHeartbeats 3200000
namespace VM
open PySem PySem.Spec PyProof.Rows L2 HT
/-! min of a list or a tuple of tuples of whole numbers, with and without default= -/
section
variable {X : Cx}
def TupsOf (K : PySem.W.Frag) (H : Hp) (xs : List V) (nss : List (List Int)) : Prop := xs.length = nss.length ∧ ∀ (i : Nat) (v : V), xs[i]? = some v → ∃ (b : Addr) (n : List Int), nss[i]? = some n ∧ v = .ref b ∧ SqT K H b (n.map V.int)
theorem vals_at {xs : List V} {us : List Value} (r : Vals xs us) {i : Nat} {u : Value} (e : us[i]? = some u) : ∃ x, xs[i]? = some x ∧ RelV x u := by
  have hl := r.length
  have hi : i < xs.length := by
    have := (List.getElem?_eq_some_iff.mp e).1
    omega
  obtain ⟨w, hw, rr⟩ := r.get (i := i) (x := xs[i]) (List.getElem?_eq_getElem hi)
  rw [e] at hw
  cases hw
  exact ⟨_, List.getElem?_eq_getElem hi, rr⟩
theorem cmp_tups {pins : List (Addr × Obj)} {σ : L2.St} {H : Hp} {s : Shared} (I : Inv X pins σ H s) (hu : X.A.units + 1 < cLine) {xs : List V} {nss : List (List Int)} {its : List Value} (t : TupsOf X.K H xs nss) (rv : Vals xs its) :
    CmpIn X.prog X.w X.A.in1 .Lt s.heap (fun i v => its.toArray[i]? = some v) (fun i j => HT.lexLt (nss.getD i []) (nss.getD j [])) := by
  intro i j vi vj s' Q E hk hi hj hq
  have hi : its.toArray[i]? = some vi := hi
  have hj : its.toArray[j]? = some vj := hj
  rw [List.getElem?_toArray] at hi hj
  obtain ⟨xi, ei, ri⟩ := vals_at rv hi
  obtain ⟨xj, ej, rj⟩ := vals_at rv hj
  obtain ⟨b, n, en, rfl, hb⟩ := t.2 i xi ei
  obtain ⟨c, m, em, rfl, hc⟩ := t.2 j xj ej
  obtain rfl : vi = Value.ref b := ri
  obtain rfl : vj = Value.ref c := rj
  obtain ⟨i1, r1, ⟨o1, ho1, p1⟩, _⟩ := I.tuple hb
  obtain ⟨i2, r2, ⟨o2, ho2, p2⟩, _⟩ := I.tuple hc
  have g1 : nss.getD i [] = n := by rw [List.getD_eq_getElem?_getD, en]; rfl
  have g2 : nss.getD j [] = m := by rw [List.getD_eq_getElem?_getD, em]; rfl
  have hq : Q (.bool (HT.lexLt (nss.getD i []) (nss.getD j []))) s' := hq
  rw [g1, g2] at hq
  have a1 : IntsAre i1.toArray.toList n := intsAre_of r1
  have a2 : IntsAre i2.toArray.toList m := intsAre_of r2
  show wpAny _ _ (compareOp .Lt (.ref b) (.ref c)) _ _ _
  exact HT.lt_tupInts (A := X.A.in1) ⟨o1, hk _ _ ho1, p1⟩ ⟨o2, hk _ _ ho2, p2⟩ a1 a2 (by show X.A.units + 1 < _; exact hu) hq
theorem least_at {pins : List (Addr × Obj)} {σ : L2.St} {H : Hp} {s : Shared} {Q : VK} {xs : List V} {n : List Int} {nss : List (List Int)} {its : List Value} (I : Inv X pins σ H s) (t : TupsOf X.K H xs (n :: nss)) (rv : Vals xs its) (q : ∀ b, SqT X.K H b ((bestD HT.lexLt n nss).map V.int) → Q (.ref b) H)
    {v : Value} {h' : Heap} {tk : Nat} (e : its.toArray[argBest (fun i j => HT.lexLt ((n :: nss).getD i []) ((n :: nss).getD j [])) (its.toArray.size - 1)]? = some v) (hk : ∀ b o, s.heap.get? b = some o → h'.get? b = some o) : EP X pins σ Q v { s with heap := h', toks := tk } := by
  have hl := rv.length
  have tl := t.1
  rw [List.length_cons] at tl
  have es : its.toArray.size - 1 = nss.length := by rw [List.size_toArray]; omega
  rw [es, List.getElem?_toArray] at e
  obtain ⟨x, ex, rx⟩ := vals_at rv e
  obtain ⟨b, m, em, rfl, hb⟩ := t.2 _ x ex
  have ab := arg_best HT.lexLt (fun i j => HT.lexLt ((n :: nss).getD i []) ((n :: nss).getD j [])) n nss (fun i j a b e1 e2 => by
    simp only [List.getD_eq_getElem?_getD, e1, e2, Option.getD_some]) nss.length (Nat.le_refl _)
  rw [List.take_length, em] at ab
  cases ab
  obtain rfl : v = Value.ref b := rx
  exact ⟨.ref b, H, I.kept hk, rfl, q b hb⟩
def rMinT (K : PySem.W.Frag) : List V → Hp → VK → Prop := fun vs H Q => ∃ (a : Addr) (n : List Int) (nss : List (List Int)) (xs : List V), vs = [V.ref a] ∧ (SqT K H a xs ∨ SqL K H a xs) ∧ TupsOf K H xs (n :: nss) ∧ ∀ b, SqT K H b ((bestD HT.lexLt n nss).map V.int) → Q (.ref b) H
theorem cr_minT (hc : X.calm = true) (hu : X.A.units + 1 < cLine) : CallR X (.builtin "min") (rMinT X.K) := by
  intro pins s σ H vs us Q I r h
  obtain ⟨a, n, nss, xs, rfl, hs, t, q⟩ := h
  rw [Vals.ref1 r]
  have hh : X.A.in1.handled = none := I.ok.hd hc
  have tl := t.1
  rw [List.length_cons] at tl
  rcases hs with hs | hs
  · obtain ⟨its, rv, tp, hz⟩ := I.tuple hs
    have hl := rv.length
    refine call_min_walkH (PySem.W.iter_tupleW (A := X.A.in1) hh tp fun s₂ e W st hfp hw hk => ?_)
    refine ⟨_, _, _, _, _, _, _, s.heap, _, rfl, W, st, hfp, by rw [List.size_toArray]; omega, hw, hk, cmp_tups I hu t rv, fun v s' hP m => ?_⟩
    obtain ⟨h', tk, rfl, hk'⟩ := PySem.W.moved_old e rfl m
    exact least_at I t rv q hP hk'
  · obtain ⟨its, rv, lp, hz⟩ := I.list hs
    have hl := rv.length
    refine call_min_walkH (PySem.W.iter_listW (A := X.A.in1) hh lp.isList fun s₂ e W st hfp hw hk => ?_)
    refine ⟨_, _, _, _, _, _, _, s.heap, _, rfl, W, st, hfp, by rw [List.size_toArray]; omega, hw, hk, cmp_tups I hu t rv, fun v s' hP m => ?_⟩
    obtain ⟨h', tk, rfl, hk'⟩ := PySem.W.moved_old e rfl m
    exact least_at I t rv q hP hk'
def rMinD (K : PySem.W.Frag) : R2 := fun x y H Q => ∃ (a : Addr) (nss : List (List Int)) (xs : List V), x = V.ref a ∧ (SqT K H a xs ∨ SqL K H a xs) ∧ TupsOf K H xs nss ∧ (nss = [] → Q y H) ∧ ∀ n r, nss = n :: r → ∀ b, SqT K H b ((bestD HT.lexLt n r).map V.int) → Q (.ref b) H
theorem cr_minD (hc : X.calm = true) (hu : X.A.units + 1 < cLine) : CallRK X (.builtin "min") [Str.ofString "default"] (fun vs zs H Q => ∃ x y, vs = [x] ∧ zs = [y] ∧ rMinD X.K x y H Q) := by
  intro pins s σ H vs zs us ws Q I r rz h
  obtain ⟨x, y, rfl, rfl, a, nss, xs, rfl, hs, t, q0, q1⟩ := h
  rw [Vals.ref1 r]
  obtain ⟨d, rfl, rd⟩ : ∃ d, ws = [d] ∧ RelV y d := by
    cases rz with
    | cons r1 r2 => cases r2; exact ⟨_, rfl, r1⟩
  have hh : X.A.in1.handled = none := I.ok.hd hc
  have tl := t.1
  show wpAny _ _ (call (.builtin "min") [.ref a] [(Str.ofString "default", d)]) _ _ _
  have fin : ∀ (its : List Value) (rv : Vals xs its) {v : Value} {h' : Heap} {tk : Nat}, 0 < its.toArray.size → its.toArray[argBest (fun i j => HT.lexLt (nss.getD i []) (nss.getD j [])) (its.toArray.size - 1)]? = some v → (∀ b o, s.heap.get? b = some o → h'.get? b = some o) → EP X pins σ Q v { s with heap := h', toks := tk } := fun its rv v h' tk hp e hk => by
    cases nss with
    | nil =>
      have hl := rv.length
      rw [List.length_nil] at tl
      rw [List.size_toArray] at hp
      omega
    | cons n r => exact least_at I t rv (q1 n r rfl) e hk
  rcases hs with hs | hs
  · obtain ⟨its, rv, tp, hz⟩ := I.tuple hs
    have hl := rv.length
    refine call_min_walkD (PySem.W.iter_tupleW (A := X.A.in1) hh tp fun s₂ e W st hfp hw hk => ?_)
    refine ⟨_, _, _, _, _, _, _, s.heap, (fun i j => HT.lexLt (nss.getD i []) (nss.getD j [])), rfl, W, st, hfp, hw, hk, fun hz s' m => ?_, fun hp => ⟨cmp_tups I hu t rv, fun v s' hP m => ?_⟩⟩
    · obtain ⟨h', tk, rfl, hk'⟩ := PySem.W.moved_old e rfl m
      have : nss = [] := by
        rw [List.size_toArray] at hz
        exact List.eq_nil_of_length_eq_zero (by omega)
      exact ⟨y, H, I.kept hk', rd, q0 this⟩
    · obtain ⟨h', tk, rfl, hk'⟩ := PySem.W.moved_old e rfl m
      exact fin its rv hp hP hk'
  · obtain ⟨its, rv, lp, hz⟩ := I.list hs
    have hl := rv.length
    refine call_min_walkD (PySem.W.iter_listW (A := X.A.in1) hh lp.isList fun s₂ e W st hfp hw hk => ?_)
    refine ⟨_, _, _, _, _, _, _, s.heap, (fun i j => HT.lexLt (nss.getD i []) (nss.getD j [])), rfl, W, st, hfp, hw, hk, fun hz s' m => ?_, fun hp => ⟨cmp_tups I hu t rv, fun v s' hP m => ?_⟩⟩
    · obtain ⟨h', tk, rfl, hk'⟩ := PySem.W.moved_old e rfl m
      have : nss = [] := by
        rw [List.size_toArray] at hz
        exact List.eq_nil_of_length_eq_zero (by omega)
      exact ⟨y, H, I.kept hk', rd, q0 this⟩
    · obtain ⟨h', tk, rfl, hk'⟩ := PySem.W.moved_old e rfl m
      exact fin its rv hp hP hk'
end
section
variable {X : Cx} {W : WX} [HasT]
theorem tups_of {L : List Addr} {H : Hp} : ∀ {ds : List D} {vs : List V} {nss : List (List Int)}, Rels X.K L H ds vs → tupsI ds = some nss → TupsOf X.K H vs nss
  | [], _, nss, r, e => by
    cases r
    cases e
    exact ⟨rfl, fun i v e => by simp at e⟩
  | d :: ds, vs, nss, r, e => by
    cases r with
    | @cons _ _ v vs r1 r2 =>
      simp only [tupsI] at e
      split at e
      · rename_i n en
        split at e
        · rename_i ns ens
          cases e
          obtain ⟨l, at_⟩ := tups_of r2 ens
          have h1 : ∃ b, v = .ref b ∧ SqT X.K H b (n.map V.int) := by
            cases r1 with
            | @tup es a xs ha ra =>
              have := ints_of ra (show intsD es = some n from en)
              subst this
              exact ⟨a, rfl, ha⟩
            | _ => cases en
          refine ⟨by simp [l], fun i w ew => ?_⟩
          cases i with
          | zero =>
            obtain ⟨b, rfl, hb⟩ := h1
            cases ew
            exact ⟨b, n, rfl, rfl, hb⟩
          | succ i => exact at_ i w ew
        · cases e
      · cases e
theorem seq_tups {L : List Addr} {H : Hp} {h : Hv} {d : D} {v : V} {z : List D × Guards} {nss : List (List Int)} (hr : HR X.K L H h) (r : Rel X.K L H d v) (ez : seqOf d h = some z) (en : tupsI z.1 = some nss) :
    ∃ a xs, v = .ref a ∧ (SqT X.K H a xs ∨ SqL X.K H a xs) ∧ TupsOf X.K H xs nss := by
  obtain ⟨a, xs, rfl, hs, rs⟩ := seq_of hr r ez
  exact ⟨a, xs, rfl, hs.symm, tups_of rs en⟩
/-- the tuple itself, told as a value -/
theorem tup_rel {L : List Addr} {H : Hp} {b : Addr} : ∀ {n : List Int}, SqT X.K H b (n.map V.int) → Rel X.K L H (.tup (n.map .int)) (.ref b) := fun {n} hb => .tup hb (rels_ints n)
theorem o_minT (L : List Addr) (H : Hp) (h : Hv) (σ : L2.St) (d : D) (v : V) (Q : VK) (hr : HR X.K L H h) (r : Rel X.K L H d v) (hp : pR X.K X.mg L H W σ Q (opMinT d h)) : rMinT X.K [v] H Q := by
  unfold opMinT at hp
  split at hp
  · rename_i z ez
    split at hp
    · rename_i n ns en
      obtain ⟨a, xs, rfl, q, t⟩ := seq_tups hr r ez en
      exact ⟨a, n, ns, xs, rfl, q, t, fun b hb => here hr hp (tup_rel hb)⟩
    · exact hp.elim
  · exact hp.elim
theorem o_minD : OkR X W opMinD (rMinD X.K) := by
  intro L H h σ d1 d2 v1 v2 Q hr r1 r2 hp
  simp only [opMinD] at hp
  split at hp
  · rename_i z ez
    split at hp
    · rename_i en
      obtain ⟨a, xs, rfl, q, t⟩ := seq_tups hr r1 ez en
      exact ⟨a, [], xs, rfl, q, t, fun _ => here hr hp r2, fun n r e => by cases e⟩
    · rename_i n ns en
      obtain ⟨a, xs, rfl, q, t⟩ := seq_tups hr r1 ez en
      refine ⟨a, n :: ns, xs, rfl, q, t, (fun e => by cases e), fun n' r e b hb => ?_⟩
      cases e
      exact here hr hp (tup_rel hb)
    · exact hp.elim
  · exact hp.elim
theorem r_minD {x k : Str} {p kpos pos : Pos} {a d : Expr} (C : Or) {fa fd : EF} (hc : X.calm = true) (hu : X.A.units + 1 < cLine) (hx : x = "min") (hk : k = "default") (hg : Gl X x) (hm : X.mg x = none) (ha : PE X a (tE X W (fa C))) (hd : PE X d (tE X W (fd C))) (ns : starEach [a] X.env = (false, eval a X.env) :: starEach [] X.env) :
    PE X (.Call (.Name x p) [a] [⟨some k, d, kpos⟩] pos) (tE X W (binF opMinD fa fd C)) := by
  subst hx hk
  have nb : backTo pos (starEach [a] X.env) = (false, eval a X.env) :: backTo pos (starEach [] X.env) := by rw [ns]; rfl
  exact PE.weak (pe_callBK (cr_minD hc hu) hg hm boot_min (pa_cons ha pa_nil ns) (pk_cons hd pk_nil) (by decide) (by decide) nb (by rw [nb]; rfl) rfl rfl rfl) fun σ H Q ⟨L, h, env, hr, sr, hp⟩ =>
    two (r := fun x y H Q => ∃ x' y', [x] = [x'] ∧ [y] = [y'] ∧ rMinD X.K x' y' H Q) (fun L H h σ d1 d2 v1 v2 Q hr r1 r2 hp => ⟨v1, v2, rfl, rfl, o_minD L H h σ d1 d2 v1 v2 Q hr r1 r2 hp⟩) hr sr hp
end
end VM

set_option maxRecDepth 100000
set_option maxHeartbeats 1000000
namespace VM
open PySem PySem.Spec PyProof.Rows L2 HT
/-! a lambda handed to a def that tries it -/
theorem extN_keep {K : PySem.W.Frag} {H H' : Hp} (e : LamX.ExtN H H') : Keep K H H' := by
  refine ⟨fun a xs q => ?_, fun a o u q => e _ _ q (fun ps z => by cases z), fun a φ q => e _ _ q (fun ps z => by cases z)⟩
  rcases q with (q | ⟨ob, q⟩) | q
  · exact .inl (.inl (e _ _ q fun ps z => by cases z))
  · exact .inl (.inr ⟨ob, e _ _ q fun ps z => by cases z⟩)
  · exact .inr q
variable [HasT]
theorem HR.extN {K : PySem.W.Frag} {L : List Addr} {H H' : Hp} {h : Hv} (hr : HR K L H h) (e : LamX.ExtN H H') (t : LamX.Tabs HasT.T H') : HR K L H' h := by
  have kp : Keep K H H' := extN_keep e
  refine ⟨hr.len, fun i a ds e1 e2 => ?_, fun i a ds e1 e2 => ?_, hr.inj, fun i a ds e1 e2 => ?_, hr.injD, t, fun i a ds e1 e2 => (let ⟨od, us, q, r⟩ := hr.rod i a ds e1 e2; ⟨od, us, kp.frz _ _ _ q, r.mono (LE.refl L) kp⟩), hr.injR, hr.oj.keep (fun i c fs f => ⟨f, fun a q => q⟩) (fun a C dx us q => e _ _ q (fun ps z => by cases z)) (fun _ _ r => r.mono (LE.refl L) kp)⟩
  · obtain ⟨xs, q, r⟩ := hr.lst i a ds e1 e2
    exact ⟨xs, e _ _ q (fun ps z => by cases z), r.mono (LE.refl L) kp⟩
  · obtain ⟨xs, q, r⟩ := hr.ro i a ds e1 e2
    exact ⟨xs, q.keep kp, r.mono (LE.refl L) kp⟩
  · obtain ⟨xs, q, r⟩ := hr.dct i a ds e1 e2
    exact ⟨xs, e _ _ q (fun ps z => by cases z), r.mono (LE.refl L) kp⟩
section
variable {X : Cx} {W : WX} {pos : Pos}
/-- the reading in a frame of which nothing is known -/
def t0 (X : Cx) (nl : Nat) (W : WX) (P : L2.St → List Addr → Hp → Hv → Prop) (f : Fs) : TS := fun D_ σ H => ∃ L h, P σ L H h ∧ HR X.K L H h ∧ pS X.K X.mg L H W D_ (f (List.replicate nl none) h)
theorem srel0 {K : PySem.W.Frag} {L : List Addr} {H : Hp} {σ : L2.St} {nl : Nat} (h : σ.length = nl) : SRel K L H (List.replicate nl none) σ := by
  refine ⟨by simp [h], fun i d e => ?_⟩
  rw [List.getElem?_replicate] at e
  split at e <;> cases e
/-- try, of which nothing is known but what P says -/
theorem s_try0 {P : L2.St → List Addr → Hp → Hv → Prop} {nl : Nat} {body : List Stmt} {h0 : ExceptHandler} {hds : List ExceptHandler} {ks : List Str} {hs : List (Str × Hd)} {l : List HdT} (C : Or) {fb : SF} (hst : X.stack = X.env :: X.outer) (hfr : X.env.frame = some X.env.locals) (hN : X.N.Nodup) (tk : Takes X W) (kn : KnX X ks)
    (hb : ∀ (W' : WX) (pn : List (Addr × Obj)) (xe : Value → Shared → Prop), Takes (X.tr pn xe) W' → PassesOwn (model X.prog X.w) X.A X.env xe → PSs (X.tr pn xe) body (t0 X nl W' P (fb C)))
    (hh : HRelM X C ks (h0 :: hds) hs l) : PS X (.Try body (h0 :: hds) [] [] pos) (t0 X nl W P (tryS ks fb hs C)) := by
  refine PS.weak (ps_try_mix (tb := fun W' => t0 X nl W' P (fb C)) hst hfr hN tk hb hh.ok) fun D_ σ H ⟨L, h, hP, hr, hp⟩ => ⟨L, h, hP, hr, ?_⟩
  unfold tryS at hp
  cases q : fb C (List.replicate nl none) h with
  | exc c d env1 h1 =>
    rw [q] at hp
    simp only at hp
    split at hp
    · rename_i hc
      intro L1 H1 σ1 cv dx le kp hr1 sr1 ex
      exact goM kn (List.contains_iff_mem.mp hc) le kp hr1 sr1 ex hh hp
    · exact hp.elim
  | _ => rw [q] at hp; exact hp
/-- behind the try -/
theorem s_cons0 {P : L2.St → List Addr → Hp → Hv → Prop} {nl : Nat} {st : Stmt} {sts : List Stmt} (C : Or) {f g : SF} (h1 : PS X st (t0 X nl W P (f C))) (h2 : PSs X sts (tS X W (g C))) : PSs X (st :: sts) (t0 X nl W P (seqS f g C)) := by
  refine PSs.weak (pss_cons h1 h2) fun D_ σ H ⟨L, h, hP, hr, hp⟩ => ⟨L, h, hP, hr, ?_⟩
  unfold seqS at hp
  cases q : f C (List.replicate nl none) h with
  | nx env1 h1 =>
    rw [q] at hp
    exact fun L1 H1 σ1 le kp hr1 sr1 => ⟨L1, h1, env1, hr1, sr1, pS.mono hp le kp⟩
  | bk _ _ => rw [q] at hp; exact hp
  | ct _ _ => rw [q] at hp; exact hp
  | rt _ _ => rw [q] at hp; exact hp
  | stuck => rw [q] at hp; exact hp
  | exc _ _ _ _ => rw [q] at hp; exact hp
/-- the frame's length goes along -/
theorem takes_len {W' : WX} (tk : Takes X W') : Takes X (fun c d σ H => σ.length = X.N.length → W' c d σ H) :=
  fun u s' ⟨a, B, sI, pins, σ, H, cls, d, e, I, nb, up, sky, na, os, ag, w⟩ => tk u s' ⟨a, B, sI, pins, σ, H, cls, d, e, I, nb, up, sky, na, os, ag, w I.len⟩
end
/-- x(), as a statement of the try's body -/
theorem s_thunk {Z : Cx} {W' : WX} {e : Expr} {pos : Pos} {nl : Nat} {P : L2.St → List Addr → Hp → Hv → Prop} {th : Hv → R D} {PT_ : L2.St → Hp → Prop} {tl : XK → Hp → VK → Prop} (C : Or) (hN : Z.N.length = nl) (tk : Takes Z W')
    (act : ∀ (W : WX) (E : XK), Takes Z W → (∀ cls d σ' H', E cls d H' → W cls d σ' H') → PE Z e (fun σZ HZ Q => PT_ σZ HZ ∧ tl E HZ Q))
    (hP : ∀ σ L H h, P σ L H h → σ.length = nl ∧ PT_ σ H ∧ ∀ E Q', pR Z.K Z.mg L H (fun c d _ H' => E c d H') [] Q' (th h) → tl E H Q')
    (hs : swapsWith e none pos.line Z.env = pure false) : PSs Z [.Expr e pos] (t0 Z nl W' P (expS (fun _ _ h => th h) C)) := by
  have hp := act (fun c d σ H => σ.length = Z.N.length → W' c d σ H) (fun cls d H' => ∀ σ', σ'.length = Z.N.length → W' cls d σ' H') (takes_len tk) (fun cls d σ' H' q l => q σ' l)
  refine PSs.weak (pss_one (ps_expr hp hs)) fun D_ σ H ⟨L, h, p, hr, q⟩ => ?_
  obtain ⟨h1, h2, h3⟩ := hP σ L H h p
  refine ⟨h2, h3 _ _ ?_⟩
  replace q : pS Z.K Z.mg L H W' D_ ((th h).thenS (List.replicate nl none) fun _ h1 => .nx (List.replicate nl none) h1) := q
  cases z : th h with
  | ok d h' =>
    rw [z] at q
    exact fun L1 H1 v le kp hr1 _ => q L1 H1 σ le kp hr1 (srel0 h1)
  | exc c d h' =>
    rw [z] at q
    exact fun L1 H1 cv dx le kp hr1 ex σ' hl => q L1 H1 σ' cv dx le kp hr1 (srel0 (hl.trans hN)) ex
  | stuck => rw [z] at q; exact q
/-- return x() -/
theorem s_thunkR {Z : Cx} {W' : WX} {e : Expr} {pos : Pos} {nl : Nat} {P : L2.St → List Addr → Hp → Hv → Prop} {th : Hv → R D} {PT_ : L2.St → Hp → Prop} {tl : XK → Hp → VK → Prop} (C : Or) (hN : Z.N.length = nl) (tk : Takes Z W')
    (act : ∀ (W : WX) (E : XK), Takes Z W → (∀ cls d σ' H', E cls d H' → W cls d σ' H') → PE Z e (fun σZ HZ Q => PT_ σZ HZ ∧ tl E HZ Q))
    (hP : ∀ σ L H h, P σ L H h → σ.length = nl ∧ PT_ σ H ∧ ∀ E Q', pR Z.K Z.mg L H (fun c d _ H' => E c d H') [] Q' (th h) → tl E H Q') : PSs Z [.Return (some e) pos] (t0 Z nl W' P (retS (fun _ _ h => th h) C)) := by
  have hp := act (fun c d σ H => σ.length = Z.N.length → W' c d σ H) (fun cls d H' => ∀ σ', σ'.length = Z.N.length → W' cls d σ' H') (takes_len tk) (fun cls d σ' H' q l => q σ' l)
  refine PSs.weak (pss_one (ps_ret hp)) fun D_ σ H ⟨L, h, p, hr, q⟩ => ?_
  obtain ⟨h1, h2, h3⟩ := hP σ L H h p
  refine ⟨h2, h3 _ _ ?_⟩
  replace q : pS Z.K Z.mg L H W' D_ ((th h).thenS (List.replicate nl none) fun d h1 => .rt d h1) := q
  cases z : th h with
  | ok d h' =>
    rw [z] at q
    exact fun L1 H1 v le kp hr1 rv => q L1 H1 v le kp hr1 rv
  | exc c d h' =>
    rw [z] at q
    exact fun L1 H1 cv dx le kp hr1 ex σ' hl => q L1 H1 σ' cv dx le kp hr1 (srel0 (hl.trans hN)) ex
  | stuck => rw [z] at q; exact q
/-- return (s, x()) -/
theorem s_thunkT {Z : Cx} {W' : WX} {e : Expr} {pos p4 p5 : Pos} {m : Str} {j kk : Nat} {nl : Nat} {P : L2.St → List Addr → Hp → Hv → Prop} {th : Hv → R D} {PT_ : L2.St → Hp → Prop} {tl : XK → Hp → VK → Prop} (C : Or) (hN : Z.N.length = nl) (tk : Takes Z W')
    (act : ∀ (W : WX) (E : XK), Takes Z W → (∀ cls d σ' H', E cls d H' → W cls d σ' H') → PE Z e (fun σZ HZ Q => PT_ σZ HZ ∧ tl E HZ Q))
    (hP : ∀ σ L H h, P σ L H h → σ.length = nl ∧ PT_ σ H ∧ ∀ E Q', pR Z.K Z.mg L H (fun c d _ H' => E c d H') [] Q' (th h) → tl E H Q') (he : ∀ env, starEach [e] env = (false, eval e env) :: starEach [] env) : PSs Z [.Return (some (.Tuple [.Constant (.str m) j p4, e] kk p5)) pos] (t0 Z nl W' P (retS (tupF [conF (.str m), fun _ _ h => th h]) C)) := by
  have hp := act (fun c d σ H => σ.length = Z.N.length → W' c d σ H) (fun cls d H' => ∀ σ', σ'.length = Z.N.length → W' cls d σ' H') (takes_len tk) (fun cls d σ' H' q l => q σ' l)
  refine PSs.weak (pss_one (ps_ret (pe_tup (pa_cons pe_str (pa_cons hp pa_nil (he _)))))) fun D_ σ H ⟨L, h, p, hr, q⟩ => ?_
  obtain ⟨h1, h2, h3⟩ := hP σ L H h p
  refine ⟨h2, h3 _ _ ?_⟩
  replace q : pS Z.K Z.mg L H W' D_ (((th h).bind fun d h1 => .ok (.tup [.str m, d]) h1).thenS (List.replicate nl none) fun d h1 => .rt d h1) := by
    have e : tupF [conF (.str m), fun _ _ h => th h] C (List.replicate nl none) h = (th h).bind fun d h1 => .ok (.tup [.str m, d]) h1 := by
      cases z : th h <;> simp [tupF, listF, conF, z, R.bind, szl]
    rw [← e]
    exact q
  cases z : th h with
  | ok d h' =>
    rw [z] at q
    exact fun L1 H1 v le kp hr1 rv => ⟨by rw [sizeLine_eq]; show 2 ≤ _; decide, fun p np => q L1 _ _ le (kp.trans (Keep.new np)) (hr1.new np) (.tup (.inl (.inl upd_same)) (.cons (.str m) (.cons (rv.mono (LE.refl _) (Keep.new np)) .nil)))⟩
  | exc c d h' =>
    rw [z] at q
    exact fun L1 H1 cv dx le kp hr1 ex σ' hl => q L1 H1 σ' cv dx le kp hr1 (srel0 (hl.trans hN)) ex
  | stuck => rw [z] at q; exact q
/-- what the def's promise asks, in ours -/
def TTh (K : PySem.W.Frag) (mg : Str → Option Value) (nl : Nat) (B : EF → SF) (C : Or) : (XK → Hp → VK → Prop) → Hp → VK → Prop := fun tl H Q =>
  ∃ th L h, HR K L H h ∧ (∀ E Q', pR K mg L H (fun c d _ H' => E c d H') [] Q' (th h) → tl E H Q') ∧ pR K mg L H (fun _ _ _ _ => False) [] Q (hofR nl B C th h)
/-- the def keeps it, when its body does -/
theorem gives_ {X : Cx} {Ng : List Str} {x a q : Str} {sg : Scope} {g : Addr} {cdg : Value} {bg : List Stmt} {B : EF → SF} {C : Or} (h0 : 0 < Ng.length)
    (hb : ∀ (f c' : Addr) (s : Shared) (H : Hp) (tl : XK → Hp → VK → Prop) (th : Hv → R D) (P : L2.St → List Addr → Hp → Hv → Prop),
      (∀ (W : WX) (pn : List (Addr × Obj)) (xe : Value → Shared → Prop) (E : XK) (p1 p2 : Pos), Takes ((cxOf C8.CX0 X.prog X.w X.K X.mg X.base Ng x sg g cdg X.A X.stack s H C8.E0).tr pn xe) W → (∀ cls d σ' H', E cls d H' → W cls d σ' H') →
        PE ((cxOf C8.CX0 X.prog X.w X.K X.mg X.base Ng x sg g cdg X.A X.stack s H C8.E0).tr pn xe) (.Call (.Name a p1) [] [] p2) (fun σZ HZ Q => (σZ[0]? = some (some (.ref f)) ∧ HZ c' = some (LamX.CodeO c' q)) ∧ tl E HZ Q)) →
      (∀ σ L H h, P σ L H h → σ.length = Ng.length ∧ (σ[0]? = some (some (.ref f)) ∧ H c' = some (LamX.CodeO c' q)) ∧ ∀ E Q', pR X.K X.mg L H (fun c d _ H' => E c d H') [] Q' (th h) → tl E H Q') →
      PSs (cxOf C8.CX0 X.prog X.w X.K X.mg X.base Ng x sg g cdg X.A X.stack s H C8.E0).nox bg (t0 (cxOf C8.CX0 X.prog X.w X.K X.mg X.base Ng x sg g cdg X.A X.stack s H C8.E0).nox Ng.length (fun _ _ _ _ => False) P (B (fun _ _ h => th h) C))) :
    LamX.GivesTo X Ng x sg g cdg bg a q (TTh X.K X.mg Ng.length B C) := by
  intro f c' s H Q tl act hc ⟨th, L, h, hr, hth, hp⟩
  have hst : (L2.start Ng [V.ref f]).length = Ng.length ∧ (L2.start Ng [V.ref f])[0]? = some (some (V.ref f)) := by
    unfold L2.start
    constructor
    · simp; omega
    · simp
  refine ⟨_, hb f c' s H tl th (fun σ L1 H1 h1 => σ = L2.start Ng [.ref f] ∧ L1 = L ∧ H1 = H ∧ h1 = h) (fun W pn xe E p1 p2 tk hW => ?_) ?_, ?_⟩
  · refine PE.weak (act W pn xe E p1 p2 tk hW) fun σ H Q z => ⟨z.1.1, z.1.2, z.2⟩
  · rintro σ L1 H1 h1 ⟨rfl, rfl, rfl, rfl⟩
    exact ⟨hst.1, ⟨hst.2, hc⟩, hth⟩
  · refine ⟨L, h, ⟨rfl, rfl, rfl, rfl⟩, hr, ?_⟩
    unfold hofR at hp
    show pS X.K X.mg L H _ _ _
    cases z : B (fun _ _ h => th h) C (List.replicate Ng.length none) h with
    | rt d h' => rw [z] at hp; exact fun L1 H1 v le kp hr1 rv => hp L1 H1 v le kp hr1 rv
    | nx e h' => rw [z] at hp; exact fun L1 H1 σ' le kp hr1 _ => hp L1 H1 .non le kp hr1 .non
    | bk _ _ => rw [z] at hp; exact hp.elim
    | ct _ _ => rw [z] at hp; exact hp.elim
    | stuck => rw [z] at hp; exact hp.elim
    | exc _ _ _ _ => rw [z] at hp; exact hp.elim
theorem hofR_noexc {nl : Nat} {B : EF → SF} {C : Or} {th : Hv → R D} {h : Hv} {c : Str} {d : D} {h' : Hv} : hofR nl B C th h ≠ .exc c d h' := by
  unfold hofR
  split <;> exact fun z => by cases z
/-- x(lambda: body) -/
theorem r_hof {X : Cx} {W : WX} {x a : Str} {g c P : Addr} {k : Nat} {pg : Arguments} {bg : List Stmt} {sg : Scope} {dV kV doc pm cdv ct oc : Value} {an od : Option Addr} {osl : Array (Option Value)} {Ng : List Str}
    {params : Arguments} {body : Expr} {scope : Scope} {p lpos pos : Pos} {B : EF → SF} {fb : EF} (C : Or) (hg : Gl X x) (hm : X.mg x = some (.ref g)) (hk : PySem.W.keepIn X.K (.ref g) = true)
    (lk : X.K.lookup g = some ⟨oc, od, .func (PySem.W.fnOf x x pg bg sg dV kV doc pm an cdv ct), osl⟩) (hcg : PySem.W.codeIn X.K cdv x = true) (hb : L2.Binds X.K (PySem.W.fnOf x x pg bg sg dV kV doc pm an cdv ct) [a] []) (Sg : FnScope Ng [a] sg) (hNg : Ng[0]? = some a) (hva : Vis sg a)
    (hG : LamX.GivesTo X Ng x sg g cdv bg a (X.env.qual ++ "<lambda>") (TTh X.K X.mg Ng.length B C))
    (TB : LamX.TabB X.base X.mg c P) (hcode : X.env.code = .ref c) (hmT : (P, X.env.qual ++ "<lambda>") ∈ HasT.T) (hu : ∀ p ∈ HasT.T, p.1 = P → p.2 = X.env.qual ++ "<lambda>") (hr : Room (k + 2) X.A) (L : LamX.LamS X.env.scope scope) (hdef : defaultsOf params X.env = ([], []))
    (hbind : ∀ (q : Str) (cl : List (Str × Addr)) (pm cv ctv : Value), bindArgs (PySem.W.kla_fn "<lambda>" q params body scope cl pm cv ctv) ⟨[], []⟩ = pure [])
    (hbody : ∀ (A : Around) (outer : List PySem.Env) (s : Shared) (H : Hp) (E : XK) (f c' : Addr), Room k (A.deeper (LamX.lamEnv X scope s.heap.objs.size f c')) → PE (LamX.lamCx X A outer s H E scope f c') body (tE X (fun c d _ H => E c d H) (fb C)))
    (hdb : (x == ("__debug__" : Str)) = false := by decide) (hd : (a == ("__debug__" : Str)) = false := by decide) (hcd : (a == ("__classdict__" : Str)) = false := by decide) :
    PE X (.Call (.Name x p) [.Lambda params body scope lpos] [] pos) (tE X W (hofF Ng.length B fb C)) := by
  refine PE.weak (LamX.pe_lamcall (T := HasT.T) (TT := TTh X.K X.mg Ng.length B C) (t := fun E => tE X (fun c d _ H => E c d H) (fb C)) hg hm hk lk hcg hb Sg hNg hva hG TB hcode hmT hu hr L hdef hbind hbody hdb hd hcd) fun σ H Q ⟨L0, h, env, hr0, sr, hp⟩ => ⟨hr0.tb, fun H1 e t1 => ?_⟩
  have kp := extN_keep (K := X.K) e
  refine ⟨fun h => fb C env h, L0, h, hr0.extN e t1, fun E Q' q => ⟨L0, h, env, hr0.extN e t1, sr.mono (LE.refl _) kp, q⟩, ?_⟩
  have hp2 : pR X.K X.mg L0 H W σ Q (hofR Ng.length B C (fun h => fb C env h) h) := hp
  cases z : hofR Ng.length B C (fun h => fb C env h) h with
  | ok d h' =>
    rw [z] at hp2
    exact fun L1 H2 v le kp2 hr2 rv => hp2 L1 H2 v le (kp.trans kp2) hr2 rv
  | exc c d h' => exact absurd z hofR_noexc
  | stuck => rw [z] at hp2; exact hp2
end VM

set_option maxRecDepth 100000
set_option maxHeartbeats 1000000
namespace VM
open PySem PySem.Spec PyProof.Rows L2
/-! objects of the text's own classes -/
section
variable {X : Cx} {CX : CXT} {k : Nat} {f C : Addr} {fd : FuncData} {ps : List Str} {sp : Sp} {E : L2.St → XK} {x m : Str} {p pos apos : Pos} {e o : Expr} {es : List Expr} {ta : TE} {t : TA}
theorem run_makeS {pins : List (Addr × Obj)} {σ : L2.St} {H : Hp} {s : Shared} {Q : VK} {us : List Value} {vs : List V} (M : Mk X.K C f) (F : FnOk X.prog X.w X.K X.mg X.base CX k f fd ps sp) (hr : Room (k + 1) X.A) (hb : Binds X.K fd ps [])
    (hx : PassesAt CX X σ (E σ)) (I : Inv X pins σ H s) (r : Vals vs us)
    (h : ∀ x dx, H x = none → H dx = none → dx ≠ x → sp (.ref x :: vs) (upd (upd H dx (.own x)) x (.ins C dx [])) (fun v H2 => v = .non ∧ Q (.ref x) H2) (E σ)) :
    wpAny (model X.prog X.w) X.A (call (.ref C) us) (EP X pins σ Q) X.xe s := by
  have hq := h (s.heap.objs.size + 1) s.heap.objs.size (I.hok.fresh (Nat.le_succ _)) (I.hok.fresh (Nat.le_refl _)) (Nat.ne_of_lt (Nat.lt_succ_self _))
  have I2 := Inv.made (C := C) I
  have r2 : Vals (V.ref (s.heap.objs.size + 1) :: vs) (Value.ref (s.heap.objs.size + 1) :: us) := .cons rfl r
  have hl : (Value.ref (s.heap.objs.size + 1) :: us).length = ps.length := by
    have e := r2.length
    rw [F.len _ _ _ _ hq] at e
    exact e.symm
  have b := hb { s with heap := (s.heap.push PySem.W.emptyDict).push (PySem.W.instObj C s.heap.objs.size) } (Value.ref (s.heap.objs.size + 1) :: us) I2.kIn (by rw [List.append_nil]; exact hl)
  rw [List.append_nil] at b
  refine wpAny_call (make_map (f := f) I.kIn M.makes M.init (beq_iff_eq.mp M.fn) (codeAny_mono (F.run _ X.stack _ _ ⟨Value.ref (s.heap.objs.size + 1) :: us, []⟩ (Value.ref (s.heap.objs.size + 1) :: us) _ _ (E σ) (hr.make C us [])
    (I2.env0.make C us []) b r2 hq) fun r s' hq' => ?_))
  cases r with
  | error e => exact hx pins _ _ e s' I2 hq'
  | ok fl =>
    cases fl with
    | ret u =>
      obtain ⟨v, H', I3, rv, ev, q3⟩ := I2.after hq'
      subst ev
      exact ⟨rv, ⟨V.ref (s.heap.objs.size + 1), H', I3, rfl, q3⟩⟩
    | next => exact False.elim hq'
    | brk => exact False.elim hq'
    | cont => exact False.elim hq'
def tMakeS (C : Addr) (sp : Sp) (E : L2.St → XK) (t : TA) : TE := fun σ H Q => t σ H fun vs H1 => ∀ x dx, H1 x = none → H1 dx = none → dx ≠ x →
  sp (.ref x :: vs) (upd (upd H1 dx (.own x)) x (.ins C dx [])) (fun v H2 => v = .non ∧ Q (.ref x) H2) (E σ)
theorem pe_makeS (M : Mk X.K C f) (F : FnOk X.prog X.w X.K X.mg X.base CX k f fd ps sp) (hr : Room (k + 1) X.A) (hg : Gl X x) (hm : X.mg x = some (.ref C)) (hb : Binds X.K fd ps []) (hx : ∀ σ, PassesAt CX X σ (E σ))
    (ha : PA X (e :: es) t) (hdb : (x == ("__debug__" : Str)) = false) (he : starEach (e :: es) X.env = (false, eval e X.env) :: starEach es X.env) (hpl : (backTo pos (starEach es X.env)).any (·.1) = false) :
    PE X (.Call (.Name x p) (e :: es) [] pos) (tMakeS C sp E t) := by
  refine ⟨fun pins s σ H Q I h => ?_⟩
  refine wpAny_Call_Name_kw (ld_glob I hg hm ?_ hdb)
  refine PySem.W.callWith_K (h₀ := X.base) I.ok.mod.kin M.kp (thn (ha.run pos pins s σ H _ I h) fun us s1 ⟨vs, H1, I1, r, q⟩ => ⟨I1.kIn, ?_⟩) he hpl
  exact run_makeS M F hr hb (hx σ) I1 r q
theorem pe_makeS0 (M : Mk X.K C f) (F : FnOk X.prog X.w X.K X.mg X.base CX k f fd ps sp) (hr : Room (k + 1) X.A) (hg : Gl X x) (hm : X.mg x = some (.ref C)) (hb : Binds X.K fd ps []) (hx : ∀ σ, PassesAt CX X σ (E σ)) (hdb : (x == ("__debug__" : Str)) = false) :
    PE X (.Call (.Name x p) [] [] pos) (tMakeS C sp E tNil) := by
  refine ⟨fun pins s σ H Q I h => ?_⟩
  refine wpAny_Call_Name_kw (ld_glob I hg hm ?_ hdb)
  exact PySem.W.callWith_K0 I.kIn M.kp (run_makeS (us := []) M F hr hb (hx σ) I .nil h)
def tMethS (C : Addr) (m : Str) (sp : Sp) (E : L2.St → XK) (ta : TE) (t : TA) : TE := fun σ H Q => ta σ H fun x H1 => ∃ a dx fs, x = .ref a ∧ H1 a = some (.ins C dx fs) ∧ fs.lookup m = none ∧ t σ H1 fun vs H2 => sp (x :: vs) H2 Q (E σ)
theorem meth_ev {args : List Expr} (hb : attributeBase o m X.env (eval o X.env) = eval o X.env) (hf : methodCallForm (args.length + ([] : List Keyword).length) (backTo pos (starEach args X.env)) (backToKw pos (keywordEach [] X.env)) = true) (hl : (apos.endLine == pos.line) = true) :
    eval (.Call (.Attribute o m apos) args [] pos) X.env = (do
      let ov ← eval o X.env
      standAt apos.atName
      let (f, first) ← holding [ov] (getMethod ov m (plainOf o X.env))
      callWith pos f first (backTo pos (starEach args X.env)) (backToKw pos (keywordEach [] X.env))) := by
  rw [arm_eval_Call, hb]
  simp only [mcall_line hf hl]
theorem pe_methS (he : PE X o ta) (c : Cls X.K C) (hm : Meth X.K C m f) (F : FnOk X.prog X.w X.K X.mg X.base CX k f fd ps sp) (hr : Room k X.A) (hb : Binds X.K fd ps []) (hx : ∀ σ, PassesAt CX X σ (E σ)) (ha : PA X (e :: es) t)
    (hbase : attributeBase o m X.env (eval o X.env) = eval o X.env) (hf : methodCallForm ((e :: es).length + ([] : List Keyword).length) (backTo pos (starEach (e :: es) X.env)) (backToKw pos (keywordEach [] X.env)) = true) (hl : (apos.endLine == pos.line) = true)
    (hst : starEach (e :: es) X.env = (false, eval e X.env) :: starEach es X.env) (hpl : (backTo pos (starEach es X.env)).any (·.1) = false) :
    PE X (.Call (.Attribute o m apos) (e :: es) [] pos) (tMethS C m sp E ta t) := by
  refine ⟨fun pins s σ H Q I h => ?_⟩
  refine PySem.W.methodCall_KW (thn (he.run pins s σ H _ I h) fun u s1 ⟨x, H1, I1, rx, a, dx, fs, ex, ea, l, q⟩ => ?_) (meth_ev hbase hf hl)
  subst ex
  obtain rfl : u = Value.ref a := rx
  refine getmeth_ok I1 ea c hm l ?_
  refine PySem.W.callWith_K (first := [.ref a]) (h₀ := X.base) I.ok.mod.kin hm.kp (thn (ha.run pos pins s1 σ H1 _ I1 q) fun us s2 ⟨vs, H2, I2, r, q2⟩ => ⟨I2.kIn, ?_⟩) hst hpl
  exact run_fnS (us := .ref a :: us) (vs := .ref a :: vs) F hr hb (hx σ) I2 (.cons rfl r) q2
theorem pe_methS0 (he : PE X o ta) (c : Cls X.K C) (hm : Meth X.K C m f) (F : FnOk X.prog X.w X.K X.mg X.base CX k f fd ps sp) (hr : Room k X.A) (hb : Binds X.K fd ps []) (hx : ∀ σ, PassesAt CX X σ (E σ))
    (hbase : attributeBase o m X.env (eval o X.env) = eval o X.env) (hl : (apos.endLine == pos.line) = true) :
    PE X (.Call (.Attribute o m apos) [] [] pos) (tMethS C m sp E ta tNil) := by
  refine ⟨fun pins s σ H Q I h => ?_⟩
  refine PySem.W.methodCall_KW (thn (he.run pins s σ H _ I h) fun u s1 ⟨x, H1, I1, rx, a, dx, fs, ex, ea, l, q⟩ => ?_) (meth_ev hbase (by rfl) hl)
  subst ex
  obtain rfl : u = Value.ref a := rx
  refine getmeth_ok I1 ea c hm l ?_
  exact PySem.W.callWith_K0 (first := [.ref a]) I1.kIn hm.kp (run_fnS (us := [.ref a]) (vs := [.ref a]) F hr hb (hx σ) I1 (.cons rfl .nil) q)
end
variable [HasT]
section
variable {X : Cx} {W : WX} {pos pos' apos p : Pos} {o e : Expr}
theorem objAt_ok {d : D} {h : Hv} {c : Str} {fs : List (Str × D)} (e : objAt d h = some (c, fs)) : ∃ q, d = .ref q ∧ h[q]? = some (.obj c fs) := by
  unfold objAt at e
  split at e
  · rename_i q
    split at e
    · rename_i c' fs' e0
      cases e
      exact ⟨q, rfl, e0⟩
    · cases e
  · cases e
theorem obj_of {L : List Addr} {H : Hp} {h : Hv} {d : D} {v : V} {c : Str} {fs : List (Str × D)} (hr : HR X.K L H h) (r : Rel X.K L H d v) (e : objAt d h = some (c, fs)) :
    ∃ q a dx us, d = .ref q ∧ v = .ref a ∧ h[q]? = some (.obj c fs) ∧ L[q]? = some a ∧ H a = some (.ins (HasT.C c) dx us) ∧ FRs X.K L H fs us ∧ Cls X.K (HasT.C c) ∧ ∀ f ∈ HasT.F, NoAttr X.K (HasT.C c) f := by
  obtain ⟨q, rfl, e0⟩ := objAt_ok e
  cases r with
  | @ref _ a ea =>
    obtain ⟨⟨dx, us, q1, r1⟩, cl, na⟩ := hr.oj.obj q a c fs e0 ea
    exact ⟨q, a, dx, us, rfl, rfl, e0, ea, q1, r1, cl, na⟩
theorem r_fld {f : Str} (C : Or) {fo : EF} (hf : f ∈ HasT.F) (ho : PE X o (tE X W (fo C))) (hb : attributeBase o f X.env (eval o X.env) = eval o X.env) : PE X (.Attribute o f pos) (tE X W (fldF f fo C)) :=
  PE.weak (pe_fld ho hb) fun σ H Q ⟨L, h, env, hr, sr, hp⟩ => ⟨L, h, env, hr, sr, pRg.then_ hp fun d h1 L1 H1 v le kp hr1 r1 hp1 => by
    split at hp1
    · rename_i q eq
      obtain ⟨c, fs⟩ := q
      obtain ⟨q, a, dx, us, rfl, rfl, e0, ea, q1, r2, cl, na⟩ := obj_of hr1 r1 eq
      rcases r2.get f with ⟨z, _⟩ | ⟨d', v', z1, z2, z3⟩
      · simp only [z] at hp1
        exact hp1.elim
      · simp only [z1] at hp1
        exact ⟨a, _, dx, us, v', rfl, q1, cl, na f hf, z2, here hr1 hp1 z3⟩
    · exact hp1.elim⟩
theorem s_atS {f : Str} (C : Or) {fo fe : EF} (hf : f ∈ HasT.F) (he : PE X e (tE X W (fe C))) (ho : PE X o (tE X W (fo C))) (hs : swapsWith e (some (.Attribute o f pos')) pos.line X.env = pure false) :
    PS X (.Assign [.Attribute o f pos'] e pos) (tS X W (atS fo f fe C)) :=
  PS.weak (ps_fld ho he hs) fun D_ σ H ⟨L, h, env, hr, sr, hp⟩ => ⟨L, h, env, hr, sr, pS.then_ sr hp fun d h1 L1 H1 v le kp hr1 r1 hp1 => ⟨L1, h1, env, hr1, sr.mono le kp, pS.then_ (sr.mono le kp) hp1 fun x h2 L2 H2 vx le2 kp2 hr2 r2 hp2 => by
    split at hp2
    · rename_i h3 e3
      unfold setO at e3
      split at e3
      · rename_i q
        split at e3
        · rename_i c fs e0
          split at e3
          · rename_i hz
            cases e3
            cases r2 with
            | @ref _ a ea =>
              obtain ⟨⟨dx, us, q1, r3⟩, cl, na⟩ := hr2.oj.obj q a c fs e0 ea
              exact ⟨a, _, dx, us, rfl, q1, cl, na f hf, by rw [← r3.len]; exact hz, hp2 L2 _ σ (LE.refl _) (Keep.setO q1) (hr2.setO e0 ea q1 (r3.put f (r1.mono le2 kp2))) (((sr.mono le kp).mono le2 kp2).mono (LE.refl _) (Keep.setO q1))⟩
          · cases e3
        · cases e3
      · cases e3
    · exact hp2.elim⟩⟩
/-- what is asked of a class's __init__, of a method -/
theorem new_read {mg : Str → Option Value} {K : PySem.W.Frag} {np : Nat} {c : Str} {Fc : List D → Hv → R D} {L1 : List Addr} {H1 : Hp} {h1 : Hv} {W : WX} {σ : L2.St} {Q : VK} {ds : List D} {vs : List V} {x dx : Addr} (hl : ∀ ds h, ds.length ≠ np → Fc ds h = .stuck) (cl : Cls K (HasT.C c)) (na : ∀ f ∈ HasT.F, NoAttr K (HasT.C c) f)
    (hr1 : HR K L1 H1 h1) (r1 : Rels K L1 H1 ds vs) (hp1 : pR K mg L1 H1 W σ Q ((Fc (.ref h1.length :: ds) (h1 ++ [.obj c []])).bind fun d h2 => match d with
      | .non => .ok (.ref h1.length) h2
      | _ => .stuck)) (nx : H1 x = none) (ndx : H1 dx = none) (ne : dx ≠ x) :
    spOf K mg np Fc (.ref x :: vs) (upd (upd H1 dx (.own x)) x (.ins (HasT.C c) dx [])) (fun v H2 => v = .non ∧ Q (.ref x) H2) (WE W σ) := by
  have nx2 : upd H1 dx (.own x) x = none := by rw [upd_ne (Ne.symm ne)]; exact nx
  have k1 : Keep K H1 (upd (upd H1 dx (.own x)) x (.ins (HasT.C c) dx [])) := (Keep.new ndx).trans (Keep.new nx2)
  have hr2 : HR K (L1 ++ [x]) (upd (upd H1 dx (.own x)) x (.ins (HasT.C c) dx [])) (h1 ++ [.obj c []]) := by
    refine HR.appO ((hr1.new ndx).new nx2) upd_same FRs.nil cl na fun i c' fs' e1 e2 => ?_
    obtain ⟨⟨dx', us, q, _⟩, _⟩ := hr1.oj.obj i x c' fs' e1 e2
    rw [nx] at q
    cases q
  have rx : Rel K (L1 ++ [x]) (upd (upd H1 dx (.own x)) x (.ins (HasT.C c) dx [])) (.ref h1.length) (.ref x) := .ref (by rw [← hr1.len]; simp)
  refine ⟨?_, L1 ++ [x], h1 ++ [.obj c []], .ref h1.length :: ds, hr2, .cons rx (r1.mono (LE.app _ _) k1), ?_⟩
  · by_cases q : (D.ref h1.length :: ds).length = np
    · rw [← q]; simp [r1.len]
    · rw [hl _ _ q] at hp1
      exact hp1.elim
  · have hp2 : pR K mg (L1 ++ [x]) (upd (upd H1 dx (.own x)) x (.ins (HasT.C c) dx [])) W σ Q _ := pRg.mono hp1 (LE.app _ _) k1
    refine pR.at_ (pRg.then_ (β := V) (REST := fun v H2 => v = .non ∧ Q (.ref x) H2) hp2 fun d h2 L2 H2 v le2 kp2 hr3 r3 hp3 => ?_) fun _ _ _ w => w
    cases r3 with
    | non => exact ⟨rfl, hp3 L2 H2 _ (LE.refl _) (Keep.refl _) hr3 (rx.mono le2 kp2)⟩
    | _ => exact hp3.elim
theorem r_new {x : Str} {es : List Expr} (C : Or) {fs : List EF} {k : Nat} {f : Addr} {fd : FuncData} {ps : List Str} (tk : Takes X W) (M : Mk X.K (HasT.C x) f) (cl : Cls X.K (HasT.C x)) (na : ∀ g ∈ HasT.F, NoAttr X.K (HasT.C x) g)
    (F : FnOk X.prog X.w X.K X.mg X.base (L2.CX X.prog X.w) k f fd ps (spOf X.K X.mg ps.length (C (x ++ ".__init__")))) (hl : ∀ ds h, ds.length ≠ ps.length → C (x ++ ".__init__") ds h = .stuck) (hr : Room (k + 1) X.A) (hg : Gl X x) (hm : X.mg x = some (.ref (HasT.C x))) (hb : Binds X.K fd ps [])
    (ha : PA X (e :: es) (tA X W (listF fs C))) (hdb : (x == ("__debug__" : Str)) = false) (he : starEach (e :: es) X.env = (false, eval e X.env) :: starEach es X.env) (hpl : (backTo pos (starEach es X.env)).any (·.1) = false) :
    PE X (.Call (.Name x p) (e :: es) [] pos) (tE X W (newF x fs C)) :=
  PE.weak (pe_makeS M F hr hg hm hb (fun σ => passAt tk σ) ha hdb he hpl) fun σ H Q ⟨L, h, env, hr0, sr, hp⟩ => ⟨L, h, env, hr0, sr, pRg.then_ hp fun ds h1 L1 H1 vs le kp hr1 r1 hp1 => fun x dx nx ndx ne => new_read hl cl na hr1 r1 hp1 nx ndx ne⟩
theorem r_new0 {x : Str} (C : Or) {k : Nat} {f : Addr} {fd : FuncData} {ps : List Str} (tk : Takes X W) (M : Mk X.K (HasT.C x) f) (cl : Cls X.K (HasT.C x)) (na : ∀ g ∈ HasT.F, NoAttr X.K (HasT.C x) g)
    (F : FnOk X.prog X.w X.K X.mg X.base (L2.CX X.prog X.w) k f fd ps (spOf X.K X.mg ps.length (C (x ++ ".__init__")))) (hl : ∀ ds h, ds.length ≠ ps.length → C (x ++ ".__init__") ds h = .stuck) (hr : Room (k + 1) X.A) (hg : Gl X x) (hm : X.mg x = some (.ref (HasT.C x))) (hb : Binds X.K fd ps [])
    (hdb : (x == ("__debug__" : Str)) = false) : PE X (.Call (.Name x p) [] [] pos) (tE X W (newF x [] C)) :=
  PE.weak (pe_makeS0 M F hr hg hm hb (fun σ => passAt tk σ) hdb) fun σ H Q ⟨L, h, env, hr0, sr, hp⟩ => fun x dx nx ndx ne => new_read (ds := []) (vs := []) hl cl na hr0 .nil hp nx ndx ne
theorem mth_read {mg : Str → Option Value} {K : PySem.W.Frag} {np : Nat} {Fc : List D → Hv → R D} {L : List Addr} {H : Hp} {h : Hv} {W : WX} {σ : L2.St} {Q : VK} {d : D} {v : V} {ds : List D} {vs : List V} (hl : ∀ ds h, ds.length ≠ np → Fc ds h = .stuck) (hr : HR K L H h) (rd : Rel K L H d v) (rs : Rels K L H ds vs) (hp : pR K mg L H W σ Q (Fc (d :: ds) h)) :
    spOf K mg np Fc (v :: vs) H Q (WE W σ) := by
  refine ⟨?_, L, h, d :: ds, hr, .cons rd rs, pR.at_ hp fun _ _ _ w => w⟩
  by_cases q : (d :: ds).length = np
  · rw [← q]; simp [rs.len]
  · rw [hl _ _ q] at hp
    exact hp.elim
theorem r_mth {m c : Str} {es : List Expr} (C : Or) {fo : EF} {fs : List EF} {k : Nat} {f : Addr} {fd : FuncData} {ps : List Str} (tk : Takes X W) (cl : Cls X.K (HasT.C c)) (hm : Meth X.K (HasT.C c) m f)
    (F : FnOk X.prog X.w X.K X.mg X.base (L2.CX X.prog X.w) k f fd ps (spOf X.K X.mg ps.length (C (c ++ "." ++ m)))) (hl : ∀ ds h, ds.length ≠ ps.length → C (c ++ "." ++ m) ds h = .stuck) (hr : Room k X.A) (hb : Binds X.K fd ps []) (ho : PE X o (tE X W (fo C))) (ha : PA X (e :: es) (tA X W (listF fs C)))
    (hbase : attributeBase o m X.env (eval o X.env) = eval o X.env) (hf : methodCallForm ((e :: es).length + ([] : List Keyword).length) (backTo pos (starEach (e :: es) X.env)) (backToKw pos (keywordEach [] X.env)) = true) (hline : (apos.endLine == pos.line) = true)
    (hst : starEach (e :: es) X.env = (false, eval e X.env) :: starEach es X.env) (hpl : (backTo pos (starEach es X.env)).any (·.1) = false) : PE X (.Call (.Attribute o m apos) (e :: es) [] pos) (tE X W (mthF c m fo fs C)) :=
  PE.weak (pe_methS ho cl hm F hr hb (fun σ => passAt tk σ) ha hbase hf hline hst hpl) fun σ H Q ⟨L, h, env, hr0, sr, hp⟩ => ⟨L, h, env, hr0, sr, pRg.then_ hp fun d h1 L1 H1 v le kp hr1 r1 hp1 => by
    split at hp1
    · rename_i q eq
      obtain ⟨c', fs'⟩ := q
      obtain ⟨q, a, dx, us, rfl, rfl, e0, ea, q1, r2, _, _⟩ := obj_of hr1 r1 eq
      split at hp1
      · rename_i hc
        obtain ⟨rfl, hn⟩ := hc
        have un : us.lookup m = none := by
          rcases r2.get m with ⟨_, z⟩ | ⟨d', v', z1, _, _⟩
          · exact z
          · rw [hn] at z1; cases z1
        exact ⟨a, dx, us, rfl, q1, un, L1, h1, env, hr1, sr.mono le kp, pRg.then_ hp1 fun ds h2 L2 H2 vs le2 kp2 hr2 r3 hp2 => mth_read hl hr2 (r1.mono le2 kp2) r3 hp2⟩
      · exact hp1.elim
    · exact hp1.elim⟩
theorem r_mth0 {m c : Str} (C : Or) {fo : EF} {k : Nat} {f : Addr} {fd : FuncData} {ps : List Str} (tk : Takes X W) (cl : Cls X.K (HasT.C c)) (hm : Meth X.K (HasT.C c) m f)
    (F : FnOk X.prog X.w X.K X.mg X.base (L2.CX X.prog X.w) k f fd ps (spOf X.K X.mg ps.length (C (c ++ "." ++ m)))) (hl : ∀ ds h, ds.length ≠ ps.length → C (c ++ "." ++ m) ds h = .stuck) (hr : Room k X.A) (hb : Binds X.K fd ps []) (ho : PE X o (tE X W (fo C)))
    (hbase : attributeBase o m X.env (eval o X.env) = eval o X.env) (hline : (apos.endLine == pos.line) = true) : PE X (.Call (.Attribute o m apos) [] [] pos) (tE X W (mthF c m fo [] C)) :=
  PE.weak (pe_methS0 ho cl hm F hr hb (fun σ => passAt tk σ) hbase hline) fun σ H Q ⟨L, h, env, hr0, sr, hp⟩ => ⟨L, h, env, hr0, sr, pRg.then_ hp fun d h1 L1 H1 v le kp hr1 r1 hp1 => by
    split at hp1
    · rename_i q eq
      obtain ⟨c', fs'⟩ := q
      obtain ⟨q, a, dx, us, rfl, rfl, e0, ea, q1, r2, _, _⟩ := obj_of hr1 r1 eq
      split at hp1
      · rename_i hc
        obtain ⟨rfl, hn⟩ := hc
        have un : us.lookup m = none := by
          rcases r2.get m with ⟨_, z⟩ | ⟨d', v', z1, _, _⟩
          · exact z
          · rw [hn] at z1; cases z1
        exact ⟨a, dx, us, rfl, q1, un, mth_read (ds := []) (vs := []) hl hr1 r1 .nil hp1⟩
      · exact hp1.elim
    · exact hp1.elim⟩
/-- xs.pop() -/
theorem m_pop0 : OkM X W mPop0 rPop := by
  intro L H h σ d v ds vs Q hr r rs hp
  unfold mPop0 at hp
  split at hp
  · rename_i p
    split at hp
    · rename_i ds e0
      split at hp
      · rename_i d hd
        cases r with
        | @ref _ a ea =>
          cases rs
          obtain ⟨xs, q, s⟩ := hr.lst p a ds e0 ea
          obtain ⟨y, hy, ry⟩ := s.get hd
          rw [s.len] at hy
          have s2 : Rels X.K L H ds.dropLast xs.dropLast := by
            rw [List.dropLast_eq_take, List.dropLast_eq_take, s.len]
            exact s.take _
          exact ⟨a, xs, y, rfl, rfl, q, hy, hp L _ _ (LE.refl _) (Keep.setL q) (hr.set e0 ea s2) (ry.mono (LE.refl _) (Keep.setL q))⟩
      · exact hp.elim
    · exact hp.elim
  · exact hp.elim
end
end VM

set_option maxRecDepth 100000
set_option maxHeartbeats 1000000
namespace VM
open PySem PySem.Spec PyProof.Rows L2 HT
variable [HasT]
/-! texts -/
theorem strs_rel {K : PySem.W.Frag} {L : List Addr} {H : Hp} : ∀ {ds : List D} {vs : List V} {ys : List Str}, Rels K L H ds vs → strsD ds = some ys → vs = ys.map V.str
  | [], _, ys, r, e => by
    cases r
    cases e
    rfl
  | d :: ds, _, ys, r, e => by
    cases r with
    | @cons _ _ v vs r1 rs =>
      cases r1 with
      | str z =>
        obtain ⟨zs, e1, rfl⟩ := Option.map_eq_some_iff.mp (show (strsD ds).map (z :: ·) = some ys from e)
        rw [strs_rel rs e1]
        rfl
      | _ => cases e
theorem rels_strs {K : PySem.W.Frag} {L : List Addr} {H : Hp} : ∀ ys : List Str, Rels K L H (ys.map D.str) (ys.map V.str)
  | [] => .nil
  | y :: ys => .cons (.str y) (rels_strs ys)
section
variable {X : Cx} {W : WX} {pos : Pos}
theorem r_meth1 {o e : Expr} {name : Str} {apos : Pos} {id : String} {g : Str → D → Hv → R D} {r : V → List V → Hp → VK → Prop} (C : Or) {fo fe : EF} (slot : Slot "str" name id) (hty : typeOf (.builtin id) = pure (.type "method_descriptor")) (rule : MtR X id r)
    (ok : ∀ L H h σ a d v Q, HR X.K L H h → Rel X.K L H d v → pR X.K X.mg L H W σ Q (g a d h) → r (.str a) [v] H Q) (ho : PE X o (tE X W (fo C))) (he : PE X e (tE X W (fe C))) (hs : starEach [e] X.env = [(false, eval e X.env)])
    (hbase : attributeBase o name X.env (eval o X.env) = eval o X.env) (hline : (apos.endLine == pos.line) = true) : PE X (.Call (.Attribute o name apos) [e] [] pos) (tE X W (methS g fo fe C)) :=
  PE.weak (pe_m1 slot hty rule ho he hs hbase hline) fun σ H Q ⟨L, h, env, hr, sr, hp⟩ => ⟨L, h, env, hr, sr, pRg.then_ hp fun d h1 L1 H1 v le kp hr1 r1 hp1 => by
    cases r1 with
    | str z => exact ⟨⟨z, rfl⟩, L1, h1, env, hr1, sr.mono le kp, pRg.then_ hp1 fun d2 h2 L2 H2 v2 le2 kp2 hr2 r2 hp2 => ok L2 H2 h2 σ z d2 v2 Q hr2 r2 hp2⟩
    | _ => exact hp1.elim⟩
theorem m_join : ∀ L H h σ a d v Q, HR X.K L H h → Rel X.K L H d v → pR X.K X.mg L H W σ Q (mJoin a d h) → (fun (x : V) (xs : List V) (H : Hp) (Q : VK) => ∃ a p, ∃ ys : List Str, x = .str a ∧ xs = [.ref p] ∧ (SqL X.K H p (ys.map V.str) ∨ SqT X.K H p (ys.map V.str)) ∧
    (ys.map (·.length)).sum + ys.length * a.length ≤ 16777216 ∧ Q (.str (Txt.join a ys)) H) (.str a) [v] H Q := by
  intro L H h σ a d v Q hr r hp
  unfold mJoin at hp
  split at hp
  · rename_i ys e
    obtain ⟨z, e1, e2⟩ := Option.bind_eq_some_iff.mp e
    obtain ⟨p, xs, rfl, sq, s⟩ := seq_of hr r e1
    have ex := strs_rel s e2
    subst ex
    split at hp
    · rename_i hz
      exact ⟨a, p, ys, rfl, rfl, sq, Nat.le_trans hz (by decide), here hr hp (.str _)⟩
    · exact hp.elim
  · exact hp.elim
theorem m_split : ∀ L H h σ a d v Q, HR X.K L H h → Rel X.K L H d v → pR X.K X.mg L H W σ Q (mSplit a d h) → (fun (x : V) (xs : List V) (H : Hp) (Q : VK) => ∃ a b, x = .str a ∧ xs = [.str b] ∧ (b.length == 0) = false ∧ a.length + 2 ≤ sizeLine ∧ rNewStrs (Txt.split a b) H Q) (.str a) [v] H Q := by
  intro L H h σ a d v Q hr r hp
  unfold mSplit at hp
  split at hp
  · rename_i b
    cases r
    split at hp
    · rename_i hz
      refine ⟨a, b, rfl, rfl, by simpa using hz.1, ?_, fun p np => allocd hr (rels_strs _) np hp⟩
      have h1 := hz.2
      have h2 : szl + 2 ≤ sizeLine := by rw [sizeLine_eq]; decide
      omega
    · exact hp.elim
  · exact hp.elim
theorem r_join {o e : Expr} {apos : Pos} (C : Or) {fo fe : EF} (ho : PE X o (tE X W (fo C))) (he : PE X e (tE X W (fe C))) (hs : starEach [e] X.env = [(false, eval e X.env)]) (hbase : attributeBase o "join" X.env (eval o X.env) = eval o X.env) (hline : (apos.endLine == pos.line) = true) :
    PE X (.Call (.Attribute o "join" apos) [e] [] pos) (tE X W (methS mJoin fo fe C)) := r_meth1 C PySem.F.slot_str_join PySem.F.type_str_join mt_join m_join ho he hs hbase hline
theorem r_split {o e : Expr} {apos : Pos} (C : Or) {fo fe : EF} (ho : PE X o (tE X W (fo C))) (he : PE X e (tE X W (fe C))) (hs : starEach [e] X.env = [(false, eval e X.env)]) (hbase : attributeBase o "split" X.env (eval o X.env) = eval o X.env) (hline : (apos.endLine == pos.line) = true) :
    PE X (.Call (.Attribute o "split" apos) [e] [] pos) (tE X W (methS mSplit fo fe C)) := r_meth1 C PySem.F.slot_str_split PySem.F.type_str_split mt_split m_split ho he hs hbase hline
/-! f-strings -/
theorem r_fmt {e : Expr} (C : Or) {fe : EF} (he : PE X e (tE X W (fe C))) : PE X (.FormattedValue e (-1) none pos) (tE X W (un1F opFmt fe C)) :=
  PE.weak (pe_fmt he) fun σ H Q ⟨L, h, env, hr, sr, hp⟩ => ⟨L, h, env, hr, sr, pRg.then_ hp fun d h1 L1 H1 v le kp hr1 r1 hp1 => by
    cases r1 with
    | str z =>
      simp only [opFmt] at hp1
      split at hp1
      · rename_i hz; exact .inl ⟨z, rfl, Nat.le_trans hz szl_le, here hr1 hp1 (.str _)⟩
      · exact hp1.elim
    | int i =>
      simp only [opFmt] at hp1
      split at hp1
      · rename_i hz; exact .inr ⟨i, rfl, hz, here hr1 hp1 (.str _)⟩
      · exact hp1.elim
    | _ => exact hp1.elim⟩
theorem fs_read (C : Or) {env : Env} {σ : L2.St} {Q : VK} : ∀ (fs : List EF) (acc : Str) (L : List Addr) (H : Hp) (h : Hv), HR X.K L H h → SRel X.K L H env σ → pR X.K X.mg L H W σ Q (fsL C env fs acc h) → tJs (fs.map fun f => tE X W (f C)) acc σ H fun out H1 => Q (.str out) H1
  | [], acc, L, H, h, hr, sr, hp => here hr hp (.str acc)
  | f :: fs, acc, L, H, h, hr, sr, hp => ⟨L, h, env, hr, sr, pRg.then_ hp fun d h1 L1 H1 v le kp hr1 r1 hp1 => by
    cases r1 with
    | str y =>
      simp only at hp1
      split at hp1
      · rename_i hz
        exact ⟨y, rfl, Nat.le_trans hz szl_le, fs_read C fs (acc ++ y) L1 H1 h1 hr1 (sr.mono le kp) hp1⟩
      · exact hp1.elim
    | _ => exact hp1.elim⟩
theorem r_joined {v1 v2 : Expr} {rest : List Expr} (C : Or) {fs : List EF} (h : PJ X (v1 :: v2 :: rest) (fs.map fun f => tE X W (f C))) : PE X (.JoinedStr (v1 :: v2 :: rest) pos) (tE X W (fstF fs C)) :=
  PE.weak (pe_joined h) fun σ H Q ⟨L, h, env, hr, sr, hp⟩ => fs_read C fs Str.empty L H h hr sr hp
/-! a table of the top -/
/-- the name is there a dict of texts to numbers -/
def DctOk (K : PySem.W.Frag) (w : World) (mg : Str → Option Value) (x : Str) (kvs : List (Str × Int)) : Prop :=
  ∃ d es n, mg x = some (.ref d) ∧ KDict K w d es n ∧ ∀ z, (∀ i, kvs.lookup z = some i → ∃ t, PySem.W.nsIn K d z = some (some (.int i t))) ∧ (kvs.lookup z = none → PySem.W.nsIn K d z = some none)
theorem DctOk.here {K : PySem.W.Frag} {d : Addr} {kvs : List (Str × Int)} {z : Str} (h : (∀ i, kvs.lookup z = some i → ∃ t, PySem.W.nsIn K d z = some (some (.int i t))) ∧ (kvs.lookup z = none → PySem.W.nsIn K d z = some none)) : ∃ r, PySem.W.nsIn K d z = some r ∧ r.isSome = (kvs.lookup z).isSome := by
  cases e : kvs.lookup z with
  | none => exact ⟨none, h.2 e, rfl⟩
  | some i =>
    obtain ⟨t, q⟩ := h.1 i e
    exact ⟨_, q, rfl⟩
theorem in_read {neg : Bool} {a : Expr} {x : Str} {p : Pos} {kvs : List (Str × Int)} {d : Addr} (C : Or) {fa : EF} (kv : ∀ z, (∀ i, kvs.lookup z = some i → ∃ t, PySem.W.nsIn X.K d z = some (some (.int i t))) ∧ (kvs.lookup z = none → PySem.W.nsIn X.K d z = some none)) {σ : L2.St} {H : Hp} {Q : VK}
    (h : tE X W (un1F (opInK neg kvs) fa C) σ H Q) : tE X W (fa C) σ H fun x H1 => ∃ (z : Str) (r : Option Value), x = .str z ∧ V.ref d = .ref d ∧ PySem.W.nsIn X.K d z = some r ∧ Q (.bl (if neg then !r.isSome else r.isSome)) H1 := by
  obtain ⟨L, h, env, hr, sr, hp⟩ := h
  refine ⟨L, h, env, hr, sr, pRg.then_ hp fun d1 h1 L1 H1 v le kp hr1 r1 hp1 => ?_⟩
  cases r1 with
  | str z =>
    obtain ⟨r, e1, e2⟩ := DctOk.here (kv z)
    refine ⟨z, r, rfl, rfl, e1, ?_⟩
    rw [e2]
    exact VM.here hr1 hp1 (.bl _)
  | _ => exact hp1.elim
theorem r_inK {a : Expr} {x : Str} {p : Pos} {kvs : List (Str × Int)} (C : Or) {fa : EF} (hg : Gl X x) (D : DctOk X.K X.w X.mg x kvs) (hd : (x == ("__debug__" : Str)) = false) (ha : PE X a (tE X W (fa C))) :
    PE X (.Compare a [.In] [.Name x p] pos) (tE X W (un1F (opInK false kvs) fa C)) ∧ PT X (.Compare a [.In] [.Name x p] pos) (tB X W (un1F (opInK false kvs) fa C)) := by
  obtain ⟨d, es, n, hm, D, kv⟩ := D
  exact ⟨PE.weak (pe_cmpR (op_in_kd D) ha (pe_glob (v := .ref d) hg hm rfl hd) rfl) fun σ H Q h => in_read (neg := false) (a := a) (x := x) (p := p) C kv h,
    PT.weak (pt_cmpR (op_in_kd D) ha (pe_glob (v := .ref d) hg hm rfl hd) rfl) fun σ H Q ⟨L, h, env, hr, sr, hp⟩ => in_read (neg := false) (a := a) (x := x) (p := p) C kv ⟨L, h, env, hr, sr, hp.toR⟩⟩
theorem r_notInK {a : Expr} {x : Str} {p : Pos} {kvs : List (Str × Int)} (C : Or) {fa : EF} (hg : Gl X x) (D : DctOk X.K X.w X.mg x kvs) (hd : (x == ("__debug__" : Str)) = false) (ha : PE X a (tE X W (fa C))) :
    PE X (.Compare a [.NotIn] [.Name x p] pos) (tE X W (un1F (opInK true kvs) fa C)) ∧ PT X (.Compare a [.NotIn] [.Name x p] pos) (tB X W (un1F (opInK true kvs) fa C)) := by
  obtain ⟨d, es, n, hm, D, kv⟩ := D
  exact ⟨PE.weak (pe_cmpR (op_notIn_kd D) ha (pe_glob (v := .ref d) hg hm rfl hd) rfl) fun σ H Q h => in_read (neg := true) (a := a) (x := x) (p := p) C kv h,
    PT.weak (pt_cmpR (op_notIn_kd D) ha (pe_glob (v := .ref d) hg hm rfl hd) rfl) fun σ H Q ⟨L, h, env, hr, sr, hp⟩ => in_read (neg := true) (a := a) (x := x) (p := p) C kv ⟨L, h, env, hr, sr, hp.toR⟩⟩
theorem r_ixK {b : Expr} {x : Str} {p : Pos} {kvs : List (Str × Int)} (C : Or) {fb : EF} (hg : Gl X x) (D : DctOk X.K X.w X.mg x kvs) (hd : (x == ("__debug__" : Str)) = false) (hb : PE X b (tE X W (fb C))) (hs : PlainIx b) :
    PE X (.Subscript (.Name x p) b pos) (tE X W (un1F (opIxK kvs) fb C)) := by
  obtain ⟨d, es, n, hm, D, kv⟩ := D
  exact PE.weak (pe_ix ix_kdict (pe_glob (v := .ref d) hg hm rfl hd) hb hs) fun σ H Q ⟨L, h, env, hr, sr, hp⟩ => ⟨L, h, env, hr, sr, pRg.then_ hp fun d1 h1 L1 H1 v le kp hr1 r1 hp1 => by
    cases r1 with
    | str z =>
      simp only [opIxK] at hp1
      split at hp1
      · rename_i i e
        obtain ⟨t, q⟩ := (kv z).1 i e
        exact ⟨d, z, .int i, rfl, rfl, ⟨es, n, _, D.at_, D.lit, q, ⟨t, rfl⟩⟩, VM.here hr1 hp1 (.int _)⟩
      · exact hp1.elim
    | _ => exact hp1.elim⟩
end
end VM

set_option maxRecDepth 100000
set_option maxHeartbeats 1000000
namespace VM
open PySem PySem.Spec PyProof.Rows L2 HT
/-! a token is out: replace is told only then -/
theorem keep1 {α : Type} {M : Model} {A : Around} {t : Sem α} {Q : α → Shared → Prop} {E : Value → Shared → Prop} {s : Shared} (n1 : 1 ≤ s.toks) (h : wpAny M A t (fun a z => 1 ≤ z.toks → Q a z) E s) : wpAny M A t Q E s :=
  wpAny_mono (PySem.wpAny_toks_of n1 h) (fun _ _ w => w.2 w.1) (fun _ _ w => w.2)
def PT1 (X : Cx) (c : Expr) (t : TT) : Prop := ∀ (pins : List (Addr × Obj)) (s : Shared) (σ : L2.St) (H : Hp) (Q : Bool → Hp → Prop), 1 ≤ s.toks → Inv X pins σ H s → t σ H Q → wpAny (model X.prog X.w) X.A (isTrue c X.env (eval c X.env)) (TP X pins σ Q) X.xe s
/-- a test that gives a token out -/
def PTk (X : Cx) (c : Expr) (t : TT) : Prop := ∀ (pins : List (Addr × Obj)) (s : Shared) (σ : L2.St) (H : Hp) (Q : Bool → Hp → Prop), Inv X pins σ H s → t σ H Q → wpAny (model X.prog X.w) X.A (isTrue c X.env (eval c X.env)) (fun b z => 1 ≤ z.toks ∧ TP X pins σ Q b z) X.xe s
section
variable {X : Cx} {e o : Expr} {te : TE}
theorem PT1.of {c : Expr} {t : TT} (h : PT X c t) : PT1 X c t := fun pins s σ H Q _ I q => h.run pins s σ H Q I q
theorem PET.weak {t u : TE} (h : PET X e t) (w : ∀ σ H Q, u σ H Q → t σ H Q) : PET X e u := fun pins s σ H Q n I q => h pins s σ H Q n I (w σ H Q q)
theorem PST.weak {st : Stmt} {t u : TS} (h : PST X st t) (w : ∀ D σ H, u D σ H → t D σ H) : PST X st u := fun pins s σ H D n I q => h pins s σ H D n I (w D σ H q)
theorem PSsT.weak {st : List Stmt} {t u : TS} (h : PSsT X st t) (w : ∀ D σ H, u D σ H → t D σ H) : PSsT X st u := fun pins s σ H D n I q => h pins s σ H D n I (w D σ H q)
/-- x.m(e), of a text that asks for a token -/
theorem pe1_m1 {id : String} {name : Str} {apos pos : Pos} {to : TE} {r : V → List V → Hp → VK → Prop} (slot : Slot "str" name id) (ty : typeOf (.builtin id) = pure (.type "method_descriptor")) (rule : MtR X id r) (ho : PET X o to) (he : PE X e te)
    (hs : starEach [e] X.env = [(false, eval e X.env)]) (hbase : attributeBase o name X.env (eval o X.env) = eval o X.env) (hline : (apos.endLine == pos.line) = true) : PET X (.Call (.Attribute o name apos) [e] [] pos) (tM1 r to te) := by
  intro pins s σ H Q n1 I q
  refine PySem.Call_method1 hbase hs hline (thn (ho pins s σ H _ n1 I q) ?_)
  rintro v s1 ⟨x, H1, I1, rv, ⟨a, rfl⟩, q1⟩
  obtain ⟨t, rfl⟩ := _root_.id rv
  refine ⟨"str", _, F.plainAttrs_str, slot, ty, typeIs_str _ _ _, nofun, Calls.callWith_builtin rfl (Calls.evalArgs_plain (Calls.spliced_cons (thn (he.run pins s1 σ H1 _ I1 q1) ?_)))⟩
  rintro u s2 ⟨y, H2, I2, r2, q2⟩
  exact Calls.spliced_nil (rule pins s2 σ H2 _ [y] _ [u] Q I2 rv (.cons r2 .nil) q2)
/-- f(e), f a built-in -/
theorem pe1_blt {x : Str} {id : String} {p pos : Pos} {es : List Expr} {t : TA} {r : List V → Hp → VK → Prop} (hc : CallR X (.builtin id) r) (hg : Gl X x) (hm : X.mg x = none) (hv : bootBuiltins x = some (.builtin id)) (ha : PAT X (e :: es) t) (hn : x ≠ "__name__") (hdb : (x == ("__debug__" : Str)) = false)
    (he : starEach (e :: es) X.env = (false, eval e X.env) :: starEach es X.env) (hpl : (backTo pos (starEach es X.env)).any (·.1) = false) : PET X (.Call (.Name x p) (e :: es) [] pos) (tCB r t) := by
  intro pins s σ H Q n1 I q
  refine wpAny_Call_Name_kw (ld_blt I hg hm hv (PyProof.Rows.callWith_builtin1 (thn (ha pos pins s σ H _ n1 I q) ?_) he hpl) hn hdb)
  rintro us s1 ⟨vs, H1, I1, r1, q1⟩
  exact hc pins s1 σ H1 vs us Q I1 r1 q1
/-- a test by a value -/
theorem pt1_val (h : PET X e te) (he : ∀ whole, isTrue e X.env whole = (do let v ← whole; standAt e.pos; holding [v] (truthy v))) : PT1 X e (L2.tB te) := by
  intro pins s σ H Q n1 I q
  refine isTrue_plain (thn (h pins s σ H _ n1 I q) ?_) (he _)
  rintro v s1 ⟨x, H1, I1, rv, b, rfl, q1⟩
  cases rv
  exact wpAny_truthy_bool ⟨H1, I1, q1⟩
theorem pst1_if {c : Expr} {a b : List Stmt} {tc : TT} {t u : TS} {pos : Pos} (hc : PT1 X c tc) (ha : PSsT X a t) (hb : PSsT X b u) : PST X (.If c a b pos) (tIfS tc t u) := by
  intro pins s σ H D n1 I q
  refine wpAny_If (wpAny_mono (PySem.wpAny_toks_of n1 (hc pins s σ H _ n1 I q)) ?_ fun _ _ z => z.2)
  rintro d s1 ⟨n2, H1, I1, q1⟩
  cases d
  · exact hb pins s1 σ H1 D n2 I1 q1
  · exact ha pins s1 σ H1 D n2 I1 q1
/-- the first branch that gives a token out -/
theorem psk_if {c : Expr} {a b : List Stmt} {tc : TT} {t u : TS} {pos : Pos} (hc : PTk X c tc) (ha : PSsT X a t) (hb : PSsT X b u) (pins : List (Addr × Obj)) (s : Shared) (σ : L2.St) (H : Hp) (D : Ends) (I : Inv X pins σ H s) (q : tIfS tc t u D σ H) :
    wpAny (model X.prog X.w) X.A (exec (.If c a b pos) X.env) (fun f z => 1 ≤ z.toks ∧ SP X pins D f z) X.xe s := by
  refine wpAny_If (thn (hc pins s σ H _ I q) ?_)
  rintro d s1 ⟨n2, H1, I1, q1⟩
  cases d
  · exact wpAny_mono (PySem.wpAny_toks_of n2 (hb pins s1 σ H1 D n2 I1 q1)) (fun _ _ z => z) fun _ _ z => z.2
  · exact wpAny_mono (PySem.wpAny_toks_of n2 (ha pins s1 σ H1 D n2 I1 q1)) (fun _ _ z => z) fun _ _ z => z.2
theorem pst1_set {i : Nat} {x : Str} {pos' pos : Pos} (hN : X.N.Nodup) (hi : X.N[i]? = some x) (hx : Loc X.env.scope x) (he : PET X e te) (hs : swapsWith e (some (.Name x pos')) pos.line X.env = pure false) (hf : X.fn x = true ∨ X.env.scope.names.lookup x = some .local) :
    PST X (.Assign [.Name x pos'] e pos) (tAsg te (gName i)) := by
  intro pins s σ H D n1 I q
  refine wpAny_Assign_Name (thn (he pins s σ H _ n1 I q) ?_) hs
  rintro v s1 ⟨y, H1, I1, rv, q1⟩
  exact store_ok I1 hN hi hx rv (fun s2 I2 => ⟨_, H1, I2, q1⟩) hf
end
section
/-- a def that is called only when a token is out -/
structure FnOk1 (P : Program) (w : World) (K : PySem.W.Frag) (mg : Str → Option Value) (base : Heap) (CX : CXT) (k : Nat) (f : Addr) (fd : FuncData) (ps : List Str) (sp : Sp) : Prop where
  len : ∀ vs H Q E, sp vs H Q E → vs.length = ps.length
  run : ∀ (A : Around) (outer : List PySem.Env) (s : Shared) (H : Hp) (args : Args) (us : List Value) (vs : List V) (Q : VK) (E : XK), 1 ≤ s.toks → Room k A → Env0 P w K mg base A outer s H → BindsTo s fd args (ps.zip us) → Vals vs us → sp vs H Q E →
    codeAny (model P w) A (.call (.ref f) args) (CR CX outer P w H s Q E) s
theorem fn_of1 {CX : CXT} {P : Program} {w : World} {K : PySem.W.Frag} {mg : Str → Option Value} {base : Heap} {k : Nat} {f : Addr} {name qual : Str} {params : Arguments} {body : List Stmt} {scope : Scope} {dV kV doc pm cdv ct oc : Value} {an od : Option Addr}
    {osl : Array (Option Value)} {N ps : List Str} {sp : Sp} (lk : K.lookup f = some ⟨oc, od, .func (PySem.W.fnOf name qual params body scope dV kV doc pm an cdv ct), osl⟩) (hcd : PySem.W.codeIn K cdv qual = true) (S : FnScope N ps scope) (len : ∀ vs H Q E, sp vs H Q E → vs.length = ps.length)
    (hbody : ∀ (A : Around) (outer : List PySem.Env) (s : Shared) (H : Hp) (vs : List V) (Q : VK) (E : XK), Room k (A.deeper (envOfC qual scope s.heap.objs.size f cdv)) → sp vs H Q E → ∃ t, PSsT (cxOf CX P w K mg base N qual scope f cdv A outer s H E) body t ∧ t { nx := fun _ H' => Q .non H', rt := Q } (L2.start N vs) H) :
    FnOk1 P w K mg base CX (k + 1) f (PySem.W.fnOf name qual params body scope dV kV doc pm an cdv ct) ps sp := by
  refine ⟨len, ?_⟩
  intro A outer s H args us vs Q E n1 room env0 bnd vals pre
  have below : ∀ b o, base.get? b = some o → s.heap.get? b = some o := fun b o z => (env0.bs b o z).1
  have KX := env0.mod.kin.keeps below
  have pars : ∀ y ∈ ps.zip us, scope.names.lookup y.1 = some .local ∨ (scope.names.lookup y.1 = some .cell ∧ ((cellsFrom (s.heap.objs.size + 1) scope.names []).lookup y.1).isSome = true) := by
    rintro ⟨n, v⟩ hy
    exact (S.par n (List.of_mem_zip hy).1).imp _root_.id fun q => ⟨q, PySem.W.cellsFrom_some _ _ _ (.inl q)⟩
  refine codeAny_call_function room.depth (KX _ _ lk) rfl S.co S.gen rfl (PySem.W.codeRec_of KX hcd) (bnd _ _ _ _ (keep1 n1 (wpAny_newFunctionEnv_cells S.kind pars ?_)))
  rintro env rfl s1 x n2
  obtain ⟨t, body_ok, ends⟩ := hbody A outer s H vs Q E (room.deeper _) pre
  refine ⟨(env0.mod.nolimit.keeps below).keeps x.toInCall.keep, codeAny_func (wpAny_mono (body_ok [] s1 (L2.start N vs) H _ n2 (inv_start S room.hd env0 (len _ _ _ _ pre) vals x) ends) ?_ fun _ _ z => z)⟩
  intro fl s' z
  cases fl with
  | ret u =>
    obtain ⟨v, _, H', J, rv, q⟩ := z
    exact ⟨v, H', J.os, J.bare, J.base, J.hok, rv, q⟩
  | next =>
    obtain ⟨_, H', J, q⟩ := z
    exact ⟨V.non, H', J.os, J.bare, J.base, J.hok, rfl, q⟩
  | brk =>
    obtain ⟨_, _, _, q⟩ := z
    exact q.elim
  | cont =>
    obtain ⟨_, _, _, q⟩ := z
    exact q.elim
variable {X : Cx} {CX : CXT} {k : Nat} {f : Addr} {fd : FuncData} {ps : List Str} {sp : Sp} {E : L2.St → XK} {x : Str} {p pos : Pos} {e : Expr} {es : List Expr} {t : TA}
theorem run_fn1 {pins : List (Addr × Obj)} {σ : L2.St} {H : Hp} {s : Shared} {Q : VK} {us : List Value} {vs : List V} (G : FnOk1 X.prog X.w X.K X.mg X.base CX k f fd ps sp) (room : Room k X.A) (bnd : Binds X.K fd ps []) (pass : PassesAt CX X σ (E σ)) (n1 : 1 ≤ s.toks)
    (I : Inv X pins σ H s) (r : Vals vs us) (pre : sp vs H Q (E σ)) : wpAny (model X.prog X.w) X.A (call (.ref f) us) (EP X pins σ Q) X.xe s := by
  have b := bnd s us I.kIn (by rw [List.append_nil, ← r.length]; exact G.len _ _ _ _ pre)
  rw [List.append_nil] at b
  refine wpAny_call (codeAny_mono (G.run X.A X.stack s H ⟨us, []⟩ us vs Q (E σ) n1 room I.env0 b r pre) ?_)
  rintro (e | fl) s' z
  · exact pass pins H s e s' I z
  · cases fl with
    | ret u => exact I.after z
    | next => exact z.elim
    | brk => exact z.elim
    | cont => exact z.elim
theorem pe1_call (G : FnOk1 X.prog X.w X.K X.mg X.base CX k f fd ps sp) (room : Room k X.A) (hg : Gl X x) (hm : X.mg x = some (.ref f)) (hk : PySem.W.keepIn X.K (.ref f) = true) (bnd : Binds X.K fd ps []) (pass : ∀ σ, PassesAt CX X σ (E σ)) (ha : PA X (e :: es) t) (hdb : (x == ("__debug__" : Str)) = false)
    (he : starEach (e :: es) X.env = (false, eval e X.env) :: starEach es X.env) (hpl : (backTo pos (starEach es X.env)).any (·.1) = false) : PET X (.Call (.Name x p) (e :: es) [] pos) (tCallS sp E t) := by
  intro pins s σ H Q n1 I q
  refine wpAny_Call_Name_kw (ld_glob I hg hm (PySem.W.callWith_K (h₀ := X.base) I.ok.mod.kin hk (wpAny_mono (PySem.wpAny_toks_of n1 (ha.run pos pins s σ H _ I q)) ?_ fun _ _ z => z.2) he hpl) hdb)
  rintro us s1 ⟨n2, vs, H1, I1, r, q1⟩
  exact ⟨I1.kIn, run_fn1 G room bnd (pass σ) n2 I1 r q1⟩
end
/-! a comprehension whose elements ask for a token -/
section
variable {X : Cx}
theorem lc1 {elt tg iter : Expr} {scope : Scope} {own : List (Str × Nat)} {pos : Pos} {wi : TI} {g : TG} {te : TE} (calm : X.calm = true) (nd : X.N.Nodup) (hi : PI X tg iter wi) (ok : BlkOk X.N X.env.scope scope own)
    (hg : ∀ (s : Shared) (H : Hp) (C : Addr) (cl : List (Str × Addr)) (fp : List Addr), PG (X.blk s H scope (compEnvC scope cl C X.env) fp) tg g)
    (he : ∀ (s : Shared) (H : Hp) (C : Addr) (cl : List (Str × Addr)) (fp : List Addr), PET (X.blk s H scope (compEnvC scope cl C X.env) fp) elt te) (hs : ∀ x, foldedSetIterable iter X.env x = pure x) {tt : TT} (yes : ∀ σ H Q, tt σ H Q → Q true H) :
    PET X (.ListComp elt [⟨tg, iter, [], 0⟩] scope pos) (tLc wi g tt te (own.map (·.2))) := by
  intro pins s0 σ H0 Q n0 I0 pre
  rw [eval_ListComp]
  have outer_free : ∀ y ∈ scope.names, y.2 = .free → ∃ c, X.env.cells.lookup y.1 = some c := fun y hy e => I0.ok.has _ ((ok.free y hy e).elim .inl .inr)
  refine wpAny_comprehension_free (use := none) rfl hs (closure_ok outer_free) ok.kind (fun y hy e => by rw [ok.uniq y hy, e]) (keep1 n0 (thn (hi.run pins s0 σ H0 _ I0 pre) ?_))
  intro xv sa iterated na
  refine keep1 na (thn iterated ?_)
  rintro itv sb ⟨it, fp, tn, J, Hb, rfl, Ib, turns, at0_, fps, q⟩ nb
  refine wpAny_newObj_type (newEnv_comp ?_) (by show 0 ≤ sizeLine; decide)
  obtain ⟨D, hD⟩ : ∃ D, D = sb.heap.objs.size := ⟨_, rfl⟩
  have freshD : Hb D = none := Ib.hok.fresh (Nat.le_of_eq hD.symm)
  obtain ⟨W, ⟨m0, w0⟩, turn⟩ := q D freshD
  obtain ⟨sc, hsc⟩ : ∃ sc : Shared, sc = { sb with heap := sb.heap.push { cls := .type "list", data := .seq ([] : List Value).toArray } } := ⟨_, rfl⟩
  obtain ⟨Hc, hHc⟩ : ∃ Hc, Hc = upd Hb D (.lst []) := ⟨_, rfl⟩
  have scn : 1 ≤ sc.toks := by rw [hsc]; exact nb
  have sch : sc.heap = sb.heap.push { cls := .type "list", data := .seq ([] : List Value).toArray } := by rw [hsc]
  have Ic : Inv X pins σ Hc sc := by
    rw [hsc, hHc]
    refine Ib.laid (t' := sb.toks) (fun b o e => Heap.get?_push_of_some _ e) (Nat.le_of_eq hD.symm) ⟨Nat.zero_le _, [], 0, .nil, ?_⟩
    rw [hD]
    exact Heap.get?_push_size _ rfl
  have small : ∀ b ∈ fp, b < sb.heap.objs.size := fun b hb => (turns.obj _ _ at0_ b hb).elim fun o z => Heap.lt_size z.1
  have fpc : ∀ b ∈ fp, FpOk X pins Hc b ∧ b < sc.heap.objs.size := by
    intro b hb
    have lt := small b hb
    have ne : Hc b = none := by rw [hHc, upd_ne (by rw [hD]; exact Nat.ne_of_lt lt)]; exact (fps b hb).1
    exact ⟨⟨ne, (fps b hb).2⟩, by rw [sch, Heap.size_push]; exact Nat.lt_succ_of_lt lt⟩
  have atc : tn 0 sc.heap := turns.keep _ _ _ at0_ fun b _ o e => by rw [sch]; exact Heap.get?_push_of_some _ e
  have Id := block_start Ic ok nd fpc
  obtain ⟨ce, hce⟩ : ∃ ce, ce = compEnvC scope (cellsFrom (sc.heap.objs.size + 1) scope.names (cloFrom X.env.cells scope.names [])) sc.heap.objs.size X.env := ⟨_, rfl⟩
  have target := hg sc Hc sc.heap.objs.size (cellsFrom (sc.heap.objs.size + 1) scope.names (cloFrom X.env.cells scope.names [])) fp
  have element := he sc Hc sc.heap.objs.size (cellsFrom (sc.heap.objs.size + 1) scope.names (cloFrom X.env.cells scope.names [])) fp
  rw [← hce] at Id target element
  have locals_ : ce.locals = sc.heap.objs.size := by rw [hce]; rfl
  obtain ⟨sd, hsd⟩ : ∃ sd : Shared, sd = { sc with heap := pushCells (sc.heap.push { cls := .type "dict", data := .dict #[] }) scope.names } := ⟨_, rfl⟩
  rw [← hsd] at Id
  have atd : tn 0 sd.heap := turns.keep _ _ _ atc fun b _ o e => by rw [hsd]; exact pushCells_keeps _ _ _ _ (Heap.get?_push_of_some _ e)
  have stays : ∀ {σ' : L2.St} {H' : Hp} {s' : Shared}, Inv (X.blk sc Hc scope ce fp) [] σ' H' s' → (∀ b ∈ fp, H' b = none) → ∀ b ∈ fp, FpOk (X.blk sc Hc scope ce fp) [] H' b := fun {σ' H' s'} I' no b hb =>
    ⟨no b hb, (I'.ok.exf b hb).1, I'.ok.exfs b hb, .inl hb, fun x c e => (I'.ok.exf b hb).2 x c e, fun p hp => by cases hp⟩
  -- back in the def
  have back : ∀ (s6 : Shared) (H5 : Hp), Inv (X.blk sc Hc scope ce fp) [] (wipe σ (own.map (·.2))) H5 s6 → Q (.ref D) H5 → compPost (model X.prog X.w) X.A X.xe none (EP X pins σ Q) (.ref D) sc.heap.objs.size (.ok .next) s6 := by
    intro s6 H5 I6 fin
    have I7 : Inv X pins σ H5 s6 := Ic.call' (ch := fp) I6.os I6.base I6.hok I6.bare fun b hb => ⟨(fpc b hb).1.2.2.2.1, (fpc b hb).1.2.1, (fpc b hb).1.2.2.2.2.1, (fpc b hb).1.2.2.2.2.2⟩
    have none_ : H5 sc.heap.objs.size = none := locals_ ▸ (show H5 ce.locals = none from I6.free)
    obtain ⟨m, names, _⟩ := I6.loc
    have names : s6.heap.Ns ce.locals m := names
    rw [locals_] at names
    obtain ⟨f0, f1, f2, f3, f4, f5⟩ := Ic.fpOk (Nat.le_refl _) none_
    refine ⟨m, names, fun h2 same => ?_⟩
    exact ⟨.ref D, H5, I7.turned (t' := s6.toks) (fun b o hb e => (same.2 b hb).trans e) f0 f1 f3 f4 f5, rfl, fin⟩
  have loop : codeAny (model X.prog X.w) X.A (.compLoop (.ListComp elt [⟨tg, iter, [], 0⟩] scope pos) 0 (.ref it) (.ref D) ce) (compPost (model X.prog X.w) X.A X.xe none (EP X pins σ Q) (.ref D) sc.heap.objs.size) sd := by
    refine compLoop_any (fun n z => 1 ≤ z.toks ∧ ∃ i H', Inv (X.blk sc Hc scope ce fp) [] (wipe σ (own.map (·.2))) H' z ∧ tn i z.heap ∧ (∀ b ∈ fp, H' b = none) ∧ W i n H') ?_ m0 ⟨by rw [hsd]; exact scn, 0, Hc, Id, atd, fun b hb => (fpc b hb).1.1, by rw [hHc]; exact w0⟩
    rintro n s5 ⟨n5, i, H5, I5, at5, no5, w5⟩
    refine keep1 n5 ?_
    rcases turn i n H5 w5 with ⟨stop, fin⟩ | ⟨go, Nx, next, step⟩
    · refine thnF (turns.done (X.blk sc Hc scope ce fp) rfl rfl rfl calm i [] s5 _ H5 (fun _ _ => False) I5 (stays I5 no5) at5 stop) ?_
      rintro r s6 ⟨rfl, I6⟩ _
      exact back s6 H5 I6 fin
    · refine thnF (turns.item (X.blk sc Hc scope ce fp) rfl rfl rfl calm i [] s5 _ H5 (fun _ _ => False) I5 (stays I5 no5) at5 go) ?_
      rintro r s6 ⟨u, rfl, taken⟩ n6
      refine keep1 n6 (thnF taken ?_)
      rintro _ s7 ⟨x, H7, I7, rv7, y7, at7, no7⟩ n7
      refine keep1 n7 (thnF (target.run _ s7 _ H7 x u _ (I7.pinned (stays I7 no7) (turns.obj _ _ at7)) rv7 (step x H7 y7)) ?_)
      rintro _ s8 ⟨σ8, H8, I8, wiped, q8⟩ n8
      refine keep1 n8 (wpAny_tests_nil ?_)
      intro n9
      have q9 := yes _ _ _ q8
      simp only [if_true] at q9
      refine keep1 n9 (thnF (element _ s8 σ8 H8 _ n9 I8 q9) ?_)
      rintro z s10 ⟨yv, H10, I10, rv10, acc, hD10, few, nx⟩ n10
      refine keep1 n10 (app_ok (X := X.blk sc Hc scope ce fp) I10 hD10 few rv10 ?_)
      intro s11 I11 n11
      obtain ⟨m', lt, w'⟩ := next _ nx
      have kept : ∀ b ∈ fp, ∀ o, s7.heap.get? b = some o → s11.heap.get? b = some o ∧ upd H10 D (.lst (acc ++ [yv])) b = none := fun b hb o e =>
        (I11.pin (b, o) (List.mem_append_right _ (List.mem_append_right _ (mem_pinsAt hb e)))).imp _root_.id (·.1)
      refine ⟨m', lt, n11, i + 1, _, (I11.unpinned (pins := [])).weak (by rw [← wiped, wipe_length]) (fun j v e => ?_), turns.keep _ _ _ at7 fun b hb o e => (kept b hb o e).1, fun b hb => ?_, w'⟩
      · rw [← wiped] at e
        exact (wipe_some e).1
      · obtain ⟨o, e, _⟩ := turns.obj _ _ at7 b hb
        exact (kept b hb o e).2
  have start := codeAny_compStart_list loop (turns.self X.A 0 _ _ _ atd loop)
  rw [hsd, hce, hsc, hD] at start
  exact start
end
end VM

set_option maxRecDepth 100000
set_option maxHeartbeats 1000000
namespace VM
open PySem PySem.Spec PyProof.Rows L2 HT
variable [HasT]
/-! with a token out: ours -/
section
variable {X : Cx} {W : WX} {o e a b c : Expr} {pos apos : Pos}
theorem pet_of {t : TE} (h : PE X e t) : PET X e t := fun pins s σ H Q _ I q => h.run pins s σ H Q I q
theorem r1_rep {y z : Str} {j k : Nat} {c0 c1 : Pos} (C : Or) {fo : EF} (ho : PE X o (tE X W (fo C))) (hyz : (y == z) = false) (hbase : attributeBase o "replace" X.env (eval o X.env) = eval o X.env) (hline : (apos.endLine == pos.line) = true) :
    PET X (.Call (.Attribute o "replace" apos) [.Constant (.str y) j c0, .Constant (.str z) k c1] [] pos) (tE X W (un1F (opRep y z) fo C)) :=
  PET.weak (CwR.pet_replC ho hyz rfl hbase hline) fun σ H Q ⟨L, h, env, hr, sr, hp⟩ => ⟨L, h, env, hr, sr, pRg.then_ hp fun d h1 L1 H1 v le kp hr1 r1 hp1 => by
    cases r1 with
    | str x =>
      simp only [opRep] at hp1
      split at hp1
      · rename_i hz
        exact ⟨x, rfl, hz, here hr1 hp1 (.str _)⟩
      · exact hp1.elim
    | _ => exact hp1.elim⟩
theorem r1_split {apos : Pos} (C : Or) {fo fe : EF} (ho : PET X o (tE X W (fo C))) (he : PE X e (tE X W (fe C))) (hs : starEach [e] X.env = [(false, eval e X.env)]) (hbase : attributeBase o "split" X.env (eval o X.env) = eval o X.env) (hline : (apos.endLine == pos.line) = true) :
    PET X (.Call (.Attribute o "split" apos) [e] [] pos) (tE X W (methS mSplit fo fe C)) :=
  PET.weak (pe1_m1 PySem.F.slot_str_split PySem.F.type_str_split mt_split ho he hs hbase hline) fun σ H Q ⟨L, h, env, hr, sr, hp⟩ => ⟨L, h, env, hr, sr, pRg.then_ hp fun d h1 L1 H1 v le kp hr1 r1 hp1 => by
    cases r1 with
    | str z => exact ⟨⟨z, rfl⟩, L1, h1, env, hr1, sr.mono le kp, pRg.then_ hp1 fun d2 h2 L2 H2 v2 le2 kp2 hr2 r2 hp2 => m_split L2 H2 h2 σ z d2 v2 Q hr2 r2 hp2⟩
    | _ => exact hp1.elim⟩
/-- e.split(".."): a token is out behind it -/
theorem rk_split {y : Str} {j : Nat} {c0 : Pos} (C : Or) {fo : EF} (ho : PE X o (tE X W (fo C))) (hbase : attributeBase o "split" X.env (eval o X.env) = eval o X.env) (hline : (apos.endLine == pos.line) = true) (pins : List (Addr × Obj)) (s : Shared) (σ : L2.St) (H : Hp) (Q : VK) (I : Inv X pins σ H s)
    (q : tE X W (methS mSplit fo (conF (.str y)) C) σ H Q) : wpAny (model X.prog X.w) X.A (eval (.Call (.Attribute o "split" apos) [.Constant (.str y) j c0] [] pos) X.env) (fun v z => 1 ≤ z.toks ∧ EP X pins σ Q v z) X.xe s := by
  obtain ⟨L, h, env, hr, sr, hp⟩ := q
  refine PySem.Call_method1 hbase rfl hline (thn (ho.run pins s σ H (fun x H1 => ∃ a : Str, x = .str a ∧ tE X W (fun env h => (conF (.str y) C env h).bind fun d h2 => mSplit a d h2) σ H1 Q) I ⟨L, h, env, hr, sr, pRg.then_ hp fun d h1 L1 H1 v le kp hr1 r1 hp1 => ?_⟩) ?_)
  · cases r1 with
    | str z => exact ⟨z, rfl, L1, h1, env, hr1, sr.mono le kp, hp1⟩
    | _ => exact hp1.elim
  rintro v s1 ⟨x, H1, I1, rv, a, rfl, L1, h1, env1, hr1, sr1, hp1⟩
  obtain ⟨t, rfl⟩ := rv
  refine ⟨"str", _, F.plainAttrs_str, PySem.F.slot_str_split, PySem.F.type_str_split, typeIs_str _ _ _, nofun, Calls.callWith_builtin rfl (Calls.evalArgs_plain (Calls.spliced_cons (Calls.Constant_str ?_)))⟩
  refine Calls.spliced_nil ?_
  have n1 : 1 ≤ s1.toks + 1 := by omega
  refine wpAny_mono (PySem.wpAny_toks_of (s := { s1 with toks := s1.toks + 1 }) n1 (mt_split pins { s1 with toks := s1.toks + 1 } σ H1 (.str a) [.str y] (.str a t) [.str y s1.toks] Q (I1.tok (s1.toks + 1)) ⟨t, rfl⟩ (.cons ⟨_, rfl⟩ .nil) (m_split L1 H1 h1 σ a (.str y) (.str y) Q hr1 (.str y) hp1))) (fun _ _ z => z) fun _ _ z => z.2
theorem pat_one {f : EF} (C : Or) (ha : PET X e (tE X W (f C))) (hs : starEach [e] X.env = [(false, eval e X.env)]) : PAT X [e] (tA X W (listF [f] C)) := by
  intro pos pins s σ H Q n1 I q
  refine L2.pat_cons (te := tE X W (f C)) (ta := tNil) ha L2.pat_nil hs pos pins s σ H Q n1 I ?_
  obtain ⟨L, h, env, hr, sr, hp⟩ := q
  exact ⟨L, h, env, hr, sr, pRg.then_ hp fun d1 h1 L1 H1 v1 le kp hr1 r1 hp1 => hp1 L1 H1 _ (LE.refl _) (Keep.refl _) hr1 (.cons r1 .nil)⟩
theorem r1_any {p : Pos} (C : Or) {f : EF} (hc : X.calm = true) (hg : Gl X "any") (hm : X.mg "any" = none) (ha : PET X e (tE X W (f C))) (hs : starEach [e] X.env = [(false, eval e X.env)]) : PET X (.Call (.Name "any" p) [e] [] pos) (tE X W (bltF bAny [f] C)) :=
  PET.weak (pe1_blt (cr_any hc) hg hm boot_any (pat_one C ha hs) (by decide) (by decide) hs rfl) fun σ H Q ⟨L, h, env, hr, sr, hp⟩ => ⟨L, h, env, hr, sr, pRg.then_ hp fun ds h1 L1 H1 vs le kp hr1 r1 hp1 => o_any L1 H1 h1 σ ds vs Q hr1 r1 hp1⟩
theorem r1_call {x : Str} {p : Pos} (C : Or) {f1 : EF} {k : Nat} {f : Addr} {fd : FuncData} {ps : List Str} (tk : Takes X W) (F : FnOk1 X.prog X.w X.K X.mg X.base (L2.CX X.prog X.w) k f fd ps (spOf X.K X.mg ps.length (C x))) (hl : ∀ ds h, ds.length ≠ ps.length → C x ds h = .stuck)
    (hr : Room k X.A) (hg : Gl X x) (hm : X.mg x = some (.ref f)) (hk : PySem.W.keepIn X.K (.ref f) = true) (hb : Binds X.K fd ps []) (ha : PE X e (tE X W (f1 C))) (hdb : (x == ("__debug__" : Str)) = false) (he : starEach [e] X.env = [(false, eval e X.env)]) :
    PET X (.Call (.Name x p) [e] [] pos) (tE X W (callF x [f1] C)) :=
  PET.weak (pe1_call F hr hg hm hk hb (fun σ => passAt tk σ) (a_cons C ha (a_nil C) he) hdb he rfl) fun σ H Q ⟨L, h, env, hr, sr, hp⟩ => ⟨L, h, env, hr, sr, pRg.then_ hp fun ds h1 L1 H1 vs le kp hr1 r1 hp1 => by
    refine ⟨?_, L1, h1, ds, hr1, r1, pR.at_ hp1 fun _ _ _ w => w⟩
    by_cases q : ds.length = ps.length
    · rw [← r1.len]; exact q
    · have hp2 : pR X.K X.mg L1 H1 W σ Q (C x ds h1) := hp1
      rw [hl ds h1 q] at hp2
      exact hp2.elim⟩
/-! statements -/
theorem t1_val {f : Fe} (h : PET X e (tE X W f)) (he : ∀ whole, isTrue e X.env whole = (do let v ← whole; standAt e.pos; holding [v] (truthy v))) : PT1 X e (tB X W f) :=
  fun pins s σ H Q n1 I ⟨L, h', env, hr, sr, hp⟩ => pt1_val h he pins s σ H Q n1 I ⟨L, h', env, hr, sr, hp.toR⟩
theorem s1_ret (C : Or) {f : EF} (he : PET X e (tE X W (f C))) : PST X (.Return (some e) pos) (tS X W (retS f C)) := by
  intro pins s σ H D n1 I ⟨L, h, env, hr, sr, hp⟩
  exact wpAny_Return_some (thn (he pins s σ H D.rt n1 I ⟨L, h, env, hr, sr, pS.then_ sr hp fun d h1 L1 H1 v le kp hr1 r1 hp1 => hp1 L1 H1 v (LE.refl _) (Keep.refl _) hr1 r1⟩) fun v s1 ⟨x, H1, I1, r1, q1⟩ => ⟨x, σ, H1, I1, r1, q1⟩)
theorem asg1_ {i : Nat} (C : Or) {f : EF} {D_ : Ends} {σ : L2.St} {H : Hp} (q : tS X W (asgS (nmT i) f C) D_ σ H) : tE X W (f C) σ H fun x H1 => gName i x σ H1 D_.nx := by
  obtain ⟨L, h, env, hr, sr, hp⟩ := q
  refine ⟨L, h, env, hr, sr, pS.then_ sr hp fun d h1 L1 H1 v le kp hr1 r1 hp1 => ?_⟩
  unfold nmT at hp1
  split at hp1
  · rename_i env1 e1
    split at e1
    · cases e1
      exact hp1 L1 H1 _ (LE.refl _) (Keep.refl _) hr1 ((sr.mono le kp).set r1)
    · cases e1
  · exact hp1.elim
theorem s1_set {i : Nat} {x : Str} {pos' : Pos} (C : Or) {f : EF} (hN : X.N.Nodup) (hi : X.N[i]? = some x) (hx : Loc X.env.scope x) (he : PET X e (tE X W (f C))) (hs : swapsWith e (some (.Name x pos')) pos.line X.env = pure false) (hf : X.fn x = true ∨ X.env.scope.names.lookup x = some .local) :
    PST X (.Assign [.Name x pos'] e pos) (tS X W (asgS (nmT i) f C)) := PST.weak (pst1_set hN hi hx he hs hf) fun D_ σ H q => asg1_ C q
theorem s1_if {bs cs : List Stmt} (C : Or) {fc : EF} {f g : SF} (hc : PT1 X c (tB X W (fc C))) (h1 : PSsT X bs (tS X W (f C))) (h2 : PSsT X cs (tS X W (g C))) : PST X (.If c bs cs pos) (tS X W (ifS fc f g C)) :=
  PST.weak (pst1_if hc h1 h2) fun D_ σ H ⟨L, h, env, hr, sr, hp⟩ => ⟨L, h, env, hr, sr, pS.thenT sr hp (fun d h n => by cases d <;> first | rfl | exact absurd rfl (n _)) fun b h1 L1 H1 le kp hr1 hp1 => by
    cases b with
    | true => exact ⟨L1, h1, env, hr1, sr.mono le kp, hp1⟩
    | false => exact ⟨L1, h1, env, hr1, sr.mono le kp, hp1⟩⟩
theorem seq_ {f g : SF} (C : Or) {D_ : Ends} {σ : L2.St} {H : Hp} (q : tS X W (seqS f g C) D_ σ H) : L2.tSeq (tS X W (f C)) (tS X W (g C)) D_ σ H := by
  obtain ⟨L, h, env, hr, sr, hp⟩ := q
  refine ⟨L, h, env, hr, sr, ?_⟩
  unfold seqS at hp
  split at hp
  · rename_i env1 h1 e1
    rw [e1]
    exact fun L1 H1 σ1 le kp hr1 sr1 => ⟨L1, h1, env1, hr1, sr1, pS.mono hp le kp⟩
  · rename_i q
    cases z : f C env h with
    | nx env1 h1 => exact absurd z (q env1 h1)
    | bk env1 h1 => rw [z] at hp; exact hp
    | ct env1 h1 => rw [z] at hp; exact hp
    | rt d h1 => rw [z] at hp; exact hp
    | exc c d env1 h1 => rw [z] at hp; exact hp
    | stuck => rw [z] at hp; exact hp
theorem s1_cons {st : Stmt} {sts : List Stmt} (C : Or) {f g : SF} (h1 : PST X st (tS X W (f C))) (h2 : PSsT X sts (tS X W (g C))) : PSsT X (st :: sts) (tS X W (seqS f g C)) := PSsT.weak (psst_cons h1 h2) fun D_ σ H q => seq_ C q
/-- a statement behind which a token is out -/
def PSk (X : Cx) (st : Stmt) (t : TS) : Prop := ∀ (pins : List (Addr × Obj)) (s : Shared) (σ : L2.St) (H : Hp) (D : Ends), Inv X pins σ H s → t D σ H → wpAny (model X.prog X.w) X.A (exec st X.env) (fun f z => 1 ≤ z.toks ∧ SP X pins D f z) X.xe s
theorem sk_cons {st : Stmt} {sts : List Stmt} (C : Or) {f g : SF} (h1 : PSk X st (tS X W (f C))) (h2 : PSsT X sts (tS X W (g C))) : PSs X (st :: sts) (tS X W (seqS f g C)) := by
  refine ⟨fun pins s σ H D I q => ?_⟩
  refine wpAny_execs_cons (thn (h1 pins s σ H { D with nx := tS X W (g C) D } I (seq_ C q)) ?_)
  rintro fl s1 ⟨n1, q1⟩
  cases fl with
  | next =>
    obtain ⟨σ', H', I', q'⟩ := q1
    exact h2 pins s1 σ' H' D n1 I' q'
  | ret v => exact q1
  | brk => exact q1
  | cont => exact q1
theorem sk_set {i : Nat} {x y : Str} {pos' cpos apos c0 : Pos} {j : Nat} (C : Or) {fo : EF} (hN : X.N.Nodup) (hi : X.N[i]? = some x) (hx : Loc X.env.scope x) (ho : PE X o (tE X W (fo C))) (hbase : attributeBase o "split" X.env (eval o X.env) = eval o X.env) (hline : (apos.endLine == cpos.line) = true)
    (hf : X.fn x = true ∨ X.env.scope.names.lookup x = some .local) : PSk X (.Assign [.Name x pos'] (.Call (.Attribute o "split" apos) [.Constant (.str y) j c0] [] cpos) pos) (tS X W (asgS (nmT i) (methS mSplit fo (conF (.str y))) C)) := by
  intro pins s σ H D I q
  refine wpAny_Assign_Name (thn (rk_split C ho hbase hline pins s σ H _ I (asg1_ C q)) ?_) rfl
  rintro v s1 ⟨n1, z, H1, I1, rv, q1⟩
  exact wpAny_mono (PySem.wpAny_toks_of n1 (store_ok I1 hN hi hx rv (fun s2 I2 => (⟨_, H1, I2, q1⟩ : SP X pins D .next s2)) hf)) (fun _ _ z => z) fun _ _ z => z.2
/-- x == "..": a token is out behind it -/
theorem tk_eq {z : Str} {j : Nat} {c0 : Pos} (C : Or) {fa : EF} (hu : X.A.units + 70 < cLine) (ha : PE X a (tE X W (fa C))) : PTk X (.Compare a [.Eq] [.Constant (.str z) j c0] pos) (tB X W (binF (opEqD false) fa (conF (.str z)) C)) := by
  intro pins s σ H Q I ⟨L, h, env, hr, sr, hp⟩
  have q := two (X := X) (fb := fun env h => conF (.str z) C env h) (fa := fun env h => fa C env h) (W := W) o_eq hr sr hp.toR
  refine wpAny_isTrue_Compare1 (thn (ha.run pins s σ H _ I q) ?_) rfl
  rintro v s1 ⟨x, H1, I1, r1, q1⟩
  refine Calls.Constant_str ?_
  have n1 : 1 ≤ s1.toks + 1 := by omega
  obtain ⟨L1, h1, env1, hr1, sr1, hp1⟩ := q1
  have q2 := here hr1 hp1 (.str z)
  refine wpAny_mono (PySem.wpAny_toks_of (s := { s1 with toks := s1.toks + 1 }) n1 (op_eqU (by omega) pins { s1 with toks := s1.toks + 1 } σ H1 x (.str z) v (.str z s1.toks) _ (I1.tok (s1.toks + 1)) r1 ⟨_, rfl⟩ q2)) ?_ fun _ _ z => z.2
  rintro c s3 ⟨n3, y, H3, I3, r3, k, e, q3⟩
  subst e
  cases r3
  exact wpAny_truthy_bool ⟨n3, H3, I3, q3⟩
theorem sk_if {bs cs : List Stmt} (C : Or) {fc : EF} {f g : SF} (hc : PTk X c (tB X W (fc C))) (h1 : PSsT X bs (tS X W (f C))) (h2 : PSsT X cs (tS X W (g C))) : PSk X (.If c bs cs pos) (tS X W (ifS fc f g C)) := by
  intro pins s σ H D I ⟨L, h, env, hr, sr, hp⟩
  exact psk_if hc h1 h2 pins s σ H D I ⟨L, h, env, hr, sr, pS.thenT sr hp (fun d h n => by cases d <;> first | rfl | exact absurd rfl (n _)) fun b h1 L1 H1 le kp hr1 hp1 => by
    cases b with
    | true => exact ⟨L1, h1, env, hr1, sr.mono le kp, hp1⟩
    | false => exact ⟨L1, h1, env, hr1, sr.mono le kp, hp1⟩⟩
end
end VM

set_option maxRecDepth 100000
set_option maxHeartbeats 4000000
namespace PySem.W
open PySem PySem.Spec PySem.Calls PyProof.Rows
section
variable {prog : Program} {w : World} {A : Around} {E : Value → Shared → Prop} {s : Shared} {K : Frag} {x D : Addr} {ox : Obj} {od : Option Obj}
/-- .. of an exception that may have a dict -/
theorem kin_classD {Q : Option Value → Shared → Prop} (hga : findIn K (.ref D) "__getattribute__" = some (some (.builtin "BaseException.__getattribute__"))) (hgt : findIn K (.ref D) "__getattr__" = some none) (hsub : subIn K (.ref D) (.type "BaseException") = some true)
    (hf : findObj K D od "__class__" = some (.bind (.builtin "getset_descriptor.__get__") (.builtin "object.__class__"))) (hm : mroIn K D (.type "object") = some true)
    (X : K.In s.heap) (I : InstAt s.heap x ox D od) (h : Q (some (.ref D)) { s with toks := s.toks + 1 }) : wpAny (model prog w) A (getAttr? (.ref x) "__class__") Q E s := by
  obtain ⟨hp, g, d, t, os⟩ := s
  have L0 := I.type (M := model prog w)
  have L1 := looks_findIn (M := model prog w) X hga
  have L2 := looks_findIn (M := model prog w) X hgt
  have L3 := looks_find (M := model prog w) X I hf
  have sub : Looks (model prog w) hp (isInstance (.ref x) (.type "BaseException")) true := L0.andThen (looks_subIn X hsub)
  have hx0 : (false && onTheHeap (Value.builtin "BaseException.__getattribute__")) = false := rfl
  have hx2 : (Value.builtin "BaseException.__getattribute__" == Value.builtin "object.__getattribute__") = false := by decide +kernel
  have hx1 : (onTheHeap (Value.ref D) && Value.builtin "BaseException.__getattribute__" == Value.builtin "object.__getattribute__") = false := by rw [hx2]; rfl
  unfold getAttr? getAttrBy? getAttrBy
  refine wpAny_bind (wpAny_mkText (wpAny_bind (wpAny_attempt (wpAny_holding (wpAny_bind (L0.at (wpAny_bind (L1.at ?_))))))))
  show wpAny _ _ (if (onTheHeap (Value.ref D) && Value.builtin "BaseException.__getattribute__" == Value.builtin "object.__getattribute__") = true then _ else _) _ _ _
  rw [hx1, if_neg Bool.false_ne_true]
  unfold getAttrByItsOwn hookBefore
  refine wpAny_bind ?_
  rw [if_pos (show onTheHeap (Value.ref D) = true from rfl)]
  refine L2.at ?_
  refine wpAny_bind (wpAny_attempt (wpAny_holding ?_))
  unfold callGetattribute
  rw [hx0, if_neg Bool.false_ne_true]
  unfold boundAndCalled
  rw [PySem.F.excAttr_ValueError.ga.bind (.ref x)]
  refine wpAny_bind (wpAny_pure ?_)
  show wpAny _ _ (call (.builtin "BaseException.__getattribute__") [.ref x, .str "__class__" t]) _ _ _
  refine wpAny_call (codeAny_call_builtin PySem.F.excAttr_ValueError.ga.plain PySem.F.entry_bexc_ga ?_)
  refine @check_slot (model prog w) _ _ ⟨hp, g, d, t + 1, os⟩ "BaseException.__getattribute__" "BaseException" "__getattribute__" (.ref x) [.str "__class__" t] [] _ (by decide +kernel) (by decide +kernel) sub (PySem.F.args_bexc_ga (.ref x) (.str "__class__" t)) ?_
  unfold Builtin.«object.__getattribute__»
  refine wpAny_bind (wpAny_of_eq (a := ((Value.ref x : Value), [Value.str "__class__" t])) (by first | rfl | (simp only [slotArgs]; rfl)) ?_)
  refine wpAny_bind (wpAny_pure (wpAny_bind (L0.at (wpAny_bind (L3.at ?_)))))
  show wpAny _ _ (holding [Value.builtin "object.__class__"] (call (.builtin "getset_descriptor.__get__") [.builtin "object.__class__", .ref x, .ref D]) >>= ret) _ _ _
  refine wpAny_bind (wpAny_holding (wpAny_call (class_get (s := ⟨hp, g, d, t + 1, os⟩) (ox := ox) (od := od) X I hm ?_)))
  refine wpAny_pure ?_
  show wpAny _ _ (handedOut (.ref D)) _ _ _
  rw [handedOut_of (v := .ref D) rfl]
  first
    | exact wpAny_pure (wpAny_pure h)
    | exact wpAny_pure h
    | exact wpAny_pure (wpAny_bind (wpAny_pure (wpAny_pure h)))
theorem kitx_excD (C : L2.ExcC K D) : KitX K (.ref x) (.ref D) (fun h => InstAt h x ox D od) where
  ty := fun _ _ _ I => I.type
  it := fun _ _ X _ => by
    obtain ⟨cdD, hcD, _⟩ := any_some C.hd
    unfold clsIn at hcD
    split at hcD
    · rename_i c' d' cd' sl' ho
      intro A' Q' E' s' k q
      unfold isType loadHead
      exact wpAny_bind (wpAny_loadPart (k _ _ (X _ _ ho)) (wpAny_pure q))
    · cases hcD
  ne := fun h tp dd its n sl X htp => by
    obtain ⟨cdD, hcD, _⟩ := any_some C.hd
    refine Bool.eq_false_iff.mpr fun q => ?_
    have e : D = tp := Value.ref.inj (beq_iff_eq.mp q)
    subst e
    unfold clsIn at hcD
    split at hcD
    · rename_i c' d' cd' sl' ho
      have z := (X _ _ ho).symm.trans htp
      cases z
    · cases hcD
  ca := fun X I k => by
    have cl : (clsIn K D).isSome = true := by
      obtain ⟨cdD, hcD, _⟩ := any_some C.hd
      rw [hcD]; rfl
    refine kin_classD C.hg C.hk C.hs ?_ C.hm X I k
    cases od with
    | none => exact findObj_dataN cl C.ha C.hn C.ht
    | some o => exact findObj_data cl C.ha C.hn C.ht
end
end PySem.W
namespace VM
open PySem PySem.Spec PyProof.Rows L2
/-! exceptions held as values: rules -/
section
variable {X : Cx} {pos : Pos}
/-- the object of such an exception -/
theorem exH_at {P : Program} {w : World} {H : Hp} {h : Heap} {a C : Addr} {o : Option Int} (hok : HOk P w H h) (e : ExH H C a o) : ∃ (oe : Obj) (od : Option Obj), PySem.W.InstAt h a oe C od ∧
    ∀ i, o = some i → ∃ oo, od = some oo ∧ ∃ u, PySem.W.lookIn "at" oo = some (some u) ∧ RelV (.int i) u := by
  cases o with
  | none =>
    obtain ⟨⟨oe, vs, h1, ⟨z1, z2⟩, h3, _⟩, _, _⟩ := hok a _ e
    refine ⟨oe, none, ⟨h1, z1, by unfold PySem.W.notCls; rw [h3] <;> rfl, by rw [z2]; trivial⟩, fun i q => by cases q⟩
  | some i =>
    obtain ⟨d, fs, e1, e2, e3⟩ := e
    obtain ⟨t1, h1⟩ := exo_at hok e1
    obtain ⟨mA, hns, rel⟩ := exd_at hok e2
    obtain ⟨od, ho, hl⟩ := lookIn_ns hns
    obtain ⟨u, hu, ru⟩ := RelO.some_of (v := V.int i) (o := mA "at") (by rw [← e3]; exact rel "at")
    refine ⟨_, some od, ⟨h1, rfl, rfl, ho⟩, fun j q => ?_⟩
    cases q
    exact ⟨od, rfl, u, by rw [hl, hu], ru⟩
/-- isinstance of it -/
def rIsX (K : PySem.W.Frag) : List V → Hp → VK → Prop := fun xs H Q => ∃ (a D : Addr) (o : Option Int) (c : V) (cv : Value) (b : Bool), xs = [.ref a, c] ∧ ExH H D a o ∧ ExcC K D ∧ (∀ u, RelV c u → u = cv) ∧ PySem.W.kitOne K (.ref D) cv = some b ∧ Q (.bl b) H
theorem call_isX : CallR X (.builtin "isinstance") (rIsX X.K) := by
  intro pins s σ H xs us Q I r h
  obtain ⟨a, D, o, c, cv, b, rfl, eh, C, hcv, e, q⟩ := h
  obtain ⟨u1, u2, rfl, r1, r2⟩ := vals2 r
  cases r1
  have ec := hcv _ r2
  subst ec
  obtain ⟨oe, od, J, _⟩ := exH_at I.hok eh
  exact PySem.W.kia_one (PySem.W.kitx_excD C) I.kIn J e (fun z => nomatch z) fun tk => ⟨.bl b, H, I.tok tk, rfl, q⟩
/-- e.at -/
def tXv (K : PySem.W.Frag) (te : TE) : TE := fun σ H Q => te σ H fun x H1 => ∃ (a C : Addr) (i : Int), x = .ref a ∧ ExH H1 C a (some i) ∧ XfC K C ∧ PySem.W.findIn K (.ref C) "at" = some none ∧ Q (.int i) H1
theorem pe_xv {e : Expr} {te : TE} (he : PE X e te) (hb : attributeBase e "at" X.env (eval e X.env) = eval e X.env) : PE X (.Attribute e "at" pos) (tXv X.K te) := by
  refine ⟨fun pins s σ H Q I h => ?_⟩
  refine attr_of hb (thn (he.run pins s σ H _ I h) fun u s1 hh => ?_)
  obtain ⟨x, H1, I1, rx, a, C, i, ex, eh, T, hno, q⟩ := hh
  subst ex
  obtain rfl : u = Value.ref a := rx
  obtain ⟨oe, od, J, at_⟩ := exH_at I1.hok eh
  obtain ⟨oo, rfl, u, hu, ru⟩ := at_ i rfl
  exact HandSPX.exc_get I1.kIn J T.ga T.gg T.exC (PySem.W.findObj_own T.hdC hno rfl hu) (handed_of ru) ⟨.int i, H1, I1.tok _, ru, q⟩
/-- C(e, ..) as a value, C's own __init__ keeping sp -/
def tMkV (C : Addr) (sp : Sp) (ta : TA) : TE := fun σ H Q => ta σ H fun vs H1 => vs.length ≤ 1000 ∧ ∀ a, H1 a = none → sp (.ref a :: vs) (upd H1 a (exo a C none)) (fun v H2 => v = .non ∧ Q (.ref a) H2) (fun _ _ _ => False)
theorem pe_oex {CX : CXT} {e : Expr} {es : List Expr} {ta : TA} {p : Pos} {x : Str} {C fI : Addr} {k : Nat} {fd : FuncData} {ps : List Str} {sp : Sp} (T : OexC X.K C) (iC : PySem.W.findIn X.K (.ref C) "__init__" = some (some (.ref fI))) (tI : PySem.W.typeIn X.K (.ref fI) = some (.type "function"))
    (F1 : FnOk X.prog X.w X.K X.mg X.base CX k fI fd ps sp) (hr : Room (k + 1) X.A) (hb : Binds X.K fd ps []) (hx : Passes CX X (fun _ _ _ => False)) (hg : Gl X x) (hm : X.mg x = some (.ref C)) (ha : PA X (e :: es) ta)
    (hdb : (x == ("__debug__" : Str)) = false) (he : starEach (e :: es) X.env = (false, eval e X.env) :: starEach es X.env) (hpl : (backTo pos (starEach es X.env)).any (·.1) = false) :
    PE X (.Call (.Name x p) (e :: es) [] pos) (tMkV C sp ta) := by
  refine ⟨fun pins s σ H Q I h => ?_⟩
  obtain ⟨nm, q, N, bs, bm, sn, sub, ab, col, dd, k0, k1, k2, k3, k5, hC, hbm⟩ := T.cls
  refine wpAny_Call_Name_kw (ld_glob I hg hm ?_ hdb)
  refine PySem.W.callWith_K (h₀ := X.base) I.ok.mod.kin T.kC (thn (ha.run pos pins s σ H _ I h) fun us s1 ⟨vs, H1, I1, r1, hz, q1⟩ => ⟨I1.kIn, ?_⟩) he hpl
  show wpAny _ _ (call (.ref C) us) _ _ _
  obtain ⟨hp, g, dr, tk, os⟩ := s1
  have hsz : hp.objs.size ≤ hp.objs.size + 1 := Nat.le_succ _
  have hn : H1 (hp.objs.size + 1) = none := I1.hok.fresh hsz
  have hq := q1 (hp.objs.size + 1) hn
  have kk : ∀ b o, hp.get? b = some o → ((hp.push (PySem.W.kdv_tup us)).push (PySem.HandSPX.excO C hp.objs.size)).get? b = some o := fun b o e => Heap.get?_push_of_some _ (Heap.get?_push_of_some _ e)
  have hget : ((hp.push (PySem.W.kdv_tup us)).push (PySem.HandSPX.excO C hp.objs.size)).get? (hp.objs.size + 1) = some (PySem.HandSPX.excO C hp.objs.size) := by heap_get
  have I2 : Inv X pins σ (upd H1 (hp.objs.size + 1) (exo (hp.objs.size + 1) C none)) ⟨(hp.push (PySem.W.kdv_tup us)).push (PySem.HandSPX.excO C hp.objs.size), g, dr, tk, os⟩ :=
    I1.laid (t' := tk) (a := hp.objs.size + 1) (o := exo (hp.objs.size + 1) C none) (h' := (hp.push (PySem.W.kdv_tup us)).push (PySem.HandSPX.excO C hp.objs.size)) kk hsz (exo_ok hget)
  have r2 : Vals (V.ref (hp.objs.size + 1) :: vs) (Value.ref (hp.objs.size + 1) :: us) := .cons rfl r1
  have hl : (Value.ref (hp.objs.size + 1) :: us).length = ps.length := by
    have e := r2.length
    rw [F1.len _ _ _ _ hq] at e
    exact e.symm
  have hus : us.length ≤ sizeLine := by
    rw [← Paired.length r1, sizeLine_eq]
    omega
  have b := hb _ (Value.ref (hp.objs.size + 1) :: us) I2.kIn (by rw [List.append_nil]; exact hl)
  rw [List.append_nil] at b
  refine wpAny_call (PySem.HandSPX.call_own F.excBase_ValueError (fun Y => PySem.HandSPX.refsVE_contains Y bm hbm) (I1.kIn _ _ hC) (PySem.W.looks_findIn I1.kIn iC) (fun self => PySem.W.bind_fn I1.kIn self tI) hus
    (codeAny_mono (F1.run _ X.stack _ _ ⟨Value.ref (hp.objs.size + 1) :: us, []⟩ (Value.ref (hp.objs.size + 1) :: us) _ _ (fun _ _ _ => False) (hr.make C us []) (I2.env0.make C us []) b r2 hq) fun r s' hq' => ?_))
  cases r with
  | error er => exact hx pins σ _ _ er s' I2 hq'
  | ok fl =>
    cases fl with
    | ret u =>
      obtain ⟨v, H2, I3, rv, ev, q3⟩ := I2.after hq'
      subst ev
      exact ⟨rv, ⟨V.ref (hp.objs.size + 1), H2, I3, rfl, q3⟩⟩
    | next => exact False.elim hq'
    | brk => exact False.elim hq'
    | cont => exact False.elim hq'
end
variable [HasT]
/-- exceptions held as values -/
structure XcOk (K : PySem.W.Frag) (mg : Str → Option Value) (l : List Str) : Prop where
  cl : ∀ x ∈ l, mg x = some (.ref (HasT.C x)) ∧ ExcC K (HasT.C x)
  te : mg "TrailError" = some (.ref (HasT.C "TrailError"))
  ve : mg "ValueError" = none
  ii : ∀ x ∈ l, ∀ y ∈ l, PySem.W.kitOne K (.ref (HasT.C x)) (.ref (HasT.C y)) = some (decide (x = y))
  it : ∀ x ∈ l, PySem.W.kitOne K (.ref (HasT.C x)) (.ref (HasT.C "TrailError")) = some true
  iv : ∀ x ∈ l, PySem.W.kitOne K (.ref (HasT.C x)) (.type "ValueError") = some true
  xf : ∀ x ∈ l, XfC K (HasT.C x) ∧ PySem.W.findIn K (.ref (HasT.C x)) "at" = some none
section
variable {X : Cx} {W : WX} {pos : Pos}
theorem r_xc0 {x m : Str} {j : Nat} {p p2 : Pos} (C : Or) (hg : Gl X x) (hm : X.mg x = some (.ref (HasT.C x))) (o : X0Ok X.K (HasT.C x)) (hd : (x == ("__debug__" : Str)) = false) :
    PE X (.Call (.Name x p) [.Constant (.str m) j p2] [] pos) (tE X W (xcF x C)) :=
  PE.weak (pe_exc1 PySem.F.excBase_ValueError o.ex hm o.kp hg pe_str rfl hd) fun σ H Q ⟨L, h, env, hr, sr, hp⟩ => fun a na => hp L _ _ (LE.refl _) (Keep.new na) (hr.new na) (.exn upd_same)
theorem r_xc1 {x : Str} {e : Expr} {p : Pos} (C : Or) {fe : EF} (hc : X.calm = true) (tk : Takes X W) (hg : Gl X x) (hm : X.mg x = some (.ref (HasT.C x))) (o : X1Ok X (HasT.C x)) (hd : (x == ("__debug__" : Str)) = false) (he : PE X e (tE X W (fe C)))
    (s1 : starEach [e] X.env = (false, eval e X.env) :: starEach [] X.env) : PE X (.Call (.Name x p) [e] [] pos) (tE X W (un1F (opXat x) fe C)) := by
  obtain ⟨⟨fI, fd, iC, tI, bd, rm, F1⟩, T, no, xf⟩ := o
  refine PE.weak (pe_oex T iC tI F1 (rm hc) bd (passes_call tk (E := fun _ _ _ => False) fun _ _ _ _ z => z.elim) hg hm (a_cons (W := W) C he (a_nil C) s1) hd s1 rfl) fun σ H Q ⟨L, h, env, hr, sr, hp⟩ => ⟨L, h, env, hr, sr, ?_⟩
  have hp' : pR X.K X.mg L H W σ Q ((fe C env h).bind (opXat x)) := hp
  show pA X.K X.mg L H W σ _ ((fe C env h).bind fun d h1 => .ok [d] h1)
  cases q : fe C env h with
  | stuck => rw [q] at hp'; exact hp'.elim
  | exc c d h1 =>
    rw [q] at hp'
    exact hp'
  | ok d h1 =>
    rw [q] at hp'
    cases d with
    | int i =>
      intro L1 H1 vs le kp hr1 rs
      obtain ⟨v, rfl, rv⟩ := one_of rs
      cases rv
      refine ⟨by show 1 ≤ 1000; decide, fun a na => ⟨a, HasT.C x, .int i, rfl, T, no, upd_same, fun dx ndx hne => ⟨rfl, ?_⟩⟩⟩
      have n1 : H1 dx = none := by rw [upd_ne hne] at ndx; exact ndx
      have eH : upd (upd (upd H1 a (exo a (HasT.C x) none)) dx (exd dx [("at", .int i)])) a (exo a (HasT.C x) (some dx)) = upd (upd H1 dx (exd dx [("at", .int i)])) a (exo a (HasT.C x) (some dx)) := by
        funext b
        by_cases hb : b = a
        · subst hb; rw [upd_same, upd_same]
        · rw [upd_ne hb, upd_ne hb]
          by_cases hb2 : b = dx
          · subst hb2; rw [upd_same, upd_same]
          · rw [upd_ne hb2, upd_ne hb2, upd_ne hb]
      have n2 : upd H1 dx (exd dx [("at", V.int i)]) a = none := by rw [upd_ne (Ne.symm hne)]; exact na
      rw [eH]
      have k1 : Keep X.K H1 (upd H1 dx (exd dx [("at", .int i)])) := Keep.new n1
      have k2 : Keep X.K (upd H1 dx (exd dx [("at", .int i)])) (upd (upd H1 dx (exd dx [("at", .int i)])) a (exo a (HasT.C x) (some dx))) := Keep.new n2
      exact hp' L1 _ _ le (kp.trans (k1.trans k2)) ((hr1.new n1).new n2) (.exn ⟨dx, [("at", .int i)], upd_same, by rw [upd_ne hne]; exact upd_same, rfl⟩)
    | _ => exact hp'.elim
/-- isinstance(e, c) -/
theorem r_xis {a : Expr} {T : Str} {l : List Str} {p p2 : Pos} (C : Or) {fa : EF} (hx : XcOk X.K X.mg l) (hg : Gl X "isinstance") (hm : X.mg "isinstance" = none) (hgT : Gl X T) (hd : (T == ("__debug__" : Str)) = false)
    (ha : PE X a (tE X W (fa C))) (s1 : starEach [a, .Name T p2] X.env = (false, eval a X.env) :: starEach [.Name T p2] X.env) (hT : T ∈ l) : PE X (.Call (.Name "isinstance" p) [a, .Name T p2] [] pos) (tE X W (un1F (opXis l T) fa C)) :=
  PE.weak (pe_callB call_isX hg hm boot_isinstance (pa_cons ha (pa_cons (pe_glob (v := .ref (HasT.C T)) hgT (hx.cl T hT).1 rfl hd) pa_nil rfl) s1) (by decide) (by decide) s1 rfl) fun σ H Q ⟨L, h, env, hr, sr, hp⟩ => ⟨L, h, env, hr, sr, pRg.then_ hp fun d h1 L1 H1 v le kp hr1 r1 hp1 => by
    cases d with
    | exn k o =>
      simp only [opXis] at hp1
      split at hp1
      · rename_i hk
        have mk := List.contains_iff_mem.mp hk.1
        cases r1 with
        | exn eh => exact ⟨_, HasT.C k, o, .ref (HasT.C T), .ref (HasT.C T), decide (k = T), rfl, eh, (hx.cl k mk).2, fun u r => by cases r; rfl, hx.ii k mk T hT, here hr1 hp1 (.bl _)⟩
      · exact hp1.elim
    | _ => exact hp1.elim⟩
/-- isinstance(e, TrailError) -/
theorem r_xte {a : Expr} {l : List Str} {p p2 : Pos} (C : Or) {fa : EF} (hx : XcOk X.K X.mg l) (hg : Gl X "isinstance") (hm : X.mg "isinstance" = none) (hgT : Gl X "TrailError")
    (ha : PE X a (tE X W (fa C))) (s1 : starEach [a, .Name "TrailError" p2] X.env = (false, eval a X.env) :: starEach [.Name "TrailError" p2] X.env) : PE X (.Call (.Name "isinstance" p) [a, .Name "TrailError" p2] [] pos) (tE X W (un1F (opXve l) fa C)) :=
  PE.weak (pe_callB call_isX hg hm boot_isinstance (pa_cons ha (pa_cons (pe_glob (v := .ref (HasT.C "TrailError")) hgT hx.te rfl (by decide)) pa_nil rfl) s1) (by decide) (by decide) s1 rfl) fun σ H Q ⟨L, h, env, hr, sr, hp⟩ => ⟨L, h, env, hr, sr, pRg.then_ hp fun d h1 L1 H1 v le kp hr1 r1 hp1 => by
    cases d with
    | exn k o =>
      simp only [opXve] at hp1
      split at hp1
      · rename_i hk
        have mk := List.contains_iff_mem.mp hk
        cases r1 with
        | exn eh => exact ⟨_, HasT.C k, o, .ref (HasT.C "TrailError"), .ref (HasT.C "TrailError"), true, rfl, eh, (hx.cl k mk).2, fun u r => by cases r; rfl, hx.it k mk, here hr1 hp1 (.bl _)⟩
      · exact hp1.elim
    | _ => exact hp1.elim⟩
/-- isinstance(e, ValueError) -/
theorem r_xve {a : Expr} {l : List Str} {p p2 : Pos} (C : Or) {fa : EF} (hx : XcOk X.K X.mg l) (hg : Gl X "isinstance") (hm : X.mg "isinstance" = none) (hgT : Gl X "ValueError")
    (ha : PE X a (tE X W (fa C))) (s1 : starEach [a, .Name "ValueError" p2] X.env = (false, eval a X.env) :: starEach [.Name "ValueError" p2] X.env) : PE X (.Call (.Name "isinstance" p) [a, .Name "ValueError" p2] [] pos) (tE X W (un1F (opXve l) fa C)) :=
  PE.weak (pe_callB call_isX hg hm boot_isinstance (pa_cons ha (pa_cons (pe_bltn (v := .ty "ValueError") hgT hx.ve PyProof.Rows.Boot.«ValueError» rfl (by decide) (by decide)) pa_nil rfl) s1) (by decide) (by decide) s1 rfl) fun σ H Q ⟨L, h, env, hr, sr, hp⟩ => ⟨L, h, env, hr, sr, pRg.then_ hp fun d h1 L1 H1 v le kp hr1 r1 hp1 => by
    cases d with
    | exn k o =>
      simp only [opXve] at hp1
      split at hp1
      · rename_i hk
        have mk := List.contains_iff_mem.mp hk
        cases r1 with
        | exn eh => exact ⟨_, HasT.C k, o, .ty "ValueError", .type "ValueError", true, rfl, eh, (hx.cl k mk).2, fun u r => by cases r; rfl, hx.iv k mk, here hr1 hp1 (.bl _)⟩
      · exact hp1.elim
    | _ => exact hp1.elim⟩
/-- e.at -/
theorem r_xf {e : Expr} {l : List Str} (C : Or) {fe : EF} (hx : XcOk X.K X.mg l) (he : PE X e (tE X W (fe C))) (hb : attributeBase e "at" X.env (eval e X.env) = eval e X.env) : PE X (.Attribute e "at" pos) (tE X W (un1F (opXf l) fe C)) :=
  PE.weak (pe_xv he hb) fun σ H Q ⟨L, h, env, hr, sr, hp⟩ => ⟨L, h, env, hr, sr, pRg.then_ hp fun d h1 L1 H1 v le kp hr1 r1 hp1 => by
    cases d with
    | exn k o =>
      cases o with
      | none => exact hp1.elim
      | some i =>
        simp only [opXf] at hp1
        split at hp1
        · rename_i hk
          have mk := List.contains_iff_mem.mp hk
          cases r1 with
          | exn eh => exact ⟨_, HasT.C k, i, rfl, eh, (hx.xf k mk).1, (hx.xf k mk).2, here hr1 hp1 (.int _)⟩
        · exact hp1.elim
    | _ => exact hp1.elim⟩
end
end VM

set_option maxRecDepth 100000
set_option maxHeartbeats 4000000
namespace VM
open PySem PySem.Spec PyProof.Rows L2
/-! from a text to ours -/
structure CC where
  N : List Str
  sc : Scope
  fn : Str → Bool
  gl : Str → Option GV
  calm : Bool
  ex : List Str
  lam : Bool := false
def noP : Arguments → Bool
  | ⟨[], [], none, [], [], none, []⟩ => true
  | _ => false
def okNm (x : Str) : Bool := !(x == ("__debug__" : Str)) && (!(x == ("__classdict__" : Str)) && !decide (x = "__name__"))
def isVis (sc : Scope) (x : Str) : Bool := match sc.names.lookup x with
  | some .local => true | some .cell => true | some .free => true
  | _ => false
def isGlo (sc : Scope) (x : Str) : Bool := match sc.names.lookup x with
  | some .globalImplicit => true
  | _ => false
def isBlt (cc : CC) (x : Str) : Bool := isGlo cc.sc x && (okNm x && match cc.gl x with
  | some .blt => true
  | _ => false)
def slot (cc : CC) (x : Str) : Option Nat := match cc.N.idxOf? x with
  | some i => if cc.N[i]? = some x then some i else none
  | none => none
def guardO {α : Type} (b : Bool) (x : Option α) : Option α := if b = true then x else none
def opTab : Operator → Option (D → D → Hv → R D)
  | .Add => some opAdd | .Sub => some opSub | .Mult => some opMul | .FloorDiv => some opFdiv | .Mod => some opMod | .Pow => some opPow
  | _ => none
def cmpTab : CmpOp → Option (D → D → Hv → R D)
  | .Lt => some opLt | .LtE => some opLe | .Gt => some opGt | .GtE => some opGe | .Eq => some (opEqD false) | .NotEq => some (opEqD true)
  | .Is => some (opIs false) | .IsNot => some (opIs true) | .In => some (opIn false) | .NotIn => some (opIn true)
def compL (f : Expr → Option EF) : List Expr → Option (List EF)
  | [] => some []
  | e :: es => (f e).bind fun a => (compL f es).bind fun as => some (a :: as)
def andL : List EF → Option EF
  | [] => none
  | [f] => some f
  | f :: g :: r => (andL (g :: r)).map (andF f)
def orL : List EF → Option EF
  | [] => none
  | [f] => some f
  | f :: g :: r => (orL (g :: r)).map (orF f)
def notSl : Expr → Bool
  | .Slice _ _ _ _ => false
  | _ => true
/-- no super() -/
def notCall : Expr → Bool
  | .Call (.Name id _) [] [] _ => id != "super"
  | _ => true
def isTupE : Expr → Bool
  | .Tuple _ _ _ => true
  | _ => false
def tyTab (x : Str) : Option String :=
  if x = "int" then some "int" else if x = "tuple" then some "tuple" else if x = "bool" then some "bool" else if x = "str" then some "str" else if x = "list" then some "list" else none
def bltTab2 (x : Str) : Option (List D → Hv → R D) := if x = "dict" then some bDict else none
def bltTab (x : Str) : Option (List D → Hv → R D) :=
  if x = "len" then some bLen else if x = "tuple" then some bTuple else if x = "int" then some bInt else if x = "sum" then some bSum else if x = "abs" then some bAbs else if x = "list" then some bList
  else if x = "max" then some bMax else if x = "min" then some bMin else if x = "all" then some bAll else if x = "any" then some bAny else if x = "str" then some bStr else if x = "sorted" then some bSorted else bltTab2 x
def mthTab (x : Str) : Option (D → List D → Hv → R D) := if x = "append" then some mAppend else if x = "extend" then some mExtend else if x = "pop" then some mPop else none
def mthTab0 (x : Str) : Option (D → List D → Hv → R D) := if x = "reverse" then some mReverse else if x = "clear" then some mClear else if x = "pop" then some mPop0 else none
def smthTab0 (x : Str) : Option (Str → Option D) := if x = "upper" then some mUpper else if x = "isdigit" then some mIsdigit else none
def mthTabD (x : Str) : Option (D → List D → Hv → R D) := if x = "get" then some mGet else none
def smthTab1 (x : Str) : Option (Str → D → Hv → R D) := if x = "join" then some mJoin else if x = "split" then some mSplit else none
/-- a table of the top -/
def dctO (cc : CC) : Expr → Option (List (Str × Int))
  | .Name x _ => guardO (isGlo cc.sc x && okNm x) (match cc.gl x with
    | some (.dct kvs) => some kvs
    | _ => none)
  | _ => none
def cmpK (kvs : List (Str × Int)) : CmpOp → Option (D → Hv → R D)
  | .In => some (opInK false kvs)
  | .NotIn => some (opInK true kvs)
  | _ => none
/-- the parts of an f-string -/
def compFs (f : Expr → Option EF) : List Expr → Option (List EF)
  | [] => some []
  | .Constant (.str s) _ _ :: es => (compFs f es).map (conF (.str s) :: ·)
  | .FormattedValue e (-1) none _ :: es => (f e).bind fun a => (compFs f es).map (un1F opFmt a :: ·)
  | _ => none
/-- a dict display's pairs -/
def compPs (f : Expr → Option EF) : List (Option Expr) → List Expr → Option (List (EF × EF))
  | [], [] => some []
  | some k :: ks, v :: vs => (f k).bind fun a => (f v).bind fun b => (compPs f ks vs).map ((a, b) :: ·)
  | _, _ => none
def compTs (f : Expr → Option (TF × List Nat)) : List Expr → Option (List TF × List Nat)
  | [] => some ([], [])
  | e :: es => (f e).bind fun a => (compTs f es).bind fun as => some (a.1 :: as.1, a.2 ++ as.2)
/-- a target: what it does, the slots that it stores -/
def compT : Nat → CC → Expr → Option (TF × List Nat)
  | n + 1, cc, e => (match e with
    | .Name x _ => (slot cc x).bind fun i => guardO (match cc.sc.names.lookup x with
      | some .local => true
      | some .cell => cc.fn x
      | _ => false) (some (nmT i, [i]))
    | .Tuple es _ _ => guardO cc.calm ((compTs (compT n cc) es).map fun z => (tupT z.1, z.2))
    | _ => none)
  | 0, _, _ => none
/-- a block's own names, by their slots -/
def ownOf (cc : CC) (scope : Scope) : List (Str × Nat) := scope.names.filterMap fun y => match y.2 with
  | .local => (slot cc y.1).map fun i => (y.1, i)
  | .cell => (slot cc y.1).map fun i => (y.1, i)
  | _ => none
def blkCC (cc : CC) (scope : Scope) : CC := { cc with sc := relS scope cc.sc, fn := fun x => scope.names.lookup x == some .cell, lam := false }
/-- where isTrue does what the value does -/
def testable : Nat → Expr → Bool
  | n + 1, e => (match e with
    | .UnaryOp .Not a _ => testable n a
    | .BoolOp _ es _ => es.all (testable n)
    | .IfExp _ _ _ _ => false
    | _ => true)
  | 0, _ => false
def compI (f : Expr → Option EF) (cc : CC) (tg iter : Expr) : Option IF := match iter with
  | .Call (.Name x _) [a] [] _ => if isBlt cc x = true ∧ x = "range" then (f a).map it1F else if isBlt cc x = true ∧ x = "enumerate" ∧ isTupE tg = true then (f a).map itN else (f iter).map itE
  | .Call (.Name x _) [a, b] [] _ => if isBlt cc x = true ∧ x = "range" then (f a).bind fun fa => (f b).map (it2F fa) else if isBlt cc x = true ∧ x = "zip" ∧ isTupE tg = true then (f a).bind fun fa => (f b).map (itZ fa) else (f iter).map itE
  | .Call (.Name x _) [a, b, c] [] _ => if isBlt cc x = true ∧ x = "zip" ∧ isTupE tg = true then (f a).bind fun fa => (f b).bind fun fb => (f c).map (itZ3 fa fb) else (f iter).map itE
  | _ => (f iter).map itE
def compOpt (f : Expr → Option EF) : Option Expr → Option (Option EF)
  | none => some none
  | some e => (f e).map some
def compLcB (f : CC → Expr → Option EF) (tb : Expr → Bool) (n : Nat) (cc : CC) (elt tg : Expr) (ifs : List Expr) (scope : Scope) (mk : TF → List Nat → EF → EF → EF) : Option EF :=
  (compT n (blkCC cc scope) tg).bind fun t =>
    guardO (t.2.all fun j => ((ownOf cc scope).map fun (q : Str × Nat) => q.2).contains j) ((match ifs with
      | [] => some (conF (.bl true))
      | [c] => guardO (tb c) (f (blkCC cc scope) c)
      | _ => none).bind fun ft => (f (blkCC cc scope) elt).map fun fe => mk t.1 ((ownOf cc scope).map fun (q : Str × Nat) => q.2) ft fe)
def compLc (f : CC → Expr → Option EF) (tb : Expr → Bool) (n : Nat) (cc : CC) (elt tg iter : Expr) (ifs : List Expr) (scope : Scope) : Option EF :=
  guardO (cc.calm && blkC cc.N cc.sc scope (ownOf cc scope)) ((compI (f cc) cc tg iter).bind fun fi => compLcB f tb n cc elt tg ifs scope (lcF fi))
/-- d.items(), d a name: its slot -/
def itmO (cc : CC) (tg : Expr) : Expr → Option Nat
  | .Call (.Attribute (.Name x _) m apos) [] [] cpos => if (m = "items" ∧ isTupE tg = true) ∧ (okNm x && (isVis cc.sc x && (apos.endLine == cpos.line))) = true then slot cc x else none
  | _ => none
/-- .. walked by a comprehension -/
def compLcD (f : CC → Expr → Option EF) (tb : Expr → Bool) (n : Nat) (cc : CC) (elt tg iter : Expr) (ifs : List Expr) (scope : Scope) : Option EF :=
  guardO (cc.calm && blkC cc.N cc.sc scope (ownOf cc scope)) ((itmO cc tg iter).bind fun i => compLcB f tb n cc elt tg ifs scope (lcDF i))
/-- what list(range(..)) goes to -/
def lrgA (cc : CC) (x : Str) (a : Expr) (as : List Expr) : Option Expr := if x = "list" then (match a, as with
  | .Call (.Name y _) [c] [] _, [] => if isBlt cc y = true ∧ y = "range" then some c else none
  | _, _ => none) else none
/-- calls of calls: what is within, what is made of it -/
def spcA (cc : CC) (x : Str) (a : Expr) (as : List Expr) : Option (Expr × (D → Hv → R D)) := match a, as with
  | .Call (.Attribute o m apos) [] [] cpos, [] => if x = "sorted" ∧ m = "values" ∧ (notCall o && (apos.endLine == cpos.line)) = true then some (o, opSortV) else none
  | .Call (.Name y _) [e] [] _, [] => if x = "len" ∧ y = "set" ∧ isBlt cc y = true then some (e, opLenSet) else if x = "tuple" ∧ y = "range" ∧ isBlt cc y = true then some (e, opTupRg) else none
  | _, _ => none
/-- list(d.items()), sorted(set(..)), sorted(e[a:b]), min(x), max(x) -/
def spcB (cc : CC) (x : Str) (a : Expr) (as : List Expr) : Option (Expr × (D → Hv → R D)) := match a, as with
  | .Call (.Attribute o m apos) [] [] cpos, [] => if x = "list" ∧ m = "items" ∧ (notCall o && (apos.endLine == cpos.line)) = true then some (o, opItems) else none
  | .Call (.Name y _) [e] [] _, [] => if x = "sorted" ∧ y = "set" ∧ isBlt cc y = true then some (e, opSortSet) else none
  | .Call (.Name y _) [_, _] [] _, [] => if x = "min" ∧ isBlt cc y = false then some (a, opMinT) else none
  | .Subscript _ (.Slice _ _ none _) _, [] => if x = "sorted" then some (a, opSortS) else if x = "min" then some (a, opMin1) else if x = "max" then some (a, opMax1) else none
  | _, _ => none
/-- dict([.. for k, v in d.items()]) -/
def dlcA (f : CC → Expr → Option EF) (tb : Expr → Bool) (n : Nat) (cc : CC) (x : Str) (a : Expr) (as : List Expr) : Option EF := if x = "dict" then (match a, as with
  | .ListComp elt [⟨tg, iter, ifs, 0⟩] scope _, [] => compLcD f tb n cc elt tg iter ifs scope
  | _, _ => none) else none
/-- defs that may be values -/
def fvOf (cc : CC) : List Str := match cc.gl "()" with
  | some (.fvs l) => l
  | _ => []
def isFn (cc : CC) (x : Str) : Bool := match cc.gl x with
  | some (.fn _) => true
  | _ => false
/-- isinstance of an exception held as a value -/
def xisO (cc : CC) (T : Str) : Option (D → Hv → R D) := match cc.gl "!" with
  | some (.xcs l) => guardO (isGlo cc.sc T && okNm T) (if l.contains T = true then some (opXis l T) else if T = "TrailError" then some (opXve l) else if T = "ValueError" then some (opXve l) else none)
  | _ => none
/-- such an exception made -/
def xmkO (f : Expr → Option EF) (cc : CC) (x : Str) (b : Bool) (a : Expr) (as : List Expr) : Option EF := match cc.gl "!" with
  | some (.xcs l) => guardO (l.contains x) (match b, a, as with
    | false, .Constant (.str _) _ _, [] => some (xcF x)
    | true, a, [] => (f a).map (un1F (opXat x))
    | _, _, _ => none)
  | _ => none
def compE : Nat → CC → Expr → Option EF
  | n + 1, cc, e => (match e with
    | .Name x _ => guardO (okNm x) (if isVis cc.sc x = true then (slot cc x).map varF else guardO (isGlo cc.sc x) (match cc.gl x with
      | some (.con d) => some (conF d)
      | some (.fn _) => guardO ((fvOf cc).contains x) (some (conF (.fn x)))
      | _ => none))
    | .Constant (.int i) _ _ => some (conF (.int i))
    | .Constant (.str i) _ _ => some (conF (.str i))
    | .Constant (.bool i) _ _ => some (conF (.bl i))
    | .Constant .none _ _ => some (conF .non)
    | .BinOp a op b _ => (compE n cc a).bind fun fa => (compE n cc b).bind fun fb => (opTab op).map fun g => binF g fa fb
    | .UnaryOp .Not a _ => (compE n cc a).map (un1F opNot)
    | .UnaryOp .USub a _ => (compE n cc a).map (un1F opNeg)
    | .Compare a [op] [b] _ => (compE n cc a).bind fun fa => (match dctO cc b with
      | some kvs => (cmpK kvs op).map fun g => un1F g fa
      | none => (compE n cc b).bind fun fb => (cmpTab op).map fun g => binF g fa fb)
    | .Compare a [op, op'] [b, c] _ => (compE n cc a).bind fun fa => (compE n cc b).bind fun fb => (compE n cc c).bind fun fc => (cmpTab op).bind fun g => (cmpTab op').map fun g' => chainF g g' fa fb fc
    | .BoolOp .And es _ => (compL (compE n cc) es).bind andL
    | .BoolOp .Or es _ => (compL (compE n cc) es).bind orL
    | .IfExp c a b _ => guardO (testable n c) ((compE n cc c).bind fun fc => (compE n cc a).bind fun fa => (compE n cc b).map fun fb => iteF fc fa fb)
    | .Tuple es _ _ => (compL (compE n cc) es).map tupF
    | .List es _ => (compL (compE n cc) es).map lstF
    | .Subscript (.BoolOp .Or [a, b] _) (.Slice lo hi none _) _ => (compE n cc a).bind fun fa => (compE n cc b).bind fun fb => (compOpt (compE n cc) lo).bind fun fl => (compOpt (compE n cc) hi).map fun fh => slcF opSl (orT fa fb) fl fh
    | .Subscript a (.Slice none none (some (.UnaryOp .USub (.Constant (.int 1) _ _) _)) _) _ => (compE n cc a).map (un1F opRev)
    | .Subscript a (.Slice lo hi none _) _ => (compE n cc a).bind fun fa => (compOpt (compE n cc) lo).bind fun fl => (compOpt (compE n cc) hi).map fun fh => slcF opSl fa fl fh
    | .Subscript a b _ => guardO (notSl b) (match dctO cc a with
      | some kvs => (compE n cc b).map (un1F (opIxK kvs))
      | none => (compE n cc a).bind fun fa => (compE n cc b).map fun fb => binF opIx fa fb)
    | .JoinedStr (a :: b :: r) _ => (compFs (compE n cc) (a :: b :: r)).map fstF
    | .ListComp elt [⟨tg, iter, ifs, 0⟩] scope _ => compLc (compE n) (testable n) n cc elt tg iter ifs scope
    | .Call (.Name x _) (a :: as) [] _ => if isVis cc.sc x = true then guardO (okNm x && (cc.calm && (fvOf cc).all (isFn cc))) ((slot cc x).bind fun i => (compL (compE n cc) (a :: as)).map (callvF (fvOf cc) i))
      else guardO (isGlo cc.sc x && okNm x) (match cc.gl x with
      | some (.fn _) => guardO cc.calm ((compL (compE n cc) (a :: as)).map (callF x))
      | some .blt => guardO cc.calm (if x = "isinstance" then (match as with
          | [.Name T _] => (match xisO cc T with
            | some g => (compE n cc a).map (un1F g)
            | none => guardO (isBlt cc T) ((tyTab T).bind fun ty => (compE n cc a).map (un1F (isiF ty))))
          | [.Tuple [.Name T _, .Name U _] _ _] => guardO (isBlt cc T && isBlt cc U) ((tyTab T).bind fun ty => (tyTab U).bind fun uy => (compE n cc a).map (un1F (isi2F ty uy)))
          | _ => none) else (match spcA cc x a as with
          | some z => (compE n cc z.1).map (un1F z.2)
          | none => (match spcB cc x a as with
          | some z => (compE n cc z.1).map (un1F z.2)
          | none => (match dlcA (compE n) (testable n) n cc x a as with
          | some F => some (bltF bDict [F])
          | none => (match lrgA cc x a as with
          | some c => (compE n cc c).map lrF
          | none => (bltTab x).bind fun g => (compL (compE n cc) (a :: as)).map (bltF g))))))
      | some (.hof nl B) => (match a, as with
        | .Lambda params body scope _, [] => guardO (cc.lam && (LamX.lamSB cc.sc scope && noP params)) ((compE n { cc with sc := scope, fn := fun _ => false, calm := true, lam := false } body).map (hofF nl B))
        | _, _ => none)
      | some (.cls _) => guardO cc.calm ((compL (compE n cc) (a :: as)).map (newF x))
      | some (.exc b) => guardO cc.calm (xmkO (compE n cc) cc x b a as)
      | _ => none)
    | .Call (.Name x _) [] [] _ => guardO (isGlo cc.sc x && okNm x) (match cc.gl x with
      | some (.cls _) => guardO cc.calm (some (newF x []))
      | _ => none)
    | .Attribute o name _ => guardO (notCall o) ((compE n cc o).bind fun fo => match cc.gl ("." ++ name) with
      | some (.fld f) => guardO (decide (f = name)) (some (fldF name fo))
      | _ => (match cc.gl "!" with
        | some (.xcs l) => guardO (decide (name = "at")) (some (un1F (opXf l) fo))
        | _ => none))
    | .Call (.Name x _) [a] [⟨some k, d, _⟩] _ => guardO (cc.calm && (isBlt cc x && decide (x = "min" ∧ k = "default"))) ((compE n cc a).bind fun fa => (compE n cc d).map fun fd => binF opMinD fa fd)
    | .Call (.Attribute o name apos) (a :: as) [] pos => guardO (notCall o && (decide ((a :: as).length < 20) && (apos.endLine == pos.line))) ((compE n cc o).bind fun fo => (compL (compE n cc) (a :: as)).bind fun fs => (match mthTab name with
      | some g => some (methF g fo fs)
      | none => (match cc.gl ("." ++ name) with
        | some (.mth c m _) => guardO (cc.calm && decide (m = name)) (some (mthF c name fo fs))
        | _ => (match smthTab1 name with
          | some g => (match fs with
            | [fa] => some (methS g fo fa)
            | _ => none)
          | none => (mthTabD name).map fun g => methD g fo fs))))
    | .Dict keys values _ => guardO (decide (keys.length ≤ 15)) ((compPs (compE n cc) keys values).map dctF)
    | .Call (.Attribute o name apos) [] [] pos => guardO (notCall o && (apos.endLine == pos.line)) ((compE n cc o).bind fun fo => (match mthTab0 name with
      | some g => some (methF g fo [])
      | none => (match cc.gl ("." ++ name) with
        | some (.mth c m _) => guardO (cc.calm && decide (m = name)) (some (mthF c name fo []))
        | _ => (smthTab0 name).map fun g => un1F (smth0 g) fo)))
    | _ => none)
  | 0, _, _ => none
/-! statements -/
def nmLoc (cc : CC) (x : Str) : Bool := match cc.sc.names.lookup x with
  | some .local => true
  | _ => false
def isLc : Expr → Bool
  | .ListComp _ _ _ _ => true | .SetComp _ _ _ _ => true | .DictComp _ _ _ _ _ => true
  | _ => false
def compSs (f : Stmt → Option SF) : List Stmt → SF
  | [] => nxS
  | s :: ss => seqS ((f s).getD stkS) (compSs f ss)
/-- a class of exceptions that is known -/
def isExc (cc : CC) (x : Str) : Bool := cc.ex.contains x && isGlo cc.sc x && okNm x
def isExc1 (cc : CC) (x : Str) : Bool := match cc.gl x with
  | some (.exc true) => true
  | _ => false
/-- an except clause without a name -/
def compHu (f : List Stmt → SF) (cc : CC) : ExceptHandler → Option (Str × Hd)
  | .ExceptHandler (some (.Name x _)) none (b :: bs) _ => guardO (isExc cc x) (some (x, .su (f (b :: bs))))
  | _ => none
/-- with one -/
def compHn (cc : CC) : ExceptHandler → Option (Str × Hd)
  | .ExceptHandler (some (.Name x _)) (some z) [.Return (some (.Attribute (.Name y _) a _)) _] _ => (slot cc z).bind fun i => guardO (isExc cc x && (decide (y = z ∧ a = "at") && (isExc1 cc x && (nmLoc cc z && okNm z)))) (some (x, .at_ i))
  | .ExceptHandler (some (.Name x _)) (some z) [.Return (some (.Tuple [.Constant (.str s) _ _, .Attribute (.Name y _) a _] _ _)) _] _ => (slot cc z).bind fun i => guardO (isExc cc x && (decide (y = z ∧ a = "at") && (isExc1 cc x && (nmLoc cc z && okNm z)))) (some (x, .pr i s))
  | _ => none
def compHs (f : ExceptHandler → Option (Str × Hd)) : List ExceptHandler → Option (List (Str × Hd))
  | [] => some []
  | h :: hs => (f h).bind fun a => (compHs f hs).map (a :: ·)
def compHm (f : List Stmt → SF) (cc : CC) (h : ExceptHandler) : Option (Str × Hd) := match compHu f cc h with
  | some z => some z
  | none => compHn cc h
def compHd (f : List Stmt → SF) (cc : CC) (hs : List ExceptHandler) : Option (List (Str × Hd)) := compHs (compHm f cc) hs
/-- raise X("..") or raise X(e) -/
def compR (f : Expr → Option EF) (cc : CC) : Expr → Option SF
  | .Call (.Name x _) [e] [] _ => guardO (isExc cc x) (match cc.gl x with
    | some (.exc false) => (match e with
      | .Constant (.str _) _ _ => some (raiS x (conF .non))
      | _ => none)
    | some (.exc true) => (f e).map (raiS x)
    | _ => none)
  | _ => none
/-- a = [..]: one name -/
def compSet (n : Nat) (cc : CC) (x : Str) (px : Pos) (e : Expr) (pos : Pos) : Option SF :=
  (slot cc x).bind fun i => guardO (nmLoc cc x || (match cc.sc.names.lookup x with
    | some .cell => cc.fn x
    | _ => false)) ((compE n cc e).bind fun f => match e with
      | .ListComp _ _ scope lpos => if nmLoc cc x = true then guardO ((px.line == lpos.line) && !(scope.names.any fun (n, k) => n == x && (k == .local || k == .cell))) (some (asgS (nmT i) f)) else some (asgS (nmT i) f)
      | _ => some (asgS (nmT i) f))
def compS : Nat → CC → Stmt → Option SF
  | n + 1, cc, s => (match s with
    | .Pass _ => some nxS
    | .Break _ => some bkS
    | .Continue _ => some ctS
    | .Raise (some e) none _ => guardO cc.calm (compR (compE n cc) cc e)
    | .Try body (h :: hs) [] [] _ => guardO cc.calm ((compHd (compSs (compS n { cc with calm := false, lam := false })) cc (h :: hs)).map fun z => tryS cc.ex (compSs (compS n cc) body) z)
    | .Return none _ => some retN
    | .Return (some e) _ => (compE n cc e).map retS
    | .Expr e _ => guardO (!isLc e) ((compE n cc e).map expS)
    | .If c a b _ => guardO (testable n c) ((compE n cc c).map fun fc => ifS fc (compSs (compS n cc) a) (compSs (compS n cc) b))
    | .While c a [] _ => guardO (cc.calm && testable n c) ((compE n cc c).map fun fc => whileS fc (compSs (compS n cc) a))
    | .For tg iter a [] _ => guardO cc.calm (match itmO cc tg iter with
      | some i => (compT n cc tg).map fun t => forDS i t.1 (compSs (compS n cc) a)
      | none => (compI (compE n cc) cc tg iter).bind fun fi => (compT n cc tg).map fun t => forS fi t.1 (compSs (compS n cc) a))
    | .Assign [.Name x px] e pos => compSet n cc x px e pos
    | .Assign [.Attribute o name _] e _ => (compE n cc o).bind fun fo => (compE n cc e).bind fun f => (match cc.gl ("." ++ name) with
      | some (.fld g) => guardO (decide (g = name)) (some (atS fo name f))
      | _ => none)
    | .Assign [.Subscript o i _] e _ => guardO (notSl i) ((compE n cc o).bind fun fo => (compE n cc i).bind fun fi => (compE n cc e).map fun f => setS fo fi f)
    | .Assign [.Tuple [.Name x px, .Name y py] _ _] (.Tuple [a, b] _ _) _ =>
      if (nmLoc cc x = true ∧ nmLoc cc y = true) ∧ [a, b].all (foldedForSure 8) = false then
        guardO (cc.calm && ((px.line == py.line) && (decide (x ≠ y) && (!([a, b].all (foldedForSure 8)) && !([a, b].all (constantsAlone 8)))))) ((slot cc x).bind fun i => (slot cc y).bind fun j => guardO (decide (i ≠ j)) ((compE n cc a).bind fun fa => (compE n cc b).map fun fb => parS i j fa fb))
      else (compT n cc (.Tuple [.Name x px, .Name y py] 0 px)).bind fun t => (compE n cc (.Tuple [a, b] 0 px)).map fun f => asgS t.1 f
    | .Assign [.Tuple es _ _] e _ => guardO (!isTupE e) ((compT n cc (.Tuple es 0 e.pos)).bind fun t => (compE n cc e).map fun f => asgS t.1 f)
    | _ => none)
  | 0, _, _ => none
/-! with a token out -/
/-- e.replace("..", "..") -/
def repO : Expr → Option (Expr × Str × Str)
  | .Call (.Attribute o m apos) [.Constant (.str y) _ _, .Constant (.str z) _ _] [] pos => if m = "replace" ∧ (notCall o && ((apos.endLine == pos.line) && !(y == z))) = true then some (o, y, z) else none
  | _ => none
/-- f(e), f told with a token out alone -/
def compCT (n : Nat) (cc : CC) : Expr → Option EF
  | .Call (.Name x _) [b] [] _ => guardO (isGlo cc.sc x && (okNm x && cc.calm)) (match cc.gl x with
    | some (.fnT _) => (compE n cc b).map fun fb => callF x [fb]
    | _ => none)
  | _ => none
def compLcT (n : Nat) (cc : CC) : Expr → Option EF
  | .ListComp elt [⟨tg, iter, [], 0⟩] scope _ => guardO (cc.calm && blkC cc.N cc.sc scope (ownOf cc scope)) ((compI (compE n cc) cc tg iter).bind fun fi => (compT n (blkCC cc scope) tg).bind fun t =>
    guardO (t.2.all fun j => ((ownOf cc scope).map fun (q : Str × Nat) => q.2).contains j) ((compCT n (blkCC cc scope) elt).map fun fe => lcF fi t.1 ((ownOf cc scope).map fun (q : Str × Nat) => q.2) (conF (.bl true)) fe))
  | _ => none
def compET (n : Nat) (cc : CC) (e : Expr) : Option EF := match repO e with
  | some z => (compE n cc z.1).map (un1F (opRep z.2.1 z.2.2))
  | none => (match e with
    | .Call (.Attribute o m apos) [a] [] pos => if m = "split" ∧ (apos.endLine == pos.line) = true then (match repO o with
      | some z => (compE n cc z.1).bind fun fo => (compE n cc a).map fun fa => methS mSplit (un1F (opRep z.2.1 z.2.2) fo) fa
      | none => none) else none
    | .Call (.Name x _) [a] [] _ => guardO (isBlt cc x && (cc.calm && decide (x = "any"))) ((compLcT n cc a).map fun f => bltF bAny [f])
    | _ => none)
def compST : Nat → CC → Stmt → Option SF
  | n + 1, cc, s => (match s with
    | .Return (some e) _ => (match compET n cc e with
      | some f => some (retS f)
      | none => compS (n + 1) cc s)
    | .Assign [.Name x _] e _ => (match compET n cc e with
      | some f => (slot cc x).bind fun i => guardO (nmLoc cc x) (some (asgS (nmT i) f))
      | none => compS (n + 1) cc s)
    | .If c a [] _ => (match compET n cc c with
      | some fc => some (ifS fc (compSs (compST n cc) a) nxS)
      | none => guardO (testable n c) ((compE n cc c).map fun fc => ifS fc (compSs (compST n cc) a) nxS))
    | _ => compS (n + 1) cc s)
  | 0, _, _ => none
/-- behind it a token is out -/
def compSg (n : Nat) (cc : CC) : Stmt → Option SF
  | .Assign [.Name x _] (.Call (.Attribute o m apos) [.Constant (.str y) _ _] [] cpos) _ => guardO (decide (m = "split") && (notCall o && ((apos.endLine == cpos.line) && nmLoc cc x))) ((slot cc x).bind fun i => (compE n cc o).map fun fo => asgS (nmT i) (methS mSplit fo (conF (.str y))))
  | .If (.Compare (.Name y yp) [.Eq] [.Constant (.str z) _ _] _) a [] _ => (compE n cc (.Name y yp)).map fun fy => ifS (binF (opEqD false) fy (conF (.str z))) (compSs (compS n cc) a) nxS
  | _ => none
def compSs0 (n : Nat) (cc : CC) : List Stmt → SF
  | [] => nxS
  | s :: ss => (match compSg n cc s with
    | some F => seqS F (compSs (compST n cc) ss)
    | none => seqS ((compS n cc s).getD stkS) (compSs0 n cc ss))
/-- a def -/
def compFn (n : Nat) (gl : Str → Option GV) (ex : List Str) (N : List Str) (st : Stmt) : Option SF :=
  some (compSs (compS n { N := N, sc := defScope st, fn := fun _ => true, gl := gl, calm := true, ex := ex }) (defBody st))
/-- a def that tries the lambda it gets -/
def compHof (n : Nat) (cc : CC) (a : Str) : List Stmt → Option (EF → SF)
  | .Try [.Expr (.Call (.Name y _) [] [] _) _] (h :: hs) [] [] _ :: rest => guardO (decide (y = a)) ((compHd (compSs (compS n { cc with calm := false, lam := false })) cc (h :: hs)).map fun z t => seqS (tryS cc.ex (expS t) z) (compSs (compS n { cc with calm := false, lam := false }) rest))
  | .Try [.Return (some (.Tuple [.Constant (.str m) _ _, .Call (.Name y _) [] [] _] _ _)) _] (h :: hs) [] [] _ :: rest => guardO (decide (y = a)) ((compHd (compSs (compS n { cc with calm := false, lam := false })) cc (h :: hs)).map fun z t => seqS (tryS cc.ex (retS (tupF [conF (.str m), t])) z) (compSs (compS n { cc with calm := false, lam := false }) rest))
  | .Try [.Return (some (.Call (.Name y _) [] [] _)) _] (h :: hs) [] [] _ :: rest => guardO (decide (y = a)) ((compHd (compSs (compS n { cc with calm := false, lam := false })) cc (h :: hs)).map fun z t => seqS (tryS cc.ex (retS t) z) (compSs (compS n { cc with calm := false, lam := false }) rest))
  | _ => none
end VM

set_option maxRecDepth 100000
set_option maxHeartbeats 4000000
namespace VM
open PySem PySem.Spec PyProof.Rows L2
variable [HasT]
/-- a def that tries the lambda it gets, and the tables for it -/
def HofOk (X : Cx) (C : Or) (x : Str) (nl : Nat) (B : EF → SF) : Prop := ∃ (a : Str) (g c P : Addr) (pg : Arguments) (bg : List Stmt) (sg : Scope) (dV kV doc pm cdv ct oc : Value) (an od : Option Addr) (osl : Array (Option Value)) (Ng : List Str),
  nl = Ng.length ∧ X.mg x = some (.ref g) ∧ PySem.W.keepIn X.K (.ref g) = true ∧ X.K.lookup g = some ⟨oc, od, .func (PySem.W.fnOf x x pg bg sg dV kV doc pm an cdv ct), osl⟩ ∧ PySem.W.codeIn X.K cdv x = true ∧ L2.Binds X.K (PySem.W.fnOf x x pg bg sg dV kV doc pm an cdv ct) [a] [] ∧
  FnScope Ng [a] sg ∧ Ng[0]? = some a ∧ Vis sg a ∧ (∀ q, LamX.GivesTo X Ng x sg g cdv bg a q (TTh X.K X.mg Ng.length B C)) ∧ LamX.TabB X.base X.mg c P ∧ X.env.code = .ref c ∧ (P, X.env.qual ++ "<lambda>") ∈ HasT.T ∧ (∀ p ∈ HasT.T, p.1 = P → p.2 = X.env.qual ++ "<lambda>") ∧
  (a == ("__debug__" : Str)) = false ∧ (a == ("__classdict__" : Str)) = false
/-- what a lambda's body may call -/
def FnAt (X : Cx) (C : Or) (kk : Nat) (x : Str) (np : Nat) : Prop := ∃ k f fd ps, k ≤ kk ∧ ps.length = np ∧ FnOk X.prog X.w X.K X.mg X.base (L2.CX X.prog X.w) k f fd ps (spOf X.K X.mg ps.length (C x)) ∧ (∀ ds h, ds.length ≠ ps.length → C x ds h = .stuck) ∧
  X.mg x = some (.ref f) ∧ PySem.W.keepIn X.K (.ref f) = true ∧ Binds X.K fd ps []
/-- a class, a method that may be called -/
def ClAt (X : Cx) (C : Or) (x : Str) (np : Nat) (rm : Nat → Prop) : Prop := ∃ k f fd ps, rm (k + 1) ∧ ps.length = np ∧ FnOk X.prog X.w X.K X.mg X.base (L2.CX X.prog X.w) k f fd ps (spOf X.K X.mg ps.length (C (x ++ ".__init__"))) ∧ (∀ ds h, ds.length ≠ ps.length → C (x ++ ".__init__") ds h = .stuck) ∧
  X.mg x = some (.ref (HasT.C x)) ∧ Mk X.K (HasT.C x) f ∧ Cls X.K (HasT.C x) ∧ (∀ g ∈ HasT.F, NoAttr X.K (HasT.C x) g) ∧ Binds X.K fd ps []
def MtAt (X : Cx) (C : Or) (c m : Str) (np : Nat) (rm : Nat → Prop) : Prop := ∃ k f fd ps, rm k ∧ ps.length = np ∧ FnOk X.prog X.w X.K X.mg X.base (L2.CX X.prog X.w) k f fd ps (spOf X.K X.mg ps.length (C (c ++ "." ++ m))) ∧ (∀ ds h, ds.length ≠ ps.length → C (c ++ "." ++ m) ds h = .stuck) ∧
  Meth X.K (HasT.C c) m f ∧ Cls X.K (HasT.C c) ∧ Binds X.K fd ps []
theorem ClAt.mono {X : Cx} {C : Or} {x : Str} {np : Nat} {r1 r2 : Nat → Prop} (h : ClAt X C x np r1) (w : ∀ k, r1 k → r2 k) : ClAt X C x np r2 := by
  obtain ⟨k, f, fd, ps, h1, h⟩ := h
  exact ⟨k, f, fd, ps, w _ h1, h⟩
theorem MtAt.mono {X : Cx} {C : Or} {c m : Str} {np : Nat} {r1 r2 : Nat → Prop} (h : MtAt X C c m np r1) (w : ∀ k, r1 k → r2 k) : MtAt X C c m np r2 := by
  obtain ⟨k, f, fd, ps, h1, h⟩ := h
  exact ⟨k, f, fd, ps, w _ h1, h⟩
/-- .. with a token out -/
def FnAt1 (X : Cx) (C : Or) (x : Str) (np : Nat) (rm : Nat → Prop) : Prop := ∃ k f fd ps, rm k ∧ ps.length = np ∧ FnOk1 X.prog X.w X.K X.mg X.base (L2.CX X.prog X.w) k f fd ps (spOf X.K X.mg ps.length (C x)) ∧ (∀ ds h, ds.length ≠ ps.length → C x ds h = .stuck) ∧
  X.mg x = some (.ref f) ∧ PySem.W.keepIn X.K (.ref f) = true ∧ Binds X.K fd ps []
theorem FnAt1.mono {X : Cx} {C : Or} {x : Str} {np : Nat} {r1 r2 : Nat → Prop} (h : FnAt1 X C x np r1) (w : ∀ k, r1 k → r2 k) : FnAt1 X C x np r2 := by
  obtain ⟨k, f, fd, ps, h1, h⟩ := h
  exact ⟨k, f, fd, ps, w _ h1, h⟩
/-- what a lambda's body may call: a def, a class, a method -/
def CallAt (X : Cx) (C : Or) (kk : Nat) (x : Str) : GV → Prop
  | .fn np => FnAt X C kk x np
  | .cls np => ClAt X C x np fun k => k ≤ kk
  | .mth c m np => MtAt X C c m np fun k => k ≤ kk
  | .fnT np => FnAt1 X C x np fun k => k ≤ kk
  | _ => True
/-! what the text's names are there -/
def GOk (X : Cx) (C : Or) (x : Str) : GV → Prop
  | .con d => ∃ u v, X.mg x = some u ∧ RelV v u ∧ ∀ L H, Rel X.K L H d v
  | .fn np => ∃ k f fd ps, ps.length = np ∧ FnOk X.prog X.w X.K X.mg X.base (L2.CX X.prog X.w) k f fd ps (spOf X.K X.mg ps.length (C x)) ∧ (∀ ds h, ds.length ≠ ps.length → C x ds h = .stuck) ∧ (X.calm = true → Room k X.A) ∧
      X.mg x = some (.ref f) ∧ PySem.W.keepIn X.K (.ref f) = true ∧ Binds X.K fd ps []
  | .blt => X.mg x = none
  | .exc b => ∃ Ca, X.mg x = some (.ref Ca) ∧ XOk X b Ca
  | .hof _ _ => True
  | .cls np => ClAt X C x np fun k => X.calm = true → Room k X.A
  | .mth c m np => MtAt X C c m np fun k => X.calm = true → Room k X.A
  | .fld f => f ∈ HasT.F
  | .dct kvs => DctOk X.K X.w X.mg x kvs
  | .fnT np => FnAt1 X C x np fun k => X.calm = true → Room k X.A
  | .fvs l => ∀ y ∈ l, X.mg y = some (.ref (HasT.C y))
  | .xcs l => XcOk X.K X.mg l
structure Sd (X : Cx) (W : WX) (C : Or) (cc : CC) : Prop where
  N : X.N = cc.N
  nd : X.N.Nodup
  sc : X.env.scope = cc.sc
  fn : X.fn = cc.fn
  calm : cc.calm = true → X.calm = true
  tk : Takes X W
  un : X.A.units + 70 < cLine
  gl : ∀ x g, cc.gl x = some g → GOk X C x g
  ex : ∀ x ∈ cc.ex, ∀ y ∈ cc.ex, ∃ Cx Cy, X.mg x = some (.ref Cx) ∧ X.mg y = some (.ref Cy) ∧ PySem.W.exmOne X.K (.ref Cx) (.ref Cy) = some (decide (x = y))
  lm : cc.lam = true → ∃ kk, Room (kk + 2) X.A ∧ (∀ x g, cc.gl x = some g → CallAt X C kk x g) ∧ 2 ≤ kk ∧ ∀ x nl B, cc.gl x = some (.hof nl B) → HofOk X C x nl B
/-- the context of a try's body -/
theorem Sd.tr {X : Cx} {W W' : WX} {C : Or} {cc : CC} (S : Sd X W C cc) {pn : List (Addr × Obj)} {xe : Value → Shared → Prop} (tk : Takes (X.tr pn xe) W') : Sd (X.tr pn xe) W' C cc where
  N := S.N
  nd := S.nd
  sc := S.sc
  fn := S.fn
  calm := S.calm
  tk := tk
  un := S.un
  gl := fun x g e => by
    have z := S.gl x g e
    cases g with
    | con d => exact z
    | fn np => exact z
    | blt => exact z
    | hof nl B => trivial
    | cls np => exact z
    | mth c m np => exact z
    | fld f => exact z
    | dct kvs => exact z
    | fnT np => exact z
    | fvs l => exact z
    | xcs l => exact z
    | exc b =>
      obtain ⟨Ca, z1, z2⟩ := z
      refine ⟨Ca, z1, ?_⟩
      cases b with
      | true => exact z2
      | false => exact z2
  ex := S.ex
  lm := S.lm
/-- .. of an except suite -/
theorem Sd.su {X : Cx} {W : WX} {C : Or} {cc : CC} (S : Sd X W C cc) (a : Addr) (pn : List (Addr × Obj)) : Sd (X.suite a pn) W0 C { cc with calm := false, lam := false } where
  N := S.N
  nd := S.nd
  sc := S.sc
  fn := S.fn
  calm := fun z => absurd z Bool.false_ne_true
  tk := takes0
  un := S.un
  gl := fun x g e => by
    have z := S.gl x g e
    cases g with
    | con d => exact z
    | fn np =>
      obtain ⟨k, f, fd, ps, e1, F1, e2, rm, e3, e4, e5⟩ := z
      exact ⟨k, f, fd, ps, e1, F1, e2, fun z => absurd (show false = true from z) Bool.false_ne_true, e3, e4, e5⟩
    | blt => exact z
    | hof nl B => trivial
    | cls np =>
      obtain ⟨k, f, fd, ps, _, r⟩ := z
      exact ⟨k, f, fd, ps, fun w => absurd (show false = true from w) Bool.false_ne_true, r⟩
    | mth c m np =>
      obtain ⟨k, f, fd, ps, _, r⟩ := z
      exact ⟨k, f, fd, ps, fun w => absurd (show false = true from w) Bool.false_ne_true, r⟩
    | fld f => exact z
    | dct kvs => exact z
    | fnT np =>
      obtain ⟨k, f, fd, ps, _, r⟩ := z
      exact ⟨k, f, fd, ps, fun w => absurd (show false = true from w) Bool.false_ne_true, r⟩
    | fvs l => exact z
    | xcs l => exact z
    | exc b =>
      obtain ⟨Ca, z1, z2⟩ := z
      refine ⟨Ca, z1, ?_⟩
      cases b with
      | true =>
        obtain ⟨⟨fI, fd, i1, i2, i3, i4, i5⟩, z3⟩ := z2
        exact ⟨⟨fI, fd, i1, i2, i3, fun z => absurd (show false = true from z) Bool.false_ne_true, i5⟩, z3⟩
      | false => exact z2
  ex := S.ex
  lm := fun z => absurd z Bool.false_ne_true
theorem guardO_some {α : Type} {b : Bool} {x : Option α} {y : α} (h : guardO b x = some y) : b = true ∧ x = some y := by
  unfold guardO at h
  split at h
  · rename_i z; exact ⟨z, h⟩
  · cases h
theorem bind_some {α β : Type} {x : Option α} {f : α → Option β} {y : β} (h : x.bind f = some y) : ∃ a, x = some a ∧ f a = some y := Option.bind_eq_some_iff.mp h
theorem map_some {α β : Type} {x : Option α} {f : α → β} {y : β} (h : x.map f = some y) : ∃ a, x = some a ∧ f a = y := Option.map_eq_some_iff.mp h
omit [HasT] in
theorem and2 {a b : Bool} (h : (a && b) = true) : a = true ∧ b = true := Bool.and_eq_true_iff.mp h
omit [HasT] in
theorem okNm_ok {x : Str} (h : okNm x = true) : (x == ("__debug__" : Str)) = false ∧ (x == ("__classdict__" : Str)) = false ∧ x ≠ "__name__" := by
  unfold okNm at h
  obtain ⟨h1, h⟩ := and2 h
  obtain ⟨h2, h3⟩ := and2 h
  refine ⟨by simpa using h1, by simpa using h2, ?_⟩
  intro z
  rw [decide_eq_true z] at h3
  cases h3
theorem vis_ok {sc : Scope} {x : Str} (h : isVis sc x = true) : Vis sc x := by
  unfold isVis at h
  split at h
  · exact .inl (by assumption)
  · exact .inr (.inl (by assumption))
  · exact .inr (.inr (by assumption))
  · cases h
theorem glo_ok {X : Cx} {sc : Scope} {x : Str} (e : X.env.scope = sc) (h : isGlo sc x = true) : Gl X x := by
  unfold isGlo at h
  split at h
  · rename_i z
    show X.env.scope.names.lookup x = some .globalImplicit
    rw [e]; exact z
  · cases h
theorem slot_ok {cc : CC} {x : Str} {i : Nat} (h : slot cc x = some i) : cc.N[i]? = some x := by
  unfold slot at h
  split at h
  · split at h
    · rename_i z
      cases h
      exact z
    · cases h
  · cases h
theorem blt_ok {X : Cx} {W : WX} {C : Or} {cc : CC} (S : Sd X W C cc) {x : Str} (h : isBlt cc x = true) : Gl X x ∧ X.mg x = none ∧ (x == ("__debug__" : Str)) = false ∧ x ≠ "__name__" := by
  unfold isBlt at h
  obtain ⟨h1, h⟩ := and2 h
  obtain ⟨h2, h3⟩ := and2 h
  obtain ⟨d1, d2, d3⟩ := okNm_ok h2
  split at h3
  · rename_i z
    exact ⟨glo_ok S.sc h1, S.gl x _ z, d1, d3⟩
  · cases h3
theorem noStar {n : Nat} {cc : CC} {e : Expr} {F : EF} (h : compE n cc e = some F) (env : PySem.Env) (es : List Expr) : starEach (e :: es) env = (false, eval e env) :: starEach es env := by
  cases n with
  | zero => cases h
  | succ n =>
    cases e <;> first
      | rfl
      | cases h
theorem noStars {n : Nat} {cc : CC} : ∀ {es : List Expr} {Fs : List EF}, compL (compE n cc) es = some Fs → ∀ (pos : Pos) (env : PySem.Env), (backTo pos (starEach es env)).any (·.1) = false ∧ (backTo pos (starEach es env)).all (fun x => !x.1) = true
  | [], _, _, pos, env => ⟨rfl, rfl⟩
  | e :: es, Fs, h, pos, env => by
    obtain ⟨a, h1, h⟩ := bind_some h
    obtain ⟨as, h2, h⟩ := bind_some h
    obtain ⟨i1, i2⟩ := noStars h2 pos env
    rw [noStar h1]
    unfold backTo at i1 i2 ⊢
    rw [List.map_cons, List.any_cons, List.all_cons, i1, i2]
    exact ⟨rfl, rfl⟩
/-- no set display -/
theorem notSet {n : Nat} {cc : CC} {e : Expr} {F : EF} (h : compE n cc e = some F) : (∀ (op : CmpOp), behindInMarks op e = false) ∧ ∀ (env : PySem.Env) x, foldedSetIterable e env x = pure x := by
  cases n with
  | zero => cases h
  | succ n =>
    cases e <;> first
      | exact ⟨fun _ => rfl, fun _ _ => rfl⟩
      | cases h
section
variable {X : Cx} {W : WX} {C : Or} {cc : CC}
theorem optab_ok : ∀ {op : Operator} {g : D → D → Hv → R D}, opTab op = some g → ∃ r, OkR X W g r ∧ OpR X (binaryOp op) r
  | .Add, _, h => by cases h; exact ⟨_, o_add, op_addA⟩
  | .Sub, _, h => by cases h; exact ⟨_, o_sub, op_sub⟩
  | .Mult, _, h => by cases h; exact ⟨_, o_mul, op_mulA⟩
  | .FloorDiv, _, h => by cases h; exact ⟨_, o_fdiv, op_fdivW⟩
  | .Mod, _, h => by cases h; exact ⟨_, o_mod, op_mod⟩
  | .Pow, _, h => by cases h; exact ⟨_, o_pow, op_pow⟩
  | .MatMult, _, h => by cases h
  | .Div, _, h => by cases h
  | .LShift, _, h => by cases h
  | .RShift, _, h => by cases h
  | .BitOr, _, h => by cases h
  | .BitXor, _, h => by cases h
  | .BitAnd, _, h => by cases h
theorem cmptab_ok (S : Sd X W C cc) : ∀ {op : CmpOp} {g : D → D → Hv → R D}, cmpTab op = some g → ∃ r, OkR X W g r ∧ OpR X (compareOp op) r
  | .Lt, _, h => by cases h; exact ⟨_, o_cmpI _, op_lt⟩
  | .LtE, _, h => by cases h; exact ⟨_, o_le, op_leV⟩
  | .Gt, _, h => by cases h; exact ⟨_, o_cmpI _, op_gt⟩
  | .GtE, _, h => by cases h; exact ⟨_, o_cmpI _, op_ge⟩
  | .Eq, _, h => by cases h; exact ⟨_, o_eq, op_eqU (by have := S.un; omega)⟩
  | .NotEq, _, h => by cases h; exact ⟨_, o_ne, op_neD (by have := S.un; omega)⟩
  | .Is, _, h => by cases h; exact ⟨_, o_is, op_is2⟩
  | .IsNot, _, h => by cases h; exact ⟨_, o_isnot, op_isnot2⟩
  | .In, _, h => by cases h; exact ⟨_, o_in false, op_inV (by have := S.un; omega)⟩
  | .NotIn, _, h => by cases h; exact ⟨_, o_in true, op_notInV (by have := S.un; omega)⟩
theorem tyTab_ok {x : Str} {T : String} (h : tyTab x = some T) : bootBuiltins x = some (.type T) ∧ T ∈ ["bool", "int", "str", "tuple", "list", "dict"] := by
  unfold tyTab at h
  split at h
  · rename_i e; subst e; cases h; exact ⟨boot_int, by decide⟩
  split at h
  · rename_i e; subst e; cases h; exact ⟨boot_tuple, by decide⟩
  split at h
  · rename_i e; subst e; cases h; exact ⟨boot_bool, by decide⟩
  split at h
  · rename_i e; subst e; cases h; exact ⟨boot_str, by decide⟩
  split at h
  · rename_i e; subst e; cases h; exact ⟨boot_list, by decide⟩
  · cases h
theorem bltTab_ok (S : Sd X W C cc) (hc : cc.calm = true) {x : Str} {g : List D → Hv → R D} (h : bltTab x = some g) : ∃ r, OkC X W g r ∧ ((∃ id, CallR X (.builtin id) r ∧ bootBuiltins x = some (.builtin id)) ∨ ∃ T, CallR X (.type T) r ∧ bootBuiltins x = some (.type T)) := by
  unfold bltTab at h
  split at h
  · rename_i e; subst e; cases h; exact ⟨_, o_len, .inl ⟨_, c_len, boot_len⟩⟩
  split at h
  · rename_i e; subst e; cases h; exact ⟨_, o_tuple, .inr ⟨_, call_tuple_of, boot_tuple⟩⟩
  split at h
  · rename_i e; subst e; cases h; exact ⟨_, o_int, .inr ⟨_, c_int, boot_int⟩⟩
  split at h
  · rename_i e; subst e; cases h; exact ⟨_, o_sum, .inl ⟨_, cr_sum (S.calm hc), boot_sum⟩⟩
  split at h
  · rename_i e; subst e; cases h; exact ⟨_, o_abs, .inl ⟨_, call_abs, boot_abs⟩⟩
  split at h
  · rename_i e; subst e; cases h; exact ⟨_, o_list, .inr ⟨_, c_list (S.calm hc), boot_list⟩⟩
  split at h
  · rename_i e; subst e; cases h; exact ⟨_, o_max, .inl ⟨_, call_max2 (S.calm hc), boot_max⟩⟩
  split at h
  · rename_i e; subst e; cases h; exact ⟨_, o_min, .inl ⟨_, call_min2 (S.calm hc), boot_min⟩⟩
  split at h
  · rename_i e; subst e; cases h; exact ⟨_, o_all, .inl ⟨_, cr_all (S.calm hc), boot_all⟩⟩
  split at h
  · rename_i e; subst e; cases h; exact ⟨_, o_any, .inl ⟨_, cr_any (S.calm hc), boot_any⟩⟩
  split at h
  · rename_i e; subst e; cases h; exact ⟨_, o_str, .inr ⟨_, c_str, boot_str⟩⟩
  split at h
  · rename_i e; subst e; cases h; exact ⟨_, o_sorted, .inl ⟨_, cr_sortedA (S.calm hc), boot_sorted⟩⟩
  unfold bltTab2 at h
  split at h
  · rename_i e; subst e; cases h; exact ⟨_, o_dict, .inr ⟨_, cr_dictA (S.calm hc), boot_dict⟩⟩
  · cases h
theorem mthTab_ok {x : Str} {g : D → List D → Hv → R D} (h : mthTab x = some g) : ∃ r id, OkM X W g r ∧ Slot "list" x id ∧ typeOf (.builtin id) = pure (.type "method_descriptor") ∧ MtR X id r := by
  unfold mthTab at h
  split at h
  · rename_i e; subst e; cases h; exact ⟨_, _, m_append, PySem.F.slot_list_append, PySem.F.type_list_append, mt_append⟩
  split at h
  · rename_i e; subst e; cases h; exact ⟨_, _, m_extend, PySem.F.slot_list_extend, PySem.F.type_list_extend, mt_extA⟩
  split at h
  · rename_i e; subst e; cases h; exact ⟨_, _, m_pop, PySem.F.slot_list_pop, PySem.F.type_list_pop, mt_popAt⟩
  · cases h
theorem mthTab0_ok {x : Str} {g : D → List D → Hv → R D} (h : mthTab0 x = some g) : ∃ r id, OkM X W g r ∧ Slot "list" x id ∧ typeOf (.builtin id) = pure (.type "method_descriptor") ∧ MtR X id r := by
  unfold mthTab0 at h
  split at h
  · rename_i e; subst e; cases h; exact ⟨_, _, m_reverse, PySem.F.slot_list_reverse, PySem.F.type_list_reverse, mt_reverse⟩
  split at h
  · rename_i e; subst e; cases h; exact ⟨_, _, m_clear, PySem.F.slot_list_clear, PySem.F.type_list_clear, mt_clear⟩
  split at h
  · rename_i e; subst e; cases h; exact ⟨_, _, m_pop0, PySem.F.slot_list_pop, PySem.F.type_list_pop, mt_pop⟩
  · cases h
theorem smthTab0_ok {x : Str} {g : Str → Option D} (h : smthTab0 x = some g) : ∃ id, Slot "str" x id ∧ typeOf (.builtin id) = pure (.type "method_descriptor") ∧ MtR X id (rSm g) ∧ ∀ z d, g z = some d → ∃ v : V, ∀ K L H, Rel K L H d v := by
  unfold smthTab0 at h
  split at h
  · rename_i e; subst e; cases h; exact ⟨_, PySem.F.slot_str_upper, PySem.F.type_str_upper, mt_upperD, mUpper_v⟩
  split at h
  · rename_i e; subst e; cases h; exact ⟨_, PySem.F.slot_str_isdigit, PySem.F.type_str_isdigit, mt_isdigitD, mIsdigit_v⟩
  · cases h
theorem smthTab1_ok {o e : Expr} {x : Str} {apos pos : Pos} {g : Str → D → Hv → R D} {fo fe : EF} (h : smthTab1 x = some g) (ho : PE X o (tE X W (fo C))) (he : PE X e (tE X W (fe C))) (hs : starEach [e] X.env = [(false, eval e X.env)]) (hbase : attributeBase o x X.env (eval o X.env) = eval o X.env) (hline : (apos.endLine == pos.line) = true) :
    PE X (.Call (.Attribute o x apos) [e] [] pos) (tE X W (methS g fo fe C)) := by
  unfold smthTab1 at h
  split at h
  · rename_i q; subst q; cases h; exact r_join C ho he hs hbase hline
  split at h
  · rename_i q; subst q; cases h; exact r_split C ho he hs hbase hline
  · cases h
theorem dct_ok (S : Sd X W C cc) {b : Expr} {kvs : List (Str × Int)} (h : dctO cc b = some kvs) : ∃ x p, b = .Name x p ∧ Gl X x ∧ DctOk X.K X.w X.mg x kvs ∧ (x == ("__debug__" : Str)) = false := by
  unfold dctO at h
  split at h
  · rename_i x p
    obtain ⟨h0, h⟩ := guardO_some h
    obtain ⟨h1, h2⟩ := and2 h0
    split at h
    · rename_i kvs' e
      cases h
      exact ⟨x, p, rfl, glo_ok S.sc h1, S.gl x _ e, (okNm_ok h2).1⟩
    · cases h
  · cases h
theorem cmpK_ok (S : Sd X W C cc) {a b : Expr} {op : CmpOp} {kvs : List (Str × Int)} {g : D → Hv → R D} {fa : EF} {pos : Pos} (h : dctO cc b = some kvs) (e : cmpK kvs op = some g) (ha : PE X a (tE X W (fa C))) :
    PE X (.Compare a [op] [b] pos) (tE X W (un1F g fa C)) ∧ PT X (.Compare a [op] [b] pos) (tB X W (un1F g fa C)) := by
  obtain ⟨x, p, rfl, hg, D, hd⟩ := dct_ok S h
  cases op <;> first
    | (cases e; exact r_inK C hg D hd ha)
    | (cases e; exact r_notInK C hg D hd ha)
    | cases e
theorem compFs_ok {n : Nat} (ih : ∀ (e : Expr) (F : EF), compE n cc e = some F → PE X e (tE X W (F C))) : ∀ (es : List Expr) (fs : List EF), compFs (compE n cc) es = some fs → PJ X es (fs.map fun f => tE X W (f C))
  | [], _, h => by cases h; exact .nil
  | e :: es, fs, h => by
    unfold compFs at h
    split at h
    · rename_i eq; cases eq
    · rename_i eq
      cases eq
      obtain ⟨gs, h1, rfl⟩ := map_some h
      exact .cons (r_str C) (compFs_ok ih _ gs h1)
    · rename_i eq
      cases eq
      obtain ⟨a, h1, h⟩ := bind_some h
      obtain ⟨gs, h2, rfl⟩ := map_some h
      exact .cons (r_fmt C (ih _ _ h1)) (compFs_ok ih _ gs h2)
    · cases h
/-! targets -/
theorem compT_ok (S : Sd X W C cc) : ∀ (n : Nat) (e : Expr) (t : TF × List Nat), compT n cc e = some t → PG X e (tG X.K t.2 t.1)
  | 0, _, _, h => by cases h
  | n + 1, e, t, h => by
    have ih := compT_ok S n
    have ls : ∀ (es : List Expr) (t : List TF × List Nat), compTs (compT n cc) es = some t → PGs X es (tGs X.K t.2 t.1) ∧ (assignEach es X.env).length = t.1.length ∧ (assignEach es X.env).findIdx? (·.1) = none := by
      intro es
      induction es with
      | nil => intro t h; cases h; exact ⟨gs_nil, rfl, rfl⟩
      | cons e es il =>
        intro t h
        obtain ⟨a, h1, h⟩ := bind_some h
        obtain ⟨as, h2, h⟩ := bind_some h
        cases h
        obtain ⟨p1, p2, p3⟩ := il as h2
        have ae : assignEach (e :: es) X.env = (false, assign e X.env) :: assignEach es X.env := by
          cases n with
          | zero => cases h1
          | succ n => cases e <;> first | rfl | cases h1
        refine ⟨gs_cons (ih e a h1) p1 (by rw [ae]; rfl), by rw [ae]; simp [p2], by rw [ae, List.findIdx?_cons, p3]; rfl⟩
    cases e with
    | Name x pos =>
      obtain ⟨i, h1, h⟩ := bind_some h
      obtain ⟨h2, h⟩ := guardO_some h
      cases h
      refine g_name S.nd (by rw [S.N]; exact slot_ok h1) ?_ ?_
      · split at h2
        · rename_i z; exact .inl (by rw [S.sc]; exact z)
        · rename_i z; exact .inr (by rw [S.sc]; exact z)
        · cases h2
      · split at h2
        · rename_i z; exact .inr (by rw [S.sc]; exact z)
        · rename_i z; exact .inl (by rw [S.fn]; exact h2)
        · cases h2
    | Tuple es k pos =>
      obtain ⟨h0, h⟩ := guardO_some h
      obtain ⟨z, h1, h⟩ := map_some h
      cases h
      obtain ⟨p1, p2, p3⟩ := ls es z h1
      exact g_tup (S.calm h0) p1 p2 p3
    | _ => cases h
/-! expressions -/
abbrev SE (n : Nat) : Prop := ∀ (cc : CC) (e : Expr) (F : EF), compE n cc e = some F → ∀ (X : Cx) (W : WX) (C : Or), Sd X W C cc → PE X e (tE X W (F C)) ∧ ∀ m, testable m e = true → PT X e (tB X W (F C))
theorem compL_ok {n : Nat} (ih : SE n) (S : Sd X W C cc) : ∀ (es : List Expr) (Fs : List EF), compL (compE n cc) es = some Fs → PA X es (tA X W (listF Fs C))
  | [], _, h => by cases h; exact a_nil C
  | e :: es, _, h => by
    obtain ⟨a, h1, h⟩ := bind_some h
    obtain ⟨as, h2, h⟩ := bind_some h
    cases h
    exact a_cons C (ih cc e a h1 X W C S).1 (compL_ok ih S es as h2) (noStar h1 _ _)
theorem compPs_ok {n : Nat} (ih : SE n) (S : Sd X W C cc) {pos : Pos} : ∀ (ks : List (Option Expr)) (vs : List Expr) (es : List (EF × EF)), compPs (compE n cc) ks vs = some es →
    PPs X pos ks vs (es.map fun p => (tE X W (p.1 C), tE X W (p.2 C))) ∧ ks.all (·.isSome) = true ∧ ks.length = vs.length
  | [], [], _, h => by cases h; exact ⟨pps_nil, rfl, rfl⟩
  | some k :: ks, v :: vs, _, h => by
    unfold compPs at h
    obtain ⟨a, h1, h⟩ := bind_some h
    obtain ⟨b, h2, h⟩ := bind_some h
    obtain ⟨es, h3, rfl⟩ := map_some h
    obtain ⟨q1, q2, q3⟩ := compPs_ok ih S ks vs es h3
    exact ⟨pps_cons (ih cc k a h1 X W C S).1 (ih cc v b h2 X W C S).1 q1, by simpa using q2, by simp [q3]⟩
  | [], _ :: _, _, h => by cases h
  | none :: _, _, _, h => by cases h
  | some _ :: _, [], _, h => by cases h
theorem andL_ok {n : Nat} (ih : SE n) (S : Sd X W C cc) {pos : Pos} : ∀ (es : List Expr) (Fs : List EF) (F : EF), compL (compE n cc) es = some Fs → andL Fs = some F → PE X (.BoolOp .And es pos) (tE X W (F C)) ∧ ∀ m, es.all (testable m) = true → PW X (.BoolOp .And es pos) (tB X W (F C))
  | [], _, _, h, q => by cases h; cases q
  | [e], _, _, h, q => by
    obtain ⟨a, h1, h⟩ := bind_some h
    cases h
    cases q
    obtain ⟨p1, p2⟩ := ih cc e _ h1 X W C S
    exact ⟨r_one p1, fun m t => t_and1 (p2 m (by simpa using t))⟩
  | e :: e2 :: es, _, _, h, q => by
    obtain ⟨a, h1, h⟩ := bind_some h
    obtain ⟨as, h2, h⟩ := bind_some h
    cases h
    obtain ⟨b, h3, h4⟩ := bind_some h2
    obtain ⟨bs, h5, h6⟩ := bind_some h4
    cases h6
    obtain ⟨G, q1, rfl⟩ := map_some q
    obtain ⟨p1, p2⟩ := ih cc e a h1 X W C S
    obtain ⟨r1, r2⟩ := andL_ok ih S (e2 :: es) _ G h2 q1
    exact ⟨r_and C p1 r1, fun m t => by
      rw [List.all_cons] at t
      obtain ⟨t1, t2⟩ := and2 t
      exact t_and C (p2 m t1) (r2 m t2)⟩
theorem orL_ok {n : Nat} (ih : SE n) (S : Sd X W C cc) {pos : Pos} : ∀ (es : List Expr) (Fs : List EF) (F : EF), compL (compE n cc) es = some Fs → orL Fs = some F → PE X (.BoolOp .Or es pos) (tE X W (F C)) ∧ ∀ m, es.all (testable m) = true → PW X (.BoolOp .Or es pos) (tB X W (F C))
  | [], _, _, h, q => by cases h; cases q
  | [e], _, _, h, q => by
    obtain ⟨a, h1, h⟩ := bind_some h
    cases h
    cases q
    obtain ⟨p1, p2⟩ := ih cc e _ h1 X W C S
    exact ⟨r_one p1, fun m t => t_or1 (p2 m (by simpa using t))⟩
  | e :: e2 :: es, _, _, h, q => by
    obtain ⟨a, h1, h⟩ := bind_some h
    obtain ⟨as, h2, h⟩ := bind_some h
    cases h
    obtain ⟨b, h3, h4⟩ := bind_some h2
    obtain ⟨bs, h5, h6⟩ := bind_some h4
    cases h6
    obtain ⟨G, q1, rfl⟩ := map_some q
    obtain ⟨p1, p2⟩ := ih cc e a h1 X W C S
    obtain ⟨r1, r2⟩ := orL_ok ih S (e2 :: es) _ G h2 q1
    exact ⟨r_or C p1 r1, fun m t => by
      rw [List.all_cons] at t
      obtain ⟨t1, t2⟩ := and2 t
      exact t_or C (p2 m t1) (r2 m t2)⟩
theorem compOpt_ok {n : Nat} (ih : SE n) (S : Sd X W C cc) (e : Option Expr) (F : Option EF) (h : compOpt (compE n cc) e = some F) : PO X e (tO X W (optF F C)) := by
  cases e with
  | none => cases h; exact o_none C
  | some e =>
    obtain ⟨a, h1, rfl⟩ := map_some h
    exact o_some C (ih cc e a h1 X W C S).1
theorem compI_ok {n : Nat} (ih : SE n) (S : Sd X W C cc) {tg iter : Expr} {F : IF} (h : compI (compE n cc) cc tg iter = some F) : PI X tg iter (tI X W (F C)) ∧ ∀ x, foldedSetIterable iter X.env x = pure x := by
  have dflt : (compE n cc iter).map itE = some F → PI X tg iter (tI X W (F C)) ∧ ∀ x, foldedSetIterable iter X.env x = pure x := fun h => by
    obtain ⟨a, h1, rfl⟩ := map_some h
    exact ⟨i_e C (ih cc iter a h1 X W C S).1, (notSet h1).2 X.env⟩
  unfold compI at h
  split at h
  · rename_i x p a pos
    split at h
    · rename_i q
      obtain ⟨q, rfl⟩ := q
      obtain ⟨b1, b2, _⟩ := blt_ok S q
      obtain ⟨fa, h1, rfl⟩ := map_some h
      exact ⟨i_r1 C b1 b2 (ih cc a fa h1 X W C S).1 (noStar h1 _ _), fun _ => rfl⟩
    · split at h
      · rename_i q
        obtain ⟨q, rfl, q2⟩ := q
        obtain ⟨b1, b2, _⟩ := blt_ok S q
        obtain ⟨fa, h1, rfl⟩ := map_some h
        cases tg <;> first | exact ⟨i_enum C b1 b2 (ih cc a fa h1 X W C S).1 (noStar h1 _ _), fun _ => rfl⟩ | cases q2
      · exact dflt h
  · rename_i x p a b pos
    split at h
    · rename_i q
      obtain ⟨q, rfl⟩ := q
      obtain ⟨b1, b2, _⟩ := blt_ok S q
      obtain ⟨fa, h1, h⟩ := bind_some h
      obtain ⟨fb, h2, rfl⟩ := map_some h
      exact ⟨i_r2 C b1 b2 (ih cc a fa h1 X W C S).1 (ih cc b fb h2 X W C S).1 (noStar h1 _ _) (noStar h2 _ _), fun _ => rfl⟩
    · split at h
      · rename_i q
        obtain ⟨q, rfl, q2⟩ := q
        obtain ⟨b1, b2, _⟩ := blt_ok S q
        obtain ⟨fa, h1, h⟩ := bind_some h
        obtain ⟨fb, h2, rfl⟩ := map_some h
        cases tg <;> first | exact ⟨i_zip C b1 b2 (ih cc a fa h1 X W C S).1 (ih cc b fb h2 X W C S).1 (noStar h1 _ _) (noStar h2 _ _), fun _ => rfl⟩ | cases q2
      · exact dflt h
  · rename_i x p a b c pos
    split at h
    · rename_i q
      obtain ⟨q, rfl, q2⟩ := q
      obtain ⟨b1, b2, _⟩ := blt_ok S q
      obtain ⟨fa, h1, h⟩ := bind_some h
      obtain ⟨fb, h2, h⟩ := bind_some h
      obtain ⟨fc, h3, rfl⟩ := map_some h
      cases tg <;> first | exact ⟨i_zip3 C b1 b2 (ih cc a fa h1 X W C S).1 (ih cc b fb h2 X W C S).1 (ih cc c fc h3 X W C S).1 (noStar h1 _ _) (noStar h2 _ _) (noStar h3 _ _), fun _ => rfl⟩ | cases q2
    · exact dflt h
  · exact dflt h
/-- a lambda's body -/
theorem Sd.lam (S : Sd X W C cc) {kk : Nat} (k2 : 2 ≤ kk) (fa : ∀ x g, cc.gl x = some g → CallAt X C kk x g) (scope : Scope) (A : Around) (outer : List PySem.Env) (s : Shared) (H : Hp) (E : XK) (f c' : Addr) (hr : Room kk (A.deeper (LamX.lamEnv X scope s.heap.objs.size f c'))) :
    Sd (LamX.lamCx X A outer s H E scope f c') (fun c d _ H => E c d H) C { cc with sc := scope, fn := fun _ => false, calm := true, lam := false } where
  N := S.N
  nd := S.nd
  sc := rfl
  fn := rfl
  calm := fun _ => rfl
  tk := takes_of rfl rfl rfl rfl
  un := by have := hr.un; show (A.deeper _).units + 70 < cLine; omega
  gl := fun x g e => by
    have z := S.gl x g e
    cases g with
    | con d => exact z
    | fn np =>
      obtain ⟨k, f, fd, ps, le, e1, F1, e2, e3, e4, e5⟩ := fa x _ e
      exact ⟨k, f, fd, ps, e1, F1, e2, fun _ => hr.mono le, e3, e4, e5⟩
    | cls np =>
      obtain ⟨k, f, fd, ps, le, r⟩ := fa x _ e
      exact ⟨k, f, fd, ps, fun _ => hr.mono le, r⟩
    | mth c m np =>
      obtain ⟨k, f, fd, ps, le, r⟩ := fa x _ e
      exact ⟨k, f, fd, ps, fun _ => hr.mono le, r⟩
    | fld f => exact z
    | dct kvs => exact z
    | fnT np =>
      obtain ⟨k, f, fd, ps, le, r⟩ := fa x _ e
      exact ⟨k, f, fd, ps, fun _ => hr.mono le, r⟩
    | fvs l => exact z
    | xcs l => exact z
    | blt => exact z
    | hof nl B => trivial
    | exc b =>
      obtain ⟨Ca, z1, z2⟩ := z
      refine ⟨Ca, z1, ?_⟩
      cases b with
      | true =>
        obtain ⟨⟨fI, fd, i1, i2, i3, i4, i5⟩, z3⟩ := z2
        exact ⟨⟨fI, fd, i1, i2, i3, fun _ => hr.mono k2, i5⟩, z3⟩
      | false => exact z2
  ex := S.ex
  lm := fun z => absurd z Bool.false_ne_true
/-- a comprehension's block -/
theorem Sd.blk (S : Sd X W C cc) (s : Shared) (H : Hp) (scope : Scope) (C' : Addr) (cl : List (Str × Addr)) (fq : List Addr) : Sd (X.blk s H scope (compEnvC scope cl C' X.env) fq) W0 C (blkCC cc scope) where
  N := S.N
  nd := S.nd
  sc := by
    show relS scope X.env.scope = relS scope cc.sc
    rw [S.sc]
  fn := rfl
  calm := S.calm
  tk := takes0
  un := S.un
  gl := fun x g e => by
    have z := S.gl x g e
    cases g with
    | con d => exact z
    | fn np => exact z
    | blt => exact z
    | hof nl B => trivial
    | cls np => exact z
    | mth c m np => exact z
    | fld f => exact z
    | dct kvs => exact z
    | fnT np => exact z
    | fvs l => exact z
    | xcs l => exact z
    | exc b =>
      obtain ⟨Ca, z1, z2⟩ := z
      refine ⟨Ca, z1, ?_⟩
      cases b with
      | true => exact z2
      | false => exact z2
  ex := S.ex
  lm := fun z => absurd z Bool.false_ne_true
theorem compLcB_ok {n : Nat} (ih : SE n) (S : Sd X W C cc) {elt tg : Expr} {ifs : List Expr} {scope : Scope} {mk : TF → List Nat → EF → EF → EF} {F : EF} (h0 : blkC cc.N cc.sc scope (ownOf cc scope) = true) (h : compLcB (compE n) (testable n) n cc elt tg ifs scope mk = some F) :
    ∃ (t : TF × List Nat) (ft fe : EF), F = mk t.1 ((ownOf cc scope).map fun (q : Str × Nat) => q.2) ft fe ∧ BlkOk X.N X.env.scope scope (ownOf cc scope) ∧
      (∀ j ∈ t.2, j ∈ (ownOf cc scope).map fun (q : Str × Nat) => q.2) ∧
      (∀ (s : Shared) (H : Hp) (C' : Addr) (cl : List (Str × Addr)) (fq : List Addr), PG (X.blk s H scope (compEnvC scope cl C' X.env) fq) tg (tG X.K t.2 t.1)) ∧
      (∀ (s : Shared) (H : Hp) (C' : Addr) (cl : List (Str × Addr)) (fq : List Addr), PTs (X.blk s H scope (compEnvC scope cl C' X.env) fq) ifs (tB X W0 (ft C))) ∧
      (∀ (s : Shared) (H : Hp) (C' : Addr) (cl : List (Str × Addr)) (fq : List Addr), PE (X.blk s H scope (compEnvC scope cl C' X.env) fq) elt (tE X W0 (fe C))) := by
  unfold compLcB at h
  obtain ⟨t, h2, h⟩ := bind_some h
  obtain ⟨h3, h⟩ := guardO_some h
  obtain ⟨ft, h4, h⟩ := bind_some h
  obtain ⟨fe, h5, rfl⟩ := map_some h
  refine ⟨t, ft, fe, rfl, by rw [S.N, S.sc]; exact blkOk_by h0, fun j hj => ?_, fun s H C' cl fq => ?_, fun s H C' cl fq => ?_, fun s H C' cl fq => ?_⟩
  · have z := List.all_eq_true.mp h3 j hj
    simpa using z
  · exact compT_ok (S.blk s H scope C' cl fq) n tg t h2
  · cases ifs with
    | nil =>
      cases h4
      exact ⟨fun pins s' σ H' Q I q => pts_nil.run pins s' σ H' Q I (by
        obtain ⟨L, h, env, hr, sr, hp⟩ := q
        exact hp L H' (LE.refl _) (Keep.refl _) hr)⟩
    | cons c r =>
      cases r with
      | nil =>
        obtain ⟨h6, h7⟩ := guardO_some h4
        exact pts_one ((ih (blkCC cc scope) c ft h7 _ W0 C (S.blk s H scope C' cl fq)).2 n h6)
      | cons _ _ => cases h4
  · exact (ih (blkCC cc scope) elt fe h5 _ W0 C (S.blk s H scope C' cl fq)).1
theorem compLc_ok {n : Nat} (ih : SE n) (S : Sd X W C cc) {elt tg iter : Expr} {ifs : List Expr} {scope : Scope} {F : EF} (h : compLc (compE n) (testable n) n cc elt tg iter ifs scope = some F) :
    cc.calm = true ∧ ∃ (fi : IF) (t : TF × List Nat) (ft fe : EF), F = lcF fi t.1 ((ownOf cc scope).map fun (q : Str × Nat) => q.2) ft fe ∧ PI X tg iter (tI X W (fi C)) ∧ (∀ x, foldedSetIterable iter X.env x = pure x) ∧ BlkOk X.N X.env.scope scope (ownOf cc scope) ∧
      (∀ j ∈ t.2, j ∈ (ownOf cc scope).map fun (q : Str × Nat) => q.2) ∧
      (∀ (s : Shared) (H : Hp) (C' : Addr) (cl : List (Str × Addr)) (fq : List Addr), PG (X.blk s H scope (compEnvC scope cl C' X.env) fq) tg (tG X.K t.2 t.1)) ∧
      (∀ (s : Shared) (H : Hp) (C' : Addr) (cl : List (Str × Addr)) (fq : List Addr), PTs (X.blk s H scope (compEnvC scope cl C' X.env) fq) ifs (tB X W0 (ft C))) ∧
      (∀ (s : Shared) (H : Hp) (C' : Addr) (cl : List (Str × Addr)) (fq : List Addr), PE (X.blk s H scope (compEnvC scope cl C' X.env) fq) elt (tE X W0 (fe C))) := by
  unfold compLc at h
  obtain ⟨hc0, h⟩ := guardO_some h
  obtain ⟨hc, h0⟩ := and2 hc0
  obtain ⟨fi, h1, h⟩ := bind_some h
  obtain ⟨pi, fs⟩ := compI_ok ih S h1
  obtain ⟨t, ft, fe, e, q⟩ := compLcB_ok ih S h0 h
  exact ⟨hc, fi, t, ft, fe, e, pi, fs, q⟩
theorem itm_ok {tg iter : Expr} {i : Nat} (S : Sd X W C cc) (h : itmO cc tg iter = some i) : PI X tg iter (tI X W (itRodF i C)) ∧ ∀ x, foldedSetIterable iter X.env x = pure x := by
  unfold itmO at h
  split at h
  · rename_i x xpos m apos cpos
    split at h
    · rename_i q
      obtain ⟨⟨rfl, q2⟩, q3⟩ := q
      obtain ⟨c1, q3⟩ := and2 q3
      obtain ⟨c2, c3⟩ := and2 q3
      obtain ⟨d1, d2, d3⟩ := okNm_ok c1
      cases tg <;> first | exact ⟨i_items C (by rw [S.N]; exact slot_ok h) (by rw [S.sc]; exact vis_ok c2) d1 d2 c3, fun _ => rfl⟩ | cases q2
    · cases h
  · cases h
theorem compLcD_ok {n : Nat} (ih : SE n) (S : Sd X W C cc) {elt tg iter : Expr} {ifs : List Expr} {scope : Scope} {pos : Pos} {F : EF} (h : compLcD (compE n) (testable n) n cc elt tg iter ifs scope = some F) : PE X (.ListComp elt [⟨tg, iter, ifs, 0⟩] scope pos) (tE X W (F C)) := by
  unfold compLcD at h
  obtain ⟨hc0, h⟩ := guardO_some h
  obtain ⟨hc, h0⟩ := and2 hc0
  obtain ⟨i, h1, h⟩ := bind_some h
  obtain ⟨p1, p2⟩ := itm_ok S h1
  obtain ⟨t, ft, fe, rfl, p3, p4, p5, p6, p7⟩ := compLcB_ok ih S h0 h
  exact r_lcD C (PE.weak (pe_lc (S.calm hc) S.nd p1 p3 p5 p6 p7 p2) (lc_read C p4))
end
end VM

set_option maxRecDepth 100000
set_option maxHeartbeats 4000000
namespace VM
open PySem PySem.Spec PyProof.Rows L2
variable [HasT]
theorem plainIx_of {b : Expr} (h : notSl b = true) : PlainIx b := fun o i => by
  cases b <;> first | rfl | cases h
theorem base_of {o : Expr} (h : notCall o = true) (name : Str) (env : PySem.Env) : attributeBase o name env (eval o env) = eval o env := by
  cases o with
  | Call f as ks p =>
    cases f with
    | Name id q =>
      cases as <;> cases ks <;> first
        | rfl
        | (have e : (id != "super") = true := h
           (simp only [attributeBase, e, Bool.true_or, if_true]) <;> first | rfl | simp)
    | _ => cases as <;> cases ks <;> rfl
  | _ => rfl
theorem few_of {pos : Pos} {as : List Expr} {env : PySem.Env} (h : (backTo pos (starEach as env)).all (fun x => !x.1) = true) (hl : as.length < 20) :
    ((backTo pos (starEach as env)).all (fun x => !x.1) && (backToKw pos (keywordEach [] env)).all (fun x => x.1.isSome) && decide (as.length + ([] : List Keyword).length + (if ([] : List Keyword).isEmpty then 0 else 1) < 30)) = true := by
  rw [h]
  have e : decide (as.length + ([] : List Keyword).length + (if ([] : List Keyword).isEmpty then 0 else 1) < 30) = true := decide_eq_true (by simp; omega)
  rw [e]
  rfl
theorem spc_ok {X : Cx} {W : WX} {C : Or} {cc : CC} (S : Sd X W C cc) (hc : cc.calm = true) {x : Str} {p pos : Pos} {a : Expr} {as : List Expr} {z : Expr × (D → Hv → R D)} {fa : EF} (gl : Gl X x) (mg : X.mg x = none) (e : spcA cc x a as = some z) (h : PE X z.1 (tE X W (fa C)))
    (ns : starEach [z.1] X.env = (false, eval z.1 X.env) :: starEach [] X.env) : PE X (.Call (.Name x p) (a :: as) [] pos) (tE X W (un1F z.2 fa C)) := by
  unfold spcA at e
  split at e
  · rename_i o m apos cpos
    split at e
    · rename_i q
      obtain ⟨rfl, rfl, q⟩ := q
      obtain ⟨q1, q2⟩ := and2 q
      cases e
      exact r_sortV C (S.calm hc) h gl mg (base_of q1 _ _) q2
    · cases e
  · rename_i y p2 e0 q
    split at e
    · rename_i q
      obtain ⟨rfl, rfl, q⟩ := q
      cases e
      obtain ⟨b1, b2, _⟩ := blt_ok S q
      exact r_lenSet C gl mg b1 b2 h (S.calm hc) ns
    · split at e
      · rename_i q
        obtain ⟨rfl, rfl, q⟩ := q
        cases e
        obtain ⟨b1, b2, _⟩ := blt_ok S q
        exact r_tupRg C (S.calm hc) gl mg b1 b2 h ns
      · cases e
  · cases e
theorem o_sortS {X : Cx} {W : WX} : OkC X W (fun ds h => match ds with
    | [x] => opSortS x h
    | _ => .stuck) (fun vs H Q => rSortedA X.K vs H Q ∨ rSortT X.K vs H Q) := by
  intro L H h σ ds vs Q hr rs hp
  match ds, rs, hp with
  | [x], rs, hp =>
    have hp' : pR X.K X.mg L H W σ Q (opSortS x h) := hp
    unfold opSortS at hp'
    split at hp'
    · rename_i es
      simp only [opSortT] at hp'
      split at hp'
      · rename_i ns en
        split at hp'
        · rename_i h64
          obtain ⟨v, rfl, r⟩ := one_of rs
          cases r with
          | @tup _ a xs ha ra =>
            have e3 := ints_of ra en
            subst e3
            have e4 := intsD_eq en
            subst e4
            exact .inr ⟨a, ns, rfl, ha, by simpa using h64, fun ns' p pm so np => allocd hr (by rw [← srt_ints pm so]; exact rels_ints ns') np hp'⟩
        · exact hp'.elim
      · exact hp'.elim
    · exact .inl (o_sorted L H h σ _ vs Q hr rs hp')
theorem cr_sortS {X : Cx} (hc : X.calm = true) : CallR X (.builtin "sorted") (fun vs H Q => rSortedA X.K vs H Q ∨ rSortT X.K vs H Q) := by
  intro pins s σ H vs us Q I r h
  rcases h with h | h
  · exact cr_sortedA hc pins s σ H vs us Q I r h
  · exact cr_sortT pins s σ H vs us Q I r h
theorem spcB_ok {X : Cx} {W : WX} {C : Or} {cc : CC} (S : Sd X W C cc) (hc : cc.calm = true) {x : Str} {p pos : Pos} {a : Expr} {as : List Expr} {z : Expr × (D → Hv → R D)} {fa : EF} (gl : Gl X x) (mg : X.mg x = none) (e : spcB cc x a as = some z) (h : PE X z.1 (tE X W (fa C)))
    (ns : starEach [z.1] X.env = (false, eval z.1 X.env) :: starEach [] X.env) : PE X (.Call (.Name x p) (a :: as) [] pos) (tE X W (un1F z.2 fa C)) := by
  unfold spcB at e
  split at e
  · rename_i o m apos cpos
    split at e
    · rename_i q
      obtain ⟨rfl, rfl, q⟩ := q
      obtain ⟨q1, q2⟩ := and2 q
      cases e
      exact r_items C (S.calm hc) h gl mg (base_of q1 _ _) q2
    · cases e
  · rename_i y p2 e0 q
    split at e
    · rename_i q
      obtain ⟨rfl, rfl, q⟩ := q
      cases e
      obtain ⟨b1, b2, _⟩ := blt_ok S q
      exact r_sortSet C (S.calm hc) gl mg b1 b2 h ns
    · cases e
  · split at e
    · rename_i q
      obtain ⟨rfl, _⟩ := q
      cases e
      exact PE.weak (pe_callB (cr_minT (S.calm hc) (by have := S.un; omega)) gl mg boot_min (pa_cons h pa_nil ns) (by decide) (by decide) ns rfl) fun σ H Q ⟨L, h, env, hr, sr, hp⟩ => ⟨L, h, env, hr, sr, pRg.then_ hp fun d h1 L1 H1 v le kp hr1 r1 hp1 => o_minT L1 H1 h1 σ d v Q hr1 r1 hp1⟩
    · cases e
  · split at e
    · rename_i ex
      subst ex
      cases e
      exact PE.weak (pe_callB (cr_sortS (S.calm hc)) gl mg boot_sorted (pa_cons h pa_nil ns) (by decide) (by decide) ns rfl) fun σ H Q ⟨L, h, env, hr, sr, hp⟩ => ⟨L, h, env, hr, sr, pRg.then_ hp fun d h1 L1 H1 v le kp hr1 r1 hp1 => o_sortS L1 H1 h1 σ [d] [v] Q hr1 (.cons r1 .nil) hp1⟩
    split at e
    · rename_i ex
      subst ex
      cases e
      exact PE.weak (pe_callB (cr_min1 (S.calm hc)) gl mg boot_min (pa_cons h pa_nil ns) (by decide) (by decide) ns rfl) fun σ H Q ⟨L, h, env, hr, sr, hp⟩ => ⟨L, h, env, hr, sr, pRg.then_ hp fun d h1 L1 H1 v le kp hr1 r1 hp1 => o_min1 L1 H1 h1 σ d v Q hr1 r1 hp1⟩
    split at e
    · rename_i ex
      subst ex
      cases e
      exact PE.weak (pe_callB (cr_max1 (S.calm hc)) gl mg boot_max (pa_cons h pa_nil ns) (by decide) (by decide) ns rfl) fun σ H Q ⟨L, h, env, hr, sr, hp⟩ => ⟨L, h, env, hr, sr, pRg.then_ hp fun d h1 L1 H1 v le kp hr1 r1 hp1 => o_max1 L1 H1 h1 σ d v Q hr1 r1 hp1⟩
    · cases e
  · cases e
theorem fv_ok {X : Cx} {W : WX} {C : Or} {cc : CC} (S : Sd X W C cc) {y : Str} (h : (fvOf cc).contains y = true) : X.mg y = some (.ref (HasT.C y)) := by
  unfold fvOf at h
  split at h
  · rename_i l e
    exact S.gl _ _ e y (List.contains_iff_mem.mp h)
  · cases h
/-- a local that holds a def, called -/
theorem r_callv {X : Cx} {W : WX} {C : Or} {cc : CC} (S : Sd X W C cc) (hc : cc.calm = true) (hf : (fvOf cc).all (isFn cc) = true) {x : Str} {p pos : Pos} {e : Expr} {es : List Expr} {i : Nat} {Fs : List EF} (hN : X.N[i]? = some x) (hv : Vis X.env.scope x) (ha : PA X (e :: es) (tA X W (listF Fs C)))
    (hd : (x == ("__debug__" : Str)) = false) (hcd : (x == ("__classdict__" : Str)) = false) (he : starEach (e :: es) X.env = (false, eval e X.env) :: starEach es X.env) (hpl : (backTo pos (starEach es X.env)).any (·.1) = false) :
    PE X (.Call (.Name x p) (e :: es) [] pos) (tE X W (callvF (fvOf cc) i Fs C)) := by
  refine ⟨fun pins s σ H Q I h => ?_⟩
  obtain ⟨L, h0, env, hr, sr, hp⟩ := h
  unfold callvF at hp
  cases q : env[i]? with
  | none => rw [q] at hp; exact hp.elim
  | some o =>
    rw [q] at hp
    cases o with
    | none => exact hp.elim
    | some d =>
      cases d with
      | fn y =>
        have hp : pR X.K X.mg L H W σ Q (if (fvOf cc).contains y = true then (listF Fs C env h0).bind fun ds h1 => C y ds h1 else .stuck) := hp
        split at hp
        · rename_i hy
          obtain ⟨v, e1, r⟩ := sr.at_ i _ q
          cases r
          have hm := fv_ok S hy
          have hg := List.all_eq_true.mp hf y (List.contains_iff_mem.mp hy)
          unfold isFn at hg
          split at hg
          · rename_i np eg
            obtain ⟨k, f, fd, ps, e0, F1, e2, rm, e3, e4, e5⟩ := S.gl y _ eg
            have ef : f = HasT.C y := by
              rw [hm] at e3
              cases e3
              rfl
            subst ef
            refine wpAny_Call_Name_kw (thn ((pe_var (pos := p) hN hv hd hcd).run pins s σ H (fun v H1 => v = .ref (HasT.C y) ∧ H1 = H) I ⟨_, e1, rfl, rfl⟩) fun u s1 ⟨v, H1, I1, r1, q1⟩ => ?_)
            obtain ⟨rfl, rfl⟩ := q1
            cases r1
            have ht : tA X W (listF Fs C) σ H1 fun vs H2 => spOf X.K X.mg ps.length (C y) vs H2 Q fun cv dx H' => W cv dx σ H' := ⟨L, h0, env, hr, sr, pRg.then_ hp fun ds h1 L1 H1 vs le kp hr1 r1 hp1 => by
              refine ⟨?_, L1, h1, ds, hr1, r1, pR.at_ hp1 fun _ _ _ w => w⟩
              by_cases q : ds.length = ps.length
              · rw [← r1.len]; exact q
              · have hp2 : pR X.K X.mg L1 H1 W σ Q (C y ds h1) := hp1
                rw [e2 ds h1 q] at hp2
                exact hp2.elim⟩
            refine PySem.W.callWith_K (h₀ := X.base) I.ok.mod.kin e4 (thn (ha.run pos pins s1 σ H1 _ I1 ht) fun us s2 ⟨vs, H2, I2, r, q⟩ => ⟨I2.kIn, ?_⟩) he hpl
            exact run_fnS (E := fun σ cv dx H' => W cv dx σ H') F1 (rm (S.calm hc)) e5 (passAt S.tk σ) I2 r q
          · cases hg
        · exact hp.elim
      | _ => exact hp.elim
theorem compE_ok : ∀ n, SE n
  | 0 => fun cc e F h => by cases h
  | n + 1 => fun cc e F h X W C S => by
    have ih := compE_ok n
    have E : ∀ {a : Expr} {fa : EF}, compE n cc a = some fa → PE X a (tE X W (fa C)) := fun {a fa} h => (ih cc a fa h X W C S).1
    have T : ∀ {a : Expr} {fa : EF} {m}, compE n cc a = some fa → testable m a = true → PT X a (tB X W (fa C)) := fun {a fa m} h t => (ih cc a fa h X W C S).2 m t
    have val : ∀ {f : Fe}, PE X e (tE X W f) → (∀ whole, isTrue e X.env whole = (do let v ← whole; standAt e.pos; holding [v] (truthy v))) → PE X e (tE X W f) ∧ ∀ m, testable m e = true → PT X e (tB X W f) := fun {f} p t => ⟨p, fun _ _ => t_val p t⟩
    unfold compE at h
    split at h
    · -- a name
      rename_i x pos
      obtain ⟨h0, h⟩ := guardO_some h
      obtain ⟨d1, d2, d3⟩ := okNm_ok h0
      split at h
      · rename_i v
        obtain ⟨i, h1, rfl⟩ := map_some h
        exact val (r_var C (by rw [S.N]; exact slot_ok h1) (by rw [S.sc]; exact vis_ok v) d1 d2) fun _ => rfl
      · obtain ⟨h1, h⟩ := guardO_some h
        split at h
        · rename_i d eg
          cases h
          obtain ⟨u, v, e1, e2, e3⟩ := S.gl x _ eg
          exact val (r_glob C (glo_ok S.sc h1) e1 e2 e3 d1) fun _ => rfl
        · rename_i np eg
          obtain ⟨h2, h⟩ := guardO_some h
          cases h
          have hm := fv_ok S h2
          exact val (r_glob C (d := .fn x) (v := .ref (HasT.C x)) (glo_ok S.sc h1) hm rfl (fun L H => .fn x) d1) fun _ => rfl
        · cases h
    · cases h; exact val (r_int C) fun _ => rfl
    · cases h; exact val (r_str C) fun _ => rfl
    · cases h; exact val (r_bl C) fun _ => rfl
    · cases h; exact val (r_non C) fun _ => rfl
    · -- a op b
      obtain ⟨fa, h1, h⟩ := bind_some h
      obtain ⟨fb, h2, h⟩ := bind_some h
      obtain ⟨g, h3, rfl⟩ := map_some h
      obtain ⟨r, o1, o2⟩ := optab_ok (X := X) (W := W) h3
      exact val (r_op C o1 o2 (E h1) (E h2)) fun _ => rfl
    · -- not
      obtain ⟨fa, h1, rfl⟩ := map_some h
      refine ⟨r_not C (E h1), fun m t => ?_⟩
      cases m with
      | zero => cases t
      | succ m => exact t_not C (T h1 (show testable m _ = true from t))
    · obtain ⟨fa, h1, rfl⟩ := map_some h
      exact val (r_un C o_neg un_neg (E h1)) fun _ => rfl
    · -- one comparison
      obtain ⟨fa, h1, h⟩ := bind_some h
      split at h
      · rename_i kvs ek
        obtain ⟨g, h3, rfl⟩ := map_some h
        obtain ⟨p1, p2⟩ := cmpK_ok S ek h3 (E h1)
        exact ⟨p1, fun _ _ => p2⟩
      obtain ⟨fb, h2, h⟩ := bind_some h
      obtain ⟨g, h3, rfl⟩ := map_some h
      obtain ⟨r, o1, o2⟩ := cmptab_ok S h3
      exact ⟨r_cmp C o1 o2 ((notSet h2).1 _) (E h1) (E h2), fun _ _ => t_cmp C o1 o2 ((notSet h2).1 _) (E h1) (E h2)⟩
    · -- two
      obtain ⟨fa, h1, h⟩ := bind_some h
      obtain ⟨fb, h2, h⟩ := bind_some h
      obtain ⟨fc, h3, h⟩ := bind_some h
      obtain ⟨g, h4, h⟩ := bind_some h
      obtain ⟨g', h5, rfl⟩ := map_some h
      obtain ⟨r, o1, o2⟩ := cmptab_ok S h4
      obtain ⟨r', o1', o2'⟩ := cmptab_ok S h5
      exact ⟨r_chain C o1 o1' o2 o2' ((notSet h3).1 _) (E h1) (E h2) (E h3), fun _ _ => t_chain C o1 o1' o2 o2' ((notSet h3).1 _) (E h1) (E h2) (E h3)⟩
    · obtain ⟨fs, h1, h⟩ := bind_some h
      obtain ⟨p1, p2⟩ := andL_ok ih S _ _ _ h1 h
      refine ⟨p1, fun m t => ?_⟩
      cases m with
      | zero => cases t
      | succ m => exact (p2 m t).pt
    · obtain ⟨fs, h1, h⟩ := bind_some h
      obtain ⟨p1, p2⟩ := orL_ok ih S _ _ _ h1 h
      refine ⟨p1, fun m t => ?_⟩
      cases m with
      | zero => cases t
      | succ m => exact (p2 m t).pt
    · obtain ⟨h0, h⟩ := guardO_some h
      obtain ⟨fc, h1, h⟩ := bind_some h
      obtain ⟨fa, h2, h⟩ := bind_some h
      obtain ⟨fb, h3, rfl⟩ := map_some h
      refine ⟨r_ite C (T h1 h0) (E h2) (E h3), fun m t => ?_⟩
      cases m with
      | zero => cases t
      | succ m => cases t
    · obtain ⟨fs, h1, rfl⟩ := map_some h
      exact val (r_tup C (compL_ok ih S _ _ h1)) fun _ => rfl
    · obtain ⟨fs, h1, rfl⟩ := map_some h
      exact val (r_lst C (compL_ok ih S _ _ h1)) fun _ => rfl
    · obtain ⟨fa, h1, h⟩ := bind_some h
      obtain ⟨fb, h0, h⟩ := bind_some h
      obtain ⟨fl, h2, h⟩ := bind_some h
      obtain ⟨fh, h3, rfl⟩ := map_some h
      exact val (r_slc C o_sl sl_B (r_orT C (E h1) (r_one (E h0))) (compOpt_ok ih S _ _ h2) (compOpt_ok ih S _ _ h3)) fun _ => rfl
    · obtain ⟨fa, h1, rfl⟩ := map_some h
      exact val (r_rev C (E h1)) fun _ => rfl
    · obtain ⟨fa, h1, h⟩ := bind_some h
      obtain ⟨fl, h2, h⟩ := bind_some h
      obtain ⟨fh, h3, rfl⟩ := map_some h
      exact val (r_slc C o_sl sl_B (E h1) (compOpt_ok ih S _ _ h2) (compOpt_ok ih S _ _ h3)) fun _ => rfl
    · obtain ⟨h0, h⟩ := guardO_some h
      split at h
      · rename_i kvs ek
        obtain ⟨fb, h2, rfl⟩ := map_some h
        obtain ⟨x, p, rfl, hg, D, hd⟩ := dct_ok S ek
        exact val (r_ixK C hg D hd (E h2) (plainIx_of h0)) fun _ => rfl
      obtain ⟨fa, h1, h⟩ := bind_some h
      obtain ⟨fb, h2, rfl⟩ := map_some h
      exact val (r_ix C o_ix (ix_seq.or ix_dct) (E h1) (E h2) (plainIx_of h0)) fun _ => rfl
    · -- an f-string
      obtain ⟨fs, h1, rfl⟩ := map_some h
      exact val (r_joined C (compFs_ok (fun e F h => (ih cc e F h X W C S).1) _ fs h1)) fun _ => rfl
    · obtain ⟨hc, fi, t, ft, fe, rfl, p1, p2, p3, p4, p5, p6, p7⟩ := compLc_ok ih S h
      exact val (PE.weak (pe_lc (S.calm hc) S.nd p1 p3 p5 p6 p7 p2) (lc_read C p4)) fun _ => rfl
    · -- a call by name
      rename_i x p a as pos
      split at h
      · rename_i v
        obtain ⟨h0, hA⟩ := guardO_some h
        obtain ⟨h1, h0⟩ := and2 h0
        obtain ⟨hc, hf⟩ := and2 h0
        obtain ⟨d1, d2, d3⟩ := okNm_ok h1
        obtain ⟨i, hi, hA⟩ := bind_some hA
        obtain ⟨fs, h2, rfl⟩ := map_some hA
        obtain ⟨b, h3, h4⟩ := bind_some h2
        obtain ⟨bs, h5, h6⟩ := bind_some h4
        exact val (r_callv S hc hf (by rw [S.N]; exact slot_ok hi) (by rw [S.sc]; exact vis_ok v) (compL_ok ih S _ _ h2) d1 d2 (noStar h3 _ _) (noStars h5 _ _).1) fun _ => rfl
      obtain ⟨h0, hA⟩ := guardO_some h
      obtain ⟨g1, h0⟩ := and2 h0
      obtain ⟨d1, d2, d3⟩ := okNm_ok h0
      have gl := glo_ok S.sc g1
      clear h
      split at hA
      · rename_i np eg
        obtain ⟨hc, hA⟩ := guardO_some hA
        obtain ⟨fs, h1, rfl⟩ := map_some hA
        obtain ⟨k, f, fd, ps, e1, F1, e2, rm, e3, e4, e5⟩ := S.gl x _ eg
        obtain ⟨b, h2, h3⟩ := bind_some h1
        obtain ⟨bs, h4, h5⟩ := bind_some h3
        exact val (r_call C S.tk F1 e2 (rm (S.calm hc)) gl e3 e4 e5 (compL_ok ih S _ _ h1) d1 (noStar h2 _ _) (noStars h4 _ _).1) fun _ => rfl
      · rename_i eg
        have mg := S.gl x _ eg
        have hB := guardO_some hA
        clear hA
        obtain ⟨hc, hA⟩ := hB
        split at hA
        · rename_i ex
          subst ex
          split at hA
          · rename_i T p2
            split at hA
            · rename_i g eq
              obtain ⟨fa, h3, rfl⟩ := map_some hA
              unfold xisO at eq
              split at eq
              · rename_i l el
                obtain ⟨c0, eq2⟩ := guardO_some eq
                obtain ⟨c1, c2⟩ := and2 c0
                obtain ⟨e1, e2, e3⟩ := okNm_ok c2
                split at eq2
                · rename_i hT
                  cases eq2
                  exact val (r_xis C (S.gl _ _ el) gl mg (glo_ok S.sc c1) e1 (E h3) (noStar h3 _ _) (List.contains_iff_mem.mp hT)) fun _ => rfl
                · split at eq2
                  · rename_i eT
                    subst eT
                    have eg := Option.some.inj eq2
                    rw [← eg]
                    exact val (r_xte C (S.gl _ _ el) gl mg (glo_ok S.sc c1) (E h3) (noStar h3 _ _)) fun _ => rfl
                  · split at eq2
                    · rename_i eT
                      subst eT
                      have eg := Option.some.inj eq2
                      rw [← eg]
                      exact val (r_xve C (S.gl _ _ el) gl mg (glo_ok S.sc c1) (E h3) (noStar h3 _ _)) fun _ => rfl
                    · cases eq2
              · cases eq
            obtain ⟨h1, hA⟩ := guardO_some hA
            obtain ⟨ty, h2, hA⟩ := bind_some hA
            obtain ⟨fa, h3, rfl⟩ := map_some hA
            obtain ⟨b1, b2, b3, b4⟩ := blt_ok S h1
            obtain ⟨t1, t2⟩ := tyTab_ok h2
            exact val (r_isi C gl mg b1 b2 t1 t2 b4 b3 (E h3) (noStar h3 _ _)) fun _ => rfl
          · rename_i T p2 U p3 kk p4
            obtain ⟨h1, hA⟩ := guardO_some hA
            obtain ⟨h1, h1'⟩ := and2 h1
            obtain ⟨ty, h2, hA⟩ := bind_some hA
            obtain ⟨uy, h2', hA⟩ := bind_some hA
            obtain ⟨fa, h3, rfl⟩ := map_some hA
            obtain ⟨b1, b2, b3, b4⟩ := blt_ok S h1
            obtain ⟨u1, u2, u3, u4⟩ := blt_ok S h1'
            obtain ⟨t1, t2⟩ := tyTab_ok h2
            obtain ⟨v1, v2⟩ := tyTab_ok h2'
            exact val (r_isi2 C gl mg b1 b2 t1 t2 b4 b3 u1 u2 v1 v2 u4 u3 (E h3) (fun es => noStar h3 _ _)) fun _ => rfl
          · cases hA
        · split at hA
          · rename_i z ec
            obtain ⟨fa, h1, rfl⟩ := map_some hA
            exact val (spc_ok S hc gl mg ec (E h1) (noStar h1 _ _)) fun _ => rfl
          split at hA
          · rename_i z ec
            obtain ⟨fa, h1, rfl⟩ := map_some hA
            exact val (spcB_ok S hc gl mg ec (E h1) (noStar h1 _ _)) fun _ => rfl
          split at hA
          · rename_i F ec
            cases hA
            unfold dlcA at ec
            split at ec
            · rename_i ex
              subst ex
              split at ec
              · exact val (r_ct C o_dict (cr_dictA (S.calm hc)) gl mg boot_dict (a_cons C (compLcD_ok ih S ec) (a_nil C) rfl) d3 d1 rfl rfl) fun _ => rfl
              · cases ec
            · cases ec
          split at hA
          · rename_i c ec
            unfold lrgA at ec
            split at ec
            · rename_i ex
              subst ex
              split at ec
              · split at ec
                · rename_i q
                  obtain ⟨q, rfl⟩ := q
                  cases ec
                  obtain ⟨b1, b2, _⟩ := blt_ok S q
                  obtain ⟨fa, h1, rfl⟩ := map_some hA
                  exact val (r_lrg C (S.calm hc) gl mg b1 b2 (E h1) (noStar h1 _ _)) fun _ => rfl
                · cases ec
              · cases ec
            · cases ec
          obtain ⟨g, h1, hA⟩ := bind_some hA
          obtain ⟨fs, h2, rfl⟩ := map_some hA
          obtain ⟨b, h3, h4⟩ := bind_some h2
          obtain ⟨bs, h5, h6⟩ := bind_some h4
          obtain ⟨r, o1, o2⟩ := bltTab_ok S hc h1
          rcases o2 with ⟨id, o2, o3⟩ | ⟨id, o2, o3⟩
          · exact val (r_cb C o1 o2 gl mg o3 (compL_ok ih S _ _ h2) d3 d1 (noStar h3 _ _) (noStars h5 _ _).1) fun _ => rfl
          · exact val (r_ct C o1 o2 gl mg o3 (compL_ok ih S _ _ h2) d3 d1 (noStar h3 _ _) (noStars h5 _ _).1) fun _ => rfl
      · rename_i nl B eg
        split at hA
        · rename_i params body scope lpos
          obtain ⟨hc, hA⟩ := guardO_some hA
          obtain ⟨hc1, hc2⟩ := and2 hc
          obtain ⟨hls, hc3⟩ := and2 hc2
          obtain ⟨fb, h1, rfl⟩ := map_some hA
          obtain ⟨kk, hr, fa, k2, hh⟩ := S.lm hc1
          obtain ⟨a', g', c', P', pg, bg, sg, dV, kV, doc, pm, cdv, ct, oc, an, od, osl, Ng, rfl, q1, q2, q3, q4, q5, q6, q7, q8, q9, q10, q11, q12, q13, q14, q15⟩ := hh x nl B eg
          have hp : params = ⟨[], [], none, [], [], none, []⟩ := by
            unfold noP at hc3
            split at hc3
            · rfl
            · cases hc3
          subst hp
          have Ls : LamX.LamS X.env.scope scope := by rw [S.sc]; exact LamX.lamS_by hls
          exact val (r_hof C gl q1 q2 q3 q4 q5 q6 q7 q8 (q9 _) q10 q11 q12 q13 hr Ls rfl (fun _ _ _ _ _ => rfl) (fun A outer s H E f c' hrr => (ih _ body fb h1 _ _ C (S.lam k2 fa scope A outer s H E f c' hrr)).1) d1 q14 q15) fun _ => rfl
        · cases hA
      · rename_i np eg
        obtain ⟨hc, hA⟩ := guardO_some hA
        obtain ⟨fs, h1, rfl⟩ := map_some hA
        obtain ⟨k, f, fd, ps, rm, e1, F1, e2, e3, M, cl, na, e5⟩ := S.gl x _ eg
        obtain ⟨b, h2, h3⟩ := bind_some h1
        obtain ⟨bs, h4, h5⟩ := bind_some h3
        exact val (r_new C S.tk M cl na F1 e2 (rm (S.calm hc)) gl e3 e5 (compL_ok ih S _ _ h1) d1 (noStar h2 _ _) (noStars h4 _ _).1) fun _ => rfl
      · -- an exception made
        rename_i b eg
        obtain ⟨hc, hA⟩ := guardO_some hA
        unfold xmkO at hA
        split at hA
        · rename_i l el
          obtain ⟨c0, hA⟩ := guardO_some hA
          have xc : XcOk X.K X.mg l := S.gl _ _ el
          have ml := List.contains_iff_mem.mp c0
          obtain ⟨Ca, m1, o1⟩ := S.gl x _ eg
          have eC : Ca = HasT.C x := by
            rw [(xc.cl x ml).1] at m1
            cases m1
            rfl
          subst eC
          split at hA
          · cases hA
            exact val (r_xc0 C gl m1 o1 d1) fun _ => rfl
          · obtain ⟨fa, h1, rfl⟩ := map_some hA
            exact val (r_xc1 C (S.calm hc) S.tk gl m1 o1 d1 (E h1) (noStar h1 _ _)) fun _ => rfl
          · cases hA
        · cases hA
      · cases hA
    · -- a class without arguments
      rename_i x p pos
      obtain ⟨h0, hA⟩ := guardO_some h
      obtain ⟨g1, h0⟩ := and2 h0
      obtain ⟨d1, d2, d3⟩ := okNm_ok h0
      have gl := glo_ok S.sc g1
      split at hA
      · rename_i np eg
        obtain ⟨hc, hA⟩ := guardO_some hA
        cases hA
        obtain ⟨k, f, fd, ps, rm, e1, F1, e2, e3, M, cl, na, e5⟩ := S.gl x _ eg
        exact val (r_new0 C S.tk M cl na F1 e2 (rm (S.calm hc)) gl e3 e5 d1) fun _ => rfl
      · cases hA
    · -- a field
      obtain ⟨c1, h⟩ := guardO_some h
      obtain ⟨fo, h1, h⟩ := bind_some h
      split at h
      · rename_i f eg
        obtain ⟨c2, h⟩ := guardO_some h
        have ef := of_decide_eq_true c2
        subst ef
        cases h
        exact val (r_fld C (S.gl _ _ eg) (E h1) (base_of c1 _ _)) fun _ => rfl
      · split at h
        · rename_i l el
          obtain ⟨c2, h⟩ := guardO_some h
          have ef := of_decide_eq_true c2
          subst ef
          cases h
          exact val (r_xf C (S.gl _ _ el) (E h1) (base_of c1 _ _)) fun _ => rfl
        · cases h
    · -- min(.., default=..)
      obtain ⟨h0, h⟩ := guardO_some h
      obtain ⟨c1, h0⟩ := and2 h0
      obtain ⟨c2, c3⟩ := and2 h0
      obtain ⟨fa, h1, h⟩ := bind_some h
      obtain ⟨fd, h2, rfl⟩ := map_some h
      obtain ⟨b1, b2, _⟩ := blt_ok S c2
      obtain ⟨q1, q2⟩ := of_decide_eq_true c3
      exact val (r_minD C (S.calm c1) (by have := S.un; omega) q1 q2 b1 b2 (E h1) (E h2) (noStar h1 _ _)) fun _ => rfl
    · -- a method
      rename_i o name apos a as pos
      obtain ⟨h0, h⟩ := guardO_some h
      obtain ⟨c1, h0⟩ := and2 h0
      obtain ⟨c2, c3⟩ := and2 h0
      obtain ⟨fo, h2, h⟩ := bind_some h
      obtain ⟨fs, h3, h⟩ := bind_some h
      obtain ⟨b, h4, h5⟩ := bind_some h3
      obtain ⟨bs, h6, h7⟩ := bind_some h5
      split at h
      rotate_left
      · split at h
        · rename_i c m np eg
          obtain ⟨cq, h⟩ := guardO_some h
          obtain ⟨hc, cq⟩ := and2 cq
          have em := of_decide_eq_true cq
          subst em
          cases h
          obtain ⟨k, f, fd, ps, rm, e1, F1, e2, M, cl, e5⟩ := S.gl _ _ eg
          exact val (r_mth C S.tk cl M F1 e2 (rm (S.calm hc)) e5 (E h2) (compL_ok ih S _ _ h3) (base_of c1 _ _) (few_of (noStars h3 _ _).2 (of_decide_eq_true c2)) c3 (noStar h4 _ _) (noStars h6 _ _).1) fun _ => rfl
        split at h
        · rename_i g h1
          split at h
          · rename_i fa
            cases h
            cases h7
            cases as with
            | nil => exact val (smthTab1_ok h1 (E h2) (E h4) (noStar h4 _ _) (base_of c1 _ _) c3) fun _ => rfl
            | cons c cs =>
              obtain ⟨_, _, q⟩ := bind_some h6
              obtain ⟨_, _, q⟩ := bind_some q
              cases q
          · cases h
        obtain ⟨g, h1, rfl⟩ := map_some h
        unfold mthTabD at h1
        split at h1
        · rename_i en
          subst en
          cases h1
          exact val (r_methD C m_get PySem.F.slot_dict_get PySem.F.type_dict_get mt_get (E h2) (compL_ok ih S _ _ h3) (base_of c1 _ _) (few_of (noStars h3 _ _).2 (of_decide_eq_true c2)) c3 (noStar h4 _ _) (noStars h6 _ _).1) fun _ => rfl
        · cases h1
      rename_i g h1
      cases h
      obtain ⟨r, id, o1, o2, o3, o4⟩ := mthTab_ok (X := X) (W := W) h1
      exact val (r_meth C o1 o2 o3 o4 (E h2) (compL_ok ih S _ _ h3) (base_of c1 _ _) (few_of (noStars h3 _ _).2 (of_decide_eq_true c2)) c3 (noStar h4 _ _) (noStars h6 _ _).1) fun _ => rfl
    · -- a dict
      rename_i keys values pos
      obtain ⟨h0, h⟩ := guardO_some h
      obtain ⟨es, h1, rfl⟩ := map_some h
      obtain ⟨q1, q2, q3⟩ := compPs_ok ih S (pos := pos) _ _ _ h1
      cases keys with
      | nil =>
        cases values with
        | nil => cases h1; exact val (r_disp0 C) fun _ => rfl
        | cons _ _ => cases h1
      | cons k ks => exact val (r_disp C es q1 q2 q3 (by simp) (of_decide_eq_true h0)) fun _ => rfl
    · obtain ⟨h0, h⟩ := guardO_some h
      obtain ⟨c1, c3⟩ := and2 h0
      obtain ⟨fo, h2, h⟩ := bind_some h
      split at h
      · rename_i g h1
        cases h
        obtain ⟨r, id, o1, o2, o3, o4⟩ := mthTab0_ok (X := X) (W := W) h1
        exact val (r_meth0 C o1 o2 o3 o4 (E h2) (base_of c1 _ _) c3) fun _ => rfl
      · split at h
        · rename_i c m np eg
          obtain ⟨cq, h⟩ := guardO_some h
          obtain ⟨hc, cq⟩ := and2 cq
          have em := of_decide_eq_true cq
          subst em
          cases h
          obtain ⟨k, f, fd, ps, rm, e1, F1, e2, M, cl, e5⟩ := S.gl _ _ eg
          exact val (r_mth0 C S.tk cl M F1 e2 (rm (S.calm hc)) e5 (E h2) (base_of c1 _ _) c3) fun _ => rfl
        obtain ⟨g, h1, rfl⟩ := map_some h
        obtain ⟨id, o1, o2, o3, o4⟩ := smthTab0_ok (X := X) h1
        exact val (r_smeth0 C o1 o2 o3 o4 (E h2) (base_of c1 _ _) c3) fun _ => rfl
    · cases h
end VM

set_option maxRecDepth 100000
set_option maxHeartbeats 4000000
namespace VM
open PySem PySem.Spec PyProof.Rows L2
variable [HasT]
structure SdS (X : Cx) (W : WX) (C : Or) (cc : CC) : Prop extends Sd X W C cc where
  po : cc.calm = true → PassesOwn (model X.prog X.w) X.A X.env X.xe
  kd : X.env.scope.kind = .function
  stk : X.stack = X.env :: X.outer
  frm : X.env.frame = some X.env.locals
theorem SdS.tr {X : Cx} {W W' : WX} {C : Or} {cc : CC} (S : SdS X W C cc) {pn : List (Addr × Obj)} {xe : Value → Shared → Prop} (tk : Takes (X.tr pn xe) W') (po : PassesOwn (model X.prog X.w) X.A X.env xe) : SdS (X.tr pn xe) W' C cc :=
  ⟨S.toSd.tr tk, fun _ => po, S.kd, S.stk, S.frm⟩
theorem SdS.su {X : Cx} {W : WX} {C : Or} {cc : CC} (S : SdS X W C cc) (a : Addr) (pn : List (Addr × Obj)) : SdS (X.suite a pn) W0 C { cc with calm := false, lam := false } :=
  ⟨S.toSd.su a pn, fun z => absurd z Bool.false_ne_true, S.kd, S.stk, S.frm⟩
theorem swF {e : Expr} (h : isLc e = false) (t : Option Expr) (l : Nat) (env : PySem.Env) : swapsWith e t l env = pure false := by
  cases e <;> first | rfl | cases h
theorem lc_inv {n : Nat} {cc : CC} {elt : Expr} {gens : List Comprehension} {scope : Scope} {pos : Pos} {F : EF} (h : compE n cc (.ListComp elt gens scope pos) = some F) :
    ∃ m tg iter ifs, n = m + 1 ∧ gens = [⟨tg, iter, ifs, 0⟩] ∧ compLc (compE m) (testable m) m cc elt tg iter ifs scope = some F := by
  cases n with
  | zero => cases h
  | succ m =>
    unfold compE at h
    split at h <;> first
      | (rename_i q; cases q; exact ⟨m, _, _, _, rfl, rfl, h⟩)
      | (rename_i q _; cases q; done)
      | (rename_i q; cases q; done)
      | cases h
      | skip
    all_goals simp_all
theorem kindOf_eq {X : Cx} {cc : CC} (e : X.env.scope = cc.sc) (x : Str) : X.env.kindOf x = cc.sc.names.lookup x := by
  show X.env.scope.names.lookup x = _
  rw [e]
section
variable {X : Cx} {W : WX} {C : Or} {cc : CC}
theorem nmLoc_ok (S : Sd X W C cc) {x : Str} (h : nmLoc cc x = true) : X.env.scope.names.lookup x = some .local := by
  unfold nmLoc at h
  split at h
  · rename_i z; rw [S.sc]; exact z
  · cases h
theorem compSet_ok (S : SdS X W C cc) {n : Nat} {x : Str} {px pos : Pos} {e : Expr} {F : SF} (h : compSet n cc x px e pos = some F) : PS X (.Assign [.Name x px] e pos) (tS X W (F C)) := by
  unfold compSet at h
  obtain ⟨i, h1, h⟩ := bind_some h
  obtain ⟨h2, h⟩ := guardO_some h
  obtain ⟨f, h3, h⟩ := bind_some h
  have hi : X.N[i]? = some x := by rw [S.N]; exact slot_ok h1
  have loc : Loc X.env.scope x ∧ (X.fn x = true ∨ X.env.scope.names.lookup x = some .local) := by
    rcases Bool.or_eq_true_iff.mp h2 with z | z
    · exact ⟨.inl (nmLoc_ok S.toSd z), .inr (nmLoc_ok S.toSd z)⟩
    · split at z
      · rename_i q
        exact ⟨.inr (by rw [S.sc]; exact q), .inl (by rw [S.fn]; exact z)⟩
      · cases z
  have he := (compE_ok n cc e f h3 X W C S.toSd).1
  have plain : swapsWith e (some (.Name x px)) pos.line X.env = pure false → F = asgS (nmT i) f → PS X (.Assign [.Name x px] e pos) (tS X W (F C)) := fun sw eF => by
    subst eF
    exact s_set C S.nd hi loc.1 he sw loc.2
  cases q : isLc e with
  | false =>
    refine plain (swF q _ _ _) ?_
    cases e <;> first
      | (cases q; done)
      | (cases h; rfl)
  | true =>
    cases e with
    | ListComp elt gens scope lpos =>
      have h' : (if nmLoc cc x = true then guardO ((px.line == lpos.line) && !(scope.names.any fun (n, k) => n == x && (k == .local || k == .cell))) (some (asgS (nmT i) f)) else some (asgS (nmT i) f)) = some F := h
      split at h'
      · rename_i nl
        obtain ⟨h4, h5⟩ := guardO_some h'
        cases h5
        obtain ⟨h6, h7⟩ := and2 h4
        have h7' : (scope.names.any fun (n, k) => n == x && (k == .local || k == .cell)) = false := by
          cases z : (scope.names.any fun (n, k) => n == x && (k == .local || k == .cell)) with
          | false => rfl
          | true => rw [z] at h7; exact absurd h7 (by decide)
        obtain ⟨m, tg, iter, ifs, rfl, rfl, h8⟩ := lc_inv h3
        obtain ⟨hc, fi, t, ft, fe, rfl, p1, p2, p3, p4, p5, p6, p7⟩ := compLc_ok (compE_ok m) S.toSd h8
        have lx := nmLoc_ok S.toSd nl
        refine PS.weak (ps_setLc (S.calm hc) S.nd hi lx (sw_true S.kd lx h6 h7') p1 p3 p5 p6 p7 p2) fun D_ σ H ⟨L, h, env, hr, sr, hp⟩ => ?_
        have hq := lc_read (X := X) (W := W) C p4 (fi := fi) (t := t.1) (ft := ft) (fe := fe) σ H (fun v H1 => gName i v σ H1 D_.nx) ⟨L, h, env, hr, sr, pS.then_ sr hp fun d h1 L1 H1 v le kp hr1 r1 hp1 => ?_⟩
        · exact hq
        · unfold nmT at hp1
          split at hp1
          · rename_i env1 e1
            split at e1
            · cases e1
              exact hp1 L1 H1 _ (LE.refl _) (Keep.refl _) hr1 ((sr.mono le kp).set r1)
            · cases e1
          · exact hp1.elim
      · rename_i nl
        cases h'
        refine plain ?_ rfl
        have k : (X.env.kindOf x == some NameKind.local) = false := by
          rw [kindOf_eq S.sc]
          rcases Bool.or_eq_true_iff.mp h2 with z | z
          · exact absurd z nl
          · split at z
            · rename_i q; rw [q]; rfl
            · cases z
        unfold swapsWith
        simp only [k, Bool.and_false, Bool.false_and]
    | SetComp _ _ _ _ => cases n <;> cases h3
    | DictComp _ _ _ _ _ => cases n <;> cases h3
    | _ => cases q
end
omit [HasT] in
theorem notT {b : Bool} (h : (!b) = true) : b = false := by
  cases b with
  | false => rfl
  | true => cases h
def isStar : Expr → Bool
  | .Starred _ _ => true
  | _ => false
theorem par_sw {env : PySem.Env} {x y : Str} {px py pt : Pos} {kt k2 : Nat} {pt2 : Pos} {a b : Expr} (hk : env.scope.kind = .function) (hx : env.kindOf x = some .local) (hy : env.kindOf y = some .local) (hl : (px.line == py.line) = true) (hne : x ≠ y)
    (h1 : [a, b].all (foldedForSure 8) = false) (h2 : [a, b].all (constantsAlone 8) = false) (sa : isStar a = false) (sb : isStar b = false) :
    swappedStores [.Tuple [.Name x px, .Name y py] kt pt] (.Tuple [a, b] k2 pt2) env = pure (some [x, y]) := by
  have bk : env.blockKind = .function := by unfold Env.blockKind; rw [hk]; rfl
  have s : ([a, b].any fun | .Starred .. => true | _ => false) = false := by
    cases a <;> first | (cases b <;> first | rfl | (cases sb; done)) | (cases sa; done)
  have e1 : py.line = px.line := (beq_iff_eq.mp hl).symm
  have e3 : ([x, y] : List Str).eraseDups = [x, y] := by
    simp [List.eraseDups_cons, hne.symm]
  unfold swappedStores
  simp only [s, h1, h2]
  simp [bk, hx, hy, e1, e3, Expr.pos]
  rintro (z | z)
  · cases a <;> first | (cases z; done) | (cases sa; done)
  · cases b <;> first | (cases z; done) | (cases sb; done)
theorem par_no {env : PySem.Env} {x y : Str} {px py pt : Pos} {kt k2 : Nat} {pt2 : Pos} {a b : Expr} (hk : env.scope.kind = .function) (hx : ¬ (env.kindOf x = some .local ∧ env.kindOf y = some .local)) (sa : isStar a = false) (sb : isStar b = false) :
    swappedStores [.Tuple [.Name x px, .Name y py] kt pt] (.Tuple [a, b] k2 pt2) env = pure none := by
  have bk : env.blockKind = .function := by unfold Env.blockKind; rw [hk]; rfl
  have s : ([a, b].any fun | .Starred .. => true | _ => false) = false := by
    cases a <;> first | (cases b <;> first | rfl | (cases sb; done)) | (cases sa; done)
  unfold swappedStores
  simp only [s]
  by_cases h : env.kindOf x = some .local
  · have h' : env.kindOf y ≠ some .local := fun z => hx ⟨h, z⟩
    simp [bk, h, h', Expr.pos]
  · by_cases h2 : env.kindOf y = some .local
    · by_cases h3 : py.line = px.line
      · simp [bk, h, h2, h3, Expr.pos]
      · simp [bk, h, h2, h3, Expr.pos]
    · simp [bk, h, h2, Expr.pos]
theorem par_fold {env : PySem.Env} {x y : Str} {px py pt : Pos} {kt k2 : Nat} {pt2 : Pos} {a b : Expr} (h : [a, b].all (foldedForSure 8) = true) :
    swappedStores [.Tuple [.Name x px, .Name y py] kt pt] (.Tuple [a, b] k2 pt2) env = pure none := by
  unfold swappedStores
  simp only [h, if_true]
  repeat' (first | rfl | split)
theorem star_of {n : Nat} {cc : CC} {e : Expr} {F : EF} (h : compE n cc e = some F) : isStar e = false := by
  cases n with
  | zero => cases h
  | succ n => cases e <;> first | rfl | cases h
theorem tupE_of {n : Nat} {cc : CC} {es : List Expr} {k k' : Nat} {p p' : Pos} {F : EF} (h : compE n cc (.Tuple es k p) = some F) : compE n cc (.Tuple es k' p') = some F ∧ isLc (.Tuple es k' p') = false := by
  cases n with
  | zero => cases h
  | succ n => exact ⟨h, rfl⟩
theorem tupT_of {n : Nat} {cc : CC} {es : List Expr} {k k' : Nat} {p p' : Pos} {F : TF × List Nat} (h : compT n cc (.Tuple es k p) = some F) : compT n cc (.Tuple es k' p') = some F := by
  cases n with
  | zero => cases h
  | succ n => exact h
section
variable {X : Cx} {W : WX} {C : Or} {cc : CC}
abbrev SS (n : Nat) : Prop := ∀ (cc : CC) (s : Stmt) (F : SF), compS n cc s = some F → ∀ (X : Cx) (W : WX) (C : Or), SdS X W C cc → PS X s (tS X W (F C))
theorem compSs_ok {n : Nat} (ih : SS n) (S : SdS X W C cc) : ∀ (ss : List Stmt), PSs X ss (tS X W (compSs (compS n cc) ss C))
  | [] => s_nil
  | s :: ss => by
    have one : PS X s (tS X W (((compS n cc s).getD stkS) C)) := by
      cases q : compS n cc s with
      | none => exact PS.weak ps_never fun D_ σ H ⟨L, h, env, hr, sr, hp⟩ => hp.elim
      | some F => exact ih cc s F q X W C S
    exact s_cons C one (compSs_ok ih S ss)
theorem exc_ok (S : Sd X W C cc) {x : Str} (h : isExc cc x = true) : x ∈ cc.ex ∧ Gl X x ∧ (x == ("__debug__" : Str)) = false := by
  unfold isExc at h
  obtain ⟨h, h2⟩ := and2 h
  obtain ⟨h0, h1⟩ := and2 h
  exact ⟨List.contains_iff_mem.mp h0, glo_ok S.sc h1, (okNm_ok h2).1⟩
theorem names_ok (S : Sd X W C cc) {x : Str} (h : isExc cc x = true) : x ∈ cc.ex ∧ ∃ Ca, X.mg x = some (.ref Ca) ∧ Names X x (.ref Ca) := by
  obtain ⟨h1, h2, h3⟩ := exc_ok S h
  obtain ⟨Ca, _, m, _, _⟩ := S.ex x h1 x h1
  exact ⟨h1, Ca, m, h2, h3, .inl m⟩
theorem compR_ok {n : Nat} (S : SdS X W C cc) (hc : cc.calm = true) {e : Expr} {F : SF} {pos : Pos} (h : compR (compE n cc) cc e = some F) : PS X (.Raise (some e) none pos) (tS X W (F C)) := by
  unfold compR at h
  split at h
  · rename_i x p e p3
    obtain ⟨h0, h⟩ := guardO_some h
    obtain ⟨x1, x2, x3⟩ := exc_ok S.toSd h0
    split at h
    · rename_i eg
      obtain ⟨Ca, m, o⟩ := S.gl x _ eg
      split at h
      · cases h
        exact r_raise0 C (S.calm hc) S.tk x2 m o x3
      · cases h
    · rename_i eg
      obtain ⟨Ca, m, o⟩ := S.gl x _ eg
      obtain ⟨fe, h1, rfl⟩ := map_some h
      exact r_raise1 C (S.calm hc) S.tk x2 m o x3 (compE_ok n cc e fe h1 X W C S.toSd).1 (noStar h1 _ _)
    · cases h
  · cases h
theorem xf_ok (S : Sd X W C cc) {x : Str} (h : isExc1 cc x = true) {Ca : Addr} (m : X.mg x = some (.ref Ca)) : XfC X.K Ca ∧ PySem.W.findIn X.K (.ref Ca) "at" = some none := by
  unfold isExc1 at h
  split at h
  · rename_i eg
    obtain ⟨Ca', m', o⟩ := S.gl x _ eg
    rw [m] at m'
    cases m'
    obtain ⟨_, _, no, xf⟩ := o
    exact ⟨xf, no⟩
  · cases h
/-- clauses without a name -/
theorem hrel_ok {n : Nat} (ih : SS n) (S : SdS X W C cc) : ∀ (hds : List ExceptHandler) (z : List (Str × Hd)), compHd (compSs (compS n { cc with calm := false, lam := false })) cc hds = some z → ∃ l, HRelM X C cc.ex hds z l
  | [], z, h => by cases h; exact ⟨_, .nil⟩
  | hd :: hds, z, h => by
    obtain ⟨a, h1, h⟩ := bind_some h
    obtain ⟨as, h2, rfl⟩ := map_some h
    obtain ⟨l, r⟩ := hrel_ok ih S hds as h2
    unfold compHm at h1
    split at h1
    · rename_i z' e
      cases h1
      unfold compHu at e
      split at e
      · obtain ⟨h0, e⟩ := guardO_some e
        obtain ⟨k, Ca, m, nm⟩ := names_ok S.toSd h0
        cases e
        exact ⟨_, .plain k m nm (fun a oe cls d pn _ _ => compSs_ok ih (S.su a _) _) r⟩
      · cases e
    · unfold compHn at h1
      split at h1
      · obtain ⟨i, h3, h1⟩ := bind_some h1
        obtain ⟨h0, h1⟩ := guardO_some h1
        obtain ⟨q1, h0⟩ := and2 h0
        obtain ⟨q2, h0⟩ := and2 h0
        obtain ⟨q3, h0⟩ := and2 h0
        obtain ⟨q4, q5⟩ := and2 h0
        cases h1
        obtain ⟨e, ea⟩ := of_decide_eq_true q2
        subst e ea
        obtain ⟨k, Ca, m, nm⟩ := names_ok S.toSd q1
        obtain ⟨d1, d2, _⟩ := okNm_ok q5
        obtain ⟨xf, no⟩ := xf_ok S.toSd q3 m
        obtain ⟨ts, r2⟩ := HRelM.at_ (m := "") (j := 0) (kk := 0) (p4 := ⟨0, 0, 0, 0⟩) (p5 := ⟨0, 0, 0, 0⟩) (by rw [S.N]; exact slot_ok h3) (nmLoc_ok S.toSd q4) k m nm xf no d1 d2 (.inl ⟨rfl, rfl⟩) r
        exact ⟨_, r2⟩
      · obtain ⟨i, h3, h1⟩ := bind_some h1
        obtain ⟨h0, h1⟩ := guardO_some h1
        obtain ⟨q1, h0⟩ := and2 h0
        obtain ⟨q2, h0⟩ := and2 h0
        obtain ⟨q3, h0⟩ := and2 h0
        obtain ⟨q4, q5⟩ := and2 h0
        cases h1
        obtain ⟨e, ea⟩ := of_decide_eq_true q2
        subst e ea
        obtain ⟨k, Ca, m, nm⟩ := names_ok S.toSd q1
        obtain ⟨d1, d2, _⟩ := okNm_ok q5
        obtain ⟨xf, no⟩ := xf_ok S.toSd q3 m
        obtain ⟨ts, r2⟩ := HRelM.at_ (by rw [S.N]; exact slot_ok h3) (nmLoc_ok S.toSd q4) k m nm xf no d1 d2 (.inr ⟨rfl, rfl⟩) r
        exact ⟨_, r2⟩
      · cases h1
theorem compHd_ok {n : Nat} (ih : SS n) (S : SdS X W C cc) (hc : cc.calm = true) {body : List Stmt} {hd : ExceptHandler} {hds : List ExceptHandler} {z : List (Str × Hd)} {pos : Pos} (h : compHd (compSs (compS n { cc with calm := false, lam := false })) cc (hd :: hds) = some z) :
    PS X (.Try body (hd :: hds) [] [] pos) (tS X W (tryS cc.ex (compSs (compS n cc) body) z C)) := by
  obtain ⟨l, r⟩ := hrel_ok ih S _ _ h
  exact s_tryM C S.stk S.frm S.nd S.tk S.ex (fun W' pn xe tk po => compSs_ok ih (S.tr tk po) body) r
theorem compS_ok : ∀ n, SS n
  | 0 => fun cc s F h => by cases h
  | n + 1 => fun cc s F h X W C S => by
    have ih := compS_ok n
    have E : ∀ {a : Expr} {fa : EF}, compE n cc a = some fa → PE X a (tE X W (fa C)) := fun {a fa} h => (compE_ok n cc a fa h X W C S.toSd).1
    have T : ∀ {a : Expr} {fa : EF} {m}, compE n cc a = some fa → testable m a = true → PT X a (tB X W (fa C)) := fun {a fa m} h t => (compE_ok n cc a fa h X W C S.toSd).2 m t
    unfold compS at h
    split at h
    · cases h; exact s_pass C
    · cases h; exact s_break C
    · cases h; exact s_cont C
    · obtain ⟨hc, h⟩ := guardO_some h
      exact compR_ok S hc h
    · obtain ⟨hc, h⟩ := guardO_some h
      obtain ⟨z, h1, rfl⟩ := map_some h
      exact compHd_ok ih S hc h1
    · cases h; exact s_retN C
    · obtain ⟨f, h1, rfl⟩ := map_some h
      exact s_ret C (E h1)
    · obtain ⟨h0, h⟩ := guardO_some h
      obtain ⟨f, h1, rfl⟩ := map_some h
      exact s_exp C (E h1) (swF (by simpa using h0) _ _ _)
    · obtain ⟨h0, h⟩ := guardO_some h
      obtain ⟨fc, h1, rfl⟩ := map_some h
      exact s_if C (T h1 h0) (compSs_ok ih S _) (compSs_ok ih S _)
    · obtain ⟨h0, h⟩ := guardO_some h
      obtain ⟨hc, h0⟩ := and2 h0
      obtain ⟨fc, h1, rfl⟩ := map_some h
      exact s_while C (S.po hc) (T h1 h0) (compSs_ok ih S _)
    · obtain ⟨hc, h⟩ := guardO_some h
      split at h
      · rename_i i ei
        obtain ⟨t, h2, rfl⟩ := map_some h
        obtain ⟨p1, p2⟩ := itm_ok (W := W) S.toSd ei
        exact s_forD C (s_for C (S.po hc) (S.calm hc) p1 (compT_ok S.toSd n _ t h2) (compSs_ok ih S _) p2)
      obtain ⟨fi, h1, h⟩ := bind_some h
      obtain ⟨t, h2, rfl⟩ := map_some h
      obtain ⟨p1, p2⟩ := compI_ok (compE_ok n) S.toSd h1
      exact s_for C (S.po hc) (S.calm hc) p1 (compT_ok S.toSd n _ t h2) (compSs_ok ih S _) p2
    · exact compSet_ok S h
    · rename_i o name tpos e pos
      obtain ⟨fo, h1, h⟩ := bind_some h
      obtain ⟨f, h2, h⟩ := bind_some h
      split at h
      · rename_i g eg
        obtain ⟨c2, h⟩ := guardO_some h
        have ef := of_decide_eq_true c2
        subst ef
        cases h
        exact s_atS C (S.gl _ _ eg) (E h2) (E h1) (by cases e <;> rfl)
      · cases h
    · rename_i o i tpos e pos
      obtain ⟨h0, h⟩ := guardO_some h
      obtain ⟨fo, h1, h⟩ := bind_some h
      obtain ⟨fi, h2, h⟩ := bind_some h
      obtain ⟨f, h3, rfl⟩ := map_some h
      refine s_setL C (E h3) (E h1) (E h2) (fun v => ?_) ?_ ?_ rfl
      · cases i <;> first | rfl | cases h0
      · cases e <;> rfl
      · cases e <;> rfl
    · rename_i x px y py kt pt a b k2 pt2 pos
      split at h
      · rename_i nl
        obtain ⟨h0, h⟩ := guardO_some h
        obtain ⟨lc, h0⟩ := and2 h0
        obtain ⟨l1, h0⟩ := and2 h0
        obtain ⟨l2, h0⟩ := and2 h0
        obtain ⟨l3, l4⟩ := and2 h0
        obtain ⟨i, h1, h⟩ := bind_some h
        obtain ⟨j, h2, h⟩ := bind_some h
        obtain ⟨h3, h⟩ := guardO_some h
        obtain ⟨fa, h4, h⟩ := bind_some h
        obtain ⟨fb, h5, rfl⟩ := map_some h
        have lx := nmLoc_ok S.toSd nl.1.1
        have ly := nmLoc_ok S.toSd nl.1.2
        exact s_par C (S.calm lc) S.nd (by rw [S.N]; exact slot_ok h1) (by rw [S.N]; exact slot_ok h2) (of_decide_eq_true h3) lx ly (E h4) (E h5) (noStar h4 _ _) (noStar h5 _ _)
          (par_sw S.kd lx ly l1 (of_decide_eq_true l2) (notT l3) (notT l4) (star_of h4) (star_of h5)) rfl
      · rename_i nl
        obtain ⟨t, h1, h⟩ := bind_some h
        obtain ⟨f, h2, rfl⟩ := map_some h
        have h3 := (tupE_of (k' := k2) (p' := pt2) h2).1
        have st : isStar a = false ∧ isStar b = false := by
          cases n with
          | zero => cases h2
          | succ m =>
            obtain ⟨fs, q1, q2⟩ := map_some (show (compL (compE m cc) [a, b]).map tupF = some f from h2)
            obtain ⟨fa, q3, q4⟩ := bind_some q1
            obtain ⟨as, q5, q6⟩ := bind_some q4
            obtain ⟨fb, q7, q8⟩ := bind_some q5
            exact ⟨star_of q3, star_of q7⟩
        have sw : ∀ kt pt, swappedStores [.Tuple [.Name x px, .Name y py] kt pt] (.Tuple [a, b] k2 pt2) X.env = pure none := fun kt pt => by
          cases q : [a, b].all (foldedForSure 8) with
          | true => exact par_fold q
          | false =>
            refine par_no S.kd (fun z => nl ⟨?_, q⟩) st.1 st.2
            rw [kindOf_eq S.sc, kindOf_eq S.sc] at z
            unfold nmLoc
            rw [z.1, z.2]
            exact ⟨rfl, rfl⟩
        exact s_asg C (E h3) (compT_ok S.toSd n _ t (tupT_of h1)) rfl (sw _ _) rfl
    · rename_i es k p e pos nn
      obtain ⟨h0, h⟩ := guardO_some h
      obtain ⟨t, h1, h⟩ := bind_some h
      obtain ⟨f, h2, rfl⟩ := map_some h
      refine s_asg C (E h2) (compT_ok S.toSd n _ t (tupT_of h1)) ?_ ?_ rfl
      · cases e <;> rfl
      · cases e <;> first | rfl | cases h0
    · cases h
end
/-- the body of a def that tries the lambda it gets -/
theorem compHof_ok {n : Nat} {Z : Cx} {C : Or} {cc : CC} {a : Str} {body : List Stmt} {B : EF → SF} (S : SdS Z W0 C cc) (Sq : SdS Z W0 C { cc with calm := false, lam := false }) (h : compHof n cc a body = some B) {nl : Nat} (hN : Z.N.length = nl) {P : L2.St → List Addr → Hp → Hv → Prop} {th : Hv → R D} {PT_ : L2.St → Hp → Prop} {tl : XK → Hp → VK → Prop}
    (act : ∀ (W : WX) (pn : List (Addr × Obj)) (xe : Value → Shared → Prop) (E : XK) (p1 p2 : Pos), Takes (Z.tr pn xe) W → (∀ cls d σ' H', E cls d H' → W cls d σ' H') → PE (Z.tr pn xe) (.Call (.Name a p1) [] [] p2) (fun σZ HZ Q => PT_ σZ HZ ∧ tl E HZ Q))
    (hP : ∀ σ L H h, P σ L H h → σ.length = nl ∧ PT_ σ H ∧ ∀ E Q', pR Z.K Z.mg L H (fun c d _ H' => E c d H') [] Q' (th h) → tl E H Q') :
    PSs Z body (t0 Z nl W0 P (B (fun _ _ h => th h) C)) := by
  unfold compHof at h
  split at h
  · rename_i y p1 p2 p3 h0 hs p4 rest
    obtain ⟨e0, hh⟩ := guardO_some h
    have e0 : y = a := of_decide_eq_true e0
    subst e0
    obtain ⟨z, h1, rfl⟩ := map_some hh
    obtain ⟨l, r⟩ := hrel_ok (compS_ok n) S _ _ h1
    refine s_cons0 C (s_try0 C S.stk S.frm S.nd S.tk S.ex (fun W' pn xe tk po => ?_) r) (compSs_ok (compS_ok n) Sq rest)
    exact s_thunk (Z := Z.tr pn xe) C hN tk (fun W E tk hW => act W pn xe E p1 p2 tk hW) hP (swF rfl _ _ _)
  · rename_i m j q4 y p1 p2 kk q5 p3 h0 hs p4 rest
    obtain ⟨e0, hh⟩ := guardO_some h
    have e0 : y = a := of_decide_eq_true e0
    subst e0
    obtain ⟨z, h1, rfl⟩ := map_some hh
    obtain ⟨l, r⟩ := hrel_ok (compS_ok n) S _ _ h1
    refine s_cons0 C (s_try0 C S.stk S.frm S.nd S.tk S.ex (fun W' pn xe tk po => ?_) r) (compSs_ok (compS_ok n) Sq rest)
    exact s_thunkT (Z := Z.tr pn xe) C hN tk (fun W E tk hW => act W pn xe E p1 p2 tk hW) hP (fun _ => rfl)
  · rename_i y p1 p2 p3 h0 hs p4 rest
    obtain ⟨e0, hh⟩ := guardO_some h
    have e0 : y = a := of_decide_eq_true e0
    subst e0
    obtain ⟨z, h1, rfl⟩ := map_some hh
    obtain ⟨l, r⟩ := hrel_ok (compS_ok n) S _ _ h1
    refine s_cons0 C (s_try0 C S.stk S.frm S.nd S.tk S.ex (fun W' pn xe tk po => ?_) r) (compSs_ok (compS_ok n) Sq rest)
    exact s_thunkR (Z := Z.tr pn xe) C hN tk (fun W E tk hW => act W pn xe E p1 p2 tk hW) hP
  · cases h
end VM

set_option maxRecDepth 100000
set_option maxHeartbeats 4000000
namespace VM
open PySem PySem.Spec PyProof.Rows L2
section
variable [HasT]
variable {K : PySem.W.Frag} {mg : Str → Option Value} {L L' : List Addr} {H H' : Hp} {h h' : Hv}
mutual
theorem Rel.back (le : LE L L') : ∀ {d : D} {v u : V}, Rel K L' H' d v → Rel K L H d u → Rel K L H' d v
  | _, _, _, .non, _ => .non
  | _, _, _, .bl b, _ => .bl b
  | _, _, _, .int i, _ => .int i
  | _, _, _, .str s, _ => .str s
  | _, _, _, .tup h r, .tup h2 r2 => .tup h (Rels.back le r r2)
  | _, _, _, .ref h, .ref h2 => .ref (by
    have z := le _ _ h2
    rw [h] at z
    cases z
    exact h2)
  | _, _, _, .fn s, _ => .fn s
  | _, _, _, .exn e, _ => .exn e
theorem Rels.back (le : LE L L') : ∀ {ds : List D} {vs us : List V}, Rels K L' H' ds vs → Rels K L H ds us → Rels K L H' ds vs
  | _, _, _, .nil, _ => .nil
  | _, _, _, .cons r t, .cons r2 t2 => .cons (Rel.back le r r2) (Rels.back le t t2)
end
mutual
theorem Rel.ground : ∀ {d : D} {v : V}, Rel K L' H' d v → d.gr = true → Rel K L H' d v
  | _, _, .non, _ => .non
  | _, _, .bl b, _ => .bl b
  | _, _, .int i, _ => .int i
  | _, _, .str s, _ => .str s
  | _, _, .tup h r, g => .tup h (Rels.ground r (by simpa [D.gr] using g))
  | _, _, .ref h, g => by simp [D.gr] at g
  | _, _, .fn s, _ => .fn s
  | _, _, .exn e, _ => .exn e
theorem Rels.ground : ∀ {ds : List D} {vs : List V}, Rels K L' H' ds vs → D.grs ds = true → Rels K L H' ds vs
  | _, _, .nil, _ => .nil
  | _, _, .cons r t, g => by
    simp only [D.grs, Bool.and_eq_true] at g
    exact .cons (Rel.ground r g.1) (Rels.ground t g.2)
end
theorem LE.split (le : LE L L') : L'.take L.length = L := by
  apply List.ext_getElem?
  intro i
  rw [List.getElem?_take]
  split
  · rename_i hi
    have z := le i L[i] (List.getElem?_eq_getElem hi)
    rw [z, List.getElem?_eq_getElem hi]
  · rename_i hi
    rw [List.getElem?_eq_none (by omega)]
theorem HR.cut (hr : HR K L H h) (le : LE L L') (kp : Keep K H H') (hr' : HR K L' H' h') (hl : h.length ≤ h'.length) (sg : sameOrGr h h' = true) : HR K L H' (h'.take h.length) := by
  have at_ : ∀ {i : Nat} {o : Ob}, (h'.take h.length)[i]? = some o → i < h.length ∧ h'[i]? = some o := fun {i o} e => by
    rw [List.getElem?_take] at e
    split at e
    · rename_i hi; exact ⟨hi, e⟩
    · cases e
  have same : ∀ {i : Nat} {o : Ob}, i < h.length → h'[i]? = some o → h[i]? = some o ∨ o.gr = true := fun {i o} hi e => by
    have z := List.all_eq_true.mp sg i (List.mem_range.mpr hi)
    rcases Bool.or_eq_true_iff.mp z with z | z
    · left; rw [← of_decide_eq_true z]; exact e
    · right; rw [e] at z; exact z
  refine ⟨by rw [List.length_take, hr.len]; omega, fun i a ds e1 e2 => ?_, fun i a ds e1 e2 => ?_, fun i j a ds es e1 e2 e3 e4 => ?_, fun i a ds e1 e2 => ?_, fun i j a ds es e1 e2 e3 e4 => ?_, hr'.tb, (fun i a ds e1 e2 => by
    obtain ⟨hi, e1⟩ := at_ e1
    obtain ⟨od, xs, q, r⟩ := hr'.rod i a ds e1 (le _ _ e2)
    refine ⟨od, xs, q, ?_⟩
    rcases same hi e1 with z | z
    · obtain ⟨_, ys, _, r2⟩ := hr.rod i a ds z e2
      exact ⟨r.1, r.2.back le r2.2⟩
    · cases z), (fun i j a ds es e1 e2 e3 e4 => by
    obtain ⟨hi, e1⟩ := at_ e1
    obtain ⟨hj, e2⟩ := at_ e2
    exact hr'.injR i j a ds es e1 e2 (le _ _ e3) (le _ _ e4)), (fun i a c fs e1 e2 => by
    obtain ⟨hi, e1⟩ := at_ e1
    obtain ⟨⟨dx, us, q, r⟩, t⟩ := hr'.oj.obj i a c fs e1 (le _ _ e2)
    refine ⟨⟨dx, us, q, ?_⟩, t⟩
    rcases same hi e1 with z | z
    · obtain ⟨⟨_, ys, _, r2⟩, _⟩ := hr.oj.obj i a c fs z e2
      exact ⟨r.1, r.2.back le r2.2⟩
    · cases z), fun i j a c1 c2 ds es e1 e2 e3 e4 => by
    obtain ⟨hi, e1⟩ := at_ e1
    obtain ⟨hj, e2⟩ := at_ e2
    exact hr'.oj.inj i j a c1 c2 ds es e1 e2 (le _ _ e3) (le _ _ e4)⟩
  rotate_left 3
  · obtain ⟨hi, e1⟩ := at_ e1
    obtain ⟨xs, q, r⟩ := hr'.dct i a ds e1 (le _ _ e2)
    refine ⟨xs, q, ?_⟩
    rcases same hi e1 with z | z
    · obtain ⟨ys, _, r2⟩ := hr.dct i a ds z e2
      exact ⟨r.1, r.2.back le r2.2⟩
    · exact ⟨r.1, r.2.ground z⟩
  · obtain ⟨hi, e1⟩ := at_ e1
    obtain ⟨hj, e2⟩ := at_ e2
    exact hr'.injD i j a ds es e1 e2 (le _ _ e3) (le _ _ e4)
  · obtain ⟨hi, e1⟩ := at_ e1
    obtain ⟨xs, q, r⟩ := hr'.lst i a ds e1 (le _ _ e2)
    refine ⟨xs, q, ?_⟩
    rcases same hi e1 with z | z
    · obtain ⟨ys, _, r2⟩ := hr.lst i a ds z e2
      exact r.back le r2
    · exact r.ground z
  · obtain ⟨hi, e1⟩ := at_ e1
    obtain ⟨xs, q, r⟩ := hr'.ro i a ds e1 (le _ _ e2)
    refine ⟨xs, q, ?_⟩
    rcases same hi e1 with z | z
    · obtain ⟨ys, _, r2⟩ := hr.ro i a ds z e2
      exact r.back le r2
    · exact r.ground z
  · obtain ⟨hi, e1⟩ := at_ e1
    obtain ⟨hj, e2⟩ := at_ e2
    exact hr'.inj i j a ds es e1 e2 (le _ _ e3) (le _ _ e4)
theorem gc_ok {W : WX} {σ : L2.St} {Q : VK} {d : D} (hr : HR K L H h) (p : pR K mg L H W σ Q (gc h d h')) : ∀ L' H' v, LE L L' → Keep K H H' → HR K L' H' h' → Rel K L' H' d v → Q v H' := by
  intro L' H' v le kp hr' rel
  unfold gc at p
  split at p
  · rename_i c
    have hc := hr.cut le kp hr' c.1 c.2
    split at p
    · rename_i g
      exact p L H' v (LE.refl _) kp hc (rel.ground g)
    · split at p
      · rename_i i _
        split at p
        · rename_i ds e
          split at p
          · rename_i q
            cases rel with
            | @ref _ a ea =>
              obtain ⟨xs, hx, r⟩ := hr'.lst i a ds e ea
              refine p (L ++ [a]) H' (.ref a) (LE.app _ _) kp ?_ (.ref (by rw [← hr.len]; simp))
              have lt : (h'.take h.length).length = h.length := by rw [List.length_take]; have := c.1; omega
              have old : ∀ {j : Nat} {o : Ob}, (h'.take h.length ++ [.lst ds])[j]? = some o → (j < h.length ∧ (h'.take h.length)[j]? = some o) ∨ (j = h.length ∧ o = .lst ds) := fun {j o} e => by
                by_cases hj : j < h.length
                · rw [List.getElem?_append_left (by omega)] at e; exact .inl ⟨hj, e⟩
                · have e2 : j < (h'.take h.length ++ [Ob.lst ds]).length := (List.getElem?_eq_some_iff.mp e).1
                  rw [List.length_append, lt] at e2
                  have e3 : j = h.length := by simp at e2; omega
                  subst e3
                  rw [List.getElem?_append_right (by omega), lt] at e
                  simp at e
                  exact .inr ⟨rfl, e.symm⟩
              have oldL : ∀ {j : Nat} {b : Addr}, j < h.length → (L ++ [a])[j]? = some b → L[j]? = some b := fun {j b} hj e => by
                rw [List.getElem?_append_left (by rw [hr.len]; exact hj)] at e; exact e
              have newL : ∀ {b : Addr}, (L ++ [a])[h.length]? = some b → b = a := fun {b} e => by
                rw [← hr.len] at e; simp at e; exact e.symm
              have far : ∀ {j : Nat} {es : List D}, j < h.length → (h'.take h.length)[j]? = some (.lst es) → L[j]? = some a → False := fun {j es} hj e1 e2 => by
                have e3 : h'[j]? = some (.lst es) := by
                  rw [List.getElem?_take, if_pos hj] at e1
                  exact e1
                have := hr'.inj j i a es ds e3 e (le _ _ e2) ea
                omega
              refine ⟨by simp [hr.len, lt], fun j b es e1 e2 => ?_, fun j b es e1 e2 => ?_, fun j k b es fs e1 e2 e3 e4 => ?_, fun j b es e1 e2 => ?_, fun j k b es fs e1 e2 e3 e4 => ?_, hc.tb, (fun j b es e1 e2 => by
                rcases old e1 with ⟨hj, e1⟩ | ⟨rfl, e9⟩
                · obtain ⟨od, ys, q1, s⟩ := hc.rod j b es e1 (oldL hj e2)
                  exact ⟨od, ys, q1, s.mono (LE.app _ _) (Keep.refl _)⟩
                · cases e9), (fun j k b es fs e1 e2 e3 e4 => by
                rcases old e1 with ⟨hj, e1⟩ | ⟨rfl, e9⟩
                · rcases old e2 with ⟨hk, e2⟩ | ⟨rfl, e9⟩
                  · exact hc.injR j k b es fs e1 e2 (oldL hj e3) (oldL hk e4)
                  · cases e9
                · cases e9), hc.oj.keep (fun i c fs e => by
                rcases old e with ⟨hj, e1⟩ | ⟨_, e9⟩
                · exact ⟨e1, fun b q => oldL hj q⟩
                · cases e9) (fun _ _ _ _ q => q) (fun _ _ r => r.mono (LE.app _ _) (Keep.refl _))⟩
              rotate_left 3
              · rcases old e1 with ⟨hj, e1⟩ | ⟨rfl, e9⟩
                · obtain ⟨ys, q1, s⟩ := hc.dct j b es e1 (oldL hj e2)
                  exact ⟨ys, q1, s.mono (LE.app _ _) (Keep.refl _)⟩
                · cases e9
              · rcases old e1 with ⟨hj, e1⟩ | ⟨rfl, e9⟩
                · rcases old e2 with ⟨hk, e2⟩ | ⟨rfl, e9⟩
                  · exact hc.injD j k b es fs e1 e2 (oldL hj e3) (oldL hk e4)
                  · cases e9
                · cases e9
              · rcases old e1 with ⟨hj, e1⟩ | ⟨rfl, e9⟩
                · obtain ⟨ys, q1, s⟩ := hc.lst j b es e1 (oldL hj e2)
                  exact ⟨ys, q1, s.mono (LE.app _ _) (Keep.refl _)⟩
                · cases e9
                  obtain rfl := newL e2
                  exact ⟨xs, hx, r.ground q.2⟩
              · rcases old e1 with ⟨hj, e1⟩ | ⟨rfl, e9⟩
                · obtain ⟨ys, q1, s⟩ := hc.ro j b es e1 (oldL hj e2)
                  exact ⟨ys, q1, s.mono (LE.app _ _) (Keep.refl _)⟩
                · cases e9
              · rcases old e1 with ⟨hj, e1⟩ | ⟨rfl, e9⟩
                · rcases old e2 with ⟨hk, e2⟩ | ⟨rfl, e9⟩
                  · exact hc.inj j k b es fs e1 e2 (oldL hj e3) (oldL hk e4)
                  · obtain rfl := newL e4
                    exact (far hj e1 (oldL hj e3)).elim
                · rcases old e2 with ⟨hk, e2⟩ | ⟨rfl, e8⟩
                  · obtain rfl := newL e3
                    exact (far hk e2 (oldL hk e4)).elim
                  · rfl
          · exact p L' H' v le kp hr' rel
        · exact p L' H' v le kp hr' rel
      · exact p L' H' v le kp hr' rel
  · exact p L' H' v le kp hr' rel
end
def GV.isC : GV → Bool
  | .cls _ => true
  | .mth _ _ _ => true
  | .fld _ => true
  | .fnT _ => true
  | .fvs _ => true
  | .xcs _ => true
  | _ => false
/-! the text's defs -/
def Row.okB (r : Row) : Bool :=
  (match (defScope r.st).kind with
    | .function => true
    | _ => false) && (!(defScope r.st).isCoroutine && (!(defScope r.st).isGenerator && (decide r.N.Nodup && (decide (r.N.take r.ps.length = r.ps) && ((r.ps.all fun x => match (defScope r.st).names.lookup x with
      | some .local => true
      | some .cell => true
      | _ => false) && (((defScope r.st).names.all fun y => match y.2 with
      | .free => false
      | _ => true) && (decide (r.ps.length = r.fr.np) && decide (r.N.length = r.fr.nl))))))))
theorem Row.scope {r : Row} (h : r.okB = true) : FnScope r.N r.ps (defScope r.st) ∧ r.ps.length = r.fr.np ∧ r.N.length = r.fr.nl := by
  unfold Row.okB at h
  obtain ⟨h1, h⟩ := and2 h
  obtain ⟨h2, h⟩ := and2 h
  obtain ⟨h3, h⟩ := and2 h
  obtain ⟨h4, h⟩ := and2 h
  obtain ⟨h5, h⟩ := and2 h
  obtain ⟨h6, h⟩ := and2 h
  obtain ⟨h7, h⟩ := and2 h
  obtain ⟨h9, h10⟩ := and2 h
  refine ⟨⟨?_, notT h2, notT h3, of_decide_eq_true h4, of_decide_eq_true h5, fun x hx => ?_, fun y hy => ?_⟩, of_decide_eq_true h9, of_decide_eq_true h10⟩
  · split at h1
    · assumption
    · cases h1
  · have z := List.all_eq_true.mp h6 x hx
    split at z
    · exact .inl (by assumption)
    · exact .inr (by assumption)
    · cases z
  · have z := List.all_eq_true.mp h7 y hy
    intro q
    rw [q] at z
    cases z
/-- how its arguments come to its parameters: h is a match over so many values, rfl -/
def Row.Bd (r : Row) : Prop := ∀ (kV doc pm : Value) (an : Option Addr) (cdv ct : Value) (us : List Value), us.length = r.ps.length → bindArgs (PySem.W.fnOf r.x r.x (defArgs r.st) (defBody r.st) (defScope r.st) .none kV doc pm an cdv ct) ⟨us, []⟩ = pure (r.ps.zip us)
abbrev FnP (K : PySem.W.Frag) (r : Row) (f : Addr) (fd : FuncData) : Prop := FunD K r.x r.x (defArgs r.st) (defBody r.st) (defScope r.st) [] [] f fd
structure Glb [HasT] (rows : List Row) (w : World) (K : PySem.W.Frag) (mg : Str → Option Value) (gl : Str → Option GV) (ex : List Str) (tbl : Str → Option FnRec) : Prop where
  fns : ∀ x np, gl x = some (.fn np) → ∃ (r : Row) (f : Addr) (fd : FuncData) (n : Nat), r ∈ rows ∧ r.x = x ∧ r.ps.length = np ∧ r.okB = true ∧ tbl x = some r.fr ∧ compFn n gl ex r.N r.st = some r.fr.body ∧ r.Bd ∧ FnP K r f fd ∧ mg x = some (.ref f)
  con : ∀ x d, gl x = some (.con d) → ∃ u v, mg x = some u ∧ RelV v u ∧ ∀ L H, Rel K L H d v
  blt : ∀ x, gl x = some .blt → mg x = none
  exc0 : ∀ x, gl x = some (.exc false) → ∃ Ca, mg x = some (.ref Ca) ∧ X0Ok K Ca
  exc1 : ∀ x, gl x = some (.exc true) → ∃ Ca, mg x = some (.ref Ca) ∧ (∃ (fI : Addr) (fd : FuncData), PySem.W.findIn K (.ref Ca) "__init__" = some (some (.ref fI)) ∧ PySem.W.typeIn K (.ref fI) = some (.type "function") ∧ Binds K fd ["self", "at"] [] ∧
    ∀ (P : Program) (w : World) (base : Heap), FnOk P w K mg base (L2.CX P w) 1 fI fd ["self", "at"] (spInit K)) ∧ OexC K Ca ∧ PySem.W.findIn K (.ref Ca) "at" = some none ∧ XfC K Ca
  kn : ∀ x ∈ ex, ∀ y ∈ ex, ∃ Cx Cy, mg x = some (.ref Cx) ∧ mg y = some (.ref Cy) ∧ PySem.W.exmOne K (.ref Cx) (.ref Cy) = some (decide (x = y))
  noc : ∀ x g, gl x = some g → g.isC = false
  dct : ∀ x kvs, gl x = some (.dct kvs) → DctOk K w mg x kvs
theorem start_rel [HasT] {K : PySem.W.Frag} {L : List Addr} {H : Hp} {ds : List D} {vs : List V} {N : List Str} {np : Nat} (r : Rels K L H ds vs) (hl : ds.length = np) (hle : np ≤ N.length) : SRel K L H (ds.map some ++ List.replicate (N.length - np) none) (start N vs) := by
  have e := r.len
  subst hl
  unfold L2.start
  refine ⟨by simp [e], fun i d h => ?_⟩
  by_cases hi : i < ds.length
  · rw [List.getElem?_append_left (by simpa using hi), List.getElem?_map] at h
    cases q : ds[i]? with
    | none => rw [q] at h; cases h
    | some d' =>
      rw [q] at h
      cases h
      obtain ⟨v, e1, rv⟩ := r.get q
      refine ⟨v, ?_, rv⟩
      rw [List.getElem?_append_left (by rw [List.length_map, ← e]; exact hi), List.getElem?_map, e1]
      rfl
  · rw [List.getElem?_append_right (by simpa using hi)] at h
    have := List.getElem?_replicate (a := (none : Option D)) (n := N.length - ds.length) (i := i - (ds.map some).length)
    rw [this] at h
    split at h <;> cases h
section
variable [HasT]
variable {P : Program} {w : World} {K : PySem.W.Frag} {mg : Str → Option Value} {base : Heap} {gl : Str → Option GV} {ex : List Str} {tbl : Str → Option FnRec}
theorem units70 {k : Nat} {A : Around} (r : Room k A) : A.units + 70 < cLine := by have := r.un; omega
theorem fns_ok {rows : List Row} (G : Glb rows w K mg gl ex tbl) : ∀ (k : Nat) (x : Str) (np : Nat), gl x = some (.fn np) → ∃ f fd ps, ps.length = np ∧ FnOk P w K mg base (L2.CX P w) (k + 2) f fd ps (spOf K mg ps.length (callK tbl k x)) ∧ (∀ ds h, ds.length ≠ ps.length → callK tbl k x ds h = .stuck) ∧
    mg x = some (.ref f) ∧ PySem.W.keepIn K (.ref f) = true ∧ Binds K fd ps [] ∧ ∃ r ∈ rows, r.x = x ∧ r.ps = ps ∧ r.Bd ∧ FnP K r f fd
  | k, x, np, hx => by
    obtain ⟨r, f, fd, n, mr, rfl, hnp, ok, et, ec, bd, F, em⟩ := G.fns x np hx
    obtain ⟨sc, l1, l2⟩ := Row.scope ok
    have bs : Binds K fd r.ps [] := F.bindsN bd
    refine ⟨f, fd, r.ps, hnp, ?_, ?_, em, F.kp, bs, r, mr, rfl, rfl, bd, F⟩
    · cases k with
      | zero => exact ⟨fun vs H Q E h => h.1, fun A outer s H args us vs Q E _ _ _ _ h => by
          obtain ⟨_, L, h0, ds, _, _, z⟩ := h
          exact z.elim⟩
      | succ k =>
        refine F.ok sc (fun vs H Q E h => h.1) (fun cdv A outer s H vs Q E hr h => ?_)
        obtain ⟨hlen, L, h0, ds, hrl, rs, hp⟩ := h
        let X : Cx := cxOf (L2.CX P w) P w K mg base r.N r.x (defScope r.st) f cdv A outer s H E
        have tk : Takes X (fun cls d _ H => E cls d H) := takes_of rfl rfl rfl rfl
        have S : SdS X (fun cls d _ H => E cls d H) (callK tbl k) { N := r.N, sc := defScope r.st, fn := fun _ => true, gl := gl, calm := true, ex := ex } := by
          refine ⟨⟨rfl, sc.nd, rfl, rfl, fun _ => rfl, tk, units70 hr, fun y g e => ?_, G.kn, fun z => absurd z Bool.false_ne_true⟩, fun _ => passes_of rfl, sc.kind, rfl, rfl⟩
          cases g with
          | con d => exact G.con y d e
          | fn np2 =>
            obtain ⟨f2, fd2, ps2, a1, a2, a3, a4, a5, a6, _⟩ := fns_ok G k y np2 e
            exact ⟨k + 2, f2, fd2, ps2, a1, a2, a3, fun _ => hr, a4, a5, a6⟩
          | blt => exact G.blt y e
          | hof nl B => trivial
          | cls np => exact absurd (G.noc y _ e) (by simp [GV.isC])
          | mth c m np => exact absurd (G.noc y _ e) (by simp [GV.isC])
          | fld f => exact absurd (G.noc y _ e) (by simp [GV.isC])
          | fnT np => exact absurd (G.noc y _ e) (by simp [GV.isC])
          | fvs l => exact absurd (G.noc y _ e) (by simp [GV.isC])
          | xcs l => exact absurd (G.noc y _ e) (by simp [GV.isC])
          | dct kvs => exact G.dct y kvs e
          | exc b =>
            cases b with
            | false =>
              obtain ⟨Ca, m, o⟩ := G.exc0 y e
              exact ⟨Ca, m, o⟩
            | true =>
              obtain ⟨Ca, m, ⟨fI, fd, i1, i2, i3, i4⟩, o⟩ := G.exc1 y e
              exact ⟨Ca, m, ⟨fI, fd, i1, i2, i3, fun _ => hr.mono (by omega), i4 P w base⟩, o⟩
        have B := compSs_ok (compS_ok n) S (defBody r.st)
        rw [show compSs (compS n { N := r.N, sc := defScope r.st, fn := fun _ => true, gl := gl, calm := true, ex := ex }) (defBody r.st) = r.fr.body from Option.some.inj ec] at B
        refine ⟨_, B, L, h0, ds.map some ++ List.replicate (r.fr.nl - r.fr.np) none, hrl, ?_, ?_⟩
        · rw [← l2]
          have le : r.fr.np ≤ r.N.length := by
            rw [← l1]
            have z := congrArg List.length sc.pre
            rw [List.length_take] at z
            omega
          exact start_rel rs (by rw [rs.len, hlen, l1]) le
        · have hp2 : pR K mg L H (fun cv dx _ H' => E cv dx H') [] Q (runFn r.fr (callK tbl k) ds h0) := by
            have z : callK tbl (k + 1) r.x ds h0 = runFn r.fr (callK tbl k) ds h0 := by
              show (match tbl r.x with
                | some r => runFn r (callK tbl k) ds h0
                | none => .stuck) = _
              rw [et]
            rw [← z]
            exact hp
          unfold runFn at hp2
          rw [if_pos (by rw [rs.len, hlen, l1])] at hp2
          cases q : r.fr.body (callK tbl k) (ds.map some ++ List.replicate (r.fr.nl - r.fr.np) none) h0 with
          | nx env h1 =>
            rw [q] at hp2
            exact fun L' H' σ' le kp hr1 _ => gc_ok hrl hp2 L' H' .non le kp hr1 .non
          | rt d h1 =>
            rw [q] at hp2
            exact fun L' H' v le kp hr1 rl => gc_ok hrl hp2 L' H' v le kp hr1 rl
          | exc c d env h1 =>
            rw [q] at hp2
            exact fun L' H' σ' cv dx le kp hr1 _ ex => hp2 L' H' cv dx le kp hr1 ex
          | bk env h1 => rw [q] at hp2; exact hp2.elim
          | ct env h1 => rw [q] at hp2; exact hp2.elim
          | stuck => rw [q] at hp2; exact hp2.elim
    · intro ds h hd
      cases k with
      | zero => rfl
      | succ k =>
        show (match tbl r.x with
          | some r => runFn r (callK tbl k) ds h
          | none => .stuck) = _
        rw [et]
        show runFn r.fr (callK tbl k) ds h = _
        unfold runFn
        rw [if_neg (by rw [← l1]; exact hd)]
end

/-! what stands behind the top: read off the heap -/
theorem dvB_ok [HasT] {K : PySem.W.Frag} : ∀ (n : Nat) (d : D) (u : Value), dvB K n d u = true → ∃ v, RelV v u ∧ ∀ L H, Rel K L H d v
  | n, .non, u, h => by
    cases n <;> cases u <;> first | exact ⟨.non, rfl, fun _ _ => .non⟩ | cases h
  | n, .bl b, u, h => by
    cases n <;> cases u <;> first
      | (have e := beq_iff_eq.mp (show (b == _) = true from h); subst e; exact ⟨.bl b, rfl, fun _ _ => .bl b⟩)
      | cases h
  | n, .int b, u, h => by
    cases n <;> cases u <;> first
      | (have e := of_decide_eq_true (show decide (b = _) = true from h); subst e; exact ⟨.int b, ⟨_, rfl⟩, fun _ _ => .int b⟩)
      | cases h
  | n, .str b, u, h => by
    cases n <;> cases u <;> first
      | (have e := of_decide_eq_true (show decide (b = _) = true from h); subst e; exact ⟨.str b, ⟨_, rfl⟩, fun _ _ => .str b⟩)
      | cases h
  | 0, .tup ds, u, h => by cases u <;> cases h
  | n + 1, .tup ds, u, h => by
    have ih := dvB_ok (K := K) n
    have go : ∀ (ds : List D) (us : List Value), dvB.dvs K n ds us = true → ∃ vs, Vals vs us ∧ ∀ L H, Rels K L H ds vs := by
      intro ds
      induction ds with
      | nil => intro us h; cases us with
        | nil => exact ⟨[], .nil, fun _ _ => .nil⟩
        | cons _ _ => cases h
      | cons d ds il => intro us h; cases us with
        | nil => cases h
        | cons u us =>
          obtain ⟨h1, h2⟩ := and2 (show (dvB K n d u && dvB.dvs K n ds us) = true from h)
          obtain ⟨v, r, f⟩ := ih d u h1
          obtain ⟨vs, rs, fs⟩ := il us h2
          exact ⟨v :: vs, .cons r rs, fun L H => .cons (f L H) (fs L H)⟩
    cases u with
    | ref a =>
      have h' : (match K.lookup a with
        | some ⟨.type c, _, .seq its _, _⟩ => decide (c = "tuple") && (decide (its.size ≤ sizeLine) && dvB.dvs K n ds its.toList)
        | _ => false) = true := h
      split at h'
      · rename_i c dd its m sl e
        obtain ⟨h1, h2⟩ := and2 h'
        obtain ⟨h3, h4⟩ := and2 h2
        obtain ⟨vs, rs, fs⟩ := go ds its.toList h4
        exact ⟨.ref a, rfl, fun L H => .tup (.inr ⟨_, its, m, e, congrArg Value.type (of_decide_eq_true h1), rfl, of_decide_eq_true h3, rs⟩) (fs L H)⟩
      · cases h'
    | _ => cases h
  | n, .ref i, u, h => by cases n <;> cases u <;> cases h
def isLocB (sc : Scope) (x : Str) : Bool := match sc.names.lookup x with
  | some .local => true
  | _ => false
def iniShape (sup : Str) : List Stmt → Bool
  | [.Expr (.Call (.Attribute (.Name x _) f p2) [.Name a _, .Constant (.str _) _ _] [] p5) _, .Assign [.Attribute (.Name b _) g _] (.Name c _) _] => (p2.endLine == p5.line) && decide (x = sup ∧ f = "__init__" ∧ a = "self" ∧ b = "self" ∧ g = "at" ∧ c = "at")
  | _ => false
def IniD.row (d : IniD) : Row := ⟨"__init__", d.st, ["self", "at"], ["self", "at"], ⟨2, 2, stkS⟩⟩
def IniD.okB (d : IniD) : Bool := d.row.okB && (iniShape d.sup (defBody d.st) && (isGlo (defScope d.st) d.sup && (isLocB (defScope d.st) "self" && (isLocB (defScope d.st) "at" && okNm d.sup))))
def IniD.Bd (d : IniD) : Prop := ∀ (kV doc pm : Value) (an : Option Addr) (cdv ct : Value) (us : List Value), us.length = (["self", "at"] : List Str).length → bindArgs (PySem.W.fnOf "__init__" d.qual (defArgs d.st) (defBody d.st) (defScope d.st) .none kV doc pm an cdv ct) ⟨us, []⟩ = pure ((["self", "at"] : List Str).zip us)
theorem oexB_ok {K : PySem.W.Frag} {C : Addr} (h : oexB K C = true) : OexC K C := by
  obtain ⟨h1, h⟩ := and2 h
  obtain ⟨h2, h⟩ := and2 h
  obtain ⟨h3, h⟩ := and2 h
  obtain ⟨h4, h5⟩ := and2 h
  refine ⟨?_, He.eqO_ok h2, of_decide_eq_true h3, of_decide_eq_true h4, h5⟩
  split at h1
  · rename_i dd cd sl lk
    split at h1
    · rename_i C1 bm k0 k1 k2 k3 n k5 em es
      obtain ⟨q1, h1⟩ := and2 h1
      obtain ⟨q2, h1⟩ := and2 h1
      obtain ⟨q3, h1⟩ := and2 h1
      obtain ⟨q4, q5⟩ := and2 h1
      obtain ⟨nm, bs, mro, ns, qn, hd, sn, sub, ab, col, dl⟩ := cd
      dsimp only at em q3 q4
      have e1 := beq_iff_eq.mp q1
      have e2 := beq_iff_eq.mp q2
      have e3 := notT q3
      have e4 : sl = #[k0, k1, k2, k3, some (.builtin n), k5] := by
        obtain ⟨l⟩ := sl
        exact congrArg Array.mk es
      subst e1 e2 em e3 q4 e4
      exact ⟨nm, qn, ns, bs, bm, sn, sub, ab, col, dd, k0, k1, k2, k3, k5, lk, q5⟩
    · cases h1
  · cases h1
theorem teB_ok {K : PySem.W.Frag} {S : Addr} (h : teB K S = true) : TeOk K S (.type "type") := by
  obtain ⟨h1, h⟩ := and2 h
  obtain ⟨h2, h⟩ := and2 h
  obtain ⟨h3, h4⟩ := and2 h
  refine ⟨He.eqO_ok h1, of_decide_eq_true h2, h3, ?_⟩
  split at h4
  · rename_i b e
    rw [e, of_decide_eq_true h4]
  · cases h4
def MRow.Bd (q : MRow) : Prop := ∀ (kV doc pm : Value) (an : Option Addr) (cdv ct : Value) (us : List Value), us.length = q.r.ps.length → bindArgs (PySem.W.fnOf q.m q.r.x (defArgs q.r.st) (defBody q.r.st) (defScope q.r.st) .none kV doc pm an cdv ct) ⟨us, []⟩ = pure (q.r.ps.zip us)
theorem kv_find {z : Str} : ∀ {l : List DictEntry} {kvs : List (Str × Int)}, l.map keyVal = kvs.map some → (∀ i, kvs.lookup z = some i → ∃ e t, l.find? (fun e => e.key.isStr z) = some e ∧ e.val = .int i t) ∧ (kvs.lookup z = none → l.find? (fun e => e.key.isStr z) = none) ∧ l.any (·.refKey) = false
  | [], [], _ => ⟨fun i h => (by cases h), fun _ => rfl, rfl⟩
  | [], _ :: _, h => by cases h
  | _ :: _, [], h => by cases h
  | e :: l, (x, j) :: kvs, h => by
    rw [List.map_cons, List.map_cons, List.cons.injEq] at h
    obtain ⟨h1, h2⟩ := h
    obtain ⟨q1, q2, q3⟩ := kv_find (z := z) h2
    obtain ⟨eh, ek, ev⟩ := e
    unfold keyVal at h1
    cases ek <;> cases ev <;> first
      | (cases h1; done)
      | skip
    simp only [Option.some.injEq, Prod.mk.injEq] at h1
    obtain ⟨rfl, rfl⟩ := h1
    rename_i x tx j tj
    by_cases ez : z = x
    · subst ez
      refine ⟨fun i hi => ?_, fun hi => ?_, ?_⟩
      · rw [List.lookup_cons, beq_self_eq_true] at hi
        cases hi
        exact ⟨⟨eh, .str z tx, .int j tj⟩, tj, by rw [List.find?_cons]; simp [Value.isStr], rfl⟩
      · rw [List.lookup_cons, beq_self_eq_true] at hi
        cases hi
      · rw [List.any_cons, q3]; rfl
    · have e1 : (z == x) = false := by simpa using ez
      have e2 : (x == z) = false := by simpa using fun w => ez w.symm
      refine ⟨fun i hi => ?_, fun hi => ?_, ?_⟩
      · rw [List.lookup_cons, e1] at hi
        obtain ⟨e, t, w1, w2⟩ := q1 i hi
        refine ⟨e, t, ?_, w2⟩
        rw [List.find?_cons]
        simp only [Value.isStr, e2]
        exact w1
      · rw [List.lookup_cons, e1] at hi
        rw [List.find?_cons]
        simp only [Value.isStr, e2]
        exact q2 hi
      · rw [List.any_cons, q3]; rfl
theorem dctV_ok {K : PySem.W.Frag} {a : Addr} {kvs : List (Str × Int)} (h : dctV K a = some (kvs.map some)) (z : Str) : (∀ i, kvs.lookup z = some i → ∃ t, PySem.W.nsIn K a z = some (some (.int i t))) ∧ (kvs.lookup z = none → PySem.W.nsIn K a z = some none) := by
  unfold dctV at h
  split at h
  · rename_i es n sl e
    obtain ⟨q1, q2, q3⟩ := kv_find (z := z) (Option.some.inj h)
    unfold PySem.W.nsIn
    rw [e]
    dsimp only
    refine ⟨fun i hi => ?_, fun hi => ?_⟩
    · obtain ⟨e, t, w1, w2⟩ := q1 i hi
      rw [w1]
      exact ⟨t, by rw [← w2]⟩
    · rw [q2 hi]
      simp [q3]
  · cases h
section
variable {z : Facts0} {w : World} {K : PySem.W.Frag} {mg : Str → Option Value} {h : Heap}
theorem SaysV.parts (c : SaysV z w K) : (z.rows.all fun r => r.dd.ok K && He.Fa.ok K (.glo r.x)) = true ∧ (z.cons.all fun c => conB0 K c) = true ∧ (z.blts.all fun x => He.Fa.ok K (.free x)) = true ∧ (z.ex0.all fun x => He.Fa.ok K (.glo x) && He.Fa.ok K (.exc x)) = true ∧ (z.ini.all fun d => iniB K d) = true ∧ (z.ex.all fun x => z.ex.all fun y => He.Fa.ok K (.exm x y (decide (x = y)))) = true ∧ (z.ms.all fun q => q.okB K z.fs) = true ∧ (!z.fs.contains "!" || xvB K (z.fs.filter fun y => !(y == "!"))) = true := by
  have c1 : sayB z K = true := congrArg (fun z : AlV => z.1) c
  obtain ⟨h1, c1⟩ := and2 c1
  obtain ⟨h2, c1⟩ := and2 c1
  obtain ⟨h3, c1⟩ := and2 c1
  obtain ⟨h4, c1⟩ := and2 c1
  obtain ⟨h5, c1⟩ := and2 c1
  obtain ⟨h6, c1⟩ := and2 c1
  obtain ⟨h7, h8⟩ := and2 c1
  exact ⟨h1, h2, h3, h4, h5, h6, h7, h8⟩
theorem SaysV.fn (c : SaysV z w K) {d : He.DefD} (m : d ∈ z.dds) : He.fnW K d.at_ = d.val := by
  have c2 : (z.dds.map fun d => He.fnW K d.at_) = z.dds.map fun d => d.val := congrArg (fun z : AlV => z.2.1) c
  obtain ⟨i, hi, e⟩ := List.getElem_of_mem m
  have e2 : z.dds[i]? = some d := by rw [← e]; exact List.getElem?_eq_getElem hi
  have e3 : (z.dds.map fun d => He.fnW K d.at_)[i]? = (z.dds.map fun d => d.val)[i]? := by rw [c2]
  rw [List.getElem?_map, List.getElem?_map, e2] at e3
  exact Option.some.inj e3
theorem SaysV.row (c : SaysV z w K) {r : Row} (m : r ∈ z.rows) (X : K.In h) (G : h.Ns mainGlobals mg) : ∃ fd, FnP K r (He.ga K r.x) fd ∧ mg r.x = some (.ref (He.ga K r.x)) := by
  obtain ⟨k1, k2⟩ := and2 (List.all_eq_true.mp c.parts.1 r m)
  obtain ⟨fd, F⟩ := He.DefD.funD (d := r.dd) (c.fn (List.mem_append_left _ (List.mem_map_of_mem m))) k1
  exact ⟨fd, F, He.glo_ok X G k2⟩
theorem SaysV.con [HasT] (c : SaysV z w K) {x : Str} {d : D} (m : (x, CV.d d) ∈ z.cons) (X : K.In h) (G : h.Ns mainGlobals mg) : ∃ u v, mg x = some u ∧ RelV v u ∧ ∀ L H, Rel K L H d v := by
  have k := List.all_eq_true.mp c.parts.2.1 _ m
  simp only [conB0] at k
  split at k
  · rename_i u e
    obtain ⟨v, r, f⟩ := dvB_ok 20 d u k
    exact ⟨u, v, PySem.W.mg_of X G e, r, f⟩
  · cases k
theorem SaysV.dct (c : SaysV z w K) {x : Str} {kvs : List (Str × Int)} (m : (x, CV.t kvs) ∈ z.cons) (X : K.In h) (G : h.Ns mainGlobals mg) : DctOk K w mg x kvs := by
  have k := List.all_eq_true.mp c.parts.2.1 _ m
  simp only [conB0] at k
  obtain ⟨k1, k2⟩ := and2 k
  have c2 : ((tabsOf z.cons).map fun t => He.dicW K (He.ga K t.1)) = (tabsOf z.cons).map fun t => some (He.keysIn w.params t.2) := congrArg (fun z : AlV => z.2.2) c
  have mt : (x, kvs.map (·.1)) ∈ tabsOf z.cons := List.mem_filterMap.mpr ⟨_, m, rfl⟩
  obtain ⟨i, hi, e⟩ := List.getElem_of_mem mt
  have e2 : (tabsOf z.cons)[i]? = some (x, kvs.map (·.1)) := by rw [← e]; exact List.getElem?_eq_getElem hi
  have e3 : ((tabsOf z.cons).map fun t => He.dicW K (He.ga K t.1))[i]? = ((tabsOf z.cons).map fun t => some (He.keysIn w.params t.2))[i]? := by rw [c2]
  rw [List.getElem?_map, List.getElem?_map, e2] at e3
  obtain ⟨es, n, D⟩ := He.dicW_ok (Option.some.inj e3)
  exact ⟨_, es, n, He.glo_ok X G k1, D, dctV_ok (of_decide_eq_true k2)⟩
theorem SaysV.free (c : SaysV z w K) {x : Str} (m : x ∈ z.blts) (X : K.In h) (G : h.Ns mainGlobals mg) : mg x = none :=
  He.free_ok X G (List.all_eq_true.mp c.parts.2.2.1 _ m)
theorem SaysV.ex0 (c : SaysV z w K) {x : Str} (m : x ∈ z.ex0) (X : K.In h) (G : h.Ns mainGlobals mg) : mg x = some (.ref (He.ga K x)) ∧ X0Ok K (He.ga K x) := by
  obtain ⟨k1, k2⟩ := and2 (List.all_eq_true.mp c.parts.2.2.2.1 x m)
  obtain ⟨o1, o2, o3, o4⟩ := He.exc_ok k2
  exact ⟨He.glo_ok X G k1, o1, o2, o3, o4⟩
theorem iniShape_ok {sup : Str} {ss : List Stmt} (h : iniShape sup ss = true) : ∃ (m : Str) (j : Nat) (p1 p2 p3 p4 p5 p6 p7 p8 p9 p10 : Pos), (p2.endLine == p5.line) = true ∧
    ss = [.Expr (.Call (.Attribute (.Name sup p1) "__init__" p2) [.Name "self" p3, .Constant (.str m) j p4] [] p5) p6, .Assign [.Attribute (.Name "self" p7) "at" p8] (.Name "at" p9) p10] := by
  unfold iniShape at h
  split at h
  · obtain ⟨h0, h⟩ := and2 h
    obtain ⟨rfl, rfl, rfl, rfl, rfl, rfl⟩ := of_decide_eq_true h
    exact ⟨_, _, _, _, _, _, _, _, _, _, _, _, h0, rfl⟩
  · cases h
theorem isLocB_ok {sc : Scope} {x : Str} (h : isLocB sc x = true) : sc.names.lookup x = some .local := by
  unfold isLocB at h
  split at h
  · assumption
  · cases h
theorem isGloB_ok {sc : Scope} {x : Str} (h : isGlo sc x = true) : sc.names.lookup x = some .globalImplicit := by
  unfold isGlo at h
  split at h
  · assumption
  · cases h
theorem SaysV.ini (c : SaysV z w K) {d : IniD} (m : d ∈ z.ini) (ok : d.okB = true) (bd : d.Bd) (X : K.In h) (G : h.Ns mainGlobals mg) : mg d.cls = some (.ref (He.ga K d.cls)) ∧
    (∃ (fI : Addr) (fd : FuncData), PySem.W.findIn K (.ref (He.ga K d.cls)) "__init__" = some (some (.ref fI)) ∧ PySem.W.typeIn K (.ref fI) = some (.type "function") ∧ Binds K fd ["self", "at"] [] ∧
      ∀ (P : Program) (w : World) (base : Heap), FnOk P w K mg base (L2.CX P w) 1 fI fd ["self", "at"] (spInit K)) ∧ OexC K (He.ga K d.cls) ∧ PySem.W.findIn K (.ref (He.ga K d.cls)) "at" = some none ∧ XfC K (He.ga K d.cls) := by
  have k := List.all_eq_true.mp c.parts.2.2.2.2.1 d m
  obtain ⟨k1, k⟩ := and2 k
  obtain ⟨k2, k⟩ := and2 k
  obtain ⟨k3, k⟩ := and2 k
  obtain ⟨k4, k⟩ := and2 k
  obtain ⟨k5, k⟩ := and2 k
  obtain ⟨k6, k⟩ := and2 k
  obtain ⟨k7, k⟩ := and2 k
  obtain ⟨k8, k9⟩ := and2 k
  obtain ⟨fd, F⟩ := He.DefD.funD (d := d.dd) (c.fn (List.mem_append_right _ (List.mem_append_left _ (List.mem_map_of_mem m)))) k3
  obtain ⟨o1, o⟩ := and2 ok
  obtain ⟨o2, o⟩ := and2 o
  obtain ⟨o3, o⟩ := and2 o
  obtain ⟨o4, o⟩ := and2 o
  obtain ⟨o5, o6⟩ := and2 o
  obtain ⟨mm, j, p1, p2, p3, p4, p5, p6, p7, p8, p9, p10, hl, eb⟩ := iniShape_ok o2
  have F' : FunD K "__init__" d.qual (defArgs d.st) (defBody d.st) (defScope d.st) [] [] (He.ma K (He.ga K d.cls) "__init__") fd := F
  have bs : Binds K fd ["self", "at"] [] := F'.bindsN bd
  refine ⟨He.glo_ok X G k1, ⟨_, fd, He.eqO_ok k4, of_decide_eq_true k5, bs, fun P w base => ?_⟩, oexB_ok k6, He.eqO_ok k7, xfB_ok k8⟩
  rw [eb] at F'
  exact init_ok F' (Row.scope o1).1 (isGloB_ok o3) (isLocB_ok o4) (isLocB_ok o5) (He.glo_ok X G k2) (okNm_ok o6).1 (teB_ok k9) hl
theorem SaysV.mrow (c : SaysV z w K) {q : MRow} (m : q ∈ z.ms) (X : K.In h) (G : h.Ns mainGlobals mg) : ∃ fd, FunD K q.m q.r.x (defArgs q.r.st) (defBody q.r.st) (defScope q.r.st) [] [] (He.ma K (He.ga K q.c) q.m) fd ∧ mg q.c = some (.ref (He.ga K q.c)) ∧ Cls K (He.ga K q.c) ∧
    (q.m = "__init__" → Mk K (He.ga K q.c) (He.ma K (He.ga K q.c) q.m)) ∧ (q.m ≠ "__init__" → Meth K (He.ga K q.c) q.m (He.ma K (He.ga K q.c) q.m)) ∧ ∀ f ∈ z.fs, NoAttr K (He.ga K q.c) f := by
  obtain ⟨k1, k⟩ := and2 (List.all_eq_true.mp c.parts.2.2.2.2.2.2.1 q m)
  obtain ⟨k2, k⟩ := and2 k
  obtain ⟨k3, k⟩ := and2 k
  obtain ⟨k4, k5⟩ := and2 k
  obtain ⟨fd, F⟩ := He.DefD.funD (d := q.dd) (c.fn (List.mem_append_right _ (List.mem_append_right _ (List.mem_map_of_mem m)))) k1
  refine ⟨fd, F, He.glo_ok X G k2, He.cls_ok k3, fun e => ?_, fun e => ?_, fun f hf => He.noat_ok (List.all_eq_true.mp k5 f hf)⟩
  · rw [if_pos e] at k4
    rw [e]
    exact He.mkr_ok k4
  · rw [if_neg e] at k4
    exact He.meth_ok k4
/-- the rows are what the text gives -/
def RowsOk (gl : Str → Option GV) (ex : List Str) : List Row → Prop
  | [] => True
  | r :: rs => (r.okB = true ∧ compFn 60 gl ex r.N r.st = some r.fr.body ∧ r.Bd) ∧ RowsOk gl ex rs
theorem RowsOk.mem {gl : Str → Option GV} {ex : List Str} : ∀ {rows : List Row}, RowsOk gl ex rows → ∀ r ∈ rows, r.okB = true ∧ compFn 60 gl ex r.N r.st = some r.fr.body ∧ r.Bd
  | r :: rs, h, q, m => by
    rcases List.mem_cons.mp m with rfl | m
    · exact h.1
    · exact h.2.mem q m
def glOf (names : List (Str × Nat)) (cons : List (Str × CV)) (blts ex0 ex1 : List Str) (x : Str) : Option GV :=
  if blts.contains x = true then some .blt else match names.lookup x with
    | some np => some (.fn np)
    | none => (match cons.lookup x with
      | some (.d d) => some (.con d)
      | some (.t kvs) => some (.dct kvs)
      | none => if ex0.contains x = true then some (.exc false) else if ex1.contains x = true then some (.exc true) else none)
def tblOf (names : List (Str × FnRec)) (x : Str) : Option FnRec := names.lookup x
theorem lookup_mem {α : Type} : ∀ {l : List (Str × α)} {x : Str} {a : α}, l.lookup x = some a → (x, a) ∈ l
  | (y, b) :: l, x, a, h => by
    rw [List.lookup_cons] at h
    split at h
    · rename_i e
      cases h
      rw [beq_iff_eq.mp e]
      exact List.mem_cons_self ..
    · exact List.mem_cons_of_mem _ (lookup_mem h)
theorem gl_cases {names : List (Str × Nat)} {cons : List (Str × CV)} {blts ex0 ex1 : List Str} {x : Str} {g : GV} (e : glOf names cons blts ex0 ex1 x = some g) : (g = .blt ∧ x ∈ blts) ∨ (∃ np, g = .fn np ∧ names.lookup x = some np) ∨ (∃ d, g = .con d ∧ cons.lookup x = some (.d d)) ∨ (∃ kvs, g = .dct kvs ∧ cons.lookup x = some (.t kvs)) ∨ (g = .exc false ∧ x ∈ ex0) ∨ (g = .exc true ∧ x ∈ ex1) := by
  unfold glOf at e
  split at e
  · rename_i q; cases e; exact .inl ⟨rfl, by simpa using q⟩
  · split at e
    · rename_i np q; cases e; exact .inr (.inl ⟨np, rfl, q⟩)
    · split at e
      · rename_i d q; cases e; exact .inr (.inr (.inl ⟨d, rfl, q⟩))
      · rename_i kvs q; cases e; exact .inr (.inr (.inr (.inl ⟨kvs, rfl, q⟩)))
      · split at e
        · rename_i q; cases e; exact .inr (.inr (.inr (.inr (.inl ⟨rfl, by simpa using q⟩))))
        · split at e
          · rename_i q; cases e; exact .inr (.inr (.inr (.inr (.inr ⟨rfl, by simpa using q⟩))))
          · cases e
theorem glb_of [HasT] (c : SaysV z w K) (X : K.In h) (G : h.Ns mainGlobals mg) {names : List (Str × Nat)} (en : z.rows.map (fun r => (r.x, r.ps.length)) = names) (ok : RowsOk (glOf names z.cons z.blts z.ex0 (z.ini.map IniD.cls)) z.ex z.rows) (oi : ∀ d ∈ z.ini, d.okB = true ∧ d.Bd) :
    Glb z.rows w K mg (glOf names z.cons z.blts z.ex0 (z.ini.map IniD.cls)) z.ex (tblOf (z.rows.map fun r => (r.x, r.fr))) where
  fns := fun x np e => by
    rcases gl_cases e with ⟨q, _⟩ | ⟨np', q, e1⟩ | ⟨_, q, _⟩ | ⟨_, q, _⟩ | ⟨q, _⟩ | ⟨q, _⟩ <;> first | (cases q; done) | skip
    cases q
    rw [← en] at e1
    -- the first row of that name
    have find : ∀ (l : List Row), (l.map fun r => (r.x, r.ps.length)).lookup x = some np → ∃ r ∈ l, r.x = x ∧ r.ps.length = np ∧ (l.map fun r => (r.x, r.fr)).lookup x = some r.fr := by
      intro l
      induction l with
      | nil => intro h; cases h
      | cons r l il =>
        intro h
        rw [List.map_cons, List.lookup_cons] at h
        split at h
        · rename_i e9
          have h8 := Option.some.inj h
          have ex := beq_iff_eq.mp e9
          refine ⟨r, List.mem_cons_self .., ex.symm, h8, ?_⟩
          rw [List.map_cons, List.lookup_cons, e9]
        · rename_i e9
          obtain ⟨q, m, h1, h2, h3⟩ := il h
          refine ⟨q, List.mem_cons_of_mem _ m, h1, h2, ?_⟩
          rw [List.map_cons, List.lookup_cons, e9]
          exact h3
    obtain ⟨r, m, h1, h2, h3⟩ := find z.rows e1
    obtain ⟨o1, o2, o3⟩ := ok.mem r m
    obtain ⟨fd, F, em⟩ := c.row m X G
    exact ⟨r, _, fd, 60, m, h1, h2, o1, h3, o2, o3, F, by rw [← h1]; exact em⟩
  con := fun x d e => by
    rcases gl_cases e with ⟨q, _⟩ | ⟨_, q, _⟩ | ⟨_, q, e1⟩ | ⟨_, q, _⟩ | ⟨q, _⟩ | ⟨q, _⟩ <;> first | (cases q; done) | skip
    cases q
    exact c.con (lookup_mem e1) X G
  blt := fun x e => by
    rcases gl_cases e with ⟨_, m⟩ | ⟨_, q, _⟩ | ⟨_, q, _⟩ | ⟨_, q, _⟩ | ⟨q, _⟩ | ⟨q, _⟩ <;> first | (cases q; done) | skip
    exact c.free m X G
  exc0 := fun x e => by
    rcases gl_cases e with ⟨q, _⟩ | ⟨_, q, _⟩ | ⟨_, q, _⟩ | ⟨_, q, _⟩ | ⟨_, m⟩ | ⟨q, _⟩ <;> first | (cases q; done) | skip
    obtain ⟨a, b⟩ := c.ex0 m X G
    exact ⟨_, a, b⟩
  exc1 := fun x e => by
    rcases gl_cases e with ⟨q, _⟩ | ⟨_, q, _⟩ | ⟨_, q, _⟩ | ⟨_, q, _⟩ | ⟨q, _⟩ | ⟨_, m⟩ <;> first | (cases q; done) | skip
    obtain ⟨d, md, rfl⟩ := List.mem_map.mp m
    obtain ⟨o1, o2⟩ := oi d md
    obtain ⟨a, b⟩ := c.ini md o1 o2 X G
    exact ⟨_, a, b⟩
  kn := fun x mx y my => by
    have at_ : ∀ x ∈ z.ex, mg x = some (.ref (He.ga K x)) := fun x m => by
      rcases List.mem_append.mp m with m | m
      · exact (c.ex0 m X G).1
      · obtain ⟨d, md, rfl⟩ := List.mem_map.mp m
        obtain ⟨o1, o2⟩ := oi d md
        exact (c.ini md o1 o2 X G).1
    exact ⟨_, _, at_ x mx, at_ y my, He.exm_ok (List.all_eq_true.mp (List.all_eq_true.mp c.parts.2.2.2.2.2.1 x mx) y my)⟩
  noc := fun x g e => by
    rcases gl_cases e with ⟨rfl, _⟩ | ⟨_, rfl, _⟩ | ⟨_, rfl, _⟩ | ⟨_, rfl, _⟩ | ⟨rfl, _⟩ | ⟨rfl, _⟩ <;> rfl
  dct := fun x kvs e => by
    rcases gl_cases e with ⟨q, _⟩ | ⟨_, q, _⟩ | ⟨_, q, _⟩ | ⟨_, q, e1⟩ | ⟨q, _⟩ | ⟨q, _⟩ <;> first | (cases q; done) | skip
    cases q
    exact c.dct (lookup_mem e1) X G
end
/-- THE END: the law's def gives True by ours -/
theorem law_end {P : Program} {w : World} {z : Facts0} {K : PySem.W.Frag} {mg : Str → Option Value} {h : Heap} {names : List (Str × Nat)} {fa : Addr} {k : Nat} (c : SaysV z w K) (X : K.In h) (G : h.Ns mainGlobals mg)
    (en : z.rows.map (fun r => (r.x, r.ps.length)) = names) (ok : RowsOk (glOf names z.cons z.blts z.ex0 (z.ini.map IniD.cls)) z.ex z.rows) (oi : ∀ d ∈ z.ini, d.okB = true ∧ d.Bd) (lw : glOf names z.cons z.blts z.ex0 (z.ini.map IniD.cls) "law" = some (.fn 1)) (x : Str) (hx : ∀ r ∈ z.rows, r.x = "law" → r.ps = [x]) (hfa : mg ("law" : Str) = some (.ref fa))
    (true_ : ∀ ns : List Int, ns.length ≤ 63 → ∃ h', callK (tblOf (z.rows.map fun r => (r.x, r.fr))) k "law" [.ref 0] [.ro (ns.map .int)] = .ok (.bl true) h') :
    ∃ (fd : FuncData) (sp : Sp), (∀ (s : Shared) (u : Value), BindsTo s fd ⟨[u], []⟩ [(x, u)]) ∧ (∀ (H : Hp) (a : Addr) (ns : List Int), ns.length ≤ 63 → Only H → SqL K H a (ns.map V.int) → sp [.ref a] H (fun v _ => v = .bl true) fun _ _ _ => False) ∧
      ∀ base : Heap, K.In base → base.Ns mainGlobals mg → FnOk P w K mg base (L2.CX P w) (k + 2) fa fd [x] sp := by
  letI : HasT := ⟨[], fun _ => 0, []⟩
  have Gl := glb_of c X G en ok oi
  obtain ⟨f0, fd0, ps0, _, _, _, em0, _, _, r, mr, rx, rp, bd, F⟩ := fns_ok (P := P) (w := w) (base := h) Gl k "law" 1 lw
  have e1 : r.ps = [x] := hx r mr rx
  refine ⟨fd0, spOf K mg 1 (callK (tblOf (z.rows.map fun r => (r.x, r.fr))) k "law"), fun s u => ?_, fun H a ns hl hO hS => ?_, fun base _ _ => ?_⟩
  · have z := FunD.bindsA F bd s [u] (by rw [e1]; rfl)
    rw [e1] at z
    exact z
  · refine ⟨rfl, [a], [.ro (ns.map .int)], [.ref 0], ⟨rfl, fun i b ds e1 e2 => ?_, fun i b ds e1 e2 => ?_, fun i j b ds es e1 _ _ _ => ?_, fun i b ds e1 e2 => ?_, fun i j b ds es e1 _ _ _ => ?_, (fun p hp => absurd (show p ∈ ([] : List (Addr × Str)) from hp) (by simp)), (fun i b ds e1 e2 => by
      cases i with
      | zero => cases e1
      | succ i => simp at e1), (fun i j b ds es e1 _ _ _ => by
      cases i with
      | zero => cases e1
      | succ i => simp at e1), (fun i b c fs e1 e2 => by
      cases i with
      | zero => cases e1
      | succ i => simp at e1), fun i j b c1 c2 ds es e1 _ _ _ => by
      cases i with
      | zero => cases e1
      | succ i => simp at e1⟩, .cons (.ref rfl) .nil, ?_⟩
    · cases i with
      | zero => cases e1
      | succ i => simp at e1
    · cases i with
      | zero =>
        cases e1
        cases e2
        refine ⟨ns.map V.int, ?_, ?_⟩
        · rcases hS with (hS | ⟨o, hS⟩) | hS
          · rcases hO a with z | ⟨o, xs, z⟩
            · rw [z] at hS; cases hS
            · rw [z] at hS; cases hS
          · exact .inl ⟨o, hS⟩
          · exact .inr hS
        · clear hl hS
          induction ns with
          | nil => exact .nil
          | cons n ns il => exact .cons (.int n) il
      | succ i => simp at e1
    · cases i with
      | zero => cases e1
      | succ i => simp at e1
    · cases i with
      | zero => cases e1
      | succ i => simp at e1
    · cases i with
      | zero => cases e1
      | succ i => simp at e1
    · obtain ⟨h', e⟩ := true_ ns hl
      rw [e]
      intro L' H' v _ _ _ rl
      cases rl
      rfl
  · obtain ⟨f, fd, ps, a1, a2, a3, a4, a5, a6, r', mr', rx', rp', bd', F'⟩ := fns_ok (P := P) (w := w) (base := base) Gl k "law" 1 lw
    have e2 : r'.ps = [x] := hx r' mr' rx'
    rw [← rp', e2] at a2
    have e3 : f = fa := by
      rw [hfa] at a4
      cases a4
      rfl
    have e4 : f0 = fa := by
      rw [hfa] at em0
      cases em0
      rfl
    subst e3
    have e5 : fd = fd0 := by
      obtain ⟨oc, od, dV, kV, doc, pm, an, cdv, ct, osl, q1, q2, _⟩ := F.ex
      obtain ⟨oc', od', dV', kV', doc', pm', an', cdv', ct', osl', q1', q2', _⟩ := F'.ex
      rw [e4, q2'] at q2
      cases q2
      rfl
    rw [← e5]
    exact a2
/-- the law, walked: what F tells of each world -/
theorem walkV {l : PySem.W.OpenLaw} {n k : Nat} {q : Program} {loose : List Str} {XP : (Str → Option Value) → Heap → Prop} {YP : World → Heap → Prop} {d : DefRec} {x : Str} (e1 : l.most = some n) (e2 : n ≤ sizeLine) (e3 : d.params.defaults = []) (rm : Room k callerA)
    (F : ∀ (w : World) (mg : Str → Option Value) (fa : Addr) (h : Heap), YP w h → h.Ns mainGlobals mg → mg d.name = some (.ref fa) → ∃ K : PySem.W.Frag, K.In h ∧ ∃ (fd : FuncData) (sp : Sp), (∀ (s : Shared) (u : Value), BindsTo s fd ⟨[u], []⟩ [(x, u)]) ∧
      (∀ (H : Hp) (a : Addr) (ns : List Int), ns.length ≤ n → Only H → SqL K H a (ns.map V.int) → sp [.ref a] H (fun v _ => v = .bl true) fun _ _ _ => False) ∧ ∀ base : Heap, K.In base → base.Ns mainGlobals mg → FnOk l.prog w K mg base (L2.CX l.prog w) k fa fd [x] sp) :
    PySem.W.WalkO q loose XP YP l.row.toRowW d [] (fun f vs => PySem.call f vs) := by
  apply Att.attach_call e1 e3
  intro w s0 s1 mg mb fa o pm cd doc a vs ns G Y _ _ _ eg eo ei el gn
  obtain ⟨K, kin, fd, sp, h1, h2, h3⟩ := F w mg fa _ Y G.T.g eg
  refine law_call kin G.T.g G.T.b G.T.builtins G.T.nolimit gn eo ei (Nat.le_trans el e2) rm h3 h1 (fun H only sq => h2 H a ns el only sq) ?_
  intro H e s' z
  obtain ⟨_, _, _, _, _, _, _, _, _, _, _, _, z⟩ := z
  exact z.elim
end VM

set_option maxRecDepth 100000
set_option maxHeartbeats 4000000
namespace VM
open PySem PySem.Spec PyProof.Rows L2
variable [HasT]
theorem repO_inv {e : Expr} {z : Expr × Str × Str} (h : repO e = some z) : ∃ apos j c0 k c1 pos, e = .Call (.Attribute z.1 "replace" apos) [.Constant (.str z.2.1) j c0, .Constant (.str z.2.2) k c1] [] pos ∧ notCall z.1 = true ∧ (apos.endLine == pos.line) = true ∧ (z.2.1 == z.2.2) = false := by
  unfold repO at h
  split at h
  · rename_i o m apos y j c0 w k c1 pos
    split at h
    · rename_i q
      obtain ⟨rfl, q⟩ := q
      obtain ⟨q1, q⟩ := and2 q
      obtain ⟨q2, q3⟩ := and2 q
      cases h
      exact ⟨_, _, _, _, _, _, rfl, q1, q2, notT q3⟩
    · cases h
  · cases h
section
variable {X : Cx} {W : WX} {C : Or} {cc : CC} {n : Nat}
theorem rep_ok (S : Sd X W C cc) {e : Expr} {z : Expr × Str × Str} {fo : EF} (h : repO e = some z) (ho : compE n cc z.1 = some fo) : PET X e (tE X W (un1F (opRep z.2.1 z.2.2) fo C)) ∧ ∀ env es, starEach (e :: es) env = (false, eval e env) :: starEach es env := by
  obtain ⟨apos, j, c0, k, c1, pos, rfl, h1, h2, h3⟩ := repO_inv h
  exact ⟨r1_rep C (compE_ok n cc _ fo ho X W C S).1 h3 (base_of h1 _ _) h2, fun _ _ => rfl⟩
theorem compCT_ok (S : Sd X W C cc) {e : Expr} {F : EF} (h : compCT n cc e = some F) : PET X e (tE X W (F C)) := by
  unfold compCT at h
  split at h
  · rename_i x p b pos
    obtain ⟨h0, h⟩ := guardO_some h
    obtain ⟨h1, h0⟩ := and2 h0
    obtain ⟨h2, h3⟩ := and2 h0
    split at h
    · rename_i np eg
      obtain ⟨fb, h4, rfl⟩ := map_some h
      obtain ⟨k, f, fd, ps, rm, e1, F1, e2, e3, e4, e5⟩ := S.gl x _ eg
      exact r1_call C S.tk F1 e2 (rm (S.calm h3)) (glo_ok S.sc h1) e3 e4 e5 (compE_ok n cc b fb h4 X W C S).1 (okNm_ok h2).1 (noStar h4 _ _)
    · cases h
  · cases h
theorem compLcT_ok (S : Sd X W C cc) {e : Expr} {F : EF} (h : compLcT n cc e = some F) : PET X e (tE X W (F C)) ∧ ∀ env es, starEach (e :: es) env = (false, eval e env) :: starEach es env := by
  unfold compLcT at h
  split at h
  · rename_i elt tg iter scope pos
    obtain ⟨hc0, h⟩ := guardO_some h
    obtain ⟨hc, h0⟩ := and2 hc0
    obtain ⟨fi, h1, h⟩ := bind_some h
    obtain ⟨pi, fs⟩ := compI_ok (compE_ok n) S h1
    obtain ⟨t, h2, h⟩ := bind_some h
    obtain ⟨h3, h⟩ := guardO_some h
    obtain ⟨fe, h5, rfl⟩ := map_some h
    refine ⟨PET.weak (lc1 (tt := tB X W0 (conF (.bl true) C)) (S.calm hc) S.nd pi (by rw [S.N, S.sc]; exact blkOk_by h0) (fun s H C' cl fq => compT_ok (S.blk s H scope C' cl fq) n tg t h2) (fun s H C' cl fq => compCT_ok (S.blk s H scope C' cl fq) h5) fs (fun σ H Q ⟨L, h, env, hr, sr, hp⟩ => hp L H (LE.refl _) (Keep.refl _) hr)) (lc_read C fun j hj => ?_), fun _ _ => rfl⟩
    have z := List.all_eq_true.mp h3 j hj
    simpa using z
  · cases h
/-- is a call -/
def isCl : Expr → Bool
  | .Call _ _ _ _ => true
  | _ => false
theorem compET_ok (S : Sd X W C cc) {e : Expr} {F : EF} (h : compET n cc e = some F) : PET X e (tE X W (F C)) ∧ isCl e = true := by
  unfold compET at h
  split at h
  · rename_i z ez
    obtain ⟨fo, h1, rfl⟩ := map_some h
    have q := repO_inv ez
    obtain ⟨apos, j, c0, k, c1, pos, rfl, _⟩ := q
    exact ⟨(rep_ok S ez h1).1, rfl⟩
  · split at h
    · rename_i o m apos a pos _
      split at h
      · rename_i q
        obtain ⟨rfl, q2⟩ := q
        split at h
        · rename_i z ez
          obtain ⟨fo, h1, h⟩ := bind_some h
          obtain ⟨fa, h2, rfl⟩ := map_some h
          refine ⟨r1_split C (rep_ok S ez h1).1 (compE_ok n cc a fa h2 X W C S).1 (noStar h2 _ _) (base_of ?_ _ _) q2, rfl⟩
          obtain ⟨apos', j, c0, k, c1, pos', rfl, _⟩ := repO_inv ez
          rfl
        · cases h
      · cases h
    · rename_i x p a pos _
      obtain ⟨h0, h'⟩ := guardO_some h
      obtain ⟨b, h0⟩ := and2 h0
      obtain ⟨hc, ex⟩ := and2 h0
      have ex := of_decide_eq_true ex
      obtain ⟨f, h1, rfl⟩ := map_some h'
      clear h h'
      subst ex
      obtain ⟨b1, b2, _⟩ := blt_ok S b
      obtain ⟨p1, p2⟩ := compLcT_ok S h1
      exact ⟨r1_any C (S.calm hc) b1 b2 p1 (p2 _ _), rfl⟩
    · cases h
theorem psst_nil : PSsT X [] (tS X W (nxS C)) := PSsT.of s_nil
theorem compSsT_ok {m : Nat} (S : SdS X W C cc) (ih : ∀ (s : Stmt) (F : SF), compST m cc s = some F → PST X s (tS X W (F C))) : ∀ ss : List Stmt, PSsT X ss (tS X W (compSs (compST m cc) ss C))
  | [] => psst_nil
  | s :: ss => by
    have one : PST X s (tS X W (((compST m cc s).getD stkS) C)) := by
      cases q : compST m cc s with
      | none => exact PST.of (PS.weak ps_never fun D_ σ H ⟨L, h, env, hr, sr, hp⟩ => hp.elim)
      | some F => exact ih s F q
    exact s1_cons C one (compSsT_ok S ih ss)
theorem compST_ok (S : SdS X W C cc) : ∀ (m : Nat) (s : Stmt) (F : SF), compST m cc s = some F → PST X s (tS X W (F C))
  | 0, s, F, h => by cases h
  | m + 1, s, F, h => by
    have ih := compST_ok S m
    unfold compST at h
    split at h
    · split at h
      · rename_i e pos f ef
        cases h
        exact s1_ret C (compET_ok S.toSd ef).1
      · exact PST.of (compS_ok (m + 1) cc _ F h X W C S)
    · rename_i x px e pos
      split at h
      · rename_i f ef
        obtain ⟨i, h1, h⟩ := bind_some h
        obtain ⟨h2, h⟩ := guardO_some h
        cases h
        obtain ⟨p1, p2⟩ := compET_ok S.toSd ef
        have lx := nmLoc_ok S.toSd h2
        refine s1_set C S.nd (by rw [S.N]; exact slot_ok h1) (.inl lx) p1 (swF ?_ _ _ _) (.inr lx)
        cases e <;> first | rfl | cases p2
      · exact PST.of (compS_ok (m + 1) cc _ F h X W C S)
    · rename_i c a pos
      split at h
      · rename_i fc ef
        cases h
        obtain ⟨p1, p2⟩ := compET_ok S.toSd ef
        refine s1_if C (t1_val p1 ?_) (compSsT_ok S ih a) psst_nil
        cases c <;> first | (intro _; rfl) | cases p2
      · obtain ⟨h0, h⟩ := guardO_some h
        obtain ⟨fc, h1, rfl⟩ := map_some h
        exact s1_if C (PT1.of ((compE_ok m cc c fc h1 X W C S.toSd).2 m h0)) (compSsT_ok S ih a) psst_nil
    · exact PST.of (compS_ok (m + 1) cc _ F h X W C S)
theorem compSg_ok (S : SdS X W C cc) {s : Stmt} {F : SF} (h : compSg n cc s = some F) : PSk X s (tS X W (F C)) := by
  unfold compSg at h
  split at h
  · rename_i x px o m apos y j c0 cpos pos
    obtain ⟨h0, h'⟩ := guardO_some h
    obtain ⟨h1, h0⟩ := and2 h0
    have em := of_decide_eq_true h1
    obtain ⟨h2, h0⟩ := and2 h0
    obtain ⟨h3, h4⟩ := and2 h0
    obtain ⟨i, h5, h'⟩ := bind_some h'
    obtain ⟨fo, h6, rfl⟩ := map_some h'
    clear h h'
    subst em
    have lx := nmLoc_ok S.toSd h4
    exact sk_set C S.nd (by rw [S.N]; exact slot_ok h5) (.inl lx) (compE_ok n cc o fo h6 X W C S.toSd).1 (base_of h2 _ _) h3 (.inr lx)
  · rename_i y yp z j c0 cp a pos
    obtain ⟨fy, h1, rfl⟩ := map_some h
    exact sk_if C (tk_eq C S.un (compE_ok n cc _ fy h1 X W C S.toSd).1) (PSsT.of (compSs_ok (compS_ok n) S a)) psst_nil
  · cases h
theorem compSs0_ok (S : SdS X W C cc) : ∀ ss : List Stmt, PSs X ss (tS X W (compSs0 n cc ss C))
  | [] => s_nil
  | s :: ss => by
    unfold compSs0
    cases q0 : compSg n cc s with
    | some F => exact sk_cons C (compSg_ok S q0) (compSsT_ok S (compST_ok S n) ss)
    | none =>
      have one : PS X s (tS X W (((compS n cc s).getD stkS) C)) := by
        cases q : compS n cc s with
        | none => exact PS.weak ps_never fun D_ σ H ⟨L, h, env, hr, sr, hp⟩ => hp.elim
        | some F => exact compS_ok n cc s F q X W C S
      exact s_cons C one (compSs0_ok S ss)
end
end VM

set_option maxRecDepth 100000
set_option maxHeartbeats 1000000
namespace VM
open PySem PySem.Spec PyProof.Rows L2
/-! the rows of a law with lambdas -/
variable [HasT]
def compFnL (n : Nat) (gl : Str → Option GV) (ex : List Str) (N : List Str) (st : Stmt) (lam : Bool) : SF :=
  compSs0 n { N := N, sc := defScope st, fn := fun _ => true, gl := gl, calm := true, ex := ex, lam := lam } (defBody st)
/-- a def that is called with a token out alone -/
def compFnT (n : Nat) (gl : Str → Option GV) (ex : List Str) (N : List Str) (st : Stmt) : SF :=
  compSs (compST n { N := N, sc := defScope st, fn := fun _ => true, gl := gl, calm := true, ex := ex, lam := false }) (defBody st)
def ccHof (gl : Str → Option GV) (ex : List Str) (N : List Str) (st : Stmt) : CC := { N := N, sc := defScope st, fn := fun _ => true, gl := gl, calm := false, ex := ex, lam := false }
structure GlbL (rows : List Row) (lams : List Str) (w : World) (K : PySem.W.Frag) (mg : Str → Option Value) (base : Heap) (gl : Str → Option GV) (ex : List Str) (tbl : Str → Option FnRec) : Prop where
  fns : ∀ x np, gl x = some (.fn np) → ∃ (r : Row) (f : Addr) (fd : FuncData) (n : Nat), r ∈ rows ∧ r.x = x ∧ r.ps.length = np ∧ r.okB = true ∧ tbl x = some r.fr ∧ compFnL n gl ex r.N r.st (decide (x ∈ lams)) = r.fr.body ∧ r.Bd ∧ FnP K r f fd ∧ mg x = some (.ref f) ∧
    (x ∈ lams → ∀ (dV kV doc pm : Value) (an : Option Addr) (cdv ct : Value), fd = PySem.W.fnOf r.x r.x (defArgs r.st) (defBody r.st) (defScope r.st) dV kV doc pm an cdv ct → ∃ c P, cdv = .ref c ∧ LamX.TabB base mg c P ∧ (P, r.x ++ ".<locals>." ++ "<lambda>") ∈ HasT.T ∧ ∀ p ∈ HasT.T, p.1 = P → p.2 = r.x ++ ".<locals>." ++ "<lambda>")
  fnsT : ∀ x np, gl x = some (.fnT np) → ∃ (r : Row) (f : Addr) (fd : FuncData) (n : Nat), r.x = x ∧ r.ps.length = np ∧ r.okB = true ∧ tbl x = some r.fr ∧ compFnT n gl ex r.N r.st = r.fr.body ∧ r.Bd ∧ FnP K r f fd ∧ mg x = some (.ref f)
  fvs : ∀ x l, gl x = some (.fvs l) → ∀ y ∈ l, mg y = some (.ref (HasT.C y))
  xcs : ∀ x l, gl x = some (.xcs l) → XcOk K mg l
  con : ∀ x d, gl x = some (.con d) → ∃ u v, mg x = some u ∧ RelV v u ∧ ∀ L H, Rel K L H d v
  blt : ∀ x, gl x = some .blt → mg x = none
  exc0 : ∀ x, gl x = some (.exc false) → ∃ Ca, mg x = some (.ref Ca) ∧ X0Ok K Ca
  exc1 : ∀ x, gl x = some (.exc true) → ∃ Ca, mg x = some (.ref Ca) ∧ (∃ (fI : Addr) (fd : FuncData), PySem.W.findIn K (.ref Ca) "__init__" = some (some (.ref fI)) ∧ PySem.W.typeIn K (.ref fI) = some (.type "function") ∧ Binds K fd ["self", "at"] [] ∧
    ∀ (P : Program) (w : World) (base : Heap), FnOk P w K mg base (L2.CX P w) 1 fI fd ["self", "at"] (spInit K)) ∧ OexC K Ca ∧ PySem.W.findIn K (.ref Ca) "at" = some none ∧ XfC K Ca
  kn : ∀ x ∈ ex, ∀ y ∈ ex, ∃ Cx Cy, mg x = some (.ref Cx) ∧ mg y = some (.ref Cy) ∧ PySem.W.exmOne K (.ref Cx) (.ref Cy) = some (decide (x = y))
  cls : ∀ x np, gl x = some (.cls np) → ∃ (q : MRow) (f : Addr) (fd : FuncData) (n : Nat), q.r.x = x ++ ".__init__" ∧ q.r.ps.length = np ∧ q.r.okB = true ∧ tbl q.r.x = some q.r.fr ∧ compFnL n gl ex q.r.N q.r.st false = q.r.fr.body ∧ q.Bd ∧ FunD K q.m q.r.x (defArgs q.r.st) (defBody q.r.st) (defScope q.r.st) [] [] f fd ∧
    mg x = some (.ref (HasT.C x)) ∧ Mk K (HasT.C x) f ∧ Cls K (HasT.C x) ∧ ∀ g ∈ HasT.F, NoAttr K (HasT.C x) g
  mth : ∀ x c m np, gl x = some (.mth c m np) → ∃ (q : MRow) (f : Addr) (fd : FuncData) (n : Nat), q.r.x = c ++ "." ++ m ∧ q.r.ps.length = np ∧ q.r.okB = true ∧ tbl q.r.x = some q.r.fr ∧ compFnL n gl ex q.r.N q.r.st false = q.r.fr.body ∧ q.Bd ∧ FunD K q.m q.r.x (defArgs q.r.st) (defBody q.r.st) (defScope q.r.st) [] [] f fd ∧
    Meth K (HasT.C c) m f ∧ Cls K (HasT.C c)
  fld : ∀ x f, gl x = some (.fld f) → f ∈ HasT.F
  dct : ∀ x kvs, gl x = some (.dct kvs) → DctOk K w mg x kvs
  hof : ∀ x nl B, gl x = some (.hof nl B) → ∃ (r : Row) (f : Addr) (fd : FuncData) (n : Nat) (a : Str), r.x = x ∧ r.ps = [a] ∧ r.okB = true ∧ nl = r.N.length ∧ compHof n (ccHof gl ex r.N r.st) a (defBody r.st) = some B ∧ r.Bd ∧ FnP K r f fd ∧ mg x = some (.ref f) ∧
    (a == ("__debug__" : Str)) = false ∧ (a == ("__classdict__" : Str)) = false
section
variable {P : Program} {w : World} {K : PySem.W.Frag} {mg : Str → Option Value} {base : Heap} {gl : Str → Option GV} {ex lams : List Str} {tbl : Str → Option FnRec}
/-- what the names are there, for one who may call so deep -/
theorem gok_ {rows : List Row} (G : GlbL rows lams w K mg base gl ex tbl) {kk : Nat} {C : Or} {X : Cx} (eP : X.prog = P) (ew : X.w = w) (eK : X.K = K) (em : X.mg = mg) (eb : X.base = base) (k2 : 2 ≤ kk) (hr : Room kk X.A)
    (fa : ∀ x g, gl x = some g → CallAt X C kk x g) : ∀ y g, gl y = some g → GOk X C y g := by
  intro y g e
  subst eP ew eK em eb
  cases g with
  | con d => exact G.con y d e
  | fn np2 =>
    obtain ⟨k2, f2, fd2, ps2, le, a1, a2, a3, a4, a5, a6⟩ := fa y _ e
    exact ⟨k2, f2, fd2, ps2, a1, a2, a3, fun _ => hr.mono le, a4, a5, a6⟩
  | cls np => exact (show ClAt X C y np fun k => k ≤ kk from fa y _ e).mono fun k le _ => hr.mono le
  | mth c m np => exact (show MtAt X C c m np fun k => k ≤ kk from fa y _ e).mono fun k le _ => hr.mono le
  | fld f => exact G.fld y f e
  | dct kvs => exact G.dct y kvs e
  | fnT np => exact (show FnAt1 X C y np fun k => k ≤ kk from fa y _ e).mono fun k le _ => hr.mono le
  | fvs l => exact G.fvs y l e
  | xcs l => exact G.xcs y l e
  | blt => exact G.blt y e
  | hof nl B => trivial
  | exc b =>
    cases b with
    | false =>
      obtain ⟨Ca, m, o⟩ := G.exc0 y e
      exact ⟨Ca, m, o⟩
    | true =>
      obtain ⟨Ca, m, ⟨fI, fd, i1, i2, i3, i4⟩, o⟩ := G.exc1 y e
      exact ⟨Ca, m, ⟨fI, fd, i1, i2, i3, fun _ => hr.mono (by omega), i4 X.prog X.w X.base⟩, o⟩
/-- a def that tries what it gets, seen from a def with lambdas -/
theorem hof_of {rows : List Row} (G : GlbL rows lams w K mg base gl ex tbl) {k : Nat} {C : Or} {X : Cx} (eP : X.prog = P) (ew : X.w = w) (eK : X.K = K) (em : X.mg = mg) (eb : X.base = base) (k2 : 2 ≤ k) (hr : Room (k + 2) X.A)
    (fa : ∀ x g, gl x = some g → CallAt X C k x g) {c Pt : Addr} (TB : LamX.TabB base mg c Pt) (hc : X.env.code = .ref c) (hT : (Pt, X.env.qual ++ "<lambda>") ∈ HasT.T) (hu : ∀ p ∈ HasT.T, p.1 = Pt → p.2 = X.env.qual ++ "<lambda>") :
    ∀ x nl B, gl x = some (.hof nl B) → HofOk X C x nl B := by
  intro x nl B e
  obtain ⟨r, f, fd, n, a, rfl, hps, ok, hnl, ec, bd, F, hm, d1, d2⟩ := G.hof x nl B e
  obtain ⟨sc, l1, l2⟩ := Row.scope ok
  have bs : Binds K fd r.ps [] := F.bindsN bd
  have kp := F.kp
  obtain ⟨oc, od, dV, kV, doc, pm, an, cdv, ct, osl, rfl, lk, hcd, _, _⟩ := F.ex
  rw [hps] at sc bs
  have hpre := sc.pre
  have hN0 : r.N[0]? = some a := by
    cases hN : r.N with
    | nil => rw [hN] at hpre; cases hpre
    | cons z zs => rw [hN] at hpre; cases hpre; rfl
  have h0 : 0 < r.N.length := (List.getElem?_eq_some_iff.mp hN0).1
  subst eP ew eK em eb
  refine ⟨a, f, c, Pt, defArgs r.st, defBody r.st, defScope r.st, dV, kV, doc, pm, cdv, ct, oc, an, od, osl, r.N, hnl, hm, kp, lk, hcd, bs, sc, hN0, ?_, fun q => ?_, TB, hc, hT, hu, d1, d2⟩
  · rcases sc.par a (by simp) with z | z
    · exact .inl z
    · exact .inr (.inl z)
  · refine gives_ h0 fun f' c' s H tl th P' act hP => ?_
    have hr1 : Room k (cxOf C8.CX0 X.prog X.w X.K X.mg X.base r.N r.x (defScope r.st) f cdv X.A X.stack s H C8.E0).nox.A := (hr.mono (show k + 1 ≤ k + 2 by omega)).deeper _
    have S : SdS (cxOf C8.CX0 X.prog X.w X.K X.mg X.base r.N r.x (defScope r.st) f cdv X.A X.stack s H C8.E0).nox W0 C (ccHof gl ex r.N r.st) := by
      refine ⟨⟨rfl, sc.nd, rfl, rfl, fun z => absurd z Bool.false_ne_true, takes0, units70 hr1, gok_ G rfl rfl rfl rfl rfl k2 hr1 fa, G.kn, fun z => absurd z Bool.false_ne_true⟩, fun z => absurd z Bool.false_ne_true, sc.kind, rfl, rfl⟩
    exact compHof_ok S S ec rfl (fun W pn xe E p1 p2 tk hW => act W pn xe E p1 p2 tk hW) hP
/-- what may be called so deep -/
def CallK (P : Program) (w : World) (K : PySem.W.Frag) (mg : Str → Option Value) (base : Heap) (gl : Str → Option GV) (C : Or) (kk : Nat) : Prop :=
  ∀ X : Cx, X.prog = P → X.w = w → X.K = K → X.mg = mg → X.base = base → ∀ y g, gl y = some g → CallAt X C kk y g
theorem callK_len {r : Row} (et : tbl r.x = some r.fr) (l1 : r.ps.length = r.fr.np) : ∀ (k : Nat) (ds : List D) (h : Hv), ds.length ≠ r.ps.length → callK tbl k r.x ds h = .stuck := by
  intro k ds h hd
  cases k with
  | zero => rfl
  | succ k =>
    show (match tbl r.x with
      | some r => runFn r (callK tbl k) ds h
      | none => .stuck) = _
    rw [et]
    show runFn r.fr (callK tbl k) ds h = _
    unfold runFn
    rw [if_neg (by rw [← l1]; exact hd)]
/-- one row, one level deeper -/
theorem row_ok {rows : List Row} (G : GlbL rows lams w K mg base gl ex tbl) {nm : Str} {r : Row} {f : Addr} {fd : FuncData} {n : Nat} (F : FunD K nm r.x (defArgs r.st) (defBody r.st) (defScope r.st) [] [] f fd) (ok : r.okB = true) (et : tbl r.x = some r.fr) {lam : Bool} (ec : compFnL n gl ex r.N r.st lam = r.fr.body)
    (tb : lam = true → ∀ (dV kV doc pm : Value) (an : Option Addr) (cdv ct : Value), fd = PySem.W.fnOf nm r.x (defArgs r.st) (defBody r.st) (defScope r.st) dV kV doc pm an cdv ct → ∃ c P, cdv = .ref c ∧ LamX.TabB base mg c P ∧ (P, r.x ++ ".<locals>." ++ "<lambda>") ∈ HasT.T ∧ ∀ p ∈ HasT.T, p.1 = P → p.2 = r.x ++ ".<locals>." ++ "<lambda>")
    (k : Nat) (fa : CallK P w K mg base gl (callK tbl k) (4 * k + 3)) : FnOk P w K mg base (L2.CX P w) (4 * (k + 1) + 2) f fd r.ps (spOf K mg r.ps.length (callK tbl (k + 1) r.x)) := by
  obtain ⟨sc, l1, l2⟩ := Row.scope ok
  obtain ⟨oc, od, dV, kV, doc, pm, an, cdv, ct, osl, rfl, lk, hcd, _, _⟩ := F.ex
  have e3 : 4 * (k + 1) + 2 = (4 * k + 5) + 1 := by omega
  rw [e3]
  refine fn_of lk hcd sc (fun vs H Q E h => h.1) (fun A outer s H vs Q E hr h => ?_)
  obtain ⟨hlen, L, h0, ds, hrl, rs, hp⟩ := h
  let X : Cx := cxOf (L2.CX P w) P w K mg base r.N r.x (defScope r.st) f cdv A outer s H E
  have tk : Takes X (fun cls d _ H => E cls d H) := takes_of rfl rfl rfl rfl
  have fX : ∀ y g, gl y = some g → CallAt X (callK tbl k) (4 * k + 3) y g := fa X rfl rfl rfl rfl rfl
  have hr4 : Room (4 * k + 3 + 2) X.A := hr
  have S : SdS X (fun cls d _ H => E cls d H) (callK tbl k) { N := r.N, sc := defScope r.st, fn := fun _ => true, gl := gl, calm := true, ex := ex, lam := lam } := by
    refine ⟨⟨rfl, sc.nd, rfl, rfl, fun _ => rfl, tk, units70 hr, gok_ (kk := 4 * k + 3) G rfl rfl rfl rfl rfl (by omega) (hr4.mono (by omega)) fX, G.kn, fun z => ?_⟩, fun _ => passes_of rfl, sc.kind, rfl, rfl⟩
    obtain ⟨c, Pt, rfl, TB, hT, hu⟩ := tb z dV kV doc pm an cdv ct rfl
    exact ⟨4 * k + 3, hr4, fX, by omega, hof_of (k := 4 * k + 3) G rfl rfl rfl rfl rfl (by omega) hr4 fX TB rfl hT hu⟩
  have B := compSs0_ok (n := n) S (defBody r.st)
  rw [show compSs0 n { N := r.N, sc := defScope r.st, fn := fun _ => true, gl := gl, calm := true, ex := ex, lam := lam } (defBody r.st) = r.fr.body from ec] at B
  refine ⟨_, B, L, h0, ds.map some ++ List.replicate (r.fr.nl - r.fr.np) none, hrl, ?_, ?_⟩
  · rw [← l2]
    have le : r.fr.np ≤ r.N.length := by
      rw [← l1]
      have z := congrArg List.length sc.pre
      rw [List.length_take] at z
      omega
    exact start_rel rs (by rw [rs.len, hlen, l1]) le
  · have hp2 : pR K mg L H (fun cv dx _ H' => E cv dx H') [] Q (runFn r.fr (callK tbl k) ds h0) := by
      have z : callK tbl (k + 1) r.x ds h0 = runFn r.fr (callK tbl k) ds h0 := by
        show (match tbl r.x with
          | some r => runFn r (callK tbl k) ds h0
          | none => .stuck) = _
        rw [et]
      rw [← z]
      exact hp
    unfold runFn at hp2
    rw [if_pos (by rw [rs.len, hlen, l1])] at hp2
    cases q : r.fr.body (callK tbl k) (ds.map some ++ List.replicate (r.fr.nl - r.fr.np) none) h0 with
    | nx env h1 =>
      rw [q] at hp2
      exact fun L' H' σ' le kp hr1 _ => gc_ok hrl hp2 L' H' .non le kp hr1 .non
    | rt d h1 =>
      rw [q] at hp2
      exact fun L' H' v le kp hr1 rl => gc_ok hrl hp2 L' H' v le kp hr1 rl
    | exc c d env h1 =>
      rw [q] at hp2
      exact fun L' H' σ' cv dx le kp hr1 _ ex => hp2 L' H' cv dx le kp hr1 ex
    | bk env h1 => rw [q] at hp2; exact hp2.elim
    | ct env h1 => rw [q] at hp2; exact hp2.elim
    | stuck => rw [q] at hp2; exact hp2.elim
/-- .. with a token out -/
theorem row_ok1 {rows : List Row} (G : GlbL rows lams w K mg base gl ex tbl) {nm : Str} {r : Row} {f : Addr} {fd : FuncData} {n : Nat} (F : FunD K nm r.x (defArgs r.st) (defBody r.st) (defScope r.st) [] [] f fd) (ok : r.okB = true) (et : tbl r.x = some r.fr) (ec : compFnT n gl ex r.N r.st = r.fr.body)
    (k : Nat) (fa : CallK P w K mg base gl (callK tbl k) (4 * k + 3)) : FnOk1 P w K mg base (L2.CX P w) (4 * (k + 1) + 2) f fd r.ps (spOf K mg r.ps.length (callK tbl (k + 1) r.x)) := by
  obtain ⟨sc, l1, l2⟩ := Row.scope ok
  obtain ⟨oc, od, dV, kV, doc, pm, an, cdv, ct, osl, rfl, lk, hcd, _, _⟩ := F.ex
  have e3 : 4 * (k + 1) + 2 = (4 * k + 5) + 1 := by omega
  rw [e3]
  refine fn_of1 lk hcd sc (fun vs H Q E h => h.1) (fun A outer s H vs Q E hr h => ?_)
  obtain ⟨hlen, L, h0, ds, hrl, rs, hp⟩ := h
  let X : Cx := cxOf (L2.CX P w) P w K mg base r.N r.x (defScope r.st) f cdv A outer s H E
  have tk : Takes X (fun cls d _ H => E cls d H) := takes_of rfl rfl rfl rfl
  have fX : ∀ y g, gl y = some g → CallAt X (callK tbl k) (4 * k + 3) y g := fa X rfl rfl rfl rfl rfl
  have hr4 : Room (4 * k + 3 + 2) X.A := hr
  have S : SdS X (fun cls d _ H => E cls d H) (callK tbl k) { N := r.N, sc := defScope r.st, fn := fun _ => true, gl := gl, calm := true, ex := ex, lam := false } := by
    refine ⟨⟨rfl, sc.nd, rfl, rfl, fun _ => rfl, tk, units70 hr, gok_ (kk := 4 * k + 3) G rfl rfl rfl rfl rfl (by omega) (hr4.mono (by omega)) fX, G.kn, fun z => absurd z Bool.false_ne_true⟩, fun _ => passes_of rfl, sc.kind, rfl, rfl⟩
  have B := compSsT_ok S (compST_ok S n) (defBody r.st)
  rw [show compSs (compST n { N := r.N, sc := defScope r.st, fn := fun _ => true, gl := gl, calm := true, ex := ex, lam := false }) (defBody r.st) = r.fr.body from ec] at B
  refine ⟨_, B, L, h0, ds.map some ++ List.replicate (r.fr.nl - r.fr.np) none, hrl, ?_, ?_⟩
  · rw [← l2]
    have le : r.fr.np ≤ r.N.length := by
      rw [← l1]
      have z := congrArg List.length sc.pre
      rw [List.length_take] at z
      omega
    exact start_rel rs (by rw [rs.len, hlen, l1]) le
  · have hp2 : pR K mg L H (fun cv dx _ H' => E cv dx H') [] Q (runFn r.fr (callK tbl k) ds h0) := by
      have z : callK tbl (k + 1) r.x ds h0 = runFn r.fr (callK tbl k) ds h0 := by
        show (match tbl r.x with
          | some r => runFn r (callK tbl k) ds h0
          | none => .stuck) = _
        rw [et]
      rw [← z]
      exact hp
    unfold runFn at hp2
    rw [if_pos (by rw [rs.len, hlen, l1])] at hp2
    cases q : r.fr.body (callK tbl k) (ds.map some ++ List.replicate (r.fr.nl - r.fr.np) none) h0 with
    | nx env h1 =>
      rw [q] at hp2
      exact fun L' H' σ' le kp hr1 _ => gc_ok hrl hp2 L' H' .non le kp hr1 .non
    | rt d h1 =>
      rw [q] at hp2
      exact fun L' H' v le kp hr1 rl => gc_ok hrl hp2 L' H' v le kp hr1 rl
    | exc c d env h1 =>
      rw [q] at hp2
      exact fun L' H' σ' cv dx le kp hr1 _ ex => hp2 L' H' cv dx le kp hr1 ex
    | bk env h1 => rw [q] at hp2; exact hp2.elim
    | ct env h1 => rw [q] at hp2; exact hp2.elim
    | stuck => rw [q] at hp2; exact hp2.elim
/-- at the lowest level nothing is told -/
theorem row_zero {f : Addr} {fd : FuncData} {ps : List Str} {x : Str} {n : Nat} : FnOk P w K mg base (L2.CX P w) n f fd ps (spOf K mg ps.length (callK tbl 0 x)) :=
  ⟨fun vs H Q E h => h.1, fun A outer s H args us vs Q E _ _ _ _ h => by
    obtain ⟨_, L, h0, ds, _, _, z⟩ := h
    exact z.elim⟩
theorem row_zero1 {f : Addr} {fd : FuncData} {ps : List Str} {x : Str} {n : Nat} : FnOk1 P w K mg base (L2.CX P w) n f fd ps (spOf K mg ps.length (callK tbl 0 x)) :=
  ⟨fun vs H Q E h => h.1, fun A outer s H args us vs Q E _ _ _ _ _ h => by
    obtain ⟨_, L, h0, ds, _, _, z⟩ := h
    exact z.elim⟩
theorem calls_ok {rows : List Row} (G : GlbL rows lams w K mg base gl ex tbl) : ∀ k : Nat, CallK P w K mg base gl (callK tbl k) (4 * k + 3) := by
  -- what a row does at a level, from what is told one level lower
  have lev : ∀ (k : Nat), (∀ j, k = j + 1 → CallK P w K mg base gl (callK tbl j) (4 * j + 3)) → ∀ {nm : Str} {r : Row} {f : Addr} {fd : FuncData} {n : Nat}, FunD K nm r.x (defArgs r.st) (defBody r.st) (defScope r.st) [] [] f fd → r.okB = true → tbl r.x = some r.fr → ∀ {lam : Bool}, compFnL n gl ex r.N r.st lam = r.fr.body →
      (lam = true → ∀ (dV kV doc pm : Value) (an : Option Addr) (cdv ct : Value), fd = PySem.W.fnOf nm r.x (defArgs r.st) (defBody r.st) (defScope r.st) dV kV doc pm an cdv ct → ∃ c P, cdv = .ref c ∧ LamX.TabB base mg c P ∧ (P, r.x ++ ".<locals>." ++ "<lambda>") ∈ HasT.T ∧ ∀ p ∈ HasT.T, p.1 = P → p.2 = r.x ++ ".<locals>." ++ "<lambda>") →
      FnOk P w K mg base (L2.CX P w) (4 * k + 2) f fd r.ps (spOf K mg r.ps.length (callK tbl k r.x)) := by
    intro k il nm r f fd n F ok et lam ec tb
    cases k with
    | zero => exact row_zero
    | succ k => exact row_ok G F ok et ec tb k (il k rfl)
  have main : ∀ (k : Nat), (∀ j, k = j + 1 → CallK P w K mg base gl (callK tbl j) (4 * j + 3)) → CallK P w K mg base gl (callK tbl k) (4 * k + 3) := by
    intro k il X eP ew eK em eb y g e
    subst eP ew eK em eb
    cases g with
    | fn np =>
      obtain ⟨r, f, fd, n, mr, rfl, hnp, ok, et, ec, bd, F, em, tb⟩ := G.fns y np e
      exact ⟨4 * k + 2, f, fd, r.ps, by omega, hnp, lev k il F ok et ec (fun z => tb (of_decide_eq_true z)), callK_len et (Row.scope ok).2.1 k, em, F.kp, F.bindsN bd⟩
    | cls np =>
      obtain ⟨q, f, fd, n, hx, hnp, ok, et, ec, bd, F, em, M, cl, na⟩ := G.cls y np e
      have := lev k il F ok et ec (fun z => absurd z Bool.false_ne_true)
      have l := callK_len et (Row.scope ok).2.1 k
      rw [hx] at this l
      exact ⟨4 * k + 2, f, fd, q.r.ps, by omega, hnp, this, l, em, M, cl, na, F.bindsN bd⟩
    | mth c m np =>
      obtain ⟨q, f, fd, n, hx, hnp, ok, et, ec, bd, F, M, cl⟩ := G.mth y c m np e
      have := lev k il F ok et ec (fun z => absurd z Bool.false_ne_true)
      have l := callK_len et (Row.scope ok).2.1 k
      rw [hx] at this l
      exact ⟨4 * k + 2, f, fd, q.r.ps, by omega, hnp, this, l, M, cl, F.bindsN bd⟩
    | fnT np =>
      obtain ⟨r, f, fd, n, rfl, hnp, ok, et, ec, bd, F, em⟩ := G.fnsT y np e
      refine ⟨4 * k + 2, f, fd, r.ps, by omega, hnp, ?_, callK_len et (Row.scope ok).2.1 k, em, F.kp, F.bindsN bd⟩
      cases k with
      | zero => exact row_zero1
      | succ k => exact row_ok1 G F ok et ec k (il k rfl)
    | _ => trivial
  intro k
  induction k with
  | zero => exact main 0 fun j e => by omega
  | succ k ih => exact main (k + 1) fun j e => by cases e; exact ih
/-- each def does what its row says -/
theorem fnsL_ok {rows : List Row} (G : GlbL rows lams w K mg base gl ex tbl) (k : Nat) (x : Str) (np : Nat) (hx : gl x = some (.fn np)) : ∃ f fd ps, ps.length = np ∧ FnOk P w K mg base (L2.CX P w) (4 * k + 2) f fd ps (spOf K mg ps.length (callK tbl k x)) ∧ (∀ ds h, ds.length ≠ ps.length → callK tbl k x ds h = .stuck) ∧
    mg x = some (.ref f) ∧ PySem.W.keepIn K (.ref f) = true ∧ Binds K fd ps [] ∧ ∃ r ∈ rows, r.x = x ∧ r.ps = ps ∧ r.Bd ∧ FnP K r f fd := by
  obtain ⟨r, f, fd, n, mr, rfl, hnp, ok, et, ec, bd, F, em, tb⟩ := G.fns x np hx
  refine ⟨f, fd, r.ps, hnp, ?_, callK_len et (Row.scope ok).2.1 k, em, F.kp, F.bindsN bd, r, mr, rfl, rfl, bd, F⟩
  cases k with
  | zero => exact row_zero
  | succ k => exact row_ok G F ok et ec (fun z => tb (of_decide_eq_true z)) k (calls_ok G k)
end
end VM

set_option maxRecDepth 100000
set_option maxHeartbeats 1000000
namespace VM
open PySem PySem.Spec PyProof.Rows L2
/-! the end of a law with lambdas -/
theorem sayT_ok {lams : List Str} {K : PySem.W.Frag} (h : sayT lams K = true) : ∀ x ∈ lams, ∃ q, PySem.W.tabIn K x = some q ∧ K.lookup q.2 = none ∧ ∀ y ∈ lams, ∃ q', PySem.W.tabIn K y = some q' ∧ (q'.2 = q.2 → x = y) := fun x hx => by
  have z := List.all_eq_true.mp h x hx
  split at z
  · rename_i q eq
    obtain ⟨z1, z2⟩ := and2 z
    refine ⟨q, eq, by simpa using z1, fun y hy => ?_⟩
    have w := List.all_eq_true.mp z2 y hy
    split at w
    · rename_i q' eq'
      refine ⟨q', eq', fun e => ?_⟩
      rw [e] at w
      simpa using w
    · cases w
  · cases z
/-- the tables of these defs, by the lambdas' name -/
def tabT (lams : List Str) (K : PySem.W.Frag) : List (Addr × Str) := lams.filterMap fun x => (PySem.W.tabIn K x).map fun q => (q.2, x ++ ".<locals>." ++ "<lambda>")
def glOfL (os : List (Str × GV)) (hofs : List (Str × (Nat × (EF → SF)))) (names : List (Str × Nat)) (cons : List (Str × CV)) (blts ex0 ex1 : List Str) (x : Str) : Option GV := match hofs.lookup x with
  | some q => some (.hof q.1 q.2)
  | none => (match os.lookup x with
    | some g => some g
    | none => glOf names cons blts ex0 ex1 x)
/-- classes, methods and fields are those of the rows -/
def osB (names : List (Str × Nat)) (ms : List MRow) (fs : List Str) (os : List (Str × GV)) : Bool := os.all fun p => match p.2 with
  | .cls np => ms.any fun q => decide (q.c = p.1 ∧ q.m = "__init__" ∧ q.r.ps.length = np ∧ q.r.x = p.1 ++ ".__init__")
  | .mth c m np => ms.any fun q => decide (q.c = c ∧ q.m = m ∧ q.m ≠ "__init__" ∧ q.r.ps.length = np ∧ q.r.x = c ++ "." ++ m)
  | .fld f => fs.contains f
  | .fnT np => decide (names.lookup p.1 = some np)
  | .fvs l => l.all fun y => (names.map (·.1)).contains y
  | .xcs l => fs.contains "!" && l.all fun y => fs.contains y && !(y == "!")
  | _ => false
def MsOk (gl : Str → Option GV) (ex : List Str) (tbl : Str → Option FnRec) : List MRow → Prop
  | [] => True
  | q :: qs => (q.r.okB = true ∧ compFnL 60 gl ex q.r.N q.r.st false = q.r.fr.body ∧ q.Bd ∧ tbl q.r.x = some q.r.fr) ∧ MsOk gl ex tbl qs
theorem MsOk.mem {gl : Str → Option GV} {ex : List Str} {tbl : Str → Option FnRec} : ∀ {qs : List MRow}, MsOk gl ex tbl qs → ∀ q ∈ qs, q.r.okB = true ∧ compFnL 60 gl ex q.r.N q.r.st false = q.r.fr.body ∧ q.Bd ∧ tbl q.r.x = some q.r.fr
  | r :: rs, h, q, m => by
    rcases List.mem_cons.mp m with rfl | m
    · exact h.1
    · exact h.2.mem q m
def compRow (n : Nat) (gl : Str → Option GV) (ex : List Str) (N : List Str) (st : Stmt) (lam : Bool) (x : Str) : SF := match gl x with
  | some (.fnT _) => compFnT n gl ex N st
  | _ => compFnL n gl ex N st lam
def RowsOkL (gl : Str → Option GV) (ex lams : List Str) : List Row → Prop
  | [] => True
  | r :: rs => (r.okB = true ∧ compRow 60 gl ex r.N r.st (decide (r.x ∈ lams)) r.x = r.fr.body ∧ r.Bd) ∧ RowsOkL gl ex lams rs
theorem RowsOkL.mem {gl : Str → Option GV} {ex lams : List Str} : ∀ {rows : List Row}, RowsOkL gl ex lams rows → ∀ r ∈ rows, r.okB = true ∧ compRow 60 gl ex r.N r.st (decide (r.x ∈ lams)) r.x = r.fr.body ∧ r.Bd
  | r :: rs, h, q, m => by
    rcases List.mem_cons.mp m with rfl | m
    · exact h.1
    · exact h.2.mem q m
def HofsOk (gl : Str → Option GV) (ex : List Str) : List HRow → Prop
  | [] => True
  | q :: qs => (q.r.okB = true ∧ q.r.ps = [q.a] ∧ compHof 60 (ccHof gl ex q.r.N q.r.st) q.a (defBody q.r.st) = some q.B ∧ q.r.Bd ∧ (q.a == ("__debug__" : Str)) = false ∧ (q.a == ("__classdict__" : Str)) = false) ∧ HofsOk gl ex qs
theorem HofsOk.mem {gl : Str → Option GV} {ex : List Str} : ∀ {qs : List HRow}, HofsOk gl ex qs → ∀ q ∈ qs, q.r.okB = true ∧ q.r.ps = [q.a] ∧ compHof 60 (ccHof gl ex q.r.N q.r.st) q.a (defBody q.r.st) = some q.B ∧ q.r.Bd ∧ (q.a == ("__debug__" : Str)) = false ∧ (q.a == ("__classdict__" : Str)) = false
  | r :: rs, h, q, m => by
    rcases List.mem_cons.mp m with rfl | m
    · exact h.1
    · exact h.2.mem q m
def hofsOf (qs : List HRow) : List (Str × (Nat × (EF → SF))) := qs.map fun q => (q.r.x, (q.r.N.length, q.B))
theorem xvB_ok [HasT] {K : PySem.W.Frag} {mg : Str → Option Value} {h : Heap} {l : List Str} (e : xvB K l = true) (X : K.In h) (G : h.Ns mainGlobals mg) (hC : HasT.C = He.ga K) : XcOk K mg l := by
  obtain ⟨h1, e⟩ := and2 e
  obtain ⟨h2, e⟩ := and2 e
  obtain ⟨h3, e⟩ := and2 e
  obtain ⟨h4, e⟩ := and2 e
  obtain ⟨h5, h6⟩ := and2 e
  have one : ∀ x ∈ l, _ := fun x hx => List.all_eq_true.mp h5 x hx
  have parts : ∀ x ∈ l, mg x = some (.ref (HasT.C x)) ∧ ExcC K (HasT.C x) ∧ (XfC K (HasT.C x) ∧ PySem.W.findIn K (.ref (HasT.C x)) "at" = some none) ∧ PySem.W.kitOne K (.ref (HasT.C x)) (.ref (HasT.C "TrailError")) = some true ∧ PySem.W.kitOne K (.ref (HasT.C x)) (.type "ValueError") = some true := fun x hx => by
    have q := one x hx
    unfold xv1 at q
    obtain ⟨k1, q⟩ := and2 q
    obtain ⟨k2, q⟩ := and2 q
    obtain ⟨k3, q⟩ := and2 q
    obtain ⟨k4, q⟩ := and2 q
    obtain ⟨k5, q⟩ := and2 q
    obtain ⟨k6, q⟩ := and2 q
    obtain ⟨k7, q⟩ := and2 q
    obtain ⟨k8, q⟩ := and2 q
    obtain ⟨k9, k10⟩ := and2 q
    rw [hC]
    exact ⟨He.glo_ok X G k1, ⟨of_decide_eq_true k2, of_decide_eq_true k3, of_decide_eq_true k4, k5, of_decide_eq_true k6, of_decide_eq_true h3, of_decide_eq_true h4, of_decide_eq_true k7⟩, ⟨⟨of_decide_eq_true k2, of_decide_eq_true k3, of_decide_eq_true k4, k5⟩, of_decide_eq_true k8⟩, of_decide_eq_true k9, of_decide_eq_true k10⟩
  refine ⟨fun x hx => ⟨(parts x hx).1, (parts x hx).2.1⟩, by rw [hC]; exact He.glo_ok X G h1, He.free_ok X G h2, fun x hx y hy => ?_, fun x hx => (parts x hx).2.2.2.1, fun x hx => (parts x hx).2.2.2.2, fun x hx => (parts x hx).2.2.1⟩
  rw [hC]
  exact of_decide_eq_true (List.all_eq_true.mp (List.all_eq_true.mp h6 x hx) y hy)
theorem XcOk.sub [HasT] {K : PySem.W.Frag} {mg : Str → Option Value} {l l' : List Str} (o : XcOk K mg l) (s : ∀ y ∈ l', y ∈ l) : XcOk K mg l' :=
  ⟨fun x hx => o.cl x (s x hx), o.te, o.ve, fun x hx y hy => o.ii x (s x hx) y (s y hy), fun x hx => o.it x (s x hx), fun x hx => o.iv x (s x hx), fun x hx => o.xf x (s x hx)⟩
section
variable [HasT] {z : Facts0} {w : World} {K : PySem.W.Frag} {mg : Str → Option Value} {h base : Heap} {lams : List Str}
theorem glbL_of (c : SaysV z w K) (X : K.In h) (G : h.Ns mainGlobals mg) {fr : List Row} {hs : List HRow} {os : List (Str × GV)} (hz : z.rows = fr ++ hs.map (·.r)) {names : List (Str × Nat)} (en : fr.map (fun r => (r.x, r.ps.length)) = names)
    (ok : RowsOkL (glOfL os (hofsOf hs) names z.cons z.blts z.ex0 (z.ini.map IniD.cls)) z.ex lams fr) (okH : HofsOk (glOfL os (hofsOf hs) names z.cons z.blts z.ex0 (z.ini.map IniD.cls)) z.ex hs) (oi : ∀ d ∈ z.ini, d.okB = true ∧ d.Bd) (om : MsOk (glOfL os (hofsOf hs) names z.cons z.blts z.ex0 (z.ini.map IniD.cls)) z.ex (tblOf ((fr ++ z.ms.map (·.r)).map fun r => (r.x, r.fr))) z.ms) (ob : osB names z.ms z.fs os = true) (hC : HasT.C = He.ga K) (hF : HasT.F = z.fs)
    (tb : ∀ x ∈ lams, ∃ c P, PySem.W.tabIn K x = some (c, P) ∧ LamX.TabB base mg c P ∧ (P, x ++ ".<locals>." ++ "<lambda>") ∈ HasT.T ∧ ∀ p ∈ HasT.T, p.1 = P → p.2 = x ++ ".<locals>." ++ "<lambda>") :
    GlbL fr lams w K mg base (glOfL os (hofsOf hs) names z.cons z.blts z.ex0 (z.ini.map IniD.cls)) z.ex (tblOf ((fr ++ z.ms.map (·.r)).map fun r => (r.x, r.fr))) := by
  have cut : ∀ {x : Str} {g : GV}, glOfL os (hofsOf hs) names z.cons z.blts z.ex0 (z.ini.map IniD.cls) x = some g → (∃ q, g = .hof q.1 q.2 ∧ (hofsOf hs).lookup x = some q) ∨ (g.isC = true ∧ (x, g) ∈ os) ∨ glOf names z.cons z.blts z.ex0 (z.ini.map IniD.cls) x = some g := by
    intro x g e
    unfold glOfL at e
    split at e
    · rename_i q e1
      cases e
      exact .inl ⟨q, rfl, e1⟩
    · split at e
      · rename_i g' e1
        cases e
        have m := lookup_mem e1
        have z := List.all_eq_true.mp ob _ m
        refine .inr (.inl ⟨?_, m⟩)
        cases g <;> first | rfl | cases z
      · exact .inr (.inr e)
  have find : ∀ {x : Str} {np : Nat} (l : List Row), (l.map fun r => (r.x, r.ps.length)).lookup x = some np → ∃ r ∈ l, r.x = x ∧ r.ps.length = np ∧ ((l ++ z.ms.map (·.r)).map fun r => (r.x, r.fr)).lookup x = some r.fr := by
    intro x np l
    induction l with
    | nil => intro h; cases h
    | cons r l il =>
      intro h
      rw [List.map_cons, List.lookup_cons] at h
      split at h
      · rename_i e9
        have h8 := Option.some.inj h
        have ex := beq_iff_eq.mp e9
        refine ⟨r, List.mem_cons_self .., ex.symm, h8, ?_⟩
        rw [List.cons_append, List.map_cons, List.lookup_cons, e9]
      · rename_i e9
        obtain ⟨q, m, h1, h2, h3⟩ := il h
        refine ⟨q, List.mem_cons_of_mem _ m, h1, h2, ?_⟩
        rw [List.cons_append, List.map_cons, List.lookup_cons, e9]
        exact h3
  refine ⟨fun x np e0 => ?_, fun x np e0 => ?_, fun x l e y hy => ?_, fun x l e => ?_, fun x d e => ?_, fun x e => ?_, fun x e => ?_, fun x e => ?_, ?_, fun x np e => ?_, fun x c' m np e => ?_, fun x f e => ?_, fun x kvs e => ?_, fun x nl B e => ?_⟩
  · rcases cut e0 with ⟨q, w, _⟩ | ⟨w, _⟩ | e
    · cases w
    · cases w
    rcases gl_cases e with ⟨q, _⟩ | ⟨np', q, e1⟩ | ⟨_, q, _⟩ | ⟨_, q, _⟩ | ⟨q, _⟩ | ⟨q, _⟩ <;> first | (cases q; done) | skip
    cases q
    rw [← en] at e1
    obtain ⟨r, m, h1, h2, h3⟩ := find fr e1
    obtain ⟨o1, o2, o3⟩ := ok.mem r m
    obtain ⟨fd, F, em⟩ := c.row (show r ∈ z.rows by rw [hz]; exact List.mem_append_left _ m) X G
    have o2 : compFnL 60 (glOfL os (hofsOf hs) names z.cons z.blts z.ex0 (z.ini.map IniD.cls)) z.ex r.N r.st (decide (r.x ∈ lams)) = r.fr.body := by
      unfold compRow at o2
      rw [h1, e0] at o2
      rw [h1]
      exact o2
    rw [← h1]
    refine ⟨r, _, fd, 60, m, rfl, h2, o1, by rw [h1]; exact h3, o2, o3, F, em, fun hl dV kV doc pm an cdv ct efd => ?_⟩
    obtain ⟨cc, P, t1, t2, t3, t4⟩ := tb r.x hl
    obtain ⟨oc, od, _, _, _, _, _, _, _, osl, _, lk, _⟩ := F.ex
    have ho := X _ _ lk
    have hcd := PySem.W.law_code X G t1 em ho rfl
    refine ⟨cc, P, ?_, t2, t3, t4⟩
    rw [efd] at hcd
    exact hcd
  · rcases cut e0 with ⟨q, w, _⟩ | ⟨_, m⟩ | e
    · cases w
    · have z1 : decide (names.lookup x = some np) = true := List.all_eq_true.mp ob _ m
      have e1 := of_decide_eq_true z1
      rw [← en] at e1
      obtain ⟨r, m, h1, h2, h3⟩ := find fr e1
      obtain ⟨o1, o2, o3⟩ := ok.mem r m
      obtain ⟨fd, F, em⟩ := c.row (show r ∈ z.rows by rw [hz]; exact List.mem_append_left _ m) X G
      unfold compRow at o2
      rw [h1, e0] at o2
      refine ⟨r, _, fd, 60, h1, h2, o1, h3, o2, o3, F, by rw [← h1]; exact em⟩
    · rcases gl_cases e with ⟨q, _⟩ | ⟨_, q, _⟩ | ⟨_, q, _⟩ | ⟨_, q, _⟩ | ⟨q, _⟩ | ⟨q, _⟩ <;> cases q
  · rcases cut e with ⟨q, w, _⟩ | ⟨_, m⟩ | e
    · cases w
    · have z1 : (l.all fun y => (names.map (·.1)).contains y) = true := List.all_eq_true.mp ob _ m
      have z2 := List.contains_iff_mem.mp (List.all_eq_true.mp z1 y hy)
      rw [← en, List.map_map] at z2
      obtain ⟨r, mr, er⟩ := List.mem_map.mp z2
      obtain ⟨fd, F, em⟩ := c.row (show r ∈ z.rows by rw [hz]; exact List.mem_append_left _ mr) X G
      have er : r.x = y := er
      rw [← er, hC]
      exact em
    · rcases gl_cases e with ⟨q, _⟩ | ⟨_, q, _⟩ | ⟨_, q, _⟩ | ⟨_, q, _⟩ | ⟨q, _⟩ | ⟨q, _⟩ <;> cases q
  · rcases cut e with ⟨q, w, _⟩ | ⟨_, m⟩ | e
    · cases w
    · have z1 : (z.fs.contains "!" && l.all fun y => z.fs.contains y && !(y == ("!" : Str))) = true := List.all_eq_true.mp ob _ m
      obtain ⟨z1, z2⟩ := and2 z1
      have xv := c.parts.2.2.2.2.2.2.2
      rw [z1] at xv
      have xv : xvB K (z.fs.filter fun y => !(y == ("!" : Str))) = true := xv
      have sub : ∀ y ∈ l, y ∈ z.fs.filter fun y => !(y == ("!" : Str)) := fun y hy => by
        obtain ⟨a, b⟩ := and2 (List.all_eq_true.mp z2 y hy)
        exact List.mem_filter.mpr ⟨List.contains_iff_mem.mp a, b⟩
      exact (xvB_ok xv X G hC).sub sub
    · rcases gl_cases e with ⟨q, _⟩ | ⟨_, q, _⟩ | ⟨_, q, _⟩ | ⟨_, q, _⟩ | ⟨q, _⟩ | ⟨q, _⟩ <;> cases q
  · rcases cut e with ⟨q, w, _⟩ | ⟨w, _⟩ | e
    · cases w
    · cases w
    rcases gl_cases e with ⟨q, _⟩ | ⟨_, q, _⟩ | ⟨_, q, e1⟩ | ⟨_, q, _⟩ | ⟨q, _⟩ | ⟨q, _⟩ <;> first | (cases q; done) | skip
    cases q
    exact c.con (lookup_mem e1) X G
  · rcases cut e with ⟨q, w, _⟩ | ⟨w, _⟩ | e
    · cases w
    · cases w
    rcases gl_cases e with ⟨_, m⟩ | ⟨_, q, _⟩ | ⟨_, q, _⟩ | ⟨_, q, _⟩ | ⟨q, _⟩ | ⟨q, _⟩ <;> first | (cases q; done) | skip
    exact c.free m X G
  · rcases cut e with ⟨q, w, _⟩ | ⟨w, _⟩ | e
    · cases w
    · cases w
    rcases gl_cases e with ⟨q, _⟩ | ⟨_, q, _⟩ | ⟨_, q, _⟩ | ⟨_, q, _⟩ | ⟨_, m⟩ | ⟨q, _⟩ <;> first | (cases q; done) | skip
    obtain ⟨a, b⟩ := c.ex0 m X G
    exact ⟨_, a, b⟩
  · rcases cut e with ⟨q, w, _⟩ | ⟨w, _⟩ | e
    · cases w
    · cases w
    rcases gl_cases e with ⟨q, _⟩ | ⟨_, q, _⟩ | ⟨_, q, _⟩ | ⟨_, q, _⟩ | ⟨q, _⟩ | ⟨_, m⟩ <;> first | (cases q; done) | skip
    obtain ⟨d, md, rfl⟩ := List.mem_map.mp m
    obtain ⟨o1, o2⟩ := oi d md
    obtain ⟨a, b⟩ := c.ini md o1 o2 X G
    exact ⟨_, a, b⟩
  · intro x mx y my
    have at_ : ∀ x ∈ z.ex, mg x = some (.ref (He.ga K x)) := fun x m => by
      rcases List.mem_append.mp m with m | m
      · exact (c.ex0 m X G).1
      · obtain ⟨d, md, rfl⟩ := List.mem_map.mp m
        obtain ⟨o1, o2⟩ := oi d md
        exact (c.ini md o1 o2 X G).1
    exact ⟨_, _, at_ x mx, at_ y my, He.exm_ok (List.all_eq_true.mp (List.all_eq_true.mp c.parts.2.2.2.2.2.1 x mx) y my)⟩
  · rcases cut e with ⟨q, w, _⟩ | ⟨_, m⟩ | e
    · cases w
    · have z1 := List.all_eq_true.mp ob _ m
      obtain ⟨q, mq, hq⟩ := List.any_eq_true.mp z1
      obtain ⟨rfl, q2, q3, q4⟩ := of_decide_eq_true hq
      obtain ⟨o1, o2, o3, o4⟩ := om.mem q mq
      obtain ⟨fd, F, s1, s2, s3, s4, s5⟩ := c.mrow mq X G
      rw [hC, hF]
      exact ⟨q, _, fd, 60, q4, q3, o1, o4, o2, o3, F, s1, s3 q2, s2, s5⟩
    · rcases gl_cases e with ⟨q, _⟩ | ⟨_, q, _⟩ | ⟨_, q, _⟩ | ⟨_, q, _⟩ | ⟨q, _⟩ | ⟨q, _⟩ <;> cases q
  · rcases cut e with ⟨q, w, _⟩ | ⟨_, m⟩ | e
    · cases w
    · have z1 := List.all_eq_true.mp ob _ m
      obtain ⟨q, mq, hq⟩ := List.any_eq_true.mp z1
      obtain ⟨rfl, rfl, q2, q3, q4⟩ := of_decide_eq_true hq
      obtain ⟨o1, o2, o3, o4⟩ := om.mem q mq
      obtain ⟨fd, F, s1, s2, s3, s4, s5⟩ := c.mrow mq X G
      rw [hC]
      exact ⟨q, _, fd, 60, q4, q3, o1, o4, o2, o3, F, s4 q2, s2⟩
    · rcases gl_cases e with ⟨q, _⟩ | ⟨_, q, _⟩ | ⟨_, q, _⟩ | ⟨_, q, _⟩ | ⟨q, _⟩ | ⟨q, _⟩ <;> cases q
  · rcases cut e with ⟨q, w, _⟩ | ⟨_, m⟩ | e
    · cases w
    · have z1 := List.all_eq_true.mp ob _ m
      rw [hF]
      exact List.contains_iff_mem.mp z1
    · rcases gl_cases e with ⟨q, _⟩ | ⟨_, q, _⟩ | ⟨_, q, _⟩ | ⟨_, q, _⟩ | ⟨q, _⟩ | ⟨q, _⟩ <;> cases q
  · rcases cut e with ⟨q, w, _⟩ | ⟨w, _⟩ | e
    · cases w
    · cases w
    rcases gl_cases e with ⟨q, _⟩ | ⟨_, q, _⟩ | ⟨_, q, _⟩ | ⟨_, q, e1⟩ | ⟨q, _⟩ | ⟨q, _⟩ <;> first | (cases q; done) | skip
    cases q
    exact c.dct (lookup_mem e1) X G
  · rcases cut e with ⟨q, w, e1⟩ | ⟨w, _⟩ | e
    rotate_left
    · cases w
    rotate_left
    · cases w
      have e2 := lookup_mem e1
      obtain ⟨q', m, e3⟩ := List.mem_map.mp e2
      cases e3
      obtain ⟨o1, o2, o3, o4, o5, o6⟩ := okH.mem q' m
      obtain ⟨fd, F, em⟩ := c.row (show q'.r ∈ z.rows by rw [hz]; exact List.mem_append_right _ (List.mem_map.mpr ⟨q', m, rfl⟩)) X G
      exact ⟨q'.r, _, fd, 60, q'.a, rfl, o2, o1, rfl, o3, o4, F, em, o5, o6⟩
    · rcases gl_cases e with ⟨q, _⟩ | ⟨_, q, _⟩ | ⟨_, q, _⟩ | ⟨_, q, _⟩ | ⟨q, _⟩ | ⟨q, _⟩ <;> cases q
end
/-- THE END with lambdas -/
theorem law_endL {l : PySem.W.OpenLaw} {w : World} {z : Facts0} {K : PySem.W.Frag} {mg : Str → Option Value} {h : Heap} {names : List (Str × Nat)} {fa : Addr} {k : Nat} {lams : List Str} {fr : List Row} {hs : List HRow} {os : List (Str × GV)} (c : SaysV z w K) (st : sayT lams K = true) (X : K.In h) (G : h.Ns mainGlobals mg)
    (hz : z.rows = fr ++ hs.map (·.r)) (en : fr.map (fun r => (r.x, r.ps.length)) = names) (ok : RowsOkL (glOfL os (hofsOf hs) names z.cons z.blts z.ex0 (z.ini.map IniD.cls)) z.ex lams fr) (okH : HofsOk (glOfL os (hofsOf hs) names z.cons z.blts z.ex0 (z.ini.map IniD.cls)) z.ex hs) (oi : ∀ d ∈ z.ini, d.okB = true ∧ d.Bd) (om : MsOk (glOfL os (hofsOf hs) names z.cons z.blts z.ex0 (z.ini.map IniD.cls)) z.ex (tblOf ((fr ++ z.ms.map (·.r)).map fun r => (r.x, r.fr))) z.ms) (ob : osB names z.ms z.fs os = true)
    (lw : glOfL os (hofsOf hs) names z.cons z.blts z.ex0 (z.ini.map IniD.cls) "law" = some (.fn 1)) (x : Str) {rl : Row} (ml : rl ∈ fr) (el : rl.x = "law") (hx : ∀ r ∈ fr, r.x = "law" → r.ps = [x]) (hfa : mg ("law" : Str) = some (.ref fa))
    (hT : ∀ p ∈ lams.filterMap (PySem.W.tabIn K), h.get? p.2 = some { cls := .none, data := .fields #[] } ∧ PySem.W.CodeHd h p.1 p.2)
    (true_ : ∀ ns : List Int, ns.length ≤ 63 → ∀ o, (o = Ob.ro (ns.map .int) ∨ o = Ob.lst (ns.map .int)) → ∃ h', callK (tblOf ((fr ++ z.ms.map (·.r)).map fun r => (r.x, r.fr))) k "law" [.ref 0] [o] = .ok (.bl true) h') :
    LamX.LawAtS l w K (L2.CX l.prog w) (4 * k + 2) 63 x mg fa h := by
  letI : HasT := ⟨tabT lams K, He.ga K, z.fs⟩
  obtain ⟨fd, F, em⟩ := c.row (show rl ∈ z.rows by rw [hz]; exact List.mem_append_left _ ml) X G
  have bd := (ok.mem rl ml).2.2
  have eps := hx rl ml el
  have efa : He.ga K rl.x = fa := by
    rw [el] at em
    rw [el]
    rw [hfa] at em
    cases em
    rfl
  refine ⟨fd, lams.filterMap (PySem.W.tabIn K), spOf K mg 1 (callK (tblOf ((fr ++ z.ms.map (·.r)).map fun r => (r.x, r.fr))) k "law"), fun p hp => (hT p hp).1, fun p hp => ?_, fun p hp => (hT p hp).2, fun s u => ?_, fun H a ns hl _ hH hS => ?_, fun base hB hG TB => ?_⟩
  · obtain ⟨y, my, ey⟩ := List.mem_filterMap.mp hp
    obtain ⟨q, e, n, _⟩ := sayT_ok st y my
    rw [ey] at e
    cases e
    exact n
  · have z := FunD.bindsA F bd s [u] (by rw [eps]; rfl)
    rw [eps] at z
    exact z
  · have tb : LamX.Tabs (tabT lams K) H := fun p hp => by
      obtain ⟨y, my, ey⟩ := List.mem_filterMap.mp hp
      obtain ⟨q, e, rfl⟩ := Option.map_eq_some_iff.mp ey
      exact LamX.TabS.nil (hH q (List.mem_filterMap.mpr ⟨y, my, e⟩))
    have fin : ∀ o : Ob, (o = Ob.ro (ns.map .int) ∨ o = Ob.lst (ns.map .int)) → HR K [a] H [o] → spOf K mg 1 (callK (tblOf ((fr ++ z.ms.map (·.r)).map fun r => (r.x, r.fr))) k "law") [.ref a] H (fun v _ => v = .bl true) fun _ _ _ => False := fun o ho hr => by
      refine ⟨rfl, [a], [o], [.ref 0], hr, .cons (.ref rfl) .nil, ?_⟩
      obtain ⟨h', e⟩ := true_ ns hl o ho
      rw [e]
      intro L' H' v _ _ _ rl
      cases rl
      rfl
    have one : ∀ {i : Nat} {o o' : Ob}, [o][i]? = some o' → i = 0 ∧ o = o' := fun {i o o'} e => by
      cases i with
      | zero => exact ⟨rfl, Option.some.inj e⟩
      | succ i => simp at e
    have roC : RoL K H a (ns.map V.int) → spOf K mg 1 (callK (tblOf ((fr ++ z.ms.map (·.r)).map fun r => (r.x, r.fr))) k "law") [.ref a] H (fun v _ => v = .bl true) fun _ _ _ => False := fun hR => by
      refine fin _ (.inl rfl) ⟨rfl, fun i b ds e1 e2 => ?_, fun i b ds e1 e2 => ?_, fun i j b ds es e1 _ _ _ => ?_, fun i b ds e1 e2 => ?_, fun i j b ds es e1 _ _ _ => ?_, tb, (fun i b ds e1 e2 => by cases (one e1).2), (fun i j b ds es e1 _ _ _ => by cases (one e1).2), (fun i b c fs e1 e2 => by cases (one e1).2), fun i j b c1 c2 ds es e1 _ _ _ => by cases (one e1).2⟩
      · cases (one e1).2
      · obtain ⟨rfl, e⟩ := one e1
        cases e
        cases e2
        exact ⟨_, hR, rels_ints ns⟩
      · cases (one e1).2
      · cases (one e1).2
      · cases (one e1).2
    rcases hS with (hS | ⟨o, hS⟩) | hS
    · refine fin _ (.inr rfl) ⟨rfl, fun i b ds e1 e2 => ?_, fun i b ds e1 e2 => ?_, fun i j b ds es e1 e2 _ _ => ?_, fun i b ds e1 e2 => ?_, fun i j b ds es e1 _ _ _ => ?_, tb, (fun i b ds e1 e2 => by cases (one e1).2), (fun i j b ds es e1 _ _ _ => by cases (one e1).2), (fun i b c fs e1 e2 => by cases (one e1).2), fun i j b c1 c2 ds es e1 _ _ _ => by cases (one e1).2⟩
      · obtain ⟨rfl, e⟩ := one e1
        cases e
        cases e2
        exact ⟨_, hS, rels_ints ns⟩
      · cases (one e1).2
      · rw [(one e1).1, (one e2).1]
      · cases (one e1).2
      · cases (one e1).2
    · exact roC (.inl ⟨o, hS⟩)
    · exact roC (.inr hS)
  · have Gl : GlbL fr lams w K mg base (glOfL os (hofsOf hs) names z.cons z.blts z.ex0 (z.ini.map IniD.cls)) z.ex (tblOf ((fr ++ z.ms.map (·.r)).map fun r => (r.x, r.fr))) := glbL_of c hB hG hz en ok okH oi om ob rfl rfl fun y my => by
      obtain ⟨q, e, n, u⟩ := sayT_ok st y my
      refine ⟨q.1, q.2, e, TB q (List.mem_filterMap.mpr ⟨y, my, e⟩), List.mem_filterMap.mpr ⟨y, my, by rw [e]; rfl⟩, fun p hp ep => ?_⟩
      obtain ⟨y', my', ey'⟩ := List.mem_filterMap.mp hp
      obtain ⟨q', e', rfl⟩ := Option.map_eq_some_iff.mp ey'
      obtain ⟨q2, e2, u2⟩ := u y' my'
      rw [e'] at e2
      cases e2
      have := u2 ep
      subst this
      rfl
    obtain ⟨f, fd2, ps, a1, a2, a3, a4, a5, a6, r', mr', rx', rp', bd', F'⟩ := fnsL_ok (P := l.prog) (w := w) Gl k "law" 1 lw
    have e2 : r'.ps = [x] := hx r' mr' rx'
    rw [← rp', e2] at a2
    have e3 : f = fa := by
      rw [hfa] at a4
      cases a4
      rfl
    subst e3
    have e5 : fd2 = fd := by
      obtain ⟨oc, od, dV, kV, doc, pm, an, cdv, ct, osl, q1, q2, _⟩ := F.ex
      obtain ⟨oc', od', dV', kV', doc', pm', an', cdv', ct', osl', q1', q2', _⟩ := F'.ex
      rw [efa, q2'] at q2
      cases q2
      rfl
    rw [← e5]
    exact a2
theorem tabs_top {p : Program} {loose : List Str} {mean : ExcName → Option Value} {mg mb : Str → Option Value} {K : PySem.W.Frag} {h : Heap} {lams : List Str} (T : PyProof.Rows.Top p loose mean mg mb h) (X : K.In h) (rc : ∀ x ∈ lams, ∃ d, (PyProof.Rows.recsOf p).find? (fun e => e.name == x) = some d) :
    ∀ q ∈ lams.filterMap (PySem.W.tabIn K), h.get? q.2 = some { cls := .none, data := .fields #[] } ∧ PySem.W.CodeHd h q.1 q.2 := fun q hq => by
  obtain ⟨y, my, ey⟩ := List.mem_filterMap.mp hq
  obtain ⟨d, ed⟩ := rc y my
  obtain ⟨h1, h2⟩ := PySem.W.tab_of T X ed ey
  exact ⟨h2, h1⟩
/-- a law with lambdas, walked -/
theorem walkL {l : PySem.W.OpenLaw} {n k : Nat} {q : Program} {loose : List Str} {XP : (Str → Option Value) → Heap → Prop} {YP : World → Heap → Prop} {d : DefRec} {x : Str} (e1 : l.most = some n) (e2 : n ≤ sizeLine) (e3 : d.params.defaults = []) (rm : Room k callerA)
    (F : ∀ (w : World) (s0 : Shared) (mg mb : Str → Option Value) (fa : Addr) (h : Heap), PySem.W.Ground q loose [] XP w s0 mg mb h → YP w h → mg d.name = some (.ref fa) → ∃ K : PySem.W.Frag, K.In h ∧ LamX.LawAtS l w K (L2.CX l.prog w) k n x mg fa h) :
    PySem.W.WalkO q loose XP YP l.row.toRowW d [] (fun f vs => PySem.call f vs) := by
  refine Att.attach_callB e1 e3 fun w s₀ s₁ mg mb fa o pm cd doc a vs ns G Y ho hd hcd hmg hobj hints hlen hbits hg => ?_
  obtain ⟨K, KX, fd, cs, sp, hT, nT, C, hb, hsp, hF⟩ := F w s₀ mg mb fa _ G Y hmg
  refine LamX.law_callTs KX G.T.g G.T.b G.T.builtins G.T.nolimit hg hT nT C G.T.bmain hobj hints (Nat.le_trans hlen e2) rm hF hb (fun H hH hS => hsp H a ns hlen hbits hH hS) ?_
  intro H e s' z
  obtain ⟨_, _, _, _, _, _, _, _, _, _, _, _, z⟩ := z
  exact z.elim
end VM

set_option maxRecDepth 100000
set_option maxHeartbeats 0
namespace VM
open PySem L2
/-! the heap at a def's end -/
theorem sameOrGr_of {h h' : Hv} (hs : ∀ i, i < h.length → h'[i]? = h[i]? ∨ ∃ o, h'[i]? = some o ∧ o.gr = true) : sameOrGr h h' = true := by
  rw [sameOrGr, List.all_eq_true]
  intro i hi
  rw [List.mem_range] at hi
  rcases hs i hi with e | ⟨o, e, g⟩
  · simp [e]
  · simp [e, g]
theorem gc_gr {h h1 g : Hv} {d : D} (hl : h1.length = h.length) (hs : ∀ i, i < h.length → h1[i]? = h[i]? ∨ ∃ o, h1[i]? = some o ∧ o.gr = true) (hd : d.gr = true) : gc h d (h1 ++ g) = .ok d h1 := by
  have e : sameOrGr h (h1 ++ g) = true := sameOrGr_of fun i hi => by
    rw [List.getElem?_append_left (by omega)]
    exact hs i hi
  unfold gc
  rw [if_pos ⟨by simp [hl], e⟩, if_pos hd, ← hl, List.take_left']
  rfl
theorem gc_app {h g : Hv} {d : D} (hd : d.gr = true) : gc h d (h ++ g) = .ok d h := gc_gr rfl (fun _ _ => .inl rfl) hd
theorem gc_same {h : Hv} {d : D} : gc h d h = .ok d h := by
  by_cases hd : d.gr = true
  · have := gc_app (h := h) (g := []) hd
    rwa [List.append_nil] at this
  · unfold gc
    split
    · split
      · rename_i i
        split
        · rename_i ds e
          rw [if_neg]
          intro ⟨h1, _⟩
          have := (List.getElem?_eq_some_iff.1 e).1
          omega
        · rfl
      · rfl
    · rfl
theorem gc_ref {h h1 g : Hv} {i : Nat} {ds : List D} (hl : h1.length = h.length) (hs : ∀ i, i < h.length → h1[i]? = h[i]? ∨ ∃ o, h1[i]? = some o ∧ o.gr = true) (hi : g[i]? = some (.lst ds)) (hd : D.grs ds = true) : gc h (.ref (h.length + i)) (h1 ++ g) = .ok (.ref h.length) (h1 ++ [.lst ds]) := by
  have e : sameOrGr h (h1 ++ g) = true := sameOrGr_of fun i hi => by
    rw [List.getElem?_append_left (by omega)]
    exact hs i hi
  have e2 : (h1 ++ g)[h.length + i]? = some (.lst ds) := by
    rw [List.getElem?_append_right (by omega), ← hi]
    congr 1
    omega
  unfold gc
  rw [if_pos ⟨by simp [hl], e⟩, if_neg (by simp [D.gr])]
  simp only [e2]
  rw [if_pos ⟨by omega, hd⟩, ← hl, List.take_left']
  rfl
/-! a list of our own in the midst of the heap -/
def hp (h0 : Hv) (pen : List D) (g : Hv) : Hv := h0 ++ .lst pen :: g
@[simp] theorem hp_len (h0 pen g) : (hp h0 pen g).length = h0.length + 1 + g.length := by simp [hp]; omega
@[simp] theorem hp_app (h0 pen g g') : hp h0 pen g ++ g' = hp h0 pen (g ++ g') := by simp [hp]
@[simp] theorem hp_get (h0 pen g) : (hp h0 pen g)[h0.length]? = some (.lst pen) := by simp [hp]
@[simp] theorem hp_get1 (h0 pen g k) : (hp h0 pen g)[h0.length + 1 + k]? = g[k]? := by
  rw [hp, List.getElem?_append_right (by omega), show h0.length + 1 + k - h0.length = k + 1 by omega]; rfl
@[simp] theorem hp_set (h0 pen pen' g) : (hp h0 pen g).set h0.length (.lst pen') = hp h0 pen' g := by
  simp [hp, List.set_append]
@[simp] theorem hp_set1 (h0 pen g k o) : (hp h0 pen g).set (h0.length + 1 + k) o = hp h0 pen (g.set k o) := by
  rw [hp, List.set_append_right _ _ (by omega), show h0.length + 1 + k - h0.length = k + 1 by omega]; rfl
theorem hp_old {h0 pen g} {i : Nat} {o : Ob} (h : h0[i]? = some o) : (hp h0 pen g)[i]? = some o := by
  rw [hp, List.getElem?_append_left (List.getElem?_eq_some_iff.1 h).1, h]
theorem gc_hp {h0 pen pen' g g' d} (hd : D.gr d = true) (hpn : D.grs pen' = true) : gc (hp h0 pen g) d (hp h0 pen' (g ++ g')) = .ok d (hp h0 pen' g) := by
  rw [← hp_app]
  refine gc_gr (by simp) (fun i hi => ?_) hd
  rcases Nat.lt_trichotomy i h0.length with h | h | h
  · left; rw [hp, hp, List.getElem?_append_left h, List.getElem?_append_left h]
  · right; exact ⟨.lst pen', by rw [h]; exact hp_get .., hpn⟩
  · left
    obtain ⟨k, rfl⟩ : ∃ k, i = h0.length + 1 + k := ⟨i - (h0.length + 1), by omega⟩
    rw [hp_get1, hp_get1]
theorem gc_hp0 {h0 pen pen' g d} (hd : D.gr d = true) (hpn : D.grs pen' = true) : gc (hp h0 pen g) d (hp h0 pen' g) = .ok d (hp h0 pen' g) := by
  have := gc_hp (h0 := h0) (pen := pen) (g := g) (g' := []) hd hpn
  rwa [List.append_nil] at this
/-! amounts -/
def am (q : Rat) : D := .tup [.int q.num, .int q.den]
@[simp] theorem am_gr (q) : (am q).gr = true := rfl
theorem am_inj {a b : Rat} (h : am a = am b) : a = b := by
  simp only [am, D.tup.injEq, List.cons.injEq, D.int.injEq, and_true] at h
  exact Rat.ext h.1 (by omega)
theorem callK_eq {T : Str → Option FnRec} {k : Nat} {f : Str} {args : List D} {h : Hv} {r : FnRec} (hr : T f = some r) : callK T (k + 1) f args h = runFn r (callK T k) args h := by simp only [callK, hr]
theorem gcd_step (a b : Int) : Int.gcd a b = Int.gcd b (a % b) := by
  apply Nat.dvd_antisymm
  · apply Int.dvd_gcd
    · exact Int.gcd_dvd_right ..
    · rw [Int.emod_def]
      exact Int.dvd_sub (Int.gcd_dvd_left ..) (Int.dvd_mul_of_dvd_left (Int.gcd_dvd_right ..))
  · apply Int.dvd_gcd
    · have := Int.mul_ediv_add_emod a b
      rw [← this]
      exact Int.dvd_add (Int.dvd_mul_of_dvd_left (Int.gcd_dvd_left ..)) (by rw [this]; exact Int.gcd_dvd_right ..)
    · exact Int.gcd_dvd_left ..
/-- one walk through Euclid's steps -/
theorem euclid_loop (C : Or) (c : EF) (body : SF) (h : Hv)
    (hc : ∀ a b : Int, c C [some (.int a), some (.int b)] h = .ok (.bl (decide (0 < b))) h)
    (hb : ∀ a b : Int, 0 < b → body C [some (.int a), some (.int b)] h = .nx [some (.int b), some (.int (a % b))] h) :
    ∀ (n : Nat) (a b : Int) (m : Nat), 0 ≤ a → 0 ≤ b → b < 2 ^ n → 2 * n + 1 ≤ m →
      whileL C c body m [some (.int a), some (.int b)] h = .nx [some (.int (Int.gcd a b)), some (.int 0)] h := by
  have step : ∀ (m : Nat) (a b : Int), 0 < b → whileL C c body (m + 1) [some (.int a), some (.int b)] h = whileL C c body m [some (.int b), some (.int (a % b))] h := by
    intro m a b h0
    rw [whileL, hc a b]
    simp [R.thenS, h0, hb a b h0]
  have stop : ∀ (m : Nat) (a : Int), 0 ≤ a → whileL C c body (m + 1) [some (.int a), some (.int 0)] h = .nx [some (.int (Int.gcd a 0)), some (.int 0)] h := by
    intro m a h0
    rw [whileL, hc a 0]
    simp [R.thenS]
    omega
  intro n
  induction n with
  | zero =>
    intro a b m ha hb0 hb1 hm
    obtain rfl : b = 0 := by simp at hb1; omega
    obtain ⟨m, rfl⟩ : ∃ m', m = m' + 1 := ⟨m - 1, by omega⟩
    exact stop m a ha
  | succ n ih =>
    intro a b m ha hb0 hb1 hm
    obtain ⟨m, rfl⟩ : ∃ m', m = m' + 3 := ⟨m - 3, by omega⟩
    by_cases h0 : b = 0
    · subst h0; exact stop _ a ha
    · have h0 : 0 < b := by omega
      rw [step _ a b h0]
      have hr0 : 0 ≤ a % b := Int.emod_nonneg _ (by omega)
      have hr1 : a % b < b := Int.emod_lt_of_pos _ h0
      have e1 : Int.gcd a b = Int.gcd b (a % b) := by exact gcd_step a b
      rw [e1]
      by_cases h1 : a % b = 0
      · rw [h1]; exact stop _ b hb0
      · have h1 : 0 < a % b := by omega
        rw [step _ b (a % b) h1]
        have e2 : Int.gcd b (a % b) = Int.gcd (a % b) (b % (a % b)) := by exact gcd_step b (a % b)
        rw [e2]
        have hs0 : 0 ≤ b % (a % b) := Int.emod_nonneg _ (by omega)
        have hs1 : b % (a % b) < a % b := Int.emod_lt_of_pos _ h1
        refine ih _ _ _ hr0 hs0 ?_ (by omega)
        have q1 : 1 ≤ b / (a % b) := by
          rw [Int.le_ediv_iff_mul_le h1]; omega
        have e3 := Int.mul_ediv_add_emod b (a % b)
        have q2 : a % b * 1 ≤ a % b * (b / (a % b)) := Int.mul_le_mul_of_nonneg_left q1 hr0
        rw [Int.pow_succ] at hb1
        omega
theorem mk_am (n : Int) (d : Nat) (hd : d ≠ 0) : D.tup [.int (n / (Int.gcd (if n < 0 then -n else n) d : Nat)), .int ((d : Int) / (Int.gcd (if n < 0 then -n else n) d : Nat))] = am (mkRat n d) := by
  have e : Int.gcd (if n < 0 then -n else n) d = d.gcd n.natAbs := by
    rw [Int.gcd_comm]
    split <;> simp [Int.gcd]
  rw [e, am, Rat.num_mkRat, Rat.den_mkRat, if_neg hd, if_neg hd]
  simp
end VM

set_option maxRecDepth 100000
set_option maxHeartbeats 0
namespace VM
open PySem L2
/-! how a term is worked out, one construct at a time -/
section
variable (C : Or) (env : Env) (h : Hv)
@[simp] theorem bind_ok {α β : Type} (a : α) (f : α → Hv → R β) : (R.ok a h).bind f = f a h := rfl
@[simp] theorem thenS_ok (a : D) (f : D → Hv → SR) : (R.ok a h).thenS env f = f a h := rfl
@[simp] theorem thenI_ok (a : List D × Guards) (f : List D × Guards → Hv → SR) : (R.ok a h).thenI env f = f a h := rfl
def bm {α : Type} (x : D) (a b s : α) : α := match x with
  | .bl true => a
  | .bl false => b
  | _ => s
@[simp] theorem bm_bl {α : Type} (x : Bool) (a b s : α) : bm (.bl x) a b s = if x = true then a else b := by cases x <;> rfl
def SR.nxt (r : SR) (f : Env → Hv → SR) : SR := match r with
  | .nx e h => f e h
  | r => r
@[simp] theorem nxt_nx (f : Env → Hv → SR) : (SR.nx env h).nxt f = f env h := rfl
@[simp] theorem nxt_rt (d : D) (f : Env → Hv → SR) : (SR.rt d h).nxt f = .rt d h := rfl
@[simp] theorem nxt_ite (p : Prop) [Decidable p] (a b : SR) (f : Env → Hv → SR) : (if p then a else b).nxt f = if p then a.nxt f else b.nxt f := by split <;> rfl
theorem u_var (i : Nat) : varF i C env h = (match env[i]? with
  | some (some d) => .ok d h
  | _ => .stuck) := rfl
@[simp] theorem u_con (d : D) : conF d C env h = .ok d h := rfl
@[simp] theorem u_un1 (op a) : un1F op a C env h = (a C env h).bind op := rfl
@[simp] theorem u_bin (op a b) : binF op a b C env h = (a C env h).bind fun x h1 => (b C env h1).bind fun y h2 => op x y h2 := rfl
@[simp] theorem u_and (a b) : andF a b C env h = (a C env h).bind fun x h1 => bm x (b C env h1) (.ok (.bl false) h1) .stuck := by
  simp only [andF, bm]; try congr
@[simp] theorem u_or (a b) : orF a b C env h = (a C env h).bind fun x h1 => bm x (.ok (.bl true) h1) (b C env h1) .stuck := by
  simp only [orF, bm]; try congr
@[simp] theorem u_chain (op op' a b c) : chainF op op' a b c C env h = (a C env h).bind fun x h1 => (b C env h1).bind fun y h2 => (op x y h2).bind fun z h3 => bm z ((c C env h3).bind fun w h4 => op' y w h4) (.ok (.bl false) h3) .stuck := by
  simp only [chainF, bm]; try congr
@[simp] theorem u_ite (c a b) : iteF c a b C env h = (c C env h).bind fun x h1 => bm x (a C env h1) (b C env h1) .stuck := by
  simp only [iteF, bm]; try congr
@[simp] theorem u_list0 : listF [] C env h = .ok [] h := rfl
@[simp] theorem u_list (e es) : listF (e :: es) C env h = (e C env h).bind fun x h1 => (listF es C env h1).bind fun xs h2 => .ok (x :: xs) h2 := rfl
@[simp] theorem u_tup (es) : tupF es C env h = (listF es C env h).bind fun ds h1 => if ds.length ≤ 1000000 then .ok (.tup ds) h1 else .stuck := rfl
@[simp] theorem u_lst (es) : lstF es C env h = (listF es C env h).bind fun ds h1 => if ds.length ≤ 1000000 then .ok (.ref h1.length) (h1 ++ [.lst ds]) else .stuck := rfl
@[simp] theorem u_call (f es) : callF f es C env h = (listF es C env h).bind fun ds h1 => C f ds h1 := rfl
@[simp] theorem u_blt (g es) : bltF g es C env h = (listF es C env h).bind g := rfl
@[simp] theorem u_opt0 : optF none C env h = .ok none h := rfl
def im {α : Type} (x : D) (f : Int → α) (s : α) : α := match x with
  | .int i => f i
  | _ => s
@[simp] theorem im_int {α : Type} (i : Int) (f : Int → α) (s : α) : im (.int i) f s = f i := rfl
@[simp] theorem u_opt (e) : optF (some e) C env h = (e C env h).bind fun x h1 => im x (fun i => .ok (some i) h1) .stuck := by
  simp only [optF, im]; try congr
@[simp] theorem u_slc (op a lo hi) : slcF op a lo hi C env h = (a C env h).bind fun x h1 => (optF lo C env h1).bind fun l h2 => (optF hi C env h2).bind fun u h3 => op x l u h3 := rfl
def om {α β : Type} (x : Option α) (f : α → β) (s : β) : β := match x with
  | some a => f a
  | none => s
@[simp] theorem om_some {α β : Type} (a : α) (f : α → β) (s : β) : om (some a) f s = f a := rfl
@[simp] theorem u_nm (i d) : nmT i d env h = if i < env.length then some (env.set i (some d)) else none := rfl
@[simp] theorem u_tgs0 : tgsT [] [] env h = some env := rfl
@[simp] theorem u_tgs (t ts d ds) : tgsT (t :: ts) (d :: ds) env h = om (t d env h) (fun e => tgsT ts ds e h) none := by
  simp only [tgsT, om]; all_goals (cases t d env h <;> rfl)
@[simp] theorem u_tupT (ts ds) : tupT ts (.tup ds) env h = tgsT ts ds env h := rfl
@[simp] theorem u_nx : nxS C env h = .nx env h := rfl
@[simp] theorem u_bk : bkS C env h = .bk env h := rfl
@[simp] theorem u_ct : ctS C env h = .ct env h := rfl
@[simp] theorem u_seq (a b : SF) : seqS a b C env h = (a C env h).nxt (b C) := by
  unfold seqS SR.nxt; cases a C env h <;> rfl
@[simp] theorem u_exp (e) : expS e C env h = (e C env h).thenS env fun _ h1 => .nx env h1 := rfl
@[simp] theorem u_asg (t e) : asgS t e C env h = (e C env h).thenS env fun d h1 => om (t d env h1) (fun e1 => .nx e1 h1) .stuck := by
  unfold asgS; congr; funext d h1; cases t d env h1 <;> rfl
@[simp] theorem u_setS (o i e) : setS o i e C env h = (e C env h).thenS env fun d h1 => (o C env h1).thenS env fun x h2 => (i C env h2).thenS env fun k h3 => om (setL x k d h3) (fun h4 => .nx env h4) .stuck := by
  unfold setS; congr; funext d h1; congr; funext x h2; congr; funext k h3; cases setL x k d h3 <;> rfl
@[simp] theorem u_par (i j a b) : parS i j a b C env h = (a C env h).thenS env fun x h1 => (b C env h1).thenS env fun y h2 => if i < env.length ∧ j < env.length then .nx ((env.set i (some x)).set j (some y)) h2 else .stuck := rfl
@[simp] theorem u_ret (e) : retS e C env h = (e C env h).thenS env fun d h1 => .rt d h1 := rfl
@[simp] theorem u_if (c a b) : ifS c a b C env h = (c C env h).thenS env fun x h1 => bm x (a C env h1) (b C env h1) .stuck := by
  simp only [ifS, bm]; try congr
@[simp] theorem u_for (it tg body) : forS it tg body C env h = (it C env h).thenI env fun z h1 => forL C tg body z.2 z.1 env h1 := rfl
/-! operators -/
variable (i j : Int) (a b c d e f : D) (as : List D)
@[simp] theorem u_add : opAdd (.int i) (.int j) h = .ok (.int (i + j)) h := rfl
@[simp] theorem u_addT (xs ys) : opAdd (.tup xs) (.tup ys) h = if xs.length + ys.length ≤ 1000000 then .ok (.tup (xs ++ ys)) h else .stuck := rfl
@[simp] theorem u_sub : opSub (.int i) (.int j) h = .ok (.int (i - j)) h := rfl
@[simp] theorem u_neg : opNeg (.int i) h = .ok (.int (-i)) h := rfl
@[simp] theorem u_not (x : Bool) : opNot (.bl x) h = .ok (.bl (!x)) h := rfl
@[simp] theorem u_lt : opLt (.int i) (.int j) h = .ok (.bl (decide (i < j))) h := rfl
@[simp] theorem u_le : opLe (.int i) (.int j) h = .ok (.bl (decide (i ≤ j))) h := rfl
@[simp] theorem u_gt : opGt (.int i) (.int j) h = .ok (.bl (decide (j < i))) h := rfl
@[simp] theorem u_ge : opGe (.int i) (.int j) h = .ok (.bl (decide (j ≤ i))) h := rfl
theorem mul_s {i j : Int} {h : Hv} (hi : i.natAbs < big64) : opMul (.int i) (.int j) h = .ok (.int (i * j)) h := by
  simp only [opMul]; rw [if_pos (.inl hi)]
theorem mul_t {i j : Int} {h : Hv} (hi : j.natAbs < big64) : opMul (.int i) (.int j) h = .ok (.int (i * j)) h := by
  simp only [opMul]; rw [if_pos (.inr (.inl hi))]
theorem mul_m {i j : Int} {h : Hv} (hi : i.natAbs < bigM) (hj : j.natAbs < bigM) : opMul (.int i) (.int j) h = .ok (.int (i * j)) h := by
  simp only [opMul]; rw [if_pos (.inr (.inr ⟨hi, hj⟩))]
theorem fdiv_ok {i j : Int} {h : Hv} (h0 : 0 < j) (h1 : j.natAbs < bigD) : opFdiv (.int i) (.int j) h = .ok (.int (i / j)) h := by
  simp only [opFdiv]; rw [if_pos ⟨h0, h1⟩]
theorem mod_ok {i j : Int} {h : Hv} (h0 : 0 < j) : opMod (.int i) (.int j) h = .ok (.int (i % j)) h := by
  simp only [opMod]; rw [if_pos h0]
theorem at_nat {α : Type} {xs : List α} {k : Nat} : atI xs (k : Int) = xs[k]? := by
  unfold atI ixN
  rw [if_pos (by omega)]
  split
  · simp
  · simp; omega
theorem ix_tup (ds) : opIx (.tup ds) (.int i) h = om (atI ds i) (fun d => .ok d h) .stuck := by
  simp only [opIx, seqOf, om]; all_goals (cases atI ds i <;> rfl)
theorem ix_ref (p ds) (hp : h[p]? = some (.lst ds)) : opIx (.ref p) (.int i) h = om (atI ds i) (fun d => .ok d h) .stuck := by
  simp only [opIx, seqOf, hp, om]; all_goals (cases atI ds i <;> rfl)
theorem ix_ro (p ds) (hp : h[p]? = some (.ro ds)) : opIx (.ref p) (.int i) h = om (atI ds i) (fun d => .ok d h) .stuck := by
  simp only [opIx, seqOf, hp, om]; all_goals (cases atI ds i <;> rfl)
@[simp] theorem at0 {α : Type} (a : α) (as : List α) : atI (a :: as) 0 = some a := at_nat (k := 0)
@[simp] theorem at1 {α : Type} (a b : α) (as : List α) : atI (a :: b :: as) 1 = some b := at_nat (k := 1)
@[simp] theorem at2 {α : Type} (a b c : α) (as : List α) : atI (a :: b :: c :: as) 2 = some c := at_nat (k := 2)
@[simp] theorem at3 {α : Type} (a b c d : α) (as : List α) : atI (a :: b :: c :: d :: as) 3 = some d := at_nat (k := 3)
@[simp] theorem at4 {α : Type} (a b c d e : α) (as : List α) : atI (a :: b :: c :: d :: e :: as) 4 = some e := at_nat (k := 4)
@[simp] theorem at5 {α : Type} (a b c d e f : α) (as : List α) : atI (a :: b :: c :: d :: e :: f :: as) 5 = some f := at_nat (k := 5)
theorem at_last {α : Type} (xs : List α) (x : α) : atI (xs ++ [x]) (-1) = some x := by
  unfold atI ixN
  rw [if_neg (by omega), if_pos (by simp; omega)]
  simp
  rw [show ((-1 : Int) + (xs.length + 1)).toNat = xs.length by omega]
  simp
@[simp] theorem ix_tup0 : opIx (.tup (a :: as)) (.int 0) h = .ok a h := by simp [ix_tup]
@[simp] theorem ix_tup1 : opIx (.tup (a :: b :: as)) (.int 1) h = .ok b h := by simp [ix_tup]
@[simp] theorem ix_tup2 : opIx (.tup (a :: b :: c :: as)) (.int 2) h = .ok c h := by simp [ix_tup]
@[simp] theorem ix_tup3 : opIx (.tup (a :: b :: c :: d :: as)) (.int 3) h = .ok d h := by simp [ix_tup]
@[simp] theorem ix_tup4 : opIx (.tup (a :: b :: c :: d :: e :: as)) (.int 4) h = .ok e h := by simp [ix_tup]
@[simp] theorem ix_tup5 : opIx (.tup (a :: b :: c :: d :: e :: f :: as)) (.int 5) h = .ok f h := by simp [ix_tup]
@[simp] theorem ix_am0 (q : Rat) : opIx (am q) (.int 0) h = .ok (.int q.num) h := by simp [am]
@[simp] theorem ix_am1 (q : Rat) : opIx (am q) (.int 1) h = .ok (.int q.den) h := by simp [am]
@[simp] theorem u_abs : bAbs [.int i] h = .ok (.int (if i < 0 then -i else i)) h := rfl
@[simp] theorem u_int : bInt [.int i] h = .ok (.int i) h := rfl
@[simp] theorem u_intb (x : Bool) : bInt [.bl x] h = .ok (.int (if x then 1 else 0)) h := rfl
@[simp] theorem u_max : bMax [.int i, .int j] h = .ok (.int (if j > i then j else i)) h := rfl
@[simp] theorem u_min : bMin [.int i, .int j] h = .ok (.int (if j < i then j else i)) h := rfl
@[simp] theorem u_tuple (ds) : bTuple [.tup ds] h = .ok (.tup ds) h := rfl
theorem u_tuplel {p ds} {h : Hv} (hp : h[p]? = some (.lst ds)) : bTuple [.ref p] h = .ok (.tup ds) h := by simp [bTuple, seqOf, hp]
@[simp] theorem u_listt (ds) : bList [.tup ds] h = .ok (.ref h.length) (h ++ [.lst ds]) := rfl
@[simp] theorem u_lent (ds) : bLen [.tup ds] h = .ok (.int ds.length) h := rfl
theorem u_lenl {p ds} {h : Hv} (hp : h[p]? = some (.lst ds)) : bLen [.ref p] h = .ok (.int ds.length) h := by simp [bLen, seqOf, hp]
theorem u_lenr {p ds} {h : Hv} (hp : h[p]? = some (.ro ds)) : bLen [.ref p] h = .ok (.int ds.length) h := by simp [bLen, seqOf, hp]
theorem intsD_map (ns : List Int) : intsD (ns.map .int) = some ns := by
  induction ns with
  | nil => rfl
  | cons n ns ih => simp [intsD, ih]
theorem u_sum {p : Nat} {ns : List Int} {h : Hv} (hp : h[p]? = some (.lst (ns.map .int))) : bSum [.ref p] h = .ok (.int ns.sum) h := by
  simp [bSum, lstAt, hp, intsD_map]
theorem setL_ok {p ds k d} {h : Hv} (hp : h[p]? = some (.lst ds)) (hk : k < ds.length) : setL (.ref p) (.int (k : Nat)) d h = some (h.set p (.lst (ds.set k d))) := by
  have e : ixN ds.length (k : Int) = some k := by unfold ixN; rw [if_pos (by omega), if_pos (by omega)]; simp
  simp [setL, hp, e]
end
theorem run_eq (r : FnRec) (C : Or) (args : List D) (h : Hv) (hn : args.length = r.np) : runFn r C args h = (match r.body C (args.map some ++ List.replicate (r.nl - r.np) none) h with
    | .nx _ h' => gc h .non h'
    | .rt d h' => gc h d h'
    | .exc c d _ h' => .exc c d h'
    | _ => .stuck) := by rw [runFn, if_pos hn]; try rfl
theorem run_rt {r : FnRec} {C : Or} {args : List D} {h h' : Hv} {d : D} (hn : args.length = r.np) (hb : r.body C (args.map some ++ List.replicate (r.nl - r.np) none) h = .rt d h') : runFn r C args h = gc h d h' := by rw [run_eq r C args h hn, hb]
theorem run_nx {r : FnRec} {C : Or} {args : List D} {h h' : Hv} {e : Env} (hn : args.length = r.np) (hb : r.body C (args.map some ++ List.replicate (r.nl - r.np) none) h = .nx e h') : runFn r C args h = gc h .non h' := by rw [run_eq r C args h hn, hb]
end VM

set_option maxRecDepth 100000
set_option maxHeartbeats 0
namespace VM
open PySem L2
/-! == of whole numbers, and of what is the same -/
theorem eqv_int (i j : Int) : PyData.eqv (.int i) (.int j) = decide (i = j) := by
  simp only [PyData.eqv]; rfl
@[simp] theorem u_eqI (i j : Int) (h : Hv) : opEqD false (.int i) (.int j) h = .ok (.bl (decide (i = j))) h := by
  simp [opEqD, toP, eqv_int]
@[simp] theorem u_neI (i j : Int) (h : Hv) : opEqD true (.int i) (.int j) h = .ok (.bl (!decide (i = j))) h := by
  simp [opEqD, toP, eqv_int]
theorem toPs_self {h : Hv} {n : Nat} (ih : ∀ x p, toP h n x = some p → PyData.eqv p p = true) : ∀ (ds : List D) (ps : List PyData), toPs h n ds = some ps → PyData.eqvAll ps ps = true
  | [], ps, e => by
    simp only [toPs, Option.some.injEq] at e
    subst e; rfl
  | d :: ds, ps, e => by
    rw [toPs] at e
    split at e
    · rename_i p1 e1
      split at e
      · rename_i ps1 e2
        cases e
        simp [PyData.eqvAll, ih _ _ e1, toPs_self ih ds _ e2]
      · cases e
    · cases e
theorem toP_self {h : Hv} : ∀ (n : Nat) (x : D) (p : PyData), toP h n x = some p → PyData.eqv p p = true := by
  intro n
  induction n with
  | zero =>
    intro x p e
    cases x <;> simp [toP] at e
    · subst e; rfl
    · subst e; simp [PyData.eqv]
    · subst e; simp [PyData.eqv]
    · obtain ⟨_, rfl⟩ := e; simp [PyData.eqv]
  | succ n ih =>
    intro x p e
    cases x with
    | non => simp [toP] at e; subst e; rfl
    | bl b => simp [toP] at e; subst e; simp [PyData.eqv]
    | int i => simp [toP] at e; subst e; simp [PyData.eqv]
    | str s => simp [toP] at e; obtain ⟨_, rfl⟩ := e; simp [PyData.eqv]
    | tup ds =>
      simp only [toP, Option.map_eq_some_iff] at e
      obtain ⟨ps, e1, rfl⟩ := e
      simpa [PyData.eqv] using toPs_self ih ds ps e1
    | fn s => simp [toP] at e
    | exn c o => simp [toP] at e
    | ref i =>
      rw [toP] at e
      split at e
      · simp only [Option.map_eq_some_iff] at e
        obtain ⟨ps, e1, rfl⟩ := e
        simpa [PyData.eqv] using toPs_self ih _ ps e1
      · cases e
theorem eq_same {x y : D} {p : PyData} {h : Hv} (hx : toP h 60 x = some p) (hy : toP h 60 y = some p) : opEqD false x y h = .ok (.bl true) h := by
  simp [opEqD, hx, hy, toP_self 60 x p hx]
theorem ne_same {x y : D} {p : PyData} {h : Hv} (hx : toP h 60 x = some p) (hy : toP h 60 y = some p) : opEqD true x y h = .ok (.bl false) h := by
  simp [opEqD, hx, hy, toP_self 60 x p hx]
/-! list comprehensions that change nothing -/
theorem lc_loop {α : Type} {C : Or} {env : Env} {tg : TF} {t elt : EF} {gs : Guards} {h1 : Hv} (enc : α → D) (p : α → Bool) (f : α → D) (ev : α → Env)
    (hg : ∀ acc, guardsOk gs (h1 ++ [.lst acc]) = true) : ∀ (L : List α) (acc : List D),
    (∀ x ∈ L, ∀ acc, tg (enc x) env (h1 ++ [.lst acc]) = some (ev x)) →
    (∀ x ∈ L, ∀ acc, t C (ev x) (h1 ++ [.lst acc]) = .ok (.bl (p x)) (h1 ++ [.lst acc])) →
    (∀ x ∈ L, p x = true → ∀ acc, elt C (ev x) (h1 ++ [.lst acc]) = .ok (f x) (h1 ++ [.lst acc])) →
    acc.length + L.length ≤ 1000000 →
    lcLoop C env tg t elt gs h1.length (L.map enc) (h1 ++ [.lst acc]) = .ok () (h1 ++ [.lst (acc ++ (L.filter p).map f)])
  | [], acc, _, _, _, _ => by simp [lcLoop, hg]
  | x :: xs, acc, htg, ht, he, hl => by
    have hl' : acc.length + (xs.length + 1) ≤ 1000000 := hl
    have ih := fun acc => lc_loop enc p f ev hg xs acc (fun y hy => htg y (by simp [hy])) (fun y hy => ht y (by simp [hy])) (fun y hy => he y (by simp [hy]))
    rw [List.map_cons, lcLoop, if_pos (hg acc), htg x (by simp) acc]
    simp only [ht x (by simp) acc, bind_ok]
    cases hp : p x with
    | false => simp only [List.filter_cons, hp]; exact ih acc (by omega)
    | true =>
      simp only [he x (by simp) hp acc, bind_ok, List.filter_cons, hp, if_true, List.map_cons]
      have e1 : (h1 ++ [Ob.lst acc])[h1.length]? = some (.lst acc) := by simp
      simp only [e1]
      rw [if_pos (by unfold szl; omega)]
      have e2 : (h1 ++ [Ob.lst acc]).set h1.length (.lst (acc ++ [f x])) = h1 ++ [.lst (acc ++ [f x])] := by simp [List.set_append]
      rw [e2, ih _ (by simp; omega)]
      simp
theorem lc_pure {α : Type} {C : Or} {env : Env} {it : IF} {tg : TF} {own : List Nat} {t elt : EF} {gs : Guards} {h h1 : Hv} (L : List α) (enc : α → D) (p : α → Bool) (f : α → D) (ev : α → Env)
    (hit : it C env h = .ok (L.map enc, gs) h1)
    (hg : ∀ acc, guardsOk gs (h1 ++ [.lst acc]) = true)
    (htg : ∀ x ∈ L, ∀ acc, tg (enc x) (wipeD env own) (h1 ++ [.lst acc]) = some (ev x))
    (ht : ∀ x ∈ L, ∀ acc, t C (ev x) (h1 ++ [.lst acc]) = .ok (.bl (p x)) (h1 ++ [.lst acc]))
    (he : ∀ x ∈ L, p x = true → ∀ acc, elt C (ev x) (h1 ++ [.lst acc]) = .ok (f x) (h1 ++ [.lst acc]))
    (hl : L.length ≤ 1000000) : lcF it tg own t elt C env h = .ok (.ref h1.length) (h1 ++ [.lst ((L.filter p).map f)]) := by
  rw [lcF, hit]
  simp only [bind_ok]
  rw [lc_loop enc p f ev hg L [] htg ht he (by simpa using hl)]
  simp [R.noexc]
/-- without a condition -/
theorem lc_all {α : Type} {C : Or} {env : Env} {it : IF} {tg : TF} {own : List Nat} {elt : EF} {gs : Guards} {h h1 : Hv} (L : List α) (enc : α → D) (f : α → D) (ev : α → Env)
    (hit : it C env h = .ok (L.map enc, gs) h1)
    (hg : ∀ acc, guardsOk gs (h1 ++ [.lst acc]) = true)
    (htg : ∀ x ∈ L, ∀ acc, tg (enc x) (wipeD env own) (h1 ++ [.lst acc]) = some (ev x))
    (he : ∀ x ∈ L, ∀ acc, elt C (ev x) (h1 ++ [.lst acc]) = .ok (f x) (h1 ++ [.lst acc]))
    (hl : L.length ≤ 1000000) : lcF it tg own (conF (.bl true)) elt C env h = .ok (.ref h1.length) (h1 ++ [.lst (L.map f)]) := by
  have := lc_pure (t := conF (.bl true)) L enc (fun _ => true) f ev hit hg htg (fun _ _ _ => rfl) (fun x hx _ => he x hx) hl
  rwa [List.filter_eq_self.2 (fun _ _ => rfl)] at this
@[simp] theorem g_nil (h : Hv) : guardsOk [] h = true := rfl
theorem zipD_map {α β : Type} (f : α → D) (g : β → D) : ∀ (as : List α) (bs : List β), zipD (as.map f) (bs.map g) = (as.zip bs).map fun p => .tup [f p.1, g p.2]
  | [], _ => by simp [zipD]
  | _ :: _, [] => by simp [zipD]
  | a :: as, b :: bs => by simp [zipD, zipD_map f g as bs]
theorem itZ_tt {C : Or} {env : Env} {h : Hv} {a b : EF} {α β : Type} {f : α → D} {g : β → D} {as : List α} {bs : List β} (ha : a C env h = .ok (.tup (as.map f)) h) (hb : b C env h = .ok (.tup (bs.map g)) h) : itZ a b C env h = .ok ((as.zip bs).map fun p => .tup [f p.1, g p.2], []) h := by
  simp [itZ, ha, hb, seqOf, zipD_map]
theorem itE_t {C : Or} {env : Env} {h : Hv} {a : EF} {ds : List D} (ha : a C env h = .ok (.tup ds) h) : itE a C env h = .ok (ds, []) h := by
  simp [itE, ha, seqOf]
theorem it1_ok {C : Or} {env : Env} {h h1 : Hv} {a : EF} {n : Nat} (ha : a C env h = .ok (.int n) h1) (hn : n ≤ 2 ^ 60) : it1F a C env h = .ok ((List.range n).map fun i => .int (i : Nat), []) h1 := by
  simp only [it1F, ha, bind_ok]
  rw [if_pos ⟨by omega, by omega⟩]
  simp [rng]
/-- a loop, by what holds of what is left -/
theorem for_inv {C : Or} {tg : TF} {body : SF} {gs : Guards} {P : List D → Env → Hv → Prop}
    (h0 : ∀ xs env h, P xs env h → guardsOk gs h = true)
    (hs : ∀ x xs env h, P (x :: xs) env h → ∃ env1, tg x env h = some env1 ∧ ∃ env2 h2, body C env1 h = .nx env2 h2 ∧ P xs env2 h2) :
    ∀ (xs : List D) (env : Env) (h : Hv), P xs env h → ∃ env' h', forL C tg body gs xs env h = .nx env' h' ∧ P [] env' h'
  | [], env, h, p => ⟨env, h, by rw [forL, if_pos (h0 _ _ _ p)], p⟩
  | x :: xs, env, h, p => by
    obtain ⟨env1, e1, env2, h2, e2, p2⟩ := hs x xs env h p
    obtain ⟨env', h', e3, p3⟩ := for_inv h0 hs xs env2 h2 p2
    exact ⟨env', h', by rw [forL, if_pos (h0 _ _ _ p)]; simp only [e1, e2, e3], p3⟩
/-! the pen -/
def PenOk (pen : List D) : Prop := ∃ a f c d : Int, pen = [.int a, .int f, .int c, .int d] ∧ 0 ≤ d ∧ d < 2 ^ 40
theorem PenOk.grs {pen : List D} (h : PenOk pen) : D.grs pen = true := by
  obtain ⟨a, f, c, d, rfl, _⟩ := h; rfl
end VM

set_option maxRecDepth 100000
set_option maxHeartbeats 0
namespace VM
open PySem L2
def fns0 : List (Str × FnRec) := [(("common" : PySem.Str), R_common), (("made" : PySem.Str), R_made), (("plus" : PySem.Str), R_plus), (("less" : PySem.Str), R_less), (("times" : PySem.Str), R_times), (("so_many" : PySem.Str), R_so_many), (("lies" : PySem.Str), R_lies), (("can_do" : PySem.Str), R_can_do), (("with_less" : PySem.Str), R_with_less), (("pooled" : PySem.Str), R_pooled), (("sold_of" : PySem.Str), R_sold_of), (("borne_of" : PySem.Str), R_borne_of), (("worth_of" : PySem.Str), R_worth_of), (("cost_in" : PySem.Str), R_cost_in), (("thrown" : PySem.Str), R_thrown), (("done" : PySem.Str), R_done), (("begun" : PySem.Str), R_begun), (("wrong_in" : PySem.Str), R_wrong_in), (("first_wrong" : PySem.Str), R_first_wrong), (("_law_cell_at" : PySem.Str), R__law_cell_at)]
def fns1 : List (Str × FnRec) := [(("_law_pen" : PySem.Str), R__law_pen), (("_law_draw" : PySem.Str), R__law_draw), (("_law_first_ones" : PySem.Str), R__law_first_ones), (("_law_other_ones" : PySem.Str), R__law_other_ones), (("law" : PySem.Str), R_law)]
def fns : List (Str × FnRec) := fns0 ++ fns1
theorem T_ex : ∃ T : Str → Option FnRec, T = tblOf fns := ⟨_, rfl⟩
noncomputable def T : Str → Option FnRec := Classical.choose T_ex
theorem T_eq : T = tblOf fns := Classical.choose_spec T_ex
theorem t_common : T "common" = some R_common := by
  rw [T_eq]
  kernel_rfl
theorem t_made : T "made" = some R_made := by
  rw [T_eq]
  kernel_rfl
theorem t_plus : T "plus" = some R_plus := by
  rw [T_eq]
  kernel_rfl
theorem t_less : T "less" = some R_less := by
  rw [T_eq]
  kernel_rfl
theorem t_times : T "times" = some R_times := by
  rw [T_eq]
  kernel_rfl
theorem t_so_many : T "so_many" = some R_so_many := by
  rw [T_eq]
  kernel_rfl
theorem t_lies : T "lies" = some R_lies := by
  rw [T_eq]
  kernel_rfl
theorem t_can_do : T "can_do" = some R_can_do := by
  rw [T_eq]
  kernel_rfl
theorem t_with_less : T "with_less" = some R_with_less := by
  rw [T_eq]
  kernel_rfl
theorem t_pooled : T "pooled" = some R_pooled := by
  rw [T_eq]
  kernel_rfl
theorem t_sold_of : T "sold_of" = some R_sold_of := by
  rw [T_eq]
  kernel_rfl
theorem t_borne_of : T "borne_of" = some R_borne_of := by
  rw [T_eq]
  kernel_rfl
theorem t_worth_of : T "worth_of" = some R_worth_of := by
  rw [T_eq]
  kernel_rfl
theorem t_cost_in : T "cost_in" = some R_cost_in := by
  rw [T_eq]
  kernel_rfl
theorem t_thrown : T "thrown" = some R_thrown := by
  rw [T_eq]
  kernel_rfl
theorem t_done : T "done" = some R_done := by
  rw [T_eq]
  kernel_rfl
theorem t_begun : T "begun" = some R_begun := by
  rw [T_eq]
  kernel_rfl
theorem t_wrong_in : T "wrong_in" = some R_wrong_in := by
  rw [T_eq]
  kernel_rfl
theorem t_first_wrong : T "first_wrong" = some R_first_wrong := by
  rw [T_eq]
  kernel_rfl
theorem t__law_cell_at : T "_law_cell_at" = some R__law_cell_at := by
  rw [T_eq]
  kernel_rfl
theorem t__law_pen : T "_law_pen" = some R__law_pen := by
  rw [T_eq]
  kernel_rfl
theorem t__law_draw : T "_law_draw" = some R__law_draw := by
  rw [T_eq]
  kernel_rfl
theorem t__law_first_ones : T "_law_first_ones" = some R__law_first_ones := by
  rw [T_eq]
  kernel_rfl
theorem t__law_other_ones : T "_law_other_ones" = some R__law_other_ones := by
  rw [T_eq]
  kernel_rfl
theorem t_law : T "law" = some R_law := by
  rw [T_eq]
  kernel_rfl

/-- numbers of a size that the sums stay in bounds -/
structure Fit (q : Rat) : Prop where
  n : q.num.natAbs < bigM
  d : q.den < 2 ^ 4400
  dd : q.den < bigM
theorem Fit.neg {q : Rat} (h : Fit q) : Fit (-q) := ⟨by simpa using h.1, by simpa using h.2, by simpa using h.3⟩

theorem _law_cell_at_ok (k : Nat) (ns : List Int) (i : Nat) (p : Nat) (h : Hv) (hp : h[p]? = some (.ro (ns.map .int))) : ∃ c : Int, callK T (k + 1) "_law_cell_at" [.ref p, .int i] h = .ok (.int c) h := by
  by_cases hi : i < ns.length
  · refine ⟨ns[i], ?_⟩
    rw [callK_eq t__law_cell_at]
    refine (run_rt rfl ?_).trans gc_same
    simp [u_var, R__law_cell_at, F__law_cell_at, u_lenr hp, hi, ix_ro _ _ _ _ hp, at_nat]
  · refine ⟨0, ?_⟩
    rw [callK_eq t__law_cell_at]
    refine (run_rt rfl ?_).trans gc_same
    simp [u_var, R__law_cell_at, F__law_cell_at, u_lenr hp, hi]
theorem _law_pen_ok (k : Nat) (c : Int) (h : Hv) : ∃ pen, PenOk pen ∧ callK T (k + 1) "_law_pen" [.int c] h = .ok (.ref h.length) (hp h pen []) := by
  refine ⟨[.int c, .int (if (10 : Int) ^ 18 ≤ c then 1 else 0), .int 0, .int (c % 1000000007)], ⟨_, _, _, _, rfl, Int.emod_nonneg _ (by decide), Int.lt_trans (Int.emod_lt_of_pos _ (by decide)) (by decide)⟩, ?_⟩
  rw [callK_eq t__law_pen]
  have e : opPow (.int 10) (.int 18) h = .ok (.int (10 ^ 18)) h := by simp [opPow, big64]
  have := gc_ref (h := h) (h1 := h) (g := [.lst [.int c, .int (if (10 : Int) ^ 18 ≤ c then 1 else 0), .int 0, .int (c % 1000000007)]]) (i := 0) rfl (fun _ _ => .inl rfl) rfl rfl
  refine (run_rt rfl ?_).trans this
  simp [u_var, R__law_pen, F__law_pen, e, mod_ok]
theorem _law_draw_ok (k : Nat) (b : Int) (h0 : Hv) (pen : List D) (g : Hv) (hb : 0 < b) (hb1 : b < 2 ^ 60) (hpn : PenOk pen) :
    ∃ (r : Int) (pen' : List D), 0 ≤ r ∧ r < b ∧ PenOk pen' ∧ callK T (k + 1) "_law_draw" [.ref h0.length, .int b] (hp h0 pen g) = .ok (.int r) (hp h0 pen' g) := by
  obtain ⟨a, f, c, d, rfl, hd0, hd1⟩ := hpn
  have hbD : b.natAbs < bigD := Nat.lt_of_lt_of_le (show b.natAbs < 2 ^ 60 by omega) (Nat.pow_le_pow_right (by decide) (by decide))
  have s0 : ∀ (x y z w : Int) (d : D), setL (.ref h0.length) (.int 0) d (hp h0 [.int x, .int y, .int z, .int w] g) = some (hp h0 [d, .int y, .int z, .int w] g) := by
    intro x y z w d
    have := setL_ok (h := hp h0 [.int x, .int y, .int z, .int w] g) (k := 0) (d := d) (hp_get ..) (by simp)
    simpa using this
  have s2 : ∀ (x y z w : Int) (d : D), setL (.ref h0.length) (.int 2) d (hp h0 [.int x, .int y, .int z, .int w] g) = some (hp h0 [.int x, .int y, d, .int w] g) := by
    intro x y z w d
    have := setL_ok (h := hp h0 [.int x, .int y, .int z, .int w] g) (k := 2) (d := d) (hp_get ..) (by simp)
    simpa using this
  have gx : ∀ (ds : List D) (i : Int), opIx (.ref h0.length) (.int i) (hp h0 ds g) = om (atI ds i) (fun d => .ok d (hp h0 ds g)) .stuck := fun ds i => ix_ref _ _ _ _ (hp_get ..)
  by_cases h1 : f = 1 ∧ 0 < a
  · obtain ⟨rfl, h1⟩ := h1
    refine ⟨a % b, [.int (a / b), .int 1, .int c, .int d], Int.emod_nonneg _ (by omega), Int.emod_lt_of_pos _ hb, ⟨_, _, _, _, rfl, hd0, hd1⟩, ?_⟩
    rw [callK_eq t__law_draw]
    refine (run_rt rfl ?_).trans (gc_hp0 rfl rfl)
    simp [u_var, R__law_draw, F__law_draw, gx, h1, mod_ok hb, fdiv_ok hb hbD, s0]
  · refine ⟨(((d + 17) * (69621 + 2 * (c + 1)) % 2147483647) * ((d + 17) * (69621 + 2 * (c + 1)) % 2147483647) + 40503 * (c + 1) + 5) % 2147483629 * 48271 % 2147483647 / 32 % b, [.int a, .int f, .int (c + 1), .int d], Int.emod_nonneg _ (by omega), Int.emod_lt_of_pos _ hb, ⟨_, _, _, _, rfl, hd0, hd1⟩, ?_⟩
    · rw [callK_eq t__law_draw]
      refine (run_rt rfl ?_).trans (gc_hp0 rfl rfl)
      have m1 : ∀ (y : Int) (h : Hv), opMul (.int (d + 17)) (.int y) h = .ok (.int ((d + 17) * y)) h := fun y h => mul_s (by unfold big64; omega)
      have m2 : ∀ (y : Int) (h : Hv), opMul (.int 2) (.int y) h = .ok (.int (2 * y)) h := fun y h => mul_s (by unfold big64; omega)
      have m3 : ∀ (x y : Int) (h : Hv), opMul (.int (x % 2147483647)) (.int y) h = .ok (.int (x % 2147483647 * y)) h := fun x y h => mul_s (by unfold big64; omega)
      have m4 : ∀ (y : Int) (h : Hv), opMul (.int 40503) (.int y) h = .ok (.int (40503 * y)) h := fun y h => mul_s (by unfold big64; omega)
      have m5 : ∀ (y : Int) (h : Hv), opMul (.int y) (.int 48271) h = .ok (.int (y * 48271)) h := fun y h => mul_t (by unfold big64; omega)
      have d1 : ∀ (y : Int) (h : Hv), opFdiv (.int y) (.int 32) h = .ok (.int (y / 32)) h := fun y h => fdiv_ok (by omega) (Nat.lt_of_lt_of_le (show (32 : Int).natAbs < 2 ^ 60 by decide) (Nat.pow_le_pow_right (by decide) (by decide)))
      have o1 : ∀ (x : Int) (h : Hv), opMod (.int x) (.int 2147483647) h = .ok (.int (x % 2147483647)) h := fun x h => mod_ok (by decide)
      have o2 : ∀ (x : Int) (h : Hv), opMod (.int x) (.int 2147483629) h = .ok (.int (x % 2147483629)) h := fun x h => mod_ok (by decide)
      by_cases hf : f = 1
      · have ha : ¬ 0 < a := fun h2 => h1 ⟨hf, h2⟩
        subst hf
        simp [u_var, R__law_draw, F__law_draw, gx, ha, s2, m1, m2, m3, m4, m5, o1, o2, d1, mod_ok hb]
      · simp [u_var, R__law_draw, F__law_draw, gx, hf, s2, m1, m2, m3, m4, m5, o1, o2, d1, mod_ok hb]

@[simp] theorem g_at (g : Hv) (x : Ob) (g1 : Hv) : (g ++ x :: g1)[g.length]? = some x := by simp
@[simp] theorem g_set (g : Hv) (x y : Ob) (g1 : Hv) : (g ++ x :: g1).set g.length y = g ++ y :: g1 := by simp [List.set_append]
theorem last_at (h : Hv) (x : Ob) : (h ++ [x])[h.length]? = some x := by simp
theorem itE_l {C : Or} {env : Env} {h : Hv} {a : EF} {p : Nat} {ds : List D} (ha : a C env h = .ok (.ref p) h) (hp : h[p]? = some (.lst ds)) : itE a C env h = .ok (ds, [(p, ds)]) h := by
  simp only [itE, ha, bind_ok, seqOf, hp]
/-- a share: of a whole cut into M -/
def Sh (M : Nat) (q : Rat) : Prop := q.den ∣ M ∧ 0 ≤ q ∧ q ≤ 1

/-! shares of a whole -/
theorem den_mul_dvd (a b : Rat) : (a * b).den ∣ a.den * b.den := by
  rw [Rat.mul_def', Rat.den_mkRat]
  split
  · exact Nat.one_dvd _
  · exact Nat.div_dvd_of_dvd (Nat.gcd_dvd_left ..)
theorem den_mk_dvd (n : Int) (d : Nat) : (mkRat n d).den ∣ d := by
  rw [Rat.den_mkRat]
  split
  · rename_i h; subst h; exact Nat.dvd_zero _
  · exact Nat.div_dvd_of_dvd (Nat.gcd_dvd_left ..)
/-- both over M -/
theorem over {M : Nat} (h0 : 0 < M) {q : Rat} (h : q.den ∣ M) : ∃ n : Int, q = mkRat n M := by
  obtain ⟨c, rfl⟩ := h
  have hc : c ≠ 0 := by intro h; subst h; simp at h0
  refine ⟨q.num * c, ?_⟩
  rw [Rat.mkRat_mul_right hc, Rat.mkRat_self]
theorem den_add_dvd {M : Nat} (h0 : 0 < M) {a b : Rat} (ha : a.den ∣ M) (hb : b.den ∣ M) : (a + b).den ∣ M := by
  obtain ⟨n, rfl⟩ := over h0 ha
  obtain ⟨m, rfl⟩ := over h0 hb
  have : mkRat n M + mkRat m M = mkRat (n + m) M := by
    rw [Rat.mkRat_add_mkRat _ _ (by omega) (by omega), ← Int.add_mul, Rat.mkRat_mul_right (by omega)]
  rw [this]
  exact den_mk_dvd _ _
theorem Sh.mul {M W : Nat} {a b : Rat} (ha : Sh M a) (hb : Sh W b) : Sh (M * W) (a * b) := by
  refine ⟨Nat.dvd_trans (den_mul_dvd a b) (Nat.mul_dvd_mul ha.1 hb.1), Rat.mul_nonneg ha.2.1 hb.2.1, ?_⟩
  have := Rat.mul_le_mul_of_nonneg_left hb.2.2 ha.2.1
  have h1 := ha.2.2
  grind
theorem Sh.compl {W : Nat} {p : Rat} (h0 : 0 < W) (h : Sh W p) : Sh W (1 - p) := by
  refine ⟨?_, ?_, ?_⟩
  · rw [Rat.sub_eq_add_neg]
    exact den_add_dvd h0 (Nat.one_dvd _) (by simpa using h.1)
  · have := h.2.2; grind
  · have := h.2.1; grind
theorem Sh.borne {M W : Nat} {s o p : Rat} (h0 : 0 < M) (h1 : 0 < W) (hs : Sh M s) (ho : Sh M o) (hp : Sh W p) : Sh (M * W) (s * (1 - p) + o * p) := by
  have a := hs.mul (hp.compl h1)
  have b := ho.mul hp
  refine ⟨den_add_dvd (Nat.mul_pos h0 h1) a.1 b.1, ?_, ?_⟩
  · have := a.2.1; have := b.2.1; grind
  · have h2 := Rat.mul_le_mul_of_nonneg_right hs.2.2 (hp.compl h1).2.1
    have h3 := Rat.mul_le_mul_of_nonneg_right ho.2.2 hp.2.1
    grind
/-- a share that is not beyond all bounds -/
def Sc (M : Nat) (q : Rat) : Prop := q.den ∣ M ∧ 0 ≤ q ∧ q ≤ ((2 ^ 64 : Nat) : Rat)
theorem Sc.mul {M W : Nat} {a b : Rat} (ha : Sc M a) (hb : Sh W b) : Sc (M * W) (a * b) := by
  refine ⟨Nat.dvd_trans (den_mul_dvd a b) (Nat.mul_dvd_mul ha.1 hb.1), Rat.mul_nonneg ha.2.1 hb.2.1, ?_⟩
  have := Rat.mul_le_mul_of_nonneg_left hb.2.2 ha.2.1
  have h1 := ha.2.2
  grind
/-! loads -/
structure Ld where
  k : Nat
  n : Int
  sh : List Rat
def shD (qs : List Rat) : D := .tup (qs.map am)
def ldD (l : Ld) : D := .tup [.int l.k, .int l.n, shD l.sh]
def lsD (ls : List Ld) : D := .tup (ls.map ldD)
def wsD (ws : List Int) : D := .tup (ws.map .int)
@[simp] theorem ix_l0 (l : Ld) (h : Hv) : opIx (ldD l) (.int 0) h = .ok (.int l.k) h := by simp [ldD]
@[simp] theorem ix_l1 (l : Ld) (h : Hv) : opIx (ldD l) (.int 1) h = .ok (.int l.n) h := by simp [ldD]
@[simp] theorem ix_l2 (l : Ld) (h : Hv) : opIx (ldD l) (.int 2) h = .ok (shD l.sh) h := by simp [ldD]
@[simp] theorem len_ls (ls : List Ld) (h : Hv) : bLen [lsD ls] h = .ok (.int ls.length) h := by simp [lsD]
def lessL (ls : List Ld) (a : Nat) (l : Ld) (m : Int) : List Ld := ls.set a ⟨l.k, l.n - m, l.sh⟩
def borne (p : Rat) (os ss : List Rat) : List Rat := (ss.zip os).map fun x => x.1 * (1 - p) + x.2 * p

def trD (P K B : Int) (hold : List Rat) (x y : Int) : D := .tup [.int P, .int K, .int B, shD hold, .int x, .int y]
def stD (ls : List Ld) (hs : List Rat) (nums : List Int) : D := .tup [lsD ls, shD hs, wsD nums]
/-- what lies on the beasts, and the beasts, by what each is worth -/
def worth (B : Int) (ls : List Ld) (ws : List Int) (w : Int) : Int := (ls.map fun l => l.n * ws.getD l.k 0).sum + B * w
def thD (a : Nat) (m : Int) (ws : List Int) : D := .tup [.str "throw", .int a, .int m, wsD ws]
def spD (a : Nat) (m : Int) : D := .tup [.str "spoil", .int a, .int m]
def thrL (p : Rat) (os : List Rat) (ls : List Ld) : List Ld := ls.map fun l => ⟨l.k, l.n, borne p os l.sh⟩

theorem eq_strs {a b : Str} {v : Bool} (ha : PyData.strOk a = true) (hb : PyData.strOk b = true) (e : (a == b) = v) (neg : Bool) (h : Hv) : opEqD neg (.str a) (.str b) h = .ok (.bl (if neg then !v else v)) h := by
  have : PyData.eqv (.str a) (.str b) = v := by rw [← e]; simp only [PyData.eqv]
  cases neg <;> simp [opEqD, toP, ha, hb, this]
theorem ts (h : Hv) : opEqD false (.str "throw") (.str "swap") h = .ok (.bl false) h := eq_strs (v := false) (by decide +kernel) (by decide +kernel) (by decide +kernel) false h
theorem ss (h : Hv) : opEqD false (.str "spoil") (.str "swap") h = .ok (.bl false) h := eq_strs (v := false) (by decide +kernel) (by decide +kernel) (by decide +kernel) false h
/-! deeds behind another -/
def Step (tr s d s' : D) : Prop := ∀ k h, callK T (k + 8) "can_do" [s, d] h = .ok (.bl true) h ∧ callK T (k + 8) "done" [tr, s, d] h = .ok s' h
inductive Run (tr : D) : D → List D → List D → Prop
  | nil (s : D) : Run tr s [] []
  | cons {s d s' : D} {ds sts : List D} : Step tr s d s' → Run tr s' ds sts → Run tr s (d :: ds) (s' :: sts)
def fin (s : D) : List D → D
  | [] => s
  | s' :: sts => fin s' sts
theorem Run.len {tr s : D} {ds sts : List D} (r : Run tr s ds sts) : sts.length = ds.length := by
  induction r with
  | nil => rfl
  | cons _ _ ih => simp [ih]
theorem Run.take {tr : D} : ∀ (m : Nat) {s : D} {ds sts : List D}, Run tr s ds sts → Run tr s (ds.take m) (sts.take m)
  | 0, s, ds, sts, _ => by simpa using Run.nil s
  | m + 1, s, _, _, .nil _ => by simpa using Run.nil s
  | m + 1, s, _, _, .cons a r => by simpa using Run.cons a (r.take m)
section
variable {P K B x y : Int} {hold : List Rat} {ls : List Ld} {ds sts : List D}
def bookD (tr : D) (ls : List Ld) (ds : List D) : D := .tup [tr, lsD ls, .tup ds]
@[simp] theorem is_non (neg : Bool) (h : Hv) : opIs neg .non .non h = .ok (.bl (!neg)) h := by cases neg <;> rfl
end

theorem one_num (w : Nat) (hw : 0 < w) : (mkRat 1 w).num = 1 ∧ (mkRat 1 w).den = w := by
  rw [Rat.num_mkRat, Rat.den_mkRat, if_neg (by omega), if_neg (by omega)]
  simp
/-- whose a pool is, partner by partner -/
def plS (n m : Int) (ss ts : List Rat) : List Rat := (ss.zip ts).map fun x => ((n : Rat) * x.1 + (m : Rat) * x.2) * mkRat 1 (n + m).toNat

/-- shares behind a sale -/
def soS (p q : Nat) (part : Rat) (ss : List Rat) : List Rat := (ss.set p (ss.getD p 0 - ss.getD p 0 * part)).set q (ss.getD q 0 + ss.getD p 0 * part)
theorem getD_mem {ss : List Rat} {p : Nat} (hp : p < ss.length) : ss.getD p 0 ∈ ss := by
  rw [List.getD_eq_getElem?_getD, List.getElem?_eq_getElem hp]
  exact List.getElem_mem hp
/-! the other deeds -/
def brD (p k : Nat) (n : Int) : D := .tup [.str "bring", .int p, .int k, .int n]
def poD (a b : Nat) : D := .tup [.str "pool", .int a, .int b]
def swD (a : Nat) (g : Int) (k : Nat) (n : Int) : D := .tup [.str "swap", .int a, .int g, .int k, .int n]
def traD (no : Int) (a : Nat) (g : Int) (k : Nat) (n : Int) : D := .tup [.str "trade", .int no, .int a, .int g, .int k, .int n]
def slD (p q : Nat) (part : Rat) : D := .tup [.str "sell", .int p, .int q, am part]
theorem wq {a b : Str} {v : Bool} (ha : PyData.strOk a = true := by decide +kernel) (hb : PyData.strOk b = true := by decide +kernel) (e : (a == b) = v := by decide +kernel) (h : Hv) : opEqD false (.str a) (.str b) h = .ok (.bl v) h := eq_strs ha hb e false h
theorem ww (h : Hv) : opEqD false (.str "swap") (.str "swap") h = .ok (.bl true) h := wq (h := h)
theorem rt (h : Hv) : opEqD false (.str "trade") (.str "trade") h = .ok (.bl true) h := wq (h := h)
theorem eb (h : Hv) : opEqD false (.str "sell") (.str "bring") h = .ok (.bl false) h := wq (h := h)
section
variable (k : Nat) (ls : List Ld) (hs : List Rat) (nums : List Int) (h : Hv)
variable (P K B x y : Int) (hold : List Rat)
end

/-- whose a load is that one of P brings -/
def brS (P p : Nat) : List Rat := (List.range P).map fun i => if i = p then 1 else 0
section
variable (k : Nat) (ls : List Ld) (hs : List Rat) (nums : List Int) (h : Hv)
def solL (p q : Nat) (part : Rat) (ls : List Ld) : List Ld := ls.map fun l => ⟨l.k, l.n, soS p q part l.sh⟩
end
/-! deeds and states of their own kind -/
inductive Dd where
  | bring (p k : Nat) (n : Int)
  | pool (a b : Nat)
  | swap (a : Nat) (g : Int) (k : Nat) (n : Int)
  | trade (no : Int) (a : Nat) (g : Int) (k : Nat) (n : Int)
  | spoil (a : Nat) (n : Int)
  | throw (a : Nat) (n : Int) (ws : List Int) (w : Int)
  | sell (p q : Nat) (part : Rat)
structure Sta where
  ls : List Ld
  hs : List Rat
  nums : List Int
def Dd.d : Dd → D
  | .bring p k n => brD p k n
  | .pool a b => poD a b
  | .swap a g k n => swD a g k n
  | .trade no a g k n => traD no a g k n
  | .spoil a n => spD a n
  | .throw a n ws w => thD a n (ws ++ [w])
  | .sell p q part => slD p q part
def Sta.d (s : Sta) : D := stD s.ls s.hs s.nums
def Ld.no : Ld := ⟨0, 0, []⟩
def at_ (ls : List Ld) (a : Nat) : Ld := ls.getD a Ld.no
/-- what a throw costs -/
def cost (B : Int) (ls : List Ld) (a : Nat) (n : Int) (ws : List Int) (w : Int) : Rat := mkRat (n * ws.getD (at_ ls a).k 0) (worth B ls ws w).toNat
def after1 (P : Nat) (B : Int) (s : Sta) : Dd → Sta
  | .bring p k n => ⟨s.ls ++ [⟨k, n, brS P p⟩], s.hs, s.nums⟩
  | .pool a b => ⟨lessL (lessL s.ls a (at_ s.ls a) (at_ s.ls a).n) b (at_ s.ls b) (at_ s.ls b).n ++ [⟨(at_ s.ls a).k, (at_ s.ls a).n + (at_ s.ls b).n, plS (at_ s.ls a).n (at_ s.ls b).n (at_ s.ls a).sh (at_ s.ls b).sh⟩], s.hs, s.nums⟩
  | .swap a g k n => ⟨lessL s.ls a (at_ s.ls a) g ++ [⟨k, n, (at_ s.ls a).sh⟩], s.hs, s.nums⟩
  | .trade no a g k n => ⟨lessL s.ls a (at_ s.ls a) g ++ [⟨k, n, (at_ s.ls a).sh⟩], s.hs, s.nums ++ [no]⟩
  | .spoil a n => ⟨lessL s.ls a (at_ s.ls a) n, s.hs, s.nums⟩
  | .throw a n ws w => ⟨thrL (cost B s.ls a n ws w) (at_ s.ls a).sh (lessL s.ls a (at_ s.ls a) n), borne (cost B s.ls a n ws w) (at_ s.ls a).sh s.hs, s.nums⟩
  | .sell p q part => ⟨solL p q part s.ls, soS p q part s.hs, s.nums⟩

/-- a share over M, not beyond 2^t -/
def Sq2 (t M : Nat) (q : Rat) : Prop := q.den ∣ M ∧ 0 ≤ q ∧ q ≤ ((2 ^ t : Nat) : Rat)
theorem Sq2.mul {t M W : Nat} {a b : Rat} (ha : Sq2 t M a) (hb : Sh W b) : Sq2 t (M * W) (a * b) := by
  refine ⟨Nat.dvd_trans (den_mul_dvd a b) (Nat.mul_dvd_mul ha.1 hb.1), Rat.mul_nonneg ha.2.1 hb.2.1, ?_⟩
  have := Rat.mul_le_mul_of_nonneg_left hb.2.2 ha.2.1
  have h1 := ha.2.2
  grind
theorem Sq2.borne {t M W : Nat} {s o p : Rat} (h0 : 0 < M) (h1 : 0 < W) (hs : Sq2 t M s) (ho : Sq2 t M o) (hp : Sh W p) : Sq2 t (M * W) (s * (1 - p) + o * p) := by
  have a := hs.mul (hp.compl h1)
  have b := ho.mul hp
  refine ⟨den_add_dvd (Nat.mul_pos h0 h1) a.1 b.1, ?_, ?_⟩
  · have := a.2.1; have := b.2.1; grind
  · have h2 := Rat.mul_le_mul_of_nonneg_right hs.2.2 (hp.compl h1).2.1
    have h3 := Rat.mul_le_mul_of_nonneg_right ho.2.2 hp.2.1
    generalize ((2 ^ t : Nat) : Rat) = c at *
    grind
theorem Sq2.add {t M : Nat} {a b : Rat} (h0 : 0 < M) (ha : Sq2 t M a) (hb : Sq2 t M b) : Sq2 (t + 1) M (a + b) := by
  refine ⟨den_add_dvd h0 ha.1 hb.1, ?_, ?_⟩
  · have := ha.2.1; have := hb.2.1; grind
  · have e : ((2 ^ (t + 1) : Nat) : Rat) = ((2 ^ t : Nat) : Rat) + ((2 ^ t : Nat) : Rat) := by
      rw [Nat.pow_succ, Nat.mul_two, Rat.natCast_add]
    rw [e]
    have := ha.2.2; have := hb.2.2
    grind
theorem Sq2.pool {t M : Nat} {n m : Int} {a b : Rat} (hM : 0 < M) (hn : 0 ≤ n) (hm : 0 ≤ m) (hnm : 0 < n + m) (ha : Sq2 t M a) (hb : Sq2 t M b) : Sq2 t (M * (n + m).toNat) (((n : Rat) * a + (m : Rat) * b) * mkRat 1 (n + m).toNat) := by
  obtain ⟨w, ew⟩ := Int.eq_ofNat_of_zero_le (a := n + m) (by omega)
  have w0 : 0 < w := by omega
  obtain ⟨i, rfl⟩ := Int.eq_ofNat_of_zero_le hn
  obtain ⟨j, rfl⟩ := Int.eq_ofNat_of_zero_le hm
  have ew' : ((i : Int) + (j : Int)).toNat = w := by omega
  rw [ew']
  obtain ⟨e1, e2⟩ := one_num w w0
  have di : (((i : Int) : Rat) * a).den ∣ M := by
    have := den_mul_dvd ((i : Int) : Rat) a
    rw [Rat.den_intCast, Nat.one_mul] at this
    exact Nat.dvd_trans this ha.1
  have dj : (((j : Int) : Rat) * b).den ∣ M := by
    have := den_mul_dvd ((j : Int) : Rat) b
    rw [Rat.den_intCast, Nat.one_mul] at this
    exact Nat.dvd_trans this hb.1
  have i0 : (0 : Rat) ≤ ((i : Int) : Rat) := by exact_mod_cast hn
  have j0 : (0 : Rat) ≤ ((j : Int) : Rat) := by exact_mod_cast hm
  have inv0 : 0 ≤ mkRat 1 w := by rw [← Rat.num_nonneg, e1]; decide
  have p0 : 0 ≤ ((i : Int) : Rat) * a + ((j : Int) : Rat) * b := by
    have := Rat.mul_nonneg i0 ha.2.1
    have := Rat.mul_nonneg j0 hb.2.1
    grind
  refine ⟨?_, Rat.mul_nonneg p0 inv0, ?_⟩
  · have := den_mul_dvd (((i : Int) : Rat) * a + ((j : Int) : Rat) * b) (mkRat 1 w)
    rw [e2] at this
    exact Nat.dvd_trans this (Nat.mul_dvd_mul (den_add_dvd hM di dj) (Nat.dvd_refl _))
  · have u1 := Rat.mul_le_mul_of_nonneg_left ha.2.2 i0
    have u2 := Rat.mul_le_mul_of_nonneg_left hb.2.2 j0
    have ww : ((w : Nat) : Rat) * mkRat 1 w = 1 := by
      rw [Rat.mkRat_eq_div]
      have : ((w : Nat) : Rat) ≠ 0 := by exact_mod_cast Nat.ne_of_gt w0
      grind
    have wsum : ((i : Int) : Rat) + ((j : Int) : Rat) = ((w : Nat) : Rat) := by
      have : (((i : Int) + (j : Int) : Int) : Rat) = ((w : Int) : Rat) := by rw [ew]
      rw [Rat.intCast_add] at this
      exact this
    generalize ((2 ^ t : Nat) : Rat) = c at *
    have u3 : ((i : Int) : Rat) * a + ((j : Int) : Rat) * b ≤ ((w : Nat) : Rat) * c := by
      rw [← wsum]; grind
    have u4 := Rat.mul_le_mul_of_nonneg_right u3 inv0
    have u5 : ((w : Nat) : Rat) * c * mkRat 1 w = c := by
      have : ((w : Nat) : Rat) * c * mkRat 1 w = c * (((w : Nat) : Rat) * mkRat 1 w) := by grind
      rw [this, ww, Rat.mul_one]
    rw [u5] at u4
    exact u4
/-! what holds of a state behind t deeds -/
def tot (ls : List Ld) : Int := (ls.map fun l => l.n).sum
structure Good (P K t M : Nat) (s : Sta) : Prop where
  len : s.ls.length ≤ 4 + t
  kd : ∀ l ∈ s.ls, l.k < K
  nn : ∀ l ∈ s.ls, 0 ≤ l.n
  tot : tot s.ls ≤ (4 + t) * 2 ^ 101
  sh : ∀ l ∈ s.ls, l.sh.length = P ∧ ∀ q ∈ l.sh, Sq2 t M q
  hs : s.hs.length = P ∧ ∀ q ∈ s.hs, Sq2 t M q
  nums : s.nums.length ≤ t
  M0 : 0 < M
  M1 : M < 2 ^ (60 + 130 * t)
def Can (P K : Nat) (s : Sta) : Dd → Prop
  | .bring p k n => p < P ∧ k < K ∧ 1 ≤ n ∧ n < 2 ^ 101
  | .pool a b => a ≠ b ∧ a < s.ls.length ∧ b < s.ls.length ∧ 1 ≤ (at_ s.ls a).n ∧ 1 ≤ (at_ s.ls b).n ∧ (at_ s.ls a).k = (at_ s.ls b).k
  | .swap a g k n => a < s.ls.length ∧ 1 ≤ g ∧ g ≤ (at_ s.ls a).n ∧ k < K ∧ (at_ s.ls a).k ≠ k ∧ 1 ≤ n ∧ n < 2 ^ 101
  | .trade no a g k n => no ∉ s.nums ∧ a < s.ls.length ∧ 1 ≤ g ∧ g ≤ (at_ s.ls a).n ∧ k < K ∧ (at_ s.ls a).k ≠ k ∧ 1 ≤ n ∧ n < 2 ^ 101 ∧ 0 ≤ no ∧ no ≤ 9
  | .spoil a n => a < s.ls.length ∧ 1 ≤ n ∧ n ≤ (at_ s.ls a).n
  | .throw a n ws w => a < s.ls.length ∧ 1 ≤ n ∧ n ≤ (at_ s.ls a).n ∧ ws.length = K ∧ (∀ v ∈ ws, 1 ≤ v ∧ v ≤ 99) ∧ 1 ≤ w ∧ w ≤ 99
  | .sell p q part => p ≠ q ∧ p < P ∧ q < P ∧ ∃ N, 0 < N ∧ (N ≤ 12 ∧ 0 < part) ∧ Sh N part
theorem at_some {ls : List Ld} {a : Nat} (h : a < ls.length) : ls[a]? = some (at_ ls a) := by
  rw [at_, List.getD_eq_getElem?_getD, List.getElem?_eq_getElem h]; rfl

section
variable {P K t M : Nat} {s : Sta} {B : Int}
end

theorem u_ixL {p : Nat} {ds : List D} {i : Int} {h : Hv} (hp : h[p]? = some (.lst ds)) : opIx (.ref p) (.int i) h = om (atI ds i) (fun d => .ok d h) .stuck := ix_ref _ _ _ _ hp


def lo {α : Type} (o : Option Ob) (f : List D → α) (s : α) : α := match o with
  | some (.lst ds) => f ds
  | _ => s
@[simp] theorem lo_lst {α : Type} (ds : List D) (f : List D → α) (s : α) : lo (some (.lst ds)) f s = f ds := rfl
def oo {α : Type} (o : Option Ob) (f : List D → α) (s : α) : α := match o with
  | some (.lst ds) => f ds
  | some (.ro ds) => f ds
  | _ => s
@[simp] theorem oo_lst {α : Type} (ds : List D) (f : List D → α) (s : α) : oo (some (.lst ds)) f s = f ds := rfl
/-! the law's own state: a list of a list of loads (each a list), the holders, a list of numbers -/
structure Lay where
  s : Nat
  L : Nat
  N : Nat
  rows : List Nat
def Lay.refs (y : Lay) : List Nat := y.s :: y.L :: y.N :: y.rows
def rowO (l : Ld) : Ob := .lst [.int l.k, .int l.n, shD l.sh]
structure SAt (h : Hv) (y : Lay) (S : Sta) : Prop where
  s : h[y.s]? = some (.lst [.ref y.L, shD S.hs, .ref y.N])
  L : h[y.L]? = some (.lst (y.rows.map .ref))
  N : h[y.N]? = some (.lst (S.nums.map .int))
  len : y.rows.length = S.ls.length
  row : ∀ (i r : Nat) (l : Ld), y.rows[i]? = some r → S.ls[i]? = some l → h[r]? = some (rowO l)
  nd : y.refs.Nodup
theorem SAt.frame {h h' : Hv} {y : Lay} {S : Sta} (a : SAt h y S) (f : ∀ r ∈ y.refs, h'[r]? = h[r]?) : SAt h' y S :=
  ⟨by rw [f _ (by simp [Lay.refs])]; exact a.s, by rw [f _ (by simp [Lay.refs])]; exact a.L, by rw [f _ (by simp [Lay.refs])]; exact a.N, a.len,
    fun i r l hr hl => by rw [f r (by simp [Lay.refs, List.mem_of_getElem? hr])]; exact a.row i r l hr hl, a.nd⟩
theorem SAt.lt {h : Hv} {y : Lay} {S : Sta} (a : SAt h y S) : ∀ r ∈ y.refs, r < h.length := by
  intro r hr
  simp only [Lay.refs, List.mem_cons] at hr
  rcases hr with rfl | rfl | rfl | hr
  · exact (List.getElem?_eq_some_iff.1 a.s).1
  · exact (List.getElem?_eq_some_iff.1 a.L).1
  · exact (List.getElem?_eq_some_iff.1 a.N).1
  · obtain ⟨i, hi⟩ := List.getElem?_of_mem hr
    have h1 := (List.getElem?_eq_some_iff.1 hi).1
    have := a.len
    exact (List.getElem?_eq_some_iff.1 (a.row i r _ hi (List.getElem?_eq_getElem (by omega)))).1
theorem SAt.rowAt {h : Hv} {y : Lay} {S : Sta} (a : SAt h y S) {i : Nat} (hi : i < S.ls.length) : ∃ r, y.rows[i]? = some r ∧ r ∈ y.rows ∧ h[r]? = some (rowO (at_ S.ls i)) := by
  have h1 : i < y.rows.length := by have := a.len; omega
  exact ⟨y.rows[i], List.getElem?_eq_getElem h1, List.getElem_mem h1, a.row i _ _ (List.getElem?_eq_getElem h1) (at_some hi)⟩
/-- what a def leaves that answers None, where what it made is not seen -/
theorem gc_any (h h1 : Hv) (hl : h.length ≤ h1.length) : ∃ h2, gc h .non h1 = .ok .non h2 ∧ (∀ i, i < h.length → h2[i]? = h1[i]?) ∧ h.length ≤ h2.length := by
  unfold gc
  split
  · refine ⟨h1.take h.length, rfl, fun i hi => by rw [List.getElem?_take_of_lt hi], by simp; omega⟩
  · exact ⟨h1, rfl, fun _ _ => rfl, hl⟩
theorem gc_keep {h h1 : Hv} {d : D} {i : Nat} {o : Ob} (hi : i < h.length) (h2 : h1[i]? = some o) (ho : o.gr = false) (hne : h[i]? ≠ some o) : gc h d h1 = .ok d h1 := by
  unfold gc
  rw [if_neg]
  rintro ⟨_, e⟩
  rw [sameOrGr, List.all_eq_true] at e
  have := e i (List.mem_range.2 hi)
  rw [h2] at this
  simp only [ho, Bool.or_false, decide_eq_true_eq] at this
  exact hne this.symm


theorem ix_row {h : Hv} {r : Nat} {l : Ld} (hr : h[r]? = some (rowO l)) : opIx (.ref r) (.int 0) h = .ok (.int l.k) h ∧ opIx (.ref r) (.int 1) h = .ok (.int l.n) h ∧ opIx (.ref r) (.int 2) h = .ok (shD l.sh) h := by
  refine ⟨?_, ?_, ?_⟩ <;> rw [ix_ref _ _ _ _ hr] <;> simp
theorem row_old {h : Hv} {g : Hv} {r : Nat} {o : Ob} (hr : h[r]? = some o) : (h ++ g)[r]? = some o := by
  rw [List.getElem?_append_left (List.getElem?_eq_some_iff.1 hr).1, hr]

/-- what a def leaves that deals with a state -/
structure DoRes (h h' : Hv) (y y' : Lay) (S' : Sta) : Prop where
  sat : SAt h' y' S'
  s : y'.s = y.s
  len : h.length ≤ h'.length
  fr : ∀ i, i < h.length → i ∉ y.refs → h'[i]? = h[i]?
  new : ∀ r ∈ y'.refs, r ∈ y.refs ∨ h.length ≤ r
theorem DoRes.same {h h1 : Hv} {y : Lay} {S' : Sta} (a : SAt h1 y S') (hl : h1.length = h.length) (fr : ∀ i, i ∉ y.refs → h1[i]? = h[i]?) : ∃ h2, gc h .non h1 = .ok .non h2 ∧ DoRes h h2 y y S' := by
  obtain ⟨h2, e, f, l⟩ := gc_any h h1 (by omega)
  refine ⟨h2, e, a.frame fun r hr => f r (by have := a.lt r hr; omega), rfl, l, fun i hi hn => ?_, fun r hr => .inl hr⟩
  rw [f i hi, fr i hn]

theorem refs_gr (rs : List Nat) (r : Nat) : (Ob.lst ((rs ++ [r]).map .ref)).gr = false := by
  show D.grs _ = false
  induction rs with
  | nil => rfl
  | cons a rs ih => rfl
/-- where a load has come to the list -/
theorem DoRes.more {h h3 : Hv} {y : Lay} {S S' : Sta} {r : Nat} (sa : SAt h y S) (s3 : SAt h3 ⟨y.s, y.L, y.N, y.rows ++ [r]⟩ S') (hr : h.length ≤ r) (hl : h.length ≤ h3.length) (fr : ∀ i, i < h.length → i ∉ y.refs → h3[i]? = h[i]?) :
    gc h .non h3 = .ok .non h3 ∧ DoRes h h3 y ⟨y.s, y.L, y.N, y.rows ++ [r]⟩ S' := by
  have e3 : h3[y.L]? = some (.lst ((y.rows ++ [r]).map .ref)) := s3.L
  refine ⟨gc_keep (i := y.L) (sa.lt _ (by simp [Lay.refs])) e3 (refs_gr _ _) ?_, s3, rfl, hl, fr, ?_⟩
  · rw [sa.L]
    intro e
    have := congrArg (fun o : Option Ob => match o with
      | some (.lst ds) => ds.length
      | _ => 0) e
    simp at this
  · intro x hx
    simp only [Lay.refs, List.mem_cons, List.mem_append, List.mem_singleton, List.not_mem_nil, or_false] at hx ⊢
    rcases hx with h | h | h | h | h
    · exact .inl (.inl h)
    · exact .inl (.inr (.inl h))
    · exact .inl (.inr (.inr (.inl h)))
    · exact .inl (.inr (.inr (.inr h)))
    · exact .inr (by omega)
section
variable (k P K t M : Nat) (B x y : Int) (hold : List Rat) (S : Sta) (ly : Lay) (h : Hv) (g : Good P K t M S) (ht : t ≤ 20) (hP : P ≤ 900) (sa : SAt h ly S)
include g ht hP sa
end

section
variable (k P K t M : Nat) (S : Sta) (ly : Lay) (h : Hv) (g : Good P K t M S) (ht : t ≤ 20) (hP : P ≤ 900) (sa : SAt h ly S)
include g ht hP sa
end

section
variable (k P K : Nat) (B x y : Int) (hold : List Rat) (S : Sta) (ly : Lay) (h0 : Hv) (hP : 1 ≤ P ∧ P ≤ 4) (hK : 1 ≤ K ∧ K ≤ 5)
include hP hK
end

section
variable (k P K : Nat) (B x y : Int) (hold : List Rat) (S : Sta) (ly : Lay) (h0 : Hv) (hP : 1 ≤ P ∧ P ≤ 4) (hK : 1 ≤ K ∧ K ≤ 5)
include hP hK
end

section
variable (k P K : Nat) (B x y : Int) (hold : List Rat) (S : Sta) (ly : Lay) (h0 : Hv) (hP : 1 ≤ P ∧ P ≤ 4) (hK : 1 ≤ K ∧ K ≤ 5)
include hP hK
end

theorem SAt.kind {h : Hv} {ly : Lay} {S : Sta} (sa : SAt h ly S) {j : Nat} (hj : j < S.ls.length) : ∃ r, opIx (.ref ly.L) (.int j) h = .ok (.ref r) h ∧ opIx (.ref r) (.int 0) h = .ok (.int (at_ S.ls j).k) h ∧ opIx (.ref r) (.int 1) h = .ok (.int (at_ S.ls j).n) h := by
  obtain ⟨r, hr, mr, hrow⟩ := sa.rowAt hj
  have i := ix_row hrow
  exact ⟨r, by rw [ix_ref _ _ _ _ sa.L, at_nat, List.getElem?_map, hr]; rfl, i.1, i.2.1⟩
section
variable (k P K : Nat) (B x y : Int) (hold : List Rat) (S : Sta) (ly : Lay) (h0 : Hv) (hP : 1 ≤ P ∧ P ≤ 4) (hK : 1 ≤ K ∧ K ≤ 5)
include hP hK
end

theorem wsD_gr (ns : List Int) : (wsD ns).gr = true := by
  show D.grs _ = true
  induction ns with
  | nil => rfl
  | cons q qs ih => simpa [D.grs, D.gr] using ih
theorem Dd.gr (d : Dd) : d.d.gr = true := by
  cases d <;> simp [Dd.d, brD, poD, swD, traD, spD, thD, slD, D.gr, D.grs, wsD_gr]
section
variable (k P K : Nat) (B x y : Int) (hold : List Rat) (S : Sta) (ly : Lay) (h0 : Hv) (hP : 1 ≤ P ∧ P ≤ 4) (hK : 1 ≤ K ∧ K ≤ 5)
include hP hK
end

def Dd.w : Dd → Str
  | .bring .. => "bring"
  | .pool .. => "pool"
  | .swap .. => "swap"
  | .trade .. => "trade"
  | .spoil .. => "spoil"
  | .throw .. => "throw"
  | .sell .. => "sell"
def runS (P : Nat) (B : Int) (s : Sta) (ds : List Dd) : Sta := ds.foldl (after1 P B) s
def Cans (P K : Nat) (B : Int) : Sta → List Dd → Prop
  | _, [] => True
  | s, d :: ds => Can P K s d ∧ Cans P K B (after1 P B s d) ds
theorem cans_app {P K : Nat} {B : Int} : ∀ {s : Sta} {ds es : List Dd}, Cans P K B s (ds ++ es) ↔ Cans P K B s ds ∧ Cans P K B (runS P B s ds) es
  | s, [], es => by simp [Cans, runS]
  | s, d :: ds, es => by
    have := cans_app (P := P) (K := K) (B := B) (s := after1 P B s d) (ds := ds) (es := es)
    simp only [List.cons_append, Cans, this, runS, List.foldl_cons, and_assoc]
/-! the law's state behind the pen -/
structure LS (h0 : Hv) (b : Nat) (e : Hv) (ly : Lay) (S : Sta) : Prop where
  sat : ∀ pen, SAt (hp h0 pen e) ly S
  lo : ∀ r ∈ ly.refs, h0.length + 1 + b ≤ r
theorem LS.frame {h0 : Hv} {b : Nat} {e e2 : Hv} {ly : Lay} {S : Sta} (l : LS h0 b e ly S) (f : ∀ i, h0.length + 1 + i ∈ ly.refs → e2[i]? = e[i]?) : LS h0 b e2 ly S :=
  ⟨fun pen => (l.sat pen).frame fun r hr => by
    obtain ⟨k, rfl⟩ : ∃ k, r = h0.length + 1 + k := ⟨r - (h0.length + 1), by have := l.lo r hr; omega⟩
    rw [hp_get1, hp_get1, f k hr], l.lo⟩
theorem LS.set {h0 : Hv} {b : Nat} {e : Hv} {ly : Lay} {S : Sta} (l : LS h0 b e ly S) {i : Nat} (hi : h0.length + 1 + i ∉ ly.refs) (o : Ob) : LS h0 b (e.set i o) ly S :=
  l.frame fun j hj => by
    rw [List.getElem?_set_ne]
    rintro rfl
    exact hi hj

/-! a book, in kinds of its own -/
structure Bk where
  P : Nat
  K : Nat
  B : Int
  x : Int
  y : Int
  hold : List Rat
  ls : List Ld
  ds : List Dd
def Bk.tr (b : Bk) : D := trD b.P b.K b.B b.hold b.x b.y
def Bk.d (b : Bk) : D := bookD b.tr b.ls (b.ds.map Dd.d)
def Bk.s0 (b : Bk) : Sta := ⟨b.ls, b.hold, []⟩
structure BkT (b : Bk) : Prop where
  P : 1 ≤ b.P ∧ b.P ≤ 4
  K : 1 ≤ b.K ∧ b.K ≤ 5
  B : 1 ≤ b.B ∧ b.B ≤ 20
  x : 0 ≤ b.x ∧ b.x ≤ 9
  y : 0 ≤ b.y ∧ b.y ≤ 9
  hold : b.hold.length = b.P ∧ b.hold.sum = 1
  one : ∀ l ∈ b.ls, l.sh.sum = 1
  four : b.ls.length ≤ 4
structure BkC (n : Nat) (b : Bk) : Prop extends BkT b where
  good : ∃ M t, t + b.ds.length ≤ n ∧ Good b.P b.K t M b.s0
  cans : Cans b.P b.K b.B b.s0 b.ds
theorem BkC.len {n : Nat} {b : Bk} (c : BkC n b) : b.ds.length ≤ n := by
  obtain ⟨M, t, ht, g⟩ := c.good
  omega
/-- the same book with other deeds -/
theorem BkC.more {n m : Nat} {b : Bk} (c : BkC n b) (ds : List Dd) (h : n + ds.length ≤ m + b.ds.length) (ca : Cans b.P b.K b.B b.s0 ds) : BkC m { b with ds := ds } := by
  obtain ⟨M, t, ht, g⟩ := c.good
  exact ⟨⟨c.P, c.K, c.B, c.x, c.y, c.hold, c.one, c.four⟩, ⟨M, t, by show t + ds.length ≤ m; omega, g⟩, ca⟩

/-! the law's states, one behind another -/

/-! the program over a book of ours -/
section
variable {n : Nat} {b : Bk} (c : BkC n b) (hn : n ≤ 21)
include c hn
end
section
variable {n : Nat} {b : Bk} (c : BkC n b) (hn : n ≤ 17)
include c hn
end
/-! == of lists of what has no list within -/
mutual
/-- what can be compared: no list, its texts are texts -/
def D.fl : Nat → D → Bool
  | _, .non => true
  | _, .bl _ => true
  | _, .int _ => true
  | _, .str s => PyData.strOk s
  | n + 1, .tup ds => D.fls n ds
  | 0, .tup _ => false
  | _, .ref _ => false
  | _, .fn _ => false
  | _, .exn _ _ => false
def D.fls : Nat → List D → Bool
  | _, [] => true
  | n, d :: ds => D.fl n d && D.fls n ds
end
mutual
def D.pd : D → PyData
  | .non => .none
  | .bl b => .bool b
  | .int i => .int i
  | .str s => .str s
  | .tup ds => .tuple (D.pds ds)
  | .ref _ => .none
  | .fn _ => .none
  | .exn _ _ => .none
def D.pds : List D → List PyData
  | [] => []
  | d :: ds => D.pd d :: D.pds ds
end
mutual
theorem toP_fl (h : Hv) : ∀ (n : Nat) (d : D), D.fl n d = true → toP h n d = some d.pd
  | n, .non, _ => by cases n <;> simp [toP, D.pd]
  | n, .bl _, _ => by cases n <;> simp [toP, D.pd]
  | n, .int _, _ => by cases n <;> simp [toP, D.pd]
  | n, .str s, e => by cases n <;> (simp only [D.fl] at e; simp [toP, D.pd, e])
  | n + 1, .tup ds, e => by
    simp only [D.fl] at e
    simp only [toP, toPs_fl h n ds e, D.pd, Option.map_some]
  | 0, .tup ds, e => by simp [D.fl] at e
  | n, .ref _, e => by cases n <;> simp [D.fl] at e
  | n, .fn _, e => by cases n <;> simp [D.fl] at e
  | n, .exn _ _, e => by cases n <;> simp [D.fl] at e
theorem toPs_fl (h : Hv) : ∀ (n : Nat) (ds : List D), D.fls n ds = true → toPs h n ds = some (D.pds ds)
  | _, [], _ => by simp [toPs, D.pds]
  | n, d :: ds, e => by
    simp only [D.fls, Bool.and_eq_true] at e
    simp only [toPs, toP_fl h n d e.1, toPs_fl h n ds e.2, D.pds]
end
theorem eq_lists {p q : Nat} {ds : List D} {h : Hv} (hp : h[p]? = some (.lst ds)) (hq : h[q]? = some (.lst ds)) (hf : D.fls 59 ds = true) (neg : Bool) : opEqD neg (.ref p) (.ref q) h = .ok (.bl (!neg)) h := by
  have e := toPs_fl h 59 ds hf
  have e1 : toP h 60 (.ref p) = some (.list (D.pds ds)) := by simp only [toP, hp, e, Option.map_some]
  have e2 : toP h 60 (.ref q) = some (.list (D.pds ds)) := by simp only [toP, hq, e, Option.map_some]
  have s := toP_self 60 _ _ e1
  simp only [opEqD, e1, e2, s]
  cases neg <;> rfl

/-! loops, by number -/
theorem for_range {C : Or} {tg : TF} {body : SF} {gs : Guards} (f : Nat → D) (I : Nat → Env → Hv → Prop) : ∀ (n : Nat) (j : Nat)
    (hg : ∀ i env h, I i env h → guardsOk gs h = true)
    (hs : ∀ i env h, i < j + n → I i env h → ∃ env1, tg (f i) env h = some env1 ∧ ∃ env2 h2, body C env1 h = .nx env2 h2 ∧ I (i + 1) env2 h2)
    (env : Env) (h : Hv), I j env h → ∃ env' h', forL C tg body gs ((List.range' j n).map f) env h = .nx env' h' ∧ I (j + n) env' h'
  | 0, j, hg, hs, env, h, p => ⟨env, h, by simp [forL, hg _ _ _ p], p⟩
  | n + 1, j, hg, hs, env, h, p => by
    obtain ⟨env1, e1, env2, h2, e2, p2⟩ := hs j env h (by omega) p
    obtain ⟨env', h', e3, p3⟩ := for_range f I n (j + 1) hg (fun i env h hi => hs i env h (by omega)) env2 h2 p2
    refine ⟨env', h', ?_, by rw [show j + (n + 1) = j + 1 + n by omega]; exact p3⟩
    rw [List.range'_succ, List.map_cons, forL, if_pos (hg _ _ _ p)]
    simp only [e1, e2, e3]
theorem for_upto {C : Or} {tg : TF} {body : SF} {gs : Guards} (f : Nat → D) (I : Nat → Env → Hv → Prop) (n : Nat)
    (hg : ∀ i env h, I i env h → guardsOk gs h = true)
    (hs : ∀ i env h, i < n → I i env h → ∃ env1, tg (f i) env h = some env1 ∧ ∃ env2 h2, body C env1 h = .nx env2 h2 ∧ I (i + 1) env2 h2)
    (env : Env) (h : Hv) (p : I 0 env h) : ∃ env' h', forL C tg body gs ((List.range n).map f) env h = .nx env' h' ∧ I n env' h' := by
  have := for_range (C := C) f I n 0 hg (by simpa using hs) env h p
  rwa [← List.range_eq_range', Nat.zero_add] at this

/-! numbers with a bound: cut into M, not beyond c -/
structure Bn (M c : Nat) (q : Rat) : Prop where
  den : q.den ∣ M
  lo : -(c : Rat) ≤ q
  hi : q ≤ (c : Rat)
theorem rcast (c : Nat) : (((c : Int) : Rat)) = (c : Rat) := rfl
theorem rat_nat_nn (c : Nat) : (0 : Rat) ≤ (c : Rat) := by exact_mod_cast Nat.zero_le c
theorem Bn.neg {M c : Nat} {q : Rat} (h : Bn M c q) : Bn M c (-q) :=
  ⟨by simpa using h.den, by have := h.hi; grind, by have := h.lo; grind⟩
theorem Bn.add {M c d : Nat} {a b : Rat} (h0 : 0 < M) (ha : Bn M c a) (hb : Bn M d b) : Bn M (c + d) (a + b) := by
  refine ⟨den_add_dvd h0 ha.den hb.den, ?_, ?_⟩
  · rw [Rat.natCast_add]; have := ha.lo; have := hb.lo; grind
  · rw [Rat.natCast_add]; have := ha.hi; have := hb.hi; grind
theorem Bn.mul {M c N d : Nat} {a b : Rat} (ha : Bn M c a) (hb : Bn N d b) : Bn (M * N) (c * d) (a * b) := by
  have c0 := rat_nat_nn c
  have d0 := rat_nat_nn d
  have e : ((c * d : Nat) : Rat) = (c : Rat) * (d : Rat) := Rat.natCast_mul ..
  have a1 := ha.lo; have a2 := ha.hi; have b1 := hb.lo; have b2 := hb.hi
  have p1 := Rat.mul_nonneg (a := (c : Rat) - a) (b := (d : Rat) + b) (by grind) (by grind)
  have p2 := Rat.mul_nonneg (a := (c : Rat) + a) (b := (d : Rat) - b) (by grind) (by grind)
  have p3 := Rat.mul_nonneg (a := (c : Rat) + a) (b := (d : Rat) + b) (by grind) (by grind)
  have p4 := Rat.mul_nonneg (a := (c : Rat) - a) (b := (d : Rat) - b) (by grind) (by grind)
  refine ⟨Nat.dvd_trans (den_mul_dvd a b) (Nat.mul_dvd_mul ha.den hb.den), ?_, ?_⟩
  · rw [e]; grind
  · rw [e]; grind
theorem Bn.int {c : Nat} {n : Int} (h : n.natAbs ≤ c) : Bn 1 c (n : Rat) := by
  refine ⟨by simp, ?_, ?_⟩
  · have : -(c : Int) ≤ n := by omega
    have h2 := Rat.intCast_le_intCast.2 this
    rw [Rat.intCast_neg, rcast] at h2
    exact h2
  · have : n ≤ (c : Int) := by omega
    exact_mod_cast this
theorem Bn.zero {M : Nat} : Bn M 0 0 := ⟨Nat.one_dvd _, by simp, by simp⟩
theorem Bn.sum {M c : Nat} (h0 : 0 < M) : ∀ (xs : List Rat), (∀ x ∈ xs, Bn M c x) → Bn M (xs.length * c) xs.sum
  | [], _ => by simpa using Bn.zero
  | x :: xs, h => by
    have := (h x (by simp)).add h0 (Bn.sum h0 xs fun y hy => h y (by simp [hy]))
    rw [List.sum_cons, List.length_cons, Nat.succ_mul, Nat.add_comm]
    exact this
/-! list comprehensions that leave what nobody sees -/


/-! what holds behind each number of deeds -/
structure Facts (P K M : Nat) (s : Sta) : Prop where
  M0 : 0 < M
  M1 : M < 2 ^ 2930
  len : s.ls.length ≤ 21
  kd : ∀ l ∈ s.ls, l.k < K
  n : ∀ l ∈ s.ls, 0 ≤ l.n ∧ l.n < 2 ^ 140
  sl : ∀ l ∈ s.ls, l.sh.length = P
  sh : ∀ l ∈ s.ls, ∀ q ∈ l.sh, Bn M (2 ^ 17) q
  s0 : ∀ l ∈ s.ls, ∀ q ∈ l.sh, 0 ≤ q
  hl : s.hs.length = P
  hs : ∀ q ∈ s.hs, Bn M (2 ^ 17) q
  h0 : ∀ q ∈ s.hs, 0 ≤ q
theorem Facts.part {P K M : Nat} {s : Sta} (F : Facts P K M s) {l : Ld} (hl : l ∈ s.ls) {p : Nat} (hp : p < P) : Bn M (2 ^ 157) ((l.n : Rat) * l.sh.getD p 0) := by
  have a := Bn.int (n := l.n) (c := 2 ^ 140) (by have := F.n l hl; omega)
  have := a.mul (F.sh l hl _ (getD_mem (by rw [F.sl l hl]; exact hp)))
  rwa [Nat.one_mul, ← Nat.pow_add] at this
section
variable {n : Nat} {b : Bk} (c : BkC n b) (hn : n ≤ 17)
include c hn
end
/-! the stock -/
def stock1 (ls : List Ld) (kd : Nat) : Int := ((ls.filter fun l => decide ((l.k : Int) = kd)).map fun l => l.n).sum
def stock (K : Nat) (ls : List Ld) : List Int := (List.range K).map (stock1 ls)
section
variable {n : Nat} {b : Bk} (c : BkC n b) (hn : n ≤ 17)
include c hn
end

/-! shares stay a whole -/

theorem fn_same {f : Str} {r : FnRec} {k : Nat} {args : List D} {h : Hv} {d : D} (t : T f = some r) (hn : args.length = r.np) (hb : r.body (callK T k) (args.map some ++ List.replicate (r.nl - r.np) none) h = .rt d h) : callK T (k + 1) f args h = .ok d h := by
  rw [callK_eq t]
  exact (run_rt hn hb).trans gc_same
/-- a def that hands out a list of what has no list within -/
theorem fn_list {f : Str} {r : FnRec} {k : Nat} {args : List D} {h g : Hv} {ds : List D} {i : Nat} (t : T f = some r) (hn : args.length = r.np) (hb : r.body (callK T k) (args.map some ++ List.replicate (r.nl - r.np) none) h = .rt (.ref (h.length + i)) (h ++ g)) (hi : g[i]? = some (.lst ds)) (hd : D.grs ds = true) : callK T (k + 1) f args h = .ok (.ref h.length) (h ++ [.lst ds]) := by
  rw [callK_eq t]
  exact (run_rt hn hb).trans (gc_ref rfl (fun _ _ => .inl rfl) hi hd)
/-- what does not hang on shares -/
def Alike (s u : Sta) : Prop := s.ls.map (fun l => (l.k, l.n)) = u.ls.map (fun l => (l.k, l.n)) ∧ s.nums = u.nums
theorem Alike.len {s u : Sta} (a : Alike s u) : s.ls.length = u.ls.length := by simpa using congrArg List.length a.1
theorem Alike.at {s u : Sta} (a : Alike s u) (i : Nat) : (at_ s.ls i).k = (at_ u.ls i).k ∧ (at_ s.ls i).n = (at_ u.ls i).n := by
  by_cases hi : i < s.ls.length
  · have h1 := congrArg (·[i]?) a.1
    simp only [List.getElem?_map] at h1
    rw [at_some hi, at_some (by rw [← a.len]; exact hi)] at h1
    simpa using h1
  · have hi2 : ¬ i < u.ls.length := by rw [← a.len]; exact hi
    simp [at_, hi, hi2]
theorem Alike.can {P K : Nat} {s u : Sta} (a : Alike s u) {d : Dd} (c : Can P K s d) : Can P K u d := by
  have l := a.len
  cases d with
  | bring p k n => exact c
  | pool i j =>
    obtain ⟨c1, c2, c3, c4, c5, c6⟩ := c
    have x := a.at i
    have y := a.at j
    exact ⟨c1, by omega, by omega, by omega, by omega, by omega⟩
  | swap i g k n =>
    obtain ⟨c1, c2, c3, c4, c5, c6⟩ := c
    have x := a.at i
    exact ⟨by omega, c2, by omega, c4, by omega, c6⟩
  | trade no i g k n =>
    obtain ⟨c0, c1, c2, c3, c4, c5, c6⟩ := c
    have x := a.at i
    exact ⟨by rw [← a.2]; exact c0, by omega, c2, by omega, c4, by omega, c6⟩
  | spoil i n =>
    obtain ⟨c1, c2, c3⟩ := c
    have x := a.at i
    exact ⟨by omega, c2, by omega⟩
  | throw i n ws w =>
    obtain ⟨c1, c2, c3, c4⟩ := c
    have x := a.at i
    exact ⟨by omega, c2, by omega, c4⟩
  | sell p q part => exact c
theorem alike_less {s u : List Ld} (a : s.map (fun l => (l.k, l.n)) = u.map (fun l => (l.k, l.n))) (i : Nat) (l l' : Ld) (m m' : Int) (hk : l.k = l'.k) (hm : l.n - m = l'.n - m') : (lessL s i l m).map (fun l => (l.k, l.n)) = (lessL u i l' m').map (fun l => (l.k, l.n)) := by
  simp only [lessL, List.map_set, a, hk, hm]
theorem Alike.after {P : Nat} {B : Int} {s u : Sta} (a : Alike s u) (d : Dd) : Alike (after1 P B s d) (after1 P B u d) := by
  cases d with
  | bring p k n => exact ⟨by simp [after1, a.1], a.2⟩
  | pool i j =>
    have x := a.at i
    have y := a.at j
    refine ⟨?_, a.2⟩
    simp only [after1, List.map_append, List.map_cons, List.map_nil]
    rw [alike_less (alike_less a.1 i _ _ (at_ s.ls i).n (at_ u.ls i).n x.1 (by omega)) j _ _ (at_ s.ls j).n (at_ u.ls j).n y.1 (by omega), x.1, x.2, y.2]
  | swap i g k n =>
    have x := a.at i
    refine ⟨?_, a.2⟩
    simp only [after1, List.map_append, List.map_cons, List.map_nil]
    rw [alike_less a.1 i _ _ g g x.1 (by omega)]
  | trade no i g k n =>
    have x := a.at i
    refine ⟨?_, by simp [after1, a.2]⟩
    simp only [after1, List.map_append, List.map_cons, List.map_nil]
    rw [alike_less a.1 i _ _ g g x.1 (by omega)]
  | spoil i n =>
    have x := a.at i
    exact ⟨alike_less a.1 i _ _ _ _ x.1 (by omega), a.2⟩
  | throw i n ws w =>
    have x := a.at i
    refine ⟨?_, a.2⟩
    simp only [after1, thrL, List.map_map, Function.comp_def]
    exact alike_less a.1 i _ _ _ _ x.1 (by omega)
  | sell p q part => exact ⟨by simp only [after1, solL, List.map_map, Function.comp_def]; exact a.1, a.2⟩
theorem Alike.sell {P : Nat} {B : Int} (s : Sta) (p q : Nat) (part : Rat) : Alike (after1 P B s (.sell p q part)) s := ⟨by simp only [after1, solL, List.map_map, Function.comp_def], rfl⟩
theorem Alike.trans {s u v : Sta} (a : Alike s u) (b : Alike u v) : Alike s v := ⟨a.1.trans b.1, a.2.trans b.2⟩
theorem Alike.symm {s u : Sta} (a : Alike s u) : Alike u s := ⟨a.1.symm, a.2.symm⟩
theorem Alike.cans {P K : Nat} {B : Int} : ∀ {ds : List Dd} {s u : Sta}, Alike s u → Cans P K B s ds → Cans P K B u ds
  | [], _, _, _, _ => trivial
  | d :: ds, _, _, a, c => ⟨a.can c.1, (a.after d).cans c.2⟩
def Dd.isSell : Dd → Bool
  | .sell .. => true
  | _ => false
theorem BkT.ds {b : Bk} (t : BkT b) (ds : List Dd) : BkT { b with ds := ds } := ⟨t.P, t.K, t.B, t.x, t.y, t.hold, t.one, t.four⟩
/-- a book without one of its deeds -/
def Bk.out (b : Bk) (i : Nat) : Bk := { b with ds := b.ds.take i ++ b.ds.drop (i + 1) }
theorem BkC.out {n : Nat} {b : Bk} (c : BkC n b) {i : Nat} (hi : i < b.ds.length) (hs : b.ds[i].isSell = true) : BkC n (b.out i) := by
  have hl := c.len
  refine c.more _ (by simp; omega) ?_
  have hc := c.cans
  rw [← List.take_append_drop i b.ds, List.drop_eq_getElem_cons hi] at hc
  obtain ⟨h1, h2, h3⟩ := cans_app.1 hc
  refine cans_app.2 ⟨h1, ?_⟩
  cases hd : b.ds[i] with
  | sell p q part =>
    rw [hd] at h3
    exact (Alike.sell _ p q part).cans h3
  | _ => rw [hd] at hs; cases hs

theorem k42_cell (k : Nat) (ns : List Int) (i : Nat) (h : Hv) (hp : h[0]? = some (Ob.ro (ns.map .int)) ∨ h[0]? = some (Ob.lst (ns.map .int))) : ∃ c : Int, callK T (k + 1) "_law_cell_at" [.ref 0, .int i] h = .ok (.int c) h := by
  rcases hp with hp | hp
  · exact _law_cell_at_ok k ns i 0 h hp
  · by_cases hi : i < ns.length
    · refine ⟨ns[i], ?_⟩
      rw [callK_eq t__law_cell_at]
      refine (run_rt rfl ?_).trans gc_same
      simp [u_var, R__law_cell_at, F__law_cell_at, u_lenl hp, hi, ix_ref _ _ _ _ hp, at_nat]
    · refine ⟨0, ?_⟩
      rw [callK_eq t__law_cell_at]
      refine (run_rt rfl ?_).trans gc_same
      simp [u_var, R__law_cell_at, F__law_cell_at, u_lenl hp, hi]
/-! exceptions by name -/
def exD (e : Str × Option Int) : D := .exn e.1 e.2
def row7 : List (Str × Option Int) := [("NoDeed", none), ("NoFirst", none), ("NoLoad", none), ("NoNext", none), ("NoNumber", none), ("NoOrder", none), ("NoPartner", none)]
def row7b : List (Str × Option Int) := [("NoPrices", none), ("NoRow", none), ("NoSale", none), ("NoText", none), ("NoThrow", none), ("NoTrain", none), ("NothingDone", none)]
def rowE (n : Int) : List (Str × Option Int) := row7 ++ row7b ++ ([("TooMany", none), ("NotDone", some n)] : List (Str × Option Int))
def rowNm : List Str := (rowE 0).map (·.1)
theorem rowE_nm (n : Int) : (rowE n).map (·.1) = rowNm := rfl
theorem row_in : ∀ x ∈ rowNm, xcs.contains x = true := by decide +kernel
theorem row_once : ∀ x ∈ xcs, (rowNm.filter fun y => decide (y = x)).length = 1 := by decide +kernel
theorem rowE_in {n : Int} {e : Str × Option Int} (h : e ∈ rowE n) : xcs.contains e.1 = true := row_in _ (by rw [← rowE_nm n]; exact List.mem_map_of_mem h)
theorem filt_len {T : Str} : ∀ l : List (Str × Option Int), (l.filter fun e => decide (e.1 = T)).length = ((l.map (·.1)).filter fun y => decide (y = T)).length
  | [] => rfl
  | e :: l => by
    rw [List.map_cons, List.filter_cons, List.filter_cons]
    split
    · rw [List.length_cons, List.length_cons, filt_len l]
    · exact filt_len l
theorem rowE_once (n : Int) {T : Str} (h : T ∈ xcs) : ((rowE n).filter fun e => decide (e.1 = T)).length = 1 := by
  rw [filt_len, rowE_nm]; exact row_once T h
/-- how many are of a class -/
def cntF (T : Str) : EF := bltF bLen [(lcF (itE (varF 0)) (nmT 2) [2] (un1F (opXis xcs T) (varF 2)) (varF 2))]
theorem cnt_ok {C : Or} {p : Nat} {n : Int} {z1 : Option D} {H : Hv} (hp : H[p]? = some (.lst ((rowE n).map exD))) {T : Str} (hT : T ∈ xcs) :
    ∃ fs : List D, cntF T C [some (.ref p), z1, none] H = .ok (.int 1) (H ++ [.lst fs]) := by
  have l := lc_pure (C := C) (env := [some (.ref p), z1, none]) (it := itE (varF 0)) (tg := nmT 2) (own := [2]) (t := un1F (opXis xcs T) (varF 2)) (elt := varF 2) (gs := [(p, (rowE n).map exD)]) (h := H) (h1 := H) (rowE n) exD (fun e => decide (e.1 = T)) exD (fun e => [some (.ref p), z1, some (exD e)])
    (itE_l rfl hp) (fun acc => by simp only [guardsOk, List.all_cons, List.all_nil, Bool.and_true, row_old hp]; simp) (fun _ _ _ => rfl)
    (fun e he acc => by
      have q : xcs.contains e.1 = true ∧ xcs.contains T = true := ⟨rowE_in he, List.contains_iff_mem.mpr hT⟩
      simp only [u_un1, u_var, List.getElem?_cons_succ, List.getElem?_cons_zero, bind_ok, exD, opXis, if_pos q])
    (fun _ _ _ _ => rfl) (by show 16 ≤ _; decide)
  refine ⟨((rowE n).filter fun e => decide (e.1 = T)).map exD, ?_⟩
  have ln := u_lenl (last_at H (.lst (((rowE n).filter fun e => decide (e.1 = T)).map exD)))
  rw [List.length_map, rowE_once n hT] at ln
  rw [cntF, u_blt]
  simp only [u_list, u_list0, l, bind_ok]
  exact ln
/-- one more told -/
def appS (T : Str) : SF := expS (methF mAppend (varF 1) [cntF T])
theorem app_ok {C : Or} {p : Nat} {n : Int} {h : Hv} {A : Ob} (hp : h[p]? = some (.lst ((rowE n).map exD))) {T : Str} (hT : T ∈ xcs) (ds : List D) (hd : ds.length ≤ 100) (G : Hv) :
    ∃ G', appS T C [some (.ref p), some (.ref (h.length + 1)), none] (h ++ A :: .lst ds :: G) = .nx [some (.ref p), some (.ref (h.length + 1)), none] (h ++ A :: .lst (ds ++ [.int 1]) :: G') := by
  have hp2 : (h ++ A :: .lst ds :: G)[p]? = some (.lst ((rowE n).map exD)) := row_old hp
  obtain ⟨fs, e⟩ := cnt_ok (C := C) (z1 := some (.ref (h.length + 1))) hp2 hT
  refine ⟨G ++ [.lst fs], ?_⟩
  have g1 : (h ++ A :: .lst ds :: (G ++ [.lst fs]))[h.length + 1]? = some (.lst ds) := by
    rw [List.getElem?_append_right (by omega), show h.length + 1 - h.length = 1 by omega]; rfl
  have s1 : (h ++ A :: .lst ds :: (G ++ [.lst fs])).set (h.length + 1) (.lst (ds ++ [.int 1])) = h ++ A :: .lst (ds ++ [.int 1]) :: (G ++ [.lst fs]) := by
    rw [List.set_append_right _ _ (by omega), show h.length + 1 - h.length = 1 by omega]; rfl
  have a1 : mAppend (.ref (h.length + 1)) [.int 1] (h ++ A :: .lst ds :: (G ++ [.lst fs])) = .ok .non (h ++ A :: .lst (ds ++ [.int 1]) :: (G ++ [.lst fs])) := by
    simp only [mAppend, g1]
    rw [if_pos (by unfold szl; omega), s1]
  have eh : h ++ A :: .lst ds :: G ++ [.lst fs] = h ++ A :: .lst ds :: (G ++ [.lst fs]) := by simp
  rw [eh] at e
  have il : isLst (.ref (h.length + 1)) (h ++ A :: .lst ds :: G) = true := by
    have g0 : (h ++ A :: .lst ds :: G)[h.length + 1]? = some (.lst ds) := by
      rw [List.getElem?_append_right (by omega), show h.length + 1 - h.length = 1 by omega]; rfl
    simp only [isLst, g0]
  simp only [appS, u_exp, methF, u_var, List.getElem?_cons_succ, List.getElem?_cons_zero, bind_ok, u_list, u_list0, e, il, if_true, a1, thenS_ok]
/-- a def that counts eight classes -/
theorem eight_ok {k : Nat} {f T1 T2 T3 T4 T5 T6 T7 T8 : Str} {R : FnRec} (t : T f = some R)
    (hR : R = ⟨1, 3, seqS (asgS (nmT 1) (lstF [cntF T1])) (seqS (appS T2) (seqS (appS T3) (seqS (appS T4) (seqS (appS T5) (seqS (appS T6) (seqS (appS T7) (seqS (retS (binF opAdd (varF 1) (lstF [cntF T8]))) nxS)))))))⟩)
    (m1 : T1 ∈ xcs) (m2 : T2 ∈ xcs) (m3 : T3 ∈ xcs) (m4 : T4 ∈ xcs) (m5 : T5 ∈ xcs) (m6 : T6 ∈ xcs) (m7 : T7 ∈ xcs) (m8 : T8 ∈ xcs) {p : Nat} {n : Int} {h : Hv} (hp : h[p]? = some (.lst ((rowE n).map exD))) :
    callK T (k + 1) f [.ref p] h = .ok (.ref h.length) (h ++ [.lst (List.replicate 8 (.int 1))]) := by
  obtain ⟨f1, e1⟩ := cnt_ok (C := callK T k) (z1 := none) hp m1
  obtain ⟨G2, e2⟩ := app_ok (C := callK T k) (A := .lst f1) hp m2 [.int 1] (by decide) []
  obtain ⟨G3, e3⟩ := app_ok (C := callK T k) (A := .lst f1) hp m3 [.int 1, .int 1] (by decide) G2
  obtain ⟨G4, e4⟩ := app_ok (C := callK T k) (A := .lst f1) hp m4 [.int 1, .int 1, .int 1] (by decide) G3
  obtain ⟨G5, e5⟩ := app_ok (C := callK T k) (A := .lst f1) hp m5 [.int 1, .int 1, .int 1, .int 1] (by decide) G4
  obtain ⟨G6, e6⟩ := app_ok (C := callK T k) (A := .lst f1) hp m6 [.int 1, .int 1, .int 1, .int 1, .int 1] (by decide) G5
  obtain ⟨G7, e7⟩ := app_ok (C := callK T k) (A := .lst f1) hp m7 [.int 1, .int 1, .int 1, .int 1, .int 1, .int 1] (by decide) G6
  obtain ⟨H7, hH7⟩ : ∃ H7, H7 = h ++ .lst f1 :: .lst [.int 1, .int 1, .int 1, .int 1, .int 1, .int 1, .int 1] :: G7 := ⟨_, rfl⟩
  simp only [List.cons_append, List.nil_append] at e2 e3 e4 e5 e6 e7
  rw [← hH7] at e7
  have hp7 : H7[p]? = some (.lst ((rowE n).map exD)) := by rw [hH7]; exact row_old hp
  obtain ⟨f8, e8⟩ := cnt_ok (C := callK T k) (z1 := some (.ref (h.length + 1))) hp7 m8
  have g1 : (H7 ++ [.lst f8] ++ [.lst [.int 1]])[h.length + 1]? = some (.lst [.int 1, .int 1, .int 1, .int 1, .int 1, .int 1, .int 1]) := by
    refine row_old (row_old ?_)
    rw [hH7, List.getElem?_append_right (by omega), show h.length + 1 - h.length = 1 by omega]; rfl
  have g2 : (H7 ++ [Ob.lst f8] ++ [Ob.lst [.int 1]])[(H7 ++ [Ob.lst f8]).length]? = some (.lst [.int 1]) := last_at _ _
  have ad : opAdd (.ref (h.length + 1)) (.ref (H7 ++ [Ob.lst f8]).length) (H7 ++ [Ob.lst f8] ++ [Ob.lst [.int 1]]) = .ok (.ref (H7 ++ [Ob.lst f8] ++ [Ob.lst [.int 1]]).length) (H7 ++ [Ob.lst f8] ++ [Ob.lst [.int 1]] ++ [.lst (List.replicate 8 (.int 1))]) := by
    simp only [opAdd, g1, g2]
    rfl
  have a0 : lstF [cntF T1] (callK T k) [some (.ref p), none, none] h = .ok (.ref (h.length + 1)) (h ++ [.lst f1, .lst [.int 1]]) := by
    simp only [u_lst, u_list, u_list0, e1, bind_ok]
    rw [if_pos (by decide)]
    simp
  have a8 : lstF [cntF T8] (callK T k) [some (.ref p), some (.ref (h.length + 1)), none] H7 = .ok (.ref (H7 ++ [Ob.lst f8]).length) (H7 ++ [Ob.lst f8] ++ [Ob.lst [.int 1]]) := by
    simp only [u_lst, u_list, u_list0, e8, bind_ok]
    rw [if_pos (by decide)]
  have eH : H7 ++ [Ob.lst f8] ++ [Ob.lst [.int 1]] ++ [Ob.lst (List.replicate 8 (.int 1))] = h ++ ((.lst f1 :: .lst [.int 1, .int 1, .int 1, .int 1, .int 1, .int 1, .int 1] :: G7) ++ [Ob.lst f8, Ob.lst [.int 1], Ob.lst (List.replicate 8 (.int 1))]) := by
    rw [hH7]; simp
  have eL : (H7 ++ [Ob.lst f8] ++ [Ob.lst [.int 1]]).length = h.length + (G7.length + 4) := by
    rw [hH7]; simp; try omega
  refine fn_list (g := (.lst f1 :: .lst [.int 1, .int 1, .int 1, .int 1, .int 1, .int 1, .int 1] :: G7) ++ [Ob.lst f8, Ob.lst [.int 1], Ob.lst (List.replicate 8 (.int 1))]) (i := G7.length + 4) (ds := List.replicate 8 (.int 1)) t (by rw [hR]; rfl) ?_ ?_ (by decide)
  · rw [hR]
    show _ = SR.rt (.ref (h.length + (G7.length + 4))) _
    rw [← eH, ← eL]
    simp only [List.map_cons, List.map_nil, List.replicate, List.cons_append, List.nil_append, Nat.reduceSub]
    rw [u_seq, u_asg, a0]
    simp only [thenS_ok, u_nm, List.length_cons, List.length_nil, Nat.reduceAdd, Nat.reduceLT, if_true, om_some, nxt_nx, List.set_cons_succ, List.set_cons_zero]
    rw [u_seq, e2, nxt_nx, u_seq, e3, nxt_nx, u_seq, e4, nxt_nx, u_seq, e5, nxt_nx, u_seq, e6, nxt_nx, u_seq, e7, nxt_nx, u_seq, u_ret, u_bin]
    simp only [u_var, List.getElem?_cons_succ, List.getElem?_cons_zero, bind_ok, a8, ad, thenS_ok, nxt_rt]
    rfl
  · rw [List.getElem?_append_right (by simp)]
    simp
theorem first_ok {k p : Nat} {n : Int} {h : Hv} (hp : h[p]? = some (.lst ((rowE n).map exD))) : callK T (k + 1) "_law_first_ones" [.ref p] h = .ok (.ref h.length) (h ++ [.lst (List.replicate 8 (.int 1))]) :=
  eight_ok t__law_first_ones rfl (by decide +kernel) (by decide +kernel) (by decide +kernel) (by decide +kernel) (by decide +kernel) (by decide +kernel) (by decide +kernel) (by decide +kernel) hp
theorem other_ok {k p : Nat} {n : Int} {h : Hv} (hp : h[p]? = some (.lst ((rowE n).map exD))) : callK T (k + 1) "_law_other_ones" [.ref p] h = .ok (.ref h.length) (h ++ [.lst (List.replicate 8 (.int 1))]) :=
  eight_ok t__law_other_ones rfl (by decide +kernel) (by decide +kernel) (by decide +kernel) (by decide +kernel) (by decide +kernel) (by decide +kernel) (by decide +kernel) (by decide +kernel) hp
/-- the book with a deed that can't be done -/
def badD : D := .tup [.tup [.int 1, .int 1, .int 1, .tup [.tup [.int 1, .int 1]], .int 0, .int 0], .tup [], .tup [.tup [.str "spoil", .int 0, .int 1]]]
theorem bad_ok (k : Nat) (h : Hv) : callK T (k + 4) "first_wrong" [badD] h = .ok (.int 0) h := by
  have e1 : callK T (k + 2) "begun" [badD] h = .ok (.tup [.tup [], .tup [.tup [.int 1, .int 1]], .tup []]) h := by
    refine fn_same t_begun rfl ?_
    simp only [R_begun, F_begun, u_seq, u_asg, u_call, u_exp, u_if, u_ret, u_setS, u_par, u_nx, nxt_nx, nxt_rt, u_list, u_list0, u_var, u_con, u_bin, u_un1, u_and, u_or, u_chain, u_ite, u_blt, u_tup, u_lst, u_slc, u_opt, u_opt0, im_int, u_nm, u_tgs, u_tgs0, u_tupT, List.getElem?_cons_succ, List.getElem?_cons_zero, bind_ok, thenS_ok, thenI_ok, List.length_cons, List.length_nil, Nat.reduceAdd, Nat.reduceSub, Nat.reduceLT, Nat.reduceLeDiff, Nat.zero_le, if_true, om_some, List.set_cons_succ, List.set_cons_zero, bm_bl, Bool.not_true, Bool.not_false, Bool.false_eq_true, if_false, u_add, u_sub, u_neg, u_not, u_lt, u_le, u_gt, u_ge, u_eqI, u_neI, decide_true, decide_false, u_int, u_intb, methF, List.map_cons, List.map_nil, List.replicate, List.cons_append, List.nil_append, badD]
    rfl
  have e2 : callK T (k + 1) "lies" [.tup [], .int 0, .int 1] h = .ok (.bl false) h := by
    refine fn_same t_lies rfl ?_
    rfl
  have e3 : callK T (k + 2) "can_do" [.tup [.tup [], .tup [.tup [.int 1, .int 1]], .tup []], .tup [.str "spoil", .int 0, .int 1]] h = .ok (.bl false) h := by
    refine fn_same t_can_do rfl ?_
    have i0 : ∀ h, opIx (.tup [.str "spoil", .int 0, .int 1]) (.int 0) h = .ok (.str "spoil") h := fun _ => rfl
    have i1 : ∀ h, opIx (.tup [.str "spoil", .int 0, .int 1]) (.int 1) h = .ok (.int 0) h := fun _ => rfl
    have i2 : ∀ h, opIx (.tup [.str "spoil", .int 0, .int 1]) (.int 2) h = .ok (.int 1) h := fun _ => rfl
    have q1 : ∀ h, opEqD false (.str "spoil") (.str "pool") h = .ok (.bl false) h := fun h => eq_strs (v := false) (by decide +kernel) (by decide +kernel) (by decide +kernel) false h
    have q2 : ∀ h, opEqD false (.str "spoil") (.str "trade") h = .ok (.bl false) h := fun h => eq_strs (v := false) (by decide +kernel) (by decide +kernel) (by decide +kernel) false h
    have q3 : ∀ h, opEqD false (.str "spoil") (.str "swap") h = .ok (.bl false) h := fun h => eq_strs (v := false) (by decide +kernel) (by decide +kernel) (by decide +kernel) false h
    have q4 : ∀ h, opIn false (.str "spoil") (.tup [.str "spoil", .str "throw"]) h = .ok (.bl true) h := fun _ => rfl
    simp only [R_can_do, F_can_do, u_seq, u_asg, u_call, u_exp, u_if, u_ret, u_setS, u_par, u_nx, nxt_nx, nxt_rt, u_list, u_list0, u_var, u_con, u_bin, u_un1, u_and, u_or, u_chain, u_ite, u_blt, u_tup, u_lst, u_slc, u_opt, u_opt0, im_int, u_nm, u_tgs, u_tgs0, u_tupT, List.getElem?_cons_succ, List.getElem?_cons_zero, bind_ok, thenS_ok, thenI_ok, List.length_cons, List.length_nil, Nat.reduceAdd, Nat.reduceSub, Nat.reduceLT, Nat.reduceLeDiff, Nat.zero_le, if_true, om_some, List.set_cons_succ, List.set_cons_zero, bm_bl, Bool.not_true, Bool.not_false, Bool.false_eq_true, if_false, u_add, u_sub, u_neg, u_not, u_lt, u_le, u_gt, u_ge, u_eqI, u_neI, decide_true, decide_false, u_int, u_intb, methF, List.map_cons, List.map_nil, List.replicate, List.cons_append, List.nil_append, i0, i1, i2, q1, q2, q3, q4, e2]
  have e4 : callK T (k + 3) "wrong_in" [badD] h = .ok (.int 0) h := by
    refine fn_same t_wrong_in rfl ?_
    have i2 : ∀ h, opIx badD (.int 2) h = .ok (.tup [.tup [.str "spoil", .int 0, .int 1]]) h := fun _ => rfl
    have it : itN (binF opIx (varF 0) (conF (.int 2))) (callK T (k + 2)) [some badD, some (.tup [.tup [], .tup [.tup [.int 1, .int 1]], .tup []]), none, none] h = .ok (enumD 0 [.tup [.str "spoil", .int 0, .int 1]], []) h := rfl
    simp only [R_wrong_in, F_wrong_in, u_seq, u_asg, u_call, u_exp, u_if, u_ret, u_setS, u_par, u_nx, nxt_nx, nxt_rt, u_list, u_list0, u_var, u_con, u_bin, u_un1, u_and, u_or, u_chain, u_ite, u_blt, u_tup, u_lst, u_slc, u_opt, u_opt0, im_int, u_nm, u_tgs, u_tgs0, u_tupT, List.getElem?_cons_succ, List.getElem?_cons_zero, bind_ok, thenS_ok, thenI_ok, List.length_cons, List.length_nil, Nat.reduceAdd, Nat.reduceSub, Nat.reduceLT, Nat.reduceLeDiff, Nat.zero_le, if_true, om_some, List.set_cons_succ, List.set_cons_zero, bm_bl, Bool.not_true, Bool.not_false, Bool.false_eq_true, if_false, u_add, u_sub, u_neg, u_not, u_lt, u_le, u_gt, u_ge, u_eqI, u_neI, decide_true, decide_false, u_int, u_intb, methF, List.map_cons, List.map_nil, List.replicate, List.cons_append, List.nil_append, e1, u_for, it]
    simp only [enumD, forL, guardsOk, List.all_nil, if_true, tupT, u_seq, u_asg, u_call, u_exp, u_if, u_ret, u_setS, u_par, u_nx, nxt_nx, nxt_rt, u_list, u_list0, u_var, u_con, u_bin, u_un1, u_and, u_or, u_chain, u_ite, u_blt, u_tup, u_lst, u_slc, u_opt, u_opt0, im_int, u_nm, u_tgs, u_tgs0, u_tupT, List.getElem?_cons_succ, List.getElem?_cons_zero, bind_ok, thenS_ok, thenI_ok, List.length_cons, List.length_nil, Nat.reduceAdd, Nat.reduceSub, Nat.reduceLT, Nat.reduceLeDiff, Nat.zero_le, if_true, om_some, List.set_cons_succ, List.set_cons_zero, bm_bl, Bool.not_true, Bool.not_false, Bool.false_eq_true, if_false, u_add, u_sub, u_neg, u_not, u_lt, u_le, u_gt, u_ge, u_eqI, u_neI, decide_true, decide_false, u_int, u_intb, methF, List.map_cons, List.map_nil, List.replicate, List.cons_append, List.nil_append, e3]
    rfl
  refine fn_same t_first_wrong rfl ?_
  simp only [R_first_wrong, F_first_wrong, u_seq, u_asg, u_call, u_exp, u_if, u_ret, u_setS, u_par, u_nx, nxt_nx, nxt_rt, u_list, u_list0, u_var, u_con, u_bin, u_un1, u_and, u_or, u_chain, u_ite, u_blt, u_tup, u_lst, u_slc, u_opt, u_opt0, im_int, u_nm, u_tgs, u_tgs0, u_tupT, List.getElem?_cons_succ, List.getElem?_cons_zero, bind_ok, thenS_ok, thenI_ok, List.length_cons, List.length_nil, Nat.reduceAdd, Nat.reduceSub, Nat.reduceLT, Nat.reduceLeDiff, Nat.zero_le, if_true, om_some, List.set_cons_succ, List.set_cons_zero, bm_bl, Bool.not_true, Bool.not_false, Bool.false_eq_true, if_false, u_add, u_sub, u_neg, u_not, u_lt, u_le, u_gt, u_ge, u_eqI, u_neI, decide_true, decide_false, u_int, u_intb, methF, List.map_cons, List.map_nil, List.replicate, List.cons_append, List.nil_append, e4]
/-- one cell -/
theorem k42_turn (ns : List Int) (i r : Nat) (z3 z4 z5 : Option D) (H : Hv) (h0 : H[0]? = some (Ob.ro (ns.map .int)) ∨ H[0]? = some (Ob.lst (ns.map .int))) (hr : H[r]? = some (.lst ((row7 ++ row7b).map exD))) :
    ∃ (g : Hv) (w3 w4 w5 : Option D), F_law_b1 (callK T 44) [some (.ref 0), some (.ref r), some (.int (i : Nat)), z3, z4, z5] H = .nx [some (.ref 0), some (.ref r), some (.int (i : Nat)), w3, w4, w5] (H ++ g) := by
  obtain ⟨cl, ec⟩ := k42_cell 43 ns i H h0
  obtain ⟨pen, hpn, ep⟩ := _law_pen_ok 43 cl H
  obtain ⟨n, p1, a1, b1, hp1, ed⟩ := _law_draw_ok 43 99 H pen [] (by decide) (by decide) hpn
  have ec' : callK T 44 "_law_cell_at" [.ref 0, .int (i : Nat)] H = .ok (.int cl) H := ec
  have ep' : callK T 44 "_law_pen" [.int cl] H = .ok (.ref H.length) (hp H pen []) := ep
  have ed' : callK T 44 "_law_draw" [.ref H.length, .int 99] (hp H pen []) = .ok (.int n) (hp H p1 []) := ed
  obtain ⟨H1, hH1⟩ : ∃ H1, H1 = hp H p1 [] := ⟨_, rfl⟩
  have eH1 : H1 = H ++ [.lst p1] := by rw [hH1]; rfl
  rw [← hH1] at ed'
  have r1 : (H1 ++ [Ob.lst [.exn "TooMany" none, .exn "NotDone" (some n)]])[r]? = some (.lst ((row7 ++ row7b).map exD)) := row_old (by rw [eH1]; exact row_old hr)
  have r2 : (H1 ++ [Ob.lst [.exn "TooMany" none, .exn "NotDone" (some n)]])[H1.length]? = some (.lst [.exn "TooMany" none, .exn "NotDone" (some n)]) := last_at _ _
  obtain ⟨H2, hH2⟩ : ∃ H2, H2 = H1 ++ [Ob.lst [.exn "TooMany" none, .exn "NotDone" (some n)]] ++ [Ob.lst ((rowE n).map exD)] := ⟨_, rfl⟩
  obtain ⟨p, hp⟩ : ∃ p, p = (H1 ++ [Ob.lst [.exn "TooMany" none, .exn "NotDone" (some n)]]).length := ⟨_, rfl⟩
  have ad1 : opAdd (.ref r) (.ref H1.length) (H1 ++ [Ob.lst [.exn "TooMany" none, .exn "NotDone" (some n)]]) = .ok (.ref p) H2 := by
    simp only [opAdd, r1, r2]
    rw [hp, hH2]
    rfl
  have at2 : H2[p]? = some (.lst ((rowE n).map exD)) := by rw [hH2, hp]; exact last_at _ _
  have lf1 : lstF [(xcF "TooMany"), (un1F (opXat "NotDone") (varF 3))] (callK T 44) [some (.ref 0), some (.ref r), some (.int (i : Nat)), some (.int n), z4, z5] H1 = .ok (.ref H1.length) (H1 ++ [Ob.lst [.exn "TooMany" none, .exn "NotDone" (some n)]]) := by
    simp only [u_seq, u_asg, u_call, u_exp, u_if, u_ret, u_setS, u_par, u_nx, nxt_nx, nxt_rt, u_list, u_list0, u_var, u_con, u_bin, u_un1, u_and, u_or, u_chain, u_ite, u_blt, u_tup, u_lst, u_slc, u_opt, u_opt0, im_int, u_nm, u_tgs, u_tgs0, u_tupT, List.getElem?_cons_succ, List.getElem?_cons_zero, bind_ok, thenS_ok, thenI_ok, List.length_cons, List.length_nil, Nat.reduceAdd, Nat.reduceSub, Nat.reduceLT, Nat.reduceLeDiff, Nat.zero_le, if_true, om_some, List.set_cons_succ, List.set_cons_zero, bm_bl, Bool.not_true, Bool.not_false, Bool.false_eq_true, if_false, u_add, u_sub, u_neg, u_not, u_lt, u_le, u_gt, u_ge, u_eqI, u_neI, decide_true, decide_false, u_int, u_intb, methF, List.map_cons, List.map_nil, List.replicate, List.cons_append, List.nil_append, xcF, opXat]
  have lc := lc_pure (C := callK T 44) (env := [some (.ref 0), some (.ref r), some (.int (i : Nat)), some (.int n), some (.ref p), z5]) (it := itE (varF 4)) (tg := nmT 5) (own := [5]) (t := orF (un1F opNot (un1F (opXve xcs) (varF 5))) (un1F opNot (un1F (opXve xcs) (varF 5)))) (elt := varF 5) (gs := [(p, (rowE n).map exD)]) (h := H2) (h1 := H2) (rowE n) exD (fun _ => false) exD (fun e => [some (.ref 0), some (.ref r), some (.int (i : Nat)), some (.int n), some (.ref p), some (exD e)])
    (itE_l rfl at2) (fun acc => by simp only [guardsOk, List.all_cons, List.all_nil, Bool.and_true, row_old at2]; simp) (fun _ _ _ => rfl)
    (fun e he acc => by
      have q := rowE_in he
      simp only [u_or, u_un1, u_var, List.getElem?_cons_succ, List.getElem?_cons_zero, bind_ok, exD, opXve, if_pos q, u_not, Bool.not_true]
      rfl)
    (fun _ _ z _ => by cases z) (by show 16 ≤ _; decide)
  have f0 : (rowE n).filter (fun _ => false) = [] := by simp
  rw [f0, List.map_nil] at lc
  have q1 := eq_lists (p := H2.length) (q := (H2 ++ [Ob.lst []]).length) (ds := []) (row_old (g := [.lst []]) (last_at H2 (.lst []))) (last_at (H2 ++ [Ob.lst []]) (.lst [])) rfl true
  obtain ⟨H3, hH3⟩ : ∃ H3, H3 = H2 ++ [Ob.lst []] ++ [Ob.lst []] := ⟨_, rfl⟩
  rw [← hH3] at q1
  have lf0 : lstF [] (callK T 44) [some (.ref 0), some (.ref r), some (.int (i : Nat)), some (.int n), some (.ref p), z5] (H2 ++ [Ob.lst []]) = .ok (.ref (H2 ++ [Ob.lst []]).length) H3 := by
    rw [hH3]
    simp only [u_seq, u_asg, u_call, u_exp, u_if, u_ret, u_setS, u_par, u_nx, nxt_nx, nxt_rt, u_list, u_list0, u_var, u_con, u_bin, u_un1, u_and, u_or, u_chain, u_ite, u_blt, u_tup, u_lst, u_slc, u_opt, u_opt0, im_int, u_nm, u_tgs, u_tgs0, u_tupT, List.getElem?_cons_succ, List.getElem?_cons_zero, bind_ok, thenS_ok, thenI_ok, List.length_cons, List.length_nil, Nat.reduceAdd, Nat.reduceSub, Nat.reduceLT, Nat.reduceLeDiff, Nat.zero_le, if_true, om_some, List.set_cons_succ, List.set_cons_zero, bm_bl, Bool.not_true, Bool.not_false, Bool.false_eq_true, if_false, u_add, u_sub, u_neg, u_not, u_lt, u_le, u_gt, u_ge, u_eqI, u_neI, decide_true, decide_false, u_int, u_intb, methF, List.map_cons, List.map_nil, List.replicate, List.cons_append, List.nil_append]
  have at3 : H3[p]? = some (.lst ((rowE n).map exD)) := by rw [hH3]; exact row_old (row_old at2)
  have o1 : callK T 44 "_law_first_ones" [.ref p] H3 = _ := first_ok (k := 43) at3
  have o2 : callK T 44 "_law_other_ones" [.ref p] (H3 ++ [Ob.lst (List.replicate 8 (.int 1))]) = _ := other_ok (k := 43) (row_old at3)
  obtain ⟨H5, hH5⟩ : ∃ H5, H5 = H3 ++ [Ob.lst (List.replicate 8 (.int 1))] ++ [Ob.lst (List.replicate 8 (.int 1))] := ⟨_, rfl⟩
  rw [← hH5] at o2
  have s1 : H5[H3.length]? = some (.lst (List.replicate 8 (.int 1))) := by rw [hH5]; exact row_old (last_at _ _)
  have s2 : H5[(H3 ++ [Ob.lst (List.replicate 8 (.int 1))]).length]? = some (.lst (List.replicate 8 (.int 1))) := by rw [hH5]; exact last_at _ _
  have ad2 : opAdd (.ref H3.length) (.ref (H3 ++ [Ob.lst (List.replicate 8 (.int 1))]).length) H5 = .ok (.ref H5.length) (H5 ++ [.lst (List.replicate 16 (.int 1))]) := by
    simp only [opAdd, s1, s2]
    rfl
  have lf2 : lstF [(conF (.int 1))] (callK T 44) [some (.ref 0), some (.ref r), some (.int (i : Nat)), some (.int n), some (.ref p), z5] (H5 ++ [Ob.lst (List.replicate 16 (.int 1))]) = .ok (.ref (H5 ++ [Ob.lst (List.replicate 16 (.int 1))]).length) (H5 ++ [Ob.lst (List.replicate 16 (.int 1))] ++ [.lst [.int 1]]) := by
    simp only [u_seq, u_asg, u_call, u_exp, u_if, u_ret, u_setS, u_par, u_nx, nxt_nx, nxt_rt, u_list, u_list0, u_var, u_con, u_bin, u_un1, u_and, u_or, u_chain, u_ite, u_blt, u_tup, u_lst, u_slc, u_opt, u_opt0, im_int, u_nm, u_tgs, u_tgs0, u_tupT, List.getElem?_cons_succ, List.getElem?_cons_zero, bind_ok, thenS_ok, thenI_ok, List.length_cons, List.length_nil, Nat.reduceAdd, Nat.reduceSub, Nat.reduceLT, Nat.reduceLeDiff, Nat.zero_le, if_true, om_some, List.set_cons_succ, List.set_cons_zero, bm_bl, Bool.not_true, Bool.not_false, Bool.false_eq_true, if_false, u_add, u_sub, u_neg, u_not, u_lt, u_le, u_gt, u_ge, u_eqI, u_neI, decide_true, decide_false, u_int, u_intb, methF, List.map_cons, List.map_nil, List.replicate, List.cons_append, List.nil_append]
  have m1 : opMul (.ref (H5 ++ [Ob.lst (List.replicate 16 (.int 1))]).length) (.int 16) (H5 ++ [Ob.lst (List.replicate 16 (.int 1))] ++ [.lst [.int 1]]) = .ok (.ref (H5 ++ [Ob.lst (List.replicate 16 (.int 1))] ++ [Ob.lst [.int 1]]).length) (H5 ++ [Ob.lst (List.replicate 16 (.int 1))] ++ [Ob.lst [.int 1]] ++ [.lst (List.replicate 16 (.int 1))]) := by
    have := last_at (H5 ++ [Ob.lst (List.replicate 16 (.int 1))]) (Ob.lst [.int 1])
    simp only [opMul, this]
    rfl
  have q2 := eq_lists (p := H5.length) (q := (H5 ++ [Ob.lst (List.replicate 16 (.int 1))] ++ [Ob.lst [.int 1]]).length) (ds := List.replicate 16 (.int 1)) (row_old (g := [.lst (List.replicate 16 (.int 1))]) (row_old (g := [.lst [.int 1]]) (last_at H5 (.lst (List.replicate 16 (.int 1)))))) (last_at (H5 ++ [Ob.lst (List.replicate 16 (.int 1))] ++ [Ob.lst [.int 1]]) (.lst (List.replicate 16 (.int 1)))) rfl true
  obtain ⟨H6, hH6⟩ : ∃ H6, H6 = H5 ++ [Ob.lst (List.replicate 16 (.int 1))] ++ [Ob.lst [.int 1]] ++ [Ob.lst (List.replicate 16 (.int 1))] := ⟨_, rfl⟩
  rw [← hH6] at q2 m1
  have at6 : H6[p]? = some (.lst ((rowE n).map exD)) := by rw [hH6, hH5]; exact row_old (row_old (row_old (row_old (row_old at3))))
  have ix : opIx (.ref p) (.int (-1)) H6 = .ok (.exn "NotDone" (some n)) H6 := by
    rw [u_ixL at6]
    rfl
  have xf : opXf xcs (.exn "NotDone" (some n)) H6 = .ok (.int n) H6 := by
    have q : xcs.contains "NotDone" = true := by decide +kernel
    simp only [opXf, if_pos q]
  have q3 : opEqD true (.int n) (.int n) H6 = .ok (.bl false) H6 := by simp
  obtain ⟨g, hg⟩ : ∃ g, H6 = H ++ g := by
    rw [hH6, hH5, hH3, hH2, eH1]
    simp only [List.append_assoc]
    exact ⟨_, rfl⟩
  refine ⟨g, some (.int n), some (.ref p), z5, ?_⟩
  rw [← hg, F_law_b1]
  rw [u_seq, u_asg]
  simp only [u_call, u_list, u_list0, u_var, u_con, List.getElem?_cons_succ, List.getElem?_cons_zero, bind_ok, ec', ep', ed', thenS_ok, u_nm, List.length_cons, List.length_nil, Nat.reduceAdd, Nat.reduceLT, if_true, om_some, nxt_nx, List.set_cons_succ, List.set_cons_zero]
  rw [u_seq, u_asg, u_bin]
  simp only [u_var, List.getElem?_cons_succ, List.getElem?_cons_zero, bind_ok, lf1, ad1, thenS_ok, u_nm, List.length_cons, List.length_nil, Nat.reduceAdd, Nat.reduceLT, if_true, om_some, nxt_nx, List.set_cons_succ, List.set_cons_zero]
  rw [u_seq, u_if, u_bin, lc, bind_ok, lf0, bind_ok, q1]
  simp only [thenS_ok, bm_bl, Bool.not_true, Bool.false_eq_true, if_false, u_nx, nxt_nx]
  rw [u_seq, u_if, u_or, u_bin, u_bin]
  simp only [u_call, u_list, u_list0, u_var, u_con, u_un1, u_neg, u_bin, List.getElem?_cons_succ, List.getElem?_cons_zero, bind_ok, o1, o2, ad2, lf2, m1, q2, bm_bl, Bool.not_true, Bool.false_eq_true, if_false, ix, xf, q3, thenS_ok, u_nx, nxt_nx]
theorem k42_law (ns : List Int) (h : Hv) (ho : h[0]? = some (Ob.ro (ns.map .int)) ∨ h[0]? = some (Ob.lst (ns.map .int))) : ∃ h', callK T 45 "law" [.ref 0] h = .ok (.bl true) h' := by
  obtain ⟨q, eq, q1⟩ : ∃ q : Nat, (if (if (3 : Int) < (ns.length : Int) then 3 else (ns.length : Int)) > 1 then (if (3 : Int) < (ns.length : Int) then 3 else (ns.length : Int)) else 1) = (q : Int) ∧ q ≤ 1000 := by
    refine ⟨(if (if (3 : Int) < (ns.length : Int) then 3 else (ns.length : Int)) > 1 then (if (3 : Int) < (ns.length : Int) then 3 else (ns.length : Int)) else 1).toNat, ?_, ?_⟩
    · split <;> split <;> omega
    · split <;> split <;> omega
  obtain ⟨HR, hHR⟩ : ∃ HR, HR = h ++ [Ob.lst (row7.map exD)] ++ [Ob.lst (row7b.map exD)] ++ [Ob.lst ((row7 ++ row7b).map exD)] := ⟨_, rfl⟩
  obtain ⟨r, hr⟩ : ∃ r, r = (h ++ [Ob.lst (row7.map exD)] ++ [Ob.lst (row7b.map exD)]).length := ⟨_, rfl⟩
  have at_ : HR[r]? = some (.lst ((row7 ++ row7b).map exD)) := by rw [hHR, hr]; exact last_at _ _
  have h0 : HR[0]? = some (Ob.ro (ns.map .int)) ∨ HR[0]? = some (Ob.lst (ns.map .int)) := by
    rw [hHR]
    rcases ho with ho | ho
    · exact .inl (row_old (row_old (row_old ho)))
    · exact .inr (row_old (row_old (row_old ho)))
  have lf1 : lstF [(xcF "NoDeed"), (xcF "NoFirst"), (xcF "NoLoad"), (xcF "NoNext"), (xcF "NoNumber"), (xcF "NoOrder"), (xcF "NoPartner")] (callK T 44) [some (.ref 0), none, none, none, none, none] h = .ok (.ref h.length) (h ++ [Ob.lst (row7.map exD)]) := by
    simp only [u_seq, u_asg, u_call, u_exp, u_if, u_ret, u_setS, u_par, u_nx, nxt_nx, nxt_rt, u_list, u_list0, u_var, u_con, u_bin, u_un1, u_and, u_or, u_chain, u_ite, u_blt, u_tup, u_lst, u_slc, u_opt, u_opt0, im_int, u_nm, u_tgs, u_tgs0, u_tupT, List.getElem?_cons_succ, List.getElem?_cons_zero, bind_ok, thenS_ok, thenI_ok, List.length_cons, List.length_nil, Nat.reduceAdd, Nat.reduceSub, Nat.reduceLT, Nat.reduceLeDiff, Nat.zero_le, if_true, om_some, List.set_cons_succ, List.set_cons_zero, bm_bl, Bool.not_true, Bool.not_false, Bool.false_eq_true, if_false, u_add, u_sub, u_neg, u_not, u_lt, u_le, u_gt, u_ge, u_eqI, u_neI, decide_true, decide_false, u_int, u_intb, methF, List.map_cons, List.map_nil, List.replicate, List.cons_append, List.nil_append, xcF]
    rfl
  have lf2 : lstF [(xcF "NoPrices"), (xcF "NoRow"), (xcF "NoSale"), (xcF "NoText"), (xcF "NoThrow"), (xcF "NoTrain"), (xcF "NothingDone")] (callK T 44) [some (.ref 0), some (.ref h.length), none, none, none, none] (h ++ [Ob.lst (row7.map exD)]) = .ok (.ref (h ++ [Ob.lst (row7.map exD)]).length) (h ++ [Ob.lst (row7.map exD)] ++ [Ob.lst (row7b.map exD)]) := by
    simp only [u_seq, u_asg, u_call, u_exp, u_if, u_ret, u_setS, u_par, u_nx, nxt_nx, nxt_rt, u_list, u_list0, u_var, u_con, u_bin, u_un1, u_and, u_or, u_chain, u_ite, u_blt, u_tup, u_lst, u_slc, u_opt, u_opt0, im_int, u_nm, u_tgs, u_tgs0, u_tupT, List.getElem?_cons_succ, List.getElem?_cons_zero, bind_ok, thenS_ok, thenI_ok, List.length_cons, List.length_nil, Nat.reduceAdd, Nat.reduceSub, Nat.reduceLT, Nat.reduceLeDiff, Nat.zero_le, if_true, om_some, List.set_cons_succ, List.set_cons_zero, bm_bl, Bool.not_true, Bool.not_false, Bool.false_eq_true, if_false, u_add, u_sub, u_neg, u_not, u_lt, u_le, u_gt, u_ge, u_eqI, u_neI, decide_true, decide_false, u_int, u_intb, methF, List.map_cons, List.map_nil, List.replicate, List.cons_append, List.nil_append, xcF]
    rfl
  have a1 : (h ++ [Ob.lst (row7.map exD)] ++ [Ob.lst (row7b.map exD)])[h.length]? = some (.lst (row7.map exD)) := row_old (last_at _ _)
  have a2 : (h ++ [Ob.lst (row7.map exD)] ++ [Ob.lst (row7b.map exD)])[(h ++ [Ob.lst (row7.map exD)]).length]? = some (.lst (row7b.map exD)) := last_at _ _
  have ad : opAdd (.ref h.length) (.ref (h ++ [Ob.lst (row7.map exD)]).length) (h ++ [Ob.lst (row7.map exD)] ++ [Ob.lst (row7b.map exD)]) = .ok (.ref r) HR := by
    simp only [opAdd, a1, a2]
    rw [hr, hHR]
    rfl
  have hit : ∀ z, it1F (bltF bMax [(conF (.int 1)), (bltF bMin [(bltF bLen [(varF 0)]), (conF (.int 3))])]) (callK T 44) [some (.ref 0), some (.ref r), z, none, none, none] HR = .ok ((List.range q).map fun i => .int (i : Nat), []) HR := fun z => by
    refine it1_ok (n := q) ?_ (by omega)
    have ln : bLen [.ref 0] HR = .ok (.int (ns.length : Nat)) HR := by
      rcases h0 with h0 | h0
      · have := u_lenr h0; rwa [List.length_map] at this
      · have := u_lenl h0; rwa [List.length_map] at this
    simp only [u_blt, u_list, u_list0, u_con, bind_ok, u_var, List.getElem?_cons_zero, ln, u_min, u_max, eq]
  obtain ⟨env', h', ef, ⟨w2, w3, w4, w5, rfl⟩, g, rfl⟩ := for_upto (C := callK T 44) (tg := nmT 2) (body := F_law_b1) (gs := []) (fun i => .int (i : Nat))
    (fun _ env H => (∃ w2 w3 w4 w5, env = [some (.ref 0), some (.ref r), w2, w3, w4, w5]) ∧ ∃ g, H = HR ++ g) q
    (fun _ _ _ _ => rfl)
    (by
      rintro i env H hi ⟨⟨w2, w3, w4, w5, rfl⟩, g, rfl⟩
      have h1 : (HR ++ g)[0]? = some (Ob.ro (ns.map .int)) ∨ (HR ++ g)[0]? = some (Ob.lst (ns.map .int)) := by
        rcases h0 with h0 | h0
        · exact .inl (row_old h0)
        · exact .inr (row_old h0)
      obtain ⟨g2, v3, v4, v5, e⟩ := k42_turn ns i r w3 w4 w5 (HR ++ g) h1 (row_old at_)
      exact ⟨_, rfl, _, _, e, ⟨_, _, _, _, rfl⟩, g ++ g2, by rw [List.append_assoc]⟩)
    [some (.ref 0), some (.ref r), none, none, none, none] HR ⟨⟨_, _, _, _, rfl⟩, [], by rw [List.append_nil]⟩
  have eb : callK T 44 "first_wrong" [.tup [.tup [.int 1, .int 1, .int 1, .tup [.tup [.int 1, .int 1]], .int 0, .int 0], .tup [], .tup [.tup [.str "spoil", .int 0, .int 1]]]] (HR ++ g) = .ok (.int 0) (HR ++ g) := bad_ok 40 _
  have key : F_law (callK T 44) [some (.ref 0), none, none, none, none, none] h = .rt (.bl true) (HR ++ g) := by
    rw [F_law, u_seq, u_asg, lf1]
    simp only [thenS_ok, u_nm, List.length_cons, List.length_nil, Nat.reduceAdd, Nat.reduceLT, if_true, om_some, nxt_nx, List.set_cons_succ, List.set_cons_zero]
    rw [u_seq, u_asg, u_bin]
    simp only [u_var, List.getElem?_cons_succ, List.getElem?_cons_zero, bind_ok, lf2, ad, thenS_ok, u_nm, List.length_cons, List.length_nil, Nat.reduceAdd, Nat.reduceLT, if_true, om_some, nxt_nx, List.set_cons_succ, List.set_cons_zero]
    rw [u_seq, u_for, hit, thenI_ok]
    simp only [ef, nxt_nx]
    simp only [u_seq, u_asg, u_call, u_exp, u_if, u_ret, u_setS, u_par, u_nx, nxt_nx, nxt_rt, u_list, u_list0, u_var, u_con, u_bin, u_un1, u_and, u_or, u_chain, u_ite, u_blt, u_tup, u_lst, u_slc, u_opt, u_opt0, im_int, u_nm, u_tgs, u_tgs0, u_tupT, List.getElem?_cons_succ, List.getElem?_cons_zero, bind_ok, thenS_ok, thenI_ok, List.length_cons, List.length_nil, Nat.reduceAdd, Nat.reduceSub, Nat.reduceLT, Nat.reduceLeDiff, Nat.zero_le, if_true, om_some, List.set_cons_succ, List.set_cons_zero, bm_bl, Bool.not_true, Bool.not_false, Bool.false_eq_true, if_false, u_add, u_sub, u_neg, u_not, u_lt, u_le, u_gt, u_ge, u_eqI, u_neI, decide_true, decide_false, u_int, u_intb, methF, List.map_cons, List.map_nil, List.replicate, List.cons_append, List.nil_append, eb]
  have fin : ∀ h h' : Hv, ∃ h2, gc h (.bl true) h' = .ok (.bl true) h2 := by
    intro h h'
    unfold gc
    split
    · exact ⟨_, rfl⟩
    · exact ⟨_, rfl⟩
  obtain ⟨h2, e2⟩ := fin h (HR ++ g)
  refine ⟨h2, ?_⟩
  rw [callK_eq t_law]
  exact (run_rt rfl key).trans e2
theorem law_true0 : ∀ ns : List Int, ns.length ≤ 63 → ∀ o, (o = Ob.ro (ns.map .int) ∨ o = Ob.lst (ns.map .int)) → ∃ h', callK T 45 "law" [.ref 0] [o] = .ok (.bl true) h' := fun ns _ o ho =>
  k42_law ns [o] (by
    rcases ho with rfl | rfl
    · exact .inl rfl
    · exact .inr rfl)
end VM
namespace VM
open PySem PySem.Spec PyProof.Rows L2
theorem inis_ok : ∀ d ∈ inis, d.okB = true ∧ d.Bd := by
  intro d hd
  simp only [inis, List.mem_cons, List.not_mem_nil, or_false] at hd
  subst hd
  exact ⟨by decide +kernel, fun _ _ _ _ _ _ us hl => match us, hl with | [_, _], _ => rfl⟩
abbrev gl : Str → Option GV := glOfL os (hofsOf hrs) names cons blts ex0 (inis.map IniD.cls)
theorem c_common : compRow 60 gl fz.ex row_common.N row_common.st (decide (row_common.x ∈ lams)) row_common.x = F_common := by kernel_rfl
theorem b_common : row_common.Bd := fun _ _ _ _ _ _ us hl => match us, hl with | [_, _], _ => rfl
theorem k_common : row_common.okB = true := by decide +kernel
theorem c_made : compRow 60 gl fz.ex row_made.N row_made.st (decide (row_made.x ∈ lams)) row_made.x = F_made := by kernel_rfl
theorem b_made : row_made.Bd := fun _ _ _ _ _ _ us hl => match us, hl with | [_, _], _ => rfl
theorem k_made : row_made.okB = true := by decide +kernel
theorem c_plus : compRow 60 gl fz.ex row_plus.N row_plus.st (decide (row_plus.x ∈ lams)) row_plus.x = F_plus := by kernel_rfl
theorem b_plus : row_plus.Bd := fun _ _ _ _ _ _ us hl => match us, hl with | [_, _], _ => rfl
theorem k_plus : row_plus.okB = true := by decide +kernel
theorem c_less : compRow 60 gl fz.ex row_less.N row_less.st (decide (row_less.x ∈ lams)) row_less.x = F_less := by kernel_rfl
theorem b_less : row_less.Bd := fun _ _ _ _ _ _ us hl => match us, hl with | [_, _], _ => rfl
theorem k_less : row_less.okB = true := by decide +kernel
theorem c_times : compRow 60 gl fz.ex row_times.N row_times.st (decide (row_times.x ∈ lams)) row_times.x = F_times := by kernel_rfl
theorem b_times : row_times.Bd := fun _ _ _ _ _ _ us hl => match us, hl with | [_, _], _ => rfl
theorem k_times : row_times.okB = true := by decide +kernel
theorem c_so_many : compRow 60 gl fz.ex row_so_many.N row_so_many.st (decide (row_so_many.x ∈ lams)) row_so_many.x = F_so_many := by kernel_rfl
theorem b_so_many : row_so_many.Bd := fun _ _ _ _ _ _ us hl => match us, hl with | [_, _], _ => rfl
theorem k_so_many : row_so_many.okB = true := by decide +kernel
theorem c_lies : compRow 60 gl fz.ex row_lies.N row_lies.st (decide (row_lies.x ∈ lams)) row_lies.x = F_lies := by kernel_rfl
theorem b_lies : row_lies.Bd := fun _ _ _ _ _ _ us hl => match us, hl with | [_, _, _], _ => rfl
theorem k_lies : row_lies.okB = true := by decide +kernel
theorem c_can_do : compRow 60 gl fz.ex row_can_do.N row_can_do.st (decide (row_can_do.x ∈ lams)) row_can_do.x = F_can_do := by kernel_rfl
theorem b_can_do : row_can_do.Bd := fun _ _ _ _ _ _ us hl => match us, hl with | [_, _], _ => rfl
theorem k_can_do : row_can_do.okB = true := by decide +kernel
theorem c_with_less : compRow 60 gl fz.ex row_with_less.N row_with_less.st (decide (row_with_less.x ∈ lams)) row_with_less.x = F_with_less := by kernel_rfl
theorem b_with_less : row_with_less.Bd := fun _ _ _ _ _ _ us hl => match us, hl with | [_, _, _], _ => rfl
theorem k_with_less : row_with_less.okB = true := by decide +kernel
theorem c_pooled : compRow 60 gl fz.ex row_pooled.N row_pooled.st (decide (row_pooled.x ∈ lams)) row_pooled.x = F_pooled := by kernel_rfl
theorem b_pooled : row_pooled.Bd := fun _ _ _ _ _ _ us hl => match us, hl with | [_, _, _], _ => rfl
theorem k_pooled : row_pooled.okB = true := by decide +kernel
theorem c_sold_of : compRow 60 gl fz.ex row_sold_of.N row_sold_of.st (decide (row_sold_of.x ∈ lams)) row_sold_of.x = F_sold_of := by kernel_rfl
theorem b_sold_of : row_sold_of.Bd := fun _ _ _ _ _ _ us hl => match us, hl with | [_, _, _, _], _ => rfl
theorem k_sold_of : row_sold_of.okB = true := by decide +kernel
theorem c_borne_of : compRow 60 gl fz.ex row_borne_of.N row_borne_of.st (decide (row_borne_of.x ∈ lams)) row_borne_of.x = F_borne_of := by kernel_rfl
theorem b_borne_of : row_borne_of.Bd := fun _ _ _ _ _ _ us hl => match us, hl with | [_, _, _], _ => rfl
theorem k_borne_of : row_borne_of.okB = true := by decide +kernel
theorem c_worth_of : compRow 60 gl fz.ex row_worth_of.N row_worth_of.st (decide (row_worth_of.x ∈ lams)) row_worth_of.x = F_worth_of := by kernel_rfl
theorem b_worth_of : row_worth_of.Bd := fun _ _ _ _ _ _ us hl => match us, hl with | [_, _, _], _ => rfl
theorem k_worth_of : row_worth_of.okB = true := by decide +kernel
theorem c_cost_in : compRow 60 gl fz.ex row_cost_in.N row_cost_in.st (decide (row_cost_in.x ∈ lams)) row_cost_in.x = F_cost_in := by kernel_rfl
theorem b_cost_in : row_cost_in.Bd := fun _ _ _ _ _ _ us hl => match us, hl with | [_, _, _], _ => rfl
theorem k_cost_in : row_cost_in.okB = true := by decide +kernel
theorem c_thrown : compRow 60 gl fz.ex row_thrown.N row_thrown.st (decide (row_thrown.x ∈ lams)) row_thrown.x = F_thrown := by kernel_rfl
theorem b_thrown : row_thrown.Bd := fun _ _ _ _ _ _ us hl => match us, hl with | [_, _, _], _ => rfl
theorem k_thrown : row_thrown.okB = true := by decide +kernel
theorem c_done : compRow 60 gl fz.ex row_done.N row_done.st (decide (row_done.x ∈ lams)) row_done.x = F_done := by kernel_rfl
theorem b_done : row_done.Bd := fun _ _ _ _ _ _ us hl => match us, hl with | [_, _, _], _ => rfl
theorem k_done : row_done.okB = true := by decide +kernel
theorem c_begun : compRow 60 gl fz.ex row_begun.N row_begun.st (decide (row_begun.x ∈ lams)) row_begun.x = F_begun := by kernel_rfl
theorem b_begun : row_begun.Bd := fun _ _ _ _ _ _ us hl => match us, hl with | [_], _ => rfl
theorem k_begun : row_begun.okB = true := by decide +kernel
theorem c_wrong_in : compRow 60 gl fz.ex row_wrong_in.N row_wrong_in.st (decide (row_wrong_in.x ∈ lams)) row_wrong_in.x = F_wrong_in := by kernel_rfl
theorem b_wrong_in : row_wrong_in.Bd := fun _ _ _ _ _ _ us hl => match us, hl with | [_], _ => rfl
theorem k_wrong_in : row_wrong_in.okB = true := by decide +kernel
theorem c_first_wrong : compRow 60 gl fz.ex row_first_wrong.N row_first_wrong.st (decide (row_first_wrong.x ∈ lams)) row_first_wrong.x = F_first_wrong := by kernel_rfl
theorem b_first_wrong : row_first_wrong.Bd := fun _ _ _ _ _ _ us hl => match us, hl with | [_], _ => rfl
theorem k_first_wrong : row_first_wrong.okB = true := by decide +kernel
theorem c__law_cell_at : compRow 60 gl fz.ex row__law_cell_at.N row__law_cell_at.st (decide (row__law_cell_at.x ∈ lams)) row__law_cell_at.x = F__law_cell_at := by kernel_rfl
theorem b__law_cell_at : row__law_cell_at.Bd := fun _ _ _ _ _ _ us hl => match us, hl with | [_, _], _ => rfl
theorem k__law_cell_at : row__law_cell_at.okB = true := by decide +kernel
theorem c__law_pen : compRow 60 gl fz.ex row__law_pen.N row__law_pen.st (decide (row__law_pen.x ∈ lams)) row__law_pen.x = F__law_pen := by kernel_rfl
theorem b__law_pen : row__law_pen.Bd := fun _ _ _ _ _ _ us hl => match us, hl with | [_], _ => rfl
theorem k__law_pen : row__law_pen.okB = true := by decide +kernel
theorem c__law_draw : compRow 60 gl fz.ex row__law_draw.N row__law_draw.st (decide (row__law_draw.x ∈ lams)) row__law_draw.x = F__law_draw := by kernel_rfl
theorem b__law_draw : row__law_draw.Bd := fun _ _ _ _ _ _ us hl => match us, hl with | [_, _], _ => rfl
theorem k__law_draw : row__law_draw.okB = true := by decide +kernel
theorem c__law_first_ones : compRow 60 gl fz.ex row__law_first_ones.N row__law_first_ones.st (decide (row__law_first_ones.x ∈ lams)) row__law_first_ones.x = F__law_first_ones := by kernel_rfl
theorem b__law_first_ones : row__law_first_ones.Bd := fun _ _ _ _ _ _ us hl => match us, hl with | [_], _ => rfl
theorem k__law_first_ones : row__law_first_ones.okB = true := by decide +kernel
theorem c__law_other_ones : compRow 60 gl fz.ex row__law_other_ones.N row__law_other_ones.st (decide (row__law_other_ones.x ∈ lams)) row__law_other_ones.x = F__law_other_ones := by kernel_rfl
theorem b__law_other_ones : row__law_other_ones.Bd := fun _ _ _ _ _ _ us hl => match us, hl with | [_], _ => rfl
theorem k__law_other_ones : row__law_other_ones.okB = true := by decide +kernel
theorem c_law : compRow 60 gl fz.ex row_law.N row_law.st (decide (row_law.x ∈ lams)) row_law.x = F_law := by kernel_rfl
theorem b_law : row_law.Bd := fun _ _ _ _ _ _ us hl => match us, hl with | [_], _ => rfl
theorem k_law : row_law.okB = true := by decide +kernel
theorem rows_ok : RowsOkL gl fz.ex lams frsq := ⟨⟨k_common, c_common, b_common⟩, ⟨⟨k_made, c_made, b_made⟩, ⟨⟨k_plus, c_plus, b_plus⟩, ⟨⟨k_less, c_less, b_less⟩, ⟨⟨k_times, c_times, b_times⟩, ⟨⟨k_so_many, c_so_many, b_so_many⟩, ⟨⟨k_lies, c_lies, b_lies⟩, ⟨⟨k_can_do, c_can_do, b_can_do⟩, ⟨⟨k_with_less, c_with_less, b_with_less⟩, ⟨⟨k_pooled, c_pooled, b_pooled⟩, ⟨⟨k_sold_of, c_sold_of, b_sold_of⟩, ⟨⟨k_borne_of, c_borne_of, b_borne_of⟩, ⟨⟨k_worth_of, c_worth_of, b_worth_of⟩, ⟨⟨k_cost_in, c_cost_in, b_cost_in⟩, ⟨⟨k_thrown, c_thrown, b_thrown⟩, ⟨⟨k_done, c_done, b_done⟩, ⟨⟨k_begun, c_begun, b_begun⟩, ⟨⟨k_wrong_in, c_wrong_in, b_wrong_in⟩, ⟨⟨k_first_wrong, c_first_wrong, b_first_wrong⟩, ⟨⟨k__law_cell_at, c__law_cell_at, b__law_cell_at⟩, ⟨⟨k__law_pen, c__law_pen, b__law_pen⟩, ⟨⟨k__law_draw, c__law_draw, b__law_draw⟩, ⟨⟨k__law_first_ones, c__law_first_ones, b__law_first_ones⟩, ⟨⟨k__law_other_ones, c__law_other_ones, b__law_other_ones⟩, ⟨⟨k_law, c_law, b_law⟩, trivial⟩⟩⟩⟩⟩⟩⟩⟩⟩⟩⟩⟩⟩⟩⟩⟩⟩⟩⟩⟩⟩⟩⟩⟩⟩
theorem rows_names : frsq.map (fun r => (r.x, r.ps.length)) = names := by rfl
theorem hofs_ok : HofsOk gl fz.ex hrs := trivial
theorem rows_cut : fz.rows = frsq ++ hrs.map (·.r) := rfl
theorem ms_ok : MsOk gl fz.ex (tblOf ((frsq ++ fz.ms.map (·.r)).map fun r => (r.x, r.fr))) fz.ms := trivial
theorem os_ok : osB names fz.ms fz.fs os = true := by decide +kernel
theorem law_true : ∀ ns : List Int, ns.length ≤ 63 → ∀ o, (o = Ob.ro (ns.map .int) ∨ o = Ob.lst (ns.map .int)) → ∃ h', callK (tblOf ((frsq ++ fz.ms.map (·.r)).map fun r => (r.x, r.fr))) 45 "law" [.ref 0] [o] = .ok (.bl true) h' := by
  have e : tblOf ((frsq ++ fz.ms.map (·.r)).map fun r => (r.x, r.fr)) = T := by
    rw [T_eq]
    kernel_rfl
  rw [e]
  exact law_true0
theorem mem_law : row_law ∈ frsq := List.mem_of_getElem? (i := 24) (by kernel_rfl)
end VM
open PySem PySem.W PySem.Calls PyProof.Rows
theorem PySem.Challenge.cw_sharetrail_k42_refusals_stand_alone_holds : PySem.Challenge.rw_sharetrail_k42_refusals_stand_alone.Holds := by
  w_on; o_law
  refine HandSHeadRun.head_any (r := OpenLaw.row PySem.Challenge.rw_sharetrail_k42_refusals_stand_alone) (q := view (OpenLaw.row PySem.Challenge.rw_sharetrail_k42_refusals_stand_alone).prog VM.viewIx) (H := VM.hk) (ob := VM.ob) (M := 40000) (loose := VM.loose) (d := HandSHeadRun.topDef (OpenLaw.row PySem.Challenge.rw_sharetrail_k42_refusals_stand_alone).prog VM.lawIx) (kwd := []) VM.ob_eq
    (by kernel_rfl) (fun s => by kernel_rfl) VM.run (by kernel_rfl) (by kernel_rfl) (by kernel_rfl) (by rfl) (by first | assumption | decide +kernel) (by decide +kernel) ⟨rfl, rfl, rfl, rfl, rfl, by decide +kernel⟩ ?hw ?hc
  case hw => w_witness2
  case hc =>
    refine VM.walkL (l := PySem.Challenge.rw_sharetrail_k42_refusals_stand_alone) (n := 63) (k := 182) (x := "_law_script") rfl (by decide) (by kernel_rfl) ⟨rfl, by decide, by decide⟩ ?F
    intro w s0 mg mb fa h Gr Y hmg0
    obtain ⟨K, KX, c, st⟩ := Y
    have hmg : mg ("law" : PySem.Str) = some (.ref fa) := by
      have e : (HandSHeadRun.topDef (OpenLaw.row PySem.Challenge.rw_sharetrail_k42_refusals_stand_alone).prog VM.lawIx).name = ("law" : PySem.Str) := by kernel_rfl
      rw [← e]
      exact hmg0
    exact ⟨K, KX, VM.law_endL (k := 45) c st KX Gr.T.g VM.rows_cut VM.rows_names VM.rows_ok VM.hofs_ok VM.inis_ok VM.ms_ok VM.os_ok (by kernel_rfl) "_law_script" (rl := VM.row_law) VM.mem_law rfl (by decide +kernel) hmg (VM.tabs_top Gr.T KX VM.recs_ok) VM.law_true⟩
