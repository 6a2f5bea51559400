import PyProof.Rows.All
import Wide.All
import OpenK.AllK
import Wide.FinOn
import KE.KStateDown
import HandS.ForMost
import HandS.ForExc
import HandS.ExcValue
import HandS.IsInst
import HandS.DictComp
import KE.KeyNested
import HandS.Head0
import HandS.Head1
import HandS.Head2
import HandS.HeadEnd
import HandS.HeadHook1
import HandS.HeadHook2
import HandS.Ends
import HandS.More
import HandS.Words
import HandS.WordsExc
import HandS.Deep
import KE.KDictSum
import KE.KDictCopyH
import PyProof.Rows.SortShellAny
import HandS.Strs
import KE.KDictKeyed
import HandS.ExcIs
import HandS.Defaults
import PyProof.ExcBaseAll.ValueError
import PySem.Challenge.RW_roundlines_k01_whole_boards
set_option autoImplicit false
/-! Roundlines, 1: plain data, a compact program text, its evaluator. No Python model here. -/
namespace Rl

inductive D where
  | non | bl (b : Bool) | int (i : Int) | str (x : List Nat) | tup (l : List D) | lst (l : List D)
  | dct (ks vs : List D) | exc (k : String) | scr (l : List Int)

/-- fz: may be shared, never changes; own: a list or dict that one name alone holds, its items are fz -/
inductive Sh where
  | fz | own
deriving DecidableEq
abbrev SD := Sh × D
abbrev Env := List (Option SD)

/-! ### keys and equality -/
mutual
def D.eqk : D → D → Bool
  | .non, .non => true
  | .bl a, .bl b => a == b
  | .int a, .int b => decide (a = b)
  | .str a, .str b => decide (a = b)
  | .tup a, .tup b => D.eqks a b
  | .lst a, .lst b => D.eqks a b
  | .dct a b, .dct c d => D.eqks a c && D.eqks b d
  | .exc a, .exc b => decide (a = b)
  | .scr a, .scr b => decide (a = b)
  | _, _ => false
def D.eqks : List D → List D → Bool
  | [], [] => true
  | a :: as, b :: bs => D.eqk a b && D.eqks as bs
  | _, _ => false
end

mutual
/-- what may be a key of a dict: ints, texts, None, tuples of such -/
def D.isKey : D → Bool
  | .non => true
  | .int _ => true
  | .str _ => true
  | .tup l => D.areKeys l
  | _ => false
def D.areKeys : List D → Bool
  | [] => true
  | a :: as => D.isKey a && D.areKeys as
end
/-- keys of one dict are all tuples, or none is -/
def D.isTup : D → Bool
  | .tup _ => true
  | _ => false
mutual
def D.depth : D → Nat
  | .tup l => D.depths l + 1
  | _ => 0
def D.depths : List D → Nat
  | [] => 0
  | a :: as => max (D.depth a) (D.depths as)
end

/-- data without dicts, not too deep -/
def D.plain : Nat → D → Bool
  | _, .non => true
  | _, .bl _ => true
  | _, .int _ => true
  | _, .str x => x.all fun c => decide (c < 0x110000)
  | n + 1, .tup l => l.all (D.plain n)
  | n + 1, .lst l => l.all (D.plain n)
  | _, _ => false
def pln (d : D) : Bool := D.plain 30 d
def D.flat : D → Bool
  | .non => true
  | .bl _ => true
  | .int _ => true
  | .str _ => true
  | _ => false
mutual
/-- Python's == of such -/
def D.eqb : D → D → Bool
  | .non, .non => true
  | .bl a, .bl b => a == b
  | .bl a, .int b => (if a then 1 else 0) == b
  | .int a, .bl b => a == (if b then 1 else 0)
  | .int a, .int b => a == b
  | .str a, .str b => decide (a = b)
  | .tup a, .tup b => D.eqbs a b
  | .lst a, .lst b => D.eqbs a b
  | _, _ => false
def D.eqbs : List D → List D → Bool
  | [], [] => true
  | a :: as, b :: bs => D.eqb a b && D.eqbs as bs
  | _, _ => false
end

mutual
/-- Python's < of ints, texts, tuples of such -/
def D.ltv : D → D → Option Bool
  | .int a, .int b => some (decide (a < b))
  | .str a, .str b => some (decide (a < b))
  | .tup a, .tup b => D.ltvs a b
  | _, _ => none
def D.ltvs : List D → List D → Option Bool
  | [], [] => some false
  | [], _ :: _ => some true
  | _ :: _, [] => some false
  | a :: as, b :: bs => match D.eqk a b with
    | true => D.ltvs as bs
    | false => D.ltv a b
end

/-! ### dicts -/
def look : List D → List D → D → Option D
  | k :: ks, v :: vs, x => match D.eqk k x with
    | true => some v
    | false => look ks vs x
  | _, _, _ => none
def putV : List D → List D → D → D → List D
  | k :: ks, v :: vs, x, y => match D.eqk k x with
    | true => y :: vs
    | false => v :: putV ks vs x y
  | _, _, _, y => [y]
def putK : List D → D → List D
  | k :: ks, x => match D.eqk k x with
    | true => k :: ks
    | false => k :: putK ks x
  | [], x => [x]
def delK : List D → D → List D
  | k :: ks, x => match D.eqk k x with
    | true => ks
    | false => k :: delK ks x
  | [], _ => []
def delV : List D → List D → D → List D
  | k :: ks, v :: vs, x => match D.eqk k x with
    | true => vs
    | false => v :: delV ks vs x
  | _, _, _ => []
/-- a key that fits the keys of a dict: all tuples, or all others -/
def D.leaf : D → Bool
  | .int _ => true
  | .str _ => true
  | _ => false
def D.tk (x : D) : Bool := x.isTup && x.isKey && decide (x.depth ≤ 8)
def fits (ks : List D) (x : D) : Bool := (x.leaf && ks.all D.leaf) || (x.tk && ks.all D.tk)
def putP : List (D × D) → List D → List D → Option (List D × List D)
  | [], ks, vs => some (ks, vs)
  | (k, v) :: r, ks, vs => match fits ks k with
    | true => putP r (putK ks k) (putV ks vs k v)
    | false => none

/-! ### small operations -/
def most : Nat := 10000000
def atI (l : List D) (i : Int) : Option D := if 0 ≤ i then (if i < l.length then l[i.toNat]? else none) else if -(l.length : Int) ≤ i then l[(i + l.length).toNat]? else none
def cutIx (n d : Nat) : Option Int → Nat
  | none => d
  | some v => if v < 0 then (v + n).toNat else min v.toNat n
def cut {α : Type} (l : List α) (lo hi : Option Int) : List α := (l.drop (cutIx l.length 0 lo)).take (cutIx l.length l.length hi - cutIx l.length 0 lo)
def allB : List D → Option Bool
  | [] => some true
  | .bl b :: r => (allB r).map fun c => b && c
  | _ => none
def anyB : List D → Option Bool
  | [] => some false
  | .bl b :: r => (anyB r).map fun c => b || c
  | _ => none
def intsOf : List D → Option (List Int)
  | [] => some []
  | .int i :: r => (intsOf r).map fun l => i :: l
  | _ => none
def strsOf : List D → Option (List (List Nat))
  | [] => some []
  | .str i :: r => (strsOf r).map fun l => i :: l
  | _ => none
def pairsOf : List D → Option (List (D × D))
  | [] => some []
  | .tup [k, v] :: r => (pairsOf r).map fun l => (k, v) :: l
  | _ => none
/-- sorted by an order, equal ones as they came -/
def insD (le : D → D → Bool) (x : D) : List D → List D
  | [] => [x]
  | y :: r => if le x y then x :: y :: r else y :: insD le x r
def sortBy (le : D → D → Bool) : List D → List D
  | [] => []
  | x :: r => insD le x (sortBy le r)
def leD (a b : D) : Bool := match D.ltv b a with
  | some true => false
  | _ => true
def truth : D → Option Bool
  | .non => some false
  | .bl b => some b
  | .int i => some (i != 0)
  | .str x => if x.length ≤ most then some (!x.isEmpty) else none
  | .tup l => some (!l.isEmpty)
  | .lst l => some (!l.isEmpty)
  | .dct ks _ => some (!ks.isEmpty)
  | .scr l => some (!l.isEmpty)
  | .exc _ => none

inductive P where
  | add | sub | mul | mod | fdiv | pow | eq | ne | lt | le | gt | ge | isN | notN | inn | nin | neg
  | idx | slc (lo hi : Bool) | len | abs | min2 | max2 | all | any | int | isi (t : String) | isx (t : String)
  | sortedKeys | listKeys | listVals | list | dictD | dictP | get | count | index | tuple | sorted
deriving DecidableEq

/-- the errors that the program raises -/
def errs : List String := ["BadBoard", "BadPort", "NoFoot", "NoWay", "BadLine", "BadNumber", "Nothing", "BadText"]
def isA (t : String) : D → Option Bool
  | .non => some false
  | .bl _ => some (decide (t = "int") || decide (t = "bool"))
  | .int _ => some (decide (t = "int"))
  | .str _ => some (decide (t = "str"))
  | .tup _ => some (decide (t = "tuple"))
  | .lst _ => some (decide (t = "list"))
  | .dct _ _ => some (decide (t = "dict"))
  | .scr _ => some (decide (t = "list"))
  | .exc _ => none

def sc (d : D) : Option SD := some (.fz, d)
def cmpI (f : Int → Int → Bool) (x y : D) : Option SD := match x, y with
  | .int a, .int b => sc (.bl (f a b))
  | _, _ => none
def partI (b : Bool) (l : List D) : Option (Option Int × List D) := match b, l with
  | false, l => some (none, l)
  | true, .int i :: r => some (some i, r)
  | true, _ => none
def small (l : List D) (r : SD) : Option SD := if l.length ≤ most then some r else none

def prim (p : P) (ds : List D) : Option SD := match p with
  | .add => (match ds with
    | [.int a, .int b] => sc (.int (a + b))
    | [.str a, .str b] => if a.length + b.length ≤ most then sc (.str (a ++ b)) else none
    | [.lst a, .lst b] => small (a ++ b) (.own, .lst (a ++ b))
    | [.tup (a :: as), .tup b] => small (a :: as ++ b) (.fz, .tup (a :: as ++ b))
    | _ => none)
  | .sub => (match ds with
    | [.int a, .int b] => sc (.int (a - b))
    | _ => none)
  | .mul => (match ds with
    | [.int a, .int b] => if a.natAbs < 2 ^ 64 ∨ b.natAbs < 2 ^ 64 then sc (.int (a * b)) else none
    | [.lst a, .int k] => if -(2 ^ 62) < k ∧ k < 2 ^ 62 ∧ a.length * k.toNat ≤ most then some (.own, .lst (List.replicate k.toNat a).flatten) else none
    | _ => none)
  | .mod => (match ds with
    | [.int a, .int b] => if 0 < b then sc (.int (a % b)) else none
    | _ => none)
  | .fdiv => (match ds with
    | [.int a, .int b] => if 0 < b ∧ b < 1073741824 then sc (.int (a / b)) else none
    | _ => none)
  | .pow => (match ds with
    | [.int a, .int b] => if 0 ≤ b ∧ b ≤ 1000 ∧ a.natAbs < 2 ^ 64 then sc (.int (a ^ b.toNat)) else none
    | _ => none)
  | .eq => (match ds with
    | [a, b] => if pln a && pln b then sc (.bl (D.eqb a b)) else none
    | _ => none)
  | .ne => (match ds with
    | [a, b] => if pln a && pln b then sc (.bl (!D.eqb a b)) else none
    | _ => none)
  | .lt => (match ds with
    | [a, b] => cmpI (fun i j => decide (i < j)) a b
    | _ => none)
  | .le => (match ds with
    | [a, b] => cmpI (fun i j => decide (i ≤ j)) a b
    | _ => none)
  | .gt => (match ds with
    | [a, b] => cmpI (fun i j => decide (j < i)) a b
    | _ => none)
  | .ge => (match ds with
    | [a, b] => cmpI (fun i j => decide (j ≤ i)) a b
    | _ => none)
  | .isN => (match ds with
    | [.non] => sc (.bl true)
    | [_] => sc (.bl false)
    | _ => none)
  | .notN => (match ds with
    | [.non] => sc (.bl false)
    | [_] => sc (.bl true)
    | _ => none)
  | .inn => (match ds with
    | [x, .dct ks _] => if fits ks x then sc (.bl (ks.any fun k => D.eqk k x)) else none
    | [.str [x], .str y] => sc (.bl (decide (x ∈ y)))
    | [x, .lst l] => if pln x && pln (.lst l) then sc (.bl (l.any fun z => D.eqb z x)) else none
    | [x, .tup l] => if x.flat && l.all D.flat then sc (.bl (l.any fun z => D.eqb z x)) else none
    | _ => none)
  | .nin => (match ds with
    | [x, .dct ks _] => if fits ks x then sc (.bl (!ks.any fun k => D.eqk k x)) else none
    | [.str [x], .str y] => sc (.bl (!decide (x ∈ y)))
    | [x, .lst l] => if pln x && pln (.lst l) then sc (.bl (!l.any fun z => D.eqb z x)) else none
    | [x, .tup l] => if x.flat && l.all D.flat then sc (.bl (!l.any fun z => D.eqb z x)) else none
    | _ => none)
  | .neg => (match ds with
    | [.int a] => sc (.int (-a))
    | _ => none)
  | .idx => (match ds with
    | [.lst l, .int i] => (atI l i).bind sc
    | [.tup l, .int i] => (atI l i).bind sc
    | [.str l, .int i] => (atI (l.map fun c => .str [c]) i).bind fun r => if l.length ≤ most then sc r else none
    | [.scr l, .int i] => (atI (l.map .int) i).bind sc
    | [.dct ks vs, x] => if fits ks x then (look ks vs x).bind sc else none
    | _ => none)
  | .slc lo hi => (match ds with
    | x :: r => (partI lo r).bind fun (l, r) => (partI hi r).bind fun (h, r) => (match x, r with
      | .lst xs, [] => some (.own, .lst (cut xs l h))
      | .str xs, [] => if xs.length ≤ most then sc (.str (cut xs l h)) else none
      | .tup xs, [] => if (cut xs l h).length < xs.length then sc (.tup (cut xs l h)) else none
      | _, _ => none)
    | _ => none)
  | .len => (match ds with
    | [.lst l] => sc (.int l.length)
    | [.tup l] => sc (.int l.length)
    | [.str l] => if l.length ≤ most then sc (.int l.length) else none
    | [.scr l] => sc (.int l.length)
    | [.dct ks _] => sc (.int ks.length)
    | _ => none)
  | .abs => (match ds with
    | [.int a] => sc (.int (if a < 0 then -a else a))
    | _ => none)
  | .min2 => (match ds with
    | [.int a, .int b] => sc (.int (if b < a then b else a))
    | _ => none)
  | .max2 => (match ds with
    | [.int a, .int b] => sc (.int (if b > a then b else a))
    | _ => none)
  | .all => (match ds with
    | [.lst l] => (allB l).bind fun b => sc (.bl b)
    | _ => none)
  | .any => (match ds with
    | [.lst l] => (anyB l).bind fun b => sc (.bl b)
    | _ => none)
  | .int => (match ds with
    | [.int a] => sc (.int a)
    | [.bl b] => sc (.int (if b then 1 else 0))
    | _ => none)
  | .isi t => (match ds with
    | [x] => (isA t x).bind fun b => sc (.bl b)
    | _ => none)
  | .isx t => (match ds with
    | [.exc k] => if k ∈ errs then sc (.bl (decide (k = t) || decide (t = "ValueError"))) else none
    | _ => none)
  | .sortedKeys => (match ds with
    | [.dct ks _] => (match strsOf ks, intsOf ks with
      | some _, _ => if ks.length < 64 then some (.own, .lst (sortBy leD ks)) else none
      | _, some _ => if ks.length < 64 then some (.own, .lst (sortBy leD ks)) else none
      | _, _ => none)
    | _ => none)
  | .listKeys => (match ds with
    | [.dct ks _] => small ks (.own, .lst ks)
    | _ => none)
  | .listVals => (match ds with
    | [.dct _ vs] => small vs (.own, .lst vs)
    | _ => none)
  | .list => (match ds with
    | [.lst l] => small l (.own, .lst l)
    | [.tup l] => small l (.own, .lst l)
    | _ => none)
  | .dictD => (match ds with
    | [.dct ks vs] => if ks.all D.leaf && decide (ks.length ≤ most) then some (.own, .dct ks vs) else none
    | _ => none)
  | .dictP => (match ds with
    | [.lst l] => (pairsOf l).bind fun ps => if l.length ≤ most && ps.all (fun p => p.1.leaf) then (putP ps [] []).map fun r => (.own, .dct r.1 r.2) else none
    | _ => none)
  | .get => (match ds with
    | [.dct ks vs, k, x] => if fits ks k then sc ((look ks vs k).getD x) else none
    | _ => none)
  | .count => (match ds with
    | [.lst l, x] => if pln x && pln (.lst l) then sc (.int ((l.filter fun z => D.eqb z x).length : Int)) else none
    | _ => none)
  | .index => (match ds with
    | [.lst l, x] => if pln x && pln (.lst l) then (l.findIdx? fun z => D.eqb z x).bind fun n => sc (.int n) else none
    | _ => none)
  | .tuple => (match ds with
    | [.lst l] => small l (.fz, .tup l)
    | [.tup l] => sc (.tup l)
    | _ => none)
  | .sorted => (match ds with
    | [.lst l] => (match strsOf l, intsOf l with
      | some _, _ => if l.length < 64 then some (.own, .lst (sortBy leD l)) else none
      | _, some _ => if l.length < 64 then some (.own, .lst (sortBy leD l)) else none
      | _, _ => none)
    | _ => none)

/-- the kind of thing whose method it is -/
def recvK : P → D → Bool
  | .get, .dct _ _ => true
  | .count, .lst _ => true
  | .index, .lst _ => true
  | _, _ => false

/-! ### the text -/
/-- what a loop binds: one name, or the items of a tuple -/
inductive Tg where
  | one (i : Nat) | many (is : List Nat)

mutual
inductive TE where
  | bad
  | cst (d : D)
  | glo (i : Nat) (d : D)
  | var (i : Nat)
  | mov (i : Nat)
  | tup (es : TEs)
  | lst (es : TEs)
  | dct (es : TEs)
  | prim (p : P) (os : TOs)
  | meth (p : P) (o : TO) (es : TEs)
  | slc (o : TO) (lo hi : TE)
  | call (f : Nat) (os : TOs)
  | ite (c : TT) (a b : TE)
  | band (a b : TE)
  | bor (a b : TE)
  | bnot (a : TE)
  | chain (p q : P) (a b c : TO)
  | comp (own : List Nat) (g : Tg) (it : TI) (c : TT) (e : TE)
inductive TEs where
  | nil | cons (e : TE) (es : TEs)
/-- an operand: a name that is only looked at, or any expression; m: a name whose object the callee may change -/
inductive TO where
  | v (i : Nat) | e (t : TE) | m (i : Nat)
inductive TOs where
  | nil | cons (o : TO) (os : TOs)
inductive TT where
  | yes | is1 (p : P) (o : TO) | tr (o : TO) | cmp (p : P) (a b : TO) | chn (p q : P) (a b c : TO) | not (a : TT) | and (a b : TT) | or (a b : TT)
inductive TI where
  | seq (e : TE) | rng (a : TE) | rng2 (a b : TE) | keys (e : TE) | vals (e : TE)
end

mutual
inductive TS where
  | bad
  | asg (i : Nat) (e : TE)
  | unp (is : List Nat) (e : TE)
  | par (i j : Nat) (a b : TE)
  | put (i : Nat) (k e : TE)
  | app (i : Nat) (e : TE)
  | ext (i : Nat) (e : TE)
  | exp (e : TE)
  | ifs (c : TT) (a b : TSs)
  | for_ (g : Tg) (it : TI) (b : TSs)
  | whl (c : TT) (b : TSs)
  | ret (e : TE)
  | retN
  | brk | cnt | pas
  | rai (k : String)
  | try_ (b : TSs) (i e : Nat)
inductive TSs where
  | nil | cons (s : TS) (ss : TSs)
end

/-! ### the evaluator -/
inductive R (α : Type) where
  | ok (a : α) (Γ : Env) | ex (k : String) (Γ : Env) | bad
inductive CR where
  | ok (r : SD) (ms : List (Option SD)) | ex (k : String) (ms : List (Option SD)) | bad
inductive SR where
  | nx (Γ : Env) | rt (r : SD) (Γ : Env) | bk (Γ : Env) | ct (Γ : Env) | ex (k : String) (Γ : Env) | bad

def R.bind {α β : Type} (x : R α) (f : α → Env → R β) : R β := match x with
  | .ok a Γ => f a Γ
  | .ex k Γ => .ex k Γ
  | .bad => .bad
def R.sr {α : Type} (x : R α) (f : α → Env → SR) : SR := match x with
  | .ok a Γ => f a Γ
  | .ex k Γ => .ex k Γ
  | .bad => .bad
def SR.then_ (x : SR) (f : Env → SR) : SR := match x with
  | .nx Γ => f Γ
  | y => y
abbrev Calls := Nat → List SD → CR

def slot (Γ : Env) (i : Nat) : Option SD := (Γ[i]?).join
def oneOf {α : Type} (o : Option α) (Γ : Env) : R α := match o with
  | some a => .ok a Γ
  | none => .bad
/-- an operand behind the evaluation of all: a name's value is read then -/
inductive Pd where
  | v (i : Nat) | d (x : D)
def Pd.get (Γ : Env) : Pd → Option D
  | .v i => (slot Γ i).map (·.2)
  | .d x => some x
def gets (Γ : Env) : List Pd → Option (List D)
  | [] => some []
  | p :: r => match p.get Γ, gets Γ r with
    | some d, some ds => some (d :: ds)
    | _, _ => none
/-- the arguments of a call: names that the callee may change are owned -/
def argOf (Γ : Env) : Pd → Option SD
  | .v i => match slot Γ i with
    | some (.own, d) => some (.own, d)
    | _ => none
  | .d x => some (.fz, x)
def argsOf (Γ : Env) : List Pd → Option (List SD)
  | [] => some []
  | p :: r => match argOf Γ p, argsOf Γ r with
    | some d, some ds => some (d :: ds)
    | _, _ => none
/-- behind a call: the owned names as the callee left them -/
def backTo (Γ : Env) : List Pd → List (Option SD) → Option Env
  | [], [] => some Γ
  | .v i :: r, some (.own, d) :: ms => backTo (Γ.set i (some (.own, d))) r ms
  | .d _ :: r, _ :: ms => backTo Γ r ms
  | _, _ => none
/-- no name is lent twice -/
def onceM : List Pd → Bool
  | [] => true
  | .v i :: r => (r.all fun p => match p with | .v j => decide (i ≠ j) | .d _ => true) && onceM r
  | .d _ :: r => onceM r

def bindT (g : Tg) (x : D) (Γ : Env) : Option Env := match g with
  | .one i => some (Γ.set i (some (.fz, x)))
  | .many is => (match x with
    | .tup l => if l.length = is.length then some ((is.zip l).foldl (fun Γ p => Γ.set p.1 (some (.fz, p.2))) Γ) else none
    | _ => none)

def loopF (bind : D → Env → Option Env) (body : Env → SR) : List D → Env → SR
  | [], Γ => .nx Γ
  | x :: xs, Γ => match bind x Γ with
    | none => .bad
    | some Γ1 => match body Γ1 with
      | .nx Γ2 => loopF bind body xs Γ2
      | .ct Γ2 => loopF bind body xs Γ2
      | .bk Γ2 => .nx Γ2
      | r => r
def loopW (cond : Env → R Bool) (body : Env → SR) : Nat → Env → SR
  | 0, _ => .bad
  | n + 1, Γ => (cond Γ).sr fun b Γ1 => match b with
    | false => .nx Γ1
    | true => match body Γ1 with
      | .nx Γ2 => loopW cond body n Γ2
      | .ct Γ2 => loopW cond body n Γ2
      | .bk Γ2 => .nx Γ2
      | r => r
/-- a comprehension's own names hold nothing ahead of each turn -/
def clr (own : List Nat) (Γ : Env) : Env := own.foldl (fun Γ i => Γ.set i none) Γ
def loopC (own : List Nat) (bind : D → Env → Option Env) (cond : Env → R Bool) (elt : Env → R SD) : List D → List D → Env → R (List D)
  | [], acc, Γ => .ok acc Γ
  | x :: xs, acc, Γ => match bind x (clr own Γ) with
    | none => .bad
    | some Γ1 => match cond Γ1 with
      | .ok true Γ2 => (match elt Γ2 with
        | .ok r Γ3 => if acc.length < most then loopC own bind cond elt xs (acc ++ [r.2]) Γ3 else .bad
        | _ => .bad)
      | .ok false Γ2 => loopC own bind cond elt xs acc Γ2
      | _ => .bad

/-- they must hold nothing that changes -/
def canWipe (Γ : Env) (own : List Nat) : Bool := own.all fun i => match slot Γ i with
  | some (.own, _) => false
  | _ => true
def unwipe (Γ0 : Env) (own : List Nat) (Γ : Env) : Env := own.foldl (fun Γ i => Γ.set i (slot Γ0 i)) Γ

def rangeD (a b : Int) : List D := (List.range (b - a).toNat).map fun (k : Nat) => .int (a + (k : Int))
def rngOk (a : Int) : Bool := decide (-(2 ^ 60) < a) && decide (a < 2 ^ 60)
def seqD : D → Option (List D)
  | .lst l => some l
  | .tup l => some l
  | .str l => some (l.map fun c => .str [c])
  | _ => none

/-- a < b < c, b asked once -/
def chn (p q : P) (a b c : Env → R Pd) (Γ : Env) : R Bool := (a Γ).bind fun x Γ => (b Γ).bind fun y Γ => match (gets Γ [x, y]).bind (prim p) with
  | some (_, .bl false) => .ok false Γ
  | some (_, .bl true) => (c Γ).bind fun z Γ => match (gets Γ [y, z]).bind (prim q) with
    | some (_, .bl r) => .ok r Γ
    | _ => .bad
  | _ => .bad

/-- a part of a slice: told or not -/
def isNo : TE → Bool
  | .cst .non => true
  | _ => false
def partOf (no : Bool) (f : Env → R SD) (Γ : Env) : R (Option Int) := match no with
  | true => .ok none Γ
  | false => (f Γ).bind fun x Γ => match x.2 with
    | .int i => .ok (some i) Γ
    | _ => .bad
def partD : Option Int → List D
  | none => []
  | some i => [.int i]
def sliceD (l h : Option Int) (x : D) : Option SD := prim (.slc l.isSome h.isSome) (x :: (partD l ++ partD h))

def dctOf : List D → Option (List (D × D))
  | [] => some []
  | k :: v :: r => (dctOf r).map fun l => (k, v) :: l
  | _ => none
section
variable (C : Calls) (wf : Nat)
mutual
def ev : TE → Env → R SD
  | .bad, _ => .bad
  | .cst d, Γ => .ok (.fz, d) Γ
  | .glo _ d, Γ => .ok (.fz, d) Γ
  | .var i, Γ => match slot Γ i with
    | some (_, d) => .ok (.fz, d) (Γ.set i (some (.fz, d)))
    | none => .bad
  | .mov i, Γ => match slot Γ i with
    | some (s, d) => .ok (s, d) (Γ.set i none)
    | none => .bad
  | .tup es, Γ => (evs es Γ).bind fun ds Γ => if ds.length ≤ most then .ok (.fz, .tup ds) Γ else .bad
  | .lst es, Γ => (evs es Γ).bind fun ds Γ => if ds.length ≤ most then .ok (.own, .lst ds) Γ else .bad
  | .dct es, Γ => (evs es Γ).bind fun ds Γ => match dctOf ds with
    | some ps => (match putP ps [] [] with
      | some r => if ps.length ≤ 15 && ps.all (fun p => p.1.leaf) then .ok (.own, .dct r.1 r.2) Γ else .bad
      | none => .bad)
    | none => .bad
  | .prim p os, Γ => (evOs os Γ).bind fun ps Γ => match (gets Γ ps).bind (prim p) with
    | some r => .ok r Γ
    | none => .bad
  | .meth p o es, Γ => (evO o Γ).bind fun x Γ => match (x.get Γ).map (recvK p) with
    | some true => (evs es Γ).bind fun ds Γ => match (x.get Γ).bind (fun d => prim p (d :: ds)) with
      | some r => .ok r Γ
      | none => .bad
    | _ => .bad
  | .slc o lo hi, Γ => (evO o Γ).bind fun x Γ => (partOf (isNo lo) (ev lo) Γ).bind fun l Γ => (partOf (isNo hi) (ev hi) Γ).bind fun h Γ => match (x.get Γ).bind (sliceD l h) with
    | some r => .ok r Γ
    | none => .bad
  | .call f os, Γ => (evAs os Γ).bind fun ps Γ => match onceM ps with
    | false => .bad
    | true => match argsOf Γ ps with
      | none => .bad
      | some as => (match C f as with
        | .ok r ms => (match backTo Γ ps ms with
          | some Γ' => .ok r Γ'
          | none => .bad)
        | .ex k ms => (match backTo Γ ps ms with
          | some Γ' => .ex k Γ'
          | none => .bad)
        | .bad => .bad)
  | .ite c a b, Γ => (evT c Γ).bind fun x Γ => match x with
    | true => ev a Γ
    | false => ev b Γ
  | .band a b, Γ => (ev a Γ).bind fun x Γ => match x.2 with
    | .bl true => ev b Γ
    | .bl false => .ok (.fz, .bl false) Γ
    | _ => .bad
  | .bor a b, Γ => (ev a Γ).bind fun x Γ => match x.2 with
    | .bl false => ev b Γ
    | .bl true => .ok (.fz, .bl true) Γ
    | _ => .bad
  | .bnot a, Γ => (ev a Γ).bind fun x Γ => match x.2 with
    | .bl b => .ok (.fz, .bl (!b)) Γ
    | _ => .bad
  | .chain p q a b c, Γ => (chn p q (evO a) (evO b) (evO c) Γ).bind fun x Γ => .ok (.fz, .bl x) Γ
  | .comp own g it c e, Γ => (evI it Γ).bind fun xs Γ => match canWipe Γ own with
    | false => .bad
    | true => match loopC own (bindT g) (evT c) (ev e) xs [] Γ with
      | .ok l Γ' => .ok (.own, .lst l) (unwipe Γ own Γ')
      | _ => .bad
def evs : TEs → Env → R (List D)
  | .nil, Γ => .ok [] Γ
  | .cons e es, Γ => (ev e Γ).bind fun x Γ => (evs es Γ).bind fun xs Γ => .ok (x.2 :: xs) Γ
def evO : TO → Env → R Pd
  | .v i, Γ => match slot Γ i with
    | some _ => .ok (.v i) Γ
    | none => .bad
  | .m _, _ => .bad
  | .e t, Γ => (ev t Γ).bind fun x Γ => .ok (.d x.2) Γ
def evOs : TOs → Env → R (List Pd)
  | .nil, Γ => .ok [] Γ
  | .cons o os, Γ => (evO o Γ).bind fun x Γ => (evOs os Γ).bind fun xs Γ => .ok (x :: xs) Γ
def evA : TO → Env → R Pd
  | .m i, Γ => match slot Γ i with
    | some (.own, _) => .ok (.v i) Γ
    | _ => .bad
  | .v _, _ => .bad
  | .e t, Γ => (ev t Γ).bind fun x Γ => .ok (.d x.2) Γ
def evAs : TOs → Env → R (List Pd)
  | .nil, Γ => .ok [] Γ
  | .cons o os, Γ => (evA o Γ).bind fun x Γ => (evAs os Γ).bind fun xs Γ => .ok (x :: xs) Γ
def evT : TT → Env → R Bool
  | .yes, Γ => .ok true Γ
  | .is1 p o, Γ => (evO o Γ).bind fun x Γ => match (gets Γ [x]).bind (prim p) with
    | some (_, .bl r) => .ok r Γ
    | _ => .bad
  | .tr o, Γ => (evO o Γ).bind fun p Γ => match (p.get Γ).bind truth with
    | some b => .ok b Γ
    | none => .bad
  | .cmp p a b, Γ => (evO a Γ).bind fun x Γ => (evO b Γ).bind fun y Γ => match (gets Γ [x, y]).bind (prim p) with
    | some (_, .bl r) => .ok r Γ
    | _ => .bad
  | .chn p q a b c, Γ => chn p q (evO a) (evO b) (evO c) Γ
  | .not a, Γ => (evT a Γ).bind fun b Γ => .ok (!b) Γ
  | .and a b, Γ => (evT a Γ).bind fun x Γ => match x with
    | true => evT b Γ
    | false => .ok false Γ
  | .or a b, Γ => (evT a Γ).bind fun x Γ => match x with
    | true => .ok true Γ
    | false => evT b Γ
def evI : TI → Env → R (List D)
  | .seq e, Γ => (ev e Γ).bind fun x Γ => oneOf (seqD x.2) Γ
  | .rng a, Γ => (ev a Γ).bind fun x Γ => match x.2 with
    | .int b => if rngOk b then .ok (rangeD 0 b) Γ else .bad
    | _ => .bad
  | .rng2 a b, Γ => (ev a Γ).bind fun x Γ => (ev b Γ).bind fun y Γ => match x.2, y.2 with
    | .int a, .int b => if rngOk a && rngOk b then .ok (rangeD a b) Γ else .bad
    | _, _ => .bad
  | .keys e, Γ => (ev e Γ).bind fun x Γ => match x.2 with
    | .dct ks _ => .ok ks Γ
    | _ => .bad
  | .vals e, Γ => (ev e Γ).bind fun x Γ => match x.2 with
    | .dct _ vs => .ok vs Γ
    | _ => .bad
end

mutual
def ex : TS → Env → SR
  | .bad, _ => .bad
  | .asg i e, Γ => (ev C e Γ).sr fun x Γ => .nx (Γ.set i (some x))
  | .unp is e, Γ => (ev C e Γ).sr fun x Γ => match bindT (.many is) x.2 Γ with
    | some Γ' => .nx Γ'
    | none => .bad
  | .par i j a b, Γ => (ev C a Γ).sr fun x Γ => (ev C b Γ).sr fun y Γ => .nx ((Γ.set i (some (.fz, x.2))).set j (some (.fz, y.2)))
  | .put i k e, Γ => (ev C e Γ).sr fun x Γ => match slot Γ i with
    | none => .bad
    | some _ => (ev C k Γ).sr fun y Γ => match slot Γ i with
      | some (.own, .dct ks vs) => if fits ks y.2 && decide (ks.length < most) then .nx (Γ.set i (some (.own, .dct (putK ks y.2) (putV ks vs y.2 x.2)))) else .bad
      | some (.own, .lst l) => (match y.2 with
        | .int n => if 0 ≤ n ∧ n < l.length then .nx (Γ.set i (some (.own, .lst (l.set n.toNat x.2)))) else .bad
        | _ => .bad)
      | _ => .bad
  | .app i e, Γ => match slot Γ i with
    | some (.own, .lst _) => (ev C e Γ).sr fun x Γ => (match slot Γ i with
      | some (.own, .lst l) => if l.length < most then .nx (Γ.set i (some (.own, .lst (l ++ [x.2])))) else .bad
      | _ => .bad)
    | _ => .bad
  | .ext i e, Γ => match slot Γ i with
    | some (.own, .lst _) => (ev C e Γ).sr fun x Γ => (match x.2, slot Γ i with
      | .lst m, some (.own, .lst l) => if l.length + m.length ≤ most then .nx (Γ.set i (some (.own, .lst (l ++ m)))) else .bad
      | _, _ => .bad)
    | _ => .bad
  | .exp e, Γ => (ev C e Γ).sr fun _ Γ => .nx Γ
  | .ifs c a b, Γ => (evT C c Γ).sr fun x Γ => match x with
    | true => exs a Γ
    | false => exs b Γ
  | .for_ g it b, Γ => (evI C it Γ).sr fun xs Γ => loopF (bindT g) (exs b) xs Γ
  | .whl c b, Γ => loopW (evT C c) (exs b) wf Γ
  | .ret e, Γ => (ev C e Γ).sr fun x Γ => .rt x Γ
  | .retN, Γ => .rt (.fz, .non) Γ
  | .brk, Γ => .bk Γ
  | .cnt, Γ => .ct Γ
  | .pas, Γ => .nx Γ
  | .rai k, Γ => .ex k Γ
  | .try_ b i e, Γ => match exs b Γ with
    | .ex k Γ' => if k ∈ errs then .nx ((Γ'.set e none).set i (some (.fz, .exc k))) else .bad
    | r => r
def exs : TSs → Env → SR
  | .nil, Γ => .nx Γ
  | .cons s ss, Γ => match ex s Γ with
    | .nx Γ => exs ss Γ
    | r => r
end
end

/-! ### defs -/
/-- par: how many parameters; mt: which are lent; slots: how many names -/
structure Fn where
  par : Nat
  slots : Nat
  mt : List Nat
  body : TSs
abbrev Table := List Fn
def startE (n : Nat) (as : List SD) : Env := as.map some ++ List.replicate (n - as.length) none
/-- what the owned parameters hold behind the call -/
def muts (as : List SD) (Γ : Env) : Option (List (Option SD)) := match as, Γ with
  | [], _ => some []
  | (.fz, _) :: r, _ :: Γ => (muts r Γ).map fun l => none :: l
  | (.own, _) :: r, some (.own, d) :: Γ => (muts r Γ).map fun l => some (.own, d) :: l
  | _, _ => none
/-- only the lent parameters are owned -/
def shOk (mt : List Nat) : Nat → List SD → Bool
  | _, [] => true
  | i, (s, _) :: r => (match s with
    | .own => decide (i ∈ mt)
    | .fz => true) && shOk mt (i + 1) r
def run1 (C : Calls) (wf : Nat) (f : Fn) (as : List SD) : CR := if as.length = f.par && shOk f.mt 0 as then (match exs C wf f.body (startE f.slots as) with
    | .nx Γ => (match muts as Γ with
      | some ms => .ok (.fz, .non) ms
      | none => .bad)
    | .rt r Γ => (match muts as Γ with
      | some ms => .ok r ms
      | none => .bad)
    | .ex k Γ => (match muts as Γ with
      | some ms => .ex k ms
      | none => .bad)
    | _ => .bad) else .bad
def run (T : Table) (wf : Nat) : Nat → Calls
  | 0 => fun _ _ => .bad
  | n + 1 => fun f as => match T[f]? with
    | some d => run1 (run T wf n) wf d as
    | none => .bad
end Rl
set_option Elab.async false
set_option linter.all false
set_option maxRecDepth 100000
set_option autoImplicit false
/-! Roundlines, 2: how plain data lies in the heap. -/
namespace Rl
open PySem L2

structure Cn where
  P : Program
  w : World
  K : PySem.W.Frag
  cls : String → Addr

def tS (l : List Nat) : Str := ⟨l.toArray⟩
theorem tS_inj {a b : List Nat} (h : tS a = tS b) : a = b := by
  have e : (tS a).cps.toList = (tS b).cps.toList := by rw [h]
  simpa [tS] using e
theorem tS_len (l : List Nat) : (tS l).length = l.length := by simp [tS, Str.length]
theorem tS_cps (l : List Nat) : (tS l).cps.toList = l := by simp [tS]
theorem tS_of (z : Str) : tS z.cps.toList = z := by cases z; simp [tS]

/-- a dict's object: which it is, is known -/
def dO (a : Addr) (o : Obj) : HO := .ext fun h => h.get? a = some o
mutual
def nk : D → NestedKey
  | .int i => .num i
  | .str x => .text (tS x)
  | .tup l => .tup (nks l)
  | _ => .none
def nks : List D → List NestedKey
  | [] => []
  | d :: ds => nk d :: nks ds
end
def keyM : D → Option Key
  | .int i => some (.inl i)
  | .str x => some (.inr (tS x))
  | _ => none
/-- a dict's object: its keys ks (values ys), what they hold (xs) -/
def DObj (c : Cn) (o : Obj) (ks : List D) (ys xs : List V) : Prop :=
  o.ExactDict ∧ ks.length ≤ sizeLine ∧ ∃ es ep, o.data = .dict es ep ∧ Vals ys (es.toList.map (·.key)) ∧ Vals xs (es.toList.map (·.val)) ∧ es.toList.map (·.hash) = ks.map (fun k => (nk k).hash c.w) ∧ ks.Nodup
/-- an error's object: its class is known -/
def ExT (cl : Value) (a : Addr) : HO := .ext fun h => ∃ oe vs, h.get? a = some oe ∧ Zc cl none oe ∧ oe.data = .fields vs
def DictAt (K : PySem.W.Frag) (G : Hp) (a : Addr) (o : Obj) : Prop := (G a = some (dO a o) ∨ K.lookup a = some o) ∧ (a == sysModules) = false

mutual
def Rep (c : Cn) (G : Hp) : D → V → Prop
  | .non, v => v = .non
  | .bl b, v => v = .bl b
  | .int i, v => v = .int i
  | .str x, v => v = .str (tS x)
  | .tup l, v => ∃ a xs, v = .ref a ∧ SqT c.K G a xs ∧ Reps c G l xs
  | .lst l, v => ∃ a xs, v = .ref a ∧ G a = some (.lst xs) ∧ Reps c G l xs
  | .dct ks vs, v => ∃ a o ys xs, v = .ref a ∧ DictAt c.K G a o ∧ DObj c o ks ys xs ∧ Reps c G ks ys ∧ Reps c G vs xs
  | .exc k, v => ∃ a, v = .ref a ∧ G a = some (ExT (.ref (c.cls k)) a)
  | .scr l, v => ∃ a, v = .ref a ∧ SqL c.K G a (l.map V.int)
def Reps (c : Cn) (G : Hp) : List D → List V → Prop
  | [], xs => xs = []
  | d :: ds, xs => ∃ x r, xs = x :: r ∧ Rep c G d x ∧ Reps c G ds r
end

theorem Same.sqT {K : PySem.W.Frag} {H H' : Hp} {a : Addr} {xs : List V} (e : Same H H') (h : SqT K H a xs) : SqT K H' a xs := by
  rcases h with (h | ⟨o, h⟩) | h
  · exact .inl (.inl (e _ _ h))
  · exact .inl (.inr ⟨o, e _ _ h⟩)
  · exact .inr h

section
variable {c : Cn} {G G' H H' : Hp}
mutual
theorem Rep.mono (s : Same G G') : ∀ (d : D) (v : V), Rep c G d v → Rep c G' d v
  | .non, v, h => h
  | .bl b, v, h => h
  | .int i, v, h => h
  | .str x, v, h => h
  | .tup l, v, ⟨a, xs, e, h1, h2⟩ => ⟨a, xs, e, Same.sqT s h1, Reps.mono s l xs h2⟩
  | .lst l, v, ⟨a, xs, e, h1, h2⟩ => ⟨a, xs, e, s _ _ h1, Reps.mono s l xs h2⟩
  | .dct ks vs, v, ⟨a, o, ys, xs, e, ⟨h1, h1'⟩, h2, h3, h4⟩ => ⟨a, o, ys, xs, e, ⟨h1.imp (s _ _) id, h1'⟩, h2, Reps.mono s ks ys h3, Reps.mono s vs xs h4⟩
  | .exc k, v, ⟨a, e, h⟩ => ⟨a, e, s _ _ h⟩
  | .scr l, v, ⟨a, e, h⟩ => ⟨a, e, Same.seq s h⟩
theorem Reps.mono (s : Same G G') : ∀ (l : List D) (xs : List V), Reps c G l xs → Reps c G' l xs
  | [], xs, h => h
  | d :: ds, xs, ⟨x, r, e, h1, h2⟩ => ⟨x, r, e, Rep.mono s d x h1, Reps.mono s ds r h2⟩
end
theorem Reps.length : ∀ {l : List D} {xs : List V}, Reps c G l xs → xs.length = l.length
  | [], xs, h => by rw [show xs = [] from h]; rfl
  | d :: ds, xs, ⟨x, r, e, h1, h2⟩ => by rw [e, List.length_cons, List.length_cons, Reps.length h2]
theorem Reps.get : ∀ {l : List D} {xs : List V} {i : Nat} {d : D}, Reps c G l xs → l[i]? = some d → ∃ x, xs[i]? = some x ∧ Rep c G d x
  | [], xs, i, d, h, e => by simp at e
  | d0 :: ds, xs, 0, d, ⟨x, r, e, h1, h2⟩, q => by
    simp at q; subst q
    exact ⟨x, by rw [e]; rfl, h1⟩
  | d0 :: ds, xs, i + 1, d, ⟨x, r, e, h1, h2⟩, q => by
    obtain ⟨y, hy, hr⟩ := Reps.get (i := i) (d := d) h2 (by simpa using q)
    exact ⟨y, by rw [e]; simpa using hy, hr⟩
theorem Reps.append : ∀ {l m : List D} {xs ys : List V}, Reps c G l xs → Reps c G m ys → Reps c G (l ++ m) (xs ++ ys)
  | [], m, xs, ys, h, q => by rw [show xs = [] from h]; exact q
  | d :: ds, m, xs, ys, ⟨x, r, e, h1, h2⟩, q => ⟨x, r ++ ys, by rw [e]; rfl, h1, Reps.append h2 q⟩
theorem Reps.one {d : D} {x : V} (h : Rep c G d x) : Reps c G [d] [x] := ⟨x, [], rfl, h, rfl⟩
theorem Reps.drop : ∀ {l : List D} {xs : List V} (n : Nat), Reps c G l xs → Reps c G (l.drop n) (xs.drop n)
  | l, xs, 0, h => h
  | [], xs, n + 1, h => by rw [show xs = [] from h]; rfl
  | d :: ds, xs, n + 1, ⟨x, r, e, h1, h2⟩ => by rw [e]; exact Reps.drop n h2
theorem Reps.take : ∀ {l : List D} {xs : List V} (n : Nat), Reps c G l xs → Reps c G (l.take n) (xs.take n)
  | l, xs, 0, h => by simp [Reps]
  | [], xs, n + 1, h => by rw [show xs = [] from h]; rfl
  | d :: ds, xs, n + 1, ⟨x, r, e, h1, h2⟩ => by rw [e]; exact ⟨x, r.take n, rfl, h1, Reps.take n h2⟩
theorem Reps.set : ∀ {l : List D} {xs : List V} (n : Nat) {d : D} {x : V}, Reps c G l xs → Rep c G d x → Reps c G (l.set n d) (xs.set n x)
  | [], xs, n, d, x, h, q => by rw [show xs = [] from h]; rfl
  | d0 :: ds, xs, 0, d, x, ⟨y, r, e, h1, h2⟩, q => by rw [e]; exact ⟨x, r, rfl, q, h2⟩
  | d0 :: ds, xs, n + 1, d, x, ⟨y, r, e, h1, h2⟩, q => by rw [e]; exact ⟨y, r.set n x, rfl, h1, Reps.set n h2 q⟩

/-- looked at: the object itself may be owned, its items are not -/
def Flat (c : Cn) (G H : Hp) : D → V → Prop
  | .lst l, v => ∃ a xs, v = .ref a ∧ H a = some (.lst xs) ∧ Reps c G l xs
  | .dct ks vs, v => ∃ a o ys xs, v = .ref a ∧ DictAt c.K H a o ∧ DObj c o ks ys xs ∧ Reps c G ks ys ∧ Reps c G vs xs
  | d, v => Rep c G d v
theorem Flat.of (s : Same G H) {d : D} {v : V} (h : Rep c G d v) : Flat c G H d v := by
  cases d with
  | lst l => obtain ⟨a, xs, e, h1, h2⟩ := h; exact ⟨a, xs, e, s _ _ h1, h2⟩
  | dct ks vs => obtain ⟨a, o, kvs, xs, e, ⟨h1, h1'⟩, h2⟩ := h; exact ⟨a, o, kvs, xs, e, ⟨h1.imp (s _ _) id, h1'⟩, h2⟩
  | _ => exact h
theorem Flat.rep {d : D} {v : V} (h : Flat c G G d v) : Rep c G d v := by
  cases d with
  | lst l => exact h
  | dct ks vs => exact h
  | _ => exact h
theorem Flat.mono (s : Same G G') (t : Same H H') {d : D} {v : V} (h : Flat c G H d v) : Flat c G' H' d v := by
  cases d with
  | lst l => obtain ⟨a, xs, e, h1, h2⟩ := h; exact ⟨a, xs, e, t _ _ h1, Reps.mono s _ _ h2⟩
  | dct ks vs => obtain ⟨a, o, ys, xs, e, ⟨h1, h1'⟩, h2, h3, h4⟩ := h; exact ⟨a, o, ys, xs, e, ⟨h1.imp (t _ _) id, h1'⟩, h2, Reps.mono s _ _ h3, Reps.mono s _ _ h4⟩
  | _ => exact Rep.mono s _ _ h
def Flats (c : Cn) (G H : Hp) : List D → List V → Prop
  | [], xs => xs = []
  | d :: ds, xs => ∃ x r, xs = x :: r ∧ Flat c G H d x ∧ Flats c G H ds r

/-- with its ownership: T lists the owned objects -/
def RepS (c : Cn) (G H : Hp) (s : Sh) (d : D) (v : V) (T : List Addr) : Prop := match s with
  | .fz => T = [] ∧ Rep c G d v
  | .own => ∃ a, v = .ref a ∧ T = [a] ∧ (match d with
    | .lst l => ∃ xs, H a = some (.lst xs) ∧ Reps c G l xs
    | .dct ks vs => ∃ o ys xs, H a = some (dO a o) ∧ (a == sysModules) = false ∧ DObj c o ks ys xs ∧ Reps c G ks ys ∧ Reps c G vs xs
    | _ => False)
theorem RepS.flat (s : Same G H) {sh : Sh} {d : D} {v : V} {T : List Addr} (h : RepS c G H sh d v T) : Flat c G H d v := by
  cases sh with
  | fz => exact Flat.of s h.2
  | own =>
    obtain ⟨a, e, _, h⟩ := h
    cases d with
    | lst l => obtain ⟨xs, h1, h2⟩ := h; exact ⟨a, xs, e, h1, h2⟩
    | dct ks vs => obtain ⟨o, kvs, xs, h1, h1', h2⟩ := h; exact ⟨a, o, kvs, xs, e, ⟨.inl h1, h1'⟩, h2⟩
    | _ => exact h.elim
theorem RepS.dom {sh : Sh} {d : D} {v : V} {T : List Addr} (h : RepS c G H sh d v T) : ∀ a ∈ T, ∃ o, H a = some o := by
  intro b hb
  cases sh with
  | fz => rw [h.1] at hb; cases hb
  | own =>
    obtain ⟨a, e, hT, h⟩ := h
    rw [hT] at hb
    have e : b = a := by simpa using hb
    subst e
    cases d with
    | lst l => obtain ⟨xs, h1, h2⟩ := h; exact ⟨_, h1⟩
    | dct ks vs => obtain ⟨o, kvs, xs, h1, h2⟩ := h; exact ⟨_, h1⟩
    | _ => exact h.elim
theorem RepS.mono (s : Same G G') {sh : Sh} {d : D} {v : V} {T : List Addr} (t : ∀ a ∈ T, H' a = H a) (h : RepS c G H sh d v T) : RepS c G' H' sh d v T := by
  cases sh with
  | fz => exact ⟨h.1, Rep.mono s _ _ h.2⟩
  | own =>
    obtain ⟨a, e, hT, h⟩ := h
    refine ⟨a, e, hT, ?_⟩
    have q : H' a = H a := t a (by rw [hT]; simp)
    cases d with
    | lst l => obtain ⟨xs, h1, h2⟩ := h; exact ⟨xs, q.trans h1, Reps.mono s _ _ h2⟩
    | dct ks vs => obtain ⟨o, ys, xs, h1, h1', h2, h3, h4⟩ := h; exact ⟨o, ys, xs, q.trans h1, h1', h2, Reps.mono s _ _ h3, Reps.mono s _ _ h4⟩
    | _ => exact h.elim
/-- the owned objects become shared ones -/
def frzH (G H : Hp) (T : List Addr) : Hp := fun a => if a ∈ T then H a else G a
theorem frzH_in {T : List Addr} {a : Addr} (h : a ∈ T) : frzH G H T a = H a := if_pos h
theorem frzH_out {T : List Addr} {a : Addr} (h : a ∉ T) : frzH G H T a = G a := if_neg h
theorem frzH_same {T : List Addr} (n : ∀ a ∈ T, G a = none) : Same G (frzH G H T) := fun a o e => by
  have h : a ∉ T := fun z => by rw [n a z] at e; cases e
  rw [frzH_out h]; exact e
theorem frzH_sub {T : List Addr} (s : Same G H) : Same (frzH G H T) H := fun a o e => by
  by_cases h : a ∈ T
  · rw [frzH_in h] at e; exact e
  · rw [frzH_out h] at e; exact s _ _ e
theorem frzH_nil : frzH G H [] = G := by
  funext a
  exact frzH_out (by simp)
theorem RepS.freeze {sh : Sh} {d : D} {v : V} {T : List Addr} (n : ∀ a ∈ T, G a = none) (h : RepS c G H sh d v T) : Rep c (frzH G H T) d v := by
  have s : Same G (frzH G H T) := frzH_same n
  cases sh with
  | fz => exact Rep.mono s _ _ h.2
  | own =>
    obtain ⟨a, e, hT, h⟩ := h
    have q : frzH G H T a = H a := frzH_in (by rw [hT]; simp)
    cases d with
    | lst l => obtain ⟨xs, h1, h2⟩ := h; exact ⟨a, xs, e, q.trans h1, Reps.mono s _ _ h2⟩
    | dct ks vs => obtain ⟨o, ys, xs, h1, h1', h2, h3, h4⟩ := h; exact ⟨a, o, ys, xs, e, ⟨.inl (q.trans h1), h1'⟩, h2, Reps.mono s _ _ h3, Reps.mono s _ _ h4⟩
    | _ => exact h.elim
end

/-! ### a frame: what its names hold -/
/-- at the entry: G0 the shared objects, H0 all objects, F0 the ones that are lent to be changed -/
structure En where
  G0 : Hp
  H0 : Hp
  F0 : List Addr
  P0 : List (Nat × V)
def En.No (n : En) (i : Nat) : Prop := ∀ p ∈ n.P0, p.1 ≠ i
def En.Own (n : En) (a : Addr) : Prop := a ∈ n.F0 ∨ n.H0 a = none
structure Fr (c : Cn) (n : En) (G H : Hp) (σ : St) (Γ : Env) (T : List Addr) : Prop where
  gh : Same G H
  sl : ∃ fp : Nat → List Addr, (∀ i s d, slot Γ i = some (s, d) → ∃ v, σ[i]? = some (some v) ∧ RepS c G H s d v (fp i)) ∧
    (∀ i j a, a ∈ fp i → a ∈ fp j → i = j) ∧ ∀ i a, a ∈ fp i → G a = none ∧ a ∉ T ∧ n.Own a ∧ ∃ o, H a = some o
  tm : ∀ a ∈ T, G a = none ∧ n.Own a
  keep : ∀ a o, n.H0 a = some o → a ∉ n.F0 → H a = some o
  grow : Same n.G0 G
  new : ∀ a o, G a = some o → n.G0 a = some o ∨ n.Own a
  len : σ.length = Γ.length
  lent : ∀ a ∈ n.F0, ∃ o, H a = some o
  pin : ∀ p ∈ n.P0, σ[p.1]? = some (some p.2)
section
variable {c : Cn} {n : En} {G G' H H' : Hp} {σ : St} {Γ : Env} {T : List Addr}
theorem Fr.own (f : Fr c n G H σ Γ T) {a : Addr} (h : H a = none) : n.Own a := by
  by_cases hf : a ∈ n.F0
  · exact .inl hf
  · cases e : n.H0 a with
    | none => exact .inr e
    | some o => rw [f.keep a o e hf] at h; cases h
theorem Fr.gnone (f : Fr c n G H σ Γ T) {a : Addr} (h : H a = none) : G a = none := by
  cases e : G a with
  | none => rfl
  | some o => rw [f.gh a o e] at h; cases h
/-- a value that was just made is shared from now on -/
theorem Fr.freeze (f : Fr c n G H σ Γ T) {s : Sh} {d : D} {v : V} (r : RepS c G H s d v T) : ∃ G', Same G G' ∧ Fr c n G' H σ Γ [] ∧ Rep c G' d v := by
  have nT : ∀ a ∈ T, G a = none := fun a h => (f.tm a h).1
  have s1 : Same G (frzH G H T) := frzH_same nT
  refine ⟨frzH G H T, s1, ⟨frzH_sub f.gh, ?_, fun a h => (by cases h), f.keep, f.grow.trans s1, ?_, f.len, f.lent, f.pin⟩, r.freeze nT⟩
  · obtain ⟨fp, h1, h2, h3⟩ := f.sl
    refine ⟨fp, fun i s d e => ?_, h2, fun i a h => ?_⟩
    · obtain ⟨v, hv, hr⟩ := h1 i s d e
      exact ⟨v, hv, hr.mono s1 fun _ _ => rfl⟩
    · obtain ⟨a1, a2, a3, a4⟩ := h3 i a h
      exact ⟨by rw [frzH_out a2]; exact a1, by simp, a3, a4⟩
  · intro a o e
    by_cases h : a ∈ T
    · exact .inr (f.tm a h).2
    · rw [frzH_out h] at e; exact f.new a o e
theorem Fr.noT (f : Fr c n G H σ Γ T) : Fr c n G H σ Γ [] := by
  refine ⟨f.gh, ?_, fun a h => (by cases h), f.keep, f.grow, f.new, f.len, f.lent, f.pin⟩
  obtain ⟨fp, h1, h2, h3⟩ := f.sl
  exact ⟨fp, h1, h2, fun i a h => ⟨(h3 i a h).1, by simp, (h3 i a h).2.2⟩⟩
theorem slot_set_same {Γ : Env} {i : Nat} {x : Option SD} (h : i < Γ.length) : slot (Γ.set i x) i = x := by
  unfold slot; rw [List.getElem?_set_self h]; rfl
theorem slot_set_ne {Γ : Env} {i j : Nat} {x : Option SD} (h : i ≠ j) : slot (Γ.set i x) j = slot Γ j := by
  unfold slot; rw [List.getElem?_set_ne h]
theorem slot_set {Γ : Env} {i j : Nat} {x : Option SD} {y : SD} (h : slot (Γ.set i x) j = some y) : (j = i ∧ x = some y) ∨ (j ≠ i ∧ slot Γ j = some y) := by
  by_cases e : i = j
  · subst e
    by_cases l : i < Γ.length
    · rw [slot_set_same l] at h; exact .inl ⟨rfl, h⟩
    · unfold slot at h
      rw [List.getElem?_eq_none (by simpa using l)] at h
      cases h
  · rw [slot_set_ne e] at h
    exact .inr ⟨fun z => e z.symm, h⟩
theorem slot_lt {Γ : Env} {i : Nat} {x : SD} (h : slot Γ i = some x) : i < Γ.length := by
  by_cases l : i < Γ.length
  · exact l
  · unfold slot at h
    rw [List.getElem?_eq_none (by simpa using l)] at h
    cases h
/-- a name's object is shared from now on -/
theorem Fr.share (f : Fr c n G H σ Γ []) {i : Nat} {s : Sh} {d : D} (e : slot Γ i = some (s, d)) : ∃ G' v, Same G G' ∧ Fr c n G' H σ (Γ.set i (some (.fz, d))) [] ∧ σ[i]? = some (some v) ∧ Rep c G' d v := by
  obtain ⟨fp, h1, h2, h3⟩ := f.sl
  obtain ⟨v, hv, hr⟩ := h1 i s d e
  have nT : ∀ a ∈ fp i, G a = none := fun a h => (h3 i a h).1
  have s1 : Same G (frzH G H (fp i)) := frzH_same nT
  have rv : Rep c (frzH G H (fp i)) d v := hr.freeze nT
  refine ⟨frzH G H (fp i), v, s1, ⟨frzH_sub f.gh, ⟨fun j => if j = i then [] else fp j, fun j s' d' e' => ?_, fun j k a ha hb => ?_, fun j a ha => ?_⟩, fun a h => (by cases h), f.keep, f.grow.trans s1, ?_, by rw [List.length_set]; exact f.len, f.lent, f.pin⟩, hv, rv⟩
  · rcases slot_set e' with ⟨rfl, q⟩ | ⟨ne, q⟩
    · cases q
      exact ⟨v, hv, by simp only [if_true]; exact ⟨rfl, rv⟩⟩
    · obtain ⟨v', hv', hr'⟩ := h1 j s' d' q
      exact ⟨v', hv', by simp only [if_neg ne]; exact hr'.mono s1 fun _ _ => rfl⟩
  · by_cases q : j = i
    · simp [q] at ha
    · by_cases q' : k = i
      · simp [q'] at hb
      · simp only [if_neg q] at ha
        simp only [if_neg q'] at hb
        exact h2 j k a ha hb
  · by_cases q : j = i
    · simp [q] at ha
    · simp only [if_neg q] at ha
      obtain ⟨a1, a2, a3⟩ := h3 j a ha
      refine ⟨?_, a2, a3⟩
      rw [frzH_out fun z => q (h2 j i a ha z)]
      exact a1
  · intro a o e
    by_cases h : a ∈ fp i
    · exact .inr (h3 i a h).2.2.1
    · rw [frzH_out h] at e; exact f.new a o e
/-- a name's object is handed on -/
theorem Fr.move (f : Fr c n G H σ Γ []) {i : Nat} {s : Sh} {d : D} (e : slot Γ i = some (s, d)) : ∃ v T, σ[i]? = some (some v) ∧ RepS c G H s d v T ∧ Fr c n G H σ (Γ.set i none) T := by
  obtain ⟨fp, h1, h2, h3⟩ := f.sl
  obtain ⟨v, hv, hr⟩ := h1 i s d e
  refine ⟨v, fp i, hv, hr, ⟨f.gh, ⟨fun j => if j = i then [] else fp j, fun j s' d' e' => ?_, fun j k a ha hb => ?_, fun j a ha => ?_⟩, fun a h => ⟨(h3 i a h).1, (h3 i a h).2.2.1⟩, f.keep, f.grow, f.new, by rw [List.length_set]; exact f.len, f.lent, f.pin⟩⟩
  · rcases slot_set e' with ⟨rfl, q⟩ | ⟨ne, q⟩
    · cases q
    · obtain ⟨v', hv', hr'⟩ := h1 j s' d' q
      exact ⟨v', hv', by simp only [if_neg ne]; exact hr'⟩
  · by_cases q : j = i
    · simp [q] at ha
    · by_cases q' : k = i
      · simp [q'] at hb
      · simp only [if_neg q] at ha
        simp only [if_neg q'] at hb
        exact h2 j k a ha hb
  · by_cases q : j = i
    · simp [q] at ha
    · simp only [if_neg q] at ha
      obtain ⟨a1, a2, a3⟩ := h3 j a ha
      exact ⟨a1, fun z => q (h2 j i a ha z), a3⟩
/-- a value goes to a name -/
theorem Fr.store (f : Fr c n G H σ Γ T) {i : Nat} {s : Sh} {d : D} {v : V} (r : RepS c G H s d v T) (hi : i < Γ.length) (hno : n.No i) : Fr c n G H (σ.set i (some v)) (Γ.set i (some (s, d))) [] := by
  obtain ⟨fp, h1, h2, h3⟩ := f.sl
  have hiσ : i < σ.length := by rw [f.len]; exact hi
  refine ⟨f.gh, ⟨fun j => if j = i then T else fp j, fun j s' d' e' => ?_, fun j k a ha hb => ?_, fun j a ha => ?_⟩, fun a h => (by cases h), f.keep, f.grow, f.new, by rw [List.length_set, List.length_set]; exact f.len, f.lent, fun p hp => by rw [List.getElem?_set_ne (Ne.symm (hno p hp))]; exact f.pin p hp⟩
  · rcases slot_set e' with ⟨rfl, q⟩ | ⟨ne, q⟩
    · cases q
      exact ⟨v, List.getElem?_set_self hiσ, by simp only [if_true]; exact r⟩
    · obtain ⟨v', hv', hr'⟩ := h1 j s' d' q
      exact ⟨v', by rw [List.getElem?_set_ne (Ne.symm ne)]; exact hv', by simp only [if_neg ne]; exact hr'⟩
  · by_cases q : j = i
    · by_cases q' : k = i
      · rw [q, q']
      · simp only [if_pos q] at ha
        simp only [if_neg q'] at hb
        exact absurd ha (h3 k a hb).2.1
    · by_cases q' : k = i
      · simp only [if_neg q] at ha
        simp only [if_pos q'] at hb
        exact absurd hb (h3 j a ha).2.1
      · simp only [if_neg q] at ha
        simp only [if_neg q'] at hb
        exact h2 j k a ha hb
  · by_cases q : j = i
    · simp only [if_pos q] at ha
      exact ⟨(f.tm a ha).1, by simp, (f.tm a ha).2, r.dom a ha⟩
    · simp only [if_neg q] at ha
      exact ⟨(h3 j a ha).1, by simp, (h3 j a ha).2.2⟩
/-- a name is forgotten -/
theorem Fr.drop (f : Fr c n G H σ Γ T) (i : Nat) : Fr c n G H σ (Γ.set i none) T := by
  obtain ⟨fp, h1, h2, h3⟩ := f.sl
  refine ⟨f.gh, ⟨fp, fun j s' d' e' => ?_, h2, h3⟩, f.tm, f.keep, f.grow, f.new, by rw [List.length_set]; exact f.len, f.lent, f.pin⟩
  rcases slot_set e' with ⟨rfl, q⟩ | ⟨ne, q⟩
  · cases q
  · exact h1 j s' d' q
/-- the slots of the machine may lose a name that the text has forgotten, or gain one -/
theorem Fr.anyσ (f : Fr c n G H σ Γ T) {i : Nat} (h : slot Γ i = none) (x : Option V) (hno : n.No i) : Fr c n G H (σ.set i x) Γ T := by
  obtain ⟨fp, h1, h2, h3⟩ := f.sl
  refine ⟨f.gh, ⟨fp, fun j s' d' e' => ?_, h2, h3⟩, f.tm, f.keep, f.grow, f.new, by rw [List.length_set]; exact f.len, f.lent, fun p hp => by rw [List.getElem?_set_ne (Ne.symm (hno p hp))]; exact f.pin p hp⟩
  obtain ⟨v', hv', hr'⟩ := h1 j s' d' e'
  have ne : i ≠ j := fun z => by rw [z, e'] at h; cases h
  exact ⟨v', by rw [List.getElem?_set_ne ne]; exact hv', hr'⟩
/-- the heap grows: nothing that stood is changed -/
theorem Fr.ext (f : Fr c n G H σ Γ []) (s : Same H H') (g : Same G G') (gh : Same G' H') (hn : ∀ a o, G' a = some o → G a = some o ∨ H a = none) {T' : List Addr} (hT : ∀ a ∈ T', H a = none ∧ G' a = none) : Fr c n G' H' σ Γ T' := by
  obtain ⟨fp, h1, h2, h3⟩ := f.sl
  refine ⟨gh, ⟨fp, fun i s' d e => ?_, h2, fun i a h => ?_⟩, fun a h => ⟨(hT a h).2, f.own (hT a h).1⟩, fun a o e k => s _ _ (f.keep a o e k), f.grow.trans g, fun a o e => ?_, f.len, fun a h => let ⟨o, e⟩ := f.lent a h; ⟨o, s _ _ e⟩, f.pin⟩
  · obtain ⟨v, hv, hr⟩ := h1 i s' d e
    refine ⟨v, hv, hr.mono g fun a ha => ?_⟩
    obtain ⟨o, ho⟩ := hr.dom a ha
    rw [ho, s _ _ ho]
  · obtain ⟨a1, a2, a3, o, ho⟩ := h3 i a h
    refine ⟨?_, fun z => ?_, a3, o, s _ _ ho⟩
    · cases q : G' a with
      | none => rfl
      | some u =>
        rcases hn a u q with z | z
        · rw [a1] at z; cases z
        · rw [ho] at z; cases z
    · have z' := (hT a z).1
      rw [ho] at z'; cases z'
  · rcases hn a o e with z | z
    · exact f.new a o z
    · exact .inr (f.own z)
/-- a name's own object is changed -/
theorem Fr.write (f : Fr c n G H σ Γ []) {i : Nat} {s : Sh} {d d' : D} {a : Addr} {o' : HO} (e : slot Γ i = some (.own, d)) (hσ : σ[i]? = some (some (.ref a)))
    (r : RepS c G (upd H a o') .own d' (.ref a) [a]) : Fr c n G (upd H a o') σ (Γ.set i (some (.own, d'))) [] := by
  obtain ⟨fp, h1, h2, h3⟩ := f.sl
  obtain ⟨v, hv, b, hb1, hb2, hb3⟩ := h1 i .own d e
  have ev : v = .ref a := by rw [hσ] at hv; exact (Option.some.inj (Option.some.inj hv)).symm
  subst ev
  cases hb1
  obtain ⟨a1, a2, a3, o, ho⟩ := h3 i a (by rw [hb2]; simp)
  refine ⟨fun b u q => ?_, ⟨fp, fun j s' d'' e' => ?_, h2, fun j b hb => ?_⟩, fun a h => (by cases h), fun b u q k => ?_, f.grow, f.new, by rw [List.length_set]; exact f.len, fun b hb => ?_, f.pin⟩
  · have ne : b ≠ a := fun z => by rw [z, a1] at q; cases q
    rw [upd_ne ne]; exact f.gh b u q
  · rcases slot_set e' with ⟨rfl, q⟩ | ⟨ne, q⟩
    · cases q
      exact ⟨_, hσ, by rw [hb2]; exact r⟩
    · obtain ⟨v', hv', hr'⟩ := h1 j s' d'' q
      refine ⟨v', hv', hr'.mono (fun _ _ z => z) fun b hb => ?_⟩
      have ne' : b ≠ a := fun z => ne (h2 j i a (z ▸ hb) (by rw [hb2]; simp))
      rw [upd_ne ne']
  · obtain ⟨c1, c2, c3, o2, ho2⟩ := h3 j b hb
    refine ⟨c1, c2, c3, ?_⟩
    by_cases z : b = a
    · rw [z, upd_same]; exact ⟨_, rfl⟩
    · rw [upd_ne z]; exact ⟨_, ho2⟩
  · have ne : b ≠ a := fun z => by
      rcases a3 with w | w
      · exact k (z ▸ w)
      · rw [z, w] at q; cases q
    rw [upd_ne ne]; exact f.keep b u q k
  · by_cases z : b = a
    · rw [z, upd_same]; exact ⟨_, rfl⟩
    · rw [upd_ne z]; exact f.lent b hb
/-- an object that nobody holds is kept aside -/
def En.guard (n : En) (p : Addr) (o : HO) : En := ⟨n.G0, upd n.H0 p o, n.F0, n.P0⟩
theorem Fr.free (f : Fr c n G H σ Γ T) {p : Addr} (h : H p = none) : n.H0 p = none ∧ p ∉ n.F0 ∧ n.G0 p = none := by
  have h1 : p ∉ n.F0 := fun z => by obtain ⟨o, e⟩ := f.lent p z; rw [h] at e; cases e
  refine ⟨?_, h1, ?_⟩
  · cases e : n.H0 p with
    | none => rfl
    | some o => rw [f.keep p o e h1] at h; cases h
  · cases e : n.G0 p with
    | none => rfl
    | some o => rw [f.gh p o (f.grow p o e)] at h; cases h
theorem Fr.guard (f : Fr c n G H σ Γ []) {p : Addr} (h : H p = none) (o : HO) : Fr c (n.guard p o) G (upd H p o) σ Γ [] := by
  have own : ∀ a, n.Own a → a ≠ p → (n.guard p o).Own a := fun a w ne => by
    rcases w with w | w
    · exact .inl w
    · exact .inr (by show upd n.H0 p o a = none; rw [upd_ne ne]; exact w)
  have s1 : Same H (upd H p o) := fun b u e => by rw [upd_ne (ne_of_none e h)]; exact e
  obtain ⟨fp, h1, h2, h3⟩ := f.sl
  refine ⟨f.gh.trans s1, ⟨fp, fun i s d e => ?_, h2, fun i a ha => ?_⟩, fun a h => (by cases h), fun a u e k => ?_, f.grow, fun a u e => ?_, f.len, fun a ha => ?_, f.pin⟩
  · obtain ⟨v, hv, hr⟩ := h1 i s d e
    refine ⟨v, hv, hr.mono (fun _ _ z => z) fun a ha => ?_⟩
    obtain ⟨u, hu⟩ := hr.dom a ha
    rw [hu, s1 _ _ hu]
  · obtain ⟨a1, a2, a3, u, hu⟩ := h3 i a ha
    exact ⟨a1, a2, own a a3 (ne_of_none hu h), u, s1 _ _ hu⟩
  · have e : upd n.H0 p o a = some u := e
    by_cases z : a = p
    · rw [z, upd_same] at e ⊢; exact e
    · rw [upd_ne z] at e ⊢; exact f.keep a u e k
  · rcases f.new a u e with z | z
    · exact .inl z
    · exact .inr (own a z (ne_of_none (f.gh _ _ e) h))
  · obtain ⟨u, e⟩ := f.lent a ha
    exact ⟨u, s1 _ _ e⟩
/-- .. and is there still -/
theorem Fr.guarded {p : Addr} {o : HO} (h0 : n.H0 p = none ∧ p ∉ n.F0 ∧ n.G0 p = none) (f : Fr c (n.guard p o) G H σ Γ T) : H p = some o ∧ G p = none ∧ (∀ i s d, slot Γ i = some (s, d) → ∀ v T, σ[i]? = some (some v) → RepS c G H s d v T → p ∉ T) := by
  have hp : H p = some o := f.keep p o (by show upd n.H0 p o p = some o; exact upd_same) h0.2.1
  refine ⟨hp, ?_, fun i s d e v T' hv r hT => ?_⟩
  · cases e : G p with
    | none => rfl
    | some u =>
      rcases f.new p u e with z | z
      · have z : n.G0 p = some u := z
        rw [h0.2.2] at z; cases z
      · rcases z with z | z
        · exact absurd z h0.2.1
        · have z : upd n.H0 p o p = none := z
          rw [upd_same] at z; cases z
  · obtain ⟨fp, h1, h2, h3⟩ := f.sl
    obtain ⟨v', hv', r'⟩ := h1 i s d e
    rw [hv] at hv'
    cases hv'
    have eT : T' = fp i := by
      cases s with
      | fz => rw [r.1, r'.1]
      | own =>
        obtain ⟨a, ea, eT, _⟩ := r
        obtain ⟨a', ea', eT', _⟩ := r'
        rw [ea] at ea'
        cases ea'
        rw [eT, eT']
    rw [eT] at hT
    obtain ⟨_, _, a3, _⟩ := h3 i p hT
    rcases a3 with z | z
    · exact h0.2.1 z
    · have z : upd n.H0 p o p = none := z
      rw [upd_same] at z; cases z
theorem Fr.unguard {p : Addr} {o : HO} (h0 : n.H0 p = none ∧ p ∉ n.F0 ∧ n.G0 p = none) (f : Fr c (n.guard p o) G H σ Γ T) : Fr c n G H σ Γ T := by
  have own : ∀ a, (n.guard p o).Own a → n.Own a := fun a w => by
    rcases w with w | w
    · exact .inl w
    · have w : upd n.H0 p o a = none := w
      by_cases z : a = p
      · rw [z, upd_same] at w; cases w
      · rw [upd_ne z] at w; exact .inr w
  obtain ⟨fp, h1, h2, h3⟩ := f.sl
  refine ⟨f.gh, ⟨fp, h1, h2, fun i a ha => ?_⟩, fun a h => ⟨(f.tm a h).1, own a (f.tm a h).2⟩, fun a u e k => ?_, f.grow, fun a u e => (f.new a u e).imp id (own a), f.len, f.lent, f.pin⟩
  · obtain ⟨a1, a2, a3, a4⟩ := h3 i a ha
    exact ⟨a1, a2, own a a3, a4⟩
  · refine f.keep a u ?_ k
    have z : a ≠ p := fun z => by rw [z, h0.1] at e; cases e
    show upd n.H0 p o a = some u
    rw [upd_ne z]; exact e
/-- what was kept aside is changed -/
theorem Fr.aside {p : Addr} {o o' : HO} (h0 : n.H0 p = none ∧ p ∉ n.F0 ∧ n.G0 p = none) (f : Fr c (n.guard p o) G H σ Γ []) : Fr c n G (upd H p o') σ Γ [p] := by
  obtain ⟨hp, hg, _⟩ := f.guarded h0
  have f' := f.unguard h0
  obtain ⟨fp, h1, h2, h3⟩ := f.sl
  have nfp : ∀ i, p ∉ fp i := fun i hi => by
    obtain ⟨_, _, a3, _⟩ := h3 i p hi
    rcases a3 with z | z
    · exact h0.2.1 z
    · have z : upd n.H0 p o p = none := z
      rw [upd_same] at z; cases z
  obtain ⟨gh, sl, tm, keep, grow, new, len, lent, pin⟩ := f'
  have own : ∀ a, (n.guard p o).Own a → n.Own a := fun a w => by
    rcases w with w | w
    · exact .inl w
    · have w : upd n.H0 p o a = none := w
      by_cases z : a = p
      · rw [z, upd_same] at w; cases w
      · rw [upd_ne z] at w; exact .inr w
  refine ⟨fun b u q => ?_, ⟨fp, fun i s d e => ?_, h2, fun i a ha => ?_⟩, fun a ha => ?_, fun b u q k => ?_, grow, new, len, fun b hb => ?_, pin⟩
  · have ne : b ≠ p := fun z => by rw [z, hg] at q; cases q
    rw [upd_ne ne]; exact gh b u q
  · obtain ⟨v, hv, hr⟩ := h1 i s d e
    refine ⟨v, hv, hr.mono (fun _ _ z => z) fun a ha => ?_⟩
    have ne : a ≠ p := fun z => nfp i (z ▸ ha)
    rw [upd_ne ne]
  · obtain ⟨a1, a2, a3, u, hu⟩ := h3 i a ha
    have ne : a ≠ p := fun z => nfp i (z ▸ ha)
    exact ⟨a1, by simpa using ne, own a a3, u, by rw [upd_ne ne]; exact hu⟩
  · have e : a = p := by simpa using ha
    subst e
    exact ⟨hg, .inr h0.1⟩
  · have ne : b ≠ p := fun z => by rw [z, h0.1] at q; cases q
    rw [upd_ne ne]; exact keep b u q k
  · have ne : b ≠ p := fun z => h0.2.1 (z ▸ hb)
    rw [upd_ne ne]; exact lent b hb
theorem Fr.reguard {p : Addr} {o o' : HO} (h0 : n.H0 p = none ∧ p ∉ n.F0 ∧ n.G0 p = none) (f : Fr c (n.guard p o) G H σ Γ []) : Fr c (n.guard p o') G (upd H p o') σ Γ [] := by
  have f2 := (f.aside (o' := o') h0).noT
  obtain ⟨hp, hg, _⟩ := f.guarded h0
  obtain ⟨fp, h1, h2, h3⟩ := f.sl
  have nfp : ∀ i, p ∉ fp i := fun i hi => by
    obtain ⟨_, _, a3, _⟩ := h3 i p hi
    rcases a3 with z | z
    · exact h0.2.1 z
    · have z : upd n.H0 p o p = none := z
      rw [upd_same] at z; cases z
  obtain ⟨gh, sl, tm, keep, grow, new, len, lent, pin⟩ := f2
  have own : ∀ a, (n.guard p o).Own a → (n.guard p o').Own a := fun a w => by
    rcases w with w | w
    · exact .inl w
    · have w : upd n.H0 p o a = none := w
      by_cases z : a = p
      · rw [z, upd_same] at w; cases w
      · rw [upd_ne z] at w; exact .inr (by show upd n.H0 p o' a = none; rw [upd_ne z]; exact w)
  refine ⟨gh, ⟨fp, fun i s d e => ?_, h2, fun i a ha => ?_⟩, fun a ha => (by cases ha), fun b u q k => ?_, grow, fun a u e => ?_, len, lent, pin⟩
  · obtain ⟨v, hv, hr⟩ := h1 i s d e
    refine ⟨v, hv, hr.mono (fun _ _ z => z) fun a ha => ?_⟩
    have ne : a ≠ p := fun z => nfp i (z ▸ ha)
    rw [upd_ne ne]
  · obtain ⟨a1, a2, a3, u, hu⟩ := h3 i a ha
    have ne : a ≠ p := fun z => nfp i (z ▸ ha)
    exact ⟨a1, a2, own a a3, u, by rw [upd_ne ne]; exact hu⟩
  · have q : upd n.H0 p o' b = some u := q
    by_cases z : b = p
    · rw [z, upd_same] at q ⊢; exact q
    · rw [upd_ne z] at q; exact keep b u q k
  · exact (f.new a u e).imp id (own a)
/-- what a name holds, to be looked at -/
theorem Fr.look (f : Fr c n G H σ Γ T) {i : Nat} {s : Sh} {d : D} (e : slot Γ i = some (s, d)) : ∃ v, σ[i]? = some (some v) ∧ Flat c G H d v := by
  obtain ⟨fp, h1, h2, h3⟩ := f.sl
  obtain ⟨v, hv, hr⟩ := h1 i s d e
  exact ⟨v, hv, hr.flat f.gh⟩
theorem Fr.lookS (f : Fr c n G H σ Γ T) {i : Nat} {s : Sh} {d : D} (e : slot Γ i = some (s, d)) : ∃ v T, σ[i]? = some (some v) ∧ RepS c G H s d v T := by
  obtain ⟨fp, h1, h2, h3⟩ := f.sl
  obtain ⟨v, hv, hr⟩ := h1 i s d e
  exact ⟨v, _, hv, hr⟩
end
end Rl
set_option Elab.async false
set_option linter.all false
set_option maxRecDepth 100000
set_option autoImplicit false
/-! Roundlines, 12: what the head looks at. -/
namespace Rl
open PySem L2 He
/-! ### constants -/
mutual
/-- a value of the written part that is this datum (dicts apart) -/
def repB (K : PySem.W.Frag) : D → Value → Bool
  | .non, u => (match u with
    | .none => true
    | _ => false)
  | .bl b, u => (match u with
    | .bool b' => b == b'
    | _ => false)
  | .int i, u => (match u with
    | .int j _ => decide (i = j)
    | _ => false)
  | .str x, u => (match u with
    | .str y _ => decide (y.cps.toList = x)
    | _ => false)
  | .tup l, u => (match u with
    | .ref a => (match K.lookup a with
      | some ⟨.type t, _, .seq its _, _⟩ => decide (t = "tuple") && decide (its.size ≤ sizeLine) && repsB K l its.toList
      | _ => false)
    | _ => false)
  | _, _ => false
def repsB (K : PySem.W.Frag) : List D → List Value → Bool
  | [], us => us.isEmpty
  | d :: ds, us => (match us with
    | u :: us => repB K d u && repsB K ds us
    | [] => false)
end
/-- the entries of the dict that a name of the module stands for -/
def entK (K : PySem.W.Frag) (x : Str) : List DictEntry := match K.lookup (ga K x) with
  | some ⟨_, _, .dict es _, _⟩ => es.toList
  | _ => []
def gloB (K : PySem.W.Frag) (p : Str × D) : Bool := match p.2 with
  | .dct ks vs => (Fa.glo p.1).ok K && (match K.lookup (ga K p.1) with
    | some ⟨.type t, none, .dict es _, sl⟩ => decide (t = "dict") && sl.isEmpty && decide (ks.length ≤ sizeLine) && repsB K ks (es.toList.map (·.key)) && repsB K vs (es.toList.map (·.val))
    | _ => false) && !(ga K p.1 == sysModules)
  | d => (match PySem.W.nsIn K mainGlobals p.1 with
    | some (some u) => repB K d u
    | _ => false)
def hashK (K : PySem.W.Frag) (p : Str × D) : List Int := match p.2 with
  | .dct _ _ => (entK K p.1).map (·.hash)
  | _ => []
def hashD (w : World) (p : Str × D) : List Int := match p.2 with
  | .dct ks _ => ks.map fun k => (nk k).hash w
  | _ => []
def excB (K : PySem.W.Frag) (C : Addr) : Bool := eqO (PySem.W.findIn K (.ref C) "__getattribute__") (some (some (.builtin "BaseException.__getattribute__"))) && eqO (PySem.W.findIn K (.ref C) "__getattr__") (some none) &&
  decide (PySem.W.subIn K (.ref C) (.type "BaseException") = some true) && PySem.W.hasDictIn K C && eqO (PySem.W.findIn K (.ref C) "__class__") (some (some (.builtin "object.__class__"))) &&
  eqO (PySem.W.specialIn K (.builtin "object.__class__") "__get__") (some (some (.builtin "getset_descriptor.__get__"))) && decide (PySem.W.takesIn K (.builtin "object.__class__") = some true) && decide (PySem.W.mroIn K C (.type "object") = some true)
def clsK (K : PySem.W.Frag) (k : String) : Addr := ga K (Str.ofString k)
def errB (K : PySem.W.Frag) : Bool := (Fa.glo (Str.ofString "LineError")).ok K && errs.all fun k => (Fa.glo (Str.ofString k)).ok K && (Fa.exc (Str.ofString k)).ok K && excB K (clsK K k) &&
  errs.all (fun t => decide (PySem.W.kitOne K (.ref (clsK K k)) (.ref (clsK K t)) = some (decide (k = t)))) && decide (PySem.W.kitOne K (.ref (clsK K k)) (.type "ValueError") = some true) &&
  decide (PySem.W.exmOne K (.ref (clsK K k)) (.ref (clsK K "LineError")) = some true)

/-! ### the Hook -/
abbrev AlR : Type := Bool × List FnW × List (List Int)
def obsR (fa : List Fa) (fn : List DefD) (gl : List (Str × D)) (K : PySem.W.Frag) : AlR := ((fa.all fun f => f.ok K) && (fn.all fun d => d.ok K) && errB K && (gl.all fun p => gloB K p), fn.map fun d => fnW K d.at_, gl.map (hashK K))
def valR (fn : List DefD) (gl : List (Str × D)) (w : World) : AlR := (true, fn.map DefD.val, gl.map (hashD w))
def SaysR (fa : List Fa) (fn : List DefD) (gl : List (Str × D)) (w : World) (K : PySem.W.Frag) : Prop := obsR fa fn gl K = valR fn gl w
def obsRG (n : Nat) (fa : List Fa) (fn : List DefD) (gl : List (Str × D)) (g : Addr → Option Obj) : AlR := obsR fa fn gl (frG g (asD g n))
def hookR (n : Nat) (fa : List Fa) (fn : List DefD) (gl : List (Str × D)) : PySem.W.Hook where
  α := AlR
  obs := fun s => obsRG n fa fn gl s.heap.get?
  val := fun w => valR fn gl w
  says := fun w h => ∃ K : PySem.W.Frag, K.In h ∧ SaysR fa fn gl w K
  of := fun _ _ e => ⟨_, frG_in, e⟩
  keeps := fun _ _ _ ⟨K, hK, c⟩ k => ⟨K, PySem.W.Frag.In.keeps hK k, c⟩
theorem obsRG_eq {n : Nat} {fa : List Fa} {fn : List DefD} {gl : List (Str × D)} {g : Addr → Option Obj} {s : Shared} (h : ∀ a, g a = s.heap.get? a) : obsRG n fa fn gl g = (hookR n fa fn gl).obs s := by
  have e : g = s.heap.get? := funext h
  rw [e] <;> rfl
def obsRL (as : List Addr) (fa : List Fa) (fn : List DefD) (gl : List (Str × D)) (g : Addr → Option Obj) : AlR := obsR fa fn gl (frG g as)
def hookL (as : List Addr) (fa : List Fa) (fn : List DefD) (gl : List (Str × D)) : PySem.W.Hook where
  α := AlR
  obs := fun s => obsRL as fa fn gl s.heap.get?
  val := fun w => valR fn gl w
  says := fun w h => ∃ K : PySem.W.Frag, K.In h ∧ SaysR fa fn gl w K
  of := fun _ _ e => ⟨_, frG_in, e⟩
  keeps := fun _ _ _ ⟨K, hK, c⟩ k => ⟨K, PySem.W.Frag.In.keeps hK k, c⟩
theorem obsRL_eq {as : List Addr} {fa : List Fa} {fn : List DefD} {gl : List (Str × D)} {g : Addr → Option Obj} {s : Shared} (h : ∀ a, g a = s.heap.get? a) : obsRL as fa fn gl g = (hookL as fa fn gl).obs s := by
  have e : g = s.heap.get? := funext h
  rw [e] <;> rfl
end Rl
set_option maxRecDepth 100000
namespace Rl
open PySem
def nm0 : List Str := [(Str.ofString "thing"), (Str.ofString "low"), (Str.ofString "most")]
def nm1 : List Str := [(Str.ofString "thing"), (Str.ofString "sign")]
def nm2 : List Str := [(Str.ofString "thing"), (Str.ofString "one")]
def nm3 : List Str := [(Str.ofString "size"), (Str.ofString "thing"), (Str.ofString "k")]
def nm4 : List Str := [(Str.ofString "one"), (Str.ofString "other")]
def nm5 : List Str := [(Str.ofString "board"), (Str.ofString "boxes"), (Str.ofString "names"), (Str.ofString "k"), (Str.ofString "name"), (Str.ofString "other")]
def nm6 : List Str := [(Str.ofString "box"), (Str.ofString "point")]
def nm7 : List Str := [(Str.ofString "board"), (Str.ofString "point"), (Str.ofString "width"), (Str.ofString "height"), (Str.ofString "box")]
def nm8 : List Str := [(Str.ofString "board")]
def nm9 : List Str := [(Str.ofString "board"), (Str.ofString "found"), (Str.ofString "y"), (Str.ofString "x")]
def nm10 : List Str := [(Str.ofString "board"), (Str.ofString "thing"), (Str.ofString "box"), (Str.ofString "along")]
def nm11 : List Str := [(Str.ofString "board"), (Str.ofString "port")]
def nm12 : List Str := [(Str.ofString "point"), (Str.ofString "heading")]
def nm13 : List Str := [(Str.ofString "board"), (Str.ofString "port"), (Str.ofString "box"), (Str.ofString "spots")]
def nm14 : List Str := [(Str.ofString "board"), (Str.ofString "port")]
def nm15 : List Str := [(Str.ofString "board"), (Str.ofString "one"), (Str.ofString "other")]
def nm16 : List Str := [(Str.ofString "board"), (Str.ofString "port")]
def nm17 : List Str := [(Str.ofString "board"), (Str.ofString "name"), (Str.ofString "found"), (Str.ofString "side"), (Str.ofString "at"), (Str.ofString "port")]
def nm18 : List Str := [(Str.ofString "board"), (Str.ofString "one"), (Str.ofString "other")]
def nm19 : List Str := [(Str.ofString "board"), (Str.ofString "some"), (Str.ofString "found"), (Str.ofString "point"), (Str.ofString "heading")]
def nm20 : List Str := [(Str.ofString "heading"), (Str.ofString "goal")]
def nm21 : List Str := [(Str.ofString "steps"), (Str.ofString "goal"), (Str.ofString "heading"), (Str.ofString "found"), (Str.ofString "queue"), (Str.ofString "one"), (Str.ofString "cost"), (Str.ofString "state")]
def nm22 : List Str := [(Str.ofString "steps"), (Str.ofString "queue"), (Str.ofString "state"), (Str.ofString "cost"), (Str.ofString "point"), (Str.ofString "heading"), (Str.ofString "back"), (Str.ofString "one"), (Str.ofString "worth")]
def nm23 : List Str := [(Str.ofString "board"), (Str.ofString "other"), (Str.ofString "steps")]
def nm24 : List Str := [(Str.ofString "steps"), (Str.ofString "table"), (Str.ofString "point"), (Str.ofString "heading"), (Str.ofString "found"), (Str.ofString "bends"), (Str.ofString "length"), (Str.ofString "one"), (Str.ofString "worth")]
def nm25 : List Str := [(Str.ofString "start"), (Str.ofString "headings"), (Str.ofString "found"), (Str.ofString "here"), (Str.ofString "k")]
def nm26 : List Str := [(Str.ofString "board"), (Str.ofString "one"), (Str.ofString "other"), (Str.ofString "steps"), (Str.ofString "table"), (Str.ofString "start")]
def nm27 : List Str := [(Str.ofString "board"), (Str.ofString "one"), (Str.ofString "other")]
def nm28 : List Str := [(Str.ofString "board"), (Str.ofString "one"), (Str.ofString "other"), (Str.ofString "found")]
def nm29 : List Str := [(Str.ofString "thing"), (Str.ofString "one")]
def nm30 : List Str := [(Str.ofString "one"), (Str.ofString "other")]
def nm31 : List Str := [(Str.ofString "thing"), (Str.ofString "found"), (Str.ofString "k"), (Str.ofString "heading"), (Str.ofString "far"), (Str.ofString "point"), (Str.ofString "number")]
def nm32 : List Str := [(Str.ofString "start"), (Str.ofString "headings"), (Str.ofString "found"), (Str.ofString "heading")]
def nm33 : List Str := [(Str.ofString "board"), (Str.ofString "one"), (Str.ofString "other"), (Str.ofString "thing"), (Str.ofString "steps"), (Str.ofString "headings"), (Str.ofString "here"), (Str.ofString "heading"), (Str.ofString "turns"), (Str.ofString "k")]
def nm34 : List Str := [(Str.ofString "board"), (Str.ofString "one"), (Str.ofString "other"), (Str.ofString "thing")]
def nm35 : List Str := [(Str.ofString "board"), (Str.ofString "one"), (Str.ofString "other"), (Str.ofString "thing"), (Str.ofString "headings"), (Str.ofString "turns"), (Str.ofString "k")]
def nm36 : List Str := [(Str.ofString "lines"), (Str.ofString "one")]
def nm37 : List Str := [(Str.ofString "one"), (Str.ofString "headings"), (Str.ofString "found"), (Str.ofString "spots"), (Str.ofString "k")]
def nm38 : List Str := [(Str.ofString "board"), (Str.ofString "wires"), (Str.ofString "wire")]
def nm39 : List Str := [(Str.ofString "board"), (Str.ofString "wires"), (Str.ofString "steps"), (Str.ofString "one"), (Str.ofString "other")]
def nm40 : List Str := [(Str.ofString "lines"), (Str.ofString "shut"), (Str.ofString "ways"), (Str.ofString "one"), (Str.ofString "straight"), (Str.ofString "spot")]
def nm41 : List Str := [(Str.ofString "shut"), (Str.ofString "ways"), (Str.ofString "here"), (Str.ofString "heading"), (Str.ofString "there"), (Str.ofString "way"), (Str.ofString "spot")]
def nm42 : List Str := [(Str.ofString "steps"), (Str.ofString "lines"), (Str.ofString "shut"), (Str.ofString "ways"), (Str.ofString "found"), (Str.ofString "here"), (Str.ofString "heading")]
def nm43 : List Str := [(Str.ofString "board"), (Str.ofString "wires"), (Str.ofString "steps"), (Str.ofString "found"), (Str.ofString "one"), (Str.ofString "other"), (Str.ofString "left"), (Str.ofString "ends"), (Str.ofString "shut"), (Str.ofString "is_shut"), (Str.ofString "line"), (Str.ofString "end")]
def nm44 : List Str := [(Str.ofString "board"), (Str.ofString "wires"), (Str.ofString "lines"), (Str.ofString "steps"), (Str.ofString "some"), (Str.ofString "k"), (Str.ofString "i"), (Str.ofString "j")]
def nm45 : List Str := [(Str.ofString "one"), (Str.ofString "other"), (Str.ofString "mine"), (Str.ofString "its"), (Str.ofString "spots"), (Str.ofString "spot")]
def nm46 : List Str := [(Str.ofString "mine"), (Str.ofString "its"), (Str.ofString "way")]
def nm47 : List Str := [(Str.ofString "board"), (Str.ofString "one"), (Str.ofString "other")]
def nm48 : List Str := [(Str.ofString "thing"), (Str.ofString "one")]
def nm49 : List Str := [(Str.ofString "steps"), (Str.ofString "thing"), (Str.ofString "point"), (Str.ofString "heading"), (Str.ofString "one")]
def nm50 : List Str := [(Str.ofString "steps"), (Str.ofString "thing"), (Str.ofString "state"), (Str.ofString "goal"), (Str.ofString "heading"), (Str.ofString "mine"), (Str.ofString "point"), (Str.ofString "own"), (Str.ofString "end"), (Str.ofString "one"), (Str.ofString "behind")]
def nm51 : List Str := [(Str.ofString "board"), (Str.ofString "one"), (Str.ofString "other"), (Str.ofString "thing"), (Str.ofString "said"), (Str.ofString "steps"), (Str.ofString "goal"), (Str.ofString "heading"), (Str.ofString "point"), (Str.ofString "own"), (Str.ofString "first")]
def nm52 : List Str := [(Str.ofString "board"), (Str.ofString "lines"), (Str.ofString "signs"), (Str.ofString "one"), (Str.ofString "straight"), (Str.ofString "spot"), (Str.ofString "sign"), (Str.ofString "rows"), (Str.ofString "y"), (Str.ofString "row"), (Str.ofString "x")]
def nm53 : List Str := [(Str.ofString "script"), (Str.ofString "k")]
def nm54 : List Str := [(Str.ofString "script"), (Str.ofString "k"), (Str.ofString "number")]
def nm55 : List Str := [(Str.ofString "script"), (Str.ofString "town"), (Str.ofString "many")]
def nm56 : List Str := [(Str.ofString "script"), (Str.ofString "town"), (Str.ofString "some")]
def nm57 : List Str := [(Str.ofString "caught"), (Str.ofString "kinds")]
def nm58 : List Str := [(Str.ofString "script"), (Str.ofString "town"), (Str.ofString "size"), (Str.ofString "left"), (Str.ofString "low"), (Str.ofString "wide"), (Str.ofString "high")]
def nm59 : List Str := [(Str.ofString "one"), (Str.ofString "other")]
def nm60 : List Str := [(Str.ofString "script"), (Str.ofString "town"), (Str.ofString "most"), (Str.ofString "size"), (Str.ofString "boxes"), (Str.ofString "names"), (Str.ofString "turn"), (Str.ofString "name"), (Str.ofString "box"), (Str.ofString "over"), (Str.ofString "one")]
def nm61 : List Str := [(Str.ofString "board"), (Str.ofString "point"), (Str.ofString "left"), (Str.ofString "low"), (Str.ofString "right"), (Str.ofString "high")]
def nm62 : List Str := [(Str.ofString "board"), (Str.ofString "port"), (Str.ofString "left"), (Str.ofString "low"), (Str.ofString "right"), (Str.ofString "high")]
def nm63 : List Str := [(Str.ofString "board"), (Str.ofString "name"), (Str.ofString "left"), (Str.ofString "low"), (Str.ofString "right"), (Str.ofString "high"), (Str.ofString "found"), (Str.ofString "side"), (Str.ofString "at")]
def nm64 : List Str := [(Str.ofString "board"), (Str.ofString "found"), (Str.ofString "name")]
def nm65 : List Str := [(Str.ofString "kind"), (Str.ofString "some"), (Str.ofString "board"), (Str.ofString "one"), (Str.ofString "other"), (Str.ofString "name")]
def nm66 : List Str := [(Str.ofString "kind"), (Str.ofString "some"), (Str.ofString "caught"), (Str.ofString "found"), (Str.ofString "e")]
def nm67 : List Str := [(Str.ofString "script"), (Str.ofString "town"), (Str.ofString "board"), (Str.ofString "way"), (Str.ofString "size"), (Str.ofString "boxes"), (Str.ofString "odd"), (Str.ofString "found"), (Str.ofString "name"), (Str.ofString "left"), (Str.ofString "low"), (Str.ofString "right"), (Str.ofString "high"), (Str.ofString "worse"), (Str.ofString "far"), (Str.ofString "some"), (Str.ofString "k")]
def nm68 : List Str := [(Str.ofString "script"), (Str.ofString "town"), (Str.ofString "board"), (Str.ofString "name"), (Str.ofString "left"), (Str.ofString "low"), (Str.ofString "right"), (Str.ofString "high"), (Str.ofString "some")]
def nm69 : List Str := [(Str.ofString "script"), (Str.ofString "town"), (Str.ofString "board"), (Str.ofString "name"), (Str.ofString "wrong"), (Str.ofString "shut"), (Str.ofString "good"), (Str.ofString "rows"), (Str.ofString "one"), (Str.ofString "other"), (Str.ofString "word"), (Str.ofString "port"), (Str.ofString "kind")]
def nm70 : List Str := [(Str.ofString "board"), (Str.ofString "found"), (Str.ofString "name"), (Str.ofString "left"), (Str.ofString "low"), (Str.ofString "right"), (Str.ofString "high"), (Str.ofString "side"), (Str.ofString "many"), (Str.ofString "at")]
def nm71 : List Str := [(Str.ofString "script"), (Str.ofString "town"), (Str.ofString "way"), (Str.ofString "board"), (Str.ofString "places_now"), (Str.ofString "y"), (Str.ofString "name"), (Str.ofString "port"), (Str.ofString "bad"), (Str.ofString "box"), (Str.ofString "x"), (Str.ofString "kind")]
def namesOf : List (List Str) := [nm0, nm1, nm2, nm3, nm4, nm5, nm6, nm7, nm8, nm9, nm10, nm11, nm12, nm13, nm14, nm15, nm16, nm17, nm18, nm19, nm20, nm21, nm22, nm23, nm24, nm25, nm26, nm27, nm28, nm29, nm30, nm31, nm32, nm33, nm34, nm35, nm36, nm37, nm38, nm39, nm40, nm41, nm42, nm43, nm44, nm45, nm46, nm47, nm48, nm49, nm50, nm51, nm52, nm53, nm54, nm55, nm56, nm57, nm58, nm59, nm60, nm61, nm62, nm63, nm64, nm65, nm66, nm67, nm68, nm69, nm70, nm71]
def fnsOf : List (Str × Nat) := [((Str.ofString "is_whole"), 3), ((Str.ofString "is_name"), 1), ((Str.ofString "is_size"), 1), ((Str.ofString "is_box"), 2), ((Str.ofString "are_off"), 2), ((Str.ofString "look_board"), 1), ((Str.ofString "is_in"), 2), ((Str.ofString "is_free"), 2), ((Str.ofString "free"), 1), ((Str.ofString "free_places"), 1), ((Str.ofString "is_port"), 2), ((Str.ofString "look_port"), 2), ((Str.ofString "step"), 2), ((Str.ofString "foot_of"), 2), ((Str.ofString "look_foot"), 2), ((Str.ofString "look_pair"), 3), ((Str.ofString "foot"), 2), ((Str.ofString "ports"), 2), ((Str.ofString "look_ends"), 3), ((Str.ofString "open_steps"), 1), ((Str.ofString "end_cost"), 2), ((Str.ofString "to_go"), 3), ((Str.ofString "put_behind"), 4), ((Str.ofString "costs"), 3), ((Str.ofString "walk"), 4), ((Str.ofString "corners"), 2), ((Str.ofString "best"), 4), ((Str.ofString "least"), 3), ((Str.ofString "line"), 3), ((Str.ofString "is_point"), 1), ((Str.ofString "heading_of"), 2), ((Str.ofString "headings_in"), 1), ((Str.ofString "places"), 2), ((Str.ofString "is_led"), 5), ((Str.ofString "is_line"), 4), ((Str.ofString "worth"), 4), ((Str.ofString "look_lines"), 1), ((Str.ofString "through"), 1), ((Str.ofString "look_wires"), 2), ((Str.ofString "laid"), 2), ((Str.ofString "barred"), 1), ((Str.ofString "may_step"), 4), ((Str.ofString "left_steps"), 2), ((Str.ofString "apart"), 2), ((Str.ofString "are_apart"), 3), ((Str.ofString "may_both"), 2), ((Str.ofString "is_cross"), 2), ((Str.ofString "paper"), 3), ((Str.ofString "is_worth"), 1), ((Str.ofString "are_states"), 2), ((Str.ofString "is_sound"), 5), ((Str.ofString "shows"), 5), ((Str.ofString "picture"), 2), ((Str.ofString "_law_cell"), 2), ((Str.ofString "_law_mix"), 2), ((Str.ofString "_law_draw"), 3), ((Str.ofString "_law_pick"), 3), ((Str.ofString "_law_refusal"), 1), ((Str.ofString "_law_box"), 3), ((Str.ofString "_law_off"), 2), ((Str.ofString "_law_board"), 3), ((Str.ofString "_law_is_free"), 2), ((Str.ofString "_law_foot"), 2), ((Str.ofString "_law_all_ports"), 2), ((Str.ofString "_law_ports"), 1), ((Str.ofString "_law_one"), 2), ((Str.ofString "_law_told"), 2), ((Str.ofString "_law_bad_board"), 3), ((Str.ofString "_law_bad_port"), 4), ((Str.ofString "_law_ends"), 3), ((Str.ofString "_law_sides"), 1), ((Str.ofString "law"), 1)]
def globsOf : List (Str × D) := [((Str.ofString "SMALL"), .str [97, 98, 99, 100, 101, 102, 103, 104, 105, 106, 107, 108, 109, 110, 111, 112, 113, 114, 115, 116, 117, 118, 119, 120, 121, 122]), ((Str.ofString "MOST_SIZE"), .int 12), ((Str.ofString "MOST_BOXES"), .int 6), ((Str.ofString "MOST_NAME"), .int 8), ((Str.ofString "HEADINGS"), .str [110, 101, 115, 119]), ((Str.ofString "STEPS"), .dct [.str [110], .str [101], .str [115], .str [119]] [.tup [.int 0, .int 1], .tup [.int 1, .int 0], .tup [.int 0, .int (-1)], .tup [.int (-1), .int 0]]), ((Str.ofString "OPPOSITE"), .dct [.str [110], .str [101], .str [115], .str [119]] [.str [115], .str [119], .str [110], .str [101]]), ((Str.ofString "MOST_LINES"), .int 12), ((Str.ofString "MOST_WIRES"), .int 8)]
def topsOf : List Nat := [18, 19, 20, 21, 22, 23, 24, 25, 26, 27, 28, 29, 30, 31, 32, 33, 34, 35, 37, 38, 39, 40, 41, 42, 43, 44, 45, 46, 47, 48, 49, 50, 51, 52, 53, 54, 57, 58, 61, 62, 63, 64, 65, 66, 67, 68, 69, 71, 72, 73, 74, 75, 77, 79, 80, 81, 82, 83, 84, 85, 86, 87, 88, 89, 90, 91, 92, 93, 94, 95, 96, 97]
end Rl
set_option Elab.async false
set_option linter.all false
set_option maxRecDepth 100000
set_option maxHeartbeats 0
namespace Rl
open PySem L2
def top (i : Nat) : Stmt := PySem.Challenge.pw_roundlines_k01_whole_boards.main.body.getD i (.Pass ⟨0, 0, 0, 0⟩)

def d_is_whole : He.DefD := ⟨("is_whole", none), "is_whole", "is_whole", defArgs (top 18), defBody (top 18), defScope (top 18), [], []⟩
def d_is_name : He.DefD := ⟨("is_name", none), "is_name", "is_name", defArgs (top 19), defBody (top 19), defScope (top 19), [], []⟩
def d_is_size : He.DefD := ⟨("is_size", none), "is_size", "is_size", defArgs (top 20), defBody (top 20), defScope (top 20), [], []⟩
def d_is_box : He.DefD := ⟨("is_box", none), "is_box", "is_box", defArgs (top 21), defBody (top 21), defScope (top 21), [], []⟩
def d_are_off : He.DefD := ⟨("are_off", none), "are_off", "are_off", defArgs (top 22), defBody (top 22), defScope (top 22), [], []⟩
def d_look_board : He.DefD := ⟨("look_board", none), "look_board", "look_board", defArgs (top 23), defBody (top 23), defScope (top 23), [], []⟩
def d_is_in : He.DefD := ⟨("is_in", none), "is_in", "is_in", defArgs (top 24), defBody (top 24), defScope (top 24), [], []⟩
def d_is_free : He.DefD := ⟨("is_free", none), "is_free", "is_free", defArgs (top 25), defBody (top 25), defScope (top 25), [], []⟩
def d_free : He.DefD := ⟨("free", none), "free", "free", defArgs (top 26), defBody (top 26), defScope (top 26), [], []⟩
def d_free_places : He.DefD := ⟨("free_places", none), "free_places", "free_places", defArgs (top 27), defBody (top 27), defScope (top 27), [], []⟩
def d_is_port : He.DefD := ⟨("is_port", none), "is_port", "is_port", defArgs (top 28), defBody (top 28), defScope (top 28), [], []⟩
def d_look_port : He.DefD := ⟨("look_port", none), "look_port", "look_port", defArgs (top 29), defBody (top 29), defScope (top 29), [], []⟩
def d_step : He.DefD := ⟨("step", none), "step", "step", defArgs (top 30), defBody (top 30), defScope (top 30), [], []⟩
def d_foot_of : He.DefD := ⟨("foot_of", none), "foot_of", "foot_of", defArgs (top 31), defBody (top 31), defScope (top 31), [], []⟩
def d_look_foot : He.DefD := ⟨("look_foot", none), "look_foot", "look_foot", defArgs (top 32), defBody (top 32), defScope (top 32), [], []⟩
def d_look_pair : He.DefD := ⟨("look_pair", none), "look_pair", "look_pair", defArgs (top 33), defBody (top 33), defScope (top 33), [], []⟩
def d_foot : He.DefD := ⟨("foot", none), "foot", "foot", defArgs (top 34), defBody (top 34), defScope (top 34), [], []⟩
def d_ports : He.DefD := ⟨("ports", none), "ports", "ports", defArgs (top 35), defBody (top 35), defScope (top 35), [], []⟩
def d_look_ends : He.DefD := ⟨("look_ends", none), "look_ends", "look_ends", defArgs (top 37), defBody (top 37), defScope (top 37), [], []⟩
def d_open_steps : He.DefD := ⟨("open_steps", none), "open_steps", "open_steps", defArgs (top 38), defBody (top 38), defScope (top 38), [], []⟩
def d_end_cost : He.DefD := ⟨("end_cost", none), "end_cost", "end_cost", defArgs (top 39), defBody (top 39), defScope (top 39), [], []⟩
def d_to_go : He.DefD := ⟨("to_go", none), "to_go", "to_go", defArgs (top 40), defBody (top 40), defScope (top 40), [], []⟩
def d_put_behind : He.DefD := ⟨("put_behind", none), "put_behind", "put_behind", defArgs (top 41), defBody (top 41), defScope (top 41), [], []⟩
def d_costs : He.DefD := ⟨("costs", none), "costs", "costs", defArgs (top 42), defBody (top 42), defScope (top 42), [], []⟩
def d_walk : He.DefD := ⟨("walk", none), "walk", "walk", defArgs (top 43), defBody (top 43), defScope (top 43), [], []⟩
def d_corners : He.DefD := ⟨("corners", none), "corners", "corners", defArgs (top 44), defBody (top 44), defScope (top 44), [], []⟩
def d_best : He.DefD := ⟨("best", none), "best", "best", defArgs (top 45), defBody (top 45), defScope (top 45), [], []⟩
def d_least : He.DefD := ⟨("least", none), "least", "least", defArgs (top 46), defBody (top 46), defScope (top 46), [], []⟩
def d_line : He.DefD := ⟨("line", none), "line", "line", defArgs (top 47), defBody (top 47), defScope (top 47), [], []⟩
def d_is_point : He.DefD := ⟨("is_point", none), "is_point", "is_point", defArgs (top 48), defBody (top 48), defScope (top 48), [], []⟩
def d_heading_of : He.DefD := ⟨("heading_of", none), "heading_of", "heading_of", defArgs (top 49), defBody (top 49), defScope (top 49), [], []⟩
def d_headings_in : He.DefD := ⟨("headings_in", none), "headings_in", "headings_in", defArgs (top 50), defBody (top 50), defScope (top 50), [], []⟩
def d_places : He.DefD := ⟨("places", none), "places", "places", defArgs (top 51), defBody (top 51), defScope (top 51), [], []⟩
def d_is_led : He.DefD := ⟨("is_led", none), "is_led", "is_led", defArgs (top 52), defBody (top 52), defScope (top 52), [], []⟩
def d_is_line : He.DefD := ⟨("is_line", none), "is_line", "is_line", defArgs (top 53), defBody (top 53), defScope (top 53), [], []⟩
def d_worth : He.DefD := ⟨("worth", none), "worth", "worth", defArgs (top 54), defBody (top 54), defScope (top 54), [], []⟩
def d_look_lines : He.DefD := ⟨("look_lines", none), "look_lines", "look_lines", defArgs (top 57), defBody (top 57), defScope (top 57), [], []⟩
def d_through : He.DefD := ⟨("through", none), "through", "through", defArgs (top 58), defBody (top 58), defScope (top 58), [], []⟩
def d_look_wires : He.DefD := ⟨("look_wires", none), "look_wires", "look_wires", defArgs (top 61), defBody (top 61), defScope (top 61), [], []⟩
def d_laid : He.DefD := ⟨("laid", none), "laid", "laid", defArgs (top 62), defBody (top 62), defScope (top 62), [], []⟩
def d_barred : He.DefD := ⟨("barred", none), "barred", "barred", defArgs (top 63), defBody (top 63), defScope (top 63), [], []⟩
def d_may_step : He.DefD := ⟨("may_step", none), "may_step", "may_step", defArgs (top 64), defBody (top 64), defScope (top 64), [], []⟩
def d_left_steps : He.DefD := ⟨("left_steps", none), "left_steps", "left_steps", defArgs (top 65), defBody (top 65), defScope (top 65), [], []⟩
def d_apart : He.DefD := ⟨("apart", none), "apart", "apart", defArgs (top 66), defBody (top 66), defScope (top 66), [], []⟩
def d_are_apart : He.DefD := ⟨("are_apart", none), "are_apart", "are_apart", defArgs (top 67), defBody (top 67), defScope (top 67), [], []⟩
def d_may_both : He.DefD := ⟨("may_both", none), "may_both", "may_both", defArgs (top 68), defBody (top 68), defScope (top 68), [], []⟩
def d_is_cross : He.DefD := ⟨("is_cross", none), "is_cross", "is_cross", defArgs (top 69), defBody (top 69), defScope (top 69), [], []⟩
def d_paper : He.DefD := ⟨("paper", none), "paper", "paper", defArgs (top 71), defBody (top 71), defScope (top 71), [], []⟩
def d_is_worth : He.DefD := ⟨("is_worth", none), "is_worth", "is_worth", defArgs (top 72), defBody (top 72), defScope (top 72), [], []⟩
def d_are_states : He.DefD := ⟨("are_states", none), "are_states", "are_states", defArgs (top 73), defBody (top 73), defScope (top 73), [], []⟩
def d_is_sound : He.DefD := ⟨("is_sound", none), "is_sound", "is_sound", defArgs (top 74), defBody (top 74), defScope (top 74), [], []⟩
def d_shows : He.DefD := ⟨("shows", none), "shows", "shows", defArgs (top 75), defBody (top 75), defScope (top 75), [], []⟩
def d_picture : He.DefD := ⟨("picture", none), "picture", "picture", defArgs (top 77), defBody (top 77), defScope (top 77), [], []⟩
def d__law_cell : He.DefD := ⟨("_law_cell", none), "_law_cell", "_law_cell", defArgs (top 79), defBody (top 79), defScope (top 79), [], []⟩
def d__law_mix : He.DefD := ⟨("_law_mix", none), "_law_mix", "_law_mix", defArgs (top 80), defBody (top 80), defScope (top 80), [], []⟩
def d__law_draw : He.DefD := ⟨("_law_draw", none), "_law_draw", "_law_draw", defArgs (top 81), defBody (top 81), defScope (top 81), [], []⟩
def d__law_pick : He.DefD := ⟨("_law_pick", none), "_law_pick", "_law_pick", defArgs (top 82), defBody (top 82), defScope (top 82), [], []⟩
def d__law_refusal : He.DefD := ⟨("_law_refusal", none), "_law_refusal", "_law_refusal", defArgs (top 83), defBody (top 83), defScope (top 83), [], []⟩
def d__law_box : He.DefD := ⟨("_law_box", none), "_law_box", "_law_box", defArgs (top 84), defBody (top 84), defScope (top 84), [], []⟩
def d__law_off : He.DefD := ⟨("_law_off", none), "_law_off", "_law_off", defArgs (top 85), defBody (top 85), defScope (top 85), [], []⟩
def d__law_board : He.DefD := ⟨("_law_board", none), "_law_board", "_law_board", defArgs (top 86), defBody (top 86), defScope (top 86), [], []⟩
def d__law_is_free : He.DefD := ⟨("_law_is_free", none), "_law_is_free", "_law_is_free", defArgs (top 87), defBody (top 87), defScope (top 87), [], []⟩
def d__law_foot : He.DefD := ⟨("_law_foot", none), "_law_foot", "_law_foot", defArgs (top 88), defBody (top 88), defScope (top 88), [], []⟩
def d__law_all_ports : He.DefD := ⟨("_law_all_ports", none), "_law_all_ports", "_law_all_ports", defArgs (top 89), defBody (top 89), defScope (top 89), [], []⟩
def d__law_ports : He.DefD := ⟨("_law_ports", none), "_law_ports", "_law_ports", defArgs (top 90), defBody (top 90), defScope (top 90), [], []⟩
def d__law_one : He.DefD := ⟨("_law_one", none), "_law_one", "_law_one", defArgs (top 91), defBody (top 91), defScope (top 91), [], []⟩
def d__law_told : He.DefD := ⟨("_law_told", none), "_law_told", "_law_told", defArgs (top 92), defBody (top 92), defScope (top 92), [], []⟩
def d__law_bad_board : He.DefD := ⟨("_law_bad_board", none), "_law_bad_board", "_law_bad_board", defArgs (top 93), defBody (top 93), defScope (top 93), [], []⟩
def d__law_bad_port : He.DefD := ⟨("_law_bad_port", none), "_law_bad_port", "_law_bad_port", defArgs (top 94), defBody (top 94), defScope (top 94), [], []⟩
def d__law_ends : He.DefD := ⟨("_law_ends", none), "_law_ends", "_law_ends", defArgs (top 95), defBody (top 95), defScope (top 95), [], []⟩
def d__law_sides : He.DefD := ⟨("_law_sides", none), "_law_sides", "_law_sides", defArgs (top 96), defBody (top 96), defScope (top 96), [], []⟩
def d_law : He.DefD := ⟨("law", none), "law", "law", defArgs (top 97), defBody (top 97), defScope (top 97), [], []⟩
def fn : List He.DefD := [d_is_whole, d_is_name, d_is_size, d_is_box, d_are_off, d_look_board, d_is_in, d_is_free, d_free, d_free_places, d_is_port, d_look_port, d_step, d_foot_of, d_look_foot, d_look_pair, d_foot, d_ports, d_look_ends, d_open_steps, d_end_cost, d_to_go, d_put_behind, d_costs, d_walk, d_corners, d_best, d_least, d_line, d_is_point, d_heading_of, d_headings_in, d_places, d_is_led, d_is_line, d_worth, d_look_lines, d_through, d_look_wires, d_laid, d_barred, d_may_step, d_left_steps, d_apart, d_are_apart, d_may_both, d_is_cross, d_paper, d_is_worth, d_are_states, d_is_sound, d_shows, d_picture, d__law_cell, d__law_mix, d__law_draw, d__law_pick, d__law_refusal, d__law_box, d__law_off, d__law_board, d__law_is_free, d__law_foot, d__law_all_ports, d__law_ports, d__law_one, d__law_told, d__law_bad_board, d__law_bad_port, d__law_ends, d__law_sides, d_law]
def fa : List He.Fa := [.glo "is_whole", .glo "is_name", .glo "is_size", .glo "is_box", .glo "are_off", .glo "look_board", .glo "is_in", .glo "is_free", .glo "free", .glo "free_places", .glo "is_port", .glo "look_port", .glo "step", .glo "foot_of", .glo "look_foot", .glo "look_pair", .glo "foot", .glo "ports", .glo "look_ends", .glo "open_steps", .glo "end_cost", .glo "to_go", .glo "put_behind", .glo "costs", .glo "walk", .glo "corners", .glo "best", .glo "least", .glo "line", .glo "is_point", .glo "heading_of", .glo "headings_in", .glo "places", .glo "is_led", .glo "is_line", .glo "worth", .glo "look_lines", .glo "through", .glo "look_wires", .glo "laid", .glo "barred", .glo "may_step", .glo "left_steps", .glo "apart", .glo "are_apart", .glo "may_both", .glo "is_cross", .glo "paper", .glo "is_worth", .glo "are_states", .glo "is_sound", .glo "shows", .glo "picture", .glo "_law_cell", .glo "_law_mix", .glo "_law_draw", .glo "_law_pick", .glo "_law_refusal", .glo "_law_box", .glo "_law_off", .glo "_law_board", .glo "_law_is_free", .glo "_law_foot", .glo "_law_all_ports", .glo "_law_ports", .glo "_law_one", .glo "_law_told", .glo "_law_bad_board", .glo "_law_bad_port", .glo "_law_ends", .glo "_law_sides", .glo "law", .free "len", .free "abs", .free "all", .free "any", .free "sorted", .free "min", .free "max", .free "int", .free "list", .free "tuple", .free "dict", .free "isinstance", .free "range", .free "bool", .free "str", .free "ValueError", .glo "LineError", .glo "BadBoard", .glo "BadPort", .glo "NoFoot", .glo "NoWay", .glo "BadLine", .glo "BadNumber", .glo "Nothing", .glo "BadText"]
def asl0 : List Addr := [3, 6, 4, 24, 37, 49, 61, 73, 85, 97, 109, 121, 124, 129, 136, 141, 146, 151, 158, 163, 170, 175, 182, 187, 194, 201, 208, 215, 222, 229, 236, 243, 250, 255, 262, 269, 276, 283, 290, 297]
def asl1 : List Addr := [304, 311, 318, 323, 330, 335, 342, 347, 354, 359, 364, 371, 378, 383, 390, 395, 400, 405, 412, 419, 424, 431, 436, 441, 448, 455, 462, 469, 476, 483, 490, 497, 504, 511, 516, 523, 530, 537, 544, 551]
def asl2 : List Addr := [558, 563, 570, 575, 580, 585, 0, 23, 36, 48, 60, 72, 84, 96, 108, 120, 125, 126, 127, 128, 135, 140, 145, 150, 157, 162, 169, 174, 181, 186, 193, 200, 207, 214, 221, 228, 235, 242, 249, 254]
def asl3 : List Addr := [261, 268, 275, 282, 289, 296, 303, 310, 317, 322, 329, 334, 341, 346, 353, 358, 363, 370, 377, 382, 389, 394, 399, 404, 411, 418, 423, 430, 435, 440, 447, 454, 461, 468, 475, 482, 489, 496, 503, 510]
def asl4 : List Addr := [515, 522, 529, 536, 543, 550, 557, 562, 569, 574, 579, 584, 22, 25, 35, 47, 59, 71, 83, 95, 107, 119, 130, 131, 132, 133, 134, 137, 138, 139, 142, 143, 144, 147, 148, 149, 152, 153, 154, 155]
def asl5 : List Addr := [156, 159, 160, 161, 164, 165, 166, 167, 168, 171, 172, 173, 176, 177, 178, 179, 180, 183, 184, 185, 188, 189, 190, 191, 192, 195, 196, 197, 198, 199, 202, 203, 204, 205, 206, 209, 210, 211, 212, 213]
def asl6 : List Addr := [216, 217, 218, 219, 220, 223, 224, 225, 226, 227, 230, 231, 232, 233, 234, 237, 238, 239, 240, 241, 244, 245, 246, 247, 248, 251, 252, 253, 256, 257, 258, 259, 260, 263, 264, 265, 266, 267, 270, 271]
def asl7 : List Addr := [272, 273, 274, 277, 278, 279, 280, 281, 284, 285, 286, 287, 288, 291, 292, 293, 294, 295, 298, 299, 300, 301, 302, 305, 306, 307, 308, 309, 312, 313, 314, 315, 316, 319, 320, 321, 324, 325, 326, 327]
def asl8 : List Addr := [328, 331, 332, 333, 336, 337, 338, 339, 340, 343, 344, 345, 348, 349, 350, 351, 352, 355, 356, 357, 360, 361, 362, 365, 366, 367, 368, 369, 372, 373, 374, 375, 376, 379, 380, 381, 384, 385, 386, 387]
def asl9 : List Addr := [388, 391, 392, 393, 396, 397, 398, 401, 402, 403, 406, 407, 408, 409, 410, 413, 414, 415, 416, 417, 420, 421, 422, 425, 426, 427, 428, 429, 432, 433, 434, 437, 438, 439, 442, 443, 444, 445, 446, 449]
def asl10 : List Addr := [450, 451, 452, 453, 456, 457, 458, 459, 460, 463, 464, 465, 466, 467, 470, 471, 472, 473, 474, 477, 478, 479, 480, 481, 484, 485, 486, 487, 488, 491, 492, 493, 494, 495, 498, 499, 500, 501, 502, 505]
def asl11 : List Addr := [506, 507, 508, 509, 512, 513, 514, 517, 518, 519, 520, 521, 524, 525, 526, 527, 528, 531, 532, 533, 534, 535, 538, 539, 540, 541, 542, 545, 546, 547, 548, 549, 552, 553, 554, 555, 556, 559, 560, 561]
def asl12 : List Addr := [564, 565, 566, 567, 568, 571, 572, 573, 576, 577, 578, 581, 582, 583]
def asl : List Addr := asl0 ++ asl1 ++ asl2 ++ asl3 ++ asl4 ++ asl5 ++ asl6 ++ asl7 ++ asl8 ++ asl9 ++ asl10 ++ asl11 ++ asl12
abbrev RowR : PySem.W.OpenRow := PySem.W.OpenLaw.row PySem.Challenge.rw_roundlines_k01_whole_boards
abbrev hk : PySem.W.Hook := hookL asl fa fn globsOf
def ob (s : PySem.W.SharedT) : AlR := obsRL asl fa fn globsOf (HandSHeadRun.getT s)
theorem ob_eq (s : PySem.W.SharedT) : ob s = hk.obs s.abs := obsRL_eq (HandSHeadRun.getT_eq s)
def loose0 : List Str := ["LineError", "BadBoard", "BadPort", "NoFoot", "NoWay", "BadLine", "BadNumber", "Nothing", "BadText", "SMALL", "MOST_SIZE", "MOST_BOXES", "MOST_NAME", "HEADINGS", "STEPS", "OPPOSITE", "is_whole", "is_name", "is_size", "is_box", "are_off", "look_board", "is_in", "is_free", "free", "free_places", "is_port", "look_port", "step", "foot_of"]
def loose1 : List Str := ["look_foot", "look_pair", "foot", "ports", "look_ends", "open_steps", "end_cost", "to_go", "put_behind", "costs", "walk", "corners", "best", "least", "line", "is_point", "heading_of", "headings_in", "places", "is_led", "is_line", "worth", "MOST_LINES", "look_lines", "through", "MOST_WIRES", "look_wires", "laid", "barred", "may_step"]
def loose2 : List Str := ["left_steps", "apart", "are_apart", "may_both", "is_cross", "paper", "is_worth", "are_states", "is_sound", "shows", "picture", "_law_cell", "_law_mix", "_law_draw", "_law_pick", "_law_refusal", "_law_box", "_law_off", "_law_board", "_law_is_free", "_law_foot", "_law_all_ports", "_law_ports", "_law_one", "_law_told", "_law_bad_board", "_law_bad_port", "_law_ends", "_law_sides"]
def loose : List Str := loose0 ++ loose1 ++ loose2
abbrev qv : Program := PySem.W.view RowR.prog [97]
theorem runHA (w : World) : HandSHeadRun.RunEq RowR qv hk ob 20000 loose (w.withFollow "special-get-raises" false) := by
  intro os
  kernel_rfl
theorem runHB (w : World) : HandSHeadRun.RunEq RowR qv hk ob 20000 loose (w.withFollow "special-get-raises" true) := by
  intro os
  kernel_rfl
theorem runH (w : World) : HandSHeadRun.RunEq RowR qv hk ob 20000 loose w := PySem.W.byRow2 "special-get-raises" (P := fun w => HandSHeadRun.RunEq RowR qv hk ob 20000 loose w) runHA runHB w
end Rl
set_option Elab.async false
set_option linter.all false
set_option maxRecDepth 100000
set_option autoImplicit false
/-! Roundlines, 3: each small operation of the compact text, by its values. -/
namespace Rl
open PySem L2

/-- what a new value may be: the heap grows, nothing that stood is changed -/
def NewP (c : Cn) (G H : Hp) (s : Sh) (d : D) (Q : VK) : Prop := ∀ v H' G' T, Same H H' → Same G G' → Same G' H' → (∀ a o, G' a = some o → G a = some o ∨ H a = none) → (∀ a ∈ T, H a = none ∧ G' a = none) → RepS c G' H' s d v T → Q v H'
def rP (c : Cn) (p : P) (xs : List V) (H : Hp) (Q : VK) : Prop := ∃ G ds s d, Same G H ∧ Flats c G H ds xs ∧ prim p ds = some (s, d) ∧ NewP c G H s d Q

section
variable {c : Cn} {G H : Hp} {Q : VK}
theorem gnone (s : Same G H) {a : Addr} (h : H a = none) : G a = none := by
  cases e : G a with
  | none => rfl
  | some o => rw [s a o e] at h; cases h
theorem same_upd {H : Hp} {p : Addr} {o : HO} (h : H p = none) : Same H (upd H p o) := fun b u e => by rw [upd_ne (ne_of_none e h)]; exact e
theorem same_upd2 {p : Addr} {o : HO} (s : Same G H) : Same (upd G p o) (upd H p o) := fun b u e => by
  by_cases z : b = p
  · subst z; rw [upd_same] at e ⊢; exact e
  · rw [upd_ne z] at e ⊢; exact s _ _ e
theorem NewP.sc {d : D} {v : V} (q : NewP c G H .fz d Q) (s : Same G H) (r : Rep c G d v) : Q v H :=
  q v H G [] (Same.refl _) (Same.refl _) s (fun _ _ e => .inl e) (fun _ h => nomatch h) ⟨rfl, r⟩
theorem NewP.lst {l : List D} {xs : List V} (q : NewP c G H .own (.lst l) Q) (s : Same G H) (r : Reps c G l xs) : ∀ p, H p = none → Q (.ref p) (upd H p (.lst xs)) := fun p h =>
  q _ _ G [p] (same_upd h) (Same.refl _) (fun b u e => by rw [upd_ne (ne_of_none (s _ _ e) h)]; exact s _ _ e) (fun _ _ e => .inl e) (fun a ha => by
    have e : a = p := by simpa using ha
    subst e; exact ⟨h, gnone s h⟩) ⟨p, rfl, rfl, xs, upd_same, r⟩
theorem NewP.tup {l : List D} {xs : List V} (q : NewP c G H .fz (.tup l) Q) (s : Same G H) (r : Reps c G l xs) : ∀ p, H p = none → Q (.ref p) (upd H p (.tup xs)) := fun p h =>
  q _ _ (upd G p (.tup xs)) [] (same_upd h) (same_upd (gnone s h)) (same_upd2 s) (fun a o e => by
    by_cases z : a = p
    · subst z; exact .inr h
    · rw [upd_ne z] at e; exact .inl e) (fun _ h => nomatch h) ⟨rfl, p, xs, rfl, SqT.of upd_same, Reps.mono (same_upd (gnone s h)) _ _ r⟩
theorem Flats.one {d : D} {xs : List V} (h : Flats c G H [d] xs) : ∃ x, xs = [x] ∧ Flat c G H d x := by
  obtain ⟨x, r, e, h1, h2⟩ := h
  rw [show r = [] from h2] at e
  exact ⟨x, e, h1⟩
theorem Flats.two {d e : D} {xs : List V} (h : Flats c G H [d, e] xs) : ∃ x y, xs = [x, y] ∧ Flat c G H d x ∧ Flat c G H e y := by
  obtain ⟨x, r, e1, h1, h2⟩ := h
  obtain ⟨y, rfl, h3⟩ := Flats.one h2
  exact ⟨x, y, e1, h1, h3⟩
theorem Flats.length : ∀ {ds : List D} {xs : List V}, Flats c G H ds xs → xs.length = ds.length
  | [], xs, h => by rw [show xs = [] from h]; rfl
  | d :: ds, xs, ⟨x, r, e, h1, h2⟩ => by rw [e, List.length_cons, List.length_cons, Flats.length h2]
theorem flats1 {ds : List D} {x : V} (h : Flats c G H ds [x]) : ∃ d, ds = [d] ∧ Flat c G H d x := by
  have l := h.length
  match ds, h, l with
  | [d], h, _ =>
    obtain ⟨y, e, q⟩ := Flats.one h
    cases e
    exact ⟨d, rfl, q⟩
theorem flats2 {ds : List D} {x y : V} (h : Flats c G H ds [x, y]) : ∃ d e, ds = [d, e] ∧ Flat c G H d x ∧ Flat c G H e y := by
  have l := h.length
  match ds, h, l with
  | [d, e], h, _ =>
    obtain ⟨x', y', q, q1, q2⟩ := Flats.two h
    cases q
    exact ⟨d, e, rfl, q1, q2⟩
theorem Flat.int {i : Int} {x : V} (h : Flat c G H (.int i) x) : x = .int i := h
theorem Flat.str {l : List Nat} {x : V} (h : Flat c G H (.str l) x) : x = .str (tS l) := h
theorem most_line : most ≤ sizeLine := by rw [sizeLine_eq]; decide
end

section
variable {X : Cx}
theorem OpR.imp {f : Value → Value → Sem Value} {r r' : R2} (h : OpR X f r) (k : ∀ x y H Q, r' x y H Q → r x y H Q) : OpR X f r' := fun pins s σ H x y v u Q I rx ry q => h pins s σ H x y v u Q I rx ry (k _ _ _ _ q)
theorem UnR.imp {f : Value → Sem Value} {r r' : V → Hp → VK → Prop} (h : UnR X f r) (k : ∀ x H Q, r' x H Q → r x H Q) : UnR X f r' := fun pins s σ H x v Q I rx q => h pins s σ H x v Q I rx (k _ _ _ q)
theorem CallR.imp {f : Value} {r r' : List V → Hp → VK → Prop} (h : CallR X f r) (k : ∀ xs H Q, r' xs H Q → r xs H Q) : CallR X f r' := fun pins s σ H xs us Q I rx q => h pins s σ H xs us Q I rx (k _ _ _ q)
theorem MtR.imp {id : String} {r r' : V → List V → Hp → VK → Prop} (h : MtR X id r) (k : ∀ x xs H Q, r' x xs H Q → r x xs H Q) : MtR X id r' := fun pins s σ H x xs v us Q I rx rs q => h pins s σ H x xs v us Q I rx rs (k _ _ _ _ q)
theorem IxR.imp {r r' : R2} (h : IxR X r) (k : ∀ x y H Q, r' x y H Q → r x y H Q) : IxR X r' := fun a b pins s σ H x y v u Q I rx ry q => h a b pins s σ H x y v u Q I rx ry (k _ _ _ _ q)
theorem SlR.imp {r r' : V → Option Int → Option Int → Hp → VK → Prop} (h : SlR X r) (k : ∀ x l u H Q, r' x l u H Q → r x l u H Q) : SlR X r' :=
  fun pins s σ H x v vl vu lo hi sl Q I rx hs pl pu q => h pins s σ H x v vl vu lo hi sl Q I rx hs pl pu (k _ _ _ _ _ q)
def cn (X : Cx) (cls : String → Addr) : Cn := ⟨X.prog, X.w, X.K, cls⟩
variable {cls : String → Addr}
theorem rP.two {c : Cn} {p : P} {x y : V} {H : Hp} {Q : VK} (h : rP c p [x, y] H Q) : ∃ G d1 d2 s d, Same G H ∧ Flat c G H d1 x ∧ Flat c G H d2 y ∧ prim p [d1, d2] = some (s, d) ∧ NewP c G H s d Q := by
  obtain ⟨G, ds, s, d, gh, fl, e, q⟩ := h
  obtain ⟨d1, d2, rfl, f1, f2⟩ := flats2 fl
  exact ⟨G, d1, d2, s, d, gh, f1, f2, e, q⟩
theorem rP.one {c : Cn} {p : P} {x : V} {H : Hp} {Q : VK} (h : rP c p [x] H Q) : ∃ G d1 s d, Same G H ∧ Flat c G H d1 x ∧ prim p [d1] = some (s, d) ∧ NewP c G H s d Q := by
  obtain ⟨G, ds, s, d, gh, fl, e, q⟩ := h
  obtain ⟨d1, rfl, f1⟩ := flats1 fl
  exact ⟨G, d1, s, d, gh, f1, e, q⟩

theorem tS_app (a b : List Nat) : tS a ++ tS b = tS (a ++ b) := by
  show (⟨a.toArray ++ b.toArray⟩ : Str) = ⟨(a ++ b).toArray⟩
  simp
theorem p_add : OpR X (binaryOp .Add) (fun x y H Q => rP (cn X cls) .add [x, y] H Q) := by
  refine OpR.imp (op_add.or (op_add_str.or (op_cat.or op_catT))) ?_
  intro x y H Q h
  obtain ⟨G, d1, d2, s, d, gh, f1, f2, e, q⟩ := rP.two h
  simp only [prim] at e
  split at e
  · rename_i a b q'
    simp only [List.cons.injEq, and_true] at q'
    obtain ⟨rfl, rfl⟩ := q'
    cases e
    exact .inl ⟨a, b, f1, f2, q.sc gh rfl⟩
  · rename_i a b q'
    simp only [List.cons.injEq, and_true] at q'
    obtain ⟨rfl, rfl⟩ := q'
    split at e
    · rename_i hl
      cases e
      refine .inr (.inl ⟨_, _, f1, f2, by rw [tS_len, tS_len]; exact Nat.le_trans hl most_line, ?_⟩)
      have e2 : tS a ++ tS b = tS (a ++ b) := tS_app a b
      rw [e2]
      exact q.sc gh rfl
    · cases e
  · rename_i a b q'
    simp only [List.cons.injEq, and_true] at q'
    obtain ⟨rfl, rfl⟩ := q'
    unfold small at e
    split at e
    · rename_i hl
      cases e
      obtain ⟨l1, xs, rfl, h1, r1⟩ := f1
      obtain ⟨l2, ys, rfl, h2, r2⟩ := f2
      refine .inr (.inr (.inl ⟨l1, l2, xs, ys, rfl, rfl, h1, h2, ?_, q.lst gh (r1.append r2)⟩))
      rw [r1.length, r2.length, ← List.length_append]
      exact Nat.le_trans hl most_line
    · cases e
  · rename_i a as b q'
    simp only [List.cons.injEq, and_true] at q'
    obtain ⟨rfl, rfl⟩ := q'
    unfold small at e
    split at e
    · rename_i hl
      cases e
      obtain ⟨l1, xs, rfl, h1, r1⟩ := f1
      obtain ⟨l2, ys, rfl, h2, r2⟩ := f2
      have hr : Reps (cn X cls) G (a :: as ++ b) (xs ++ ys) := r1.append r2
      refine .inr (.inr (.inr ⟨l1, l2, xs, ys, rfl, rfl, Same.sqT gh h1, Same.sqT gh h2, ?_, ?_, fun e => ?_, fun _ => q.tup gh hr⟩))
      · intro e; rw [e] at r1; have := r1.length; simp at this
      · rw [← List.length_append, hr.length]
        exact Nat.le_trans hl most_line
      · subst e
        rw [List.append_nil] at hr
        exact q.sc gh ⟨l1, xs, rfl, h1, hr⟩
    · cases e
  · cases e
theorem p_sub : OpR X (binaryOp .Sub) (fun x y H Q => rP (cn X cls) .sub [x, y] H Q) := by
  refine OpR.imp op_sub ?_
  intro x y H Q h
  obtain ⟨G, d1, d2, s, d, gh, f1, f2, e, q⟩ := rP.two h
  simp only [prim] at e
  split at e
  · rename_i a b q'
    simp only [List.cons.injEq, and_true] at q'
    obtain ⟨rfl, rfl⟩ := q'
    cases e
    exact ⟨a, b, f1, f2, q.sc gh rfl⟩
  · cases e
theorem cmul_of {a b : Int} (h : a.natAbs < 2 ^ 64 ∨ b.natAbs < 2 ^ 64) : CMul a b := by
  rcases h with h | h
  · left; omega
  · right; omega
theorem Reps.rep {c : Cn} {G : Hp} {l : List D} {xs : List V} (h : Reps c G l xs) : ∀ k : Nat, Reps c G (List.replicate k l).flatten (List.replicate k xs).flatten
  | 0 => rfl
  | k + 1 => by
    rw [List.replicate_succ, List.replicate_succ, List.flatten_cons, List.flatten_cons]
    exact h.append (Reps.rep h k)
theorem p_mul : OpR X (binaryOp .Mult) (fun x y H Q => rP (cn X cls) .mul [x, y] H Q) := by
  refine OpR.imp (op_mul.or op_rep) ?_
  intro x y H Q h
  obtain ⟨G, d1, d2, s, d, gh, f1, f2, e, q⟩ := rP.two h
  simp only [prim] at e
  split at e
  · rename_i a b q'
    simp only [List.cons.injEq, and_true] at q'
    obtain ⟨rfl, rfl⟩ := q'
    split at e
    · rename_i hl
      cases e
      exact .inl ⟨a, b, f1, f2, cmul_of hl, q.sc gh rfl⟩
    · cases e
  · rename_i a k q'
    simp only [List.cons.injEq, and_true] at q'
    obtain ⟨rfl, rfl⟩ := q'
    split at e
    · rename_i hl
      cases e
      obtain ⟨l1, xs, rfl, h1, r1⟩ := f1
      refine .inr ⟨l1, k, xs, rfl, f2, h1, by omega, by omega, ?_, q.lst gh (r1.rep _)⟩
      rw [r1.length]; exact Nat.le_trans hl.2.2 most_line
    · cases e
  · cases e
theorem p_mod : OpR X (binaryOp .Mod) (fun x y H Q => rP (cn X cls) .mod [x, y] H Q) := by
  refine OpR.imp op_mod ?_
  intro x y H Q h
  obtain ⟨G, d1, d2, s, d, gh, f1, f2, e, q⟩ := rP.two h
  simp only [prim] at e
  split at e
  · rename_i a b q'
    simp only [List.cons.injEq, and_true] at q'
    obtain ⟨rfl, rfl⟩ := q'
    split at e
    · rename_i hl
      cases e
      exact ⟨a, b, f1, f2, hl, q.sc gh rfl⟩
    · cases e
  · cases e
theorem p_fdiv : OpR X (binaryOp .FloorDiv) (fun x y H Q => rP (cn X cls) .fdiv [x, y] H Q) := by
  refine OpR.imp op_fdiv ?_
  intro x y H Q h
  obtain ⟨G, d1, d2, s, d, gh, f1, f2, e, q⟩ := rP.two h
  simp only [prim] at e
  split at e
  · rename_i a b q'
    simp only [List.cons.injEq, and_true] at q'
    obtain ⟨rfl, rfl⟩ := q'
    split at e
    · rename_i hl
      cases e
      exact ⟨a, b, f1, f2, hl, q.sc gh rfl⟩
    · cases e
  · cases e
theorem p_pow : OpR X (binaryOp .Pow) (fun x y H Q => rP (cn X cls) .pow [x, y] H Q) := by
  refine OpR.imp op_pow ?_
  intro x y H Q h
  obtain ⟨G, d1, d2, s, d, gh, f1, f2, e, q⟩ := rP.two h
  simp only [prim] at e
  split at e
  · rename_i a b q'
    simp only [List.cons.injEq, and_true] at q'
    obtain ⟨rfl, rfl⟩ := q'
    split at e
    · rename_i hl
      cases e
      exact ⟨a, b, f1, f2, ⟨hl.1, by omega, hl.2.2⟩, q.sc gh rfl⟩
    · cases e
  · cases e
theorem cmpI_of {f : Int → Int → Bool} {d1 d2 d : D} {s : Sh} (e : cmpI f d1 d2 = some (s, d)) : ∃ i j, d1 = .int i ∧ d2 = .int j ∧ s = .fz ∧ d = .bl (f i j) := by
  unfold cmpI at e
  split at e
  · cases e
    exact ⟨_, _, rfl, rfl, rfl, rfl⟩
  · cases e
theorem p_lt : OpR X (compareOp .Lt) (fun x y H Q => rP (cn X cls) .lt [x, y] H Q) := by
  refine OpR.imp op_lt ?_
  intro x y H Q h
  obtain ⟨G, d1, d2, s, d, gh, f1, f2, e, q⟩ := rP.two h
  obtain ⟨i, j, rfl, rfl, rfl, rfl⟩ := cmpI_of e
  exact ⟨i, j, f1, f2, q.sc gh rfl⟩
theorem p_le : OpR X (compareOp .LtE) (fun x y H Q => rP (cn X cls) .le [x, y] H Q) := by
  refine OpR.imp op_le ?_
  intro x y H Q h
  obtain ⟨G, d1, d2, s, d, gh, f1, f2, e, q⟩ := rP.two h
  obtain ⟨i, j, rfl, rfl, rfl, rfl⟩ := cmpI_of e
  exact ⟨i, j, f1, f2, q.sc gh rfl⟩
theorem p_gt : OpR X (compareOp .Gt) (fun x y H Q => rP (cn X cls) .gt [x, y] H Q) := by
  refine OpR.imp op_gt ?_
  intro x y H Q h
  obtain ⟨G, d1, d2, s, d, gh, f1, f2, e, q⟩ := rP.two h
  obtain ⟨i, j, rfl, rfl, rfl, rfl⟩ := cmpI_of e
  exact ⟨i, j, f1, f2, q.sc gh rfl⟩
theorem p_ge : OpR X (compareOp .GtE) (fun x y H Q => rP (cn X cls) .ge [x, y] H Q) := by
  refine OpR.imp op_ge ?_
  intro x y H Q h
  obtain ⟨G, d1, d2, s, d, gh, f1, f2, e, q⟩ := rP.two h
  obtain ⟨i, j, rfl, rfl, rfl, rfl⟩ := cmpI_of e
  exact ⟨i, j, f1, f2, q.sc gh rfl⟩

/-! ### equality -/
mutual
def toP : D → PyData
  | .non => .none
  | .bl b => .bool b
  | .int i => .int i
  | .str x => .str (tS x)
  | .tup l => .tuple (toPs l)
  | .lst l => .list (toPs l)
  | _ => .none
def toPs : List D → List PyData
  | [] => []
  | d :: ds => toP d :: toPs ds
end
theorem toPs_map : ∀ l : List D, toPs l = l.map toP
  | [] => rfl
  | d :: ds => by rw [toPs, List.map_cons, toPs_map ds]
mutual
theorem eqv_toP : ∀ (n : Nat) (a b : D), D.plain n a = true → D.plain n b = true → PyData.eqv (toP a) (toP b) = D.eqb a b
  | n, .non, b, ha, hb => by cases b <;> first | rfl | (cases n <;> simp [D.plain] at hb)
  | n, .bl x, b, ha, hb => by cases b <;> first | rfl | (cases n <;> simp [D.plain] at hb)
  | n, .int x, b, ha, hb => by cases b <;> first | rfl | (cases n <;> simp [D.plain] at hb)
  | n, .str x, b, ha, hb => by
    cases b with
    | str y =>
      simp only [toP, PyData.eqv, D.eqb]
      by_cases e : x = y
      · subst e; simp
      · have ne : ¬ tS x = tS y := fun z => e (tS_inj z)
        rw [decide_eq_false e]
        exact beq_eq_false_iff_ne.mpr ne
    | _ => first | rfl | (cases n <;> simp [D.plain] at hb)
  | 0, .tup l, b, ha, hb => by simp [D.plain] at ha
  | n + 1, .tup l, b, ha, hb => by
    cases b with
    | tup m =>
      simp only [toP, PyData.eqv, D.eqb]
      exact eqvs_toP n l m (by simpa [D.plain] using ha) (by simpa [D.plain] using hb)
    | _ => first | rfl | simp [D.plain] at hb
  | 0, .lst l, b, ha, hb => by simp [D.plain] at ha
  | n + 1, .lst l, b, ha, hb => by
    cases b with
    | lst m =>
      simp only [toP, PyData.eqv, D.eqb]
      exact eqvs_toP n l m (by simpa [D.plain] using ha) (by simpa [D.plain] using hb)
    | _ => first | rfl | simp [D.plain] at hb
  | n, .dct a b, _, ha, _ => by cases n <;> simp [D.plain] at ha
  | n, .exc a, _, ha, _ => by cases n <;> simp [D.plain] at ha
  | n, .scr a, _, ha, _ => by cases n <;> simp [D.plain] at ha
theorem eqvs_toP : ∀ (n : Nat) (a b : List D), (∀ x ∈ a, D.plain n x = true) → (∀ x ∈ b, D.plain n x = true) → PyData.eqvAll (toPs a) (toPs b) = D.eqbs a b
  | n, [], [], _, _ => rfl
  | n, [], _ :: _, _, _ => rfl
  | n, _ :: _, [], _, _ => rfl
  | n, x :: xs, y :: ys, ha, hb => by
    simp only [toPs, PyData.eqvAll, D.eqbs]
    rw [eqv_toP n x y (ha x (by simp)) (hb y (by simp)), eqvs_toP n xs ys (fun z hz => ha z (by simp [hz])) (fun z hz => hb z (by simp [hz]))]
end
mutual
theorem lay_toP : ∀ (n : Nat) (a : D), D.plain n a = true → (toP a).canLay0 = true ∧ (toP a).depth ≤ n
  | n, .non, ha => ⟨rfl, Nat.zero_le _⟩
  | n, .bl x, ha => ⟨rfl, Nat.zero_le _⟩
  | n, .int x, ha => ⟨rfl, Nat.zero_le _⟩
  | n, .str x, ha => by
    refine ⟨?_, Nat.zero_le _⟩
    have h : ∀ c ∈ x, c < 0x110000 := by
      cases n <;> simpa [D.plain] using ha
    simp only [toP, PyData.canLay0, PyData.strOk, tS]
    rw [Array.all_eq_true_iff_forall_mem]
    intro c hc
    exact decide_eq_true (h c (by simpa using hc))
  | 0, .tup l, ha => by simp [D.plain] at ha
  | n + 1, .tup l, ha => by
    obtain ⟨h1, h2⟩ := lays_toP n l (by simpa [D.plain] using ha)
    exact ⟨by simp only [toP, PyData.canLay0]; exact h1, by simp only [toP, PyData.depth]; omega⟩
  | 0, .lst l, ha => by simp [D.plain] at ha
  | n + 1, .lst l, ha => by
    obtain ⟨h1, h2⟩ := lays_toP n l (by simpa [D.plain] using ha)
    exact ⟨by simp only [toP, PyData.canLay0]; exact h1, by simp only [toP, PyData.depth]; omega⟩
  | n, .dct a b, ha => by cases n <;> simp [D.plain] at ha
  | n, .exc a, ha => by cases n <;> simp [D.plain] at ha
  | n, .scr a, ha => by cases n <;> simp [D.plain] at ha
theorem lays_toP : ∀ (n : Nat) (a : List D), (∀ x ∈ a, D.plain n x = true) → PyData.canLayAll0 (toPs a) = true ∧ PyData.depthAll (toPs a) ≤ n
  | n, [], _ => ⟨rfl, Nat.zero_le _⟩
  | n, x :: xs, ha => by
    obtain ⟨h1, h2⟩ := lay_toP n x (ha x (by simp))
    obtain ⟨h3, h4⟩ := lays_toP n xs fun z hz => ha z (by simp [hz])
    exact ⟨by simp only [toPs, PyData.canLayAll0, h1, h3]; rfl, by simp only [toPs, PyData.depthAll]; omega⟩
end
theorem shaped_toP {a : D} (h : pln a = true) : SeqAt.shaped (toP a) = true := by
  obtain ⟨h1, h2⟩ := lay_toP 30 a h
  unfold SeqAt.shaped
  rw [h1, decide_eq_true (by omega : (toP a).depth ≤ 64)]
  rfl
mutual
theorem dp_rep {c : Cn} {G : Hp} : ∀ (n : Nat) (d : D) (v : V), D.plain n d = true → Rep c G d v → Dp c.K G v (toP d)
  | n, .non, v, hp, h => by rw [show v = .non from h]; exact .non
  | n, .bl b, v, hp, h => by rw [show v = .bl b from h]; exact .bl b
  | n, .int i, v, hp, h => by rw [show v = .int i from h]; exact .int i
  | n, .str x, v, hp, h => by rw [show v = .str (tS x) from h]; exact .str _
  | 0, .tup l, v, hp, h => by simp [D.plain] at hp
  | n + 1, .tup l, v, hp, h => by
    obtain ⟨a, xs, rfl, h1, h2⟩ := h
    exact .tup h1 (dps_rep n l xs (by simpa [D.plain] using hp) h2)
  | 0, .lst l, v, hp, h => by simp [D.plain] at hp
  | n + 1, .lst l, v, hp, h => by
    obtain ⟨a, xs, rfl, h1, h2⟩ := h
    exact .lst (SqL.of h1) (dps_rep n l xs (by simpa [D.plain] using hp) h2)
  | n, .dct a b, _, ha, _ => by cases n <;> simp [D.plain] at ha
  | n, .exc a, _, ha, _ => by cases n <;> simp [D.plain] at ha
  | n, .scr a, _, ha, _ => by cases n <;> simp [D.plain] at ha
theorem dps_rep {c : Cn} {G : Hp} : ∀ (n : Nat) (l : List D) (xs : List V), (∀ x ∈ l, D.plain n x = true) → Reps c G l xs → DpAll c.K G xs (toPs l)
  | n, [], xs, _, h => by rw [show xs = [] from h]; exact .nil
  | n, d :: ds, xs, hp, ⟨x, r, e, h1, h2⟩ => by
    rw [e]
    exact .cons (dp_rep n d x (hp d (by simp)) h1) (dps_rep n ds r (fun z hz => hp z (by simp [hz])) h2)
end
mutual
theorem Dp.mono {K : PySem.W.Frag} {G H : Hp} (s : Same G H) : ∀ (d : PyData) (v : V), Dp K G v d → Dp K H v d
  | .none, _, h => by cases h; exact .non
  | .bool b, _, h => by cases h; exact .bl b
  | .int i, _, h => by cases h; exact .int i
  | .str x, _, h => by cases h; exact .str x
  | .list ds, _, h => by
    cases h with
    | lst hs ha => exact .lst (Same.seq s hs) (DpAll.mono s ds _ ha)
  | .tuple ds, _, h => by
    cases h with
    | tup hs ha => exact .tup (Same.sqT s hs) (DpAll.mono s ds _ ha)
  | .dict _, _, h => by cases h
theorem DpAll.mono {K : PySem.W.Frag} {G H : Hp} (s : Same G H) : ∀ (ds : List PyData) (vs : List V), DpAll K G vs ds → DpAll K H vs ds
  | [], _, h => by cases h; exact .nil
  | d :: ds, _, h => by
    cases h with
    | cons h1 h2 => exact .cons (Dp.mono s d _ h1) (DpAll.mono s ds _ h2)
end
theorem dp_flat {c : Cn} {G H : Hp} (s : Same G H) {d : D} {v : V} (hp : pln d = true) (h : Flat c G H d v) : Dp c.K H v (toP d) := by
  cases d with
  | lst l =>
    obtain ⟨a, xs, rfl, h1, h2⟩ := h
    exact .lst (SqL.of h1) (DpAll.mono s _ _ (dps_rep 29 l xs (by simpa [pln, D.plain] using hp) h2))
  | dct a b => simp [pln, D.plain] at hp
  | _ => exact Dp.mono s _ _ (dp_rep 30 _ _ hp h)
theorem p_eq (hu : X.A.units + 64 < cLine) : OpR X (compareOp .Eq) (fun x y H Q => rP (cn X cls) .eq [x, y] H Q) := by
  refine OpR.imp (op_eqD hu) ?_
  intro x y H Q h
  obtain ⟨G, d1, d2, s, d, gh, f1, f2, e, q⟩ := rP.two h
  simp only [prim] at e
  split at e
  · rename_i hl
    rw [Bool.and_eq_true] at hl
    cases e
    refine ⟨toP d1, toP d2, dp_flat gh hl.1 f1, dp_flat gh hl.2 f2, shaped_toP hl.1, shaped_toP hl.2, ?_⟩
    rw [eqv_toP 30 d1 d2 hl.1 hl.2]
    exact q.sc gh rfl
  · cases e
theorem p_ne (hu : X.A.units + 64 < cLine) : OpR X (compareOp .NotEq) (fun x y H Q => rP (cn X cls) .ne [x, y] H Q) := by
  refine OpR.imp (op_neD hu) ?_
  intro x y H Q h
  obtain ⟨G, d1, d2, s, d, gh, f1, f2, e, q⟩ := rP.two h
  simp only [prim] at e
  split at e
  · rename_i hl
    rw [Bool.and_eq_true] at hl
    cases e
    refine ⟨toP d1, toP d2, dp_flat gh hl.1 f1, dp_flat gh hl.2 f2, shaped_toP hl.1, shaped_toP hl.2, ?_⟩
    rw [eqv_toP 30 d1 d2 hl.1 hl.2]
    exact q.sc gh rfl
  · cases e

/-! ### None, in, items, slices -/
theorem p_isN : OpR X (compareOp .Is) (fun x y H Q => y = .non ∧ rP (cn X cls) .isN [x] H Q) := by
  refine OpR.imp op_isN ?_
  rintro x y H Q ⟨hy, h⟩
  obtain ⟨G, d1, s, d, gh, f1, e, q⟩ := h.one
  refine ⟨hy, ?_⟩
  cases d1 with
  | non => cases e; rw [show x = .non from f1]; exact q.sc gh rfl
  | bl b => cases e; rw [show x = .bl b from f1]; exact q.sc gh rfl
  | int b => cases e; rw [show x = .int b from f1]; exact q.sc gh rfl
  | str b => cases e; rw [show x = .str (tS b) from f1]; exact q.sc gh rfl
  | tup b => cases e; obtain ⟨a, xs, rfl, _⟩ := f1; exact q.sc gh rfl
  | lst b => cases e; obtain ⟨a, xs, rfl, _⟩ := f1; exact q.sc gh rfl
  | dct b1 b2 => cases e; obtain ⟨a, xs, _, _, rfl, _⟩ := f1; exact q.sc gh rfl
  | exc b => cases e; obtain ⟨a, rfl, _⟩ := f1; exact q.sc gh rfl
  | scr b => cases e; obtain ⟨a, rfl, _⟩ := f1; exact q.sc gh rfl
theorem p_notN : OpR X (compareOp .IsNot) (fun x y H Q => y = .non ∧ rP (cn X cls) .notN [x] H Q) := by
  refine OpR.imp op_notN ?_
  rintro x y H Q ⟨hy, h⟩
  obtain ⟨G, d1, s, d, gh, f1, e, q⟩ := h.one
  refine ⟨hy, ?_⟩
  cases d1 with
  | non => cases e; rw [show x = .non from f1]; exact q.sc gh rfl
  | bl b => cases e; rw [show x = .bl b from f1]; exact q.sc gh rfl
  | int b => cases e; rw [show x = .int b from f1]; exact q.sc gh rfl
  | str b => cases e; rw [show x = .str (tS b) from f1]; exact q.sc gh rfl
  | tup b => cases e; obtain ⟨a, xs, rfl, _⟩ := f1; exact q.sc gh rfl
  | lst b => cases e; obtain ⟨a, xs, rfl, _⟩ := f1; exact q.sc gh rfl
  | dct b1 b2 => cases e; obtain ⟨a, xs, _, _, rfl, _⟩ := f1; exact q.sc gh rfl
  | exc b => cases e; obtain ⟨a, rfl, _⟩ := f1; exact q.sc gh rfl
  | scr b => cases e; obtain ⟨a, rfl, _⟩ := f1; exact q.sc gh rfl
theorem p_neg : UnR X (unaryOp .USub) (fun x H Q => rP (cn X cls) .neg [x] H Q) := by
  refine UnR.imp un_neg ?_
  intro x H Q h
  obtain ⟨G, d1, s, d, gh, f1, e, q⟩ := h.one
  cases d1 with
  | int a => cases e; exact ⟨a, f1, q.sc gh rfl⟩
  | _ => cases e
theorem atI_eq {α : Type} (l : List α) (i : Int) : L2.atI l i = if 0 ≤ i then (if i < l.length then l[i.toNat]? else none) else if -(l.length : Int) ≤ i then l[(i + l.length).toNat]? else none := by
  unfold L2.atI L2.ixN
  split
  · split <;> rfl
  · split <;> rfl
theorem atI_rep {c : Cn} {G : Hp} {l : List D} {xs : List V} (h : Reps c G l xs) {i : Int} {d : D} (e : Rl.atI l i = some d) : ∃ x, L2.atI xs i = some x ∧ Rep c G d x := by
  rw [atI_eq, h.length]
  unfold Rl.atI at e
  split at e
  · rename_i h0
    split at e
    · rename_i h1
      rw [if_pos h0, if_pos h1]
      exact h.get e
    · cases e
  · rename_i h0
    split at e
    · rename_i h1
      rw [if_neg h0, if_pos h1]
      exact h.get e
    · cases e
theorem atI_map {α : Type} {l : List α} {f : α → D} {i : Int} {d : D} (e : Rl.atI (l.map f) i = some d) : ∃ z, L2.atI l i = some z ∧ d = f z := by
  rw [atI_eq]
  unfold Rl.atI at e
  rw [List.length_map] at e
  have key : ∀ j : Nat, (l.map f)[j]? = some d → ∃ z, l[j]? = some z ∧ d = f z := fun j q => by
    rw [List.getElem?_map] at q
    obtain ⟨z, h1, h2⟩ := Option.map_eq_some_iff.mp q
    exact ⟨z, h1, h2.symm⟩
  split at e
  · rename_i h0
    split at e
    · rename_i h1
      rw [if_pos h0, if_pos h1]; exact key _ e
    · cases e
  · rename_i h0
    split at e
    · rename_i h1
      rw [if_neg h0, if_pos h1]; exact key _ e
    · cases e
theorem sc_of {o : Option D} {s : Sh} {d : D} (e : o.bind sc = some (s, d)) : o = some d ∧ s = .fz := by
  cases o with
  | none => cases e
  | some x => cases e; exact ⟨rfl, rfl⟩
theorem SqL.map_int {K : PySem.W.Frag} {H : Hp} {a : Addr} {l : List Int} (h : SqL K H a (l.map V.int)) {i : Int} {z : Int} (e : L2.atI l i = some z) : L2.atI (l.map V.int) i = some (V.int z) := by
  rw [atI_eq] at e ⊢
  rw [List.length_map]
  split at e
  · rename_i h0
    split at e
    · rename_i h1
      rw [if_pos h0, if_pos h1, List.getElem?_map, e]; rfl
    · cases e
  · rename_i h0
    split at e
    · rename_i h1
      rw [if_neg h0, if_pos h1, List.getElem?_map, e]; rfl
    · cases e
/-- items of sequences; dicts apart -/
def isDct : D → Bool
  | .dct _ _ => true
  | _ => false
def rIxSeq (c : Cn) : R2 := fun x y H Q => ∃ G d1 d2 s d, Same G H ∧ Flat c G H d1 x ∧ Flat c G H d2 y ∧ prim .idx [d1, d2] = some (s, d) ∧ NewP c G H s d Q ∧ isDct d1 = false
theorem p_ixSeq : IxR X (rIxSeq (cn X cls)) := by
  refine IxR.imp ix_seq ?_
  rintro x y H Q ⟨G, d1, d2, s, d, gh, f1, f2, e, q, nd⟩
  simp only [prim] at e
  split at e
  · rename_i l i q'
    simp only [List.cons.injEq, and_true] at q'
    obtain ⟨rfl, rfl⟩ := q'
    obtain ⟨e1, rfl⟩ := sc_of e
    obtain ⟨a, xs, rfl, h1, h2⟩ := f1
    obtain ⟨v, h3, h4⟩ := atI_rep h2 e1
    exact .inl ⟨a, xs, i, v, rfl, f2, SqL.of h1, h3, q.sc gh h4⟩
  · rename_i l i q'
    simp only [List.cons.injEq, and_true] at q'
    obtain ⟨rfl, rfl⟩ := q'
    obtain ⟨e1, rfl⟩ := sc_of e
    obtain ⟨a, xs, rfl, h1, h2⟩ := f1
    obtain ⟨v, h3, h4⟩ := atI_rep h2 e1
    exact .inr (.inl ⟨a, xs, i, v, rfl, f2, Same.sqT gh h1, h3, q.sc gh h4⟩)
  · rename_i l i q'
    simp only [List.cons.injEq, and_true] at q'
    obtain ⟨rfl, rfl⟩ := q'
    obtain ⟨r, e1, e2⟩ := Option.bind_eq_some_iff.mp e
    split at e2
    · rename_i hl
      cases e2
      obtain ⟨z, h1, rfl⟩ := atI_map e1
      refine .inr (.inr ⟨tS l, i, z, f1, f2, by rw [tS_len]; exact Nat.le_trans hl most_line, by rw [tS_cps]; exact h1, ?_⟩)
      exact q.sc gh rfl
    · cases e2
  · rename_i l i q'
    simp only [List.cons.injEq, and_true] at q'
    obtain ⟨rfl, rfl⟩ := q'
    obtain ⟨e1, rfl⟩ := sc_of e
    obtain ⟨a, rfl, h1⟩ := f1
    obtain ⟨z, h2, rfl⟩ := atI_map e1
    exact .inl ⟨a, _, i, _, rfl, f2, Same.seq gh h1, SqL.map_int h1 h2, q.sc gh rfl⟩
  · rename_i q'
    simp only [List.cons.injEq, and_true] at q'
    obtain ⟨rfl, rfl⟩ := q'
    cases nd
  · cases e

theorem cutIx_eq (n d : Nat) (o : Option Int) : cutIx n d o = HT.sIx n d o := by
  cases o with
  | none => rfl
  | some v =>
    rfl
theorem cut_rep {c : Cn} {G : Hp} {l : List D} {xs : List V} (h : Reps c G l xs) (lo hi : Option Int) : Reps c G (cut l lo hi) (cutV xs lo hi) := by
  unfold cut cutV
  rw [cutIx_eq, cutIx_eq, h.length]
  exact (h.drop _).take _
/-- the parts of a slice that are told -/
def partV : Option Int → List V
  | none => []
  | some i => [.int i]
theorem p_slc : SlR X (fun x lo hi H Q => rP (cn X cls) (.slc lo.isSome hi.isSome) (x :: (partV lo ++ partV hi)) H Q) := by
  refine SlR.imp (sl_list.or (sl_tup.or sl_str)) ?_
  rintro x lo hi H Q ⟨G, ds, s, d, gh, fl, e, q⟩
  have key : ∃ d1, Flat (cn X cls) G H d1 x ∧ (match d1, ([] : List D) with
      | .lst xs, [] => some (Sh.own, D.lst (cut xs lo hi))
      | .str xs, [] => if xs.length ≤ most then sc (.str (cut xs lo hi)) else none
      | .tup xs, [] => if (cut xs lo hi).length < xs.length then sc (.tup (cut xs lo hi)) else none
      | _, _ => none) = some (s, d) := by
    match ds, fl, e with
    | d1 :: r, ⟨x', r', e1, f1, f2⟩, e =>
      cases e1
      refine ⟨d1, f1, ?_⟩
      cases lo with
      | none =>
        cases hi with
        | none =>
          have l := f2.length
          match r, l with
          | [], _ => exact e
        | some j =>
          obtain ⟨d2, rfl, f3⟩ := flats1 f2
          cases d2 with
          | int k => cases f3; exact e
          | _ => cases e
      | some i =>
        cases hi with
        | none =>
          obtain ⟨d2, rfl, f3⟩ := flats1 f2
          cases d2 with
          | int k => cases f3; exact e
          | _ => cases e
        | some j =>
          obtain ⟨d2, d3, rfl, f3, f4⟩ := flats2 f2
          cases d2 with
          | int k =>
            cases d3 with
            | int k' => cases f3; cases f4; exact e
            | _ => cases e
          | _ => cases e
  obtain ⟨d1, f1, e⟩ := key
  cases d1 with
  | lst l =>
    cases e
    obtain ⟨a, xs, rfl, h1, h2⟩ := f1
    exact .inl ⟨a, xs, rfl, SqL.of h1, q.lst gh (cut_rep h2 lo hi)⟩
  | tup l =>
    simp only at e
    split at e
    · rename_i hl
      cases e
      obtain ⟨a, xs, rfl, h1, h2⟩ := f1
      refine .inr (.inl ⟨a, xs, rfl, Same.sqT gh h1, ?_, q.tup gh (cut_rep h2 lo hi)⟩)
      rintro ⟨e1, e2⟩
      unfold cut at hl
      rw [cutIx_eq, cutIx_eq] at hl
      rw [h2.length] at e1 e2
      rw [e1, e2] at hl
      simp at hl
    · cases e
  | str l =>
    simp only at e
    split at e
    · rename_i hl
      cases e
      refine .inr (.inr ⟨tS l, f1, by rw [tS_len]; exact Nat.le_trans hl most_line, ?_⟩)
      have e3 : cutS (tS l) lo hi = tS (cut l lo hi) := by
        unfold cutS cut
        rw [cutIx_eq, cutIx_eq, tS_len]
        simp [tS]
      rw [e3]
      exact q.sc gh rfl
    · cases e
  | _ => cases e
end
end Rl
set_option Elab.async false
set_option linter.all false
set_option maxRecDepth 100000
set_option autoImplicit false
namespace Rl
open PySem L2
section
variable {X : Cx} {cls : String → Addr}

theorem any_toP {x : D} (hx : pln x = true) {l : List D} (hl : ∀ z ∈ l, D.plain 29 z = true) : ((toPs l).any fun z => PyData.eqv z (toP x)) = l.any fun z => D.eqb z x := by
  induction l with
  | nil => rfl
  | cons a l ih =>
    have h1 : D.plain 30 a = true := by
      have h := hl a (by simp)
      exact plain_succ 29 a h
    rw [toPs, List.any_cons, List.any_cons, eqv_toP 30 a x h1 hx, ih fun z hz => hl z (by simp [hz])]
where
  plain_succ : ∀ (n : Nat) (d : D), D.plain n d = true → D.plain (n + 1) d = true
    | n, .non, _ => by simp [D.plain]
    | n, .bl _, _ => by simp [D.plain]
    | n, .int _, _ => by simp [D.plain]
    | n, .str x, h => by cases n <;> simpa [D.plain] using h
    | 0, .tup l, h => by simp [D.plain] at h
    | n + 1, .tup l, h => by
      simp only [D.plain, List.all_eq_true] at h ⊢
      exact fun x hx => plain_succ n x (h x hx)
    | 0, .lst l, h => by simp [D.plain] at h
    | n + 1, .lst l, h => by
      simp only [D.plain, List.all_eq_true] at h ⊢
      exact fun x hx => plain_succ n x (h x hx)
    | n, .dct a b, h => by cases n <;> simp [D.plain] at h
    | n, .exc a, h => by cases n <;> simp [D.plain] at h
    | n, .scr a, h => by cases n <;> simp [D.plain] at h
theorem flat_V {c : Cn} {G H : Hp} {d : D} {v : V} (hf : d.flat = true) (h : Flat c G H d v) : flatV v = true := by
  cases d with
  | non => rw [show v = .non from h]; rfl
  | bl b => rw [show v = .bl b from h]; rfl
  | int b => rw [show v = .int b from h]; rfl
  | str b => rw [show v = .str (tS b) from h]; rfl
  | _ => cases hf
theorem eqV_flat {c : Cn} {G H : Hp} {d e : D} {v w : V} (hd : d.flat = true) (he : e.flat = true) (h : Rep c G d v) (k : Rep c H e w) : eqV v w = D.eqb d e := by
  cases d with
  | non => rw [show v = .non from h]; cases e with
    | non => rw [show w = .non from k]; rfl
    | bl b => rw [show w = .bl b from k]; rfl
    | int b => rw [show w = .int b from k]; rfl
    | str b => rw [show w = .str (tS b) from k]; rfl
    | _ => cases he
  | bl a => rw [show v = .bl a from h]; cases e with
    | non => rw [show w = .non from k]; rfl
    | bl b => rw [show w = .bl b from k]; rfl
    | int b => rw [show w = .int b from k]; rfl
    | str b => rw [show w = .str (tS b) from k]; rfl
    | _ => cases he
  | int a => rw [show v = .int a from h]; cases e with
    | non => rw [show w = .non from k]; rfl
    | bl b => rw [show w = .bl b from k]; rfl
    | int b => rw [show w = .int b from k]; rfl
    | str b => rw [show w = .str (tS b) from k]; rfl
    | _ => cases he
  | str a => rw [show v = .str (tS a) from h]; cases e with
    | non => rw [show w = .non from k]; rfl
    | bl b => rw [show w = .bl b from k]; rfl
    | int b => rw [show w = .int b from k]; rfl
    | str b =>
      rw [show w = .str (tS b) from k]
      show (tS a == tS b) = decide (a = b)
      by_cases z : a = b
      · subst z; simp
      · rw [decide_eq_false z]; exact beq_eq_false_iff_ne.mpr fun q => z (tS_inj q)
    | _ => cases he
  | _ => cases hd
theorem flat_rep {c : Cn} {G H : Hp} {d : D} {v : V} (hf : d.flat = true) (h : Flat c G H d v) : Rep c G d v := by
  cases d with
  | lst l => cases hf
  | dct a b => cases hf
  | _ => exact h
theorem inV_flat {c : Cn} {G H : Hp} {x : D} {v : V} (hx : x.flat = true) (h : Flat c G H x v) : ∀ {l : List D} {xs : List V}, l.all D.flat = true → Reps c G l xs → xs.all flatV = true ∧ inV v xs = l.any fun z => D.eqb z x
  | [], xs, _, r => by rw [show xs = [] from r]; exact ⟨rfl, rfl⟩
  | d :: ds, xs, hl, ⟨y, r, e, h1, h2⟩ => by
    rw [List.all_cons, Bool.and_eq_true] at hl
    obtain ⟨q1, q2⟩ := inV_flat hx h hl.2 h2
    have fy : flatV y = true := by
      cases d with
      | non => rw [show y = .non from h1]; rfl
      | bl b => rw [show y = .bl b from h1]; rfl
      | int b => rw [show y = .int b from h1]; rfl
      | str b => rw [show y = .str (tS b) from h1]; rfl
      | _ => cases hl.1
    subst e
    refine ⟨by rw [List.all_cons, fy, q1]; rfl, ?_⟩
    unfold inV at q2 ⊢
    rw [List.any_cons, List.any_cons, q2, eqV_flat hl.1 hx h1 (flat_rep hx h)]
/-- in, not in; dicts apart -/
def rInSeq (c : Cn) (p : P) : R2 := fun x y H Q => ∃ G d1 d2 s d, Same G H ∧ Flat c G H d1 x ∧ Flat c G H d2 y ∧ prim p [d1, d2] = some (s, d) ∧ NewP c G H s d Q ∧ isDct d2 = false
theorem p_inSeq (hu : X.A.units + 65 < cLine) : OpR X (compareOp .In) (rInSeq (cn X cls) .inn) := by
  refine OpR.imp (op_in_sign.or ((op_inD hu).or op_in_seq)) ?_
  rintro x y H Q ⟨G, d1, d2, s, d, gh, f1, f2, e, q, nd⟩
  simp only [prim] at e
  split at e
  · rename_i q'
    simp only [List.cons.injEq, and_true] at q'
    obtain ⟨rfl, rfl⟩ := q'
    cases nd
  · rename_i z y' q'
    simp only [List.cons.injEq, and_true] at q'
    obtain ⟨rfl, rfl⟩ := q'
    cases e
    refine .inl ⟨z, tS y', f1, f2, ?_⟩
    rw [tS_cps]
    exact q.sc gh rfl
  · rename_i x' l q'
    simp only [List.cons.injEq, and_true] at q'
    obtain ⟨rfl, rfl⟩ := q'
    split at e
    · rename_i hl
      rw [Bool.and_eq_true] at hl
      cases e
      have hl2 : ∀ z ∈ l, D.plain 29 z = true := by simpa [pln, D.plain] using hl.2
      refine .inr (.inl ⟨toP d1, toPs l, dp_flat gh hl.1 f1, dp_flat gh hl.2 f2, shaped_toP hl.1, shaped_toP hl.2, ?_⟩)
      rw [any_toP hl.1 hl2]
      exact q.sc gh rfl
    · cases e
  · rename_i x' l q'
    simp only [List.cons.injEq, and_true] at q'
    obtain ⟨rfl, rfl⟩ := q'
    split at e
    · rename_i hl
      rw [Bool.and_eq_true] at hl
      cases e
      obtain ⟨a, xs, rfl, h1, h2⟩ := f2
      obtain ⟨q1, q2⟩ := inV_flat hl.1 f1 hl.2 h2
      refine .inr (.inr ⟨a, xs, rfl, .inr (Same.sqT gh h1), flat_V hl.1 f1, q1, ?_⟩)
      rw [if_neg (by decide), q2]
      exact q.sc gh rfl
    · cases e
  · cases e
theorem p_ninSeq (hu : X.A.units + 65 < cLine) : OpR X (compareOp .NotIn) (rInSeq (cn X cls) .nin) := by
  refine OpR.imp (op_notIn_sign.or ((op_notInD hu).or op_notIn_seq)) ?_
  rintro x y H Q ⟨G, d1, d2, s, d, gh, f1, f2, e, q, nd⟩
  simp only [prim] at e
  split at e
  · rename_i q'
    simp only [List.cons.injEq, and_true] at q'
    obtain ⟨rfl, rfl⟩ := q'
    cases nd
  · rename_i z y' q'
    simp only [List.cons.injEq, and_true] at q'
    obtain ⟨rfl, rfl⟩ := q'
    cases e
    refine .inl ⟨z, tS y', f1, f2, ?_⟩
    rw [tS_cps]
    exact q.sc gh rfl
  · rename_i x' l q'
    simp only [List.cons.injEq, and_true] at q'
    obtain ⟨rfl, rfl⟩ := q'
    split at e
    · rename_i hl
      rw [Bool.and_eq_true] at hl
      cases e
      have hl2 : ∀ z ∈ l, D.plain 29 z = true := by simpa [pln, D.plain] using hl.2
      refine .inr (.inl ⟨toP d1, toPs l, dp_flat gh hl.1 f1, dp_flat gh hl.2 f2, shaped_toP hl.1, shaped_toP hl.2, ?_⟩)
      rw [any_toP hl.1 hl2]
      exact q.sc gh rfl
    · cases e
  · rename_i x' l q'
    simp only [List.cons.injEq, and_true] at q'
    obtain ⟨rfl, rfl⟩ := q'
    split at e
    · rename_i hl
      rw [Bool.and_eq_true] at hl
      cases e
      obtain ⟨a, xs, rfl, h1, h2⟩ := f2
      obtain ⟨q1, q2⟩ := inV_flat hl.1 f1 hl.2 h2
      refine .inr (.inr ⟨a, xs, rfl, .inr (Same.sqT gh h1), flat_V hl.1 f1, q1, ?_⟩)
      rw [if_pos rfl, q2]
      exact q.sc gh rfl
    · cases e
  · cases e

/-! ### calls of built-in functions -/
theorem vs1 {c : Cn} {p : P} {xs : List V} {H : Hp} {Q : VK} (h : rP c p xs H Q) (h1 : ∀ ds s d, prim p ds = some (s, d) → ∃ z, ds = [z]) : ∃ x, xs = [x] ∧ rP c p [x] H Q := by
  obtain ⟨G, ds, s, d, gh, fl, e, q⟩ := h
  obtain ⟨z, rfl⟩ := h1 _ _ _ e
  obtain ⟨x, rfl, f⟩ := Flats.one fl
  exact ⟨x, rfl, G, [z], s, d, gh, fl, e, q⟩
theorem p_abs : CallR X (.builtin "abs") (rP (cn X cls) .abs) := by
  refine CallR.imp call_abs ?_
  intro xs H Q ⟨G, ds, s, d, gh, fl, e, q⟩
  simp only [prim] at e
  split at e
  · rename_i a
    cases e
    obtain ⟨x, rfl, f⟩ := Flats.one fl
    exact ⟨a, by rw [show x = .int a from f], q.sc gh rfl⟩
  · cases e
theorem p_min2 (hc : X.calm = true) : CallR X (.builtin "min") (rP (cn X cls) .min2) := by
  refine CallR.imp (call_min2 hc) ?_
  intro xs H Q ⟨G, ds, s, d, gh, fl, e, q⟩
  simp only [prim] at e
  split at e
  · rename_i a b
    cases e
    obtain ⟨x, y, rfl, f, g⟩ := Flats.two fl
    exact ⟨a, b, by rw [show x = .int a from f, show y = .int b from g], q.sc gh rfl⟩
  · cases e
theorem p_max2 (hc : X.calm = true) : CallR X (.builtin "max") (rP (cn X cls) .max2) := by
  refine CallR.imp (call_max2 hc) ?_
  intro xs H Q ⟨G, ds, s, d, gh, fl, e, q⟩
  simp only [prim] at e
  split at e
  · rename_i a b
    cases e
    obtain ⟨x, y, rfl, f, g⟩ := Flats.two fl
    exact ⟨a, b, by rw [show x = .int a from f, show y = .int b from g], q.sc gh rfl⟩
  · cases e
theorem p_int : CallR X (.type "int") (rP (cn X cls) .int) := by
  refine CallR.imp call_int1 ?_
  intro xs H Q ⟨G, ds, s, d, gh, fl, e, q⟩
  simp only [prim] at e
  split at e
  · rename_i a
    cases e
    obtain ⟨x, rfl, f⟩ := Flats.one fl
    exact .inl ⟨a, by rw [show x = .int a from f], q.sc gh rfl⟩
  · rename_i a
    cases e
    obtain ⟨x, rfl, f⟩ := Flats.one fl
    exact .inr ⟨a, by rw [show x = .bl a from f], q.sc gh rfl⟩
  · cases e
theorem allB_of {c : Cn} {G : Hp} : ∀ {l : List D} {xs : List V} {b : Bool}, allB l = some b → Reps c G l xs → ∃ bs : List Bool, xs = bs.map V.bl ∧ bs.all id = b
  | [], xs, b, e, r => by cases e; exact ⟨[], r, rfl⟩
  | .bl x :: l, xs, b, e, ⟨y, r, e1, h1, h2⟩ => by
    obtain ⟨b', hb, rfl⟩ := Option.map_eq_some_iff.mp e
    obtain ⟨bs, q1, q2⟩ := allB_of hb h2
    exact ⟨x :: bs, by rw [e1, show y = .bl x from h1, q1]; rfl, by rw [List.all_cons, q2]; rfl⟩
theorem anyB_of {c : Cn} {G : Hp} : ∀ {l : List D} {xs : List V} {b : Bool}, anyB l = some b → Reps c G l xs → ∃ bs : List Bool, xs = bs.map V.bl ∧ bs.any id = b
  | [], xs, b, e, r => by cases e; exact ⟨[], r, rfl⟩
  | .bl x :: l, xs, b, e, ⟨y, r, e1, h1, h2⟩ => by
    obtain ⟨b', hb, rfl⟩ := Option.map_eq_some_iff.mp e
    obtain ⟨bs, q1, q2⟩ := anyB_of hb h2
    exact ⟨x :: bs, by rw [e1, show y = .bl x from h1, q1]; rfl, by rw [List.any_cons, q2]; rfl⟩
theorem p_all (hc : X.calm = true) : CallR X (.builtin "all") (rP (cn X cls) .all) := by
  refine CallR.imp (cr_all hc) ?_
  intro xs H Q ⟨G, ds, s, d, gh, fl, e, q⟩
  simp only [prim] at e
  split at e
  · rename_i l
    obtain ⟨b, h1, h2⟩ := Option.bind_eq_some_iff.mp e
    cases h2
    obtain ⟨x, rfl, a, ys, rfl, h3, h4⟩ := Flats.one fl
    obtain ⟨bs, rfl, h5⟩ := allB_of h1 h4
    exact ⟨a, bs, rfl, SqL.of h3, by rw [h5]; exact q.sc gh rfl⟩
  · cases e
theorem p_any (hc : X.calm = true) : CallR X (.builtin "any") (rP (cn X cls) .any) := by
  refine CallR.imp (cr_any hc) ?_
  intro xs H Q ⟨G, ds, s, d, gh, fl, e, q⟩
  simp only [prim] at e
  split at e
  · rename_i l
    obtain ⟨b, h1, h2⟩ := Option.bind_eq_some_iff.mp e
    cases h2
    obtain ⟨x, rfl, a, ys, rfl, h3, h4⟩ := Flats.one fl
    obtain ⟨bs, rfl, h5⟩ := anyB_of h1 h4
    exact ⟨a, bs, rfl, SqL.of h3, by rw [h5]; exact q.sc gh rfl⟩
  · cases e
theorem p_list : CallR X (.type "list") (rP (cn X cls) .list) := by
  refine CallR.imp call_list_of ?_
  intro xs H Q ⟨G, ds, s, d, gh, fl, e, q⟩
  simp only [prim] at e
  split at e
  · rename_i l
    unfold small at e
    split at e
    · cases e
      obtain ⟨x, rfl, a, ys, rfl, h3, h4⟩ := Flats.one fl
      exact ⟨a, ys, rfl, .inl (SqL.of h3), q.lst gh h4⟩
    · cases e
  · rename_i l
    unfold small at e
    split at e
    · cases e
      obtain ⟨x, rfl, a, ys, rfl, h3, h4⟩ := Flats.one fl
      exact ⟨a, ys, rfl, .inr (Same.sqT gh h3), q.lst gh h4⟩
    · cases e
  · cases e
theorem p_tuple : CallR X (.type "tuple") (rP (cn X cls) .tuple) := by
  refine CallR.imp call_tuple_of ?_
  intro xs H Q ⟨G, ds, s, d, gh, fl, e, q⟩
  simp only [prim] at e
  split at e
  · rename_i l
    unfold small at e
    split at e
    · cases e
      obtain ⟨x, rfl, a, ys, rfl, h3, h4⟩ := Flats.one fl
      exact ⟨a, ys, rfl, .inl ⟨SqL.of h3, q.tup gh h4⟩⟩
    · cases e
  · rename_i l
    cases e
    obtain ⟨x, rfl, a, ys, rfl, h3, h4⟩ := Flats.one fl
    exact ⟨a, ys, rfl, .inr ⟨Same.sqT gh h3, q.sc gh ⟨a, ys, rfl, h3, h4⟩⟩⟩
  · cases e
/-- len; dicts apart -/
def rLenSeq (c : Cn) : List V → Hp → VK → Prop := fun xs H Q => ∃ G d1 s d x, xs = [x] ∧ Same G H ∧ Flat c G H d1 x ∧ prim .len [d1] = some (s, d) ∧ NewP c G H s d Q ∧ isDct d1 = false
theorem p_lenSeq : CallR X (.builtin "len") (rLenSeq (cn X cls)) := by
  refine CallR.imp call_len ?_
  rintro xs H Q ⟨G, d1, s, d, x, rfl, gh, f1, e, q, nd⟩
  cases d1 with
  | lst l =>
    cases e
    obtain ⟨a, ys, rfl, h3, h4⟩ := f1
    exact ⟨_, l.length, rfl, .inl ⟨ys, SqL.of h3, h4.length.symm⟩, q.sc gh rfl⟩
  | tup l =>
    cases e
    obtain ⟨a, ys, rfl, h3, h4⟩ := f1
    exact ⟨_, l.length, rfl, .inr ⟨ys, Same.sqT gh h3, h4.length.symm⟩, q.sc gh rfl⟩
  | scr l =>
    cases e
    obtain ⟨a, rfl, h3⟩ := f1
    exact ⟨_, l.length, rfl, .inl ⟨_, Same.seq gh h3, by simp⟩, q.sc gh rfl⟩
  | str l =>
    simp only [prim] at e
    split at e
    · rename_i hl
      cases e
      rw [show x = .str (tS l) from f1]
      exact ⟨_, l.length, rfl, ⟨by rw [tS_len]; exact Nat.le_trans hl most_line, (tS_len l).symm⟩, q.sc gh rfl⟩
    · cases e
  | dct a b => cases nd
  | _ => cases e
theorem findIdx_of {x : D} (hx : pln x = true) : ∀ {l : List D} {j : Nat}, (∀ z ∈ l, D.plain 29 z = true) → (l.findIdx? fun z => D.eqb z x) = some j →
    ∃ z, (toPs l)[j]? = some z ∧ PyData.eqv z (toP x) = true ∧ ∀ (m : Nat) (z' : PyData), m < j → (toPs l)[m]? = some z' → PyData.eqv z' (toP x) = false
  | [], j, _, e => by cases e
  | d :: ds, j, hl, e => by
    have h1 : D.plain 30 d = true := any_toP.plain_succ 29 d (hl d (by simp))
    rw [List.findIdx?_cons] at e
    cases q : D.eqb d x with
    | true =>
      rw [q] at e
      simp only [if_true, Option.some.injEq] at e
      subst e
      exact ⟨toP d, rfl, by rw [eqv_toP 30 d x h1 hx]; exact q, fun m z' hm => absurd hm (Nat.not_lt_zero _)⟩
    | false =>
      rw [q] at e
      simp only [Bool.false_eq_true, if_false] at e
      obtain ⟨j', h2, rfl⟩ := Option.map_eq_some_iff.mp e
      obtain ⟨z, h3, h4, h5⟩ := findIdx_of hx (fun z hz => hl z (by simp [hz])) h2
      refine ⟨z, by rw [toPs]; simpa using h3, h4, fun m z' hm hz => ?_⟩
      cases m with
      | zero =>
        rw [toPs] at hz
        simp at hz
        rw [← hz, eqv_toP 30 d x h1 hx]
        exact q
      | succ m => exact h5 m z' (by omega) (by rw [toPs] at hz; simpa using hz)
theorem p_index (hu : X.A.units + 65 < cLine) : MtR X "list.index" (fun x xs H Q => rP (cn X cls) .index (x :: xs) H Q) := by
  refine MtR.imp (mt_indexD hu) ?_
  intro x xs H Q ⟨G, ds, s, d, gh, fl, e, q⟩
  simp only [prim] at e
  split at e
  · rename_i l y
    split at e
    · rename_i hl
      rw [Bool.and_eq_true] at hl
      obtain ⟨j, h1, h2⟩ := Option.bind_eq_some_iff.mp e
      cases h2
      obtain ⟨x', y', q', f1, f2⟩ := Flats.two fl
      cases q'
      have hl2 : ∀ z ∈ l, D.plain 29 z = true := by simpa [pln, D.plain] using hl.2
      obtain ⟨z, h3, h4, h5⟩ := findIdx_of hl.1 hl2 h1
      have f1' := dp_flat gh hl.2 f1
      obtain ⟨a, ys, rfl, h6, h7⟩ := f1
      exact ⟨a, y', toP y, toPs l, j, z, rfl, rfl, f1', dp_flat gh hl.1 f2, shaped_toP (a := .lst l) hl.2, shaped_toP hl.1, h3, h4, h5, q.sc gh rfl⟩
    · cases e
  · cases e
end
end Rl
set_option Elab.async false
set_option linter.all false
set_option maxRecDepth 100000
set_option autoImplicit false
namespace Rl
open PySem L2
section
variable {X : Cx} {cls : String → Addr}

theorem count_toP {x : D} (hx : pln x = true) {l : List D} (hl : ∀ z ∈ l, D.plain 29 z = true) : (toPs l).countP (fun z => PyData.eqv z (toP x)) = (l.filter fun z => D.eqb z x).length := by
  induction l with
  | nil => rfl
  | cons a l ih =>
    have h1 : D.plain 30 a = true := any_toP.plain_succ 29 a (hl a (by simp))
    have h2 := ih fun z hz => hl z (by simp [hz])
    rw [toPs, List.countP_cons, h2, eqv_toP 30 a x h1 hx, List.filter_cons]
    cases D.eqb a x <;> simp
theorem p_count (hu : X.A.units + 65 < cLine) : MtR X "list.count" (fun x xs H Q => rP (cn X cls) .count (x :: xs) H Q) := by
  intro pins s σ H x xs v us Q I rx rxs h
  obtain ⟨G, ds, sh, d, gh, fl, e, q⟩ := h
  simp only [prim] at e
  split at e
  · rename_i l y
    split at e
    · rename_i hl
      rw [Bool.and_eq_true] at hl
      cases e
      obtain ⟨x', y', q', f1, f2⟩ := Flats.two fl
      cases q'
      have hl2 : ∀ z ∈ l, D.plain 29 z = true := by simpa [pln, D.plain] using hl.2
      have dl := dp_flat gh hl.2 f1
      have dy := dp_flat gh hl.1 f2
      have sl := shaped_toP (a := .lst l) hl.2
      have sy := shaped_toP hl.1
      obtain ⟨uy, rfl, ry⟩ := Vals.one rxs
      obtain ⟨bs, r1⟩ := Dp.reads I _ y' uy dy ry
      have hxs : PyData.canLayAll0 (toPs l) = true := SeqAt.canLay_of_shaped sl
      have hroom : X.A.units + 1 + min (PyData.depthAll (toPs l)) (toP y).depth < cLine := PyProof.Rows.room_in_shaped sy hu
      change Dp (cn X cls).K H x (.list (toPs l)) at dl
      cases dl with
      | lst hs ha =>
        cases rx
        obtain ⟨its, rv, ⟨⟨kls, dd, data, sls⟩, n, ho, hc, hdn, hdt⟩, hlen⟩ := I.list hs
        simp only at hc hdt
        subst hc hdt
        obtain ⟨as, h4⟩ := Dp.readsAll I _ _ its ha rv
        have hmap : its.map (SeqAt.readOf s.heap) = toPs l := SeqAt.readsAll_map _ its as hxs h4
        refine call_meets PySem.F.slot_list_count ⟨_, ho, rfl⟩ PySem.F.entry_list_count (PySem.F.args_list_count_2 _ _)
          (SeqAt.list_countAt _ its.toArray n dd sls uy (fun u => PyData.eqv (SeqAt.readOf s.heap u) (toP y))) ⟨ho, SeqAt.items_eqAt (vs := its.toArray) (show ReadsAll s.heap its.toArray.toList _ as from h4) r1 hxs (SeqAt.canLay_of_shaped sy) hroom, ?_⟩
        have e1 : its.toArray.toList.countP (fun u => PyData.eqv (SeqAt.readOf s.heap u) (toP y)) = (l.filter fun z => D.eqb z y).length := by
          rw [← count_toP hl.1 hl2, ← hmap, List.countP_map]
          rfl
        rw [e1]
        exact ⟨.int _, H, I.tok _, ⟨_, rfl⟩, q.sc gh rfl⟩
    · cases e
  · cases e

/-! ### sorted -/
theorem strs_rep {c : Cn} {G : Hp} : ∀ {l : List D} {xs : List V} {zs : List (List Nat)}, strsOf l = some zs → Reps c G l xs → l = zs.map D.str ∧ xs = (zs.map tS).map V.str
  | [], xs, zs, e, r => by cases e; exact ⟨rfl, r⟩
  | .str x :: l, xs, zs, e, ⟨y, r, e1, h1, h2⟩ => by
    obtain ⟨zs', hz, rfl⟩ := Option.map_eq_some_iff.mp e
    obtain ⟨q1, q2⟩ := strs_rep hz h2
    exact ⟨by rw [q1]; rfl, by rw [e1, show y = .str (tS x) from h1, q2]; rfl⟩
theorem ints_rep {c : Cn} {G : Hp} : ∀ {l : List D} {xs : List V} {zs : List Int}, intsOf l = some zs → Reps c G l xs → l = zs.map D.int ∧ xs = zs.map V.int
  | [], xs, zs, e, r => by cases e; exact ⟨rfl, r⟩
  | .int x :: l, xs, zs, e, ⟨y, r, e1, h1, h2⟩ => by
    obtain ⟨zs', hz, rfl⟩ := Option.map_eq_some_iff.mp e
    obtain ⟨q1, q2⟩ := ints_rep hz h2
    exact ⟨by rw [q1]; rfl, by rw [e1, show y = .int x from h1, q2]; rfl⟩
theorem insD_perm (le : D → D → Bool) (x : D) : ∀ l : List D, (insD le x l).Perm (x :: l)
  | [] => .refl _
  | y :: r => by
    unfold insD
    split
    · exact .refl _
    · exact ((insD_perm le x r).cons y).trans (.swap x y r)
theorem sortBy_perm (le : D → D → Bool) : ∀ l : List D, (sortBy le l).Perm l
  | [] => .refl _
  | x :: r => (insD_perm le x _).trans ((sortBy_perm le r).cons x)
theorem insD_sorted {α : Type} {f : α → D} {le : D → D → Bool} (tot : ∀ a b : α, le (f a) (f b) = true ∨ le (f b) (f a) = true) (tr : ∀ a b e : α, le (f a) (f b) = true → le (f b) (f e) = true → le (f a) (f e) = true)
    (x : D) (l : List D) (hx : ∃ a, x = f a) (hl : ∀ y ∈ l, ∃ a, y = f a) (h : l.Pairwise fun a b => le a b = true) : (insD le x l).Pairwise fun a b => le a b = true := by
  induction l with
  | nil => exact List.pairwise_singleton _ _
  | cons y r ih =>
    obtain ⟨a, rfl⟩ := hx
    obtain ⟨b, hb⟩ := hl y (by simp)
    subst hb
    rw [List.pairwise_cons] at h
    unfold insD
    split
    · rename_i q
      refine List.pairwise_cons.mpr ⟨fun z hz => ?_, List.pairwise_cons.mpr h⟩
      rcases List.mem_cons.mp hz with rfl | hz
      · exact q
      · obtain ⟨e, rfl⟩ := hl z (by simp [hz])
        exact tr a b e q (h.1 _ hz)
    · rename_i q
      refine List.pairwise_cons.mpr ⟨fun z hz => ?_, ih (fun y hy => hl y (by simp [hy])) h.2⟩
      rcases List.mem_cons.mp ((insD_perm le _ r).mem_iff.mp hz) with rfl | hz
      · exact (tot b a).resolve_right q
      · exact h.1 z hz
theorem sortBy_sorted {α : Type} {f : α → D} {le : D → D → Bool} (tot : ∀ a b : α, le (f a) (f b) = true ∨ le (f b) (f a) = true) (tr : ∀ a b e : α, le (f a) (f b) = true → le (f b) (f e) = true → le (f a) (f e) = true) :
    ∀ l : List D, (∀ y ∈ l, ∃ a, y = f a) → (sortBy le l).Pairwise fun a b => le a b = true
  | [], _ => List.Pairwise.nil
  | x :: r, h => insD_sorted tot tr x _ (h x (by simp)) (fun y hy => h y (by simp [(sortBy_perm le r).mem_iff.mp hy])) (sortBy_sorted tot tr r fun y hy => h y (by simp [hy]))
theorem leD_int (a b : Int) : leD (.int a) (.int b) = decide (a ≤ b) := by
  simp only [leD, D.ltv]
  by_cases h : b < a
  · rw [decide_eq_true h]; simp; omega
  · rw [decide_eq_false h]; simp; omega
theorem leD_str (a b : List Nat) : leD (.str a) (.str b) = !decide (b < a) := by
  simp only [leD, D.ltv]
  cases decide (b < a) <;> rfl
theorem sort_ints {ns ns' : List Int} (hp : ns'.Perm ns) (hs : ns'.Pairwise (· ≤ ·)) : sortBy leD (ns.map D.int) = ns'.map D.int := by
  have tot : ∀ a b : Int, leD (.int a) (.int b) = true ∨ leD (.int b) (.int a) = true := fun a b => by
    rw [leD_int, leD_int, decide_eq_true_eq, decide_eq_true_eq]; omega
  have tr : ∀ a b e : Int, leD (.int a) (.int b) = true → leD (.int b) (.int e) = true → leD (.int a) (.int e) = true := fun a b e => by
    rw [leD_int, leD_int, leD_int, decide_eq_true_eq, decide_eq_true_eq, decide_eq_true_eq]; omega
  refine List.Perm.eq_of_pairwise (le := fun a b => leD a b = true) (fun a b ha hb h1 h2 => ?_) (sortBy_sorted tot tr _ fun y hy => ?_) ?_ ((sortBy_perm leD _).trans (hp.symm.map _))
  · obtain ⟨x, _, rfl⟩ := List.mem_map.mp ((sortBy_perm leD _).mem_iff.mp ha)
    obtain ⟨y, _, rfl⟩ := List.mem_map.mp hb
    rw [leD_int, decide_eq_true_eq] at h1 h2
    have : x = y := by omega
    rw [this]
  · obtain ⟨x, _, rfl⟩ := List.mem_map.mp hy
    exact ⟨x, rfl⟩
  · rw [List.pairwise_map]
    exact hs.imp fun h => by rw [leD_int, decide_eq_true_eq]; exact h
theorem ltCps_eq : ∀ a b : List Nat, PySem.Spec.ltCps a b = decide (a < b)
  | [], [] => rfl
  | [], _ :: _ => by simp [PySem.Spec.ltCps]
  | _ :: _, [] => by simp [PySem.Spec.ltCps]
  | a :: as, b :: bs => by
    simp only [PySem.Spec.ltCps, ltCps_eq as bs]
    rw [Bool.eq_iff_iff]
    simp [List.cons_lt_cons_iff]
theorem rising_pw : ∀ (r : List Str) (p : Str), PyProof.Rows.risingS p r = true → (p :: r).Pairwise fun a b => ¬ b.cps.toList < a.cps.toList
  | [], p, _ => List.pairwise_singleton _ _
  | x :: r, p, h => by
    unfold PyProof.Rows.risingS at h
    rw [Bool.and_eq_true, Bool.not_eq_true', ltCps_eq, decide_eq_false_iff_not] at h
    have ih := rising_pw r x h.2
    refine List.pairwise_cons.mpr ⟨fun z hz => ?_, ih⟩
    rcases List.mem_cons.mp hz with rfl | hz
    · exact h.1
    · have h2 := (List.pairwise_cons.mp ih).1 z hz
      rw [List.not_lt] at h2 ⊢
      exact List.le_trans (List.not_lt.mp h.1) h2
theorem sort_strs {zs : List (List Nat)} {ys : List Str} (hp : ys.Perm (zs.map tS)) (hs : PyProof.Rows.sortedS ys = true) : sortBy leD (zs.map D.str) = ys.map fun y => D.str y.cps.toList := by
  have tot : ∀ a b : List Nat, leD (.str a) (.str b) = true ∨ leD (.str b) (.str a) = true := fun a b => by
    rw [leD_str, leD_str, Bool.not_eq_true', Bool.not_eq_true', decide_eq_false_iff_not, decide_eq_false_iff_not, List.not_lt, List.not_lt]
    exact List.le_total a b
  have tr : ∀ a b e : List Nat, leD (.str a) (.str b) = true → leD (.str b) (.str e) = true → leD (.str a) (.str e) = true := fun a b e => by
    rw [leD_str, leD_str, leD_str, Bool.not_eq_true', Bool.not_eq_true', Bool.not_eq_true', decide_eq_false_iff_not, decide_eq_false_iff_not, decide_eq_false_iff_not, List.not_lt, List.not_lt, List.not_lt]
    exact List.le_trans
  refine List.Perm.eq_of_pairwise (le := fun a b => leD a b = true) (fun a b ha hb h1 h2 => ?_) (sortBy_sorted tot tr _ fun y hy => ?_) ?_ ((sortBy_perm leD _).trans ?_)
  · obtain ⟨x, _, rfl⟩ := List.mem_map.mp ((sortBy_perm leD _).mem_iff.mp ha)
    obtain ⟨y, _, rfl⟩ := List.mem_map.mp hb
    rw [leD_str, Bool.not_eq_true', decide_eq_false_iff_not, List.not_lt] at h1 h2
    rw [List.le_antisymm h1 h2]
  · obtain ⟨x, _, rfl⟩ := List.mem_map.mp hy
    exact ⟨x, rfl⟩
  · rw [List.pairwise_map]
    have key : ys.Pairwise fun a b => ¬ b.cps.toList < a.cps.toList := by
      cases ys with
      | nil => exact List.Pairwise.nil
      | cons y r => exact rising_pw r y hs
    exact key.imp fun h => by rw [leD_str, Bool.not_eq_true', decide_eq_false_iff_not]; exact h
  · have h := (hp.symm.map fun y : Str => D.str y.cps.toList)
    rw [List.map_map] at h
    have e : (fun y : Str => D.str y.cps.toList) ∘ tS = D.str := by
      funext z
      simp [tS]
    rw [e] at h
    exact h
theorem reps_strs {c : Cn} {G : Hp} : ∀ ys : List Str, Reps c G (ys.map fun y => D.str y.cps.toList) (ys.map V.str)
  | [] => rfl
  | y :: ys => ⟨.str y, ys.map V.str, rfl, by show V.str y = V.str (tS _); rw [tS_of], reps_strs ys⟩
theorem reps_ints {c : Cn} {G : Hp} : ∀ ys : List Int, Reps c G (ys.map D.int) (ys.map V.int)
  | [] => rfl
  | y :: ys => ⟨.int y, ys.map V.int, rfl, rfl, reps_ints ys⟩
theorem p_sorted : CallR X (.builtin "sorted") (rP (cn X cls) .sorted) := by
  refine CallR.imp (cr_sorted.or cr_sortedS) ?_
  intro xs H Q ⟨G, ds, s, d, gh, fl, e, q⟩
  simp only [prim] at e
  split at e
  · rename_i l
    obtain ⟨x, rfl, a, ys, rfl, h3, h4⟩ := Flats.one fl
    split at e
    · rename_i zs hz
      split at e
      · rename_i hl
        cases e
        obtain ⟨q1, q2⟩ := strs_rep hz h4
        refine .inr ⟨a, zs.map tS, rfl, SqL.of (by rw [h3, q2]), by rw [q1] at hl; simpa using hl, fun ys p hp hs hn => ?_⟩
        rw [q1, sort_strs hp hs] at q
        exact q.lst gh (reps_strs ys) p hn
      · cases e
    · rename_i zs hz _
      split at e
      · rename_i hl
        cases e
        obtain ⟨q1, q2⟩ := ints_rep hz h4
        refine .inl ⟨a, zs, rfl, SqL.of (by rw [h3, q2]), by rw [q1] at hl; simpa using hl, fun ys p hp hs hn => ?_⟩
        rw [q1, sort_ints hp hs] at q
        exact q.lst gh (reps_ints ys) p hn
      · cases e
    · cases e
  · cases e
end
end Rl
set_option Elab.async false
set_option linter.all false
set_option maxRecDepth 100000
set_option autoImplicit false
/-! Roundlines: dicts. -/
namespace Rl
open PySem L2

def keyL : D → Key
  | .int i => .inl i
  | .str x => .inr (tS x)
  | _ => .inl 0
def leafV : D → V
  | .int i => .int i
  | .str x => .str (tS x)
  | _ => .non
theorem eqk_leaf {a b : D} (ha : a.leaf = true) (hb : b.leaf = true) : D.eqk a b = decide (keyL a = keyL b) := by
  cases a with
  | int i => cases b with
    | int j =>
      show decide (i = j) = decide ((Sum.inl i : Key) = Sum.inl j)
      rw [key_ll]
      by_cases e : i = j
      · subst e; simp
      · rw [decide_eq_false e]; exact (beq_eq_false_iff_ne.mpr e).symm
    | str y => rw [show keyL (.int i) = .inl i from rfl, show keyL (.str y) = .inr (tS y) from rfl, key_lr]; rfl
    | _ => cases hb
  | str x => cases b with
    | int j => rw [show keyL (.int j) = .inl j from rfl, show keyL (.str x) = .inr (tS x) from rfl, key_rl]; rfl
    | str y =>
      show decide (x = y) = decide ((Sum.inr (tS x) : Key) = Sum.inr (tS y))
      rw [key_rr]
      by_cases e : x = y
      · subst e; simp
      · rw [decide_eq_false e, decide_eq_false fun z => e (tS_inj z)]
    | _ => cases hb
  | _ => cases ha
mutual
theorem eqk_key : ∀ {a b : D}, a.isKey = true → b.isKey = true → D.eqk a b = NestedKey.beq (nk a) (nk b)
  | .non, b, _, hb => by cases b <;> first | rfl | cases hb
  | .int i, b, _, hb => by cases b <;> first | rfl | cases hb
  | .str x, b, _, hb => by
    cases b with
    | str y =>
      simp only [D.eqk, nk, NestedKey.beq]
      by_cases e : x = y
      · subst e; simp
      · rw [decide_eq_false e, decide_eq_false fun z => e (tS_inj z)]
    | _ => first | rfl | cases hb
  | .tup l, b, ha, hb => by
    cases b with
    | tup m =>
      simp only [D.eqk, nk, NestedKey.beq]
      exact eqks_key ha hb
    | _ => first | rfl | cases hb
  | .bl _, _, ha, _ => by cases ha
  | .lst _, _, ha, _ => by cases ha
  | .dct _ _, _, ha, _ => by cases ha
  | .exc _, _, ha, _ => by cases ha
  | .scr _, _, ha, _ => by cases ha
theorem eqks_key : ∀ {a b : List D}, D.areKeys a = true → D.areKeys b = true → D.eqks a b = NestedKey.beqAll (nks a) (nks b)
  | [], [], _, _ => rfl
  | [], _ :: _, _, _ => rfl
  | _ :: _, [], _, _ => rfl
  | x :: xs, y :: ys, ha, hb => by
    simp only [D.areKeys, Bool.and_eq_true] at ha hb
    simp only [D.eqks, nks, NestedKey.beqAll]
    rw [eqk_key ha.1 hb.1, eqks_key ha.2 hb.2]
end
mutual
theorem depth_nk : ∀ {a : D}, a.isKey = true → (nk a).depth = a.depth
  | .non, _ => rfl
  | .int i, _ => rfl
  | .str x, _ => rfl
  | .tup l, ha => by simp only [nk, NestedKey.depth, D.depth]; rw [depths_nk ha]
  | .bl _, ha => by cases ha
  | .lst _, ha => by cases ha
  | .dct _ _, ha => by cases ha
  | .exc _, ha => by cases ha
  | .scr _, ha => by cases ha
theorem depths_nk : ∀ {a : List D}, D.areKeys a = true → NestedKey.depthAll (nks a) = D.depths a
  | [], _ => rfl
  | x :: xs, ha => by
    simp only [D.areKeys, Bool.and_eq_true] at ha
    simp only [nks, NestedKey.depthAll, D.depths]
    rw [depth_nk ha.1, depths_nk ha.2]
end
theorem tk_of {x : D} (h : x.tk = true) : x.isTup = true ∧ x.isKey = true ∧ x.depth ≤ 8 := by
  simp only [D.tk, Bool.and_eq_true, decide_eq_true_eq] at h
  exact ⟨h.1.1, h.1.2, h.2⟩
theorem eqk_tk {a b : D} (ha : a.tk = true) (hb : b.tk = true) : D.eqk a b = decide (nk a = nk b) := by
  rw [NestedKey.decide_eq]; exact eqk_key (tk_of ha).2.1 (tk_of hb).2.1

/-! ### tables -/
section
variable {K : Type} [DecidableEq K] {f : D → K} {c : Cn} {G : Hp} {x : D}
def Apart (f : D → K) (ks : List D) (x : D) : Prop := ∀ k ∈ ks, D.eqk k x = decide (f k = f x)
theorem look_val : ∀ {ks vs : List D} {xs : List V} {kvs : List (K × Value)}, Apart f ks x → kvs.map (·.1) = ks.map f → Vals xs (kvs.map (·.2)) → Reps c G vs xs →
    match look ks vs x with
    | some d => ∃ v u, valueAt kvs (f x) = some u ∧ RelV v u ∧ Rep c G d v
    | none => valueAt kvs (f x) = none
  | [], vs, xs, kvs, ap, e, r, q => by
    have e1 : kvs = [] := by simpa using e
    subst e1
    have e2 : look [] vs x = none := by cases vs <;> rfl
    rw [e2]; rfl
  | k :: ks, vs, xs, kvs, ap, e, r, q => by
    match kvs, e, r with
    | [], e, _ => simp at e
    | (k', u) :: kvs, e, r =>
      simp only [List.map_cons, List.cons.injEq] at e
      rw [List.map_cons] at r
      cases r with
      | @cons v _ vs' _ r1 r2 =>
        match vs, q with
        | [], q => cases q
        | d :: ds, ⟨v', r', e', h1, h2⟩ =>
          cases e'
          have hk := ap k (by simp)
          have ih := look_val (ks := ks) (vs := ds) (kvs := kvs) (fun z hz => ap z (by simp [hz])) e.2 r2 h2
          rw [← e.1] at hk
          by_cases z : k' = f x
          · rw [decide_eq_true z] at hk
            simp only [look, hk]
            exact ⟨v, u, by simp [valueAt, z], r1, h1⟩
          · rw [decide_eq_false z] at hk
            simp only [look, hk]
            have e3 : valueAt ((k', u) :: kvs) (f x) = valueAt kvs (f x) := by simp [valueAt, z]
            rw [e3]; exact ih
theorem any_val : ∀ {ks : List D} {kvs : List (K × Value)}, Apart f ks x → kvs.map (·.1) = ks.map f → (ks.any fun k => D.eqk k x) = (valueAt kvs (f x)).isSome
  | [], kvs, ap, e => by
    have e1 : kvs = [] := by simpa using e
    subst e1; rfl
  | k :: ks, kvs, ap, e => by
    match kvs, e with
    | [], e => simp at e
    | (k', u) :: kvs, e =>
      simp only [List.map_cons, List.cons.injEq] at e
      have hk := ap k (by simp)
      rw [← e.1] at hk
      rw [List.any_cons, hk, any_val (fun z hz => ap z (by simp [hz])) e.2]
      by_cases z : k' = f x
      · simp [valueAt, z]
      · have e3 : valueAt ((k', u) :: kvs) (f x) = valueAt kvs (f x) := by simp [valueAt, z]
        rw [e3, decide_eq_false z]; rfl
theorem stored_pos {k : K} {u u' : Value} {r : List (K × Value)} (hn : k ∉ r.map (·.1)) : stored ((k, u') :: r) k u = (k, u) :: r := by
  unfold stored
  rw [List.any_cons, decide_eq_true rfl, Bool.true_or, if_pos rfl, List.map_cons, if_pos rfl]
  congr 1
  have : ∀ p ∈ r, (if p.1 = k then (p.1, u) else p) = p := fun p hp => if_neg fun z => hn (List.mem_map.mpr ⟨p, hp, z⟩)
  exact (List.map_congr_left this).trans (List.map_id' r)
theorem stored_neg {k k' : K} {u u' : Value} {r : List (K × Value)} (h : k' ≠ k) : stored ((k', u') :: r) k u = (k', u') :: stored r k u := by
  unfold stored
  rw [List.any_cons, decide_eq_false h, Bool.false_or]
  split
  · rw [List.map_cons, if_neg h]
  · rfl
theorem put_val {d : D} {v : V} {u : Value} (rv : RelV v u) (rd : Rep c G d v) : ∀ {ks vs : List D} {xs : List V} {kvs : List (K × Value)}, Apart f ks x → kvs.map (·.1) = ks.map f → (kvs.map (·.1)).Nodup → Vals xs (kvs.map (·.2)) → Reps c G vs xs →
    (stored kvs (f x) u).map (·.1) = (putK ks x).map f ∧ ∃ xs', Vals xs' ((stored kvs (f x) u).map (·.2)) ∧ Reps c G (putV ks vs x d) xs'
  | [], vs, xs, kvs, ap, e, hn, r, q => by
    have e1 : kvs = [] := by simpa using e
    subst e1
    cases r
    have e2 : vs = [] := by cases vs with
      | nil => rfl
      | cons a b => obtain ⟨_, _, z, _⟩ := q; cases z
    subst e2
    exact ⟨rfl, [v], .cons rv .nil, Reps.one rd⟩
  | k :: ks, vs, xs, kvs, ap, e, hn, r, q => by
    match kvs, e, r, hn with
    | [], e, _, _ => simp at e
    | (k', u') :: kvs, e, r, hn =>
      simp only [List.map_cons, List.cons.injEq] at e
      rw [List.map_cons, List.nodup_cons] at hn
      rw [List.map_cons] at r
      cases r with
      | @cons v' _ vs' _ r1 r2 =>
        match vs, q with
        | [], q => cases q
        | d' :: ds, ⟨v'', r', e', h1, h2⟩ =>
          cases e'
          have hk := ap k (by simp)
          rw [← e.1] at hk
          by_cases z : k' = f x
          · rw [decide_eq_true z] at hk
            simp only [putK, putV, hk]
            subst z
            rw [stored_pos hn.1]
            exact ⟨by rw [List.map_cons, List.map_cons, e.2, ← e.1], v :: vs', .cons rv r2, v, vs', rfl, rd, h2⟩
          · rw [decide_eq_false z] at hk
            simp only [putK, putV, hk]
            rw [stored_neg z]
            obtain ⟨i1, xs', i2, i3⟩ := put_val rv rd (ks := ks) (vs := ds) (kvs := kvs) (fun z hz => ap z (by simp [hz])) e.2 hn.2 r2 h2
            exact ⟨by rw [List.map_cons, List.map_cons, i1, ← e.1], v' :: xs', .cons r1 i2, v', xs', rfl, h1, i3⟩
end
theorem length_putK (x : D) : ∀ ks : List D, (putK ks x).length ≤ ks.length + 1
  | [] => by simp [putK]
  | k :: ks => by
    unfold putK
    split
    · simp
    · simp only [List.length_cons]; have := length_putK x ks; omega

/-! ### from the abstract heap to the dict, and back -/
section
variable {X : Cx} {cls : String → Addr} {pins : List (Addr × Obj)} {σ : St} {G H : Hp} {s : Shared} {a : Addr} {o : Obj}
theorem dict_get (I : Inv X pins σ H s) (h : DictAt X.K H a o) : s.heap.get? a = some o := by
  rcases h.1 with e | e
  · exact (I.hok a _ e).1
  · exact I.kIn a o e
theorem leaf_pairs {P : Program} {w : World} {c : Cn} (hc : c.w = w) : ∀ {ks : List D} {ys xs : List V} {es : List DictEntry}, ks.all D.leaf = true → Reps c G ks ys → Vals ys (es.map (·.key)) → Vals xs (es.map (·.val)) → es.map (·.hash) = ks.map (fun k => (nk k).hash c.w) →
    ∃ kvs : List (Key × Value), Pairs (mixKind P w) es kvs ∧ kvs.map (·.1) = ks.map keyL ∧ Vals xs (kvs.map (·.2)) ∧ ∀ e ∈ es, ∃ k, (mixKind P w).is k e.key = true ∧ e.hash = (mixKind P w).hash k
  | [], ys, xs, es, _, r, vk, vv, hh => by
    have e : es = [] := by simpa using hh
    subst e
    cases vv
    exact ⟨[], .nil, rfl, .nil, fun _ h => nomatch h⟩
  | k :: ks, ys, xs, es, hl, ⟨y, ys', ey, h1, h2⟩, vk, vv, hh => by
    match es, vk, vv, hh with
    | [], vk, _, _ => rw [ey] at vk; cases vk
    | e :: es, vk, vv, hh =>
      rw [ey, List.map_cons] at vk
      rw [List.map_cons] at vv
      simp only [List.map_cons, List.cons.injEq] at hh
      rw [List.all_cons, Bool.and_eq_true] at hl
      cases vk with
      | cons k1 k2 =>
        cases vv with
        | @cons v _ vs' _ v1 v2 =>
          obtain ⟨kvs, p1, p2, p3, p4⟩ := leaf_pairs (P := P) hc hl.2 h2 k2 v2 hh.2
          have hi : (mixKind P w).is (keyL k) e.key = true ∧ e.hash = (mixKind P w).hash (keyL k) := by
            rw [hh.1, hc]
            cases k with
            | int i =>
              have e1 : y = .int i := h1
              subst e1
              obtain ⟨t, e2⟩ := k1
              rw [e2]
              exact ⟨mixKind_int P w i t, rfl⟩
            | str z =>
              have e1 : y = .str (tS z) := h1
              subst e1
              obtain ⟨t, e2⟩ := k1
              rw [e2]
              exact ⟨mixKind_str P w _ t, rfl⟩
            | _ => cases hl.1
          refine ⟨(keyL k, e.val) :: kvs, .cons hi.1 rfl p1, by rw [List.map_cons, List.map_cons, p2], by rw [List.map_cons]; exact .cons v1 p3, fun e' he' => ?_⟩
          rcases List.mem_cons.mp he' with rfl | he'
          · exact ⟨_, hi⟩
          · exact p4 e' he'
theorem keyL_inj {a b : D} (ha : a.leaf = true) (hb : b.leaf = true) (h : keyL a = keyL b) : a = b := by
  cases a with
  | int i => cases b with
    | int j => rw [show i = j from Sum.inl.inj h]
    | str y => cases h
    | _ => cases hb
  | str x => cases b with
    | int j => cases h
    | str y => rw [show x = y from tS_inj (Sum.inr.inj h)]
    | _ => cases hb
  | _ => cases ha
theorem nodup_map {α β : Type} {f : α → β} : ∀ {l : List α}, (∀ a ∈ l, ∀ b ∈ l, f a = f b → a = b) → l.Nodup → (l.map f).Nodup
  | [], _, _ => List.nodup_nil
  | x :: l, hi, hn => by
    rw [List.nodup_cons] at hn
    rw [List.map_cons, List.nodup_cons]
    refine ⟨fun h => ?_, nodup_map (fun a ha b hb => hi a (by simp [ha]) b (by simp [hb])) hn.2⟩
    obtain ⟨y, hy, e⟩ := List.mem_map.mp h
    exact hn.1 (hi y (by simp [hy]) x (by simp) e ▸ hy)
theorem nodup_of_map {α β : Type} {f : α → β} {l : List α} (h : (l.map f).Nodup) : l.Nodup := by
  induction l with
  | nil => exact List.nodup_nil
  | cons x l ih =>
    rw [List.map_cons, List.nodup_cons] at h
    rw [List.nodup_cons]
    exact ⟨fun z => h.1 (List.mem_map.mpr ⟨x, z, rfl⟩), ih h.2⟩
theorem dict_leaf {ks : List D} {ys xs : List V} (I : Inv X pins σ H s) (h : DictAt X.K H a o) (d : DObj (cn X cls) o ks ys xs) (r : Reps (cn X cls) G ks ys) (hl : ks.all D.leaf = true) :
    ∃ kvs : List (Key × Value), s.heap.DictOf (mixKind X.prog X.w) a kvs ∧ kvs.map (·.1) = ks.map keyL ∧ Vals xs (kvs.map (·.2)) := by
  obtain ⟨hx, hz, es, ep, e, h1, h2, h3, h4⟩ := d
  obtain ⟨kvs, p1, p2, p3, p4⟩ := leaf_pairs (P := X.prog) (w := X.w) rfl hl r h1 h2 h3
  refine ⟨kvs, ⟨o, es, ep, dict_get I h, hx, e, fun z hz => p4 z (by simpa using hz), p1, ?_⟩, p2, p3⟩
  rw [p2]
  rw [List.all_eq_true] at hl
  exact nodup_map (fun a ha b hb => keyL_inj (hl a ha) (hl b hb)) h4
theorem reps_leaf {c : Cn} : ∀ {ks : List D}, ks.all D.leaf = true → Reps c G ks (ks.map leafV)
  | [], _ => rfl
  | k :: ks, h => by
    rw [List.all_cons, Bool.and_eq_true] at h
    refine ⟨leafV k, ks.map leafV, rfl, ?_, reps_leaf h.2⟩
    cases k with
    | int i => rfl
    | str x => rfl
    | _ => cases h.1
theorem pairs_leaf {P : Program} {w : World} {es : List DictEntry} {kvs : List (Key × Value)} (p : Pairs (mixKind P w) es kvs) (hk : ∀ e ∈ es, ∃ k, (mixKind P w).is k e.key = true ∧ e.hash = (mixKind P w).hash k) :
    ∀ {ks : List D}, ks.all D.leaf = true → kvs.map (·.1) = ks.map keyL → Vals (ks.map leafV) (es.map (·.key)) ∧ es.map (·.val) = kvs.map (·.2) ∧ es.map (·.hash) = ks.map (fun k => (nk k).hash w) := by
  induction p with
  | nil =>
    intro ks _ e
    have e1 : ks = [] := by simpa using e.symm
    subst e1
    exact ⟨.nil, rfl, rfl⟩
  | @cons e kv es kvs h1 h2 _ ih =>
    intro ks hl q
    match ks, hl, q with
    | [], _, q => simp at q
    | k :: ks, hl, q =>
      simp only [List.map_cons, List.cons.injEq] at q
      rw [List.all_cons, Bool.and_eq_true] at hl
      obtain ⟨i1, i2, i3⟩ := ih (fun z hz => hk z (by simp [hz])) hl.2 q.2
      obtain ⟨k0, k1, k2⟩ := hk e (by simp)
      have e0 : k0 = kv.1 := (mixKind P w).inj _ _ _ k1 h1
      rw [q.1] at h1 e0
      subst e0
      refine ⟨?_, by rw [List.map_cons, List.map_cons, h2, i2], ?_⟩
      · rw [List.map_cons, List.map_cons]
        refine .cons ?_ i1
        cases k with
        | int i =>
          rcases keyIs_shape (show keyIs (Sum.inl i) e.key = true from h1) with ⟨j, t, q1, q2⟩ | ⟨y, t, q1, q2⟩
          · cases q1; exact ⟨t, q2⟩
          · cases q1
        | str x =>
          rcases keyIs_shape (show keyIs (Sum.inr (tS x)) e.key = true from h1) with ⟨j, t, q1, q2⟩ | ⟨y, t, q1, q2⟩
          · cases q1
          · cases q1; exact ⟨t, q2⟩
        | _ => cases hl.1
      · rw [List.map_cons, List.map_cons, i3, k2]
        congr 1
        cases k with
        | int i => rfl
        | str x => rfl
        | _ => cases hl.1
theorem dobj_leaf {h' : Heap} {ks : List D} {xs : List V} {kvs : List (Key × Value)} (dd : h'.DictOf (mixKind X.prog X.w) a kvs) (e : kvs.map (·.1) = ks.map keyL) (hl : ks.all D.leaf = true) (hz : ks.length ≤ sizeLine) (hv : Vals xs (kvs.map (·.2))) :
    ∃ o, h'.get? a = some o ∧ DObj (cn X cls) o ks (ks.map leafV) xs := by
  obtain ⟨o, es, ep, ho, hx, hd, hk, hp, hn⟩ := dd
  obtain ⟨p1, p2, p3⟩ := pairs_leaf hp (fun e he => hk e (by simpa using he)) hl e
  refine ⟨o, ho, hx, hz, es, ep, hd, p1, by rw [p2]; exact hv, p3, ?_⟩
  rw [e] at hn
  exact nodup_of_map hn

/-! keys that are tuples -/
mutual
theorem nested_of (I : Inv X pins σ H s) (gh : Same G H) : ∀ (d : D) (v : V) (u : Value), d.isKey = true → Rep (cn X cls) G d v → RelV v u → NestedIs s.heap (nk d) u
  | .non, v, u, _, h, r => by rw [show v = .non from h] at r; rw [show u = .none from r]; exact .none
  | .int i, v, u, _, h, r => by rw [show v = .int i from h] at r; obtain ⟨t, e⟩ := r; rw [e]; exact .int i t
  | .str x, v, u, _, h, r => by rw [show v = .str (tS x) from h] at r; obtain ⟨t, e⟩ := r; rw [e]; exact .text _ t
  | .tup l, v, u, hk, ⟨a, xs, e, h1, h2⟩, r => by
    subst e
    rw [show u = .ref a from r]
    obtain ⟨its, q1, ⟨o, q2, q3, n, q4⟩, _⟩ := I.tuple (Same.sqT gh h1)
    exact .tup q2 q3 q4 (by simpa using nested_all I gh l xs its hk h2 q1)
  | .bl _, _, _, ha, _, _ => by cases ha
  | .lst _, _, _, ha, _, _ => by cases ha
  | .dct _ _, _, _, ha, _, _ => by cases ha
  | .exc _, _, _, ha, _, _ => by cases ha
  | .scr _, _, _, ha, _, _ => by cases ha
theorem nested_all (I : Inv X pins σ H s) (gh : Same G H) : ∀ (l : List D) (xs : List V) (us : List Value), D.areKeys l = true → Reps (cn X cls) G l xs → Vals xs us → NestedAll s.heap (nks l) us
  | [], xs, us, _, h, r => by rw [show xs = [] from h] at r; cases r; exact .nil
  | d :: ds, xs, us, hk, ⟨x, r', e, h1, h2⟩, r => by
    subst e
    simp only [D.areKeys, Bool.and_eq_true] at hk
    cases r with
    | cons r1 r2 => exact .cons (nested_of I gh d x _ hk.1 h1 r1) (nested_all I gh ds _ _ hk.2 h2 r2)
end
theorem tk_ref {c : Cn} {d : D} {v : V} (h : d.tk = true) (r : Rep c G d v) : ∃ b, v = .ref b := by
  cases d with
  | tup l => obtain ⟨b, xs, e, _⟩ := r; exact ⟨b, e⟩
  | _ => cases (tk_of h).1
theorem key_is (I : Inv X pins σ H s) (gh : Same G H) {d : D} {b : Addr} (h : d.tk = true) (r : Rep (cn X cls) G d (.ref b)) : (nestedKind X.prog X.w).is s.heap (nk d) b := by
  obtain ⟨h1, h2, h3⟩ := tk_of h
  exact ⟨nested_of I gh d _ _ h2 r rfl, by rw [depth_nk h2]; exact h3⟩
theorem tup_entries (I : Inv X pins σ H s) (gh : Same G H) : ∀ {ks : List D} {ys xs : List V} {es : List DictEntry}, ks.all D.tk = true → Reps (cn X cls) G ks ys → Vals ys (es.map (·.key)) → Vals xs (es.map (·.val)) → es.map (·.hash) = ks.map (fun k => (nk k).hash X.w) →
    ∃ zs : List (NestedKey × Addr × Value), es = zs.map (entryOfKey (nestedKind X.prog X.w)) ∧ zs.map (·.1) = ks.map nk ∧ Vals xs (zs.map (·.2.2)) ∧ ys = zs.map (fun z => V.ref z.2.1) ∧ ∀ z ∈ zs, (nestedKind X.prog X.w).is s.heap z.1 z.2.1
  | [], ys, xs, es, _, r, vk, vv, hh => by
    have e : es = [] := by simpa using hh
    subst e
    cases vv
    exact ⟨[], rfl, rfl, .nil, r, fun _ h => nomatch h⟩
  | k :: ks, ys, xs, es, hl, ⟨y, ys', ey, h1, h2⟩, vk, vv, hh => by
    match es, vk, vv, hh with
    | [], vk, _, _ => rw [ey] at vk; cases vk
    | e :: es, vk, vv, hh =>
      rw [ey, List.map_cons] at vk
      rw [List.map_cons] at vv
      simp only [List.map_cons, List.cons.injEq] at hh
      rw [List.all_cons, Bool.and_eq_true] at hl
      cases vk with
      | cons k1 k2 =>
        cases vv with
        | @cons v _ vs' _ v1 v2 =>
          obtain ⟨zs, p1, p2, p3, p4, p5⟩ := tup_entries I gh hl.2 h2 k2 v2 hh.2
          obtain ⟨b, rfl⟩ := tk_ref hl.1 h1
          have ek : e.key = .ref b := k1
          refine ⟨(nk k, b, e.val) :: zs, ?_, by rw [List.map_cons, List.map_cons, p2], by rw [List.map_cons]; exact .cons v1 p3, by rw [ey, List.map_cons, p4], fun z hz => ?_⟩
          · rw [List.map_cons, ← p1]
            congr 1
            obtain ⟨e1, e2, e3⟩ := e
            simp only at ek hh
            subst ek
            rw [show e1 = (nk k).hash X.w from hh.1]
            rfl
          · rcases List.mem_cons.mp hz with rfl | hz
            · exact key_is I gh hl.1 h1
            · exact p5 z hz
theorem nk_inj {a b : D} (ha : a.isKey = true) (hb : b.isKey = true) (h : nk a = nk b) : a = b := by
  have e : D.eqk a b = true := by rw [eqk_key ha hb, h]; exact NestedKey.beq_self _
  exact eqk_eq a b e
where
  eqk_eq : ∀ (a b : D), D.eqk a b = true → a = b := fun a b h => D_eq a b h
  D_eq : ∀ (a b : D), D.eqk a b = true → a = b
    | .non, b, h => by cases b <;> first | rfl | cases h
    | .bl x, b, h => by cases b <;> first | (simp only [D.eqk, beq_iff_eq] at h; rw [h]) | cases h
    | .int x, b, h => by cases b <;> first | (simp only [D.eqk, decide_eq_true_eq] at h; rw [h]) | cases h
    | .str x, b, h => by cases b <;> first | (simp only [D.eqk, decide_eq_true_eq] at h; rw [h]) | cases h
    | .tup x, b, h => by cases b <;> first | (simp only [D.eqk] at h; rw [Ds_eq _ _ h]) | cases h
    | .lst x, b, h => by cases b <;> first | (simp only [D.eqk] at h; rw [Ds_eq _ _ h]) | cases h
    | .dct x y, b, h => by cases b <;> first | (simp only [D.eqk, Bool.and_eq_true] at h; rw [Ds_eq _ _ h.1, Ds_eq _ _ h.2]) | cases h
    | .exc x, b, h => by cases b <;> first | (simp only [D.eqk, decide_eq_true_eq] at h; rw [h]) | cases h
    | .scr x, b, h => by cases b <;> first | (simp only [D.eqk, decide_eq_true_eq] at h; rw [h]) | cases h
  Ds_eq : ∀ (a b : List D), D.eqks a b = true → a = b
    | [], [], _ => rfl
    | [], _ :: _, h => by cases h
    | _ :: _, [], h => by cases h
    | x :: xs, y :: ys, h => by
      simp only [D.eqks, Bool.and_eq_true] at h
      rw [D_eq x y h.1, Ds_eq xs ys h.2]
theorem dict_tup {ks : List D} {ys xs : List V} (I : Inv X pins σ H s) (gh : Same G H) (h : DictAt X.K H a o) (d : DObj (cn X cls) o ks ys xs) (r : Reps (cn X cls) G ks ys) (hl : ks.all D.tk = true) :
    ∃ zs : List (NestedKey × Addr × Value), s.heap.DictOfH (nestedKind X.prog X.w) a zs ∧ zs.map (·.1) = ks.map nk ∧ Vals xs (zs.map (·.2.2)) ∧ ys = zs.map (fun z => V.ref z.2.1) := by
  obtain ⟨hx, hz, es, ep, e, h1, h2, h3, h4⟩ := d
  obtain ⟨zs, p1, p2, p3, p4, p5⟩ := tup_entries I gh hl r h1 h2 h3
  refine ⟨zs, ⟨o, es, ep, dict_get I h, hx, e, p1, p5, ?_⟩, p2, p3, p4⟩
  rw [p2]
  rw [List.all_eq_true] at hl
  exact nodup_map (fun a ha b hb => nk_inj (tk_of (hl a ha)).2.1 (tk_of (hl b hb)).2.1) h4
theorem dobj_tup {h' : Heap} {ks : List D} {xs : List V} {zs : List (NestedKey × Addr × Value)} (dd : h'.DictOfH (nestedKind X.prog X.w) a zs) (e : zs.map (·.1) = ks.map nk) (hz : ks.length ≤ sizeLine) (hv : Vals xs (zs.map (·.2.2))) :
    ∃ o, h'.get? a = some o ∧ DObj (cn X cls) o ks (zs.map fun z => V.ref z.2.1) xs := by
  obtain ⟨o, es, ep, ho, hx, hd, hk, hq, hn⟩ := dd
  rw [e] at hn
  refine ⟨o, ho, hx, hz, es, ep, hd, ?_, ?_, ?_, nodup_of_map hn⟩
  · rw [hk, List.map_map]
    clear hk hv hn e hq
    induction zs with
    | nil => exact .nil
    | cons z zs ih => exact .cons rfl ih
  · rw [hk, List.map_map]; exact hv
  · rw [hk, List.map_map]
    have : (zs.map ((fun e => e.hash) ∘ entryOfKey (nestedKind X.prog X.w))) = (zs.map (·.1)).map (fun k => k.hash X.w) := by rw [List.map_map]; rfl
    rw [this, e, List.map_map]
    rfl
end
end Rl
set_option Elab.async false
set_option linter.all false
set_option maxRecDepth 100000
set_option autoImplicit false
/-! Roundlines: what is done with dicts. -/
namespace Rl
open PySem L2

/-! ### by the entries -/
section
variable {prog : Program} {w : World} {A : Around} {E : Value → Shared → Prop} {s : Shared} {d : Addr} {es : Array DictEntry} {ep : Nat}
theorem len_raw {Q : Value → Shared → Prop} (hd : (d == sysModules) = false) (hm : s.heap.DictRaw d es ep) (hfit : es.size ≤ sizeLine)
    (h : Q (.int es.size (s.toks + 1)) { s with toks := s.toks + 1 + 1 }) : wpAny (model prog w) A (Builtin.«len» ⟨[.ref d], []⟩) (fun fin s' => ∃ r, fin = .done (.ret r) ∧ Q r s') E s := by
  have h63 := line63
  unfold Builtin.«len»
  refine wpAny_bind (m := oneArg "len" _) (wpAny_pure ?_)
  refine wpAny_bind (m := callSpecial? (.ref d) (Str.ofString "__len__")) (wpAny_callSpecial?_slot (name := Str.ofString "__len__") hm.typeIs F.slot_dict_len (call_len_raw hd hm ?_))
  show wpAny _ _ _ _ _ { s with toks := s.toks + 1 }
  refine wpAny_bind (wpAny_holding (wpAny_pure ?_))
  refine wpAny_bind (wpAny_letGo ?_)
  show wpAny _ _ (if ((es.size : Nat) : Int) < 0 then _ else _) _ _ _
  rw [if_neg (by omega)]
  show wpAny _ _ (if ((es.size : Nat) : Int) ≥ 2 ^ 63 then _ else _) _ _ _
  rw [if_neg (by omega)]
  exact wpAny_bind (wpAny_mkInt (wpAny_pure ⟨_, rfl, h⟩))
theorem lenCall_raw {Q : Value → Shared → Prop} (hd : (d == sysModules) = false) (hm : s.heap.DictRaw d es ep) (hfit : es.size ≤ sizeLine)
    (h : Q (.int es.size (s.toks + 1)) { s with toks := s.toks + 1 + 1 }) : wpAny (model prog w) A (call (.builtin "len") [.ref d]) Q E s :=
  Calls.call_function_entry kind_len plain_len entry_len (args_len1 _) (len_raw hd hm hfit h)
theorem truthy_raw {Q : Bool → Shared → Prop} (hd : (d == sysModules) = false) (hm : s.heap.DictRaw d es ep) (hfit : es.size ≤ sizeLine)
    (h : Q (decide (es.size ≠ 0)) { s with toks := s.toks + 1 + 1 }) : wpAny (model prog w) A (truthy (.ref d)) Q E s := by
  have hne : ((es.size : Int) != 0) = decide (es.size ≠ 0) := by
    by_cases z : es.size = 0
    · simp [z]
    · rw [decide_eq_true z]; simpa using z
  have key : wpAny (model prog w) A (runValue (.builtin "len" ⟨[.ref d], []⟩)) (fun r s' => r = .int es.size (s.toks + 1) ∧ Q (decide (es.size ≠ 0)) s') E s := by
    refine wpAny_runValue (codeAny_builtin entry_len ?_)
    rw [Around.under_plainId plain_len _]
    exact wpAny_mono (len_raw (Q := fun r s' => r = .int es.size (s.toks + 1) ∧ Q (decide (es.size ≠ 0)) s') hd hm hfit ⟨rfl, h⟩)
      (fun fin s' h' => by obtain ⟨r, rfl, hq⟩ := h'; exact hq) fun _ _ e => e
  unfold truthy
  first
    | refine wpAny_bind (wpAny_callSpecial?_none (name := Str.ofString "__bool__") hm.typeIs noBool_dict ?_)
    | refine wpAny_bind (wpAny_pure (wpAny_bind (wpAny_callSpecial?_none (name := Str.ofString "__bool__") hm.typeIs noBool_dict ?_)))
  first
    | refine wpAny_bind (wpAny_specialOf (name := Str.ofString "__len__") hm.typeIs F.slot_dict_len.lookup ?_)
    | refine wpAny_bind (wpAny_pure (wpAny_bind (wpAny_specialOf (name := Str.ofString "__len__") hm.typeIs F.slot_dict_len.lookup ?_)))
  first
    | exact wpAny_bind (wpAny_mono key (fun r s' h' => by obtain ⟨rfl, hq⟩ := h'; exact wpAny_pure (hne ▸ hq)) fun _ _ e => e)
    | exact wpAny_bind (wpAny_pure (wpAny_bind (wpAny_mono key (fun r s' h' => by obtain ⟨rfl, hq⟩ := h'; exact wpAny_pure (hne ▸ hq)) fun _ _ e => e)))
end

section
variable {X : Cx} {cls : String → Addr} {pins : List (Addr × Obj)} {σ : St} {G H : Hp} {s : Shared} {a : Addr} {o : Obj} {ks vs : List D} {ys xs : List V}
theorem raw_of (I : Inv X pins σ H s) (h : DictAt X.K H a o) (d : DObj (cn X cls) o ks ys xs) : ∃ es ep, s.heap.DictRaw a es ep ∧ o.data = .dict es ep ∧ es.size = ks.length ∧ ks.length ≤ sizeLine ∧ Vals ys (es.toList.map (·.key)) ∧ Vals xs (es.toList.map (·.val)) := by
  obtain ⟨hx, hz, es, ep, e, h1, h2, h3, h4⟩ := d
  refine ⟨es, ep, ⟨o, dict_get I h, hx, e⟩, e, ?_, hz, h1, h2⟩
  have l := congrArg List.length h3
  rw [List.length_map, List.length_map, Array.length_toList] at l
  exact l
theorem fits_of {x : D} (h : fits ks x = true) : (x.leaf = true ∧ ks.all D.leaf = true) ∨ (x.tk = true ∧ ks.all D.tk = true) := by
  simp only [fits, Bool.or_eq_true, Bool.and_eq_true] at h
  exact h
theorem apart_leaf {x : D} (h : x.leaf = true) (hl : ks.all D.leaf = true) : Apart keyL ks x := fun k hk => eqk_leaf (List.all_eq_true.mp hl k hk) h
theorem apart_tk {x : D} (h : x.tk = true) (hl : ks.all D.tk = true) : Apart nk ks x := fun k hk => eqk_tk (List.all_eq_true.mp hl k hk) h
theorem leaf_is {x : D} {v : V} {u : Value} (h : x.leaf = true) (r : Flat (cn X cls) G H x v) (rv : RelV v u) : (mixKind X.prog X.w).is (keyL x) u = true := by
  cases x with
  | int i =>
    rw [show v = .int i from r] at rv
    obtain ⟨t, rfl⟩ := rv
    exact mixKind_int _ _ i t
  | str z =>
    rw [show v = .str (tS z) from r] at rv
    obtain ⟨t, rfl⟩ := rv
    exact mixKind_str _ _ _ t
  | _ => cases h
theorem flat_tup {x : D} {v : V} (h : x.tk = true) (r : Flat (cn X cls) G H x v) : Rep (cn X cls) G x v := by
  cases x with
  | tup l => exact r
  | _ => cases (tk_of h).1
theorem atKey_val {K : Type} [DecidableEq K] (zs : List (K × Addr × Value)) (k : K) : valueAt (pairsH zs) k = (atKey zs k).map (·.2) := valueAt_pairsH zs k
theorem pairsH_fst {K : Type} [DecidableEq K] (zs : List (K × Addr × Value)) : (pairsH zs).map (·.1) = zs.map (·.1) := by simp [pairsH, Function.comp_def]
theorem pairsH_snd {K : Type} [DecidableEq K] (zs : List (K × Addr × Value)) : (pairsH zs).map (·.2) = zs.map (·.2.2) := by simp [pairsH, Function.comp_def]
variable {x d : D} {v : V} {u : Value} {A : Around} {E : Value → Shared → Prop}
/-- d[x] -/
theorem d_idx {Q : Value → Shared → Prop} (hu : A.units + 9 < cLine) (I : Inv X pins σ H s) (gh : Same G H) (h : DictAt X.K H a o) (dd : DObj (cn X cls) o ks ys xs) (rk : Reps (cn X cls) G ks ys) (rv : Reps (cn X cls) G vs xs)
    (hf : fits ks x = true) (fx : Flat (cn X cls) G H x v) (rx : RelV v u) (hl : look ks vs x = some d) (q : ∀ v' u' s', Inv X pins σ H s' → RelV v' u' → Rep (cn X cls) G d v' → Q u' s') : wpAny (model X.prog X.w) A (getItem (.ref a) u) Q E s := by
  rcases fits_of hf with ⟨h1, h2⟩ | ⟨h1, h2⟩
  · obtain ⟨kvs, p1, p2, p3⟩ := dict_leaf I h dd rk h2
    have key := look_val (apart_leaf h1 h2) p2 p3 rv
    rw [hl] at key
    obtain ⟨v', u', e1, e2, e3⟩ := key
    exact wpAny_getItem_of (leaf_is h1 fx rx) p1.mapOf e1 (q v' u' _ (I.tok _) e2 e3)
  · obtain ⟨zs, p1, p2, p3, p4⟩ := dict_tup I gh h dd rk h2
    have fx' := flat_tup h1 fx
    obtain ⟨b, rfl⟩ := tk_ref h1 fx'
    cases (show u = Value.ref b from rx)
    have key := look_val (apart_tk h1 h2) ((pairsH_fst zs).trans p2) (by rw [pairsH_snd]; exact p3) rv
    rw [hl] at key
    obtain ⟨v', u', e1, e2, e3⟩ := key
    exact getItem_keyed (kvs := pairsH zs) (show A.in1.units + 8 < cLine by simp only [Around.in1]; omega) (key_is I gh h1 fx') ⟨zs, p1, rfl⟩ e1 (q v' u' _ (I.tok _) e2 e3)
/-- x in d -/
theorem d_in {Q : Value → Shared → Prop} (hu : A.units + 9 < cLine) (I : Inv X pins σ H s) (gh : Same G H) (h : DictAt X.K H a o) (dd : DObj (cn X cls) o ks ys xs) (rk : Reps (cn X cls) G ks ys)
    (hf : fits ks x = true) (fx : Flat (cn X cls) G H x v) (rx : RelV v u) (q : ∀ s', Inv X pins σ H s' → Q (.bool (ks.any fun k => D.eqk k x)) s') : wpAny (model X.prog X.w) A (compareOp .In u (.ref a)) Q E s := by
  rcases fits_of hf with ⟨h1, h2⟩ | ⟨h1, h2⟩
  · obtain ⟨kvs, p1, p2, p3⟩ := dict_leaf I h dd rk h2
    refine wpAny_in_of (leaf_is h1 fx rx) h.2 p1.mapOf ?_
    rw [← any_val (apart_leaf h1 h2) p2]
    exact q _ (I.tok _)
  · obtain ⟨zs, p1, p2, p3, p4⟩ := dict_tup I gh h dd rk h2
    have fx' := flat_tup h1 fx
    obtain ⟨b, rfl⟩ := tk_ref h1 fx'
    cases (show u = Value.ref b from rx)
    refine in_keyed (kvs := pairsH zs) (show A.in1.units + 8 < cLine by simp only [Around.in1]; omega) (key_is I gh h1 fx') h.2 ⟨zs, p1, rfl⟩ ?_
    rw [← any_val (apart_tk h1 h2) ((pairsH_fst zs).trans p2)]
    exact q _ (I.tok _)
theorem d_nin {Q : Value → Shared → Prop} (hu : A.units + 9 < cLine) (I : Inv X pins σ H s) (gh : Same G H) (h : DictAt X.K H a o) (dd : DObj (cn X cls) o ks ys xs) (rk : Reps (cn X cls) G ks ys)
    (hf : fits ks x = true) (fx : Flat (cn X cls) G H x v) (rx : RelV v u) (q : ∀ s', Inv X pins σ H s' → Q (.bool (!ks.any fun k => D.eqk k x)) s') : wpAny (model X.prog X.w) A (compareOp .NotIn u (.ref a)) Q E s := by
  rcases fits_of hf with ⟨h1, h2⟩ | ⟨h1, h2⟩
  · obtain ⟨kvs, p1, p2, p3⟩ := dict_leaf I h dd rk h2
    refine wpAny_notIn_of (leaf_is h1 fx rx) h.2 p1.mapOf ?_
    rw [← any_val (apart_leaf h1 h2) p2]
    exact q _ (I.tok _)
  · obtain ⟨zs, p1, p2, p3, p4⟩ := dict_tup I gh h dd rk h2
    have fx' := flat_tup h1 fx
    obtain ⟨b, rfl⟩ := tk_ref h1 fx'
    cases (show u = Value.ref b from rx)
    refine notIn_keyed (kvs := pairsH zs) (show A.in1.units + 8 < cLine by simp only [Around.in1]; omega) (key_is I gh h1 fx') h.2 ⟨zs, p1, rfl⟩ ?_
    rw [← any_val (apart_tk h1 h2) ((pairsH_fst zs).trans p2)]
    exact q _ (I.tok _)
/-- d.get(x, y) -/
theorem d_get {y : D} {v2 : V} {u2 : Value} {Q : Value → Shared → Prop} (hu : A.units + 9 < cLine) (I : Inv X pins σ H s) (gh : Same G H) (h : DictAt X.K H a o) (dd : DObj (cn X cls) o ks ys xs) (rk : Reps (cn X cls) G ks ys) (rv : Reps (cn X cls) G vs xs)
    (hf : fits ks x = true) (fx : Flat (cn X cls) G H x v) (rx : RelV v u) (fy : Rep (cn X cls) G y v2) (ry : RelV v2 u2) (q : ∀ v' u' s', Inv X pins σ H s' → RelV v' u' → Rep (cn X cls) G ((look ks vs x).getD y) v' → Q u' s') :
    wpAny (model X.prog X.w) A (call (.builtin "dict.get") [.ref a, u, u2]) Q E s := by
  rcases fits_of hf with ⟨h1, h2⟩ | ⟨h1, h2⟩
  · obtain ⟨kvs, p1, p2, p3⟩ := dict_leaf I h dd rk h2
    have key := look_val (apart_leaf h1 h2) p2 p3 rv
    refine call_meetsIn PySem.F.slot_dict_get p1.typeIs PySem.F.entry_dict_get (PySem.F.args_dict_get_3 _ _ _) (meets_dict_get_default (mixKind X.prog X.w) a (leaf_is h1 fx rx) h.2 u2) ⟨_, p1.mapOf, ?_⟩
    cases hl : look ks vs x with
    | some z =>
      rw [hl] at key q
      obtain ⟨v', u', e1, e2, e3⟩ := key
      rw [e1]
      exact q v' u' _ (I.tok _) e2 e3
    | none =>
      rw [hl] at key q
      rw [show valueAt kvs (keyL x) = none from key]
      exact q v2 u2 _ (I.tok _) ry fy
  · obtain ⟨zs, p1, p2, p3, p4⟩ := dict_tup I gh h dd rk h2
    have fx' := flat_tup h1 fx
    obtain ⟨b, rfl⟩ := tk_ref h1 fx'
    cases (show u = Value.ref b from rx)
    have key := look_val (apart_tk h1 h2) ((pairsH_fst zs).trans p2) (by rw [pairsH_snd]; exact p3) rv
    refine getOr_keyed (kvs := pairsH zs) (show A.in1.units + 8 < cLine by simp only [Around.in1]; omega) (key_is I gh h1 fx') h.2 ⟨zs, p1, rfl⟩ ?_
    cases hl : look ks vs x with
    | some z =>
      rw [hl] at key q
      obtain ⟨v', u', e1, e2, e3⟩ := key
      rw [e1]
      exact q v' u' _ (I.tok _) e2 e3
    | none =>
      rw [hl] at key q
      rw [show valueAt (pairsH zs) (nk x) = none from key]
      exact q v2 u2 _ (I.tok _) ry fy
theorem dO_new {P : Program} {w : World} {H' : Hp} {h' : Heap} {o' : Obj} (e : h'.get? a = some o') : ObjOk P w H' h' a (dO a o') := ⟨e, ⟨_, e⟩, fun h1 h2 f k => k _ f⟩
theorem reps_putK {c : Cn} {b : Addr} {x : D} (rb : Rep c G x (.ref b)) {val : Value} : ∀ {ks : List D} {zs : List (NestedKey × Addr × Value)}, Apart nk ks x → zs.map (·.1) = ks.map nk → (zs.map (·.1)).Nodup → Reps c G ks (zs.map fun z => V.ref z.2.1) →
    Reps c G (putK ks x) ((storedH zs (nk x) b val).map fun z => V.ref z.2.1)
  | [], zs, ap, e, hn, r => by
    have e1 : zs = [] := by simpa using e
    subst e1
    exact Reps.one rb
  | k :: ks, zs, ap, e, hn, r => by
    match zs, e, hn, r with
    | [], e, _, _ => simp at e
    | z :: zs, e, hn, ⟨y, r', e', h1, h2⟩ =>
      simp only [List.map_cons, List.cons.injEq] at e e'
      rw [List.map_cons, List.nodup_cons] at hn
      have hk := ap k (by simp)
      rw [← e.1] at hk
      obtain ⟨e1, e2⟩ := e'
      subst e1 e2
      by_cases q : z.1 = nk x
      · rw [decide_eq_true q] at hk
        simp only [putK, hk]
        have e3 : (storedH (z :: zs) (nk x) b val).map (fun z => V.ref z.2.1) = (z :: zs).map fun z => V.ref z.2.1 := by
          have e4 : (atKey (z :: zs) (nk x)).isSome = true := by simp [atKey, q]
          unfold storedH
          rw [if_pos e4, List.map_map]
          refine List.map_congr_left fun p _ => ?_
          unfold putAt
          simp only [Function.comp]
          split <;> rfl
        rw [e3]
        exact ⟨_, _, rfl, h1, h2⟩
      · rw [decide_eq_false q] at hk
        simp only [putK, hk]
        have e3 : storedH (z :: zs) (nk x) b val = z :: storedH zs (nk x) b val := by
          have e4 : atKey (z :: zs) (nk x) = atKey zs (nk x) := by simp [atKey, q]
          unfold storedH
          rw [e4]
          split
          · rw [List.map_cons]; simp [putAt, q]
          · rfl
        rw [e3]
        exact ⟨_, _, rfl, h1, reps_putK rb (fun z hz => ap z (by simp [hz])) e.2 hn.2 h2⟩
/-- d[x] = y -/
theorem d_set {y : D} {v2 : V} {u2 : Value} {Q : Unit → Shared → Prop} (hu : A.units + 9 < cLine) (I : Inv X pins σ H s) (gh : Same G H) (h : H a = some (dO a o)) (hm : (a == sysModules) = false) (dd : DObj (cn X cls) o ks ys xs) (rk : Reps (cn X cls) G ks ys) (rv : Reps (cn X cls) G vs xs)
    (hf : fits ks x = true) (fx : Flat (cn X cls) G H x v) (rx : RelV v u) (fy : Rep (cn X cls) G y v2) (ry : RelV v2 u2) (hlen : ks.length < most)
    (q : ∀ o' ys' xs' s', Inv X pins σ (upd H a (dO a o')) s' → DObj (cn X cls) o' (putK ks x) ys' xs' → Reps (cn X cls) G (putK ks x) ys' → Reps (cn X cls) G (putV ks vs x y) xs' → Q () s') :
    wpAny (model X.prog X.w) A (setItem (.ref a) u u2) Q E s := by
  have hat : DictAt X.K H a o := ⟨.inl h, hm⟩
  have hsz : ks.length ≤ sizeLine := Nat.le_trans (Nat.le_of_lt hlen) most_line
  have hz' : (putK ks x).length ≤ sizeLine := Nat.le_trans (Nat.le_trans (length_putK x ks) hlen) most_line
  have hmut : Mut (H a) := by rw [h]; trivial
  rcases fits_of hf with ⟨h1, h2⟩ | ⟨h1, h2⟩
  · obtain ⟨kvs, p1, p2, p3⟩ := dict_leaf I hat dd rk h2
    have hl : kvs.length = ks.length := by have := congrArg List.length p2; simpa using this
    have hn : (kvs.map (·.1)).Nodup := let ⟨_, _, _, _, _, _, _, _, hn⟩ := p1; hn
    refine wpAny_setItem_pairs (hsz := by omega) (leaf_is h1 fx rx) p1 fun h' dd' hs => ?_
    obtain ⟨e1, xs', e2, e3⟩ := put_val ry fy (apart_leaf h1 h2) p2 hn p3 rv
    have hl2 : (putK ks x).all D.leaf = true := all_putK h1 h2
    obtain ⟨o', e4, e5⟩ := dobj_leaf (cls := cls) dd' e1 hl2 hz' e2
    exact q o' _ xs' _ (L2.d_write I hmut hs ⟨_, e4⟩ (dO_new e4)) e5 (reps_leaf hl2) e3
  · obtain ⟨zs, p1, p2, p3, p4⟩ := dict_tup I gh hat dd rk h2
    have fx' := flat_tup h1 fx
    obtain ⟨b, rfl⟩ := tk_ref h1 fx'
    cases (show u = Value.ref b from rx)
    have hl : zs.length = ks.length := by have := congrArg List.length p2; simpa using this
    have hn : (zs.map (·.1)).Nodup := p1.nodup
    refine wpAny_setItem_heap (hsz := by omega) (show A.in1.units + 8 < cLine by simp only [Around.in1]; omega) (key_is I gh h1 fx') p1 fun h' dd' hs => ?_
    obtain ⟨e1, xs', e2, e3⟩ := put_val (kvs := pairsH zs) ry fy (apart_tk h1 h2) ((pairsH_fst zs).trans p2) (by rw [pairsH_fst]; exact hn) (by rw [pairsH_snd]; exact p3) rv
    rw [← pairsH_storedH zs (nk x) b u2, pairsH_fst] at e1
    rw [← pairsH_storedH zs (nk x) b u2, pairsH_snd] at e2
    obtain ⟨o', e4, e5⟩ := dobj_tup (cls := cls) dd' e1 hz' e2
    subst p4
    exact q o' _ xs' _ (L2.d_write I hmut hs ⟨_, e4⟩ (dO_new e4)) e5 (reps_putK fx' (apart_tk h1 h2) p2 hn rk) e3
where
  all_putK {ks : List D} {x : D} (h1 : x.leaf = true) (h2 : ks.all D.leaf = true) : (putK ks x).all D.leaf = true := by
    induction ks with
    | nil => simp [putK, h1]
    | cons k ks ih =>
      rw [List.all_cons, Bool.and_eq_true] at h2
      unfold putK
      split
      · rw [List.all_cons, h2.1, h2.2]; rfl
      · rw [List.all_cons, h2.1, ih h2.2]; rfl
end
end Rl
set_option Elab.async false
set_option linter.all false
set_option maxRecDepth 100000
set_option autoImplicit false
/-! Roundlines: the rules that see dicts. -/
namespace Rl
open PySem L2
section
variable {X : Cx} {cls : String → Addr}

theorem p_idx (hu : X.A.units + 9 < cLine) : IxR X (fun x y H Q => rP (cn X cls) .idx [x, y] H Q) := by
  intro value slice pins s σ H x y v u Q I rx ry h hs
  obtain ⟨G, d1, d2, sh, d, gh, f1, f2, e, q⟩ := rP.two h
  cases hd : isDct d1 with
  | false => exact p_ixSeq value slice pins s σ H x y v u Q I rx ry ⟨G, d1, d2, sh, d, gh, f1, f2, e, q, hd⟩ hs
  | true =>
    cases d1 with
    | dct ks vs =>
      have e : (if fits ks d2 = true then (look ks vs d2).bind sc else none) = some (sh, d) := by cases d2 <;> exact e
      split at e
      · rename_i hf
        obtain ⟨e1, rfl⟩ := sc_of e
        obtain ⟨a, o, ys, xs, rfl, h1, h2, h3, h4⟩ := f1
        cases (show v = Value.ref a from rx)
        have hT : s.TypeIs (.ref a) "dict" := ⟨o, dict_get I h1, h2.1.1⟩
        exact PyProof.Rows.tail_any hT PySem.F.slot_dict_getitem.lookup (d_idx hu I gh h1 h2 h3 h4 hf f2 ry e1 fun v' u' s' I' r' rep => ⟨v', H, I', r', q.sc gh rep⟩) hs
      · cases e
    | _ => cases hd
theorem p_inn (hu : X.A.units + 65 < cLine) : OpR X (compareOp .In) (fun x y H Q => rP (cn X cls) .inn [x, y] H Q) := by
  intro pins s σ H x y v u Q I rx ry h
  obtain ⟨G, d1, d2, sh, d, gh, f1, f2, e, q⟩ := rP.two h
  cases hd : isDct d2 with
  | false => exact p_inSeq hu pins s σ H x y v u Q I rx ry ⟨G, d1, d2, sh, d, gh, f1, f2, e, q, hd⟩
  | true =>
    cases d2 with
    | dct ks vs =>
      have e : (if fits ks d1 = true then sc (.bl (ks.any fun k => D.eqk k d1)) else none) = some (sh, d) := by cases d1 <;> exact e
      split at e
      · rename_i hf
        cases e
        obtain ⟨a, o, ys, xs, rfl, h1, h2, h3, h4⟩ := f2
        cases (show u = Value.ref a from ry)
        exact d_in (by omega) I gh h1 h2 h3 hf f1 rx fun s' I' => ⟨.bl _, H, I', rfl, q.sc gh rfl⟩
      · cases e
    | _ => cases hd
theorem p_nin (hu : X.A.units + 65 < cLine) : OpR X (compareOp .NotIn) (fun x y H Q => rP (cn X cls) .nin [x, y] H Q) := by
  intro pins s σ H x y v u Q I rx ry h
  obtain ⟨G, d1, d2, sh, d, gh, f1, f2, e, q⟩ := rP.two h
  cases hd : isDct d2 with
  | false => exact p_ninSeq hu pins s σ H x y v u Q I rx ry ⟨G, d1, d2, sh, d, gh, f1, f2, e, q, hd⟩
  | true =>
    cases d2 with
    | dct ks vs =>
      have e : (if fits ks d1 = true then sc (.bl (!ks.any fun k => D.eqk k d1)) else none) = some (sh, d) := by cases d1 <;> exact e
      split at e
      · rename_i hf
        cases e
        obtain ⟨a, o, ys, xs, rfl, h1, h2, h3, h4⟩ := f2
        cases (show u = Value.ref a from ry)
        exact d_nin (by omega) I gh h1 h2 h3 hf f1 rx fun s' I' => ⟨.bl _, H, I', rfl, q.sc gh rfl⟩
      · cases e
    | _ => cases hd
theorem p_len : CallR X (.builtin "len") (rP (cn X cls) .len) := by
  intro pins s σ H xs us Q I rx h
  have h0 := h
  obtain ⟨G, ds, sh, d, gh, fl, e, q⟩ := h
  have h1 : ∃ z, ds = [z] := by
    simp only [prim] at e
    split at e <;> first | exact ⟨_, rfl⟩ | cases e
  obtain ⟨d1, rfl⟩ := h1
  obtain ⟨x, rfl, f1⟩ := Flats.one fl
  cases hd : isDct d1 with
  | false => exact p_lenSeq pins s σ H [x] us Q I rx ⟨G, d1, sh, d, x, rfl, gh, f1, e, q, hd⟩
  | true =>
    cases d1 with
    | dct ks vs =>
      cases e
      obtain ⟨u, rfl, r1⟩ := Vals.one rx
      obtain ⟨a, o, ys, ws, rfl, h1, h2, h3, h4⟩ := f1
      cases (show u = Value.ref a from r1)
      obtain ⟨es, ep, p1, p2, p3, p4, p5, p6⟩ := raw_of I h1 h2
      refine lenCall_raw h1.2 p1 (by rw [p3]; exact p4) ⟨.int _, H, I.tok _, ⟨_, rfl⟩, ?_⟩
      rw [p3]
      exact q.sc gh rfl
    | _ => cases hd
/-- a method's reading: the receiver looked at, the arguments shared -/
def rM (c : Cn) (p : P) (x : V) (xs : List V) (H : Hp) (Q : VK) : Prop := ∃ G d ds s r, Same G H ∧ Flat c G H d x ∧ Reps c G ds xs ∧ prim p (d :: ds) = some (s, r) ∧ NewP c G H s r Q
theorem Flats.of {c : Cn} {G H : Hp} (gh : Same G H) : ∀ {ds : List D} {xs : List V}, Reps c G ds xs → Flats c G H ds xs
  | [], xs, r => r
  | d :: ds, xs, ⟨x, r, e, h1, h2⟩ => ⟨x, r, e, Flat.of gh h1, Flats.of gh h2⟩
theorem rM.rP {c : Cn} {p : P} {x : V} {xs : List V} {H : Hp} {Q : VK} (h : rM c p x xs H Q) : rP c p (x :: xs) H Q := by
  obtain ⟨G, d, ds, s, r, gh, f, rs, e, q⟩ := h
  exact ⟨G, d :: ds, s, r, gh, ⟨x, xs, rfl, f, Flats.of gh rs⟩, e, q⟩
theorem m_count (hu : X.A.units + 65 < cLine) : MtR X "list.count" (rM (cn X cls) .count) := MtR.imp (p_count hu) fun x xs H Q h => h.rP
theorem m_index (hu : X.A.units + 65 < cLine) : MtR X "list.index" (rM (cn X cls) .index) := MtR.imp (p_index hu) fun x xs H Q h => h.rP
theorem m_get (hu : X.A.units + 9 < cLine) : MtR X "dict.get" (rM (cn X cls) .get) := by
  intro pins s σ H x xs v us Q I rx rs h
  obtain ⟨G, d, ds, sh, r, gh, f, rp, e, q⟩ := h
  simp only [prim] at e
  split at e
  · rename_i ks vs k y q'
    simp only [List.cons.injEq] at q'
    obtain ⟨rfl, rfl⟩ := q'
    split at e
    · rename_i hf
      cases e
      obtain ⟨x1, r1, rfl, g1, x2, r2, rfl, g2, e3⟩ := rp
      rw [show r2 = [] from e3] at rs
      obtain ⟨u1, u2, rfl, ru1, ru2⟩ := vals2 rs
      obtain ⟨a, o, ys, ws, rfl, h1, h2, h3, h4⟩ := f
      cases (show v = Value.ref a from rx)
      exact d_get hu I gh h1 h2 h3 h4 hf (Flat.of gh g1) ru1 g2 ru2 fun v' u' s' I' r' rep => ⟨v', H, I', r', q.sc gh rep⟩
    · cases e
  · cases e

/-! ### isinstance -/
def tyD : D → Option String
  | .non => some "NoneType"
  | .bl _ => some "bool"
  | .int _ => some "int"
  | .str _ => some "str"
  | .tup _ => some "tuple"
  | .lst _ => some "list"
  | .dct _ _ => some "dict"
  | .scr _ => some "list"
  | .exc _ => none
theorem kit_D {pins : List (Addr × Obj)} {σ : St} {G H : Hp} {s : Shared} {d : D} {t : String} {v : V} {u : Value} (I : Inv X pins σ H s) (gh : Same G H) (ht : tyD d = some t) (f : Flat (cn X cls) G H d v) (r : RelV v u) :
    ∃ P : Heap → Prop, PySem.W.KitX X.K u (.type t) P ∧ P s.heap ∧ u ≠ .builtin "__main__.__loader__#opaque" := by
  cases d with
  | non => cases ht; rw [show v = .non from f] at r; cases (show u = Value.none from r); exact ⟨_, PySem.W.kitx_none, True.intro, fun z => nomatch z⟩
  | bl b => cases ht; rw [show v = .bl b from f] at r; cases (show u = Value.bool b from r); exact ⟨_, PySem.W.kitx_bool, True.intro, fun z => nomatch z⟩
  | int b => cases ht; rw [show v = .int b from f] at r; obtain ⟨t, rfl⟩ := r; exact ⟨_, PySem.W.kitx_int, True.intro, fun z => nomatch z⟩
  | str b => cases ht; rw [show v = .str (tS b) from f] at r; obtain ⟨t, rfl⟩ := r; exact ⟨_, PySem.W.kitx_str, True.intro, fun z => nomatch z⟩
  | tup l =>
    cases ht
    obtain ⟨a, xs, rfl, h1, _⟩ := f
    cases (show u = Value.ref a from r)
    obtain ⟨its, _, ⟨o, q1, q2, _⟩, _⟩ := I.tuple (Same.sqT gh h1)
    exact ⟨_, PySem.W.kitx_tuple, ⟨o, q1, q2⟩, fun z => nomatch z⟩
  | lst l =>
    cases ht
    obtain ⟨a, xs, rfl, h1, _⟩ := f
    cases (show u = Value.ref a from r)
    obtain ⟨its, _, ⟨o, n, q1, q2, _⟩, _⟩ := I.list (SqL.of h1)
    exact ⟨_, PySem.W.kitx_list, ⟨o, q1, q2⟩, fun z => nomatch z⟩
  | dct ks vs =>
    cases ht
    obtain ⟨a, o, ys, xs, rfl, h1, h2, _⟩ := f
    cases (show u = Value.ref a from r)
    exact ⟨_, PySem.W.kitx_dict, ⟨o, dict_get I h1, h2.1.1⟩, fun z => nomatch z⟩
  | scr l =>
    cases ht
    obtain ⟨a, rfl, h1⟩ := f
    cases (show u = Value.ref a from r)
    obtain ⟨its, _, ⟨o, n, q1, q2, _⟩, _⟩ := I.list (Same.seq gh h1)
    exact ⟨_, PySem.W.kitx_list, ⟨o, q1, q2⟩, fun z => nomatch z⟩
  | exc k => cases ht
def isiTypes : List String := ["int", "bool", "str", "tuple", "list", "dict"]
theorem kitB_all : ∀ a ∈ ["NoneType", "bool", "int", "str", "tuple", "list", "dict"], ∀ b ∈ isiTypes, kitB a b = some (decide (a = b) || (decide (a = "bool") && decide (b = "int"))) := by decide +kernel
/-- isinstance(x, t), t a built-in type -/
theorem p_isi {t : String} (ht : t ∈ isiTypes) : CallR X (.builtin "isinstance") (fun xs H Q => ∃ x, xs = [x, .ty t] ∧ rP (cn X cls) (.isi t) [x] H Q) := by
  intro pins s σ H xs us Q I rx ⟨x, ex, h⟩
  subst ex
  obtain ⟨u1, u2, rfl, r1, r2⟩ := vals2 rx
  cases (show u2 = Value.type t from r2)
  obtain ⟨G, d1, sh, d, gh, f1, e, q⟩ := h.one
  obtain ⟨b, e1, e2⟩ := Option.bind_eq_some_iff.mp (show (isA t d1).bind (fun b => sc (.bl b)) = some (sh, d) from e)
  cases e2
  have key : ∃ a, tyD d1 = some a ∧ a ∈ ["NoneType", "bool", "int", "str", "tuple", "list", "dict"] ∧ b = (decide (a = t) || (decide (a = "bool") && decide (t = "int"))) := by
    have ht2 := ht
    simp only [isiTypes, List.mem_cons, List.not_mem_nil, or_false] at ht2
    cases d1 with
    | exc k => cases e1
    | _ =>
      simp only [isA, Option.some.injEq] at e1
      refine ⟨_, rfl, by simp, ?_⟩
      rw [← e1]
      rcases ht2 with rfl | rfl | rfl | rfl | rfl | rfl <;> decide
  obtain ⟨a, ha, ham, hb⟩ := key
  have hk := kitB_all a ham t ht
  rw [← hb] at hk
  obtain ⟨P, Z, p, hx⟩ := kit_D I gh ha f1 r1
  exact PySem.W.kia_one Z I.kIn p (kit_ty hk) hx fun tk => ⟨.bl b, H, I.tok tk, rfl, q.sc gh rfl⟩

/-! ### truth -/
theorem p_truth : TruR X (fun x H Q => ∃ G d b, Same G H ∧ Flat (cn X cls) G H d x ∧ truth d = some b ∧ Q b H) := by
  intro pins s σ H x v Q I rx ⟨G, d, b, gh, f, e, q⟩
  cases d with
  | dct ks vs =>
    cases e
    obtain ⟨a, o, ys, xs, rfl, h1, h2, h3, h4⟩ := f
    cases (show v = Value.ref a from rx)
    obtain ⟨es, ep, p1, p2, p3, p4, p5, p6⟩ := raw_of I h1 h2
    refine truthy_raw h1.2 p1 (by rw [p3]; exact p4) ⟨H, I.tok _, ?_⟩
    have e : decide (es.size ≠ 0) = !ks.isEmpty := by rw [p3]; cases ks <;> simp
    rw [e]; exact q
  | non => cases e; exact tru_ok pins s σ H x v Q I rx ⟨_, by rw [show x = .non from f]; rfl, q⟩
  | bl b => cases e; exact tru_ok pins s σ H x v Q I rx ⟨_, by rw [show x = .bl b from f]; rfl, q⟩
  | int i => cases e; exact tru_ok pins s σ H x v Q I rx ⟨_, by rw [show x = .int i from f]; rfl, q⟩
  | str y =>
    simp only [truth] at e
    split at e
    · rename_i hl
      cases e
      refine tru_ok pins s σ H x v Q I rx ⟨_, ?_, q⟩
      rw [show x = .str (tS y) from f]
      refine ⟨by rw [tS_len]; exact Nat.le_trans hl most_line, ?_⟩
      rw [tS_len]
      cases y <;> simp <;> omega
    · cases e
  | tup l =>
    cases e
    obtain ⟨a, xs, rfl, h1, h2⟩ := f
    refine tru_ok pins s σ H _ v Q I rx ⟨_, .inr (.inl ⟨xs, Same.sqT gh h1, ?_⟩), q⟩
    have := h2.length
    cases xs <;> cases l <;> simp at this ⊢
  | lst l =>
    cases e
    obtain ⟨a, xs, rfl, h1, h2⟩ := f
    refine tru_ok pins s σ H _ v Q I rx ⟨_, .inl ⟨xs, SqL.of h1, ?_⟩, q⟩
    have := h2.length
    cases xs <;> cases l <;> simp at this ⊢
  | scr l =>
    cases e
    obtain ⟨a, rfl, h1⟩ := f
    refine tru_ok pins s σ H _ v Q I rx ⟨_, .inl ⟨_, Same.seq gh h1, ?_⟩, q⟩
    cases l <;> rfl
  | exc k => cases e
end
end Rl
set_option Elab.async false
set_option linter.all false
set_option maxRecDepth 100000
set_option autoImplicit false
/-! Roundlines: views of dicts, copies of dicts, classes of errors. -/
namespace Rl
open PySem L2

def vwO (n : String) (d : Addr) : Obj := { cls := .type n, data := .fields #[.ref d] }
def tView (K : PySem.W.Frag) (n : String) (td : L2.TE) : L2.TE := fun σ H Q => td σ H fun x H1 => ∃ a o es ep, x = .ref a ∧ DictAt K H1 a o ∧ o.ExactDict ∧ o.data = .dict es ep ∧ ∀ r, H1 r = none → Q (.ref r) (upd H1 r (dO r (vwO n a)))
section
variable {X : Cx} {e : Expr} {td : L2.TE} {apos cpos : Pos}
theorem pe_keysV (he : PE X e td) (hbase : attributeBase e "keys" X.env (eval e X.env) = eval e X.env) (hline : (apos.endLine == cpos.line) = true) : PE X (.Call (.Attribute e "keys" apos) [] [] cpos) (tView X.K "dict_keys" td) := by
  refine ⟨fun pins s σ H Q I h => ?_⟩
  refine wpAny_Call_method (T := "dict") (id := "dict.keys") hbase rfl hline F.plainAttrs_dict F.slot_dict_keys F.type_dict_keys (thn (he.run pins s σ H _ I h) fun u s1 ⟨x, H1, I1, rx, d, o, es, ep, ex, hd, hx, hdt, q⟩ => ?_)
  subst ex
  obtain rfl : u = Value.ref d := rx
  have hm : s1.heap.DictRaw d es ep := ⟨o, dict_get I1 hd, hx, hdt⟩
  refine ⟨hm.typeIs, fun b e => by injection e with e; subst e; exact ⟨o, dict_get I1 hd, hx.2.1⟩, ?_⟩
  show wpAny _ _ (callWith cpos (.builtin "dict.keys") [.ref d] [] []) _ X.xe s1
  refine method_meetsIn F.slot_dict_keys F.entry_dict_keys rfl (PySem.evalArgs_none ⟨rfl, hm.typeIs, F.args_dict_keys_1 _, _, meets_dict_keys_raw d hd.2, ⟨es, ep, hm⟩, ?_⟩)
  have eb : (s1.heap.push (vwO "dict_keys" d)).get? s1.heap.objs.size = some (vwO "dict_keys" d) := Heap.get?_push_size _ rfl
  exact ⟨.ref s1.heap.objs.size, _, I1.laid (t' := s1.toks) (a := s1.heap.objs.size) (o := dO s1.heap.objs.size (vwO "dict_keys" d)) (fun b u q => Heap.get?_push_of_some _ q) (Nat.le_refl _) (dO_new eb), rfl, q _ (I1.hok.fresh (Nat.le_refl _))⟩
theorem pe_valsV (he : PE X e td) (hbase : attributeBase e "values" X.env (eval e X.env) = eval e X.env) (hline : (apos.endLine == cpos.line) = true) : PE X (.Call (.Attribute e "values" apos) [] [] cpos) (tView X.K "dict_values" td) := by
  refine ⟨fun pins s σ H Q I h => ?_⟩
  refine wpAny_Call_method (T := "dict") (id := "dict.values") hbase rfl hline F.plainAttrs_dict F.slot_dict_values F.type_dict_values (thn (he.run pins s σ H _ I h) fun u s1 ⟨x, H1, I1, rx, d, o, es, ep, ex, hd, hx, hdt, q⟩ => ?_)
  subst ex
  obtain rfl : u = Value.ref d := rx
  have hm : s1.heap.DictRaw d es ep := ⟨o, dict_get I1 hd, hx, hdt⟩
  refine ⟨hm.typeIs, fun b e => by injection e with e; subst e; exact ⟨o, dict_get I1 hd, hx.2.1⟩, ?_⟩
  show wpAny _ _ (callWith cpos (.builtin "dict.values") [.ref d] [] []) _ X.xe s1
  refine method_meetsIn F.slot_dict_values F.entry_dict_values rfl (PySem.evalArgs_none ⟨rfl, hm.typeIs, F.args_dict_values_1 _, _, meets_dict_values_raw d hd.2, ⟨es, ep, hm⟩, ?_⟩)
  have eb : (s1.heap.push (vwO "dict_values" d)).get? s1.heap.objs.size = some (vwO "dict_values" d) := Heap.get?_push_size _ rfl
  exact ⟨.ref s1.heap.objs.size, _, I1.laid (t' := s1.toks) (a := s1.heap.objs.size) (o := dO s1.heap.objs.size (vwO "dict_values" d)) (fun b u q => Heap.get?_push_of_some _ q) (Nat.le_refl _) (dO_new eb), rfl, q _ (I1.hok.fresh (Nat.le_refl _))⟩
end

section
variable {X : Cx} {cls : String → Addr}
theorem vals_of_items {ys : List V} {es : List Value} {acc : List Value} (r : Vals ys es) (hl : acc.length = es.length) (h : ∀ (j : Nat) (v : Value), acc[j]? = some v → es[j]? = some v) : Vals ys acc := by
  have e : acc = es := by
    refine List.ext_getElem? fun j => ?_
    cases q : acc[j]? with
    | none => rw [List.getElem?_eq_none_iff] at q; rw [List.getElem?_eq_none (by omega)]
    | some v => rw [h j v q]
  rw [e]; exact r
/-- a view of a dict -/
def VwOf (c : Cn) (G H : Hp) (n : String) (d : D) (x : V) : Prop := ∃ r a, x = .ref r ∧ H r = some (dO r (vwO n a)) ∧ Flat c G H d (.ref a) ∧ isDct d = true
theorem view_get {pins : List (Addr × Obj)} {σ : St} {H : Hp} {s : Shared} {r : Addr} {o : Obj} (I : Inv X pins σ H s) (h : H r = some (dO r o)) : s.heap.get? r = some o := (I.hok r _ h).1
def rVw (c : Cn) (n : String) (p : P) (xs : List V) (H : Hp) (Q : VK) : Prop := ∃ x G d s r, xs = [x] ∧ Same G H ∧ VwOf c G H n d x ∧ prim p [d] = some (s, r) ∧ NewP c G H s r Q
theorem p_listKeys (hc : X.calm = true) : CallR X (.type "list") (rVw (cn X cls) "dict_keys" .listKeys) := by
  intro pins s σ H xs us Q I rx ⟨x, G, d, sh, d2, ex, gh, ⟨r, a, ex2, hr, fl, hd⟩, e, q⟩
  subst ex ex2
  obtain ⟨u, rfl, r1⟩ := Vals.one rx
  cases (show u = Value.ref r from r1)
  cases d with
  | dct ks vs =>
    simp only [prim, small] at e
    split at e
    · rename_i hl
      cases e
      obtain ⟨a', o, ys, ws, ea, h1, h2, h3, h4⟩ := fl
      cases ea
      obtain ⟨es, ep, p1, p2, p3, p4, p5, p6⟩ := raw_of I h1 h2
      refine PySem.W.kdl_call (PySem.KdlSrc.rawKeys (es := es) (ep := ep)) (I.ok.hd hc) ⟨⟨_, view_get I hr, rfl, rfl⟩, p1⟩ (by rw [p3]; exact p4) fun h' tk acc c hk hS hacc => ?_
      have hv : Vals ys acc.toList := by
        refine vals_of_items p5 (by rw [Array.length_toList, hacc.1, List.length_map, Array.length_toList]) fun j v e => ?_
        obtain ⟨hi, e2⟩ := hacc.2 j v (by rw [← Array.getElem?_toList]; exact e)
        rw [List.getElem?_map, Array.getElem?_toList, Array.getElem?_eq_getElem hi, e2]; rfl
      refine ⟨.ref s.heap.objs.size, upd H s.heap.objs.size (.lst ys), I.laid (t' := tk) hk (Nat.le_refl _) ⟨?_, acc.toList, c, hv, ?_⟩, rfl, q.lst gh h3 _ (I.hok.fresh (Nat.le_refl _))⟩
      · rw [h3.length]; exact p4
      · rw [Array.toArray_toList]; exact hS
    · cases e
  | _ => cases hd
theorem p_listVals (hc : X.calm = true) : CallR X (.type "list") (rVw (cn X cls) "dict_values" .listVals) := by
  intro pins s σ H xs us Q I rx ⟨x, G, d, sh, d2, ex, gh, ⟨r, a, ex2, hr, fl, hd⟩, e, q⟩
  subst ex ex2
  obtain ⟨u, rfl, r1⟩ := Vals.one rx
  cases (show u = Value.ref r from r1)
  cases d with
  | dct ks vs =>
    simp only [prim, small] at e
    split at e
    · rename_i hl
      cases e
      obtain ⟨a', o, ys, ws, ea, h1, h2, h3, h4⟩ := fl
      cases ea
      obtain ⟨es, ep, p1, p2, p3, p4, p5, p6⟩ := raw_of I h1 h2
      refine PySem.W.kdl_call (PySem.KdlSrc.rawValues (es := es) (ep := ep)) (I.ok.hd hc) ⟨⟨_, view_get I hr, rfl, rfl⟩, p1⟩ (by rw [p3]; exact p4) fun h' tk acc c hk hS hacc => ?_
      have hv : Vals ws acc.toList := by
        refine vals_of_items p6 (by rw [Array.length_toList, hacc.1, List.length_map, Array.length_toList]) fun j v e => ?_
        obtain ⟨hi, e2⟩ := hacc.2 j v (by rw [← Array.getElem?_toList]; exact e)
        rw [List.getElem?_map, Array.getElem?_toList, Array.getElem?_eq_getElem hi, e2]; rfl
      refine ⟨.ref s.heap.objs.size, upd H s.heap.objs.size (.lst ws), I.laid (t' := tk) hk (Nat.le_refl _) ⟨?_, acc.toList, c, hv, ?_⟩, rfl, q.lst gh h4 _ (I.hok.fresh (Nat.le_refl _))⟩
      · rw [h4.length]; exact Nat.le_trans hl most_line
      · rw [Array.toArray_toList]; exact hS
    · cases e
  | _ => cases hd
theorem strs_vals : ∀ {zs : List (List Nat)} {us : List Value}, Vals ((zs.map tS).map V.str) us → PyProof.Rows.StrsAre us (zs.map tS)
  | [], us, r => by cases r; exact .nil
  | z :: zs, us, r => by
    rw [List.map_cons, List.map_cons] at r
    cases r with
    | cons h t => obtain ⟨tk, rfl⟩ := h; exact .cons _ _ (strs_vals t)
theorem ints_vals : ∀ {zs : List Int} {us : List Value}, Vals (zs.map V.int) us → PyProof.Rows.IntsAre us zs
  | [], us, r => by cases r; exact .nil
  | z :: zs, us, r => by
    rw [List.map_cons] at r
    cases r with
    | cons h t => obtain ⟨tk, rfl⟩ := h; exact .cons _ _ (ints_vals t)
theorem p_sortedKeys (hc : X.calm = true) : CallR X (.builtin "sorted") (rVw (cn X cls) "dict_keys" .sortedKeys) := by
  intro pins s σ H xs us Q I rx ⟨x, G, d, sh, d2, ex, gh, ⟨r, a, ex2, hr, fl, hd⟩, e, q⟩
  subst ex ex2
  obtain ⟨u, rfl, r1⟩ := Vals.one rx
  cases (show u = Value.ref r from r1)
  cases d with
  | dct ks vs =>
    obtain ⟨a', o, ys, ws, ea, h1, h2, h3, h4⟩ := fl
    cases ea
    obtain ⟨es, ep, p1, p2, p3, p4, p5, p6⟩ := raw_of I h1 h2
    have key : ∃ zs, (strsOf ks = some zs ∨ strsOf ks = none ∧ ∃ zi, intsOf ks = some zi) ∧ ks.length < 64 ∧ sh = .own ∧ d2 = .lst (sortBy leD ks) := by
      simp only [prim] at e
      split at e
      · rename_i zs hz
        split at e
        · rename_i hl; cases e; exact ⟨zs, .inl hz, hl, rfl, rfl⟩
        · cases e
      · rename_i zs hz hn
        split at e
        · rename_i hl
          cases e
          cases hs : strsOf ks with
          | none => exact ⟨[], .inr ⟨rfl, zs, hz⟩, hl, rfl, rfl⟩
          | some z => exact ⟨z, .inl rfl, hl, rfl, rfl⟩
        · cases e
      · cases e
    obtain ⟨zs, hk, h64, rfl, rfl⟩ := key
    refine Calls.call_function_entry PyProof.Rows.kind_sorted PyProof.Rows.plain_sorted PyProof.Rows.entry_sorted (PyProof.Rows.args_sorted1 _) ?_
    unfold Builtin.«sorted»
    refine wpAny_bind (m := checkCount "sorted" 1 1 _) (wpAny_pure ?_)
    refine wpAny_bind (PySem.W.kdu_collect (A := X.A.in1) (PySem.KdlSrc.rawKeys (es := es) (ep := ep)) (I.ok.hd hc) ⟨⟨_, view_get I hr, rfl, rfl⟩, p1⟩ (by rw [p3]; exact p4) fun h' tk acc hkp hacc => ?_)
    have hv : Vals ys acc.toList := by
      refine vals_of_items p5 (by rw [Array.length_toList, hacc.1, List.length_map, Array.length_toList]) fun j v e => ?_
      obtain ⟨hi, e2⟩ := hacc.2 j v (by rw [← Array.getElem?_toList]; exact e)
      rw [List.getElem?_map, Array.getElem?_toList, Array.getElem?_eq_getElem hi, e2]; rfl
    have hal : acc.toList.length = ks.length := by rw [← hv.length, h3.length]
    have I1 : Inv X pins σ H { s with heap := h', toks := tk } := I.kept hkp
    refine wpAny_bind (wpAny_newList ?_ (by rw [hal, sizeLine_eq]; omega))
    have hoL : (h'.push (PyProof.Rows.seqObj "list" acc.toList.toArray 0)).get? h'.objs.size = some (PyProof.Rows.seqObj "list" acc.toList.toArray 0) := Heap.get?_push_size _ rfl
    show wpAny _ _ _ _ _ { s with heap := h'.push (PyProof.Rows.seqObj "list" acc.toList.toArray 0), toks := tk }
    have old : ∀ out : Array Value, ∀ b u, h'.get? b = some u → (PyProof.Rows.sortedHeap (h'.push (PyProof.Rows.seqObj "list" acc.toList.toArray 0)) h'.objs.size acc.toList out).get? b = some u := fun out b u e => by
      have hb : b < h'.objs.size := Heap.lt_size e
      rw [PyProof.Rows.sortedHeap_old (Nat.ne_of_lt hb) (by rw [Heap.size_push]; exact Nat.lt_succ_of_lt hb)]
      exact Heap.get?_push_of_some _ e
    rcases hk with hz | ⟨_, zi, hz⟩
    · obtain ⟨q1, q2⟩ := strs_rep hz h3
      rw [q2] at hv
      have hS := strs_vals hv
      refine wpAny_bind (wpAny_holding (wpAny_call_entry PyProof.Rows.slot_list_sort ⟨_, hoL, rfl⟩ PyProof.Rows.entry_list_sort
        (PyProof.Rows.list_sort_treeK PyProof.Rows.strKind_oneLt (s := { s with heap := h'.push (PyProof.Rows.seqObj "list" acc.toList.toArray 0), toks := tk }) hoL hS.keysOf (fun v₁ v₂ rest e => PyProof.Rows.keyKind_strs (by rw [← e]; exact hS)) (by rw [hal]; exact h64) fun st' hp hs => ⟨_, rfl, ?_⟩)
        (PyProof.Rows.args_list_sort _)))
      obtain ⟨ys', g1, g2, g3⟩ := PyProof.Rows.sorted_out_str hS hp hs
      obtain ⟨e', he'⟩ := PyProof.Rows.sortedHeap_at (vs := acc.toList) (out := (PyProof.Rows.arrOf st').map (·.2)) hoL
      have hlen : (ys'.map V.str).length ≤ sizeLine := by
        rw [List.length_map, g2.length_eq, List.length_map, sizeLine_eq]
        have := congrArg List.length q1; rw [List.length_map] at this; omega
      rw [q1, sort_strs g2 g3] at q
      exact wpAny_pure ⟨_, rfl, .ref h'.objs.size, upd H h'.objs.size (.lst (ys'.map V.str)), I1.laid (t' := tk) (old _) (Nat.le_refl _)
        (show ObjOk X.prog X.w _ _ _ (.lst (ys'.map V.str)) from ⟨hlen, ((PyProof.Rows.arrOf st').map (·.2)).toList, e', vals_of_strs g1, by rw [Array.toArray_toList]; exact he'⟩), rfl, q.lst gh (reps_strs ys') _ (I1.hok.fresh (Nat.le_refl _))⟩
    · obtain ⟨q1, q2⟩ := ints_rep hz h3
      rw [q2] at hv
      have hS := ints_vals hv
      refine wpAny_bind (wpAny_holding (wpAny_call_entry PyProof.Rows.slot_list_sort ⟨_, hoL, rfl⟩ PyProof.Rows.entry_list_sort
        (PyProof.Rows.list_sort_tree (s := { s with heap := h'.push (PyProof.Rows.seqObj "list" acc.toList.toArray 0), toks := tk }) hoL hS (by rw [hal]; exact h64) fun out ys' g1 g2 g3 => ⟨_, rfl, ?_⟩) (PyProof.Rows.args_list_sort _)))
      obtain ⟨e', he'⟩ := PyProof.Rows.sortedHeap_at (vs := acc.toList) (out := out) hoL
      have hlen : (ys'.map V.int).length ≤ sizeLine := by
        rw [List.length_map, g2.length_eq, sizeLine_eq]
        have := congrArg List.length q1; rw [List.length_map] at this; omega
      rw [q1, sort_ints g2 g3] at q
      exact wpAny_pure ⟨_, rfl, .ref h'.objs.size, upd H h'.objs.size (.lst (ys'.map V.int)), I1.laid (t' := tk) (old _) (Nat.le_refl _)
        (show ObjOk X.prog X.w _ _ _ (.lst (ys'.map V.int)) from ⟨hlen, out.toList, e', vals_of_ints g1, by rw [Array.toArray_toList]; exact he'⟩), rfl, q.lst gh (reps_ints ys') _ (I1.hok.fresh (Nat.le_refl _))⟩
  | _ => cases hd
end
end Rl
set_option Elab.async false
set_option linter.all false
set_option maxRecDepth 100000
set_option autoImplicit false
/-! Roundlines: copies of dicts, classes of errors, walks over dicts. -/
namespace Rl
open PySem L2
section
variable {X : Cx} {cls : String → Addr}
theorem NewP.dct {c : Cn} {G H : Hp} {Q : VK} {ks vs : List D} {ys xs : List V} {o : Obj} (q : NewP c G H .own (.dct ks vs) Q) (gh : Same G H) {p : Addr} (hp : H p = none) (hm : (p == sysModules) = false) (dd : DObj c o ks ys xs) (rk : Reps c G ks ys) (rv : Reps c G vs xs) : Q (.ref p) (upd H p (dO p o)) :=
  q _ _ G [p] (same_upd hp) (Same.refl _) (fun b u e => by rw [upd_ne (ne_of_none (gh _ _ e) hp)]; exact gh _ _ e) (fun _ _ e => .inl e) (fun a ha => by
    have e : a = p := by simpa using ha
    subst e; exact ⟨hp, gnone gh hp⟩) ⟨p, rfl, rfl, o, ys, xs, upd_same, hm, dd, rk, rv⟩
theorem p_dictD : CallR X (.type "dict") (rP (cn X cls) .dictD) := by
  intro pins s σ H xs us Q I rx h
  obtain ⟨G, ds, sh, d, gh, fl, e, q⟩ := h
  simp only [prim] at e
  split at e
  · rename_i ks vs
    split at e
    · rename_i hl
      rw [Bool.and_eq_true] at hl
      cases e
      obtain ⟨x, rfl, f1⟩ := Flats.one fl
      obtain ⟨u, rfl, r1⟩ := Vals.one rx
      obtain ⟨a, o, ys, ws, rfl, h1, h2, h3, h4⟩ := f1
      cases (show u = Value.ref a from r1)
      obtain ⟨kvs, p1, p2, p3⟩ := dict_leaf I h1 h2 h3 hl.1
      have hz : ks.length ≤ sizeLine := h2.2.1
      have hkl : kvs.length = ks.length := by have := congrArg List.length p2; simpa using this
      refine kt_call_dict h1.2 p1 (by omega) fun h' d' hs => ?_
      have hm : (s.heap.objs.size == sysModules) = false := beq_eq_false_iff_ne.mpr (Nat.ne_of_gt I.big)
      obtain ⟨o', e1, e2⟩ := dobj_leaf (cls := cls) d' p2 hl.1 hz p3
      exact ⟨.ref s.heap.objs.size, _, I.laid (t' := s.toks) (fun b u e => (hs.2 b (Nat.ne_of_lt (Heap.lt_size e))).trans (Heap.get?_push_of_some _ e)) (Nat.le_refl _) (dO_new e1), rfl, q.dct gh (I.hok.fresh (Nat.le_refl _)) hm e2 (reps_leaf hl.1) h4⟩
    · cases e
  · cases e
theorem pairs_rep {c : Cn} {G : Hp} : ∀ {l : List D} {xs : List V} {ps : List (D × D)}, pairsOf l = some ps → Reps c G l xs → ∃ as : List Addr, xs = as.map V.ref ∧ as.length = ps.length ∧ ∀ (j : Nat) (p : D × D), ps[j]? = some p → ∃ a x y, as[j]? = some a ∧ SqT c.K G a [x, y] ∧ Rep c G p.1 x ∧ Rep c G p.2 y
  | [], xs, ps, e, r => by cases e; exact ⟨[], r, rfl, fun j p h => by simp at h⟩
  | .tup [k, v] :: l, xs, ps, e, ⟨x, r, e1, ⟨a, ys, e2, h1, h2⟩, h3⟩ => by
    obtain ⟨ps', hz, rfl⟩ := Option.map_eq_some_iff.mp e
    obtain ⟨as, q1, q2, q3⟩ := pairs_rep hz h3
    obtain ⟨x1, r1, rfl, g1, x2, r2, rfl, g2, e3⟩ := h2
    rw [show r2 = [] from e3] at h1
    refine ⟨a :: as, by rw [e1, e2, q1]; rfl, by rw [List.length_cons, List.length_cons, q2], fun j p h => ?_⟩
    cases j with
    | zero => cases (show some (k, v) = some p from h); exact ⟨a, x1, x2, rfl, h1, g1, g2⟩
    | succ j =>
      obtain ⟨a', x', y', z⟩ := q3 j p (by simpa using h)
      exact ⟨a', x', y', by simpa using z.1, z.2⟩
theorem all_putK {ks : List D} {x : D} (h1 : x.leaf = true) (h2 : ks.all D.leaf = true) : (putK ks x).all D.leaf = true := d_set.all_putK h1 h2
/-- pairs, one behind the other -/
theorem putP_merge {c : Cn} {G : Hp} : ∀ {ps : List (D × D)} {prs : List (Key × Value)} {ks vs ks' vs' : List D} {xs : List V} {kvs : List (Key × Value)},
    ps.all (fun p => p.1.leaf) = true → prs.length = ps.length → (∀ (j : Nat) (p : D × D) (q : Key × Value), ps[j]? = some p → prs[j]? = some q → q.1 = keyL p.1 ∧ ∃ v, RelV v q.2 ∧ Rep c G p.2 v) →
    putP ps ks vs = some (ks', vs') → ks.all D.leaf = true → kvs.map (·.1) = ks.map keyL → (kvs.map (·.1)).Nodup → Vals xs (kvs.map (·.2)) → Reps c G vs xs →
    ks'.all D.leaf = true ∧ ks'.length ≤ ks.length + ps.length ∧ (merged kvs prs).map (·.1) = ks'.map keyL ∧ ∃ xs', Vals xs' ((merged kvs prs).map (·.2)) ∧ Reps c G vs' xs'
  | [], prs, ks, vs, ks', vs', xs, kvs, _, hl, _, e, h1, h2, h3, h4, h5 => by
    have e1 : prs = [] := by simpa using hl
    subst e1
    cases e
    exact ⟨h1, by simp, h2, xs, h4, h5⟩
  | p :: ps, prs, ks, vs, ks', vs', xs, kvs, ha, hl, hr, e, h1, h2, h3, h4, h5 => by
    match prs, hl, hr with
    | [], hl, _ => simp at hl
    | q :: prs, hl, hr =>
      rw [List.all_cons, Bool.and_eq_true] at ha
      obtain ⟨g1, v, g2, g3⟩ := hr 0 p q rfl rfl
      obtain ⟨p1, p2⟩ := p
      simp only [putP] at e
      split at e
      · rename_i hf
        have hp1 : p1.leaf = true := ha.1
        obtain ⟨i1, xs', i2, i3⟩ := put_val g2 g3 (apart_leaf hp1 h1) h2 h3 h4 h5
        have hn : ((stored kvs (keyL p1) q.2).map (·.1)).Nodup := stored_nodup h3
        have key := putP_merge (c := c) (G := G) (prs := prs) (kvs := stored kvs (keyL p1) q.2) ha.2 (by simpa using hl) (fun j p q h h' => hr (j + 1) p q (by simpa using h) (by simpa using h')) e (all_putK hp1 h1) i1 hn i2 i3
        obtain ⟨k1, k2, k3, k4⟩ := key
        have em : merged kvs (q :: prs) = merged (stored kvs (keyL p1) q.2) prs := by
          show merged (stored kvs q.1 q.2) prs = _
          rw [g1]
        refine ⟨k1, ?_, by rw [em]; exact k3, by rw [em]; exact k4⟩
        have := length_putK p1 ks
        rw [List.length_cons]; omega
      · cases e
where
  stored_nodup {kvs : List (Key × Value)} {k : Key} {u : Value} (h : (kvs.map (·.1)).Nodup) : ((stored kvs k u).map (·.1)).Nodup := by
    unfold stored
    split
    · rw [List.map_map]
      have : (kvs.map ((fun x => x.1) ∘ fun kv => if kv.1 = k then (kv.1, u) else kv)) = kvs.map (·.1) := by
        refine List.map_congr_left fun p _ => ?_
        simp only [Function.comp]
        split <;> rfl
      rw [this]; exact h
    · rename_i hn
      rw [List.map_append, List.nodup_append]
      refine ⟨h, by simp, fun a ha b hb => ?_⟩
      have eb : b = k := by simpa using hb
      subst eb
      obtain ⟨p, hp, rfl⟩ := List.mem_map.mp ha
      exact fun z => hn (List.any_eq_true.mpr ⟨p, hp, decide_eq_true z⟩)
theorem p_dictP (hc : X.calm = true) : CallR X (.type "dict") (rP (cn X cls) .dictP) := by
  intro pins s σ H xs us Q I rx h
  obtain ⟨G, ds, sh, d, gh, fl, e, q⟩ := h
  simp only [prim] at e
  split at e
  · rename_i l
    obtain ⟨ps, e1, e2⟩ := Option.bind_eq_some_iff.mp e
    split at e2
    · rename_i hl
      rw [Bool.and_eq_true, decide_eq_true_eq] at hl
      obtain ⟨⟨ks', vs'⟩, e3, e4⟩ := Option.map_eq_some_iff.mp e2
      cases e4
      obtain ⟨x, rfl, f1⟩ := Flats.one fl
      obtain ⟨u, rfl, r1⟩ := Vals.one rx
      obtain ⟨a, ys, rfl, h1, h2⟩ := f1
      cases (show u = Value.ref a from r1)
      obtain ⟨as, q1, q2, q3⟩ := pairs_rep e1 h2
      obtain ⟨its, rv, pl, hz⟩ := I.list (SqL.of (K := X.K) h1)
      subst q1
      have ei := refs_at rv
      subst ei
      rw [List.length_map] at hz
      have hps : ∀ j < ps.length, ∃ k w : Value, ∃ a y, as[j]? = some a ∧ PyProof.Rows.IsTup s.heap a #[k, w] ∧ (∀ p, ps[j]? = some p → keyIs (keyL p.1) k = true ∧ RelV y w ∧ Rep (cn X cls) G p.2 y) := by
        intro j hj
        obtain ⟨p, hp⟩ : ∃ p, ps[j]? = some p := ⟨ps[j], List.getElem?_eq_getElem hj⟩
        obtain ⟨a, x, y, z1, z2, z3, z4⟩ := q3 j p hp
        obtain ⟨it2, rv2, ht, _⟩ := I.tuple (Same.sqT gh z2)
        obtain ⟨k, w, ei, rk, rw'⟩ := vals2 rv2
        subst ei
        refine ⟨k, w, a, y, z1, ht, fun p' hp' => ?_⟩
        rw [hp] at hp'
        cases hp'
        have hleaf : p.1.leaf = true := List.all_eq_true.mp hl.2 p (List.mem_of_getElem? hp)
        exact ⟨leaf_is (X := X) (cls := cls) (G := G) (H := H) hleaf (Flat.of gh z3) rk, rw', z4⟩
      obtain ⟨prs, g1, g2⟩ : ∃ prs : List (Key × Value), prs.length = ps.length ∧ ∀ (j : Nat) (p : D × D) (q : Key × Value), ps[j]? = some p → prs[j]? = some q → q.1 = keyL p.1 ∧ ∃ a k y, as[j]? = some a ∧ PyProof.Rows.IsTup s.heap a #[k, q.2] ∧ keyIs (keyL p.1) k = true ∧ RelV y q.2 ∧ Rep (cn X cls) G p.2 y := by
        refine build ps as.length (fun (j : Nat) (p : D × D) (q : Key × Value) => q.1 = keyL p.1 ∧ ∃ a k y, as[j]? = some a ∧ PyProof.Rows.IsTup s.heap a #[k, q.2] ∧ keyIs (keyL p.1) k = true ∧ RelV y q.2 ∧ Rep (cn X cls) G p.2 y) fun j p hp => ?_
        have hj : j < ps.length := by
          rcases Nat.lt_or_ge j ps.length with z | z
          · exact z
          · rw [List.getElem?_eq_none z] at hp; cases hp
        obtain ⟨k, w, a, y, z1, z2, z3⟩ := hps j hj
        obtain ⟨z4, z5, z6⟩ := z3 p hp
        exact ⟨(keyL p.1, w), rfl, a, k, y, z1, z2, z4, z5, z6⟩
      obtain ⟨m1, m2, m3, xs', m4, m5⟩ := putP_merge (c := cn X cls) (G := G) (kvs := []) (xs := []) hl.2 g1 (fun j p q h h' => ⟨(g2 j p q h h').1, by obtain ⟨_, a, k, y, _, _, _, z5, z6⟩ := g2 j p q h h'; exact ⟨y, z5, z6⟩⟩) e3 rfl rfl List.nodup_nil .nil rfl
      obtain ⟨o, n, ho, hcl, hdn, hdat⟩ := pl
      have hpl : ps.length = as.length := q2.symm
      refine L2.call_dict_pairs (prs := prs) (I.ok.hd hc) ho hcl hdn hdat (by simp [g1, hpl]) (by rw [g1, hpl]; exact hz) (fun j q' e => ?_) fun h' tk hd' k => ?_
      · have hj : j < ps.length := by
          rcases Nat.lt_or_ge j prs.length with z | z
          · omega
          · rw [List.getElem?_eq_none z] at e; cases e
        obtain ⟨z0, a, k, y, z1, z2, z3, _⟩ := g2 j ps[j] q' (List.getElem?_eq_getElem hj) e
        exact ⟨a, k, by simp [z1], z2, by rw [z0]; exact z3⟩
      · have hm : (s.heap.objs.size == sysModules) = false := beq_eq_false_iff_ne.mpr (Nat.ne_of_gt I.big)
        have hzz : ks'.length ≤ sizeLine := by
          rw [List.length_nil, Nat.zero_add] at m2
          exact Nat.le_trans m2 (by rw [hpl]; exact hz)
        obtain ⟨o', e5, e6⟩ := dobj_leaf (cls := cls) hd' m3 m1 hzz m4
        exact ⟨.ref s.heap.objs.size, _, I.laid (t' := tk) k (Nat.le_refl _) (dO_new e5), rfl, q.dct gh (I.hok.fresh (Nat.le_refl _)) hm e6 (reps_leaf m1) m5⟩
    · cases e2
  · cases e
where
  build {α β : Type} : ∀ (ps : List α) (n : Nat) (R : Nat → α → β → Prop), (∀ (j : Nat) (p : α), ps[j]? = some p → ∃ q, R j p q) → ∃ qs : List β, qs.length = ps.length ∧ ∀ (j : Nat) (p : α) (q : β), ps[j]? = some p → qs[j]? = some q → R j p q
    | [], _, _, _ => ⟨[], rfl, fun j p q h => by simp at h⟩
    | a :: ps, n, R, h => by
      obtain ⟨q0, h0⟩ := h 0 a rfl
      obtain ⟨qs, h1, h2⟩ := build ps n (fun j p q => R (j + 1) p q) fun j p hp => h (j + 1) p (by simpa using hp)
      refine ⟨q0 :: qs, by simp [h1], fun j p q hp hq => ?_⟩
      cases j with
      | zero => cases (show some a = some p from hp); cases (show some q0 = some q from hq); exact h0
      | succ j => exact h2 j p q (by simpa using hp) (by simpa using hq)

/-! ### classes of errors -/
/-- what the classes of errors say; us: the class that is asked about -/
structure IsxOk (K : PySem.W.Frag) (cls : String → Addr) (t : String) (cv : Value) : Prop where
  exc : ∀ k ∈ errs, ExcC K (cls k)
  kit : ∀ k ∈ errs, PySem.W.kitOne K (.ref (cls k)) cv = some (decide (k = t) || decide (t = "ValueError"))
theorem p_isx {t : String} {tv : V} {cv : Value} (hv : ∀ u, RelV tv u → u = cv) (K : IsxOk X.K cls t cv) : CallR X (.builtin "isinstance") (fun xs H Q => ∃ x, xs = [x, tv] ∧ rP (cn X cls) (.isx t) [x] H Q) := by
  intro pins s σ H xs us Q I rx ⟨x, ex, h⟩
  subst ex
  obtain ⟨u1, u2, rfl, r1, r2⟩ := vals2 rx
  have e2 := hv _ r2
  subst e2
  obtain ⟨G, d1, sh, d, gh, f1, e, q⟩ := h.one
  simp only [prim] at e
  split at e
  · rename_i k q'
    simp only [List.cons.injEq, and_true] at q'
    subst q'
    split at e
    · rename_i hk
      cases e
      obtain ⟨a, rfl, h1⟩ := f1
      cases (show u1 = Value.ref a from r1)
      obtain ⟨⟨oe, vs, g1, g2, g3⟩, _⟩ := I.hok a _ (gh _ _ h1)
      have C := K.exc k hk
      have J : PySem.W.InstAt s.heap a oe (cls k) none := by
        obtain ⟨oc, od, oda, osl⟩ := oe
        obtain ⟨z1, z2⟩ := g2
        dsimp only at z1 z2 g3
        have z1' : oc = .ref (cls k) := z1
        subst z1' z2 g3
        exact ⟨g1, rfl, rfl, trivial⟩
      exact PySem.W.kia_one (PySem.W.handS_kitx_exc C.hg C.hk C.hs C.hd C.ha C.hn C.ht C.hm) I.kIn J (K.kit k hk) (fun z => nomatch z) fun tk => ⟨.bl _, H, I.kept (t' := tk) fun _ _ z => z, rfl, q.sc gh rfl⟩
    · cases e
  · cases e
end
end Rl
set_option Elab.async false
set_option linter.all false
set_option maxRecDepth 100000
set_option autoImplicit false
/-! Roundlines, 4: the evaluator's steps as readings. -/
namespace Rl
open PySem L2

abbrev WP := String → Env → Prop
/-- a value of an operand -/
def PdR (c : Cn) (G : Hp) (σ : St) (p : Pd) (v : V) : Prop := match p with
  | .v i => σ[i]? = some (some v)
  | .d x => Rep c G x v
def PdRs (c : Cn) (G : Hp) (σ : St) : List Pd → List V → Prop
  | [], vs => vs = []
  | p :: ps, vs => ∃ v r, vs = v :: r ∧ PdR c G σ p v ∧ PdRs c G σ ps r
section
variable (c : Cn) (n : En) (w : WP)
def Wx : WX := fun cl d σ H => ∃ k G Γ, cl = .ref (c.cls k) ∧ d = none ∧ Fr c n G H σ Γ [] ∧ w k Γ
def PostE (G : Hp) (σ : St) (r : R SD) (Q : VK) : Prop := match r with
  | .ok x Γ => ∀ v G' H' T, Same G G' → Fr c n G' H' σ Γ T → RepS c G' H' x.1 x.2 v T → Q v H'
  | .ex k Γ => w k Γ
  | .bad => False
def PostO (G : Hp) (σ : St) (r : R Pd) (Q : VK) : Prop := match r with
  | .ok p Γ => ∀ v G' H', Same G G' → Fr c n G' H' σ Γ [] → PdR c G' σ p v → Q v H'
  | .ex k Γ => w k Γ
  | .bad => False
def PostL (G : Hp) (σ : St) (r : R (List Pd)) (Q : List V → Hp → Prop) : Prop := match r with
  | .ok ps Γ => ∀ vs G' H', Same G G' → Fr c n G' H' σ Γ [] → PdRs c G' σ ps vs → Q vs H'
  | .ex k Γ => w k Γ
  | .bad => False
def PostD (G : Hp) (σ : St) (r : R (List D)) (Q : List V → Hp → Prop) : Prop := match r with
  | .ok ds Γ => ∀ vs G' H', Same G G' → Fr c n G' H' σ Γ [] → Reps c G' ds vs → Q vs H'
  | .ex k Γ => w k Γ
  | .bad => False
def PostT (G : Hp) (σ : St) (r : R Bool) (Q : Bool → Hp → Prop) : Prop := match r with
  | .ok b Γ => ∀ G' H', Same G G' → Fr c n G' H' σ Γ [] → Q b H'
  | .ex k Γ => w k Γ
  | .bad => False
def tF (f : Env → R SD) : L2.TE := fun σ H Q => ∃ G Γ, Fr c n G H σ Γ [] ∧ PostE c n w G σ (f Γ) Q
def tFO (f : Env → R Pd) : L2.TE := fun σ H Q => ∃ G Γ, Fr c n G H σ Γ [] ∧ PostO c n w G σ (f Γ) Q
def tFL (f : Env → R (List Pd)) : TA := fun σ H Q => ∃ G Γ, Fr c n G H σ Γ [] ∧ PostL c n w G σ (f Γ) Q
def tFD (f : Env → R (List D)) : TA := fun σ H Q => ∃ G Γ, Fr c n G H σ Γ [] ∧ PostD c n w G σ (f Γ) Q
def tFT (f : Env → R Bool) : L2.TT := fun σ H Q => ∃ G Γ, Fr c n G H σ Γ [] ∧ PostT c n w G σ (f Γ) Q
end
theorem PEx.imp {X : Cx} {e : Expr} {t t' : L2.TE} (h : PE X e t) (k : ∀ σ H Q, t' σ H Q → t σ H Q) : PE X e t' := ⟨fun pins s σ H Q I q => h.run pins s σ H Q I (k _ _ _ q)⟩
theorem PTx.imp {X : Cx} {e : Expr} {t t' : L2.TT} (h : PT X e t) (k : ∀ σ H Q, t' σ H Q → t σ H Q) : PT X e t' := ⟨fun pins s σ H Q I q => h.run pins s σ H Q I (k _ _ _ q)⟩
theorem PAx.imp {X : Cx} {es : List Expr} {t t' : TA} (h : PA X es t) (k : ∀ σ H Q, t' σ H Q → t σ H Q) : PA X es t' := ⟨fun pos pins s σ H Q I q => h.run pos pins s σ H Q I (k _ _ _ q)⟩

section
variable {c : Cn} {n : En} {w : WP} {G G' H : Hp} {σ : St} {Γ : Env} {Q : VK}
theorem PdR.mono (s : Same G G') {p : Pd} {v : V} (h : PdR c G σ p v) : PdR c G' σ p v := by
  cases p with
  | v i => exact h
  | d x => exact Rep.mono s _ _ h
theorem PdRs.mono (s : Same G G') : ∀ {ps : List Pd} {vs : List V}, PdRs c G σ ps vs → PdRs c G' σ ps vs
  | [], vs, h => h
  | p :: ps, vs, ⟨v, r, e, h1, h2⟩ => ⟨v, r, e, h1.mono s, PdRs.mono s h2⟩
theorem PdR.flat {p : Pd} {v : V} {d : D} (f : Fr c n G H σ Γ []) (h : PdR c G σ p v) (e : p.get Γ = some d) : Flat c G H d v := by
  cases p with
  | v i =>
    obtain ⟨⟨s, d'⟩, e1, e2⟩ := Option.map_eq_some_iff.mp e
    cases e2
    obtain ⟨v', hv, hf⟩ := f.look e1
    have h : σ[i]? = some (some v) := h
    rw [h] at hv
    cases hv
    exact hf
  | d x =>
    cases e
    exact Flat.of f.gh h
theorem PdRs.flats (f : Fr c n G H σ Γ []) : ∀ {ps : List Pd} {vs : List V} {ds : List D}, PdRs c G σ ps vs → gets Γ ps = some ds → Flats c G H ds vs
  | [], vs, ds, h, e => by cases e; exact h
  | p :: ps, vs, ds, ⟨v, r, ev, h1, h2⟩, e => by
    simp only [gets] at e
    split at e
    · rename_i d ds' e1 e2
      cases e
      exact ⟨v, r, ev, h1.flat f e1, PdRs.flats f h2 e2⟩
    · cases e
/-- an operation at the end -/
theorem app_new {r : SD} (f : Fr c n G' H σ Γ []) (s : Same G G') (q : PostE c n w G σ (.ok r Γ) Q) : NewP c G' H r.1 r.2 Q := fun v H1 G1 T hH hG gh hn hT rp =>
  q v G1 H1 T (s.trans hG) (f.ext hH hG gh hn hT) rp
theorem app_ok {p : P} {ps : List Pd} {vs : List V} (f : Fr c n G' H σ Γ []) (s : Same G G') (h : PdRs c G' σ ps vs)
    (q : PostE c n w G σ (match (gets Γ ps).bind (prim p) with
      | some r => .ok r Γ
      | none => .bad) Q) : rP c p vs H Q := by
  cases e : (gets Γ ps).bind (prim p) with
  | none => rw [e] at q; exact q.elim
  | some r =>
    rw [e] at q
    obtain ⟨ds, e1, e2⟩ := Option.bind_eq_some_iff.mp e
    exact ⟨G', ds, r.1, r.2, f.gh, h.flats f e1, e2, app_new f s q⟩
theorem PostE.ok {x : SD} {v : V} {T : List Addr} (q : PostE c n w G σ (.ok x Γ) Q) (s : Same G G') (f : Fr c n G' H σ Γ T) (r : RepS c G' H x.1 x.2 v T) : Q v H := q v G' H T s f r
/-- two operands -/
theorem bin_imp {p : P} {fa fb : Env → R Pd} {H : Hp} (h : tF c n w (fun Γ => (fa Γ).bind fun x Γ => (fb Γ).bind fun y Γ => match (gets Γ [x, y]).bind (prim p) with
      | some r => .ok r Γ
      | none => .bad) σ H Q) : tOp (fun x y H Q => rP c p [x, y] H Q) (tFO c n w fa) (tFO c n w fb) σ H Q := by
  obtain ⟨G, Γ, f, q⟩ := h
  refine ⟨G, Γ, f, ?_⟩
  cases e : fa Γ with
  | bad => simp only [e] at q; exact q
  | ex k Γ1 => simp only [e] at q; exact q
  | ok x Γ1 =>
    simp only [e, R.bind] at q
    intro v1 G1 H1 s1 f1 r1
    refine ⟨G1, Γ1, f1, ?_⟩
    cases e2 : fb Γ1 with
    | bad => simp only [e2] at q; exact q
    | ex k Γ2 => simp only [e2] at q; exact q
    | ok y Γ2 =>
      simp only [e2] at q
      intro v2 G2 H2 s2 f2 r2
      exact app_ok (ps := [x, y]) f2 (s1.trans s2) ⟨v1, [v2], rfl, r1.mono s2, v2, [], rfl, r2, rfl⟩ q
/-- one operand -/
theorem un_imp {p : P} {fa : Env → R Pd} {H : Hp} (h : tF c n w (fun Γ => (fa Γ).bind fun x Γ => match (gets Γ [x]).bind (prim p) with
      | some r => .ok r Γ
      | none => .bad) σ H Q) : tUn (fun x H Q => rP c p [x] H Q) (tFO c n w fa) σ H Q := by
  obtain ⟨G, Γ, f, q⟩ := h
  refine ⟨G, Γ, f, ?_⟩
  cases e : fa Γ with
  | bad => simp only [e] at q; exact q
  | ex k Γ1 => simp only [e] at q; exact q
  | ok x Γ1 =>
    simp only [e, R.bind] at q
    intro v1 G1 H1 s1 f1 r1
    exact app_ok (ps := [x]) f1 s1 ⟨v1, [], rfl, r1, rfl⟩ q
/-- a list of operands, then an operation -/
theorem args_imp {p : P} {fs : Env → R (List Pd)} {H : Hp} (h : tF c n w (fun Γ => (fs Γ).bind fun ps Γ => match (gets Γ ps).bind (prim p) with
      | some r => .ok r Γ
      | none => .bad) σ H Q) : tCB (rP c p) (tFL c n w fs) σ H Q := by
  obtain ⟨G, Γ, f, q⟩ := h
  refine ⟨G, Γ, f, ?_⟩
  cases e : fs Γ with
  | bad => simp only [e] at q; exact q
  | ex k Γ1 => simp only [e] at q; exact q
  | ok ps Γ1 =>
    simp only [e, R.bind] at q
    intro vs G1 H1 s1 f1 r1
    exact app_ok f1 s1 r1 q
theorem nil_imp {Q : List V → Hp → Prop} {H : Hp} (h : tFL c n w (fun Γ => .ok [] Γ) σ H Q) : tNil σ H Q := by
  obtain ⟨G, Γ, f, q⟩ := h
  exact q [] G H (Same.refl _) f rfl
theorem cons_imp {fa : Env → R Pd} {fs : Env → R (List Pd)} {Q : List V → Hp → Prop} {H : Hp} (h : tFL c n w (fun Γ => (fa Γ).bind fun x Γ => (fs Γ).bind fun xs Γ => .ok (x :: xs) Γ) σ H Q) : tCons (tFO c n w fa) (tFL c n w fs) σ H Q := by
  obtain ⟨G, Γ, f, q⟩ := h
  refine ⟨G, Γ, f, ?_⟩
  cases e : fa Γ with
  | bad => simp only [e] at q; exact q
  | ex k Γ1 => simp only [e] at q; exact q
  | ok x Γ1 =>
    simp only [e, R.bind] at q
    intro v1 G1 H1 s1 f1 r1
    refine ⟨G1, Γ1, f1, ?_⟩
    cases e2 : fs Γ1 with
    | bad => simp only [e2] at q; exact q
    | ex k Γ2 => simp only [e2] at q; exact q
    | ok xs Γ2 =>
      simp only [e2] at q
      intro vs G2 H2 s2 f2 r2
      exact q (v1 :: vs) G2 H2 (s1.trans s2) f2 ⟨v1, vs, rfl, r1.mono s2, r2⟩
/-- shared values -/
theorem nilD_imp {Q : List V → Hp → Prop} {H : Hp} (h : tFD c n w (fun Γ => .ok [] Γ) σ H Q) : tNil σ H Q := by
  obtain ⟨G, Γ, f, q⟩ := h
  exact q [] G H (Same.refl _) f rfl
theorem consD_imp {fa : Env → R SD} {fs : Env → R (List D)} {Q : List V → Hp → Prop} {H : Hp} (h : tFD c n w (fun Γ => (fa Γ).bind fun x Γ => (fs Γ).bind fun xs Γ => .ok (x.2 :: xs) Γ) σ H Q) : tCons (tF c n w fa) (tFD c n w fs) σ H Q := by
  obtain ⟨G, Γ, f, q⟩ := h
  refine ⟨G, Γ, f, ?_⟩
  cases e : fa Γ with
  | bad => simp only [e] at q; exact q
  | ex k Γ1 => simp only [e] at q; exact q
  | ok x Γ1 =>
    simp only [e, R.bind] at q
    intro v1 G1 H1 T s1 f1 r1
    obtain ⟨G1', s1', f1', r1'⟩ := f1.freeze r1
    refine ⟨G1', Γ1, f1', ?_⟩
    cases e2 : fs Γ1 with
    | bad => simp only [e2] at q; exact q
    | ex k Γ2 => simp only [e2] at q; exact q
    | ok xs Γ2 =>
      simp only [e2] at q
      intro vs G2 H2 s2 f2 r2
      exact q (v1 :: vs) G2 H2 ((s1.trans s1').trans s2) f2 ⟨v1, vs, rfl, Rep.mono s2 _ _ r1', r2⟩
/-- an expression as an operand -/
theorem opE_imp {fa : Env → R SD} {H : Hp} (h : tFO c n w (fun Γ => (fa Γ).bind fun x Γ => .ok (.d x.2) Γ) σ H Q) : tF c n w fa σ H Q := by
  obtain ⟨G, Γ, f, q⟩ := h
  refine ⟨G, Γ, f, ?_⟩
  cases e : fa Γ with
  | bad => simp only [e] at q; exact q
  | ex k Γ1 => simp only [e] at q; exact q
  | ok x Γ1 =>
    simp only [e, R.bind] at q
    intro v1 G1 H1 T s1 f1 r1
    obtain ⟨G1', s1', f1', r1'⟩ := f1.freeze r1
    exact q v1 G1' H1 (s1.trans s1') f1' r1'
/-- tuples and lists -/
theorem tup_imp {fs : Env → R (List D)} {H : Hp} (h : tF c n w (fun Γ => (fs Γ).bind fun ds Γ => if ds.length ≤ most then .ok (.fz, .tup ds) Γ else .bad) σ H Q) : tTup (tFD c n w fs) σ H Q := by
  obtain ⟨G, Γ, f, q⟩ := h
  refine ⟨G, Γ, f, ?_⟩
  cases e : fs Γ with
  | bad => simp only [e] at q; exact q
  | ex k Γ1 => simp only [e] at q; exact q
  | ok ds Γ1 =>
    simp only [e, R.bind] at q
    intro vs G1 H1 s1 f1 r1
    split at q
    · rename_i hl
      exact ⟨by rw [r1.length]; exact Nat.le_trans hl most_line, (app_new (r := (.fz, .tup ds)) f1 s1 q).tup f1.gh r1⟩
    · exact q.elim
theorem lst_imp {fs : Env → R (List D)} {H : Hp} (h : tF c n w (fun Γ => (fs Γ).bind fun ds Γ => if ds.length ≤ most then .ok (.own, .lst ds) Γ else .bad) σ H Q) : tLst (tFD c n w fs) σ H Q := by
  obtain ⟨G, Γ, f, q⟩ := h
  refine ⟨G, Γ, f, ?_⟩
  cases e : fs Γ with
  | bad => simp only [e] at q; exact q
  | ex k Γ1 => simp only [e] at q; exact q
  | ok ds Γ1 =>
    simp only [e, R.bind] at q
    intro vs G1 H1 s1 f1 r1
    split at q
    · rename_i hl
      exact ⟨by rw [r1.length]; exact Nat.le_trans hl most_line, (app_new (r := (.own, .lst ds)) f1 s1 q).lst f1.gh r1⟩
    · exact q.elim
/-- names -/
theorem var_imp {i : Nat} {H : Hp} (h : tF c n w (fun Γ => match slot Γ i with
      | some (_, d) => .ok (.fz, d) (Γ.set i (some (.fz, d)))
      | none => .bad) σ H Q) : tVar i σ H Q := by
  obtain ⟨G, Γ, f, q⟩ := h
  cases e : slot Γ i with
  | none => simp only [e] at q; exact q.elim
  | some x =>
    obtain ⟨s, d⟩ := x
    simp only [e] at q
    obtain ⟨G1, v, s1, f1, hv, r⟩ := f.share e
    exact ⟨v, hv, q v G1 H [] s1 f1 ⟨rfl, r⟩⟩
theorem mov_imp {i : Nat} {H : Hp} (h : tF c n w (fun Γ => match slot Γ i with
      | some (s, d) => .ok (s, d) (Γ.set i none)
      | none => .bad) σ H Q) : tVar i σ H Q := by
  obtain ⟨G, Γ, f, q⟩ := h
  cases e : slot Γ i with
  | none => simp only [e] at q; exact q.elim
  | some x =>
    obtain ⟨s, d⟩ := x
    simp only [e] at q
    obtain ⟨v, T, hv, r, f1⟩ := f.move e
    exact ⟨v, hv, q v G H T (Same.refl _) f1 r⟩
theorem look_imp {i : Nat} {H : Hp} (h : tFO c n w (fun Γ => match slot Γ i with
      | some _ => .ok (.v i) Γ
      | none => .bad) σ H Q) : tVar i σ H Q := by
  obtain ⟨G, Γ, f, q⟩ := h
  cases e : slot Γ i with
  | none => simp only [e] at q; exact q.elim
  | some x =>
    obtain ⟨s, d⟩ := x
    simp only [e] at q
    obtain ⟨v, hv, _⟩ := f.look e
    exact ⟨v, hv, q v G H (Same.refl _) f hv⟩
theorem cst_imp {d : D} {v : V} {H : Hp} (r : ∀ G, Rep c G d v) (h : tF c n w (fun Γ => .ok (.fz, d) Γ) σ H Q) : tC v σ H Q := by
  obtain ⟨G, Γ, f, q⟩ := h
  exact q v G H [] (Same.refl _) f ⟨rfl, r G⟩
/-- ways -/
theorem ite_imp {ft : Env → R Bool} {fa fb : Env → R SD} {H : Hp} (h : tF c n w (fun Γ => (ft Γ).bind fun x Γ => match x with
      | true => fa Γ
      | false => fb Γ) σ H Q) : tIf (tFT c n w ft) (tF c n w fa) (tF c n w fb) σ H Q := by
  obtain ⟨G, Γ, f, q⟩ := h
  refine ⟨G, Γ, f, ?_⟩
  cases e : ft Γ with
  | bad => simp only [e] at q; exact q
  | ex k Γ1 => simp only [e] at q; exact q
  | ok b Γ1 =>
    simp only [e, R.bind] at q
    intro G1 H1 s1 f1
    cases b with
    | true =>
      simp only [if_true]
      exact ⟨G1, Γ1, f1, mono q s1⟩
    | false =>
      simp only [Bool.false_eq_true, if_false]
      exact ⟨G1, Γ1, f1, mono q s1⟩
where
  mono {c : Cn} {n : En} {w : WP} {G G' : Hp} {σ : St} {Q : VK} {r : R SD} (q : PostE c n w G σ r Q) (s : Same G G') : PostE c n w G' σ r Q := by
    cases r with
    | ok x Γ => exact fun v G1 H1 T s1 f1 r1 => q v G1 H1 T (s.trans s1) f1 r1
    | ex k Γ => exact q
    | bad => exact q
theorem PostE.mono {r : R SD} (q : PostE c n w G σ r Q) (s : Same G G') : PostE c n w G' σ r Q := ite_imp.mono q s
theorem PostT.mono {r : R Bool} {Q : Bool → Hp → Prop} (q : PostT c n w G σ r Q) (s : Same G G') : PostT c n w G' σ r Q := by
  cases r with
  | ok x Γ => exact fun G1 H1 s1 f1 => q G1 H1 (s.trans s1) f1
  | ex k Γ => exact q
  | bad => exact q
theorem repS_bl {G : Hp} {H : Hp} {s : Sh} {b : Bool} {v : V} {T : List Addr} (r : RepS c G H s (.bl b) v T) : v = .bl b ∧ T = [] := by
  cases s with
  | fz => exact ⟨r.2, r.1⟩
  | own => obtain ⟨a, _, _, h⟩ := r; exact h.elim
theorem band_imp {fa fb : Env → R SD} {H : Hp} (h : tF c n w (fun Γ => (fa Γ).bind fun x Γ => match x.2 with
      | .bl true => fb Γ
      | .bl false => .ok (.fz, .bl false) Γ
      | _ => .bad) σ H Q) : tAndV (tF c n w fa) (tF c n w fb) σ H Q := by
  obtain ⟨G, Γ, f, q⟩ := h
  refine ⟨G, Γ, f, ?_⟩
  cases e : fa Γ with
  | bad => simp only [e] at q; exact q
  | ex k Γ1 => simp only [e] at q; exact q
  | ok x Γ1 =>
    obtain ⟨s, d⟩ := x
    simp only [e, R.bind] at q
    intro v1 G1 H1 T s1 f1 r1
    split at q
    · obtain ⟨rfl, rfl⟩ := repS_bl r1
      refine ⟨true, rfl, ?_⟩
      simp only [if_true]
      exact ⟨G1, Γ1, f1, q.mono s1⟩
    · obtain ⟨rfl, rfl⟩ := repS_bl r1
      refine ⟨false, rfl, ?_⟩
      simp only [Bool.false_eq_true, if_false]
      exact q _ G1 H1 [] s1 f1 ⟨rfl, rfl⟩
    · exact q.elim
theorem bor_imp {fa fb : Env → R SD} {H : Hp} (h : tF c n w (fun Γ => (fa Γ).bind fun x Γ => match x.2 with
      | .bl false => fb Γ
      | .bl true => .ok (.fz, .bl true) Γ
      | _ => .bad) σ H Q) : tOrV (tF c n w fa) (tF c n w fb) σ H Q := by
  obtain ⟨G, Γ, f, q⟩ := h
  refine ⟨G, Γ, f, ?_⟩
  cases e : fa Γ with
  | bad => simp only [e] at q; exact q
  | ex k Γ1 => simp only [e] at q; exact q
  | ok x Γ1 =>
    obtain ⟨s, d⟩ := x
    simp only [e, R.bind] at q
    intro v1 G1 H1 T s1 f1 r1
    split at q
    · obtain ⟨rfl, rfl⟩ := repS_bl r1
      refine ⟨false, rfl, ?_⟩
      simp only [Bool.false_eq_true, if_false]
      exact ⟨G1, Γ1, f1, q.mono s1⟩
    · obtain ⟨rfl, rfl⟩ := repS_bl r1
      refine ⟨true, rfl, ?_⟩
      simp only [if_true]
      exact q _ G1 H1 [] s1 f1 ⟨rfl, rfl⟩
    · exact q.elim
theorem bnot_imp {fa : Env → R SD} {H : Hp} (h : tF c n w (fun Γ => (fa Γ).bind fun x Γ => match x.2 with
      | .bl b => .ok (.fz, .bl (!b)) Γ
      | _ => .bad) σ H Q) : tNotV (tF c n w fa) σ H Q := by
  obtain ⟨G, Γ, f, q⟩ := h
  refine ⟨G, Γ, f, ?_⟩
  cases e : fa Γ with
  | bad => simp only [e] at q; exact q
  | ex k Γ1 => simp only [e] at q; exact q
  | ok x Γ1 =>
    obtain ⟨s, d⟩ := x
    simp only [e, R.bind] at q
    intro v1 G1 H1 T s1 f1 r1
    split at q
    · rename_i b
      obtain ⟨rfl, rfl⟩ := repS_bl r1
      exact ⟨b, rfl, q _ G1 H1 [] s1 f1 ⟨rfl, rfl⟩⟩
    · exact q.elim
/-- tests -/
theorem and_imp {fa fb : Env → R Bool} {Q : Bool → Hp → Prop} {H : Hp} (h : tFT c n w (fun Γ => (fa Γ).bind fun x Γ => match x with
      | true => fb Γ
      | false => .ok false Γ) σ H Q) : tAnd (tFT c n w fa) (tFT c n w fb) σ H Q := by
  obtain ⟨G, Γ, f, q⟩ := h
  refine ⟨G, Γ, f, ?_⟩
  cases e : fa Γ with
  | bad => simp only [e] at q; exact q
  | ex k Γ1 => simp only [e] at q; exact q
  | ok x Γ1 =>
    simp only [e, R.bind] at q
    intro G1 H1 s1 f1
    cases x with
    | true => simp only [if_true]; exact ⟨G1, Γ1, f1, q.mono s1⟩
    | false => simp only [Bool.false_eq_true, if_false]; exact q G1 H1 s1 f1
theorem or_imp {fa fb : Env → R Bool} {Q : Bool → Hp → Prop} {H : Hp} (h : tFT c n w (fun Γ => (fa Γ).bind fun x Γ => match x with
      | true => .ok true Γ
      | false => fb Γ) σ H Q) : tOr (tFT c n w fa) (tFT c n w fb) σ H Q := by
  obtain ⟨G, Γ, f, q⟩ := h
  refine ⟨G, Γ, f, ?_⟩
  cases e : fa Γ with
  | bad => simp only [e] at q; exact q
  | ex k Γ1 => simp only [e] at q; exact q
  | ok x Γ1 =>
    simp only [e, R.bind] at q
    intro G1 H1 s1 f1
    cases x with
    | true => simp only [if_true]; exact q G1 H1 s1 f1
    | false => simp only [Bool.false_eq_true, if_false]; exact ⟨G1, Γ1, f1, q.mono s1⟩
theorem not_imp {fa : Env → R Bool} {Q : Bool → Hp → Prop} {H : Hp} (h : tFT c n w (fun Γ => (fa Γ).bind fun x Γ => .ok (!x) Γ) σ H Q) : tNot (tFT c n w fa) σ H Q := by
  obtain ⟨G, Γ, f, q⟩ := h
  refine ⟨G, Γ, f, ?_⟩
  cases e : fa Γ with
  | bad => simp only [e] at q; exact q
  | ex k Γ1 => simp only [e] at q; exact q
  | ok x Γ1 =>
    simp only [e, R.bind] at q
    exact q
theorem yes_imp {Q : Bool → Hp → Prop} {H : Hp} (h : tFT c n w (fun Γ => .ok true Γ) σ H Q) : tYes σ H Q := by
  obtain ⟨G, Γ, f, q⟩ := h
  exact q G H (Same.refl _) f
theorem tr_imp {fa : Env → R Pd} {Q : Bool → Hp → Prop} {H : Hp} (h : tFT c n w (fun Γ => (fa Γ).bind fun p Γ => match (p.get Γ).bind truth with
      | some b => .ok b Γ
      | none => .bad) σ H Q) : tFO c n w fa σ H fun x H1 => ∃ G d b, Same G H1 ∧ Flat c G H1 d x ∧ truth d = some b ∧ Q b H1 := by
  obtain ⟨G, Γ, f, q⟩ := h
  refine ⟨G, Γ, f, ?_⟩
  cases e : fa Γ with
  | bad => simp only [e] at q; exact q
  | ex k Γ1 => simp only [e] at q; exact q
  | ok p Γ1 =>
    simp only [e, R.bind] at q
    intro v1 G1 H1 s1 f1 r1
    cases e2 : (p.get Γ1).bind truth with
    | none => rw [e2] at q; exact q.elim
    | some b =>
      rw [e2] at q
      obtain ⟨d, e3, e4⟩ := Option.bind_eq_some_iff.mp e2
      exact ⟨G1, d, b, f1.gh, r1.flat f1 e3, e4, q G1 H1 s1 f1⟩
theorem rP_bool {p : P} {ps : List Pd} {vs : List V} {H : Hp} {Q : Bool → Hp → Prop} (f : Fr c n G' H σ Γ []) (s : Same G G') (h : PdRs c G' σ ps vs)
    (q : PostT c n w G σ (match (gets Γ ps).bind (prim p) with
      | some (_, .bl r) => .ok r Γ
      | _ => .bad) Q) : rP c p vs H fun x H' => ∃ k, x = .bl k ∧ Q k H' := by
  cases e : (gets Γ ps).bind (prim p) with
  | none => rw [e] at q; exact q.elim
  | some r =>
    rw [e] at q
    obtain ⟨ds, e1, e2⟩ := Option.bind_eq_some_iff.mp e
    obtain ⟨sh, d⟩ := r
    cases d with
    | bl b =>
      refine ⟨G', ds, sh, .bl b, f.gh, h.flats f e1, e2, fun v H1 G1 T hH hG gh hn hT rp => ?_⟩
      obtain ⟨rfl, rfl⟩ := repS_bl rp
      exact ⟨b, rfl, q G1 H1 (s.trans hG) (f.ext hH hG gh hn hT)⟩
    | _ => exact q.elim
theorem cmp_imp {p : P} {fa fb : Env → R Pd} {Q : Bool → Hp → Prop} {H : Hp} (h : tFT c n w (fun Γ => (fa Γ).bind fun x Γ => (fb Γ).bind fun y Γ => match (gets Γ [x, y]).bind (prim p) with
      | some (_, .bl r) => .ok r Γ
      | _ => .bad) σ H Q) : tTest (tOp (fun x y H Q => rP c p [x, y] H Q) (tFO c n w fa) (tFO c n w fb)) σ H Q := by
  obtain ⟨G, Γ, f, q⟩ := h
  refine ⟨G, Γ, f, ?_⟩
  cases e : fa Γ with
  | bad => simp only [e] at q; exact q
  | ex k Γ1 => simp only [e] at q; exact q
  | ok x Γ1 =>
    simp only [e, R.bind] at q
    intro v1 G1 H1 s1 f1 r1
    refine ⟨G1, Γ1, f1, ?_⟩
    cases e2 : fb Γ1 with
    | bad => simp only [e2] at q; exact q
    | ex k Γ2 => simp only [e2] at q; exact q
    | ok y Γ2 =>
      simp only [e2] at q
      intro v2 G2 H2 s2 f2 r2
      exact rP_bool (ps := [x, y]) f2 (s1.trans s2) ⟨v1, [v2], rfl, r1.mono s2, v2, [], rfl, r2, rfl⟩ q
theorem is1_imp {p : P} {fa : Env → R Pd} {Q : Bool → Hp → Prop} {H : Hp} (h : tFT c n w (fun Γ => (fa Γ).bind fun x Γ => match (gets Γ [x]).bind (prim p) with
      | some (_, .bl r) => .ok r Γ
      | _ => .bad) σ H Q) : tTest (tOp (fun x y H Q => y = .non ∧ rP c p [x] H Q) (tFO c n w fa) (tC .non)) σ H Q := by
  obtain ⟨G, Γ, f, q⟩ := h
  refine ⟨G, Γ, f, ?_⟩
  cases e : fa Γ with
  | bad => simp only [e] at q; exact q
  | ex k Γ1 => simp only [e] at q; exact q
  | ok x Γ1 =>
    simp only [e, R.bind] at q
    intro v1 G1 H1 s1 f1 r1
    exact ⟨rfl, rP_bool (ps := [x]) f1 s1 ⟨v1, [], rfl, r1, rfl⟩ q⟩
theorem isV_imp {p : P} {fa : Env → R Pd} {H : Hp} (h : tF c n w (fun Γ => (fa Γ).bind fun x Γ => match (gets Γ [x]).bind (prim p) with
      | some r => .ok r Γ
      | none => .bad) σ H Q) : tOp (fun x y H Q => y = .non ∧ rP c p [x] H Q) (tFO c n w fa) (tC .non) σ H Q := by
  obtain ⟨G, Γ, f, q⟩ := h
  refine ⟨G, Γ, f, ?_⟩
  cases e : fa Γ with
  | bad => simp only [e] at q; exact q
  | ex k Γ1 => simp only [e] at q; exact q
  | ok x Γ1 =>
    simp only [e, R.bind] at q
    intro v1 G1 H1 s1 f1 r1
    exact ⟨rfl, app_ok (ps := [x]) f1 s1 ⟨v1, [], rfl, r1, rfl⟩ q⟩
theorem isi_imp {p : P} {tv : V} {fa : Env → R Pd} {H : Hp} (h : tF c n w (fun Γ => (fa Γ).bind fun x Γ => match (gets Γ [x]).bind (prim p) with
      | some r => .ok r Γ
      | none => .bad) σ H Q) : tCB (fun xs H Q => ∃ x, xs = [x, tv] ∧ rP c p [x] H Q) (tCons (tFO c n w fa) (tCons (tC tv) tNil)) σ H Q := by
  obtain ⟨G, Γ, f, q⟩ := h
  refine ⟨G, Γ, f, ?_⟩
  cases e : fa Γ with
  | bad => simp only [e] at q; exact q
  | ex k Γ1 => simp only [e] at q; exact q
  | ok x Γ1 =>
    simp only [e, R.bind] at q
    intro v1 G1 H1 s1 f1 r1
    exact ⟨v1, rfl, app_ok (ps := [x]) f1 s1 ⟨v1, [], rfl, r1, rfl⟩ q⟩
theorem chn_imp {p p' : P} {fa fb fc : Env → R Pd} {Q : Bool → Hp → Prop} {H : Hp} (h : tFT c n w (chn p p' fa fb fc) σ H Q) :
    tTest (tChain (fun x y H Q => rP c p [x, y] H Q) (fun x y H Q => rP c p' [x, y] H Q) (tFO c n w fa) (tFO c n w fb) (tFO c n w fc)) σ H Q := by
  obtain ⟨G, Γ, f, q⟩ := h
  unfold chn at q
  refine ⟨G, Γ, f, ?_⟩
  cases e : fa Γ with
  | bad => simp only [e] at q; exact q
  | ex k Γ1 => simp only [e] at q; exact q
  | ok x Γ1 =>
    simp only [e, R.bind] at q
    intro v1 G1 H1 s1 f1 r1
    refine ⟨G1, Γ1, f1, ?_⟩
    cases e2 : fb Γ1 with
    | bad => simp only [e2] at q; exact q
    | ex k Γ2 => simp only [e2] at q; exact q
    | ok y Γ2 =>
      simp only [e2] at q
      intro v2 G2 H2 s2 f2 r2
      have h12 : PdRs c G2 σ [x, y] [v1, v2] := ⟨v1, [v2], rfl, r1.mono s2, v2, [], rfl, r2, rfl⟩
      cases e3 : (gets Γ2 [x, y]).bind (prim p) with
      | none => rw [e3] at q; exact q.elim
      | some r =>
        rw [e3] at q
        obtain ⟨ds, g1, g2⟩ := Option.bind_eq_some_iff.mp e3
        obtain ⟨sh, d⟩ := r
        cases d with
        | bl b =>
          refine ⟨G2, ds, sh, .bl b, f2.gh, h12.flats f2 g1, g2, fun v H3 G3 T hH hG gh hn hT rp => ?_⟩
          obtain ⟨rfl, rfl⟩ := repS_bl rp
          have f3 := f2.ext hH hG gh hn hT
          refine ⟨b, rfl, ?_⟩
          cases b with
          | false =>
            simp only [Bool.false_eq_true, if_false]
            exact ⟨false, rfl, q G3 H3 ((s1.trans s2).trans hG) f3⟩
          | true =>
            simp only [if_true]
            refine ⟨G3, Γ2, f3, ?_⟩
            cases e4 : fc Γ2 with
            | bad => simp only [e4] at q; exact q
            | ex k Γ3 => simp only [e4] at q; exact q
            | ok z Γ3 =>
              simp only [e4] at q
              intro v4 G4 H4 s4 f4 r4
              exact rP_bool (ps := [y, z]) f4 (((s1.trans s2).trans hG).trans s4) ⟨v2, [v4], rfl, (r2.mono hG).mono s4, v4, [], rfl, r4, rfl⟩ q
        | _ => exact q.elim
theorem chain_imp {p p' : P} {fa fb fc : Env → R Pd} {H : Hp} (h : tF c n w (fun Γ => (chn p p' fa fb fc Γ).bind fun x Γ => .ok (.fz, .bl x) Γ) σ H Q) :
    tChain (fun x y H Q => rP c p [x, y] H Q) (fun x y H Q => rP c p' [x, y] H Q) (tFO c n w fa) (tFO c n w fb) (tFO c n w fc) σ H Q := by
  obtain ⟨G, Γ, f, q⟩ := h
  have h2 : tFT c n w (chn p p' fa fb fc) σ H fun b H' => Q (.bl b) H' := by
    refine ⟨G, Γ, f, ?_⟩
    cases e : chn p p' fa fb fc Γ with
    | bad => simp only [e] at q; exact q
    | ex k Γ1 => simp only [e] at q; exact q
    | ok b Γ1 =>
      simp only [e, R.bind] at q
      exact fun G' H' s' f' => q (.bl b) G' H' [] s' f' ⟨rfl, rfl⟩
  have h3 := chn_imp h2
  exact chain_mono h3
where
  tFO_mono {c : Cn} {n : En} {w : WP} {σ : St} {H : Hp} {fa : Env → R Pd} {Q Q' : VK} (k : ∀ v H, Q v H → Q' v H) (h : tFO c n w fa σ H Q) : tFO c n w fa σ H Q' := by
    obtain ⟨G, Γ, f, q⟩ := h
    refine ⟨G, Γ, f, ?_⟩
    cases e : fa Γ with
    | bad => rw [e] at q; exact q
    | ex k Γ1 => rw [e] at q; exact q
    | ok x Γ1 => rw [e] at q; exact fun v G' H' s f r => k _ _ (q v G' H' s f r)
  rP_mono {c : Cn} {p : P} {vs : List V} {H : Hp} {Q Q' : VK} (k : ∀ v H, Q v H → Q' v H) (h : rP c p vs H Q) : rP c p vs H Q' := by
    obtain ⟨G, ds, s, d, gh, fl, e, q⟩ := h
    exact ⟨G, ds, s, d, gh, fl, e, fun v H' G' T a1 a2 a3 a4 a5 a6 => k _ _ (q v H' G' T a1 a2 a3 a4 a5 a6)⟩
  chain_mono {c : Cn} {n : En} {w : WP} {σ : St} {Q : VK} {p p' : P} {fa fb fc : Env → R Pd} {H : Hp}
      (h : tTest (tChain (fun x y H Q => rP c p [x, y] H Q) (fun x y H Q => rP c p' [x, y] H Q) (tFO c n w fa) (tFO c n w fb) (tFO c n w fc)) σ H fun b H' => Q (.bl b) H') :
      tChain (fun x y H Q => rP c p [x, y] H Q) (fun x y H Q => rP c p' [x, y] H Q) (tFO c n w fa) (tFO c n w fb) (tFO c n w fc) σ H Q := by
    refine tFO_mono (fun x H1 h1 => tFO_mono (fun y H2 h2 => rP_mono (fun z H3 ⟨k, e, h3⟩ => ⟨k, e, ?_⟩) h2) h1) h
    cases k with
    | false =>
      simp only [Bool.false_eq_true, if_false] at h3 ⊢
      obtain ⟨k, e, h4⟩ := h3
      cases e
      exact h4
    | true =>
      simp only [if_true] at h3 ⊢
      exact tFO_mono (fun v H4 h4 => rP_mono (fun u H5 ⟨k, e, h5⟩ => by subst e; exact h5) h4) h3
end
end Rl
set_option Elab.async false
set_option linter.all false
set_option maxRecDepth 100000
set_option autoImplicit false
/-! Roundlines: slices, methods, views, displays of dicts. -/
namespace Rl
open PySem L2

theorem R.bind_assoc {α β γ : Type} (x : R α) (f : α → Env → R β) (g : β → Env → R γ) : (x.bind f).bind g = x.bind fun a Γ => (f a Γ).bind g := by
  cases x <;> rfl
section
variable (c : Cn) (n : En) (w : WP)
def PostP (G : Hp) (σ : St) (r : R (Option Int)) (Q : Option Int → Hp → Prop) : Prop := match r with
  | .ok l Γ => ∀ G' H', Same G G' → Fr c n G' H' σ Γ [] → Q l H'
  | .ex k Γ => w k Γ
  | .bad => False
def tFP (f : Env → R (Option Int)) : L2.TO := fun σ H Q => ∃ G Γ, Fr c n G H σ Γ [] ∧ PostP c n w G σ (f Γ) Q
end
section
variable {c : Cn} {n : En} {w : WP} {G G' H : Hp} {σ : St} {Γ : Env} {Q : VK}
theorem noPart_imp {f : Env → R SD} {Q : Option Int → Hp → Prop} (h : tFP c n w (partOf true f) σ H Q) : tNoPart σ H Q := by
  obtain ⟨G, Γ, fr, q⟩ := h
  exact q G H (Same.refl _) fr
theorem repS_int {s : Sh} {i : Int} {v : V} {T : List Addr} (r : RepS c G H s (.int i) v T) : v = .int i ∧ T = [] := by
  cases s with
  | fz => exact ⟨r.2, r.1⟩
  | own => obtain ⟨a, _, _, h⟩ := r; exact h.elim
theorem part_imp {f : Env → R SD} {Q : Option Int → Hp → Prop} (h : tFP c n w (partOf false f) σ H Q) : tPart (tF c n w f) σ H Q := by
  obtain ⟨G, Γ, fr, q⟩ := h
  refine ⟨G, Γ, fr, ?_⟩
  unfold partOf at q
  cases e : f Γ with
  | bad => simp only [e] at q; exact q
  | ex k Γ1 => simp only [e] at q; exact q
  | ok x Γ1 =>
    obtain ⟨s, d⟩ := x
    simp only [e, R.bind] at q
    intro v1 G1 H1 T s1 f1 r1
    cases d with
    | int i =>
      obtain ⟨rfl, rfl⟩ := repS_int r1
      exact ⟨i, rfl, q G1 H1 s1 f1⟩
    | _ => exact q.elim
theorem flats_parts (l : Option Int) : Flats c G H (partD l) (partV l) := by
  cases l with
  | none => rfl
  | some i => exact ⟨.int i, [], rfl, rfl, rfl⟩
theorem Flats.append : ∀ {a b : List D} {xs ys : List V}, Flats c G H a xs → Flats c G H b ys → Flats c G H (a ++ b) (xs ++ ys)
  | [], b, xs, ys, h, k => by rw [show xs = [] from h]; exact k
  | d :: a, b, xs, ys, ⟨x, r, e, h1, h2⟩, k => ⟨x, r ++ ys, by rw [e]; rfl, h1, Flats.append h2 k⟩
theorem slc_imp {fa : Env → R Pd} {f1 f2 : Env → R (Option Int)} (h : tF c n w (fun Γ => (fa Γ).bind fun x Γ => (f1 Γ).bind fun l Γ => (f2 Γ).bind fun h Γ => match (x.get Γ).bind (sliceD l h) with
      | some r => .ok r Γ
      | none => .bad) σ H Q) : tSl (fun x lo hi H Q => rP c (.slc lo.isSome hi.isSome) (x :: (partV lo ++ partV hi)) H Q) (tFO c n w fa) (tFP c n w f1) (tFP c n w f2) σ H Q := by
  obtain ⟨G, Γ, f, q⟩ := h
  refine ⟨G, Γ, f, ?_⟩
  cases e : fa Γ with
  | bad => simp only [e] at q; exact q
  | ex k Γ1 => simp only [e] at q; exact q
  | ok x Γ1 =>
    simp only [e, R.bind] at q
    intro v1 G1 H1 s1 g1 r1
    refine ⟨G1, Γ1, g1, ?_⟩
    cases e2 : f1 Γ1 with
    | bad => simp only [e2] at q; exact q
    | ex k Γ2 => simp only [e2] at q; exact q
    | ok l Γ2 =>
      simp only [e2] at q
      intro G2 H2 s2 g2
      refine ⟨G2, Γ2, g2, ?_⟩
      cases e3 : f2 Γ2 with
      | bad => simp only [e3] at q; exact q
      | ex k Γ3 => simp only [e3] at q; exact q
      | ok hh Γ3 =>
        simp only [e3] at q
        intro G3 H3 s3 g3
        cases e4 : (x.get Γ3).bind (sliceD l hh) with
        | none => rw [e4] at q; exact q.elim
        | some r =>
          rw [e4] at q
          obtain ⟨d, e5, e6⟩ := Option.bind_eq_some_iff.mp e4
          exact ⟨G3, d :: (partD l ++ partD hh), r.1, r.2, g3.gh, ⟨v1, _, rfl, ((r1.mono s2).mono s3).flat g3 e5, Flats.append (flats_parts l) (flats_parts hh)⟩, e6, app_new g3 ((s1.trans s2).trans s3) q⟩

/-! ### methods -/
def rcv (c : Cn) (p : P) (x : V) (H : Hp) : Prop := ∃ G d, Same G H ∧ Flat c G H d x ∧ recvK p d = true
def tMt (c : Cn) (p : P) (to : L2.TE) (t : TA) : L2.TE := fun σ H Q => to σ H fun x H1 => rcv c p x H1 ∧ t σ H1 fun xs H2 => rM c p x xs H2 Q
theorem meth_imp {p : P} {fa : Env → R Pd} {fs : Env → R (List D)} (h : tF c n w (fun Γ => (fa Γ).bind fun x Γ => match (x.get Γ).map (recvK p) with
      | some true => (fs Γ).bind fun ds Γ => match (x.get Γ).bind (fun d => prim p (d :: ds)) with
        | some r => .ok r Γ
        | none => .bad
      | _ => .bad) σ H Q) : tMt c p (tFO c n w fa) (tFD c n w fs) σ H Q := by
  obtain ⟨G, Γ, f, q⟩ := h
  refine ⟨G, Γ, f, ?_⟩
  cases e : fa Γ with
  | bad => simp only [e] at q; exact q
  | ex k Γ1 => simp only [e] at q; exact q
  | ok x Γ1 =>
    simp only [e, R.bind] at q
    intro v1 G1 H1 s1 g1 r1
    cases e1 : x.get Γ1 with
    | none => rw [e1] at q; exact q.elim
    | some d0 =>
      rw [e1] at q
      cases e2 : recvK p d0 with
      | false => simp only [Option.map_some, e2] at q; exact q.elim
      | true =>
        simp only [Option.map_some, e2] at q
        refine ⟨⟨G1, d0, g1.gh, r1.flat g1 e1, e2⟩, G1, Γ1, g1, ?_⟩
        cases e3 : fs Γ1 with
        | bad => simp only [e3] at q; exact q
        | ex k Γ2 => simp only [e3] at q; exact q
        | ok ds Γ2 =>
          simp only [e3] at q
          intro vs G2 H2 s2 g2 r2
          cases e4 : (x.get Γ2).bind (fun d => prim p (d :: ds)) with
          | none => rw [e4] at q; exact q.elim
          | some r =>
            rw [e4] at q
            obtain ⟨d, e5, e6⟩ := Option.bind_eq_some_iff.mp e4
            exact ⟨G2, d, ds, r.1, r.2, g2.gh, (r1.mono s2).flat g2 e5, r2, e6, app_new g2 (s1.trans s2) q⟩

/-! ### views -/
theorem isD_of {p : P} (hp : p = .listKeys ∨ p = .listVals ∨ p = .sortedKeys) {d : D} {r : SD} (e : prim p [d] = some r) : isDct d = true := by
  rcases hp with rfl | rfl | rfl <;> (cases d <;> first | rfl | cases e)
theorem view_imp {p : P} (hp : p = .listKeys ∨ p = .listVals ∨ p = .sortedKeys) {nm : String} {fa : Env → R Pd} (h : tF c n w (fun Γ => (fa Γ).bind fun x Γ => match (gets Γ [x]).bind (prim p) with
      | some r => .ok r Γ
      | none => .bad) σ H Q) : tCB (rVw c nm p) (tCons (tView c.K nm (tFO c n w fa)) tNil) σ H Q := by
  obtain ⟨G, Γ, f, q⟩ := h
  refine ⟨G, Γ, f, ?_⟩
  cases e : fa Γ with
  | bad => simp only [e] at q; exact q
  | ex k Γ1 => simp only [e] at q; exact q
  | ok x Γ1 =>
    simp only [e, R.bind] at q
    intro v1 G1 H1 s1 g1 r1
    cases e1 : (gets Γ1 [x]).bind (prim p) with
    | none => rw [e1] at q; exact q.elim
    | some r =>
      rw [e1] at q
      obtain ⟨ds, e2, e3⟩ := Option.bind_eq_some_iff.mp e1
      obtain ⟨d, rfl, fl⟩ := flats1 (PdRs.flats (ps := [x]) (vs := [v1]) g1 ⟨v1, [], rfl, r1, rfl⟩ e2)
      have hd := isD_of hp e3
      cases d with
      | dct ks vs =>
        obtain ⟨a, o, ys, xs, rfl, h1, h2, h3, h4⟩ := fl
        obtain ⟨es, ep, hdt, _⟩ := h2.2.2
        refine ⟨a, o, es, ep, rfl, h1, h2.1, hdt, fun r' hr => ?_⟩
        have sH : Same H1 (upd H1 r' (dO r' (vwO nm a))) := same_upd hr
        have g2 := g1.ext (T' := []) sH (Same.refl _) (g1.gh.trans sH) (fun _ _ z => .inl z) (fun _ z => nomatch z)
        exact ⟨.ref r', G1, .dct ks vs, r.1, r.2, rfl, g2.gh, ⟨r', a, rfl, upd_same, ⟨a, o, ys, xs, rfl, ⟨h1.1.imp (sH _ _) id, h1.2⟩, h2, h3, h4⟩, rfl⟩, e3, app_new g2 s1 q⟩
      | _ => cases hd

/-! ### displays of dicts -/
def eDict : Obj := { cls := .type "dict", data := .dict #[] }
def pairUp : List V → List (V × V)
  | k :: v :: r => (k, v) :: pairUp r
  | _ => []
/-- with something kept aside -/
def tG (c : Cn) (n : En) (w : WP) (f : Env → R SD) : L2.TE := fun σ H Q => ∃ p o, (n.H0 p = none ∧ p ∉ n.F0 ∧ n.G0 p = none) ∧ tF c (n.guard p o) w f σ H Q
theorem pairs_imp {pp : Addr} {oo : HO} (h0 : n.H0 pp = none ∧ pp ∉ n.F0 ∧ n.G0 pp = none) : ∀ {fks : List ((Env → R SD) × (Env → R SD))} {fs : Env → R (List D)} {σ : St} {H : Hp} {Q : List (V × V) → Hp → Prop},
    (∀ Γ, fs Γ = (fks.foldr (fun p (g : Env → R (List D)) Γ => (p.1 Γ).bind fun x Γ => ((p.2 Γ).bind fun y Γ => (g Γ).bind fun r Γ => .ok (y.2 :: r) Γ).bind fun r Γ => .ok (x.2 :: r) Γ) (fun Γ => .ok [] Γ)) Γ) →
    tFD c (n.guard pp oo) w fs σ H (fun vs H' => Q (pairUp vs) H') → tPairs (fks.map fun p => (tG c n w p.1, tG c n w p.2)) σ H Q
  | [], fs, σ, H, Q, he, h => by
    obtain ⟨G, Γ, f, q⟩ := h
    rw [he] at q
    exact q [] G H (Same.refl _) f rfl
  | p :: fks, fs, σ, H, Q, he, h => by
    obtain ⟨G, Γ, f, q⟩ := h
    rw [he] at q
    simp only [List.foldr_cons] at q
    refine ⟨pp, oo, h0, G, Γ, f, ?_⟩
    cases e : p.1 Γ with
    | bad => simp only [e] at q; exact q
    | ex k Γ1 => simp only [e] at q; exact q
    | ok x Γ1 =>
      simp only [e, R.bind] at q
      intro v1 G1 H1 T s1 g1 r1
      obtain ⟨G1', s1', g1', r1'⟩ := g1.freeze r1
      refine ⟨pp, oo, h0, G1', Γ1, g1', ?_⟩
      cases e2 : p.2 Γ1 with
      | bad => simp only [e2] at q; exact q
      | ex k Γ2 => simp only [e2] at q; exact q
      | ok y Γ2 =>
        simp only [e2] at q
        intro v2 G2 H2 T2 s2 g2 r2
        obtain ⟨G2', s2', g2', r2'⟩ := g2.freeze r2
        refine pairs_imp h0 (fs := fks.foldr _ (fun Γ => .ok [] Γ)) (fun _ => rfl) ⟨G2', Γ2, g2', ?_⟩
        cases e3 : (fks.foldr (fun p (g : Env → R (List D)) Γ => (p.1 Γ).bind fun x Γ => ((p.2 Γ).bind fun y Γ => (g Γ).bind fun r Γ => .ok (y.2 :: r) Γ).bind fun r Γ => .ok (x.2 :: r) Γ) (fun Γ => .ok [] Γ)) Γ2 with
        | bad => simp only [R.bind] at e3; simp only [e3] at q; exact q
        | ex k Γ3 => simp only [R.bind] at e3; simp only [e3] at q; exact q
        | ok r Γ3 =>
          simp only [R.bind] at e3
          simp only [e3] at q
          intro vs G3 H3 s3 g3 r3
          exact q (v1 :: v2 :: vs) G3 H3 ((((s1.trans s1').trans s2).trans s2').trans s3) g3 ⟨v1, _, rfl, Rep.mono ((s2.trans s2').trans s3) _ _ r1', v2, _, rfl, Rep.mono s3 _ _ r2', r3⟩
def PairR (c : Cn) (G : Hp) : List (D × D) → List (V × V) → Prop
  | [], ps => ps = []
  | d :: ds, ps => ∃ p r, ps = p :: r ∧ Rep c G d.1 p.1 ∧ Rep c G d.2 p.2 ∧ PairR c G ds r
theorem pairR_of : ∀ {ds : List D} {vs : List V} {pd : List (D × D)}, dctOf ds = some pd → Reps c G ds vs → PairR c G pd (pairUp vs)
  | [], vs, pd, e, r => by cases e; rw [show vs = [] from r]; rfl
  | [_], vs, pd, e, r => by cases e
  | k :: v :: ds, vs, pd, e, ⟨x, r1, e1, h1, y, r2, e2, h2, h3⟩ => by
    obtain ⟨pd', e3, rfl⟩ := Option.map_eq_some_iff.mp e
    rw [e1, e2]
    exact ⟨(x, y), pairUp r2, rfl, h1, h2, pairR_of e3 h3⟩
def tDsp (c : Cn) (trs : List (L2.TE × L2.TE)) : L2.TE := fun σ H Q => ∀ p, H p = none → tPairs trs σ (upd H p (dO p eDict)) fun ps H2 => H2 p = some (dO p eDict) ∧ ∃ pd ks vs G, PairR c G pd ps ∧ pd.all (fun p => p.1.leaf) = true ∧ pd.length ≤ 15 ∧
  putP pd [] [] = some (ks, vs) ∧ ((p == sysModules) = false → ∀ o ys xs, DObj c o ks ys xs → Reps c G ks ys → Reps c G vs xs → Q (.ref p) (upd H2 p (dO p o)))
theorem leaf_kV {d : D} {v : V} (hl : d.leaf = true) (r : Rep c G d v) : v = kV (keyL d) := by
  cases d with
  | int i => exact r
  | str x => exact r
  | _ => cases hl
theorem pairR_kvs : ∀ {pd : List (D × D)} {ps : List (V × V)}, PairR c G pd ps → pd.all (fun p => p.1.leaf) = true → ∃ kvs : List (Key × V), ps = kvs.map (fun kv => (kV kv.1, kv.2)) ∧ kvs.length = pd.length ∧ ∀ (j : Nat) (p : D × D) (q : Key × V), pd[j]? = some p → kvs[j]? = some q → q.1 = keyL p.1 ∧ Rep c G p.2 q.2
  | [], ps, h, _ => ⟨[], h, rfl, fun j p q e => by simp at e⟩
  | d :: pd, ps, ⟨p, r, e, h1, h2, h3⟩, hl => by
    rw [List.all_cons, Bool.and_eq_true] at hl
    obtain ⟨kvs, q1, q2, q3⟩ := pairR_kvs h3 hl.2
    refine ⟨(keyL d.1, p.2) :: kvs, by rw [e, List.map_cons, q1, ← leaf_kV hl.1 h1], by rw [List.length_cons, List.length_cons, q2], fun j p' q' e1 e2 => ?_⟩
    cases j with
    | zero => cases (show some d = some p' from e1); cases (show some (keyL d.1, p.2) = some q' from e2); exact ⟨rfl, h2⟩
    | succ j => exact q3 j p' q' (by simpa using e1) (by simpa using e2)
end
section
variable {X : Cx} {cls : String → Addr}
theorem pe_dsp {pos : Pos} {keys : List (Option Expr)} {values : List Expr} {trs : List (L2.TE × L2.TE)} (h : PPs X pos keys values trs) (hall : keys.all (·.isSome) = true) (hl : keys.length = values.length) (h0 : keys ≠ [])
    (h15 : keys.length ≤ 15) : PE X (.Dict keys values pos) (tDsp (cn X cls) trs) := by
  refine ⟨fun pins s σ H Q I q => ?_⟩
  have hn := I.hok.fresh (Nat.le_refl s.heap.objs.size)
  have e0 : (s.heap.push eDict).get? s.heap.objs.size = some eDict := Heap.get?_push_size _ rfl
  have I1 := I.laid (a := s.heap.objs.size) (o := dO s.heap.objs.size eDict) (h' := s.heap.push eDict) (t' := s.toks) (fun _ _ q => Heap.get?_push_of_some _ q) (Nat.le_refl _) (dO_new e0)
  have hm : (s.heap.objs.size == sysModules) = false := beq_eq_false_iff_ne.mpr (Nat.ne_of_gt I.big)
  refine wpAny_Dict_walk (knd := mixKind X.prog X.w) hall hl h0 h15 (thn (h.run pins _ σ _ _ I1 (q _ hn)) fun ws s2 ⟨ps, H2, I2, rel, e, pd, ks, vs, G, pr, hlf, lk, ep, q2⟩ => ?_)
  obtain ⟨kvs, rfl, k2, k3⟩ := pairR_kvs pr hlf
  obtain ⟨rs, c, rk⟩ := carries_of (P := X.prog) (w := X.w) rel
  have e1 : s2.heap.get? s.heap.objs.size = some eDict := (I2.hok _ _ e).1
  have dd : s2.heap.DictOf (mixKind X.prog X.w) s.heap.objs.size [] := ⟨eDict, #[], 0, e1, ⟨rfl, rfl, rfl⟩, rfl, fun _ he => by simp at he, .nil, List.nodup_nil⟩
  refine ⟨rs, c, dd, fun h' dd' hs => ?_⟩
  obtain ⟨m1, m2, m3, xs', m4, m5⟩ := putP_merge (c := cn X cls) (G := G) (kvs := []) (xs := []) (prs := rs) hlf (by rw [← rk.length, k2]) (fun j p q e1 e2 => by
    have hj : j < kvs.length := by
      rcases Nat.lt_or_ge j pd.length with z | z
      · omega
      · rw [List.getElem?_eq_none z] at e1; cases e1
    obtain ⟨q', hq', z1, z2⟩ := paired_get rk (List.getElem?_eq_getElem hj)
    rw [hq'] at e2
    cases e2
    obtain ⟨y1, y2⟩ := k3 j p kvs[j] e1 (List.getElem?_eq_getElem hj)
    exact ⟨z1.symm.trans y1, _, z2, y2⟩) ep rfl rfl List.nodup_nil .nil rfl
  have hzz : ks.length ≤ sizeLine := by
    rw [List.length_nil, Nat.zero_add] at m2
    rw [sizeLine_eq]; omega
  obtain ⟨o', e5, e6⟩ := dobj_leaf (cls := cls) dd' m3 m1 hzz m4
  exact ⟨.ref s.heap.objs.size, _, L2.d_write I2 (by rw [e]; trivial) hs ⟨_, e5⟩ (dO_new e5), rfl, q2 hm o' _ xs' e6 (reps_leaf m1) m5⟩
theorem pe_dsp0 {pos : Pos} : PE X (.Dict [] [] pos) (fun _ H Q => ∀ p, H p = none → (p == sysModules) = false → Q (.ref p) (upd H p (dO p eDict))) := ⟨fun pins s σ H Q I h => by
  have e0 : (s.heap.push eDict).get? s.heap.objs.size = some eDict := Heap.get?_push_size _ rfl
  have hm : (s.heap.objs.size == sysModules) = false := beq_eq_false_iff_ne.mpr (Nat.ne_of_gt I.big)
  exact wpAny_Dict_empty ⟨.ref s.heap.objs.size, _, I.laid (a := s.heap.objs.size) (o := dO s.heap.objs.size eDict) (t' := s.toks) (fun _ _ q => Heap.get?_push_of_some _ q) (Nat.le_refl _) (dO_new e0), rfl, h _ (I.hok.fresh (Nat.le_refl _)) hm⟩⟩
end
section
variable {c : Cn} {n : En} {w : WP} {G G' H : Hp} {σ : St} {Γ : Env} {Q : VK}
theorem dsp_imp {fks : List ((Env → R SD) × (Env → R SD))} {fs : Env → R (List D)}
    (he : ∀ Γ, fs Γ = (fks.foldr (fun p (g : Env → R (List D)) Γ => (p.1 Γ).bind fun x Γ => ((p.2 Γ).bind fun y Γ => (g Γ).bind fun r Γ => .ok (y.2 :: r) Γ).bind fun r Γ => .ok (x.2 :: r) Γ) (fun Γ => .ok [] Γ)) Γ)
    (h : tF c n w (fun Γ => (fs Γ).bind fun ds Γ => match dctOf ds with
      | some ps => (match putP ps [] [] with
        | some r => if ps.length ≤ 15 && ps.all (fun p => p.1.leaf) then .ok (.own, .dct r.1 r.2) Γ else .bad
        | none => .bad)
      | none => .bad) σ H Q) : tDsp c (fks.map fun p => (tG c n w p.1, tG c n w p.2)) σ H Q := by
  obtain ⟨G, Γ, f, q⟩ := h
  intro p hp
  have h0 := f.free hp
  refine pairs_imp (oo := dO p eDict) h0 he ⟨G, Γ, f.guard hp _, ?_⟩
  cases e : fs Γ with
  | bad => simp only [e] at q; exact q
  | ex k Γ1 => simp only [e] at q; exact q
  | ok ds Γ1 =>
    simp only [e, R.bind] at q
    intro vs G1 H1 s1 f1 r1
    obtain ⟨hp1, _⟩ := f1.guarded h0
    refine ⟨hp1, ?_⟩
    split at q
    · rename_i ps ed
      split at q
      · rename_i r er
        split at q
        · rename_i hl
          rw [Bool.and_eq_true, decide_eq_true_eq] at hl
          refine ⟨ps, r.1, r.2, G1, pairR_of ed r1, hl.2, hl.1, er, fun hm o ys xs dd rk rv => ?_⟩
          exact q _ G1 _ [p] s1 (f1.aside h0) ⟨p, rfl, rfl, o, ys, xs, upd_same, hm, dd, rk, rv⟩
        · exact q.elim
      · exact q.elim
    · exact q.elim
theorem dsp0_imp (h : tF c n w (fun Γ => .ok (.own, .dct [] []) Γ) σ H Q) : ∀ p, H p = none → (p == sysModules) = false → Q (.ref p) (upd H p (dO p eDict)) := by
  obtain ⟨G, Γ, f, q⟩ := h
  intro p hp hm
  exact (app_new (r := (.own, .dct [] [])) f (Same.refl _) q).dct f.gh hp hm (ys := []) (xs := []) ⟨⟨rfl, rfl, rfl⟩, Nat.zero_le _, #[], 0, rfl, .nil, .nil, rfl, List.nodup_nil⟩ rfl rfl
end
end Rl
set_option Elab.async false
set_option linter.all false
set_option maxRecDepth 100000
set_option autoImplicit false
/-! Roundlines: calls of defs. -/
namespace Rl
open PySem L2

def adr : V → List Addr
  | .ref a => [a]
  | _ => []
def fpOf (s : Sh) (v : V) : List Addr := match s with
  | .fz => []
  | .own => adr v
theorem RepS.fp {c : Cn} {G H : Hp} {s : Sh} {d : D} {v : V} {T : List Addr} (r : RepS c G H s d v T) : T = fpOf s v := by
  cases s with
  | fz => exact r.1
  | own => obtain ⟨a, e, eT, _⟩ := r; subst e; exact eT
/-- arguments at a call: F the lent objects -/
structure ArgsOk (c : Cn) (G H : Hp) (as : List SD) (vs : List V) (F : List Addr) : Prop where
  len : vs.length = as.length
  rep : ∀ (k : Nat) s d, as[k]? = some (s, d) → ∃ v, vs[k]? = some v ∧ RepS c G H s d v (fpOf s v)
  inj : ∀ (k k' : Nat) d d' a, as[k]? = some (.own, d) → as[k']? = some (.own, d') → vs[k]? = some (.ref a) → vs[k']? = some (.ref a) → k = k'
  fre : ∀ (k : Nat) d a, as[k]? = some (.own, d) → vs[k]? = some (.ref a) → G a = none ∧ a ∈ F
  all : ∀ a ∈ F, ∃ (k : Nat) (d : D), as[k]? = some (.own, d) ∧ vs[k]? = some (.ref a)
/-- behind the call -/
structure Aft (c : Cn) (G H : Hp) (F : List Addr) (G' H' : Hp) (as : List SD) (vs : List V) (ms : List (Option SD)) (T : List Addr) : Prop where
  gh : Same G' H'
  keep : ∀ a o, H a = some o → a ∉ F → H' a = some o
  grow : Same G G'
  new : ∀ a o, G' a = some o → G a = some o ∨ a ∈ F ∨ H a = none
  tm : ∀ a ∈ T, G' a = none ∧ (a ∈ F ∨ H a = none)
  lent : ∀ a ∈ F, ∃ o, H' a = some o
  back : ∀ (k : Nat) d d' v, as[k]? = some (.own, d) → ms[k]? = some (some (.own, d')) → vs[k]? = some v → ∃ a, v = .ref a ∧ RepS c G' H' .own d' v [a] ∧ G' a = none ∧ a ∉ T
def spF (c : Cn) (C : Calls) (f : Nat) : Sp := fun vs H Q E => ∃ G as F, Same G H ∧ ArgsOk c G H as vs F ∧ match C f as with
  | .ok r ms => ∀ v G' H' T, Aft c G H F G' H' as vs ms T → RepS c G' H' r.1 r.2 v T → Q v H'
  | .ex k ms => ∀ G' H', Aft c G H F G' H' as vs ms [] → E (.ref (c.cls k)) none H'
  | .bad => False

section
variable {c : Cn} {n : En} {w : WP} {G G' H H' : Hp} {σ : St} {Γ : Env} {Q : VK}
theorem PdRs.at : ∀ {ps : List Pd} {vs : List V}, PdRs c G σ ps vs → vs.length = ps.length ∧ ∀ (k : Nat) p, ps[k]? = some p → ∃ v, vs[k]? = some v ∧ PdR c G σ p v
  | [], vs, h => by rw [show vs = [] from h]; exact ⟨rfl, fun k p e => by simp at e⟩
  | p :: ps, vs, ⟨v, r, e, h1, h2⟩ => by
    obtain ⟨i1, i2⟩ := PdRs.at h2
    subst e
    refine ⟨by simp [i1], fun k q hq => ?_⟩
    cases k with
    | zero => cases (show some p = some q from hq); exact ⟨v, rfl, h1⟩
    | succ k => obtain ⟨u, z1, z2⟩ := i2 k q (by simpa using hq); exact ⟨u, by simpa using z1, z2⟩
theorem argsOf_at {Γ : Env} : ∀ {ps : List Pd} {as : List SD}, argsOf Γ ps = some as → as.length = ps.length ∧ ∀ (k : Nat) x, as[k]? = some x → ∃ p, ps[k]? = some p ∧ argOf Γ p = some x
  | [], as, e => by cases e; exact ⟨rfl, fun k x h => by simp at h⟩
  | p :: ps, as, e => by
    simp only [argsOf] at e
    split at e
    · rename_i d ds e1 e2
      cases e
      obtain ⟨i1, i2⟩ := argsOf_at e2
      refine ⟨by simp [i1], fun k x hx => ?_⟩
      cases k with
      | zero => cases (show some d = some x from hx); exact ⟨p, rfl, e1⟩
      | succ k => obtain ⟨q, z1, z2⟩ := i2 k x (by simpa using hx); exact ⟨q, by simpa using z1, z2⟩
    · cases e
theorem argOf_v {Γ : Env} {i : Nat} {s : Sh} {d : D} (e : argOf Γ (.v i) = some (s, d)) : s = .own ∧ slot Γ i = some (.own, d) := by
  simp only [argOf] at e
  split at e
  · rename_i d' e'
    cases e
    exact ⟨rfl, e'⟩
  · cases e
theorem once_at : ∀ {ps : List Pd}, onceM ps = true → ∀ (k k' i : Nat), ps[k]? = some (.v i) → ps[k']? = some (.v i) → k = k'
  | [], _, k, k', i, e, _ => by simp at e
  | p :: ps, h, k, k', i, e, e' => by
    have tail : onceM ps = true := by
      cases p with
      | v j => simp only [onceM, Bool.and_eq_true] at h; exact h.2
      | d x => exact h
    have head : ∀ m : Nat, p = .v i → ps[m]? = some (.v i) → False := fun m hp hm => by
      subst hp
      simp only [onceM, Bool.and_eq_true, List.all_eq_true] at h
      have := h.1 _ (List.mem_of_getElem? hm)
      simp at this
    cases k with
    | zero =>
      cases k' with
      | zero => rfl
      | succ k' => exact (head k' (Option.some.inj e) (by simpa using e')).elim
    | succ k =>
      cases k' with
      | zero => exact (head k (Option.some.inj e') (by simpa using e)).elim
      | succ k' => rw [once_at tail k k' i (by simpa using e) (by simpa using e')]
theorem backTo_at : ∀ {ps : List Pd} {ms : List (Option SD)} {Γ Γ' : Env}, onceM ps = true → backTo Γ ps ms = some Γ' → Γ'.length = Γ.length ∧ ∀ j x, slot Γ' j = some x →
    (∃ (k : Nat) (d : D), ps[k]? = some (.v j) ∧ ms[k]? = some (some (.own, d)) ∧ x = (.own, d)) ∨ (slot Γ j = some x ∧ ∀ k : Nat, ps[k]? ≠ some (.v j))
  | [], [], Γ, Γ', _, e => by cases e; exact ⟨rfl, fun j x h => .inr ⟨h, fun k => by simp⟩⟩
  | [], _ :: _, _, _, _, e => by cases e
  | .v i :: ps, [], _, _, _, e => by cases e
  | .d _ :: ps, [], _, _, _, e => by cases e
  | .v i :: ps, none :: ms, _, _, _, e => by cases e
  | .v i :: ps, some (.fz, d) :: ms, _, _, _, e => by cases e
  | .v i :: ps, some (.own, d) :: ms, Γ, Γ', h, e => by
    have tail : onceM ps = true := by simp only [onceM, Bool.and_eq_true] at h; exact h.2
    have h0 : onceM (.v i :: ps) = true := h
    obtain ⟨i1, i2⟩ := backTo_at tail (show backTo (Γ.set i (some (.own, d))) ps ms = some Γ' from e)
    refine ⟨by rw [i1, List.length_set], fun j x hx => ?_⟩
    rcases i2 j x hx with ⟨k, d', z1, z2, z3⟩ | ⟨z1, z2⟩
    · exact .inl ⟨k + 1, d', by simpa using z1, by simpa using z2, z3⟩
    · rcases slot_set z1 with ⟨rfl, q⟩ | ⟨ne, q⟩
      · exact .inl ⟨0, d, rfl, rfl, (Option.some.inj q).symm⟩
      · refine .inr ⟨q, fun k => ?_⟩
        cases k with
        | zero => intro z; have := Option.some.inj z; cases this; exact ne rfl
        | succ k => simpa using z2 k
  | .d y :: ps, m :: ms, Γ, Γ', h, e => by
    obtain ⟨i1, i2⟩ := backTo_at (show onceM ps = true from h) (show backTo Γ ps ms = some Γ' from e)
    refine ⟨i1, fun j x hx => ?_⟩
    rcases i2 j x hx with ⟨k, d', z1, z2, z3⟩ | ⟨z1, z2⟩
    · exact .inl ⟨k + 1, d', by simpa using z1, by simpa using z2, z3⟩
    · refine .inr ⟨z1, fun k => ?_⟩
      cases k with
      | zero => intro z; have := Option.some.inj z; cases this
      | succ k => simpa using z2 k
/-- the caller's frame at the call -/
theorem args_of {ps : List Pd} {as : List SD} {vs : List V} (f : Fr c n G H σ Γ []) (ho : onceM ps = true) (r : PdRs c G σ ps vs) (ea : argsOf Γ ps = some as) :
    ∃ (F : List Addr) (fp : Nat → List Addr), ArgsOk c G H as vs F ∧ (∀ i s d, slot Γ i = some (s, d) → ∃ v, σ[i]? = some (some v) ∧ RepS c G H s d v (fp i)) ∧
      (∀ i j a, a ∈ fp i → a ∈ fp j → i = j) ∧ (∀ i a, a ∈ fp i → G a = none ∧ n.Own a ∧ ∃ o, H a = some o) ∧
      (∀ i a, a ∈ fp i → a ∈ F → ∃ k : Nat, ps[k]? = some (.v i)) ∧ ∀ a ∈ F, n.Own a ∧ ∃ o, H a = some o := by
  obtain ⟨fp, h1, h2, h3⟩ := f.sl
  obtain ⟨l1, r1⟩ := r.at
  obtain ⟨l2, r2⟩ := argsOf_at ea
  have own : ∀ (k : Nat) d, as[k]? = some (.own, d) → ∃ i v, ps[k]? = some (.v i) ∧ slot Γ i = some (.own, d) ∧ vs[k]? = some v ∧ σ[i]? = some (some v) ∧ RepS c G H .own d v (fp i) := fun k d e => by
    obtain ⟨p, hp, hq⟩ := r2 k _ e
    cases p with
    | v i =>
      obtain ⟨_, hs⟩ := argOf_v hq
      obtain ⟨v, hv, hr⟩ := r1 k _ hp
      have hr : σ[i]? = some (some v) := hr
      obtain ⟨v', hv', rv⟩ := h1 i _ _ hs
      rw [hr] at hv'
      cases hv'
      exact ⟨i, v, hp, hs, hv, hr, rv⟩
    | d x => cases hq
  let F : List Addr := ps.flatMap fun p => match p with
    | .v i => fp i
    | .d _ => []
  have memF : ∀ a, a ∈ F ↔ ∃ (k i : Nat), ps[k]? = some (.v i) ∧ a ∈ fp i := fun a => by
    constructor
    · intro h
      obtain ⟨p, hp, ha⟩ := List.mem_flatMap.mp h
      obtain ⟨k, hk⟩ := List.mem_iff_getElem?.mp hp
      cases p with
      | v i => exact ⟨k, i, hk, ha⟩
      | d x => cases ha
    · rintro ⟨k, i, hk, ha⟩
      exact List.mem_flatMap.mpr ⟨.v i, List.mem_of_getElem? hk, ha⟩
  refine ⟨F, fp, ⟨by omega, ?_, ?_, ?_, ?_⟩, h1, h2, fun i a ha => ⟨(h3 i a ha).1, (h3 i a ha).2.2⟩, fun i a ha hF => ?_, fun a hF => ?_⟩
  · intro k s d e
    cases s with
    | own =>
      obtain ⟨i, v, _, _, hv, _, rv⟩ := own k d e
      have := rv.fp
      exact ⟨v, hv, by rw [← this]; exact rv⟩
    | fz =>
      obtain ⟨p, hp, hq⟩ := r2 k _ e
      obtain ⟨v, hv, hr⟩ := r1 k _ hp
      cases p with
      | v i => obtain ⟨z, _⟩ := argOf_v hq; cases z
      | d x =>
        cases hq
        exact ⟨v, hv, rfl, hr⟩
  · intro k k' d d' a e e' q q'
    obtain ⟨i, v, hp, _, hv, _, rv⟩ := own k d e
    obtain ⟨i', v', hp', _, hv', _, rv'⟩ := own k' d' e'
    rw [q] at hv; cases hv
    rw [q'] at hv'; cases hv'
    have e1 : fp i = [a] := rv.fp
    have e2 : fp i' = [a] := rv'.fp
    have := h2 i i' a (by rw [e1]; simp) (by rw [e2]; simp)
    subst this
    exact once_at ho k k' i hp hp'
  · intro k d a e q
    obtain ⟨i, v, hp, _, hv, _, rv⟩ := own k d e
    rw [q] at hv; cases hv
    have e1 : fp i = [a] := rv.fp
    have ha : a ∈ fp i := by rw [e1]; simp
    exact ⟨(h3 i a ha).1, (memF a).mpr ⟨k, i, hp, ha⟩⟩
  · intro a hF
    obtain ⟨k, i, hk, ha⟩ := (memF a).mp hF
    have hk2 : k < as.length := by
      rw [l2]
      rcases Nat.lt_or_ge k ps.length with z | z
      · exact z
      · rw [List.getElem?_eq_none z] at hk; cases hk
    obtain ⟨⟨s, d⟩, hak⟩ : ∃ x, as[k]? = some x := ⟨as[k], List.getElem?_eq_getElem hk2⟩
    obtain ⟨p, hp, hq⟩ := r2 k _ hak
    rw [hk] at hp
    cases hp
    obtain ⟨rfl, _⟩ := argOf_v hq
    obtain ⟨i', v, hp', _, hv, _, rv⟩ := own k d hak
    rw [hk] at hp'
    cases hp'
    obtain ⟨b, eb, eT, _⟩ := rv
    rw [eT] at ha
    have : a = b := by simpa using ha
    subst this
    subst eb
    exact ⟨k, d, hak, hv⟩
  · obtain ⟨k, j, hk, ha2⟩ := (memF a).mp hF
    have := h2 i j a ha ha2
    subst this
    exact ⟨k, hk⟩
  · obtain ⟨k, i, hk, ha⟩ := (memF a).mp hF
    exact (h3 i a ha).2.2
/-- the caller's frame behind the call -/
theorem Fr.after {ps : List Pd} {as : List SD} {vs : List V} {F : List Addr} {fp : Nat → List Addr} {ms : List (Option SD)} {Γ' : Env} {T : List Addr} (f : Fr c n G H σ Γ []) (ho : onceM ps = true) (r : PdRs c G σ ps vs) (ea : argsOf Γ ps = some as)
    (h1 : ∀ i s d, slot Γ i = some (s, d) → ∃ v, σ[i]? = some (some v) ∧ RepS c G H s d v (fp i)) (h2 : ∀ i j a, a ∈ fp i → a ∈ fp j → i = j) (h3 : ∀ i a, a ∈ fp i → G a = none ∧ n.Own a ∧ ∃ o, H a = some o)
    (h4 : ∀ i a, a ∈ fp i → a ∈ F → ∃ k : Nat, ps[k]? = some (.v i)) (h5 : ∀ a ∈ F, n.Own a ∧ ∃ o, H a = some o) (A : Aft c G H F G' H' as vs ms T) (eb : backTo Γ ps ms = some Γ') : Fr c n G' H' σ Γ' T := by
  obtain ⟨l1, r1⟩ := r.at
  obtain ⟨l2, r2⟩ := argsOf_at ea
  obtain ⟨b1, b2⟩ := backTo_at ho eb
  have ownT : ∀ a, a ∈ F ∨ H a = none → n.Own a := fun a z => z.elim (fun z => (h5 a z).1) f.own
  -- the lent names
  have lent : ∀ (k j : Nat) d, ps[k]? = some (.v j) → ms[k]? = some (some (.own, d)) → ∃ v a, σ[j]? = some (some v) ∧ v = .ref a ∧ fp j = [a] ∧ RepS c G' H' .own d v [a] ∧ G' a = none ∧ a ∉ T := fun k j d hk hm => by
    obtain ⟨v, hv, hr⟩ := r1 k _ hk
    have hr : σ[j]? = some (some v) := hr
    have hk2 : k < as.length := by
      rw [l2]
      rcases Nat.lt_or_ge k ps.length with z | z
      · exact z
      · rw [List.getElem?_eq_none z] at hk; cases hk
    obtain ⟨⟨s, d0⟩, hak⟩ : ∃ x, as[k]? = some x := ⟨as[k], List.getElem?_eq_getElem hk2⟩
    obtain ⟨p, hp, hq⟩ := r2 k _ hak
    rw [hk] at hp
    cases hp
    obtain ⟨rfl, hs⟩ := argOf_v hq
    obtain ⟨a, rfl, z1, z2, z3⟩ := A.back k d0 d v hak hm hv
    obtain ⟨v', hv', rv⟩ := h1 j _ _ hs
    rw [hr] at hv'
    cases hv'
    exact ⟨_, a, hr, rfl, rv.fp, z1, z2, z3⟩
  have nolent : ∀ j s d, slot Γ j = some (s, d) → (∀ k : Nat, ps[k]? ≠ some (.v j)) → ∀ a ∈ fp j, H' a = H a ∧ G' a = none ∧ a ∉ T := fun j s d e hn a ha => by
    have nF : a ∉ F := fun z => let ⟨k, hk⟩ := h4 j a ha z; hn k hk
    obtain ⟨g0, _, o, ho⟩ := h3 j a ha
    refine ⟨by rw [ho, A.keep a o ho nF], ?_, fun z => ?_⟩
    · cases q : G' a with
      | none => rfl
      | some u =>
        rcases A.new a u q with z | z | z
        · rw [g0] at z; cases z
        · exact absurd z nF
        · rw [ho] at z; cases z
    · rcases (A.tm a z).2 with z | z
      · exact nF z
      · rw [ho] at z; cases z
  let fp' : Nat → List Addr := fun j => match slot Γ' j with
    | some _ => fp j
    | none => []
  have fp_of : ∀ j a, a ∈ fp' j → a ∈ fp j ∧ ∃ x, slot Γ' j = some x := fun j a ha => by
    show _ ∧ _
    cases q : slot Γ' j with
    | none => simp only [fp', q] at ha; cases ha
    | some x => simp only [fp', q] at ha; exact ⟨ha, x, rfl⟩
  refine ⟨A.gh, ⟨fp', fun j s d e => ?_, fun i j a hi hj => h2 i j a (fp_of i a hi).1 (fp_of j a hj).1, fun j a ha => ?_⟩, fun a ha => ⟨(A.tm a ha).1, ownT a (A.tm a ha).2⟩, fun a o e k => ?_, f.grow.trans A.grow, fun a o e => ?_, by rw [b1]; exact f.len, fun a ha => ?_, f.pin⟩
  · have ef : fp' j = fp j := by simp only [fp', e]
    rw [ef]
    rcases b2 j _ e with ⟨k, d', z1, z2, z3⟩ | ⟨z1, z2⟩
    · cases z3
      obtain ⟨v, a, y1, y2, y3, y4, _⟩ := lent k j d z1 z2
      exact ⟨v, y1, by rw [y3]; exact y4⟩
    · obtain ⟨v, hv, hr⟩ := h1 j s d z1
      exact ⟨v, hv, hr.mono A.grow fun a ha => (nolent j s d z1 z2 a ha).1⟩
  · obtain ⟨ha', ⟨s, d⟩, e⟩ := fp_of j a ha
    obtain ⟨g0, g1, o, ho⟩ := h3 j a ha'
    rcases b2 j _ e with ⟨k, d', z1, z2, z3⟩ | ⟨z1, z2⟩
    · obtain ⟨v, b, y1, y2, y3, y4, y5, y6⟩ := lent k j d' z1 z2
      rw [y3] at ha'
      have : a = b := by simpa using ha'
      subst this
      exact ⟨y5, y6, g1, y4.dom a (by simp)⟩
    · obtain ⟨y1, y2, y3⟩ := nolent j s d z1 z2 a ha'
      exact ⟨y2, y3, g1, o, by rw [y1]; exact ho⟩
  · by_cases z : a ∈ F
    · rcases (h5 a z).1 with q | q
      · exact absurd q k
      · rw [q] at e; cases e
    · exact A.keep a o (f.keep a o e k) z
  · rcases A.new a o e with z | z
    · exact f.new a o z
    · exact .inr (ownT a z)
  · obtain ⟨o, e⟩ := f.lent a ha
    by_cases z : a ∈ F
    · exact A.lent a z
    · exact ⟨o, A.keep a o e z⟩
theorem lookM_imp {i : Nat} (h : tFO c n w (fun Γ => match slot Γ i with
      | some (.own, _) => .ok (.v i) Γ
      | _ => .bad) σ H Q) : tVar i σ H Q := by
  obtain ⟨G, Γ, f, q⟩ := h
  cases e : slot Γ i with
  | none => simp only [e] at q; exact q.elim
  | some x =>
    obtain ⟨s, d⟩ := x
    cases s with
    | fz => simp only [e] at q; exact q.elim
    | own =>
      simp only [e] at q
      obtain ⟨v, hv, _⟩ := f.look e
      exact ⟨v, hv, q v G H (Same.refl _) f hv⟩
theorem call_imp {C : Calls} {fn : Nat} {fs : Env → R (List Pd)} (h : tF c n w (fun Γ => (fs Γ).bind fun ps Γ => match onceM ps with
    | false => .bad
    | true => match argsOf Γ ps with
      | none => .bad
      | some as => (match C fn as with
        | .ok r ms => (match backTo Γ ps ms with
          | some Γ' => .ok r Γ'
          | none => .bad)
        | .ex k ms => (match backTo Γ ps ms with
          | some Γ' => .ex k Γ'
          | none => .bad)
        | .bad => .bad)) σ H Q) : tCallS (spF c C fn) (WE (Wx c n w)) (tFL c n w fs) σ H Q := by
  obtain ⟨G, Γ, f, q⟩ := h
  refine ⟨G, Γ, f, ?_⟩
  cases e : fs Γ with
  | bad => simp only [e] at q; exact q
  | ex k Γ1 => simp only [e] at q; exact q
  | ok ps Γ1 =>
    simp only [e, R.bind] at q
    intro vs G1 H1 s1 f1 r1
    cases ho : onceM ps with
    | false => rw [ho] at q; exact q.elim
    | true =>
      rw [ho] at q
      simp only at q
      cases ea : argsOf Γ1 ps with
      | none => rw [ea] at q; exact q.elim
      | some as =>
        rw [ea] at q
        simp only at q
        obtain ⟨F, fp, A, h1, h2, h3, h4, h5⟩ := args_of f1 ho r1 ea
        refine ⟨G1, as, F, f1.gh, A, ?_⟩
        cases ec : C fn as with
        | bad => rw [ec] at q; exact q
        | ok r ms =>
          rw [ec] at q
          simp only at q ⊢
          intro v G' H' T aft rv
          cases eb : backTo Γ1 ps ms with
          | none => rw [eb] at q; exact q.elim
          | some Γ' =>
            rw [eb] at q
            exact q v G' H' T (s1.trans aft.grow) (f1.after ho r1 ea h1 h2 h3 h4 h5 aft eb) rv
        | ex k ms =>
          rw [ec] at q
          simp only at q ⊢
          intro G' H' aft
          cases eb : backTo Γ1 ps ms with
          | none => rw [eb] at q; exact q.elim
          | some Γ' =>
            rw [eb] at q
            exact ⟨k, G', Γ', rfl, rfl, f1.after ho r1 ea h1 h2 h3 h4 h5 aft eb, q⟩
end
end Rl
set_option Elab.async false
set_option linter.all false
set_option maxRecDepth 100000
set_option autoImplicit false
/-! Roundlines: walks, targets, comprehensions. -/
namespace Rl
open PySem L2

/-- what an iterator yields -/
def ItOk (c : Cn) (G : Hp) (J : It) (ds : List D) : Prop :=
  (∀ (i : Nat) d H1, ds[i]? = some d → Same G H1 → J.go i H1 ∧ ∀ x H2, J.yld i H1 x H2 → H2 = H1 ∧ Rep c G d x) ∧ ∀ (i : Nat) H1, ds.length ≤ i → Same G H1 → J.stop i H1
section
variable (c : Cn) (n : En) (w : WP)
def PostI (G : Hp) (σ : St) (r : R (List D)) (R0 : It → Hp → Prop) : Prop := match r with
  | .ok ds Γ => ∀ J G' H', Same G G' → Fr c n G' H' σ Γ [] → ItOk c G' J ds → R0 J H'
  | .ex k Γ => w k Γ
  | .bad => False
def tFI (f : Env → R (List D)) : L2.TI := fun σ H R0 => ∃ G Γ, Fr c n G H σ Γ [] ∧ PostI c n w G σ (f Γ) R0
end
section
variable {c : Cn} {G : Hp} {ds : List D} {xs : List V} {a : Addr}
theorem it_list (h : G a = some (.lst xs)) (r : Reps c G ds xs) : ItOk c G (Itl c.K a) ds := by
  refine ⟨fun i d H1 e s => ?_, fun i H1 hl s => ⟨xs, SqL.of (s _ _ h), by rw [r.length]; exact hl⟩⟩
  obtain ⟨x, hx, rx⟩ := r.get e
  refine ⟨⟨xs, x, SqL.of (s _ _ h), hx⟩, fun y H2 q => ⟨q.1, ?_⟩⟩
  have := q.2 xs (SqL.of (s _ _ h))
  rw [hx] at this
  cases this
  exact rx
theorem it_tup (h : SqT c.K G a xs) (r : Reps c G ds xs) : ItOk c G (Itt c.K a) ds := by
  refine ⟨fun i d H1 e s => ?_, fun i H1 hl s => ⟨xs, Same.sqT s h, by rw [r.length]; exact hl⟩⟩
  obtain ⟨x, hx, rx⟩ := r.get e
  refine ⟨⟨xs, x, Same.sqT s h, hx⟩, fun y H2 q => ⟨q.1, ?_⟩⟩
  have := q.2 xs (Same.sqT s h)
  rw [hx] at this
  cases this
  exact rx
theorem it_rng (lo hi : Int) : ItOk c G (Itr lo (hi - lo).toNat) (rangeD lo hi) := by
  refine ⟨fun i d H1 e s => ?_, fun i H1 hl s => ?_⟩
  · unfold rangeD at e
    rw [List.getElem?_map] at e
    obtain ⟨k, e1, e2⟩ := Option.map_eq_some_iff.mp e
    obtain ⟨hi', e3⟩ := List.getElem?_eq_some_iff.mp e1
    rw [List.getElem_range] at e3
    rw [List.length_range] at hi'
    subst e3
    subst e2
    exact ⟨hi', fun x H2 q => ⟨q.1, q.2⟩⟩
  · unfold rangeD at hl
    rw [List.length_map, List.length_range] at hl
    exact hl
theorem it_str (l : List Nat) : ItOk c G (Its (tS l)) (l.map fun z => .str [z]) := by
  refine ⟨fun i d H1 e s => ?_, fun i H1 hl s => ?_⟩
  · rw [List.getElem?_map] at e
    obtain ⟨k, e1, e2⟩ := Option.map_eq_some_iff.mp e
    subst e2
    have hlt : i < l.length := by
      rcases Nat.lt_or_ge i l.length with z | z
      · exact z
      · rw [List.getElem?_eq_none z] at e1; cases e1
    refine ⟨by show i < (tS l).cps.size; simpa [tS] using hlt, fun x H2 q => ⟨q.1, ?_⟩⟩
    obtain ⟨z, hz, rfl⟩ := q.2
    have : l[i]? = some z := by simpa [tS] using hz
    rw [e1] at this
    cases this
    rfl
  · rw [List.length_map] at hl
    show (tS l).cps.size ≤ i
    simpa [tS] using hl
end

/-! ### keys and values of dicts -/
def ItKs (K : PySem.W.Frag) (a : Addr) (o : Obj) (ys : List V) : It :=
  ⟨fun i H => DictAt K H a o ∧ i < ys.length, fun i H x H' => H' = H ∧ ys[i]? = some x, fun i H => DictAt K H a o ∧ ys.length ≤ i⟩
theorem it_keys {c : Cn} {G : Hp} {ds : List D} {ys : List V} {a : Addr} {o : Obj} (h : DictAt c.K G a o) (r : Reps c G ds ys) : ItOk c G (ItKs c.K a o ys) ds := by
  refine ⟨fun i d H1 e s => ?_, fun i H1 hl s => ⟨⟨h.1.imp (s _ _) id, h.2⟩, by rw [r.length]; exact hl⟩⟩
  obtain ⟨x, hx, rx⟩ := r.get e
  have hlt : i < ys.length := by
    rcases Nat.lt_or_ge i ys.length with z | z
    · exact z
    · rw [List.getElem?_eq_none z] at hx; cases hx
  refine ⟨⟨⟨h.1.imp (s _ _) id, h.2⟩, hlt⟩, fun y H2 q => ⟨q.1, ?_⟩⟩
  rw [q.2] at hx
  cases hx
  exact rx
section
variable {P : Program} {w : World} {K : PySem.W.Frag} {tg : Expr} {d : Addr} {o : Obj} {es : Array DictEntry} {ep : Nat} {ys : List V}
theorem turn_ks (it : Addr) (hod : o.data = .dict es ep) (rv : Vals ys (es.toList.map (·.key))) : Turn P w K tg (ItKs K d o ys) [it] it (fun i h => h.IsKeyIter it d i es.size ep) where
  mem := by simp
  obj := fun i h st b hb => by
    have e : b = it := by simpa using hb
    subst e
    obtain ⟨oi, e, c, dd⟩ := st
    exact ⟨oi, e, fun v z => by rw [dd] at z; cases z⟩
  keep := fun i h h' st k => st.at fun oi e => k it (by simp) oi e
  item := by
    intro X hP hw hK hc i pins s σ H E I hf st hg
    subst hP hw hK
    obtain ⟨hd, hi⟩ := hg
    obtain ⟨f0, f1, f2, f3, f4, f5⟩ := hf it (by simp)
    obtain ⟨x, hx⟩ : ∃ x, ys[i]? = some x := ⟨ys[i], List.getElem?_eq_getElem hi⟩
    obtain ⟨u, hu, ru⟩ := rv.get hx
    rw [List.getElem?_map, Array.getElem?_toList] at hu
    obtain ⟨en, hen, rfl⟩ := Option.map_eq_some_iff.mp hu
    refine next_key_item st (dict_get I hd) hod rfl hen fun h' st' sb => ?_
    have I1 : L2.Inv X pins σ H { s with heap := h' } := I.turned (t' := s.toks) (fun b ob hb e => (sb.2 b hb).trans e) f0 f1 f3 f4 f5
    obtain ⟨oi, e, c, dd⟩ := id st'
    exact ⟨en.key, rfl, go_of (s := { s with heap := h' }) e c dd (by decide) ⟨x, H, I1, ru, ⟨rfl, hx⟩, st', fun b hb => (hf b hb).1⟩⟩
  done := by
    intro X hP hw hK hc i pins s σ H E I hf st hg
    subst hP hw hK
    obtain ⟨hd, hi⟩ := hg
    obtain ⟨f0, f1, f2, f3, f4, f5⟩ := hf it (by simp)
    have hl : ys.length = es.size := by have := rv.length; simpa using this
    exact next_key_end (I.ok.hd hc) st (dict_get I hd) hod rfl (by omega) fun h' eb => ⟨rfl, I.turned (t' := s.toks) (fun b ob hb e => eb b ob hb e) f0 f1 f3 f4 f5⟩
  self := fun A i s Q E st h => by
    refine wpAny_pyIter_slot st.typeIs F.slot_dict_keyiterator_iter (wpAny_call_entry F.slot_dict_keyiterator_iter st.typeIs F.entry_dict_keyiterator_iter ?_ (F.args_dict_keyiterator_iter_1 _))
    show wpAny _ _ (ret (.ref it)) _ _ s
    exact wpAny_pure ⟨_, rfl, "dict_keyiterator", _, st.typeIs, F.slot_dict_keyiterator_next.lookup, h⟩
theorem turn_vs (it : Addr) (hx0 : o.ExactDict) (hod : o.data = .dict es ep) (rv : Vals ys (es.toList.map (·.val))) : Turn P w K tg (ItKs K d o ys) [it] it (fun i h => h.IsValIter it d i es.size ep) where
  mem := by simp
  obj := fun i h st b hb => by
    have e : b = it := by simpa using hb
    subst e
    obtain ⟨oi, e, c, dd⟩ := st
    exact ⟨oi, e, fun v z => by rw [dd] at z; cases z⟩
  keep := fun i h h' st k => st.at fun oi e => k it (by simp) oi e
  item := by
    intro X hP hw hK hc i pins s σ H E I hf st hg
    subst hP hw hK
    obtain ⟨hd, hi⟩ := hg
    obtain ⟨f0, f1, f2, f3, f4, f5⟩ := hf it (by simp)
    have hl : ys.length = es.size := by have := rv.length; simpa using this
    obtain ⟨x, hx⟩ : ∃ x, ys[i]? = some x := ⟨ys[i], List.getElem?_eq_getElem hi⟩
    obtain ⟨u, hu, ru⟩ := rv.get hx
    have hlt : i < es.size := by omega
    rw [List.getElem?_map, Array.getElem?_toList, Array.getElem?_eq_getElem hlt] at hu
    cases hu
    refine wpAny_pyNext_values_item_raw st ⟨o, dict_get I hd, hx0, hod⟩ hlt fun h' st' sb => ?_
    have I1 : L2.Inv X pins σ H { s with heap := h' } := I.turned (t' := s.toks) (fun b ob hb e => (sb.2 b hb).trans e) f0 f1 f3 f4 f5
    obtain ⟨oi, e, c, dd⟩ := id st'
    exact ⟨_, rfl, go_of (s := { s with heap := h' }) e c dd (by decide) ⟨x, H, I1, ru, ⟨rfl, hx⟩, st', fun b hb => (hf b hb).1⟩⟩
  done := by
    intro X hP hw hK hc i pins s σ H E I hf st hg
    subst hP hw hK
    obtain ⟨hd, hi⟩ := hg
    obtain ⟨f0, f1, f2, f3, f4, f5⟩ := hf it (by simp)
    have hl : ys.length = es.size := by have := rv.length; simpa using this
    exact wpAny_pyNext_values_end_raw (I.ok.hd hc) st ⟨o, dict_get I hd, hx0, hod⟩ (by omega) fun h' eb => ⟨rfl, I.turned (t' := s.toks) (fun b ob hb e => eb b ob hb e) f0 f1 f3 f4 f5⟩
  self := fun A i s Q E st h => wpAny_pyIter_valiter st h
end
def iKs (K : PySem.W.Frag) (td : L2.TE) : L2.TI := fun σ H R0 => td σ H fun x H1 => ∃ a o es ep ys, x = .ref a ∧ DictAt K H1 a o ∧ o.ExactDict ∧ o.data = .dict es ep ∧ Vals ys (es.toList.map (·.key)) ∧ R0 (ItKs K a o ys) H1
def iVs (K : PySem.W.Frag) (td : L2.TE) : L2.TI := fun σ H R0 => td σ H fun x H1 => ∃ a o es ep ys, x = .ref a ∧ DictAt K H1 a o ∧ o.ExactDict ∧ o.data = .dict es ep ∧ Vals ys (es.toList.map (·.val)) ∧ R0 (ItKs K a o ys) H1
section
variable {X : Cx} {tg e : Expr} {td : L2.TE} {apos cpos : Pos}
theorem pi_ks (he : PE X e td) (hbase : attributeBase e "keys" X.env (eval e X.env) = eval e X.env) (hline : (apos.endLine == cpos.line) = true) : PI X tg (.Call (.Attribute e "keys" apos) [] [] cpos) (iKs X.K td) := by
  refine ⟨fun pins s σ H R0 I h => ?_⟩
  refine wpAny_Call_method (T := "dict") (id := "dict.keys") hbase rfl hline F.plainAttrs_dict F.slot_dict_keys F.type_dict_keys (thn (he.run pins s σ H _ I h) fun u s1 ⟨x, H1, I1, rx, d, o, es, ep, ys, ex, hd, hx, hdt, rv, q⟩ => ?_)
  subst ex
  obtain rfl : u = Value.ref d := rx
  have hm : s1.heap.DictRaw d es ep := ⟨o, dict_get I1 hd, hx, hdt⟩
  refine ⟨hm.typeIs, fun b e => by injection e with e; subst e; exact ⟨o, dict_get I1 hd, hx.2.1⟩, ?_⟩
  have I2 : L2.Inv X pins σ H1 { s1 with heap := s1.heap.push { cls := .type "dict_keys", data := .fields #[.ref d] } } := I1.kept (t' := s1.toks) fun b ob q => Heap.get?_push_of_some _ q
  have fin : wpAny (model X.prog X.w) X.A (pyIter (.ref s1.heap.objs.size)) (PIE X pins σ tg R0) X.xe { s1 with heap := s1.heap.push { cls := .type "dict_keys", data := .fields #[.ref d] } } :=
    wpAny_pyIter_keys_raw (d := d) ⟨_, Heap.get?_push_size _ rfl, rfl, rfl⟩ (hm.push _) (pi_one (tk := s1.toks) I2 _ (turn_ks _ hdt rv) ⟨_, Heap.get?_push_size _ rfl, rfl, rfl⟩ q)
  show wpAny _ _ (callWith cpos (.builtin "dict.keys") [.ref d] [] []) _ X.xe s1
  exact method_meetsIn F.slot_dict_keys F.entry_dict_keys rfl (PySem.evalArgs_none ⟨rfl, hm.typeIs, F.args_dict_keys_1 _, _, meets_dict_keys_raw d hd.2, ⟨es, ep, hm⟩, fin⟩)
theorem pi_vs (he : PE X e td) (hbase : attributeBase e "values" X.env (eval e X.env) = eval e X.env) (hline : (apos.endLine == cpos.line) = true) : PI X tg (.Call (.Attribute e "values" apos) [] [] cpos) (iVs X.K td) := by
  refine ⟨fun pins s σ H R0 I h => ?_⟩
  refine wpAny_Call_method (T := "dict") (id := "dict.values") hbase rfl hline F.plainAttrs_dict F.slot_dict_values F.type_dict_values (thn (he.run pins s σ H _ I h) fun u s1 ⟨x, H1, I1, rx, d, o, es, ep, ys, ex, hd, hx, hdt, rv, q⟩ => ?_)
  subst ex
  obtain rfl : u = Value.ref d := rx
  have hm : s1.heap.DictRaw d es ep := ⟨o, dict_get I1 hd, hx, hdt⟩
  refine ⟨hm.typeIs, fun b e => by injection e with e; subst e; exact ⟨o, dict_get I1 hd, hx.2.1⟩, ?_⟩
  have I2 : L2.Inv X pins σ H1 { s1 with heap := s1.heap.push { cls := .type "dict_values", data := .fields #[.ref d] } } := I1.kept (t' := s1.toks) fun b ob q => Heap.get?_push_of_some _ q
  have fin : wpAny (model X.prog X.w) X.A (pyIter (.ref s1.heap.objs.size)) (PIE X pins σ tg R0) X.xe { s1 with heap := s1.heap.push { cls := .type "dict_values", data := .fields #[.ref d] } } :=
    wpAny_pyIter_values_raw (d := d) ⟨_, Heap.get?_push_size _ rfl, rfl, rfl⟩ (hm.push _) (pi_one (tk := s1.toks) I2 _ (turn_vs _ hx hdt rv) ⟨_, Heap.get?_push_size _ rfl, rfl, rfl⟩ q)
  show wpAny _ _ (callWith cpos (.builtin "dict.values") [.ref d] [] []) _ X.xe s1
  exact method_meetsIn F.slot_dict_values F.entry_dict_values rfl (PySem.evalArgs_none ⟨rfl, hm.typeIs, F.args_dict_values_1 _, _, meets_dict_values_raw d hd.2, ⟨es, ep, hm⟩, fin⟩)
end
section
variable {c : Cn} {n : En} {w : WP} {σ : St} {H : Hp} {R0 : It → Hp → Prop}
theorem keys_imp {fe : Env → R SD} (h : tFI c n w (fun Γ => (fe Γ).bind fun x Γ => match x.2 with
      | .dct ks _ => .ok ks Γ
      | _ => .bad) σ H R0) : iKs c.K (tF c n w fe) σ H R0 := by
  obtain ⟨G, Γ, f, q⟩ := h
  refine ⟨G, Γ, f, ?_⟩
  cases e : fe Γ with
  | bad => simp only [e] at q; exact q
  | ex k Γ1 => simp only [e] at q; exact q
  | ok x Γ1 =>
    obtain ⟨s, d⟩ := x
    simp only [e, R.bind] at q
    intro v1 G1 H1 T s1 f1 r1
    obtain ⟨G1', s1', f1', r1'⟩ := f1.freeze r1
    cases d with
    | dct ks vs =>
      obtain ⟨a, o, ys, xs, rfl, h1, h2, h3, h4⟩ := r1'
      have h1' : DictAt c.K H1 a o := ⟨h1.1.imp (f1'.gh _ _) id, h1.2⟩
      obtain ⟨es, ep, hdt, rv, _⟩ := h2.2.2
      exact ⟨a, o, es, ep, ys, rfl, h1', h2.1, hdt, rv, q _ G1' H1 (s1.trans s1') f1' (it_keys h1 h3)⟩
    | _ => exact q.elim
theorem vals_imp {fe : Env → R SD} (h : tFI c n w (fun Γ => (fe Γ).bind fun x Γ => match x.2 with
      | .dct _ vs => .ok vs Γ
      | _ => .bad) σ H R0) : iVs c.K (tF c n w fe) σ H R0 := by
  obtain ⟨G, Γ, f, q⟩ := h
  refine ⟨G, Γ, f, ?_⟩
  cases e : fe Γ with
  | bad => simp only [e] at q; exact q
  | ex k Γ1 => simp only [e] at q; exact q
  | ok x Γ1 =>
    obtain ⟨s, d⟩ := x
    simp only [e, R.bind] at q
    intro v1 G1 H1 T s1 f1 r1
    obtain ⟨G1', s1', f1', r1'⟩ := f1.freeze r1
    cases d with
    | dct ks vs =>
      obtain ⟨a, o, ys, xs, rfl, h1, h2, h3, h4⟩ := r1'
      have h1' : DictAt c.K H1 a o := ⟨h1.1.imp (f1'.gh _ _) id, h1.2⟩
      obtain ⟨es, ep, hdt, _, rv, _⟩ := h2.2.2
      exact ⟨a, o, es, ep, xs, rfl, h1', h2.1, hdt, rv, q _ G1' H1 (s1.trans s1') f1' (it_keys h1 h4)⟩
    | _ => exact q.elim
end
/-- a list, a tuple or a text -/
theorem pi_seq {X : Cx} {cls : String → Addr} {n : En} {w : WP} {tg e : Expr} {fe : Env → R SD} (he : PE X e (tF (cn X cls) n w fe)) : PI X tg e (tFI (cn X cls) n w fun Γ => (fe Γ).bind fun x Γ => oneOf (seqD x.2) Γ) := by
  refine ⟨fun pins s σ H R0 I h => ?_⟩
  obtain ⟨G, Γ, f, q⟩ := h
  cases e1 : fe Γ with
  | bad => simp only [e1] at q; exact q.elim
  | ex k Γ1 =>
    simp only [e1] at q
    exact (pi_list he).run pins s σ H R0 I ⟨G, Γ, f, by rw [e1]; exact q⟩
  | ok x Γ1 =>
    obtain ⟨sh, d⟩ := x
    simp only [e1, R.bind] at q
    cases d with
    | lst l =>
      refine (pi_list he).run pins s σ H R0 I ⟨G, Γ, f, ?_⟩
      rw [e1]
      intro v1 G1 H1 T s1 f1 r1
      obtain ⟨G1', s1', f1', r1'⟩ := f1.freeze r1
      obtain ⟨a, xs, rfl, h1, h2⟩ := r1'
      exact ⟨a, rfl, ⟨xs, SqL.of (f1'.gh _ _ h1)⟩, q _ G1' H1 (s1.trans s1') f1' (it_list h1 h2)⟩
    | tup l =>
      refine (pi_tup he).run pins s σ H R0 I ⟨G, Γ, f, ?_⟩
      rw [e1]
      intro v1 G1 H1 T s1 f1 r1
      obtain ⟨G1', s1', f1', r1'⟩ := f1.freeze r1
      obtain ⟨a, xs, rfl, h1, h2⟩ := r1'
      exact ⟨a, rfl, ⟨xs, Same.sqT f1'.gh h1⟩, q _ G1' H1 (s1.trans s1') f1' (it_tup h1 h2)⟩
    | str l =>
      refine (pi_str he).run pins s σ H R0 I ⟨G, Γ, f, ?_⟩
      rw [e1]
      intro v1 G1 H1 T s1 f1 r1
      obtain ⟨G1', s1', f1', r1'⟩ := f1.freeze r1
      exact ⟨tS l, r1', q _ G1' H1 (s1.trans s1') f1' (it_str l)⟩
    | _ => exact q.elim
section
variable {c : Cn} {n : En} {w : WP} {σ : St} {H : Hp} {R0 : It → Hp → Prop}
theorem rng1_imp {fa : Env → R SD} (h : tFI c n w (fun Γ => (fa Γ).bind fun x Γ => match x.2 with
      | .int b => if rngOk b then .ok (rangeD 0 b) Γ else .bad
      | _ => .bad) σ H R0) : iRng1 (tCons (tF c n w fa) tNil) σ H R0 := by
  obtain ⟨G, Γ, f, q⟩ := h
  refine ⟨G, Γ, f, ?_⟩
  cases e : fa Γ with
  | bad => simp only [e] at q; exact q
  | ex k Γ1 => simp only [e] at q; exact q
  | ok x Γ1 =>
    obtain ⟨s, d⟩ := x
    simp only [e, R.bind] at q
    intro v1 G1 H1 T s1 f1 r1
    cases d with
    | int b =>
      obtain ⟨rfl, rfl⟩ := repS_int r1
      simp only at q
      split at q
      · rename_i hb
        simp only [rngOk, Bool.and_eq_true, decide_eq_true_eq] at hb
        refine ⟨b, rfl, by omega, by omega, q _ G1 H1 s1 f1 ?_⟩
        have := it_rng (c := c) (G := G1) 0 b
        rw [Int.sub_zero] at this
        exact this
      · exact q.elim
    | _ => exact q.elim
theorem rng2_imp {fa fb : Env → R SD} (h : tFI c n w (fun Γ => (fa Γ).bind fun x Γ => (fb Γ).bind fun y Γ => match x.2, y.2 with
      | .int a, .int b => if rngOk a && rngOk b then .ok (rangeD a b) Γ else .bad
      | _, _ => .bad) σ H R0) : iRng2 (tCons (tF c n w fa) (tCons (tF c n w fb) tNil)) σ H R0 := by
  obtain ⟨G, Γ, f, q⟩ := h
  refine ⟨G, Γ, f, ?_⟩
  cases e : fa Γ with
  | bad => simp only [e] at q; exact q
  | ex k Γ1 => simp only [e] at q; exact q
  | ok x Γ1 =>
    obtain ⟨s, d⟩ := x
    simp only [e, R.bind] at q
    intro v1 G1 H1 T s1 f1 r1
    obtain ⟨G1', s1', f1', r1'⟩ := f1.freeze r1
    refine ⟨G1', Γ1, f1', ?_⟩
    cases e2 : fb Γ1 with
    | bad => simp only [e2] at q; exact q
    | ex k Γ2 => simp only [e2] at q; exact q
    | ok y Γ2 =>
      obtain ⟨s', d'⟩ := y
      simp only [e2] at q
      intro v2 G2 H2 T2 s2 f2 r2
      obtain ⟨G2', s2', f2', r2'⟩ := f2.freeze r2
      cases d with
      | int a =>
        cases d' with
        | int b =>
          simp only at q
          split at q
          · rename_i hb
            simp only [rngOk, Bool.and_eq_true, decide_eq_true_eq] at hb
            exact ⟨a, b, by rw [show v1 = .int a from r1', show v2 = .int b from r2'], ⟨by omega, by omega, by omega, by omega⟩, q _ G2' H2 (((s1.trans s1').trans s2).trans s2') f2' (it_rng a b)⟩
          · exact q.elim
        | _ => exact q.elim
      | _ => exact q.elim
end

/-! ### targets -/
def gNames : List Nat → TGs
  | [] => gNil
  | i :: is => gCons (gName i) (gNames is)
def gT (K : PySem.W.Frag) : Tg → TG
  | .one i => gName i
  | .many is => gTup K is.length (gNames is)
def tgIx : Tg → List Nat
  | .one i => [i]
  | .many is => is
/-- alike but at some names -/
def Alike (is : List Nat) (σ σ' : St) : Prop := σ'.length = σ.length ∧ ∀ j, j ∉ is → σ'[j]? = σ[j]?
section
variable {c : Cn} {n : En} {G H : Hp} {σ : St} {Γ : Env}
theorem Fr.store1 (f : Fr c n G H σ Γ []) {i : Nat} {d : D} {v : V} (r : Rep c G d v) (hno : n.No i) : Fr c n G H (σ.set i (some v)) (Γ.set i (some (.fz, d))) [] := by
  by_cases hi : i < Γ.length
  · exact f.store (s := .fz) ⟨rfl, r⟩ hi hno
  · have h1 : σ.set i (some v) = σ := List.set_eq_of_length_le (by rw [f.len]; omega)
    have h2 : Γ.set i (some (.fz, d)) = Γ := List.set_eq_of_length_le (by omega)
    rw [h1, h2]; exact f
theorem names_imp : ∀ {is : List Nat} {l : List D} {xs : List V} {σ : St} {Γ : Env} {Q : St → Hp → Prop}, Fr c n G H σ Γ [] → (∀ i ∈ is, n.No i) → is.length = l.length → Reps c G l xs →
    (∀ σ2, Alike is σ σ2 → Fr c n G H σ2 ((is.zip l).foldl (fun Γ p => Γ.set p.1 (some (.fz, p.2))) Γ) [] → Q σ2 H) → gNames is xs σ H Q
  | [], [], xs, σ, Γ, Q, f, _, _, r, q => ⟨r, q σ ⟨rfl, fun _ _ => rfl⟩ f⟩
  | [], _ :: _, _, _, _, _, _, _, e, _, _ => by simp at e
  | _ :: _, [], _, _, _, _, _, _, e, _, _ => by simp at e
  | i :: is, d :: l, xs, σ, Γ, Q, f, hn, e, ⟨x, r, ex, h1, h2⟩, q => by
    refine ⟨x, r, ex, ?_⟩
    show gNames is r (σ.set i (some x)) H Q
    refine names_imp (f.store1 h1 (hn i (by simp))) (fun j hj => hn j (by simp [hj])) (by simpa using e) h2 fun σ2 al f2 => q σ2 ⟨by rw [al.1, List.length_set], fun j hj => ?_⟩ f2
    rw [al.2 j fun z => hj (by simp [z])]
    exact List.getElem?_set_ne fun z => hj (by simp [z])
theorem bind_imp {g : Tg} {d : D} {v : V} {Γ1 : Env} {Q : St → Hp → Prop} (f : Fr c n G H σ Γ []) (hn : ∀ i ∈ tgIx g, n.No i) (r : Rep c G d v) (e : bindT g d Γ = some Γ1)
    (q : ∀ σ2, Alike (tgIx g) σ σ2 → Fr c n G H σ2 Γ1 [] → Q σ2 H) : gT c.K g v σ H Q := by
  cases g with
  | one i =>
    cases e
    exact q _ ⟨List.length_set, fun j hj => List.getElem?_set_ne fun z => hj (by simp [tgIx, z])⟩ (f.store1 r (hn i (by simp [tgIx])))
  | many is =>
    cases d with
    | tup l =>
      simp only [bindT] at e
      split at e
      · rename_i hl
        cases e
        obtain ⟨a, xs, rfl, h1, h2⟩ := r
        exact ⟨a, xs, rfl, Same.sqT f.gh h1, by rw [h2.length]; exact hl, names_imp f hn hl.symm h2 q⟩
      · cases e
    | _ => cases e
end

/-! ### comprehensions -/
theorem slot_clr : ∀ (own : List Nat) (Γ : Env) (j : Nat) (x : SD), slot (clr own Γ) j = some x → j ∉ own ∧ slot Γ j = some x
  | [], Γ, j, x, h => ⟨by simp, h⟩
  | i :: own, Γ, j, x, h => by
    obtain ⟨h1, h2⟩ := slot_clr own (Γ.set i none) j x h
    rcases slot_set h2 with ⟨rfl, q⟩ | ⟨ne, q⟩
    · cases q
    · exact ⟨by simp [ne, h1], q⟩
theorem clr_length : ∀ (own : List Nat) (Γ : Env), (clr own Γ).length = Γ.length
  | [], Γ => rfl
  | i :: own, Γ => by
    show (clr own (Γ.set i none)).length = _
    rw [clr_length own, List.length_set]
theorem slot_unwipe {Γ0 : Env} : ∀ (own : List Nat) (Γ : Env) (j : Nat) (x : SD), slot (unwipe Γ0 own Γ) j = some x → (j ∈ own ∧ slot Γ0 j = some x) ∨ (j ∉ own ∧ slot Γ j = some x)
  | [], Γ, j, x, h => .inr ⟨by simp, h⟩
  | i :: own, Γ, j, x, h => by
    rcases slot_unwipe own (Γ.set i (slot Γ0 i)) j x h with ⟨h1, h2⟩ | ⟨h1, h2⟩
    · exact .inl ⟨by simp [h1], h2⟩
    · rcases slot_set h2 with ⟨rfl, q⟩ | ⟨ne, q⟩
      · exact .inl ⟨by simp, q⟩
      · exact .inr ⟨by simp [ne, h1], q⟩
theorem unwipe_length {Γ0 : Env} : ∀ (own : List Nat) (Γ : Env), (unwipe Γ0 own Γ).length = Γ.length
  | [], Γ => rfl
  | i :: own, Γ => by
    show (unwipe Γ0 own (Γ.set i (slot Γ0 i))).length = _
    rw [unwipe_length own, List.length_set]
theorem wipe_out (σ : St) : ∀ (vs : List Nat) (j : Nat), j ∉ vs → (wipe σ vs)[j]? = σ[j]?
  | [], j, _ => rfl
  | v :: vs, j, h => by
    unfold wipe
    rw [List.getElem?_set_ne fun z => h (by simp [z])]
    exact wipe_out σ vs j fun z => h (by simp [z])
theorem wipe_in (σ : St) : ∀ (vs : List Nat) (j : Nat), j ∈ vs → (wipe σ vs)[j]? = σ[j]?.map fun _ => none
  | [], j, h => by cases h
  | v :: vs, j, h => by
    unfold wipe
    by_cases e : v = j
    · subst e
      rw [List.getElem?_set]
      simp only [if_true]
      rw [wipe_length]
      split
      · rename_i hl; rw [List.getElem?_eq_getElem hl]; rfl
      · rename_i hl; rw [List.getElem?_eq_none (by omega)]; rfl
    · rw [List.getElem?_set_ne e]
      exact wipe_in σ vs j (by rcases List.mem_cons.mp h with z | z; exact absurd z.symm e; exact z)
theorem wipe_alike {vs : List Nat} {σ σ2 : St} (h : Alike vs (wipe σ vs) σ2) : wipe σ2 vs = wipe σ vs := by
  refine List.ext_getElem? fun j => ?_
  by_cases hj : j ∈ vs
  · rw [wipe_in _ _ _ hj, wipe_in _ _ _ hj]
    have hl : σ2.length = σ.length := by rw [h.1, wipe_length]
    rcases Nat.lt_or_ge j σ.length with z | z
    · rw [List.getElem?_eq_getElem z, List.getElem?_eq_getElem (by omega : j < σ2.length)]; rfl
    · rw [List.getElem?_eq_none z, List.getElem?_eq_none (by omega)]
  · rw [wipe_out _ _ _ hj, h.2 j hj, wipe_out _ _ _ hj]
section
variable {c : Cn} {n : En} {G H : Hp} {σ σ' : St} {Γ Γ' : Env} {T : List Addr}
/-- names forgotten -/
theorem Fr.sub (f : Fr c n G H σ Γ T) (hl : σ'.length = σ.length) (hl2 : Γ'.length = Γ.length) (hs : ∀ j x, slot Γ' j = some x → slot Γ j = some x ∧ σ'[j]? = σ[j]?) (hp : ∀ p ∈ n.P0, σ'[p.1]? = σ[p.1]?) : Fr c n G H σ' Γ' T := by
  obtain ⟨fp, h1, h2, h3⟩ := f.sl
  refine ⟨f.gh, ⟨fp, fun j s d e => ?_, h2, h3⟩, f.tm, f.keep, f.grow, f.new, by rw [hl, hl2]; exact f.len, f.lent, fun p h => by rw [hp p h]; exact f.pin p h⟩
  obtain ⟨e1, e2⟩ := hs j _ e
  obtain ⟨v, hv, hr⟩ := h1 j s d e1
  exact ⟨v, by rw [e2]; exact hv, hr⟩
theorem Fr.clrd {own : List Nat} (f : Fr c n G H σ Γ T) (hn : ∀ i ∈ own, n.No i) (hl : σ'.length = σ.length) (ha : ∀ j, j ∉ own → σ'[j]? = σ[j]?) : Fr c n G H σ' (clr own Γ) T :=
  f.sub hl (clr_length _ _) (fun j x e => let ⟨h1, h2⟩ := slot_clr own Γ j x e; ⟨h2, ha j h1⟩) fun p hp => ha p.1 fun z => hn p.1 z p hp rfl
theorem Fr.unwiped {own : List Nat} {G1 H1 : Hp} {Γ1 Γi : Env} {σw : St} (f1 : Fr c n G1 H1 σ Γ1 []) (cw : canWipe Γ1 own = true) (s : Same G1 G) (f : Fr c n G H σw (clr own Γi) T) (hl : σw.length = σ.length) (ha : ∀ j, j ∉ own → σw[j]? = σ[j]?) :
    Fr c n G H σ (unwipe Γ1 own Γi) T := by
  obtain ⟨fp, h1, h2, h3⟩ := f.sl
  have hclr : ∀ j x, j ∉ own → slot Γi j = some x → slot (clr own Γi) j = some x := fun j x hj e => clr_keep own Γi j x hj e
  refine ⟨f.gh, ⟨fun j => if j ∈ own then [] else fp j, fun j s' d e => ?_, fun i j a hi hj => ?_, fun j a ha' => ?_⟩, f.tm, f.keep, f.grow, f.new, ?_, f.lent, f1.pin⟩
  · rcases slot_unwipe own Γi j _ e with ⟨z1, z2⟩ | ⟨z1, z2⟩
    · simp only [if_pos z1]
      obtain ⟨v, T', hv, hr⟩ := f1.lookS z2
      have hsh : s' = .fz := by
        have := List.all_eq_true.mp cw j z1
        rw [z2] at this
        cases s' with
        | fz => rfl
        | own => cases this
      subst hsh
      exact ⟨v, hv, rfl, Rep.mono s _ _ hr.2⟩
    · simp only [if_neg z1]
      obtain ⟨v, hv, hr⟩ := h1 j s' d (hclr j _ z1 z2)
      exact ⟨v, by rw [← ha j z1]; exact hv, hr⟩
  · by_cases z : i ∈ own
    · simp only [if_pos z] at hi; cases hi
    · by_cases z' : j ∈ own
      · simp only [if_pos z'] at hj; cases hj
      · simp only [if_neg z] at hi; simp only [if_neg z'] at hj; exact h2 i j a hi hj
  · by_cases z : j ∈ own
    · simp only [if_pos z] at ha'; cases ha'
    · simp only [if_neg z] at ha'; exact h3 j a ha'
  · rw [unwipe_length, ← clr_length own Γi, ← f.len, hl]
where
  clr_keep : ∀ (own : List Nat) (Γ : Env) (j : Nat) (x : SD), j ∉ own → slot Γ j = some x → slot (clr own Γ) j = some x
    | [], Γ, j, x, _, e => e
    | i :: own, Γ, j, x, h, e => by
      show slot (clr own (Γ.set i none)) j = some x
      refine clr_keep own (Γ.set i none) j x (fun z => h (by simp [z])) ?_
      rw [slot_set_ne fun z => h (by simp [z])]
      exact e
end
def wF : WP := fun _ _ => False
def tGT (c : Cn) (n : En) (w : WP) (f : Env → R Bool) : L2.TT := fun σ H Q => ∃ p o, (n.H0 p = none ∧ p ∉ n.F0 ∧ n.G0 p = none) ∧ tFT c (n.guard p o) w f σ H Q
section
variable {c : Cn} {n : En} {w : WP} {σ : St} {H : Hp} {Q : VK}
theorem comp_imp {own : List Nat} {g : Tg} {fi : Env → R (List D)} {ft : Env → R Bool} {fe : Env → R SD} (hno : ∀ i ∈ own, n.No i) (hg : ∀ i ∈ tgIx g, i ∈ own)
    (h : tF c n w (fun Γ => (fi Γ).bind fun xs Γ => match canWipe Γ own with
      | false => .bad
      | true => match loopC own (bindT g) ft fe xs [] Γ with
        | .ok l Γ' => .ok (.own, .lst l) (unwipe Γ own Γ')
        | _ => .bad) σ H Q) : tLc (tFI c n w fi) (gT c.K g) (tGT c n wF ft) (tG c n wF fe) own σ H Q := by
  obtain ⟨G, Γ, f, q⟩ := h
  refine ⟨G, Γ, f, ?_⟩
  cases e : fi Γ with
  | bad => simp only [e] at q; exact q
  | ex k Γ1 => simp only [e] at q; exact q
  | ok xs Γ1 =>
    simp only [e, R.bind] at q
    intro J G1 H1 s1 f1 ok Dl hD
    cases cw : canWipe Γ1 own with
    | false => rw [cw] at q; exact q.elim
    | true =>
      rw [cw] at q
      simp only at q
      cases eL : loopC own (bindT g) ft fe xs [] Γ1 with
      | bad => rw [eL] at q; exact q.elim
      | ex k Γ2 => rw [eL] at q; exact q.elim
      | ok l Γf =>
        rw [eL] at q
        have h0 := f1.free hD
        have hwl : (wipe σ own).length = σ.length := wipe_length σ own
        have hno' : ∀ o, ∀ i ∈ own, (n.guard Dl o).No i := fun o i hi => hno i hi
        refine ⟨fun i m H => m = xs.length - i ∧ i ≤ xs.length ∧ ∃ accD accV Γi Gi, loopC own (bindT g) ft fe (xs.drop i) accD Γi = .ok l Γf ∧ Fr c (n.guard Dl (.lst accV)) Gi H (wipe σ own) (clr own Γi) [] ∧ Same G1 Gi ∧ Reps c Gi accD accV,
          ⟨xs.length, by simp, Nat.zero_le _, [], [], Γ1, G1, eL, (f1.guard hD (.lst [])).clrd (hno' _) hwl (fun j hj => wipe_out σ own j hj), Same.refl _, rfl⟩, ?_⟩
        rintro i m H2 ⟨rfl, hi, accD, accV, Γi, Gi, eLi, fi', si, ra⟩
        obtain ⟨hDl, hGl, _⟩ := fi'.guarded h0
        by_cases hlt : i < xs.length
        · obtain ⟨d, hd⟩ : ∃ d, xs[i]? = some d := ⟨xs[i], List.getElem?_eq_getElem hlt⟩
          have hdr : xs.drop i = d :: xs.drop (i + 1) := by
            rw [List.drop_eq_getElem_cons hlt]
            congr 1
            rw [List.getElem?_eq_getElem hlt] at hd
            exact Option.some.inj hd
          rw [hdr] at eLi
          obtain ⟨hgo, hy⟩ := ok.1 i d H2 hd (si.trans fi'.gh)
          refine .inr ⟨hgo, fun H' => i + 1 ≤ xs.length ∧ ∃ accD accV Γi Gi, loopC own (bindT g) ft fe (xs.drop (i + 1)) accD Γi = .ok l Γf ∧ Fr c (n.guard Dl (.lst accV)) Gi H' (wipe σ own) (clr own Γi) [] ∧ Same G1 Gi ∧ Reps c Gi accD accV,
            fun H' p' => ⟨xs.length - (i + 1), by omega, rfl, p'⟩, fun x H' hyl => ?_⟩
          obtain ⟨rfl, rx⟩ := hy x H' hyl
          simp only [loopC] at eLi
          cases eb : bindT g d (clr own Γi) with
          | none => rw [eb] at eLi; cases eLi
          | some Γb =>
            rw [eb] at eLi
            simp only at eLi
            refine bind_imp fi' (fun i hi => hno' _ i (hg i hi)) (Rep.mono si _ _ rx) eb fun σ2 al fb => ?_
            have al' : Alike own (wipe σ own) σ2 := ⟨al.1, fun j hj => al.2 j fun z => hj (hg j z)⟩
            refine ⟨wipe_alike al', Dl, _, h0, Gi, Γb, fb, ?_⟩
            have back : ∀ j, j ∉ own → (wipe σ own)[j]? = σ2[j]? := fun j hj => (al'.2 j hj).symm
            cases et : ft Γb with
            | bad => rw [et] at eLi; cases eLi
            | ex k Γ2 => rw [et] at eLi; cases eLi
            | ok b Γ2 =>
              rw [et] at eLi
              intro G3 H3 s3 f3
              cases b with
              | false =>
                simp only at eLi
                simp only [Bool.false_eq_true, if_false]
                exact ⟨hlt, accD, accV, Γ2, G3, eLi, f3.clrd (hno' _) al'.1.symm back, si.trans s3, Reps.mono s3 _ _ ra⟩
              | true =>
                simp only at eLi
                simp only [if_true]
                refine ⟨Dl, _, h0, G3, Γ2, f3, ?_⟩
                cases ee : fe Γ2 with
                | bad => rw [ee] at eLi; cases eLi
                | ex k Γ3 => rw [ee] at eLi; cases eLi
                | ok r Γ3 =>
                  rw [ee] at eLi
                  simp only at eLi
                  split at eLi
                  · rename_i hmost
                    intro y G4 H4 T s4 f4 r4
                    obtain ⟨G4', s4', f4', r4'⟩ := f4.freeze r4
                    obtain ⟨hD4, _⟩ := f4'.guarded h0
                    have hal : accV.length = accD.length := ra.length
                    refine ⟨accV, hD4, Nat.lt_of_lt_of_le (by omega) most_line, hlt, accD ++ [r.2], accV ++ [y], Γ3, G4', eLi, (f4'.reguard h0).clrd (hno' _) al'.1.symm back, ((si.trans s3).trans s4).trans s4', ?_⟩
                    exact (Reps.mono ((s3.trans s4).trans s4') _ _ ra).append (Reps.one r4')
                  · cases eLi
        · have ei : i = xs.length := by omega
          subst ei
          rw [List.drop_length] at eLi
          cases eLi
          refine .inl ⟨ok.2 _ H2 (Nat.le_refl _) (si.trans fi'.gh), ?_⟩
          have f5 := fi'.aside (o' := .lst accV) h0
          have eH : upd H2 Dl (.lst accV) = H2 := by
            funext b
            by_cases z : b = Dl
            · rw [z, upd_same, hDl]
            · rw [upd_ne z]
          rw [eH] at f5
          exact q (.ref Dl) Gi H2 [Dl] (s1.trans si) (f1.unwiped cw si f5 hwl fun j hj => wipe_out σ own j hj) ⟨Dl, rfl, rfl, accV, hDl, ra⟩
end
end Rl
set_option Elab.async false
set_option linter.all false
set_option maxRecDepth 100000
set_option autoImplicit false
/-! Roundlines: try .. except C as e: caught = e, the error kept as a value. -/
namespace Rl
open PySem L2
def wKeep (K : PySem.W.Frag) (c : Value) (i j : Nat) (Wout : WX) (D : Ends) : WX := fun cl d σ H =>
  ∃ b, PySem.W.exmOne K cl c = some b ∧ (b = true → d = none ∧ ∀ a, H a = none → D.nx ((σ.set j (some (.ref a))).set i none) (upd H a (ExT cl a))) ∧ (b = false → Wout cl d σ H)
section
variable {X : Cx} {pins : List (Addr × Obj)} {σ : St} {H : Hp} {s : Shared}
theorem Inv.unsuiteK {a : Addr} {q : Addr × Obj} {pn' : List (Addr × Obj)} (I : L2.Inv (X.suite a (q :: (X.pn ++ pins))) pn' σ H s) (ok : X.Ok) : L2.Inv X (q :: pins) σ H s :=
  ⟨ok, I.os, I.bare, I.base, I.loc, I.cell, I.free, I.freeC, fun p hp => I.pin p (List.mem_append_left _ (by
    rcases List.mem_append.mp hp with h | h
    · exact List.mem_cons_of_mem _ (List.mem_append_left _ h)
    · rcases List.mem_cons.mp h with h | h
      · rw [h]; exact List.mem_cons_self
      · exact List.mem_cons_of_mem _ (List.mem_append_right _ h))), I.hok, I.len⟩
/-- an object that stands is tracked from now on -/
theorem Inv.track {a : Addr} {oe : Obj} {ob : HO} (I : L2.Inv X ((a, oe) :: pins) σ H s) (h0 : X.s_0.heap.get? a = none) (np : ∀ p ∈ X.pn ++ pins, p.1 ≠ a) (new : ObjOk X.prog X.w (upd H a ob) s.heap a ob) : L2.Inv X pins σ (upd H a ob) s := by
  obtain ⟨ha, na, nL, nF, nc⟩ := I.pin (a, oe) (List.mem_append_right _ List.mem_cons_self)
  refine ⟨I.ok, I.os, I.bare, ⟨I.base.keep, I.base.slot, fun b o e n hx => ?_, I.base.there, fun b xs e => ?_, fun b u xs e => ?_, fun b ps e => ?_⟩, I.loc, I.cell, ?_, fun x c e => ?_, fun p hp => ?_, I.hok.laidN (fun _ _ e => e) na new, I.len⟩
  · have nb : b ≠ a := fun z => by rw [z, h0] at e; cases e
    rw [upd_ne nb]; exact I.base.free b o e n hx
  · have z := I.base.tups b xs e
    rw [upd_ne (ne_of_none z na)]; exact z
  · have z := I.base.frzs b u xs e
    rw [upd_ne (ne_of_none z na)]; exact z
  · obtain ⟨qs, z⟩ := I.base.tbls b ps e
    exact ⟨qs, by rw [upd_ne (ne_of_none z na)]; exact z⟩
  · rw [upd_ne (Ne.symm nL)]; exact I.free
  · have nb : c ≠ a := fun z => by
      obtain ⟨v, o, e1, e2⟩ := I.cell x c e
      rw [z] at e1
      have ha : s.heap.get? a = some oe := ha
      rw [ha] at e1
      cases e1
      exact nc v e2
    rw [upd_ne nb]; exact I.freeC x c e
  · have hp' : p ∈ X.pn ++ ((a, oe) :: pins) := by
      rcases List.mem_append.mp hp with h | h
      · exact List.mem_append_left _ h
      · exact List.mem_append_right _ (List.mem_cons_of_mem _ h)
    obtain ⟨e1, e2, e3⟩ := I.pin p hp'
    exact ⟨e1, by rw [upd_ne (np p hp)]; exact e2, e3⟩
end
section
variable {X : Cx} {x n y : Str} {c : Value} {i j : Nat} {body : List Stmt} {np pos pos' py pn2 ap : Pos} {tb : WX → L2.TS} {Wout : WX}
theorem ps_try_keep (hs : X.stack = X.env :: X.outer) (hf : X.env.frame = some X.env.locals) (hex : X.ex = []) (hN : X.N.Nodup) (hi : X.N[i]? = some n) (hln : X.env.kindOf n = some .local) (hj : X.N[j]? = some y) (hlj : X.env.kindOf y = some .local) (hij : i ≠ j)
    (hdn : (n == ("__debug__" : Str)) = false) (hcn : (n == ("__classdict__" : Str)) = false) (hc : Names X x c) (tk : Takes X Wout)
    (hb : ∀ (W : WX) (pn : List (Addr × Obj)) (xe : Value → Shared → Prop), Takes (X.tr pn xe) W → PassesOwn (model X.prog X.w) X.A X.env xe → PSs (X.tr pn xe) body (tb W)) :
    PS X (.Try body [.ExceptHandler (some (.Name x np)) (some n) [.Assign [.Name y py] (.Name n pn2) ap] pos'] [] [] pos) (fun D σ H => tb (wKeep X.K c i j Wout D) D σ H) := by
  refine ⟨fun pins s σ H D I h => ?_⟩
  have ok := I.ok
  have hfr : X.A.frames = some (X.env :: X.outer) := by rw [ok.frames, hs]
  have hloc : Loc X.env.scope n := .inl hln
  refine wpAny_Try_except ?_
  refine wpAny_mono ((hb (wKeep X.K c i j Wout D) (X.pn ++ pins) (fun e s₁ => wpAny (model X.prog X.w) X.A (noteFrame e X.env) (fun _ s₂ => wpAny (model X.prog X.w) X.A (setFlight e none) (fun _ s₃ =>
    wpAny (model X.prog X.w) X.A (handleBy e X.env [.ExceptHandler (some (.Name x np)) (some n) [.Assign [.Name y py] (.Name n pn2) ap] pos']) (SP X pins D) X.xe s₃) X.xe s₂) X.xe s₁) (fun u s' xx => ?_) PassesOwn.looking).run [] s σ H D (I.toTry _) h) (fun f s1 hsp => ?_) (fun e s1 he => he)
  · obtain ⟨a, B, sI, pins', σ', H', cls, d, rfl, J', nb, up, sky, na, os, ag, b, hb1, hyes, hno⟩ := xx
    have J : L2.Inv X pins σ' H' sI := J'.ofTry ok
    have sky' : Sky B (X.env :: X.outer) a (Zc cls d) X.env.locals s'.heap := by rw [← hs]; exact sky
    show wpAny (model X.prog X.w) X.A (noteFrame (.ref a) X.env) _ _ _
    refine Sky.land Zc.steady hfr hf sky' fun h3 fl3 up3 => ?_
    have J3 : L2.Inv X pins σ' H' { s' with heap := h3 } := J.landed nb fl3.1 (up.trans up3) os ag
    obtain ⟨oe3, vs3, he3, hz3, hd3⟩ := fl3.there
    have hBa : B.get? a = none := fl3.2.1
    have notFr : ∀ {h : Heap} {o : Obj} {vs : Array Value}, h.FunFrames B (X.env :: X.outer) → h.get? a = some o → o.data = .fields vs → a ∉ frs (X.env :: X.outer) := fun {h o vs} ff e dd hm => by
      obtain ⟨_, o', e', hnf⟩ := ff.mem hm
      rw [e] at e'; cases e'
      exact hnf _ dd
    have nfr := notFr fl3.2.2.1 he3 hd3
    have nL : a ≠ X.env.locals := fun z => nfr (List.mem_filterMap.mpr ⟨X.env, List.mem_cons_self, by rw [hf, z]⟩)
    have nF : a ∉ X.fs := fun hm => by
      obtain ⟨e, he, q⟩ := List.mem_filterMap.mp hm
      exact nfr (List.mem_filterMap.mpr ⟨e, List.mem_cons_of_mem _ he, q⟩)
    have h0 : X.s_0.heap.get? a = none := by
      cases e : X.s_0.heap.get? a with
      | none => rfl
      | some o =>
        obtain ⟨o', e'⟩ := J.base.there a o e (by rw [hex]; simp)
        have := nb a o' e' (by rw [hs]; exact nfr)
        rw [hBa] at this; cases this
    have npin : ∀ p ∈ X.pn ++ pins, p.1 ≠ a := fun p hp z => by
      obtain ⟨e1, _, e3, e4, _⟩ := J.pin p hp
      have := nb p.1 p.2 e1 (by
        rw [hs]
        intro hm
        obtain ⟨e, he, q⟩ := List.mem_filterMap.mp hm
        rcases List.mem_cons.mp he with z' | z'
        · rw [z', hf] at q; exact e3 (Option.some.inj q).symm
        · exact e4 (List.mem_filterMap.mpr ⟨e, z', q⟩))
      rw [z, hBa] at this; cases this
    have S3 := J3.suite he3 hd3 na nL nF
    refine wpAny_handleBy_cons (codeAny_handlers_test ?_) (by intro q; cases q)
    have LT : PySem.W.Looks (model X.prog X.w) h3 (typeOf (.ref a)) cls := fun A Q E s k q => wpAny_typeOf_ref (k _ _ he3) (by rw [hz3.1]; exact q)
    have LM := PySem.W.exm_one (M := model X.prog X.w) (J3.kIn) LT hb1
    have test : ∀ {Q : Value → Shared → Prop} {E : Value → Shared → Prop}, Q c { s' with heap := h3 } → wpAny (model X.prog X.w) (X.A.mark (some (.ref a))) (eval (.Name x np) X.env) Q E { s' with heap := h3 } := fun {Q E} q => by
      obtain ⟨hg, hdbg, hm | ⟨hm, hv, hnn⟩⟩ := hc
      · exact ld_glob (X := X.suite a ((a, oe3) :: (X.pn ++ pins))) S3 hg hm q hdbg
      · exact ld_blt (X := X.suite a ((a, oe3) :: (X.pn ++ pins))) S3 hg hm hv q hnn hdbg
    refine test (LM.here ?_)
    cases b with
    | true =>
      obtain ⟨hdn0, hnx⟩ := hyes rfl
      subst hdn0
      refine codeAny_handlers_suite_as ?_
      refine HandSPX.lands_againZ fl3 fun h4 fl4 up4 => ?_
      have J4 : L2.Inv X pins σ' H' { s' with heap := h4 } := J.landed nb fl4.1 ((up.trans up3).trans up4) os ag
      obtain ⟨oe4, vs4, he4, hz4, hd4⟩ := fl4.there
      have S4 := J4.suite he4 hd4 na nL nF
      have hlen : i < σ'.length := by
        rw [J.len]
        rcases Nat.lt_or_ge i X.N.length with z | z
        · exact z
        · rw [List.getElem?_eq_none z] at hi; cases hi
      refine store_ok (X := X.suite a ((a, oe4) :: (X.pn ++ pins))) (v := .ref a) S4 hN hi hloc rfl (fun s5 S5 => ?_) (.inr hln)
      have st : PSs (X.suite a ((a, oe4) :: (X.pn ++ pins))) [.Assign [.Name y py] (.Name n pn2) ap] (tAsg (tVar i) (gName j)) :=
        pss_one (ps_set hN hj (.inl hlj) (pe_var hi (.inl hln) hdn hcn) rfl (.inr hlj))
      refine wpAny_mono (st.run [] s5 _ H' { nx := fun σ6 H6 => σ6 = (σ'.set i (some (.ref a))).set j (some (.ref a)) ∧ H6 = H', rt := fun _ _ => False, bk := fun _ _ => False, ct := fun _ _ => False } S5 ⟨.ref a, List.getElem?_set_self hlen, rfl, rfl⟩) (fun f s6 hsp => ?_) (fun _ _ z => False.elim z)
      cases f with
      | next =>
        obtain ⟨σ6, H6, S6, rfl, rfl⟩ := hsp
        refine gone_ok (Inv.unsuiteK S6 ok) hN hi hln fun s7 J7 => ?_
        have e7 : s7.heap.get? a = some oe4 := (J7.pin (a, oe4) (List.mem_append_right _ List.mem_cons_self)).1
        have new : ObjOk X.prog X.w (upd H6 a (ExT cls a)) s7.heap a (ExT cls a) := ⟨⟨oe4, vs4, e7, hz4, hd4⟩, ⟨_, e7⟩, fun h1 h2 ⟨o, v, q1, q2⟩ k => ⟨o, v, k _ q1, q2⟩⟩
        have J8 := Inv.track J7 h0 npin new
        have eσ : ((σ'.set i (some (.ref a))).set j (some (.ref a))).set i none = (σ'.set j (some (.ref a))).set i none := by
          rw [List.set_comm _ _ hij, List.set_set]
        rw [eσ] at J8
        exact ⟨_, _, J8, hnx a na⟩
      | brk => obtain ⟨_, _, _, q⟩ := hsp; exact False.elim q
      | cont => obtain ⟨_, _, _, q⟩ := hsp; exact False.elim q
      | ret u => obtain ⟨_, _, _, _, _, q⟩ := hsp; exact False.elim q
    | false =>
      show wpAny _ X.A (handleBy (.ref a) X.env []) _ _ _
      refine wpAny_handleBy_nil ?_
      obtain ⟨k1, k2, k3, oe, vs, T, oT, ts', he, hz, hd, h1, hr⟩ := id fl3
      unfold PySem.passOn
      refine wpAny_bind (wpAny_field he hd h1 ?_)
      rw [if_neg (show ¬ ((Value.ref T == Value.none) = true) from by simp)]
      have fin : wpAny (model X.prog X.w) X.A (setFlight (.ref a) X.env.frame) (fun _ s4 => wpAny (model X.prog X.w) X.A (throw (.ref a) : Sem Flow) (SP X pins D) X.xe s4) X.xe { s' with heap := h3 } := by
        rw [hf]
        refine HandSPX.setFlight_upZ fl3 fun h4 hh4 up4 => wpAny_throw (tk _ _ ?_)
        exact ⟨a, B, sI, pins, σ', H', cls, d, rfl, J, nb, (up.trans up3).trans up4, .inr (.inr (by rw [hs]; exact hh4)), na, os, ag, hno rfl⟩
      first
        | exact wpAny_bind (wpAny_pure (wpAny_bind fin))
        | exact wpAny_bind fin
  · cases f with
    | next =>
      obtain ⟨σ', H', J', q⟩ := hsp
      exact wpAny_execs_nil ⟨σ', H', J'.ofTry ok, q⟩
    | brk =>
      obtain ⟨σ', H', J', q⟩ := hsp
      exact ⟨σ', H', J'.ofTry ok, q⟩
    | cont =>
      obtain ⟨σ', H', J', q⟩ := hsp
      exact ⟨σ', H', J'.ofTry ok, q⟩
    | ret u =>
      obtain ⟨v, σ', H', J', r, q⟩ := hsp
      exact ⟨v, σ', H', J'.ofTry ok, r, q⟩
end
end Rl
set_option Elab.async false
set_option linter.all false
set_option maxRecDepth 100000
set_option autoImplicit false
/-! Roundlines: statements. -/
namespace Rl
open PySem L2
section
variable (c : Cn) (n : En) (w : WP)
def PostS (G : Hp) (D : Ends) (r : SR) : Prop := match r with
  | .nx Γ => ∀ σ' G' H', Same G G' → Fr c n G' H' σ' Γ [] → D.nx σ' H'
  | .rt x Γ => ∀ v σ' G' H' T, Same G G' → Fr c n G' H' σ' Γ T → RepS c G' H' x.1 x.2 v T → D.rt v H'
  | .bk Γ => ∀ σ' G' H', Same G G' → Fr c n G' H' σ' Γ [] → D.bk σ' H'
  | .ct Γ => ∀ σ' G' H', Same G G' → Fr c n G' H' σ' Γ [] → D.ct σ' H'
  | .ex k Γ => w k Γ
  | .bad => False
def tSf (f : Env → SR) : L2.TS := fun D σ H => ∃ G Γ, Fr c n G H σ Γ [] ∧ PostS c n w G D (f Γ)
end
theorem PSx.imp {X : Cx} {st : Stmt} {t t' : L2.TS} (h : PS X st t) (k : ∀ D σ H, t' D σ H → t D σ H) : PS X st t' := ⟨fun pins s σ H D I q => h.run pins s σ H D I (k _ _ _ q)⟩
theorem PSsx.imp {X : Cx} {st : List Stmt} {t t' : L2.TS} (h : PSs X st t) (k : ∀ D σ H, t' D σ H → t D σ H) : PSs X st t' := ⟨fun pins s σ H D I q => h.run pins s σ H D I (k _ _ _ q)⟩
section
variable {c : Cn} {n : En} {w : WP} {G G' H H' : Hp} {σ : St} {Γ : Env} {Dn : Ends} {T : List Addr}
theorem PostS.mono {r : SR} (q : PostS c n w G Dn r) (s : Same G G') : PostS c n w G' Dn r := by
  cases r with
  | nx Γ => exact fun σ' G1 H1 s1 f1 => q σ' G1 H1 (s.trans s1) f1
  | rt x Γ => exact fun v σ' G1 H1 T s1 f1 r1 => q v σ' G1 H1 T (s.trans s1) f1 r1
  | bk Γ => exact fun σ' G1 H1 s1 f1 => q σ' G1 H1 (s.trans s1) f1
  | ct Γ => exact fun σ' G1 H1 s1 f1 => q σ' G1 H1 (s.trans s1) f1
  | ex k Γ => exact q
  | bad => exact q
theorem Fr.storeT (f : Fr c n G H σ Γ T) {i : Nat} {s : Sh} {d : D} {v : V} (r : RepS c G H s d v T) (hno : n.No i) : Fr c n G H (σ.set i (some v)) (Γ.set i (some (s, d))) [] := by
  by_cases hi : i < Γ.length
  · exact f.store r hi hno
  · have h1 : σ.set i (some v) = σ := List.set_eq_of_length_le (by rw [f.len]; omega)
    have h2 : Γ.set i (some (s, d)) = Γ := List.set_eq_of_length_le (by omega)
    rw [h1, h2]; exact f.noT
theorem asg_imp {i : Nat} {fe : Env → R SD} (hno : n.No i) (h : tSf c n w (fun Γ => (fe Γ).sr fun x Γ => .nx (Γ.set i (some x))) Dn σ H) : tAsg (tF c n w fe) (gName i) Dn σ H := by
  obtain ⟨G, Γ, f, q⟩ := h
  refine ⟨G, Γ, f, ?_⟩
  cases e : fe Γ with
  | bad => simp only [e] at q; exact q
  | ex k Γ1 => simp only [e] at q; exact q
  | ok x Γ1 =>
    simp only [e, R.sr] at q
    intro v G1 H1 T s1 f1 r1
    exact q _ G1 H1 s1 (f1.storeT r1 hno)
theorem unp_imp {is : List Nat} {fe : Env → R SD} (hno : ∀ i ∈ is, n.No i) (h : tSf c n w (fun Γ => (fe Γ).sr fun x Γ => match bindT (.many is) x.2 Γ with
      | some Γ' => .nx Γ'
      | none => .bad) Dn σ H) : tAsg (tF c n w fe) (gT c.K (.many is)) Dn σ H := by
  obtain ⟨G, Γ, f, q⟩ := h
  refine ⟨G, Γ, f, ?_⟩
  cases e : fe Γ with
  | bad => simp only [e] at q; exact q
  | ex k Γ1 => simp only [e] at q; exact q
  | ok x Γ1 =>
    simp only [e, R.sr] at q
    intro v G1 H1 T s1 f1 r1
    obtain ⟨G1', s1', f1', r1'⟩ := f1.freeze r1
    cases eb : bindT (.many is) x.2 Γ1 with
    | none => rw [eb] at q; exact q.elim
    | some Γ2 =>
      rw [eb] at q
      exact bind_imp f1' hno r1' eb fun σ2 _ f2 => q σ2 G1' H1 (s1.trans s1') f2
theorem par_imp {i j : Nat} {fa fb : Env → R SD} (hi : n.No i) (hj : n.No j) (h : tSf c n w (fun Γ => (fa Γ).sr fun x Γ => (fb Γ).sr fun y Γ => .nx ((Γ.set i (some (.fz, x.2))).set j (some (.fz, y.2)))) Dn σ H) :
    tPar i j (tCons (tF c n w fa) (tCons (tF c n w fb) tNil)) Dn σ H := by
  obtain ⟨G, Γ, f, q⟩ := h
  refine ⟨G, Γ, f, ?_⟩
  cases e : fa Γ with
  | bad => simp only [e] at q; exact q
  | ex k Γ1 => simp only [e] at q; exact q
  | ok x Γ1 =>
    simp only [e, R.sr] at q
    intro v G1 H1 T s1 f1 r1
    obtain ⟨G1', s1', f1', r1'⟩ := f1.freeze r1
    refine ⟨G1', Γ1, f1', ?_⟩
    cases e2 : fb Γ1 with
    | bad => simp only [e2] at q; exact q
    | ex k Γ2 => simp only [e2] at q; exact q
    | ok y Γ2 =>
      simp only [e2] at q
      intro v2 G2 H2 T2 s2 f2 r2
      obtain ⟨G2', s2', f2', r2'⟩ := f2.freeze r2
      exact ⟨v, v2, rfl, q _ G2' H2 (((s1.trans s1').trans s2).trans s2') ((f2'.store1 (Rep.mono (s2.trans s2') _ _ r1') hi).store1 r2' hj)⟩

/-! ### stores into lists and dicts -/
def rPut (c : Cn) : TSet := fun o k v H Q => ∃ G a dk dv, o = .ref a ∧ Same G H ∧ Rep c G dk k ∧ Rep c G dv v ∧
  ((∃ ob ks vs ys xs, H a = some (dO a ob) ∧ (a == sysModules) = false ∧ DObj c ob ks ys xs ∧ Reps c G ks ys ∧ Reps c G vs xs ∧ fits ks dk = true ∧ ks.length < most ∧
      ∀ o' ys' xs', DObj c o' (putK ks dk) ys' xs' → Reps c G (putK ks dk) ys' → Reps c G (putV ks vs dk dv) xs' → Q (upd H a (dO a o'))) ∨
   (∃ xs m, H a = some (.lst xs) ∧ k = .int m ∧ 0 ≤ m ∧ m < xs.length ∧ Q (upd H a (.lst (xs.set m.toNat v)))))
theorem set_put {X : Cx} {cls : String → Addr} (hu : X.A.units + 9 < cLine) : PSet X (rPut (cn X cls)) := by
  intro pins s σ H o k v ov iv u Q I ro rk rv h
  obtain ⟨G, a, dk, dv, rfl, gh, hk, hv, h | h⟩ := h
  · obtain ⟨ob, ks, vs, ys, xs, h1, h2, h3, h4, h5, h6, h7, q⟩ := h
    cases ro
    exact d_set hu I gh h1 h2 h3 h4 h5 h6 (Flat.of gh hk) rk hv rv h7 fun o' ys' xs' s' I' d' r1 r2 => ⟨_, I', q o' ys' xs' d' r1 r2⟩
  · obtain ⟨xs, m, h1, rfl, h2, h3, q⟩ := h
    refine set_list pins s σ H _ _ v ov iv u Q I ro rk rv ⟨a, xs, m, m.toNat, rfl, rfl, h1, ?_, q⟩
    unfold ixN
    rw [if_pos h2, if_pos h3]
theorem put_imp {i : Nat} {fk fe : Env → R SD} (h : tSf c n w (fun Γ => (fe Γ).sr fun x Γ => match slot Γ i with
    | none => .bad
    | some _ => (fk Γ).sr fun y Γ => match slot Γ i with
      | some (.own, .dct ks vs) => if fits ks y.2 && decide (ks.length < most) then .nx (Γ.set i (some (.own, .dct (putK ks y.2) (putV ks vs y.2 x.2)))) else .bad
      | some (.own, .lst l) => (match y.2 with
        | .int n => if 0 ≤ n ∧ n < l.length then .nx (Γ.set i (some (.own, .lst (l.set n.toNat x.2)))) else .bad
        | _ => .bad)
      | _ => .bad) Dn σ H) : tAsg (tF c n w fe) (gSub (tVar i) (tF c n w fk) (rPut c)) Dn σ H := by
  obtain ⟨G, Γ, f, q⟩ := h
  refine ⟨G, Γ, f, ?_⟩
  cases e : fe Γ with
  | bad => simp only [e] at q; exact q
  | ex k Γ1 => simp only [e] at q; exact q
  | ok x Γ1 =>
    simp only [e, R.sr] at q
    intro v G1 H1 T s1 f1 r1
    obtain ⟨G1', s1', f1', r1'⟩ := f1.freeze r1
    cases es0 : slot Γ1 i with
    | none => rw [es0] at q; exact q.elim
    | some sd0 =>
    rw [es0] at q
    simp only at q
    obtain ⟨vi, hvi, _⟩ := f1'.look (s := sd0.1) (d := sd0.2) es0
    refine ⟨vi, hvi, G1', Γ1, f1', ?_⟩
    cases e2 : fk Γ1 with
    | bad => simp only [e2] at q; exact q
    | ex k Γ2 => simp only [e2] at q; exact q
    | ok y Γ2 =>
      simp only [e2] at q
      intro v2 G2 H2 T2 s2 f2 r2
      obtain ⟨G2', s2', f2', r2'⟩ := f2.freeze r2
      have sall := ((s1.trans s1').trans s2).trans s2'
      have rx := Rep.mono (s2.trans s2') _ _ r1'
      cases es : slot Γ2 i with
      | none => rw [es] at q; exact q.elim
      | some sd =>
        obtain ⟨sh, d⟩ := sd
        rw [es] at q
        obtain ⟨v3, T3, hv3, r3⟩ := f2'.lookS es
        rw [hvi] at hv3
        cases hv3
        cases sh with
        | fz => exact q.elim
        | own =>
          obtain ⟨a, ea, eT, r3⟩ := r3
          subst ea
          cases d with
          | dct ks vs =>
            simp only at q r3
            split at q
            · rename_i hl
              rw [Bool.and_eq_true, decide_eq_true_eq] at hl
              obtain ⟨o, ys, xs, h1, h2, h3, h4, h5⟩ := r3
              refine ⟨G2', a, y.2, x.2, rfl, f2'.gh, r2', rx, .inl ⟨o, ks, vs, ys, xs, h1, h2, h3, h4, h5, hl.1, hl.2, fun o' ys' xs' d' g1 g2 => ?_⟩⟩
              exact q _ G2' _ sall (f2'.write (s := .own) es hvi ⟨a, rfl, rfl, o', ys', xs', upd_same, h2, d', g1, g2⟩)
            · exact q.elim
          | lst l =>
            simp only at q r3
            obtain ⟨xs, h1, h2⟩ := r3
            split at q
            · rename_i m em
              split at q
              · rename_i hl
                refine ⟨G2', a, y.2, x.2, rfl, f2'.gh, r2', rx, .inr ⟨xs, m, h1, ?_, hl.1, by rw [h2.length]; exact hl.2, ?_⟩⟩
                · rw [em] at r2'; exact r2'
                · exact q _ G2' _ sall (f2'.write (s := .own) es hvi ⟨a, rfl, rfl, _, upd_same, h2.set _ rx⟩)
              · exact q.elim
            · exact q.elim
          | _ => exact r3.elim
/-- x.append(e), x.extend(e), the value dropped -/
theorem app_imp {i : Nat} {fe : Env → R SD} (h : tSf c n w (fun Γ => match slot Γ i with
    | some (.own, .lst _) => (fe Γ).sr fun x Γ => (match slot Γ i with
      | some (.own, .lst l) => if l.length < most then .nx (Γ.set i (some (.own, .lst (l ++ [x.2])))) else .bad
      | _ => .bad)
    | _ => .bad) Dn σ H) : tDrop (tBM c.K "list" rAppend (tVar i) (tCons (tF c n w fe) tNil)) Dn σ H := by
  obtain ⟨G, Γ, f, q⟩ := h
  cases es0 : slot Γ i with
  | none => simp only [es0] at q; exact q.elim
  | some sd =>
    obtain ⟨sh, d⟩ := sd
    simp only [es0] at q
    obtain ⟨v0, T0, hv0, r0⟩ := f.lookS es0
    cases sh with
    | fz => exact q.elim
    | own =>
      obtain ⟨a, ea, eT, r0⟩ := r0
      subst ea
      cases d with
      | lst l0 =>
        simp only at q
        obtain ⟨xs0, h10, h20⟩ := r0
        refine ⟨.ref a, hv0, .inl ⟨rfl, xs0, SqL.of h10⟩, G, Γ, f, ?_⟩
        cases e : fe Γ with
        | bad => simp only [e] at q; exact q
        | ex k Γ1 => simp only [e] at q; exact q
        | ok x Γ1 =>
          simp only [e, R.sr] at q
          intro v G1 H1 T s1 f1 r1
          obtain ⟨G1', s1', f1', r1'⟩ := f1.freeze r1
          cases es : slot Γ1 i with
          | none => rw [es] at q; exact q.elim
          | some sd =>
            obtain ⟨sh, d⟩ := sd
            rw [es] at q
            obtain ⟨v3, T3, hv3, r3⟩ := f1'.lookS es
            rw [hv0] at hv3
            cases hv3
            cases sh with
            | fz => exact q.elim
            | own =>
              obtain ⟨a', ea', eT', r3⟩ := r3
              cases ea'
              cases d with
              | lst l =>
                simp only at q r3
                split at q
                · rename_i hl
                  obtain ⟨xs, h1, h2⟩ := r3
                  refine ⟨a, xs, v, rfl, rfl, h1, Nat.lt_of_lt_of_le (by rw [h2.length]; exact hl) most_line, ?_⟩
                  exact q _ G1' _ (s1.trans s1') (f1'.write (s := .own) es hv0 ⟨a, rfl, rfl, _, upd_same, h2.append (Reps.one r1')⟩)
                · exact q.elim
              | dct ks vs => exact q.elim
              | _ => exact r3.elim
      | dct ks vs => exact q.elim
      | _ => exact r0.elim
theorem ext_imp {i : Nat} {fe : Env → R SD} (h : tSf c n w (fun Γ => match slot Γ i with
    | some (.own, .lst _) => (fe Γ).sr fun x Γ => (match x.2, slot Γ i with
      | .lst m, some (.own, .lst l) => if l.length + m.length ≤ most then .nx (Γ.set i (some (.own, .lst (l ++ m)))) else .bad
      | _, _ => .bad)
    | _ => .bad) Dn σ H) : tDrop (tBM c.K "list" rExtend (tVar i) (tCons (tF c n w fe) tNil)) Dn σ H := by
  obtain ⟨G, Γ, f, q⟩ := h
  cases es0 : slot Γ i with
  | none => simp only [es0] at q; exact q.elim
  | some sd =>
    obtain ⟨sh, d⟩ := sd
    simp only [es0] at q
    obtain ⟨v0, T0, hv0, r0⟩ := f.lookS es0
    cases sh with
    | fz => exact q.elim
    | own =>
      obtain ⟨a, ea, eT, r0⟩ := r0
      subst ea
      cases d with
      | lst l0 =>
        simp only at q
        obtain ⟨xs0, h10, h20⟩ := r0
        refine ⟨.ref a, hv0, .inl ⟨rfl, xs0, SqL.of h10⟩, G, Γ, f, ?_⟩
        cases e : fe Γ with
        | bad => simp only [e] at q; exact q
        | ex k Γ1 => simp only [e] at q; exact q
        | ok x Γ1 =>
          obtain ⟨xs1, xd⟩ := x
          simp only [e, R.sr] at q
          intro v G1 H1 T s1 f1 r1
          obtain ⟨G1', s1', f1', r1'⟩ := f1.freeze r1
          cases es : slot Γ1 i with
          | none => rw [es] at q; cases xd <;> exact q.elim
          | some sd =>
            obtain ⟨sh, d⟩ := sd
            rw [es] at q
            obtain ⟨v3, T3, hv3, r3⟩ := f1'.lookS es
            rw [hv0] at hv3
            cases hv3
            cases sh with
            | fz => cases xd <;> exact q.elim
            | own =>
              obtain ⟨a', ea', eT', r3⟩ := r3
              cases ea'
              cases d with
              | lst l =>
                cases xd with
                | lst m =>
                  simp only at q r3
                  split at q
                  · rename_i hl
                    obtain ⟨xs, h1, h2⟩ := r3
                    obtain ⟨b, zs, rfl, h3, h4⟩ := r1'
                    refine ⟨a, b, xs, zs, rfl, rfl, h1, f1'.gh _ _ h3, by rw [h2.length, h4.length]; exact Nat.le_trans hl most_line, ?_⟩
                    exact q _ G1' _ (s1.trans s1') (f1'.write (s := .own) es hv0 ⟨a, rfl, rfl, _, upd_same, h2.append h4⟩)
                  · exact q.elim
                | _ => exact q.elim
              | dct ks vs => cases xd <;> exact q.elim
              | _ => exact r3.elim
      | dct ks vs => exact q.elim
      | _ => exact r0.elim
theorem exp_imp {fe : Env → R SD} (h : tSf c n w (fun Γ => (fe Γ).sr fun _ Γ => .nx Γ) Dn σ H) : tDrop (tF c n w fe) Dn σ H := by
  obtain ⟨G, Γ, f, q⟩ := h
  refine ⟨G, Γ, f, ?_⟩
  cases e : fe Γ with
  | bad => simp only [e] at q; exact q
  | ex k Γ1 => simp only [e] at q; exact q
  | ok x Γ1 =>
    simp only [e, R.sr] at q
    exact fun v G1 H1 T s1 f1 r1 => q _ G1 H1 s1 f1.noT
theorem ret_imp {fe : Env → R SD} (h : tSf c n w (fun Γ => (fe Γ).sr fun x Γ => .rt x Γ) Dn σ H) : tRet (tF c n w fe) Dn σ H := by
  obtain ⟨G, Γ, f, q⟩ := h
  refine ⟨G, Γ, f, ?_⟩
  cases e : fe Γ with
  | bad => simp only [e] at q; exact q
  | ex k Γ1 => simp only [e] at q; exact q
  | ok x Γ1 =>
    simp only [e, R.sr] at q
    exact fun v G1 H1 T s1 f1 r1 => q v _ G1 H1 T s1 f1 r1
theorem ifs_imp {ft : Env → R Bool} {fa fb : Env → SR} (h : tSf c n w (fun Γ => (ft Γ).sr fun x Γ => match x with
      | true => fa Γ
      | false => fb Γ) Dn σ H) : tIfS (tFT c n w ft) (tSf c n w fa) (tSf c n w fb) Dn σ H := by
  obtain ⟨G, Γ, f, q⟩ := h
  refine ⟨G, Γ, f, ?_⟩
  cases e : ft Γ with
  | bad => simp only [e] at q; exact q
  | ex k Γ1 => simp only [e] at q; exact q
  | ok b Γ1 =>
    simp only [e, R.sr] at q
    intro G1 H1 s1 f1
    cases b with
    | true => simp only [if_true]; exact ⟨G1, Γ1, f1, q.mono s1⟩
    | false => simp only [Bool.false_eq_true, if_false]; exact ⟨G1, Γ1, f1, q.mono s1⟩
theorem seq_imp {fa fb : Env → SR} (h : tSf c n w (fun Γ => match fa Γ with
      | .nx Γ => fb Γ
      | r => r) Dn σ H) : tSeq (tSf c n w fa) (tSf c n w fb) Dn σ H := by
  obtain ⟨G, Γ, f, q⟩ := h
  refine ⟨G, Γ, f, ?_⟩
  cases e : fa Γ with
  | nx Γ1 => simp only [e] at q; exact fun σ' G1 H1 s1 f1 => ⟨G1, Γ1, f1, q.mono s1⟩
  | rt x Γ1 => simp only [e] at q; exact q
  | bk Γ1 => simp only [e] at q; exact q
  | ct Γ1 => simp only [e] at q; exact q
  | ex k Γ1 => simp only [e] at q; exact q
  | bad => simp only [e] at q; exact q
theorem nx_imp (h : tSf c n w (fun Γ => .nx Γ) Dn σ H) : tNext Dn σ H := by
  obtain ⟨G, Γ, f, q⟩ := h
  exact q σ G H (Same.refl _) f
theorem bk_imp (h : tSf c n w (fun Γ => .bk Γ) Dn σ H) : tBreak Dn σ H := by
  obtain ⟨G, Γ, f, q⟩ := h
  exact q σ G H (Same.refl _) f
theorem ct_imp (h : tSf c n w (fun Γ => .ct Γ) Dn σ H) : tCont Dn σ H := by
  obtain ⟨G, Γ, f, q⟩ := h
  exact q σ G H (Same.refl _) f
theorem retN_imp (h : tSf c n w (fun Γ => .rt (.fz, .non) Γ) Dn σ H) : tRetN Dn σ H := by
  obtain ⟨G, Γ, f, q⟩ := h
  exact q .non σ G H [] (Same.refl _) f ⟨rfl, rfl⟩
theorem rai_imp {k : String} (h : tSf c n w (fun Γ => .ex k Γ) Dn σ H) : Wx c n w (.ref (c.cls k)) none σ H := by
  obtain ⟨G, Γ, f, q⟩ := h
  exact ⟨k, G, Γ, rfl, rfl, f, q⟩
theorem for_imp {g : Tg} {fi : Env → R (List D)} {fb : Env → SR} (hno : ∀ i ∈ tgIx g, n.No i) (h : tSf c n w (fun Γ => (fi Γ).sr fun xs Γ => loopF (bindT g) fb xs Γ) Dn σ H) : tFor (tFI c n w fi) (gT c.K g) (tSf c n w fb) Dn σ H := by
  obtain ⟨G, Γ, f, q⟩ := h
  refine ⟨G, Γ, f, ?_⟩
  cases e : fi Γ with
  | bad => simp only [e] at q; exact q
  | ex k Γ1 => simp only [e] at q; exact q
  | ok xs Γ1 =>
    simp only [e, R.sr] at q
    intro J G1 H1 s1 f1 ok
    refine ⟨fun i m σ H => m = xs.length - i ∧ i ≤ xs.length ∧ ∃ Gi Γi, Fr c n Gi H σ Γi [] ∧ Same G1 Gi ∧ PostS c n w Gi Dn (loopF (bindT g) fb (xs.drop i) Γi),
      ⟨xs.length, by simp, Nat.zero_le _, G1, Γ1, f1, Same.refl _, q.mono s1⟩, ?_⟩
    rintro i m σi Hi ⟨rfl, hi, Gi, Γi, fr, si, qi⟩
    by_cases hlt : i < xs.length
    · obtain ⟨d, hd⟩ : ∃ d, xs[i]? = some d := ⟨xs[i], List.getElem?_eq_getElem hlt⟩
      have hdr : xs.drop i = d :: xs.drop (i + 1) := by
        rw [List.drop_eq_getElem_cons hlt]
        congr 1
        rw [List.getElem?_eq_getElem hlt] at hd
        exact Option.some.inj hd
      rw [hdr] at qi
      obtain ⟨hgo, hy⟩ := ok.1 i d Hi hd (si.trans fr.gh)
      refine .inr ⟨hgo, fun σ' H' => i + 1 ≤ xs.length ∧ ∃ Gi Γi, Fr c n Gi H' σ' Γi [] ∧ Same G1 Gi ∧ PostS c n w Gi Dn (loopF (bindT g) fb (xs.drop (i + 1)) Γi), fun σ' H' p' => ⟨xs.length - (i + 1), by omega, rfl, p'⟩, fun x H' hyl => ?_⟩
      obtain ⟨rfl, rx⟩ := hy x H' hyl
      simp only [loopF] at qi
      cases eb : bindT g d Γi with
      | none => rw [eb] at qi; exact qi.elim
      | some Γb =>
        rw [eb] at qi
        simp only at qi
        refine bind_imp fr hno (Rep.mono si _ _ rx) eb fun σ2 _ f2 => ⟨Gi, Γb, f2, ?_⟩
        cases ebd : fb Γb with
        | nx Γ2 => rw [ebd] at qi; exact fun σ' G' H' s' f' => ⟨hlt, G', Γ2, f', si.trans s', PostS.mono qi s'⟩
        | ct Γ2 => rw [ebd] at qi; exact fun σ' G' H' s' f' => ⟨hlt, G', Γ2, f', si.trans s', PostS.mono qi s'⟩
        | bk Γ2 => rw [ebd] at qi; exact qi
        | rt x Γ2 => rw [ebd] at qi; exact qi
        | ex k Γ2 => rw [ebd] at qi; exact qi
        | bad => rw [ebd] at qi; exact qi
    · have ei : i = xs.length := by omega
      subst ei
      rw [List.drop_length] at qi
      exact .inl ⟨ok.2 _ Hi (Nat.le_refl _) (si.trans fr.gh), qi σi Gi Hi (Same.refl _) fr⟩
theorem whl_imp {ft : Env → R Bool} {fb : Env → SR} {m0 : Nat} (h : tSf c n w (fun Γ => loopW ft fb m0 Γ) Dn σ H) : tWhile (tFT c n w ft) (tSf c n w fb) Dn σ H := by
  obtain ⟨G, Γ, f, q⟩ := h
  refine ⟨fun m σ H => ∃ Gi Γi, Fr c n Gi H σ Γi [] ∧ PostS c n w Gi Dn (loopW ft fb m Γi), ⟨m0, G, Γ, f, q⟩, ?_⟩
  rintro m σi Hi ⟨Gi, Γi, fr, qi⟩
  refine ⟨Gi, Γi, fr, ?_⟩
  cases m with
  | zero => exact qi.elim
  | succ m =>
    simp only [loopW] at qi
    cases e : ft Γi with
    | bad => rw [e] at qi; exact qi
    | ex k Γ1 => rw [e] at qi; exact qi
    | ok b Γ1 =>
      rw [e] at qi
      simp only [R.sr] at qi
      intro G1 H1 s1 f1
      cases b with
      | false => simp only [Bool.false_eq_true, if_false]; exact qi σi G1 H1 s1 f1
      | true =>
        simp only at qi
        simp only [if_true]
        refine ⟨fun σ' H' => ∃ Gi Γi, Fr c n Gi H' σ' Γi [] ∧ PostS c n w Gi Dn (loopW ft fb m Γi), fun σ' H' p' => ⟨m, Nat.lt_succ_self m, p'⟩, G1, Γ1, f1, ?_⟩
        cases ebd : fb Γ1 with
        | nx Γ2 => rw [ebd] at qi; exact fun σ' G' H' s' f' => ⟨G', Γ2, f', PostS.mono qi (s1.trans s')⟩
        | ct Γ2 => rw [ebd] at qi; exact fun σ' G' H' s' f' => ⟨G', Γ2, f', PostS.mono qi (s1.trans s')⟩
        | bk Γ2 => rw [ebd] at qi; exact PostS.mono (r := .nx Γ2) qi s1
        | rt x Γ2 => rw [ebd] at qi; exact PostS.mono qi s1
        | ex k Γ2 => rw [ebd] at qi; exact qi
        | bad => rw [ebd] at qi; exact qi

/-! ### try -/
def En.at (n : En) (G : Hp) : En := ⟨G, n.H0, n.F0, n.P0⟩
theorem Fr.rebase (f : Fr c n G H σ Γ T) : Fr c (n.at G) G H σ Γ T := ⟨f.gh, f.sl, f.tm, f.keep, Same.refl _, fun _ _ e => .inl e, f.len, f.lent, f.pin⟩
theorem Fr.unbase {σ' : St} {Γ' : Env} (f0 : Fr c n G H σ Γ []) (f : Fr c (n.at G) G' H' σ' Γ' T) : Fr c n G' H' σ' Γ' T :=
  ⟨f.gh, f.sl, f.tm, f.keep, f0.grow.trans f.grow, fun a o e => (f.new a o e).elim (fun z => f0.new a o z) .inr, f.len, f.lent, f.pin⟩
/-- the body of a try, whatever is wished of its errors -/
def tTry (c : Cn) (n : En) (fb : Env → SR) (W : WX) : L2.TS := fun D σ H => ∃ G w', (∀ cl d σ H, Wx c (n.at G) w' cl d σ H → W cl d σ H) ∧ tSf c (n.at G) w' fb D σ H
theorem try_imp {K : PySem.W.Frag} {cv : Value} {i e : Nat} {fb : Env → SR} (hi : n.No i) (he : n.No e) (hie : e ≠ i) (hx : ∀ k ∈ errs, PySem.W.exmOne K (.ref (c.cls k)) cv = some true)
    (h : tSf c n w (fun Γ => match fb Γ with
      | .ex k Γ' => if k ∈ errs then .nx ((Γ'.set e none).set i (some (.fz, .exc k))) else .bad
      | r => r) Dn σ H) : tTry c n fb (wKeep K cv e i (Wx c n w) Dn) Dn σ H := by
  obtain ⟨G, Γ, f, q⟩ := h
  refine ⟨G, fun k Γ' => k ∈ errs ∧ PostS c n w G Dn (.nx ((Γ'.set e none).set i (some (.fz, .exc k)))), ?_, G, Γ, f.rebase, ?_⟩
  · rintro cl d σ' H' ⟨k, G', Γ', rfl, rfl, f', hk, q'⟩
    refine ⟨true, hx k hk, fun _ => ⟨rfl, fun a na => ?_⟩, fun z => nomatch z⟩
    have f1 := f.unbase f'
    have g1 : G' a = none := f1.gnone na
    have s1 : Same G' (upd G' a (ExT (.ref (c.cls k)) a)) := same_upd g1
    have f2 : Fr c n (upd G' a (ExT (.ref (c.cls k)) a)) (upd H' a (ExT (.ref (c.cls k)) a)) σ' Γ' [] := f1.ext (same_upd na) s1 (same_upd2 f1.gh) (fun b o e => by
      by_cases z : b = a
      · subst z; exact .inr na
      · rw [upd_ne z] at e; exact .inl e) (fun _ z => nomatch z)
    have r2 : Rep c (upd G' a (ExT (.ref (c.cls k)) a)) (.exc k) (.ref a) := ⟨a, rfl, upd_same⟩
    have f3 := (f2.drop e).store1 r2 hi
    have se : slot ((Γ'.set e none).set i (some (.fz, .exc k))) e = none := by
      rw [slot_set_ne (Ne.symm hie)]
      cases q : slot (Γ'.set e none) e with
      | none => rfl
      | some x =>
        rcases slot_set q with ⟨_, z⟩ | ⟨z, _⟩
        · cases z
        · exact absurd rfl z
    exact q' _ _ _ (f'.grow.trans s1) (f3.anyσ se none he)
  · cases eb : fb Γ with
    | nx Γ1 => simp only [eb] at q; exact fun σ' G' H' s' f' => q σ' G' H' s' (f.unbase f')
    | rt x Γ1 => simp only [eb] at q; exact fun v σ' G' H' T s' f' r' => q v σ' G' H' T s' (f.unbase f') r'
    | bk Γ1 => simp only [eb] at q; exact fun σ' G' H' s' f' => q σ' G' H' s' (f.unbase f')
    | ct Γ1 => simp only [eb] at q; exact fun σ' G' H' s' f' => q σ' G' H' s' (f.unbase f')
    | ex k Γ1 =>
      simp only [eb] at q
      split at q
      · rename_i hk; exact ⟨hk, q⟩
      · exact q.elim
    | bad => simp only [eb] at q; exact q
end
end Rl
set_option Elab.async false
set_option linter.all false
set_option maxRecDepth 100000
set_option autoImplicit false
/-! Roundlines, 5: whether a compact text tells a tree. -/
namespace Rl
open PySem L2

/-- what is known of a def's surroundings: its names, lent parameters; the module's defs and constants -/
structure GI where
  N : List Str
  mt : List Nat
  fns : List (Str × Nat)
  globs : List (Str × D)

def nmB (g : GI) (i : Nat) (x : Str) : Bool := match g.N[i]? with
  | some y => decide (x = y)
  | none => false
def visB (sc : Scope) (x : Str) : Bool := match sc.names.lookup x with
  | some .local => true
  | some .cell => true
  | some .free => true
  | _ => false
def glB (sc : Scope) (x : Str) : Bool := match sc.names.lookup x with
  | some .globalImplicit => true
  | _ => false
def lcB (sc : Scope) (x : Str) : Bool := match sc.names.lookup x with
  | some .local => true
  | _ => false
def clB (sc : Scope) (x : Str) : Bool := match sc.names.lookup x with
  | some .cell => true
  | _ => false
def fnOf (bs : Option Scope) (x : Str) : Bool := match bs with
  | none => true
  | some s => s.names.lookup x == some .cell
/-- a name that may be stored to -/
def stB (g : GI) (sc : Scope) (bs : Option Scope) (i : Nat) (x : Str) : Bool := nmB g i x && !g.mt.contains i && (lcB sc x || (clB sc x && fnOf bs x))
def okN (x : Str) : Bool := match x.cps.toList with
  | 95 :: 95 :: _ => false
  | _ => true
def eqS (x : Str) (y : String) : Bool := decide (x = Str.ofString y)
def noStar : Expr → Bool
  | .Starred _ _ => false
  | _ => true
def noSet : Expr → Bool
  | .Set _ _ _ => false
  | _ => true
def noSlice : Expr → Bool
  | .Slice _ _ _ _ => false
  | _ => true
def noComp : Expr → Bool
  | .ListComp _ _ _ _ => false
  | .SetComp _ _ _ _ => false
  | .DictComp _ _ _ _ _ => false
  | _ => true
def noTup : Expr → Bool
  | .Tuple _ _ _ => false
  | _ => true
def attrOk : Expr → Bool
  | .Call _ [] [] _ => false
  | _ => true
def plainT : Expr → Bool
  | .UnaryOp _ _ _ => false
  | .BoolOp _ _ _ => false
  | .IfExp _ _ _ _ => false
  | .Compare _ _ _ _ => false
  | _ => true
def cstB : D → Const → Bool
  | .non, .none => true
  | .bl b, .bool b' => b == b'
  | .int i, .int j => decide (i = j)
  | .str x, .str s => decide (s.cps.toList = x)
  | _, _ => false
def binOp : P → Option Operator
  | .add => some .Add
  | .sub => some .Sub
  | .mul => some .Mult
  | .mod => some .Mod
  | .fdiv => some .FloorDiv
  | .pow => some .Pow
  | _ => none
def cmpOp : P → Option CmpOp
  | .eq => some .Eq
  | .ne => some .NotEq
  | .lt => some .Lt
  | .le => some .LtE
  | .gt => some .Gt
  | .ge => some .GtE
  | .inn => some .In
  | .nin => some .NotIn
  | _ => none
def bltF : P → Option String
  | .len => some "len"
  | .abs => some "abs"
  | .all => some "all"
  | .any => some "any"
  | .sorted => some "sorted"
  | .min2 => some "min"
  | .max2 => some "max"
  | _ => none
def bltT : P → Option String
  | .int => some "int"
  | .list => some "list"
  | .tuple => some "tuple"
  | .dictD => some "dict"
  | .dictP => some "dict"
  | _ => none
def mtN : P → Option (String × String × String)
  | .count => some ("count", "list", "list.count")
  | .index => some ("index", "list", "list.index")
  | .get => some ("get", "dict", "dict.get")
  | _ => none
def bnames : List String := ["len", "abs", "all", "any", "sorted", "min", "max", "int", "list", "tuple", "dict", "isinstance", "range", "bool", "str", "ValueError"]

/-- the block of a comprehension -/
def ownP (g : GI) (own : List Nat) : List (Str × Nat) := own.filterMap fun i => (g.N[i]?).map fun x => (x, i)
def blkB (N : List Str) (sc scope : Scope) (own : List (Str × Nat)) : Bool := (match scope.kind with
    | .function => true
    | _ => false) && scope.names.all (fun y => scope.names.lookup y.1 == some y.2) && own.all (fun p => N[p.2]? == some p.1) &&
  scope.names.all (fun y => match y.2 with
    | .free => clB sc y.1 || (match sc.names.lookup y.1 with
      | some .free => true
      | _ => false)
    | .local => (own.map (·.1)).contains y.1 || !N.contains y.1
    | .cell => (own.map (·.1)).contains y.1 || !N.contains y.1
    | _ => true)
def chkNs (g : GI) (sc : Scope) (bs : Option Scope) : List Nat → List Expr → Bool
  | [], [] => true
  | i :: is, .Name x _ :: es => stB g sc bs i x && chkNs g sc bs is es
  | _, _ => false
def chkG (g : GI) (sc : Scope) (bs : Option Scope) : Tg → Expr → Bool
  | .one i, .Name x _ => stB g sc bs i x
  | .many is, .Tuple es _ _ => chkNs g sc bs is es
  | _, _ => false

mutual
def chkE (g : GI) (sc : Scope) (bs : Option Scope) : TE → Expr → Bool
  | .bad, _ => true
  | .cst d, e => (match e with
    | .Constant k _ _ => cstB d k
    | _ => false)
  | .glo i d, e => (match e with
    | .Name x _ => glB sc x && okN x && (match g.globs[i]? with
      | some (y, d') => decide (x = y) && D.eqk d d'
      | none => false)
    | _ => false)
  | .var i, e => (match e with
    | .Name x _ => nmB g i x && visB sc x && okN x
    | _ => false)
  | .mov i, e => (match e with
    | .Name x _ => nmB g i x && visB sc x && okN x
    | _ => false)
  | .tup es, e => (match e with
    | .Tuple l _ _ => chkEs g sc bs es l
    | _ => false)
  | .lst es, e => (match e with
    | .List l _ => chkEs g sc bs es l
    | _ => false)
  | .dct es, e => (match e with
    | .Dict ks vs _ => chkPs g sc bs es ks vs && decide (ks.length ≤ 15)
    | _ => false)
  | .prim p os, e => (match e with
    | .BinOp a op b _ => (match binOp p with
      | some op' => decide (op = op') && chkO2 g sc bs os a b
      | none => false)
    | .Compare a ops cs _ => (match ops, cs with
      | [op], [b] => (match cmpOp p with
        | some op' => decide (op = op') && noSet b && chkO2 g sc bs os a b
        | none => (match p, op, b with
          | .isN, .Is, .Constant .none _ _ => chkO1 g sc bs os a
          | .notN, .IsNot, .Constant .none _ _ => chkO1 g sc bs os a
          | _, _, _ => false))
      | _, _ => false)
    | .UnaryOp op a _ => (match p, op with
      | .neg, .USub => chkO1 g sc bs os a
      | _, _ => false)
    | .Subscript a b _ => decide (p = .idx) && noSlice b && chkO2 g sc bs os a b
    | .Call f args kws _ => (match f, kws with
      | .Name x _, [] => glB sc x && okN x && (match bltF p with
        | some id => eqS x id && chkOs g sc bs os args && !args.isEmpty
        | none => (match bltT p with
          | some id => eqS x id && chkOs g sc bs os args && !args.isEmpty
          | none => (match p, args with
            | .isi t, [a, .Name y _] => eqS x "isinstance" && eqS y t && isiTypes.contains t && glB sc y && okN y && noStar a && chkO1 g sc bs os a
            | .isx t, [a, .Name y _] => eqS x "isinstance" && eqS y t && (errs.contains t || t == "ValueError") && glB sc y && okN y && noStar a && chkO1 g sc bs os a
            | .listKeys, [.Call (.Attribute o m ap) [] [] cp] => eqS x "list" && eqS m "keys" && attrOk o && (ap.endLine == cp.line) && chkO1 g sc bs os o
            | .listVals, [.Call (.Attribute o m ap) [] [] cp] => eqS x "list" && eqS m "values" && attrOk o && (ap.endLine == cp.line) && chkO1 g sc bs os o
            | .sortedKeys, [.Call (.Attribute o m ap) [] [] cp] => eqS x "sorted" && eqS m "keys" && attrOk o && (ap.endLine == cp.line) && chkO1 g sc bs os o
            | _, _ => false)))
      | _, _ => false)
    | _ => false)
  | .meth p o es, e => (match e with
    | .Call f args kws cp => (match f, kws with
      | .Attribute oe m ap, [] => (match mtN p with
        | some (nm, _, _) => eqS m nm && chkO g sc bs o oe && attrOk oe && (ap.endLine == cp.line) && chkEs g sc bs es args && !args.isEmpty && decide (args.length < 29)
        | none => false)
      | _, _ => false)
    | _ => false)
  | .slc o lo hi, e => (match e with
    | .Subscript a s _ => (match s with
      | .Slice l h st _ => (match st with
        | none => chkO g sc bs o a && (match l with
            | none => isNo lo
            | some le => !isNo lo && chkE g sc bs lo le) && (match h with
            | none => isNo hi
            | some he => !isNo hi && chkE g sc bs hi he)
        | _ => false)
      | _ => false)
    | _ => false)
  | .call f os, e => (match e with
    | .Call fe args kws _ => (match fe, kws with
      | .Name x _, [] => glB sc x && okN x && (match g.fns[f]? with
        | some (y, _) => decide (x = y)
        | none => false) && chkAs g sc bs os args && !args.isEmpty
      | _, _ => false)
    | _ => false)
  | .ite c a b, e => (match e with
    | .IfExp t x y _ => chkT g sc bs c t && chkE g sc bs a x && chkE g sc bs b y
    | _ => false)
  | .band a b, e => (match e with
    | .BoolOp op l pos => (match op, l with
      | .And, x :: y :: rest => chkE g sc bs a x && (match rest with
        | [] => chkE g sc bs b y
        | z :: r => chkE g sc bs b (.BoolOp .And (y :: z :: r) pos))
      | _, _ => false)
    | _ => false)
  | .bor a b, e => (match e with
    | .BoolOp op l pos => (match op, l with
      | .Or, x :: y :: rest => chkE g sc bs a x && (match rest with
        | [] => chkE g sc bs b y
        | z :: r => chkE g sc bs b (.BoolOp .Or (y :: z :: r) pos))
      | _, _ => false)
    | _ => false)
  | .bnot a, e => (match e with
    | .UnaryOp op x _ => (match op with
      | .Not => chkE g sc bs a x
      | _ => false)
    | _ => false)
  | .chain p q a b c, e => (match e with
    | .Compare l ops cs _ => (match ops, cs with
      | [op, op'], [x, y] => (match cmpOp p, cmpOp q with
        | some o1, some o2 => decide (op = o1) && decide (op' = o2) && noSet y && chkO g sc bs a l && chkO g sc bs b x && chkO g sc bs c y
        | _, _ => false)
      | _, _ => false)
    | _ => false)
  | .comp own tg it c el, e => (match e with
    | .ListComp elt gens scope _ => (match gens with
      | [⟨te, iter, ifs, as⟩] => decide (as = 0) && noSet iter && chkI g sc bs it iter && blkB g.N sc scope (ownP g own) && decide ((ownP g own).map (·.2) = own) && own.all (fun i => !g.mt.contains i) && (tgIx tg).all (fun i => own.contains i) &&
          chkG g (relS scope sc) (some scope) tg te && (match ifs with
            | [] => (match c with
              | .yes => true
              | _ => false)
            | [t] => chkT g (relS scope sc) (some scope) c t
            | _ => false) && chkE g (relS scope sc) (some scope) el elt
      | _ => false)
    | _ => false)
def chkEs (g : GI) (sc : Scope) (bs : Option Scope) : TEs → List Expr → Bool
  | .nil, l => l.isEmpty
  | .cons t ts, l => (match l with
    | e :: es => noStar e && chkE g sc bs t e && chkEs g sc bs ts es
    | [] => false)
def chkPs (g : GI) (sc : Scope) (bs : Option Scope) : TEs → List (Option Expr) → List Expr → Bool
  | .nil, ks, vs => ks.isEmpty && vs.isEmpty
  | .cons k (.cons v ts), ks, vs => (match ks, vs with
    | some ke :: ks, ve :: vs => chkE g sc bs k ke && chkE g sc bs v ve && chkPs g sc bs ts ks vs
    | _, _ => false)
  | .cons _ .nil, _, _ => false
def chkO (g : GI) (sc : Scope) (bs : Option Scope) : TO → Expr → Bool
  | .v i, e => (match e with
    | .Name x _ => nmB g i x && visB sc x && okN x
    | _ => false)
  | .e t, e => chkE g sc bs t e
  | .m _, _ => false
def chkO1 (g : GI) (sc : Scope) (bs : Option Scope) : TOs → Expr → Bool
  | .cons o .nil, e => chkO g sc bs o e
  | _, _ => false
def chkO2 (g : GI) (sc : Scope) (bs : Option Scope) : TOs → Expr → Expr → Bool
  | .cons o (.cons o' .nil), a, b => chkO g sc bs o a && chkO g sc bs o' b
  | _, _, _ => false
def chkOs (g : GI) (sc : Scope) (bs : Option Scope) : TOs → List Expr → Bool
  | .nil, l => l.isEmpty
  | .cons o os, l => (match l with
    | e :: es => noStar e && chkO g sc bs o e && chkOs g sc bs os es
    | [] => false)
def chkA (g : GI) (sc : Scope) (bs : Option Scope) : TO → Expr → Bool
  | .m i, e => (match e with
    | .Name x _ => nmB g i x && visB sc x && okN x
    | _ => false)
  | .e t, e => chkE g sc bs t e
  | .v _, _ => false
def chkAs (g : GI) (sc : Scope) (bs : Option Scope) : TOs → List Expr → Bool
  | .nil, l => l.isEmpty
  | .cons o os, l => (match l with
    | e :: es => noStar e && chkA g sc bs o e && chkAs g sc bs os es
    | [] => false)
def chkT (g : GI) (sc : Scope) (bs : Option Scope) : TT → Expr → Bool
  | .yes, _ => false
  | .is1 p o, e => (match e with
    | .Compare a ops cs _ => (match ops, cs with
      | [op], [b] => (match p, op, b with
        | .isN, .Is, .Constant .none _ _ => chkO g sc bs o a
        | .notN, .IsNot, .Constant .none _ _ => chkO g sc bs o a
        | _, _, _ => false)
      | _, _ => false)
    | _ => false)
  | .tr o, e => plainT e && chkO g sc bs o e
  | .cmp p a b, e => (match e with
    | .Compare x ops cs _ => (match ops, cs with
      | [op], [y] => (match cmpOp p with
        | some op' => decide (op = op') && noSet y && chkO g sc bs a x && chkO g sc bs b y
        | none => false)
      | _, _ => false)
    | _ => false)
  | .chn p q a b c, e => (match e with
    | .Compare l ops cs _ => (match ops, cs with
      | [op, op'], [x, y] => (match cmpOp p, cmpOp q with
        | some o1, some o2 => decide (op = o1) && decide (op' = o2) && noSet y && chkO g sc bs a l && chkO g sc bs b x && chkO g sc bs c y
        | _, _ => false)
      | _, _ => false)
    | _ => false)
  | .not a, e => (match e with
    | .UnaryOp op x _ => (match op with
      | .Not => chkT g sc bs a x
      | _ => false)
    | _ => false)
  | .and a b, e => (match e with
    | .BoolOp op l pos => (match op, l with
      | .And, x :: y :: rest => chkT g sc bs a x && (match rest with
        | [] => chkT g sc bs b y
        | z :: r => chkT g sc bs b (.BoolOp .And (y :: z :: r) pos))
      | _, _ => false)
    | _ => false)
  | .or a b, e => (match e with
    | .BoolOp op l pos => (match op, l with
      | .Or, x :: y :: rest => chkT g sc bs a x && (match rest with
        | [] => chkT g sc bs b y
        | z :: r => chkT g sc bs b (.BoolOp .Or (y :: z :: r) pos))
      | _, _ => false)
    | _ => false)
def chkI (g : GI) (sc : Scope) (bs : Option Scope) : TI → Expr → Bool
  | .seq t, e => chkE g sc bs t e
  | .rng t, e => (match e with
    | .Call f args kws _ => (match f, args, kws with
      | .Name x _, [a], [] => eqS x "range" && glB sc x && noStar a && chkE g sc bs t a
      | _, _, _ => false)
    | _ => false)
  | .rng2 t u, e => (match e with
    | .Call f args kws _ => (match f, args, kws with
      | .Name x _, [a, b], [] => eqS x "range" && glB sc x && noStar a && noStar b && chkE g sc bs t a && chkE g sc bs u b
      | _, _, _ => false)
    | _ => false)
  | .keys t, e => (match e with
    | .Call f args kws cp => (match f, args, kws with
      | .Attribute o m ap, [], [] => eqS m "keys" && attrOk o && (ap.endLine == cp.line) && chkE g sc bs t o
      | _, _, _ => false)
    | _ => false)
  | .vals t, e => (match e with
    | .Call f args kws cp => (match f, args, kws with
      | .Attribute o m ap, [], [] => eqS m "values" && attrOk o && (ap.endLine == cp.line) && chkE g sc bs t o
      | _, _, _ => false)
    | _ => false)
end

/-- a store to a local name, of a comprehension on the same line, is told at once -/
def swapB (sc : Scope) (x : Str) (px : Pos) : Expr → Bool
  | .ListComp _ _ scope pos => lcB sc x && (px.line == pos.line) && !(scope.names.any fun (n, k) => n == x && (k == .local || k == .cell))
  | _ => false
mutual
def chkS (g : GI) (sc : Scope) : TS → Stmt → Bool
  | .bad, _ => true
  | .asg i t, s => (match s with
    | .Assign ts v _ => (match ts with
      | [.Name x _] => stB g sc none i x && chkE g sc none t v
      | _ => false)
    | _ => false)
  | .unp is t, s => (match s with
    | .Assign ts v _ => (match ts with
      | [.Tuple es _ _] => chkNs g sc none is es && noTup v && noComp v && chkE g sc none t v
      | _ => false)
    | _ => false)
  | .par i j a b, s => (match s with
    | .Assign ts v _ => (match ts, v with
      | [.Tuple [.Name x px, .Name y py] _ _], .Tuple [ea, eb] _ _ => stB g sc none i x && stB g sc none j y && lcB sc x && lcB sc y && decide (i ≠ j) && (px.line == py.line) && decide (x ≠ y) && noStar ea && noStar eb &&
          !([ea, eb].all (foldedForSure 8)) && !([ea, eb].all (constantsAlone 8)) && chkE g sc none a ea && chkE g sc none b eb
      | _, _ => false)
    | _ => false)
  | .put i k t, s => (match s with
    | .Assign ts v _ => (match ts with
      | [.Subscript (.Name x _) ke _] => nmB g i x && visB sc x && okN x && noSlice ke && chkE g sc none k ke && chkE g sc none t v
      | _ => false)
    | _ => false)
  | .app i t, s => (match s with
    | .Expr e _ => (match e with
      | .Call (.Attribute (.Name x _) m ap) [a] [] cp => nmB g i x && visB sc x && okN x && eqS m "append" && (ap.endLine == cp.line) && noStar a && chkE g sc none t a
      | _ => false)
    | _ => false)
  | .ext i t, s => (match s with
    | .Expr e _ => (match e with
      | .Call (.Attribute (.Name x _) m ap) [a] [] cp => nmB g i x && visB sc x && okN x && eqS m "extend" && (ap.endLine == cp.line) && noStar a && chkE g sc none t a
      | _ => false)
    | _ => false)
  | .exp t, s => (match s with
    | .Expr e _ => noComp e && chkE g sc none t e
    | _ => false)
  | .ifs c a b, s => (match s with
    | .If t x y _ => chkT g sc none c t && chkSs g sc a x && chkSs g sc b y
    | _ => false)
  | .for_ tg it b, s => (match s with
    | .For te iter body els _ => els.isEmpty && noSet iter && chkI g sc none it iter && chkG g sc none tg te && (tgIx tg).all (fun i => !g.mt.contains i) && chkSs g sc b body
    | _ => false)
  | .whl c b, s => (match s with
    | .While t body els _ => els.isEmpty && chkT g sc none c t && chkSs g sc b body
    | _ => false)
  | .ret t, s => (match s with
    | .Return v _ => (match v with
      | some e => chkE g sc none t e
      | none => false)
    | _ => false)
  | .retN, s => (match s with
    | .Return v _ => v.isNone
    | _ => false)
  | .brk, s => (match s with
    | .Break _ => true
    | _ => false)
  | .cnt, s => (match s with
    | .Continue _ => true
    | _ => false)
  | .pas, s => (match s with
    | .Pass _ => true
    | _ => false)
  | .rai k, s => (match s with
    | .Raise e c _ => (match e, c with
      | some (.Call (.Name x _) [.Constant (.str _) _ _] [] _), none => eqS x k && errs.contains k && glB sc x && okN x
      | _, _ => false)
    | _ => false)
  | .try_ b i e, s => (match s with
    | .Try body hs els fin _ => (match hs with
      | [.ExceptHandler (some (.Name x _)) (some nm) [.Assign [.Name y _] (.Name nm' _) _] _] => els.isEmpty && fin.isEmpty && eqS x "LineError" && glB sc x && okN x && decide (nm = nm') && nmB g e nm && nmB g i y && lcB sc nm && lcB sc y && okN nm && decide (e ≠ i) &&
          !g.mt.contains i && !g.mt.contains e && chkSs g sc b body
      | _ => false)
    | _ => false)
def chkSs (g : GI) (sc : Scope) : TSs → List Stmt → Bool
  | .nil, l => l.isEmpty
  | .cons t ts, l => (match l with
    | s :: ss => chkS g sc t s && chkSs g sc ts ss
    | [] => false)
end
end Rl
set_option Elab.async false
set_option linter.all false
set_option maxRecDepth 100000
set_option autoImplicit false
/-! Roundlines, 6: a compact text that tells a tree, tells what it does. -/
namespace Rl
open PySem L2

/-! ### small facts of trees -/
theorem star_cons {e : Expr} {es : List Expr} {env : PySem.Env} (h : noStar e = true) : starEach (e :: es) env = (false, eval e env) :: starEach es env := by
  cases e <;> first | rfl | cases h
theorem star_any : ∀ {es : List Expr} {env : PySem.Env} {pos : Pos}, es.all noStar = true → (PySem.backTo pos (starEach es env)).any (·.1) = false
  | [], _, _, _ => rfl
  | e :: es, env, pos, h => by
    rw [List.all_cons, Bool.and_eq_true] at h
    rw [star_cons h.1]
    show (false || (PySem.backTo pos (starEach es env)).any (·.1)) = false
    rw [star_any h.2]; rfl
theorem star_all : ∀ {es : List Expr} {env : PySem.Env} {pos : Pos}, es.all noStar = true → (PySem.backTo pos (starEach es env)).all (fun x => !x.1) = true
  | [], _, _, _ => rfl
  | e :: es, env, pos, h => by
    rw [List.all_cons, Bool.and_eq_true] at h
    rw [star_cons h.1]
    show (true && (PySem.backTo pos (starEach es env)).all (fun x => !x.1)) = true
    rw [star_all h.2]; rfl
theorem attr_base {o : Expr} {nm : Str} {env : PySem.Env} (h : attrOk o = true) : attributeBase o nm env (eval o env) = eval o env := by
  cases o with
  | Call f args kws pos =>
    cases args with
    | nil =>
      cases kws with
      | nil => cases h
      | cons k ks => cases f <;> rfl
    | cons a as => cases f <;> rfl
  | _ => rfl
theorem plain_ix {b : Expr} (h : noSlice b = true) : PlainIx b := fun o i => by
  cases b <;> first | rfl | cases h
theorem set_iter {e : Expr} {env : PySem.Env} (h : noSet e = true) (x : Value) : foldedSetIterable e env x = pure x := by
  cases e <;> first | rfl | cases h
theorem no_marks {op : CmpOp} {b : Expr} (h : noSet b = true) : behindInMarks op b = false := by
  cases b <;> first | rfl | cases h
theorem no_swap {e : Expr} {t : Option Expr} {l : Nat} {env : PySem.Env} (h : noComp e = true) : swapsWith e t l env = pure false := by
  cases e <;> first | rfl | cases h
theorem true_plain {e : Expr} {env : PySem.Env} (h : plainT e = true) (whole : Sem Value) : isTrue e env whole = (do let v ← whole; standAt e.pos; holding [v] (truthy v)) := by
  cases e <;> first | rfl | cases h
theorem okN_debug {x : Str} (h : okN x = true) : (x == ("__debug__" : Str)) = false := by
  rw [beq_eq_false_iff_ne]
  intro e
  subst e
  revert h
  decide +kernel
theorem okN_cd {x : Str} (h : okN x = true) : (x == ("__classdict__" : Str)) = false := by
  rw [beq_eq_false_iff_ne]
  intro e
  subst e
  revert h
  decide +kernel
theorem okN_name {x : Str} (h : okN x = true) : x ≠ "__name__" := by
  intro e
  subst e
  revert h
  decide +kernel
theorem eqS_of {x : Str} {y : String} (h : eqS x y = true) : x = Str.ofString y := of_decide_eq_true h

/-! ### what is known -/
/-- of the module -/
structure Stat (P : Program) (w0 : World) (K : PySem.W.Frag) (mg : Str → Option Value) (base : Heap) (fns : List (Str × Nat)) (globs : List (Str × D)) (cls : String → Addr) (C : Calls) (r : Nat) : Prop where
  blt : ∀ x ∈ bnames, mg (Str.ofString x) = none
  glo : ∀ (i : Nat) x d, globs[i]? = some (x, d) → ∃ v u, mg x = some u ∧ RelV v u ∧ ∀ G, Rep ⟨P, w0, K, cls⟩ G d v
  fns : ∀ (f : Nat) x k, fns[f]? = some (x, k) → ∃ a fd ps, mg x = some (.ref a) ∧ PySem.W.keepIn K (.ref a) = true ∧ Binds K fd ps [] ∧ FnOk P w0 K mg base (L2.CX P w0) r a fd ps (spF ⟨P, w0, K, cls⟩ C f)
  err : ∀ k ∈ errs, mg (Str.ofString k) = some (.ref (cls k)) ∧ PySem.W.excIn K (cls k) [.type "ValueError", .type "Exception", .type "BaseException", .type "object"] "ValueError.__new__" = true ∧ PySem.W.keepIn K (.ref (cls k)) = true ∧
    PySem.W.subIn K (.ref (cls k)) (.type "BaseException") = some true ∧ PySem.W.typeIn K (.ref (cls k)) = some (.type "type") ∧ ExcC K (cls k)
  kit : ∀ k ∈ errs, (∀ t ∈ errs, PySem.W.kitOne K (.ref (cls k)) (.ref (cls t)) = some (decide (k = t))) ∧ PySem.W.kitOne K (.ref (cls k)) (.type "ValueError") = some true
  lin : ∃ cv, mg (Str.ofString "LineError") = some cv ∧ ∀ k ∈ errs, PySem.W.exmOne K (.ref (cls k)) cv = some true
/-- of a frame -/
structure Good (X : Cx) (g : GI) (cls : String → Addr) (C : Calls) (r : Nat) (bs : Option Scope) (n : En) (w : WP) : Prop where
  st : Stat X.prog X.w X.K X.mg X.base g.fns g.globs cls C r
  room : Room r X.A
  calm : X.calm = true
  nd : X.N.Nodup
  hN : X.N = g.N
  fn : ∀ x, fnOf bs x = true → X.fn x = true
  tk : Takes X (Wx (cn X cls) n w)
  mt : ∀ p ∈ n.P0, p.1 ∈ g.mt
section
variable {X : Cx} {g : GI} {cls : String → Addr} {C : Calls} {r : Nat} {bs : Option Scope} {n : En} {w : WP}
theorem Good.un (Gd : Good X g cls C r bs n w) : X.A.units + 70 < cLine := by have := Gd.room.un; omega
theorem Good.guard (Gd : Good X g cls C r bs n w) {p : Addr} {o : HO} (h0 : n.H0 p = none ∧ p ∉ n.F0 ∧ n.G0 p = none) : Good X g cls C r bs (n.guard p o) w :=
  ⟨Gd.st, Gd.room, Gd.calm, Gd.nd, Gd.hN, Gd.fn, Gd.tk.imp fun c d σ H ⟨k, G, Γ, e1, e2, f, q⟩ => ⟨k, G, Γ, e1, e2, f.unguard h0, q⟩, Gd.mt⟩
theorem Good.no (Gd : Good X g cls C r bs n w) {i : Nat} (h : g.mt.contains i = false) : n.No i := fun p hp e => by
  have := Gd.mt p hp
  rw [e] at this
  rw [List.contains_eq_mem, decide_eq_false_iff_not] at h
  exact h this
theorem nm_of {i : Nat} {x : Str} (Gd : Good X g cls C r bs n w) (h : nmB g i x = true) : X.N[i]? = some x := by
  unfold nmB at h
  rw [Gd.hN]
  split at h
  · rename_i y e; rw [e, of_decide_eq_true h]
  · cases h
theorem vis_of {sc : Scope} {x : Str} (h : visB sc x = true) : Vis sc x := by
  unfold visB at h
  split at h
  · rename_i e; exact .inl e
  · rename_i e; exact .inr (.inl e)
  · rename_i e; exact .inr (.inr e)
  · cases h
theorem gl_of {sc : Scope} {x : Str} (h : glB sc x = true) : sc.names.lookup x = some .globalImplicit := by
  unfold glB at h
  split at h
  · rename_i e; exact e
  · cases h
theorem lc_of {sc : Scope} {x : Str} (h : lcB sc x = true) : sc.names.lookup x = some .local := by
  unfold lcB at h
  split at h
  · rename_i e; exact e
  · cases h
theorem cl_of {sc : Scope} {x : Str} (h : clB sc x = true) : sc.names.lookup x = some .cell := by
  unfold clB at h
  split at h
  · rename_i e; exact e
  · cases h
/-- a name, looked up -/
theorem pe_nm {i : Nat} {x : Str} {pos : Pos} (Gd : Good X g cls C r bs n w) (h : (nmB g i x && visB X.env.scope x && okN x) = true) : PE X (.Name x pos) (tVar i) := by
  simp only [Bool.and_eq_true] at h
  exact pe_var (nm_of Gd h.1.1) (vis_of h.1.2) (okN_debug h.2) (okN_cd h.2)
theorem st_of {i : Nat} {x : Str} (Gd : Good X g cls C r bs n w) (h : stB g X.env.scope bs i x = true) : X.N[i]? = some x ∧ Loc X.env.scope x ∧ (X.fn x = true ∨ X.env.scope.names.lookup x = some .local) ∧ n.No i := by
  simp only [stB, Bool.and_eq_true, Bool.or_eq_true, Bool.not_eq_true'] at h
  refine ⟨nm_of Gd h.1.1, ?_, ?_, Gd.no h.1.2⟩
  · rcases h.2 with z | z
    · exact .inl (lc_of z)
    · exact .inr (cl_of z.1)
  · rcases h.2 with z | z
    · exact .inr (lc_of z)
    · exact .inl (Gd.fn x z.2)
theorem pg_nm {i : Nat} {x : Str} {pos : Pos} (Gd : Good X g cls C r bs n w) (h : stB g X.env.scope bs i x = true) : PG X (.Name x pos) (gName i) := by
  obtain ⟨h1, h2, h3, _⟩ := st_of Gd h
  exact pg_name Gd.nd h1 h2 h3
theorem pgs_nms (Gd : Good X g cls C r bs n w) : ∀ {is : List Nat} {es : List Expr}, chkNs g X.env.scope bs is es = true → PGs X es (gNames is) ∧ (assignEach es X.env).length = is.length ∧ (assignEach es X.env).findIdx? (·.1) = none ∧ ∀ i ∈ is, n.No i
  | [], [], _ => ⟨pgs_nil, rfl, rfl, fun _ h => by cases h⟩
  | [], _ :: _, h => by cases h
  | i :: is, [], h => by cases h
  | i :: is, e :: es, h => by
    cases e with
    | Name x pos =>
      simp only [chkNs, Bool.and_eq_true] at h
      obtain ⟨i1, i2, i3, i4⟩ := pgs_nms Gd h.2
      have hno := (st_of Gd h.1).2.2.2
      refine ⟨pgs_cons (pg_nm Gd h.1) i1 rfl, ?_, ?_, fun j hj => ?_⟩
      · show (assignEach es X.env).length + 1 = is.length + 1
        rw [i2]
      · show List.findIdx? (·.1) ((false, assign (.Name x pos) X.env) :: assignEach es X.env) = none
        rw [List.findIdx?_cons]
        simp only [Bool.false_eq_true, if_false]
        rw [i3]; rfl
      · rcases List.mem_cons.mp hj with z | z
        · rw [z]; exact hno
        · exact i4 j z
    | _ => cases h
theorem pg_tg (Gd : Good X g cls C r bs n w) {tg : Tg} {e : Expr} (h : chkG g X.env.scope bs tg e = true) : PG X e (gT X.K tg) ∧ ∀ i ∈ tgIx tg, n.No i := by
  cases tg with
  | one i =>
    cases e with
    | Name x pos => exact ⟨pg_nm Gd h, fun j hj => by rw [List.mem_singleton.mp hj]; exact (st_of Gd h).2.2.2⟩
    | _ => cases h
  | many is =>
    cases e with
    | Tuple es k pos =>
      obtain ⟨i1, i2, i3, i4⟩ := pgs_nms Gd h
      exact ⟨pg_tup Gd.calm i1 i2 i3, i4⟩
    | _ => cases h

/-! ### operations by their signs -/
theorem op_bin (Gd : Good X g cls C r bs n w) {p : P} {op : Operator} (h : binOp p = some op) : OpR X (binaryOp op) (fun x y H Q => rP (cn X cls) p [x, y] H Q) := by
  cases p <;> cases h
  · exact p_add
  · exact p_sub
  · exact p_mul
  · exact p_mod
  · exact p_fdiv
  · exact p_pow
theorem op_cmp (Gd : Good X g cls C r bs n w) {p : P} {op : CmpOp} (h : cmpOp p = some op) : OpR X (compareOp op) (fun x y H Q => rP (cn X cls) p [x, y] H Q) := by
  have hu := Gd.un
  cases p <;> cases h
  · exact p_eq (by omega)
  · exact p_ne (by omega)
  · exact p_lt
  · exact p_le
  · exact p_gt
  · exact p_ge
  · exact p_inn (by omega)
  · exact p_nin (by omega)
theorem boot_f {p : P} {id : String} (h : bltF p = some id) : bootBuiltins (Str.ofString id) = some (.builtin id) ∧ id ∈ bnames := by
  cases p <;> cases h <;> exact ⟨by decide +kernel, by decide⟩
theorem boot_t {p : P} {id : String} (h : bltT p = some id) : bootBuiltins (Str.ofString id) = some (.type id) ∧ id ∈ bnames := by
  cases p <;> cases h <;> exact ⟨by decide +kernel, by decide⟩
theorem call_f (Gd : Good X g cls C r bs n w) {p : P} {id : String} (h : bltF p = some id) : CallR X (.builtin id) (rP (cn X cls) p) := by
  cases p <;> cases h
  · exact p_len
  · exact p_abs
  · exact p_min2 Gd.calm
  · exact p_max2 Gd.calm
  · exact p_all Gd.calm
  · exact p_any Gd.calm
  · exact p_sorted
theorem call_t (Gd : Good X g cls C r bs n w) {p : P} {id : String} (h : bltT p = some id) : CallR X (.type id) (rP (cn X cls) p) := by
  cases p <;> cases h
  · exact p_int
  · exact p_list
  · exact p_dictD
  · exact p_dictP Gd.calm
  · exact p_tuple
/-- a method of a list or a dict -/
theorem rcv_is {p : P} {nm T id : String} (h : mtN p = some (nm, T, id)) {pins : List (Addr × Obj)} {σ : St} {H : Hp} {s : Shared} {x : V} {v : Value} (I : L2.Inv X pins σ H s) (rx : RelV x v) (q : rcv (cn X cls) p x H) :
    s.TypeIs v T ∧ ∀ a, v = .ref a → ∃ ob, s.heap.get? a = some ob ∧ ob.dict = none := by
  obtain ⟨G, d, gh, f, e⟩ := q
  cases p <;> cases h
  · cases d with
    | dct ks vs =>
      obtain ⟨a, o, ys, xs, rfl, h1, h2, _⟩ := f
      cases (show v = Value.ref a from rx)
      exact ⟨⟨o, dict_get I h1, h2.1.1⟩, fun b z => by cases z; exact ⟨o, dict_get I h1, h2.1.2.1⟩⟩
    | _ => cases e
  · cases d with
    | lst l =>
      obtain ⟨a, xs, rfl, h1, _⟩ := f
      cases (show v = Value.ref a from rx)
      obtain ⟨its, _, ⟨o, n, q1, q2, q3, _⟩, _⟩ := I.list (SqL.of (K := X.K) h1)
      exact ⟨⟨o, q1, q2⟩, fun b z => by cases z; exact ⟨o, q1, q3⟩⟩
    | _ => cases e
  · cases d with
    | lst l =>
      obtain ⟨a, xs, rfl, h1, _⟩ := f
      cases (show v = Value.ref a from rx)
      obtain ⟨its, _, ⟨o, n, q1, q2, q3, _⟩, _⟩ := I.list (SqL.of (K := X.K) h1)
      exact ⟨⟨o, q1, q2⟩, fun b z => by cases z; exact ⟨o, q1, q3⟩⟩
    | _ => cases e
theorem pe_mt (Gd : Good X g cls C r bs n w) {p : P} {nm T id : String} (h : mtN p = some (nm, T, id)) {o e : Expr} {es : List Expr} {to : L2.TE} {t : TA} {apos cpos : Pos} (ho : PE X o to) (ha : PA X (e :: es) t) (hb : attrOk o = true) (hs : (e :: es).all noStar = true)
    (hl : (e :: es).length < 29) (hline : (apos.endLine == cpos.line) = true) : PE X (.Call (.Attribute o (Str.ofString nm) apos) (e :: es) [] cpos) (tMt (cn X cls) p to t) := by
  have hu := Gd.un
  refine ⟨fun pins s σ H Q I hq => ?_⟩
  have few : ((PySem.backTo cpos (starEach (e :: es) X.env)).all (fun x => !x.1) && (backToKw cpos (keywordEach [] X.env)).all (fun x => x.1.isSome)
      && decide ((e :: es).length + ([] : List Keyword).length + (if ([] : List Keyword).isEmpty then 0 else 1) < 30)) = true := by
    rw [star_all hs]
    have e1 : decide ((e :: es).length + ([] : List Keyword).length + (if ([] : List Keyword).isEmpty then 0 else 1) < 30) = true := decide_eq_true (by
      show (e :: es).length + 0 + 0 < 30
      omega)
    rw [e1]; rfl
  have e1 : starEach (e :: es) X.env = (false, eval e X.env) :: starEach es X.env := star_cons (by rw [List.all_cons, Bool.and_eq_true] at hs; exact hs.1)
  have hpl : (PySem.backTo cpos (starEach (e :: es) X.env)).any (·.1) = false := star_any hs
  refine wpAny_Call_method_late (attr_base hb) few hline rfl (thn (ho.run pins s σ H _ I hq) fun v s1 ⟨x, H1, I1, r1, ty, q1⟩ => ?_)
  obtain ⟨h1, h2⟩ := rcv_is h I1 r1 ty
  have fin : ∀ (hm : MtR X id (rM (cn X cls) p)), wpAny (model X.prog X.w) X.A (callWith cpos (.builtin id) [v] (PySem.backTo cpos (starEach (e :: es) X.env)) []) (EP X pins σ Q) X.xe s1 := fun hm => by
    have hA := ha.run cpos pins s1 σ H1 _ I1 q1
    have hpl2 := hpl
    rw [e1] at hA hpl2 ⊢
    exact Calls.callWith_builtin hpl2 (Calls.evalArgs_plain (thn hA fun us s2 ⟨vs, H2, I2, r2, q2⟩ => hm pins s2 σ H2 x vs v us Q I2 r1 r2 q2))
  cases p <;> cases h
  · exact ⟨"dict", "dict.get", F.plainAttrs_dict, F.slot_dict_get, F.type_dict_get, h1, h2, fin (m_get (by omega))⟩
  · exact ⟨"list", "list.count", F.plainAttrs_list, F.slot_list_count, F.type_list_count, h1, h2, fin (m_count (by omega))⟩
  · exact ⟨"list", "list.index", F.plainAttrs_list, F.slot_list_index, F.type_list_index, h1, h2, fin (m_index (by omega))⟩
end
end Rl
set_option Elab.async false
set_option linter.all false
set_option maxRecDepth 100000
set_option autoImplicit false
/-! Roundlines, 7: expressions. -/
namespace Rl
open PySem L2
theorem R.bind_ok {α β : Type} (a : α) (Γ : Env) (f : α → Env → R β) : (R.ok a Γ).bind f = f a Γ := rfl
section
variable {C : Calls}
theorem prim2_eq (p : P) (o o' : TO) : ev C (.prim p (.cons o (.cons o' .nil))) = fun Γ => (evO C o Γ).bind fun x Γ => (evO C o' Γ).bind fun y Γ => match (gets Γ [x, y]).bind (prim p) with
    | some r => .ok r Γ
    | none => .bad := by
  funext Γ
  show R.bind (R.bind _ _) _ = _
  rw [R.bind_assoc]
  congr 1
  funext x Γ1
  show R.bind (R.bind (R.bind _ _) _) _ = _
  rw [R.bind_assoc, R.bind_assoc]
  rfl
theorem prim1_eq (p : P) (o : TO) : ev C (.prim p (.cons o .nil)) = fun Γ => (evO C o Γ).bind fun x Γ => match (gets Γ [x]).bind (prim p) with
    | some r => .ok r Γ
    | none => .bad := by
  funext Γ
  show R.bind (R.bind _ _) _ = _
  rw [R.bind_assoc]
  rfl
end
theorem PTsx.imp {X : Cx} {es : List Expr} {t t' : L2.TT} (h : PTs X es t) (k : ∀ σ H Q, t' σ H Q → t σ H Q) : PTs X es t' := ⟨fun pins s σ H Q I q => h.run pins s σ H Q I (k _ _ _ q)⟩
theorem PIx.imp {X : Cx} {tg e : Expr} {t t' : L2.TI} (h : PI X tg e t) (k : ∀ σ H Q, t' σ H Q → t σ H Q) : PI X tg e t' := ⟨fun pins s σ H Q I q => h.run pins s σ H Q I (k _ _ _ q)⟩
theorem POx.imp {X : Cx} {e : Option Expr} {t t' : L2.TO} (h : PO X e t) (k : ∀ σ H Q, t' σ H Q → t σ H Q) : PO X e t' := ⟨fun pins s σ H Q I q => h.run pins s σ H Q I (k _ _ _ q)⟩

/-! ### comprehensions -/
section
variable {X : Cx} {g : GI} {cls : String → Addr} {C : Calls} {r : Nat} {bs : Option Scope} {n : En} {w : WP}
theorem Good.blk (Gd : Good X g cls C r bs n w) (s : Shared) (H : Hp) (scope : Scope) (Cc : Addr) (cl : List (Str × Addr)) (fp : List Addr) : Good (X.blk s H scope (compEnvC scope cl Cc X.env) fp) g cls C r (some scope) n wF :=
  ⟨Gd.st, Gd.room, Gd.calm, Gd.nd, Gd.hN, fun x h => h, fun u s' ⟨a, B, sI, pins, σ, H, cls, d, e, I, nb, up, sky, na, os, ag, k, G, Γ, _, _, _, q⟩ => q.elim, Gd.mt⟩
theorem blk_of {N : List Str} {sc scope : Scope} {own : List (Str × Nat)} (h : blkB N sc scope own = true) : BlkOk N sc scope own := by
  simp only [blkB, Bool.and_eq_true] at h
  obtain ⟨⟨⟨h1, h2⟩, h3⟩, h4⟩ := h
  rw [List.all_eq_true] at h2 h3 h4
  refine ⟨?_, fun y hy => by simpa using h2 y hy, fun p hp => by simpa using h3 p hp, fun y hy e => ?_, fun y hy e => ?_⟩
  · split at h1
    · assumption
    · cases h1
  · have := h4 y hy
    rw [e] at this
    simp only [Bool.or_eq_true] at this
    rcases this with z | z
    · exact .inl (cl_of z)
    · split at z
      · rename_i e'; exact .inr e'
      · cases z
  · have := h4 y hy
    rcases e with e | e
    · rw [e] at this
      simp only [Bool.or_eq_true, Bool.not_eq_true', List.contains_eq_mem, decide_eq_true_eq, decide_eq_false_iff_not] at this
      exact this
    · rw [e] at this
      simp only [Bool.or_eq_true, Bool.not_eq_true', List.contains_eq_mem, decide_eq_true_eq, decide_eq_false_iff_not] at this
      exact this
/-- the parts of a comprehension -/
structure CompOk (X : Cx) (g : GI) (cls : String → Addr) (C : Calls) (n : En) (w : WP) (own : List Nat) (tg : Tg) (it : TI) (c : TT) (el : TE) (elt te iter : Expr) (ifs : List Expr) (scope : Scope) : Prop where
  hi : PI X te iter (tFI (cn X cls) n w (evI C it))
  ok : BlkOk X.N X.env.scope scope (ownP g own)
  eo : (ownP g own).map (·.2) = own
  hg : ∀ (s : Shared) (H : Hp) (Cc : Addr) (cl : List (Str × Addr)) (fp : List Addr), PG (X.blk s H scope (compEnvC scope cl Cc X.env) fp) te (gT X.K tg)
  ht : ∀ (s : Shared) (H : Hp) (Cc : Addr) (cl : List (Str × Addr)) (fp : List Addr), PTs (X.blk s H scope (compEnvC scope cl Cc X.env) fp) ifs (tGT (cn X cls) n wF (evT C c))
  he : ∀ (s : Shared) (H : Hp) (Cc : Addr) (cl : List (Str × Addr)) (fp : List Addr), PE (X.blk s H scope (compEnvC scope cl Cc X.env) fp) elt (tG (cn X cls) n wF (ev C el))
  hs : ∀ x, foldedSetIterable iter X.env x = pure x
  no : ∀ i ∈ own, n.No i
  sub : ∀ i ∈ tgIx tg, i ∈ own
theorem comp_parts {own : List Nat} {tg : Tg} {it : TI} {c : TT} {el : TE} (Gd : Good X g cls C r bs n w)
    (II : ∀ {tgx : Expr} (e : Expr), chkI g X.env.scope bs it e = true → PI X tgx e (tFI (cn X cls) n w (evI C it)))
    (IT : ∀ {X' : Cx} {bs' : Option Scope} {n' : En} {w' : WP}, Good X' g cls C r bs' n' w' → ∀ e, chkT g X'.env.scope bs' c e = true → PT X' e (tFT (cn X' cls) n' w' (evT C c)))
    (IE : ∀ {X' : Cx} {bs' : Option Scope} {n' : En} {w' : WP}, Good X' g cls C r bs' n' w' → ∀ e, chkE g X'.env.scope bs' el e = true → PE X' e (tF (cn X' cls) n' w' (ev C el)))
    {e : Expr} (h : chkE g X.env.scope bs (.comp own tg it c el) e = true) :
    ∃ elt te iter ifs scope pos, e = .ListComp elt [⟨te, iter, ifs, 0⟩] scope pos ∧ CompOk X g cls C n w own tg it c el elt te iter ifs scope := by
  simp only [chkE] at h
  split at h
  · rename_i elt gens scope pos
    split at h
    · rename_i te iter ifs as
      simp only [Bool.and_eq_true, decide_eq_true_eq] at h
      obtain ⟨⟨⟨⟨⟨⟨⟨⟨⟨h1, h2⟩, h3⟩, h4⟩, h5⟩, h6⟩, h7⟩, h8⟩, h9⟩, h10⟩ := h
      subst h1
      rw [List.all_eq_true] at h6 h7
      refine ⟨elt, te, iter, ifs, scope, pos, rfl, II iter h3, by rw [Gd.hN]; exact blk_of h4, h5, fun s H Cc cl fp => ?_, fun s H Cc cl fp => ?_, fun s H Cc cl fp => ?_, set_iter h2, fun i hi => Gd.no (by simpa using h6 i hi), fun i hi => by simpa using h7 i hi⟩
      · exact (pg_tg (Gd.blk s H scope Cc cl fp) h8).1
      · refine ⟨fun pins s' σ H' Q I ⟨p, o, h0, hq⟩ => ?_⟩
        have Gb := (Gd.blk s H scope Cc cl fp).guard (p := p) (o := o) h0
        split at h9
        · cases c with
          | yes =>
            have := PTsx.imp (pts_nil (X := X.blk s H scope (compEnvC scope cl Cc X.env) fp)) (t' := tFT (cn X cls) (n.guard p o) wF (evT C .yes)) fun σ H Q hh => by
              have e : (evT C .yes) = fun Γ => .ok true Γ := by rfl
              rw [e] at hh
              exact yes_imp hh
            exact this.run pins s' σ H' Q I hq
          | _ => cases h9
        · exact (pts_one (IT Gb _ h9)).run pins s' σ H' Q I hq
        · cases h9
      · exact ⟨fun pins s' σ H' Q I ⟨p, o, h0, hq⟩ => (IE ((Gd.blk s H scope Cc cl fp).guard (p := p) (o := o) h0) elt h10).run pins s' σ H' Q I hq⟩
    · cases h
  · cases h
theorem comp_eq (own : List Nat) (tg : Tg) (it : TI) (c : TT) (el : TE) : ev C (.comp own tg it c el) = fun Γ => (evI C it Γ).bind fun xs Γ => match canWipe Γ own with
    | false => .bad
    | true => match loopC own (bindT tg) (evT C c) (ev C el) xs [] Γ with
      | .ok l Γ' => .ok (.own, .lst l) (unwipe Γ own Γ')
      | _ => .bad := by
  rfl
theorem pe_comp {own : List Nat} {tg : Tg} {it : TI} {c : TT} {el : TE} {elt te iter : Expr} {ifs : List Expr} {scope : Scope} {pos : Pos} (Gd : Good X g cls C r bs n w) (h : CompOk X g cls C n w own tg it c el elt te iter ifs scope) :
    PE X (.ListComp elt [⟨te, iter, ifs, 0⟩] scope pos) (tF (cn X cls) n w (ev C (.comp own tg it c el))) := by
  refine PEx.imp (pe_lc Gd.calm Gd.nd h.hi h.ok h.hg h.ht h.he h.hs) fun σ H Q q => ?_
  rw [comp_eq] at q
  rw [h.eo]
  exact comp_imp h.no h.sub q
end
end Rl
set_option Elab.async false
set_option linter.all false
set_option maxRecDepth 100000
set_option autoImplicit false
/-! Roundlines, 8: expressions, all of them. -/
namespace Rl
open PySem L2
theorem all_star_nil : ([] : List Expr).all noStar = true := rfl
theorem ne_nil {l : List Expr} (h : (!l.isEmpty) = true) : ∃ e es, l = e :: es := by
  cases l with
  | nil => cases h
  | cons e es => exact ⟨e, es, rfl⟩
theorem pw_of {X : Cx} {op : BoolOp} {l : List Expr} {pos : Pos} {t : L2.TT} (h : PT X (.BoolOp op l pos) t) : PW X (.BoolOp op l pos) t := ⟨fun whole pins s σ H Q I q => h.run pins s σ H Q I q⟩
section
variable {X : Cx} {g : GI} {cls : String → Addr} {C : Calls} {r : Nat} {bs : Option Scope} {n : En} {w : WP}
/-- calls of built-in functions and types, by their arguments -/
theorem pe_blt (Gd : Good X g cls C r bs n w) {p : P} {id : String} (h : bltF p = some id) {x : Str} {ps pos : Pos} {args : List Expr} {fs : Env → R (List Pd)} (hx : eqS x id = true) (hg : glB X.env.scope x = true) (ho : okN x = true) (hne : (!args.isEmpty) = true)
    (ha : PA X args (tFL (cn X cls) n w fs) ∧ args.all noStar = true) : PE X (.Call (.Name x ps) args [] pos) (tF (cn X cls) n w fun Γ => (fs Γ).bind fun ps Γ => match (gets Γ ps).bind (prim p) with
      | some r => .ok r Γ
      | none => .bad) := by
  obtain ⟨e, es, rfl⟩ := ne_nil hne
  have ex := eqS_of hx
  subst ex
  obtain ⟨b1, b2⟩ := boot_f h
  have hs := ha.2
  have hs0 := hs
  rw [List.all_cons, Bool.and_eq_true] at hs
  exact PEx.imp (pe_callB (call_f Gd h) (gl_of hg) (Gd.st.blt id b2) b1 ha.1 (okN_name ho) (okN_debug ho) (star_cons hs.1) (star_any hs.2)) fun σ H Q q => args_imp q
theorem pe_ty (Gd : Good X g cls C r bs n w) {p : P} {id : String} (h : bltT p = some id) {x : Str} {ps pos : Pos} {args : List Expr} {fs : Env → R (List Pd)} (hx : eqS x id = true) (hg : glB X.env.scope x = true) (ho : okN x = true) (hne : (!args.isEmpty) = true)
    (ha : PA X args (tFL (cn X cls) n w fs) ∧ args.all noStar = true) : PE X (.Call (.Name x ps) args [] pos) (tF (cn X cls) n w fun Γ => (fs Γ).bind fun ps Γ => match (gets Γ ps).bind (prim p) with
      | some r => .ok r Γ
      | none => .bad) := by
  obtain ⟨e, es, rfl⟩ := ne_nil hne
  have ex := eqS_of hx
  subst ex
  obtain ⟨b1, b2⟩ := boot_t h
  have hs := ha.2
  rw [List.all_cons, Bool.and_eq_true] at hs
  exact PEx.imp (pe_callTy (call_t Gd h) (gl_of hg) (Gd.st.blt id b2) b1 ha.1 (okN_name ho) (okN_debug ho) (star_cons hs.1) (star_any hs.2)) fun σ H Q q => args_imp q
theorem boot_VE : bootBuiltins (Str.ofString "ValueError") = some (.type "ValueError") := by decide +kernel
theorem boot_isinstance : bootBuiltins (Str.ofString "isinstance") = some (.builtin "isinstance") := by decide +kernel
theorem boot_sorted : bootBuiltins (Str.ofString "sorted") = some (.builtin "sorted") := by decide +kernel
theorem boot_list' : bootBuiltins (Str.ofString "list") = some (.type "list") := by decide +kernel
theorem boot_ty {t : String} (h : t ∈ isiTypes) : bootBuiltins (Str.ofString t) = some (.type t) ∧ t ∈ bnames := by
  simp only [isiTypes, List.mem_cons, List.not_mem_nil, or_false] at h
  rcases h with rfl | rfl | rfl | rfl | rfl | rfl <;> exact ⟨by decide +kernel, by decide⟩
/-- isinstance(a, t) -/
theorem pe_isi (Gd : Good X g cls C r bs n w) {t : String} {x y : Str} {ps py pos : Pos} {a : Expr} {fa : Env → R Pd} (ha : PE X a (tFO (cn X cls) n w fa)) (hs : noStar a = true) (hx : eqS x "isinstance" = true) (hg : glB X.env.scope x = true) (ho : okN x = true)
    (hy : eqS y t = true) (ht : isiTypes.contains t = true) (hgy : glB X.env.scope y = true) (hoy : okN y = true) : PE X (.Call (.Name x ps) [a, .Name y py] [] pos) (tF (cn X cls) n w fun Γ => (fa Γ).bind fun x Γ => match (gets Γ [x]).bind (prim (.isi t)) with
      | some r => .ok r Γ
      | none => .bad) := by
  have ex := eqS_of hx
  have ey := eqS_of hy
  subst ex ey
  have ht' : t ∈ isiTypes := by simpa using ht
  obtain ⟨b1, b2⟩ := boot_ty ht'
  have hyE : PE X (.Name (Str.ofString t) py) (tC (.ty t)) := pe_bltn (gl_of hgy) (Gd.st.blt t b2) b1 rfl (okN_name hoy) (okN_debug hoy)
  exact PEx.imp (pe_callB (p_isi (cls := cls) ht') (gl_of hg) (Gd.st.blt "isinstance" (by decide)) boot_isinstance (pa_cons ha (pa_cons hyE pa_nil rfl) (star_cons hs)) (okN_name ho) (okN_debug ho) (star_cons hs) rfl) fun σ H Q q => isi_imp q
theorem pe_isx (Gd : Good X g cls C r bs n w) {t : String} {x y : Str} {ps py pos : Pos} {a : Expr} {fa : Env → R Pd} (ha : PE X a (tFO (cn X cls) n w fa)) (hs : noStar a = true) (hx : eqS x "isinstance" = true) (hg : glB X.env.scope x = true) (ho : okN x = true)
    (hy : eqS y t = true) (ht : (errs.contains t || t == "ValueError") = true) (hgy : glB X.env.scope y = true) (hoy : okN y = true) : PE X (.Call (.Name x ps) [a, .Name y py] [] pos) (tF (cn X cls) n w fun Γ => (fa Γ).bind fun x Γ => match (gets Γ [x]).bind (prim (.isx t)) with
      | some r => .ok r Γ
      | none => .bad) := by
  have ex := eqS_of hx
  have ey := eqS_of hy
  subst ex ey
  rw [Bool.or_eq_true] at ht
  have key : ∀ {tv : V} {cv : Value}, PE X (.Name (Str.ofString t) py) (tC tv) → (∀ u, RelV tv u → u = cv) → IsxOk X.K cls t cv → PE X (.Call (.Name (Str.ofString "isinstance") ps) [a, .Name (Str.ofString t) py] [] pos) (tF (cn X cls) n w fun Γ => (fa Γ).bind fun x Γ => match (gets Γ [x]).bind (prim (.isx t)) with
      | some r => .ok r Γ
      | none => .bad) := fun {tv cv} hyE hv hk =>
    PEx.imp (pe_callB (p_isx (cls := cls) hv hk) (gl_of hg) (Gd.st.blt "isinstance" (by decide)) boot_isinstance (pa_cons ha (pa_cons hyE pa_nil rfl) (star_cons hs)) (okN_name ho) (okN_debug ho) (star_cons hs) rfl) fun σ H Q q => isi_imp q
  rcases ht with ht | ht
  · have ht' : t ∈ errs := by simpa using ht
    have hne : t ≠ "ValueError" := by rintro rfl; exact absurd ht' (by decide)
    refine key (pe_glob (v := .ref (cls t)) (gl_of hgy) (Gd.st.err t ht').1 rfl (okN_debug hoy)) (fun u h => h) ⟨fun k hk => (Gd.st.err k hk).2.2.2.2.2, fun k hk => ?_⟩
    rw [(Gd.st.kit k hk).1 t ht', decide_eq_false hne, Bool.or_false]
  · have et : t = "ValueError" := by simpa using ht
    subst et
    refine key (pe_bltn (v := .ty "ValueError") (gl_of hgy) (Gd.st.blt "ValueError" (by decide)) boot_VE rfl (okN_name hoy) (okN_debug hoy)) (fun u h => h) ⟨fun k hk => (Gd.st.err k hk).2.2.2.2.2, fun k hk => ?_⟩
    rw [(Gd.st.kit k hk).2, decide_eq_true rfl, Bool.or_true]
end

mutual
theorem sndE {g : GI} {cls : String → Addr} {C : Calls} {r : Nat} : ∀ (t : TE) {X : Cx} {bs : Option Scope} {n : En} {w : WP}, Good X g cls C r bs n w → ∀ e : Expr, chkE g X.env.scope bs t e = true → PE X e (tF (cn X cls) n w (ev C t))
  | .bad, X, bs, n, w, Gd, e, h => ⟨fun pins s σ H Q I ⟨G, Γ, f, q⟩ => q.elim⟩
  | .cst d, X, bs, n, w, Gd, e, h => by
    simp only [chkE] at h
    split at h
    · rename_i k j pos
      cases d with
      | non =>
        cases k with
        | none => exact PEx.imp pe_non fun σ H Q q => cst_imp (d := .non) (fun G => rfl) q
        | _ => cases h
      | bl b =>
        cases k with
        | bool b' =>
          have e : b = b' := by simpa [cstB] using h
          subst e
          exact PEx.imp pe_bl fun σ H Q q => cst_imp (d := .bl b) (fun G => rfl) q
        | _ => cases h
      | int i =>
        cases k with
        | int i' =>
          have e : i = i' := by simpa [cstB] using h
          subst e
          exact PEx.imp pe_int fun σ H Q q => cst_imp (d := .int i) (fun G => rfl) q
        | _ => cases h
      | str x =>
        cases k with
        | str s =>
          have e : s.cps.toList = x := by simpa [cstB] using h
          subst e
          exact PEx.imp pe_str fun σ H Q q => cst_imp (fun G => by show V.str s = V.str (tS _); rw [tS_of]) q
        | _ => cases h
      | _ => cases k <;> cases h
    · cases h
  | .glo i d, X, bs, n, w, Gd, e, h => by
    simp only [chkE] at h
    split at h
    · rename_i x pos
      simp only [Bool.and_eq_true] at h
      obtain ⟨⟨h1, h2⟩, h3⟩ := h
      split at h3
      · rename_i y d' e1
        rw [Bool.and_eq_true, decide_eq_true_eq] at h3
        obtain ⟨rfl, e2⟩ := h3
        have e3 := nk_inj.D_eq d d' e2
        subst e3
        obtain ⟨v, u, g1, g2, g3⟩ := Gd.st.glo i x d e1
        exact PEx.imp (pe_glob (gl_of h1) g1 g2 (okN_debug h2)) fun σ H Q q => cst_imp g3 q
      · cases h3
    · cases h
  | .var i, X, bs, n, w, Gd, e, h => by
    simp only [chkE] at h
    split at h
    · exact PEx.imp (pe_nm Gd h) fun σ H Q q => var_imp q
    · cases h
  | .mov i, X, bs, n, w, Gd, e, h => by
    simp only [chkE] at h
    split at h
    · exact PEx.imp (pe_nm Gd h) fun σ H Q q => mov_imp q
    · cases h
  | .tup es, X, bs, n, w, Gd, e, h => by
    simp only [chkE] at h
    split at h
    · exact PEx.imp (pe_tup (sndEs es Gd _ h).1) fun σ H Q q => tup_imp q
    · cases h
  | .lst es, X, bs, n, w, Gd, e, h => by
    simp only [chkE] at h
    split at h
    · exact PEx.imp (pe_lst (sndEs es Gd _ h).1) fun σ H Q q => lst_imp q
    · cases h
  | .dct es, X, bs, n, w, Gd, e, h => by
    simp only [chkE] at h
    split at h
    · rename_i ks vs pos
      rw [Bool.and_eq_true, decide_eq_true_eq] at h
      obtain ⟨fks, h1, h2, h3, h4⟩ := sndPs es Gd pos ks vs h.1
      cases ks with
      | nil =>
        have hv : vs = [] := by simpa using h4.symm
        subst hv
        cases es with
        | nil => exact PEx.imp pe_dsp0 fun σ H Q q => dsp0_imp q
        | cons k es' =>
          cases es' with
          | nil => simp only [chkPs] at h; exact absurd h.1 (by simp)
          | cons v es'' => simp only [chkPs] at h; exact absurd h.1 (by simp)
      | cons k0 ks0 => exact PEx.imp (pe_dsp h2 h3 h4 (by simp) h.2) fun σ H Q q => dsp_imp h1 q
    · cases h
  | .prim p os, X, bs, n, w, Gd, e, h => by
    simp only [chkE] at h
    have hu := Gd.un
    split at h
    · -- a op b
      rename_i a op b pos
      split at h
      · rename_i op' e1
        rw [Bool.and_eq_true, decide_eq_true_eq] at h
        obtain ⟨rfl, h2⟩ := h
        match os, h2 with
        | .cons o (.cons o' .nil), h2 =>
          simp only [chkO2, Bool.and_eq_true] at h2
          rw [prim2_eq]
          exact PEx.imp (pe_op (op_bin Gd e1) (sndO o Gd a h2.1) (sndO o' Gd b h2.2)) fun σ H Q q => bin_imp q
        | .nil, h2 => simp [chkO2] at h2
        | .cons o .nil, h2 => simp [chkO2] at h2
        | .cons o (.cons o' (.cons o'' os)), h2 => simp [chkO2] at h2
      · cases h
    · -- comparisons
      rename_i a ops cs pos
      split at h
      · rename_i op b
        split at h
        · rename_i op' e1
          simp only [Bool.and_eq_true, decide_eq_true_eq] at h
          obtain ⟨⟨rfl, h1⟩, h2⟩ := h
          match os, h2 with
          | .cons o (.cons o' .nil), h2 =>
            simp only [chkO2, Bool.and_eq_true] at h2
            rw [prim2_eq]
            exact PEx.imp (pe_cmpR (op_cmp Gd e1) (sndO o Gd a h2.1) (sndO o' Gd b h2.2) (no_marks h1)) fun σ H Q q => bin_imp q
          | .nil, h2 => simp [chkO2] at h2
          | .cons o .nil, h2 => simp [chkO2] at h2
          | .cons o (.cons o' (.cons o'' os)), h2 => simp [chkO2] at h2
        · split at h
          · match os, h with
            | .cons o .nil, h =>
              simp only [chkO1] at h
              rw [prim1_eq]
              exact PEx.imp (pe_cmpR p_isN (sndO o Gd a h) pe_non (no_marks rfl)) fun σ H Q q => isV_imp q
            | .nil, h => simp [chkO1] at h
            | .cons o (.cons o' os), h => simp [chkO1] at h
          · match os, h with
            | .cons o .nil, h =>
              simp only [chkO1] at h
              rw [prim1_eq]
              exact PEx.imp (pe_cmpR p_notN (sndO o Gd a h) pe_non (no_marks rfl)) fun σ H Q q => isV_imp q
            | .nil, h => simp [chkO1] at h
            | .cons o (.cons o' os), h => simp [chkO1] at h
          · cases h
      · cases h
    · -- minus
      rename_i op a pos
      split at h
      · match os, h with
        | .cons o .nil, h =>
          simp only [chkO1] at h
          rw [prim1_eq]
          exact PEx.imp (pe_un p_neg (sndO o Gd a h)) fun σ H Q q => un_imp q
        | .nil, h => simp [chkO1] at h
        | .cons o (.cons o' os), h => simp [chkO1] at h
      · cases h
    · -- items
      rename_i a b pos
      simp only [Bool.and_eq_true, decide_eq_true_eq] at h
      obtain ⟨⟨rfl, h1⟩, h2⟩ := h
      match os, h2 with
      | .cons o (.cons o' .nil), h2 =>
        simp only [chkO2, Bool.and_eq_true] at h2
        rw [prim2_eq]
        exact PEx.imp (pe_ix (p_idx (cls := cls) (by omega)) (sndO o Gd a h2.1) (sndO o' Gd b h2.2) (plain_ix h1)) fun σ H Q q => bin_imp q
      | .nil, h2 => simp [chkO2] at h2
      | .cons o .nil, h2 => simp [chkO2] at h2
      | .cons o (.cons o' (.cons o'' os)), h2 => simp [chkO2] at h2
    · -- calls
      rename_i f args kws pos
      split at h
      · rename_i x ps
        simp only [Bool.and_eq_true] at h
        obtain ⟨⟨hg, ho⟩, h⟩ := h
        split at h
        · rename_i id e1
          simp only [Bool.and_eq_true] at h
          exact pe_blt Gd e1 h.1.1 hg ho h.2 (sndOs os Gd args h.1.2)
        · split at h
          · rename_i id e1
            simp only [Bool.and_eq_true] at h
            exact pe_ty Gd e1 h.1.1 hg ho h.2 (sndOs os Gd args h.1.2)
          · split at h
            · simp only [Bool.and_eq_true] at h
              obtain ⟨⟨⟨⟨⟨⟨h1, h2⟩, h3⟩, h4⟩, h5⟩, h6⟩, h7⟩ := h
              match os, h7 with
              | .cons o .nil, h7 =>
                simp only [chkO1] at h7
                rw [prim1_eq]
                exact pe_isi Gd (sndO o Gd _ h7) h6 h1 hg ho h2 h3 h4 h5
              | .nil, h7 => simp [chkO1] at h7
              | .cons o (.cons o' os), h7 => simp [chkO1] at h7
            · simp only [Bool.and_eq_true] at h
              obtain ⟨⟨⟨⟨⟨⟨h1, h2⟩, h3⟩, h4⟩, h5⟩, h6⟩, h7⟩ := h
              match os, h7 with
              | .cons o .nil, h7 =>
                simp only [chkO1] at h7
                rw [prim1_eq]
                exact pe_isx Gd (sndO o Gd _ h7) h6 h1 hg ho h2 h3 h4 h5
              | .nil, h7 => simp [chkO1] at h7
              | .cons o (.cons o' os), h7 => simp [chkO1] at h7
            · rename_i oe m ap cp _ _
              simp only [Bool.and_eq_true] at h
              obtain ⟨⟨⟨⟨h1, h2⟩, h3⟩, h4⟩, h5⟩ := h
              match os, h5 with
              | .cons o .nil, h5 =>
                simp only [chkO1] at h5
                rw [prim1_eq]
                have e1 := eqS_of h1
                have e2 := eqS_of h2
                subst e1 e2
                exact PEx.imp (pe_callTy (p_listKeys (cls := cls) Gd.calm) (gl_of hg) (Gd.st.blt "list" (by decide)) boot_list' (pa_cons (pe_keysV (sndO o Gd oe h5) (attr_base h3) h4) pa_nil rfl) (okN_name ho) (okN_debug ho) rfl rfl) fun σ H Q q => view_imp (.inl rfl) q
              | .nil, h5 => simp [chkO1] at h5
              | .cons o (.cons o' os), h5 => simp [chkO1] at h5
            · rename_i oe m ap cp _ _
              simp only [Bool.and_eq_true] at h
              obtain ⟨⟨⟨⟨h1, h2⟩, h3⟩, h4⟩, h5⟩ := h
              match os, h5 with
              | .cons o .nil, h5 =>
                simp only [chkO1] at h5
                rw [prim1_eq]
                have e1 := eqS_of h1
                have e2 := eqS_of h2
                subst e1 e2
                exact PEx.imp (pe_callTy (p_listVals (cls := cls) Gd.calm) (gl_of hg) (Gd.st.blt "list" (by decide)) boot_list' (pa_cons (pe_valsV (sndO o Gd oe h5) (attr_base h3) h4) pa_nil rfl) (okN_name ho) (okN_debug ho) rfl rfl) fun σ H Q q => view_imp (.inr (.inl rfl)) q
              | .nil, h5 => simp [chkO1] at h5
              | .cons o (.cons o' os), h5 => simp [chkO1] at h5
            · rename_i oe m ap cp _ _
              simp only [Bool.and_eq_true] at h
              obtain ⟨⟨⟨⟨h1, h2⟩, h3⟩, h4⟩, h5⟩ := h
              match os, h5 with
              | .cons o .nil, h5 =>
                simp only [chkO1] at h5
                rw [prim1_eq]
                have e1 := eqS_of h1
                have e2 := eqS_of h2
                subst e1 e2
                exact PEx.imp (pe_callB (p_sortedKeys (cls := cls) Gd.calm) (gl_of hg) (Gd.st.blt "sorted" (by decide)) boot_sorted (pa_cons (pe_keysV (sndO o Gd oe h5) (attr_base h3) h4) pa_nil rfl) (okN_name ho) (okN_debug ho) rfl rfl) fun σ H Q q => view_imp (.inr (.inr rfl)) q
              | .nil, h5 => simp [chkO1] at h5
              | .cons o (.cons o' os), h5 => simp [chkO1] at h5
            · cases h
      · cases h
    · cases h
  | .meth p o es, X, bs, n, w, Gd, e, h => by
    simp only [chkE] at h
    split at h
    · rename_i f args kws cp
      split at h
      · rename_i oe m ap
        split at h
        · rename_i nm T id e1
          simp only [Bool.and_eq_true, decide_eq_true_eq] at h
          obtain ⟨⟨⟨⟨⟨⟨h1, h2⟩, h3⟩, h4⟩, h5⟩, h6⟩, h7⟩ := h
          obtain ⟨a, as, rfl⟩ := ne_nil h6
          have em := eqS_of h1
          subst em
          obtain ⟨i1, i2⟩ := sndEs es Gd _ h5
          exact PEx.imp (pe_mt Gd e1 (sndO o Gd oe h2) i1 h3 i2 h7 h4) fun σ H Q q => meth_imp q
        · cases h
      · cases h
    · cases h
  | .slc o lo hi, X, bs, n, w, Gd, e, h => by
    simp only [chkE] at h
    split at h
    · rename_i a s pos
      split at h
      · rename_i l hh st p2
        split at h
        · simp only [Bool.and_eq_true] at h
          obtain ⟨⟨h1, h2⟩, h3⟩ := h
          have hl : PO X l (tFP (cn X cls) n w (partOf (isNo lo) (ev C lo))) := by
            split at h2
            · rw [h2]; exact POx.imp po_none fun σ H Q q => noPart_imp q
            · rw [Bool.and_eq_true, Bool.not_eq_true'] at h2
              rw [h2.1]
              exact POx.imp (po_some (sndE lo Gd _ h2.2)) fun σ H Q q => part_imp q
          have hh' : PO X hh (tFP (cn X cls) n w (partOf (isNo hi) (ev C hi))) := by
            split at h3
            · rw [h3]; exact POx.imp po_none fun σ H Q q => noPart_imp q
            · rw [Bool.and_eq_true, Bool.not_eq_true'] at h3
              rw [h3.1]
              exact POx.imp (po_some (sndE hi Gd _ h3.2)) fun σ H Q q => part_imp q
          exact PEx.imp (pe_slice p_slc (sndO o Gd a h1) hl hh') fun σ H Q q => slc_imp q
        · cases h
      · cases h
    · cases h
  | .call f os, X, bs, n, w, Gd, e, h => by
    simp only [chkE] at h
    split at h
    · rename_i fe args kws pos
      split at h
      · rename_i x ps
        simp only [Bool.and_eq_true] at h
        obtain ⟨⟨⟨⟨hg, ho⟩, h1⟩, h2⟩, h3⟩ := h
        split at h1
        · rename_i y k e1
          have ey : x = y := of_decide_eq_true h1
          subst ey
          obtain ⟨a, as, rfl⟩ := ne_nil h3
          obtain ⟨i1, i2⟩ := sndAs os Gd _ h2
          obtain ⟨fa, fd, pms, g1, g2, g3, g4⟩ := Gd.st.fns f x k e1
          rw [List.all_cons, Bool.and_eq_true] at i2
          exact PEx.imp (pe_callS (E := WE (Wx (cn X cls) n w)) g4 Gd.room (gl_of hg) g1 g2 g3 (fun σ => passAt Gd.tk σ) i1 (okN_debug ho) (star_cons i2.1) (star_any i2.2)) fun σ H Q q => call_imp q
        · cases h1
      · cases h
    · cases h
  | .ite c a b, X, bs, n, w, Gd, e, h => by
    simp only [chkE] at h
    split at h
    · simp only [Bool.and_eq_true] at h
      exact PEx.imp (pe_ifExp (sndT c Gd _ h.1.1) (sndE a Gd _ h.1.2) (sndE b Gd _ h.2)) fun σ H Q q => ite_imp q
    · cases h
  | .band a b, X, bs, n, w, Gd, e, h => by
    simp only [chkE] at h
    split at h
    · split at h
      · rename_i x y rest
        rw [Bool.and_eq_true] at h
        cases rest with
        | nil => exact PEx.imp (pe_and (sndE a Gd _ h.1) (pe_one (sndE b Gd _ h.2))) fun σ H Q q => band_imp q
        | cons z r => exact PEx.imp (pe_and (sndE a Gd _ h.1) (sndE b Gd _ h.2)) fun σ H Q q => band_imp q
      · cases h
    · cases h
  | .bor a b, X, bs, n, w, Gd, e, h => by
    simp only [chkE] at h
    split at h
    · split at h
      · rename_i x y rest
        rw [Bool.and_eq_true] at h
        cases rest with
        | nil => exact PEx.imp (pe_or (sndE a Gd _ h.1) (pe_one (sndE b Gd _ h.2))) fun σ H Q q => bor_imp q
        | cons z r => exact PEx.imp (pe_or (sndE a Gd _ h.1) (sndE b Gd _ h.2)) fun σ H Q q => bor_imp q
      · cases h
    · cases h
  | .bnot a, X, bs, n, w, Gd, e, h => by
    simp only [chkE] at h
    split at h
    · split at h
      · exact PEx.imp (pe_not (sndE a Gd _ h)) fun σ H Q q => bnot_imp q
      · cases h
    · cases h
  | .chain p q a b c, X, bs, n, w, Gd, e, h => by
    simp only [chkE] at h
    split at h
    · split at h
      · split at h
        · rename_i o1 o2 e1 e2
          simp only [Bool.and_eq_true, decide_eq_true_eq] at h
          obtain ⟨⟨⟨⟨⟨rfl, rfl⟩, h3⟩, h4⟩, h5⟩, h6⟩ := h
          exact PEx.imp (pe_chain (op_cmp Gd e1) (op_cmp Gd e2) (sndO a Gd _ h4) (sndO b Gd _ h5) (sndO c Gd _ h6) (no_marks h3)) fun σ H Q q => chain_imp q
        · cases h
      · cases h
    · cases h
  | .comp own tg it c el, X, bs, n, w, Gd, e, h => by
    obtain ⟨elt, te, iter, ifs, scope, pos, rfl, cp⟩ := comp_parts Gd (fun e h => sndI it Gd e h) (fun G' e h => sndT c G' e h) (fun G' e h => sndE el G' e h) h
    exact pe_comp Gd cp
theorem sndEs {g : GI} {cls : String → Addr} {C : Calls} {r : Nat} : ∀ (ts : TEs) {X : Cx} {bs : Option Scope} {n : En} {w : WP}, Good X g cls C r bs n w → ∀ l : List Expr, chkEs g X.env.scope bs ts l = true → PA X l (tFD (cn X cls) n w (evs C ts)) ∧ l.all noStar = true
  | .nil, X, bs, n, w, Gd, l, h => by
    simp only [chkEs] at h
    cases l with
    | nil => exact ⟨PAx.imp pa_nil fun σ H Q q => nilD_imp q, rfl⟩
    | cons e es => cases h
  | .cons t ts, X, bs, n, w, Gd, l, h => by
    simp only [chkEs] at h
    split at h
    · rename_i e es
      simp only [Bool.and_eq_true] at h
      obtain ⟨i1, i2⟩ := sndEs ts Gd es h.2
      exact ⟨PAx.imp (pa_cons (sndE t Gd e h.1.2) i1 (star_cons h.1.1)) fun σ H Q q => consD_imp q, by rw [List.all_cons, h.1.1, i2]; rfl⟩
    · cases h
theorem sndPs {g : GI} {cls : String → Addr} {C : Calls} {r : Nat} : ∀ (ts : TEs) {X : Cx} {bs : Option Scope} {n : En} {w : WP}, Good X g cls C r bs n w → ∀ (pos : Pos) (ks : List (Option Expr)) (vs : List Expr), chkPs g X.env.scope bs ts ks vs = true →
    ∃ fks : List ((Env → R SD) × (Env → R SD)), (∀ Γ, evs C ts Γ = (fks.foldr (fun p (g : Env → R (List D)) Γ => (p.1 Γ).bind fun x Γ => ((p.2 Γ).bind fun y Γ => (g Γ).bind fun r Γ => .ok (y.2 :: r) Γ).bind fun r Γ => .ok (x.2 :: r) Γ) (fun Γ => .ok [] Γ)) Γ) ∧
      PPs X pos ks vs (fks.map fun p => (tG (cn X cls) n w p.1, tG (cn X cls) n w p.2)) ∧ ks.all (·.isSome) = true ∧ ks.length = vs.length
  | .nil, X, bs, n, w, Gd, pos, ks, vs, h => by
    simp only [chkPs, Bool.and_eq_true] at h
    cases ks with
    | nil =>
      cases vs with
      | nil => exact ⟨[], fun Γ => rfl, pps_nil, rfl, rfl⟩
      | cons v vs => cases h.2
    | cons k ks => cases h.1
  | .cons k (.cons v ts), X, bs, n, w, Gd, pos, ks, vs, h => by
    simp only [chkPs] at h
    split at h
    · rename_i ke ks' ve vs'
      simp only [Bool.and_eq_true] at h
      obtain ⟨fks, h1, h2, h3, h4⟩ := sndPs ts Gd pos ks' vs' h.2
      refine ⟨(ev C k, ev C v) :: fks, fun Γ => ?_, pps_cons ⟨fun pins s σ H Q I ⟨p, o, h0, q⟩ => (sndE k (Gd.guard h0) ke h.1.1).run pins s σ H Q I q⟩ ⟨fun pins s σ H Q I ⟨p, o, h0, q⟩ => (sndE v (Gd.guard h0) ve h.1.2).run pins s σ H Q I q⟩ h2, by rw [List.all_cons, h3]; rfl, by rw [List.length_cons, List.length_cons, h4]⟩
      show (ev C k Γ).bind (fun x Γ => ((ev C v Γ).bind fun y Γ => (evs C ts Γ).bind fun r Γ => .ok (y.2 :: r) Γ).bind fun r Γ => .ok (x.2 :: r) Γ) = _
      have e : evs C ts = (fks.foldr (fun p (g : Env → R (List D)) Γ => (p.1 Γ).bind fun x Γ => ((p.2 Γ).bind fun y Γ => (g Γ).bind fun r Γ => .ok (y.2 :: r) Γ).bind fun r Γ => .ok (x.2 :: r) Γ) (fun Γ => .ok [] Γ)) := funext h1
      rw [e]
      rfl
    · cases h
  | .cons k .nil, X, bs, n, w, Gd, pos, ks, vs, h => by simp [chkPs] at h
theorem sndO {g : GI} {cls : String → Addr} {C : Calls} {r : Nat} : ∀ (o : TO) {X : Cx} {bs : Option Scope} {n : En} {w : WP}, Good X g cls C r bs n w → ∀ e : Expr, chkO g X.env.scope bs o e = true → PE X e (tFO (cn X cls) n w (evO C o))
  | .v i, X, bs, n, w, Gd, e, h => by
    simp only [chkO] at h
    split at h
    · exact PEx.imp (pe_nm Gd h) fun σ H Q q => look_imp q
    · cases h
  | .e t, X, bs, n, w, Gd, e, h => PEx.imp (sndE t Gd e h) fun σ H Q q => opE_imp q
  | .m i, X, bs, n, w, Gd, e, h => by cases h
theorem sndOs {g : GI} {cls : String → Addr} {C : Calls} {r : Nat} : ∀ (os : TOs) {X : Cx} {bs : Option Scope} {n : En} {w : WP}, Good X g cls C r bs n w → ∀ l : List Expr, chkOs g X.env.scope bs os l = true → PA X l (tFL (cn X cls) n w (evOs C os)) ∧ l.all noStar = true
  | .nil, X, bs, n, w, Gd, l, h => by
    simp only [chkOs] at h
    cases l with
    | nil => exact ⟨PAx.imp pa_nil fun σ H Q q => nil_imp q, rfl⟩
    | cons e es => cases h
  | .cons o os, X, bs, n, w, Gd, l, h => by
    simp only [chkOs] at h
    split at h
    · rename_i e es
      simp only [Bool.and_eq_true] at h
      obtain ⟨i1, i2⟩ := sndOs os Gd es h.2
      exact ⟨PAx.imp (pa_cons (sndO o Gd e h.1.2) i1 (star_cons h.1.1)) fun σ H Q q => cons_imp q, by rw [List.all_cons, h.1.1, i2]; rfl⟩
    · cases h
theorem sndA {g : GI} {cls : String → Addr} {C : Calls} {r : Nat} : ∀ (o : TO) {X : Cx} {bs : Option Scope} {n : En} {w : WP}, Good X g cls C r bs n w → ∀ e : Expr, chkA g X.env.scope bs o e = true → PE X e (tFO (cn X cls) n w (evA C o))
  | .m i, X, bs, n, w, Gd, e, h => by
    simp only [chkA] at h
    split at h
    · exact PEx.imp (pe_nm Gd h) fun σ H Q q => lookM_imp q
    · cases h
  | .e t, X, bs, n, w, Gd, e, h => PEx.imp (sndE t Gd e h) fun σ H Q q => opE_imp q
  | .v i, X, bs, n, w, Gd, e, h => by cases h
theorem sndAs {g : GI} {cls : String → Addr} {C : Calls} {r : Nat} : ∀ (os : TOs) {X : Cx} {bs : Option Scope} {n : En} {w : WP}, Good X g cls C r bs n w → ∀ l : List Expr, chkAs g X.env.scope bs os l = true → PA X l (tFL (cn X cls) n w (evAs C os)) ∧ l.all noStar = true
  | .nil, X, bs, n, w, Gd, l, h => by
    simp only [chkAs] at h
    cases l with
    | nil => exact ⟨PAx.imp pa_nil fun σ H Q q => nil_imp q, rfl⟩
    | cons e es => cases h
  | .cons o os, X, bs, n, w, Gd, l, h => by
    simp only [chkAs] at h
    split at h
    · rename_i e es
      simp only [Bool.and_eq_true] at h
      obtain ⟨i1, i2⟩ := sndAs os Gd es h.2
      exact ⟨PAx.imp (pa_cons (sndA o Gd e h.1.2) i1 (star_cons h.1.1)) fun σ H Q q => cons_imp q, by rw [List.all_cons, h.1.1, i2]; rfl⟩
    · cases h
theorem sndT {g : GI} {cls : String → Addr} {C : Calls} {r : Nat} : ∀ (t : TT) {X : Cx} {bs : Option Scope} {n : En} {w : WP}, Good X g cls C r bs n w → ∀ e : Expr, chkT g X.env.scope bs t e = true → PT X e (tFT (cn X cls) n w (evT C t))
  | .yes, X, bs, n, w, Gd, e, h => by cases h
  | .is1 p o, X, bs, n, w, Gd, e, h => by
    simp only [chkT] at h
    split at h
    · split at h
      · split at h
        · exact PTx.imp (pt_cmpR p_isN (sndO o Gd _ h) pe_non (no_marks rfl)) fun σ H Q q => is1_imp q
        · exact PTx.imp (pt_cmpR p_notN (sndO o Gd _ h) pe_non (no_marks rfl)) fun σ H Q q => is1_imp q
        · cases h
      · cases h
    · cases h
  | .tr o, X, bs, n, w, Gd, e, h => by
    simp only [chkT, Bool.and_eq_true] at h
    have ho := sndO o Gd e h.2
    refine ⟨fun pins s σ H Q I q => ?_⟩
    have q2 := tr_imp q
    exact PyProof.Rows.isTrue_plain (thn (ho.run pins s σ H _ I q2) fun v s1 ⟨x, H1, I1, r1, q1⟩ => p_truth pins s1 σ H1 x v Q I1 r1 q1) (true_plain h.1 _)
  | .cmp p a b, X, bs, n, w, Gd, e, h => by
    simp only [chkT] at h
    split at h
    · split at h
      · split at h
        · rename_i op' e1
          simp only [Bool.and_eq_true, decide_eq_true_eq] at h
          obtain ⟨⟨⟨rfl, h1⟩, h2⟩, h3⟩ := h
          exact PTx.imp (pt_cmpR (op_cmp Gd e1) (sndO a Gd _ h2) (sndO b Gd _ h3) (no_marks h1)) fun σ H Q q => cmp_imp q
        · cases h
      · cases h
    · cases h
  | .chn p q a b c, X, bs, n, w, Gd, e, h => by
    simp only [chkT] at h
    split at h
    · split at h
      · split at h
        · rename_i o1 o2 e1 e2
          simp only [Bool.and_eq_true, decide_eq_true_eq] at h
          obtain ⟨⟨⟨⟨⟨rfl, rfl⟩, h3⟩, h4⟩, h5⟩, h6⟩ := h
          exact PTx.imp (pt_chain (op_cmp Gd e1) (op_cmp Gd e2) (sndO a Gd _ h4) (sndO b Gd _ h5) (sndO c Gd _ h6) (no_marks h3)) fun σ H Q q => chn_imp q
        · cases h
      · cases h
    · cases h
  | .not a, X, bs, n, w, Gd, e, h => by
    simp only [chkT] at h
    split at h
    · split at h
      · exact PTx.imp (pt_not (sndT a Gd _ h)) fun σ H Q q => not_imp q
      · cases h
    · cases h
  | .and a b, X, bs, n, w, Gd, e, h => by
    simp only [chkT] at h
    split at h
    · split at h
      · rename_i x y rest
        rw [Bool.and_eq_true] at h
        cases rest with
        | nil => exact PTx.imp (pw_and (sndT a Gd _ h.1) (pw_and1 (sndT b Gd _ h.2))).pt fun σ H Q q => and_imp q
        | cons z r => exact PTx.imp (pw_and (sndT a Gd _ h.1) (pw_of (sndT b Gd _ h.2))).pt fun σ H Q q => and_imp q
      · cases h
    · cases h
  | .or a b, X, bs, n, w, Gd, e, h => by
    simp only [chkT] at h
    split at h
    · split at h
      · rename_i x y rest
        rw [Bool.and_eq_true] at h
        cases rest with
        | nil => exact PTx.imp (pw_or (sndT a Gd _ h.1) (pw_or1 (sndT b Gd _ h.2))).pt fun σ H Q q => or_imp q
        | cons z r => exact PTx.imp (pw_or (sndT a Gd _ h.1) (pw_of (sndT b Gd _ h.2))).pt fun σ H Q q => or_imp q
      · cases h
    · cases h
theorem sndI {g : GI} {cls : String → Addr} {C : Calls} {r : Nat} : ∀ (t : TI) {X : Cx} {bs : Option Scope} {n : En} {w : WP}, Good X g cls C r bs n w → ∀ {tg : Expr} (e : Expr), chkI g X.env.scope bs t e = true → PI X tg e (tFI (cn X cls) n w (evI C t))
  | .seq t, X, bs, n, w, Gd, tg, e, h => pi_seq (sndE t Gd e h)
  | .rng t, X, bs, n, w, Gd, tg, e, h => by
    simp only [chkI] at h
    split at h
    · split at h
      · simp only [Bool.and_eq_true] at h
        obtain ⟨⟨⟨h1, h2⟩, h3⟩, h4⟩ := h
        have ex := eqS_of h1
        subst ex
        exact PIx.imp (pi_range1 (gl_of h2) (Gd.st.blt "range" (by decide)) (pa_cons (sndE t Gd _ h4) pa_nil (star_cons h3)) (star_cons h3)) fun σ H Q q => rng1_imp q
      · cases h
    · cases h
  | .rng2 t u, X, bs, n, w, Gd, tg, e, h => by
    simp only [chkI] at h
    split at h
    · split at h
      · simp only [Bool.and_eq_true] at h
        obtain ⟨⟨⟨⟨⟨h1, h2⟩, h3⟩, h4⟩, h5⟩, h6⟩ := h
        have ex := eqS_of h1
        subst ex
        exact PIx.imp (pi_range2 (gl_of h2) (Gd.st.blt "range" (by decide)) (pa_cons (sndE t Gd _ h5) (pa_cons (sndE u Gd _ h6) pa_nil (star_cons h4)) (star_cons h3)) (by rw [star_cons h3, star_cons h4]; rfl) (star_cons h4)) fun σ H Q q => rng2_imp q
      · cases h
    · cases h
  | .keys t, X, bs, n, w, Gd, tg, e, h => by
    simp only [chkI] at h
    split at h
    · split at h
      · simp only [Bool.and_eq_true] at h
        obtain ⟨⟨⟨h1, h2⟩, h3⟩, h4⟩ := h
        have ex := eqS_of h1
        subst ex
        exact PIx.imp (pi_ks (sndE t Gd _ h4) (attr_base h2) h3) fun σ H Q q => keys_imp q
      · cases h
    · cases h
  | .vals t, X, bs, n, w, Gd, tg, e, h => by
    simp only [chkI] at h
    split at h
    · split at h
      · simp only [Bool.and_eq_true] at h
        obtain ⟨⟨⟨h1, h2⟩, h3⟩, h4⟩ := h
        have ex := eqS_of h1
        subst ex
        exact PIx.imp (pi_vs (sndE t Gd _ h4) (attr_base h2) h3) fun σ H Q q => vals_imp q
      · cases h
    · cases h
end
end Rl
set_option Elab.async false
set_option linter.all false
set_option maxRecDepth 100000
set_option autoImplicit false
/-! Roundlines, 9: statements. -/
namespace Rl
open PySem L2
structure GoodS (X : Cx) (g : GI) (cls : String → Addr) (C : Calls) (r : Nat) (n : En) (w : WP) : Prop where
  gd : Good X g cls C r none n w
  po : PassesOwn (model X.prog X.w) X.A X.env X.xe
  hs : X.stack = X.env :: X.outer
  hf : X.env.frame = some X.env.locals
  hex : X.ex = []
  kd : X.env.scope.kind = .function
section
variable {X : Cx} {g : GI} {cls : String → Addr} {C : Calls} {r : Nat} {n : En} {w : WP}
theorem swapped_none {ts : List Expr} {k : Nat} {pt : Pos} {v : Expr} {env : PySem.Env} (h : noTup v = true) : swappedStores [.Tuple ts k pt] v env = pure none := by
  cases v <;> first | rfl | cases h
theorem sole_swap {e t : Expr} {l : Nat} {env : PySem.Env} (h : noComp e = true) : swapsWithSole [t] e l env = pure false := by
  cases e <;> first | rfl | cases h
theorem swap_comp {x : Str} {px pos : Pos} {l : Nat} {elt : Expr} {gens : List Comprehension} {scope : Scope} {env : PySem.Env} :
    swapsWith (.ListComp elt gens scope pos) (some (.Name x px)) l env = pure (env.blockKind == .function && env.kindOf x == some .local && px.line == pos.line && !(scope.names.any fun (n, k) => n == x && (k == .local || k == .cell))) := rfl
theorem swapped_par {x y : Str} {px py pt pt2 : Pos} {kt k2 : Nat} {a b : Expr} {env : PySem.Env} (hk : env.scope.kind = .function) (hx : env.scope.names.lookup x = some .local) (hy : env.scope.names.lookup y = some .local) (hp : (px.line == py.line) = true) (hne : x ≠ y)
    (ha : noStar a = true) (hb : noStar b = true) (hf : (!([a, b].all (foldedForSure 8))) = true) (hc : (!([a, b].all (constantsAlone 8))) = true) : swappedStores [.Tuple [.Name x px, .Name y py] kt pt] (.Tuple [a, b] k2 pt2) env = pure (some [x, y]) := by
  have e1 : env.blockKind = .function := by unfold PySem.Env.blockKind; rw [hk]; rfl
  have ex : env.kindOf x = some .local := hx
  have ey : env.kindOf y = some .local := hy
  rw [Bool.not_eq_true'] at hf hc
  have hp' : py.line = px.line := (beq_iff_eq.mp hp).symm
  unfold swappedStores
  simp [e1, ex, ey, hf, hc, hp', hne, Ne.symm hne, List.eraseDups_cons, Expr.pos]
  intro z
  exfalso
  rcases z with z | z
  · cases a with
    | Starred v p => cases ha
    | _ => cases z
  · cases b with
    | Starred v p => cases hb
    | _ => cases z
theorem asg_name (G : GoodS X g cls C r n w) {i : Nat} {t : TE} {x : Str} {px pos : Pos} {v : Expr} (h1 : stB g X.env.scope none i x = true) (h2 : chkE g X.env.scope none t v = true) :
    PS X (.Assign [.Name x px] v pos) (tSf (cn X cls) n w fun Γ => (ev C t Γ).sr fun x Γ => .nx (Γ.set i (some x))) := by
  obtain ⟨a1, a2, a3, a4⟩ := st_of G.gd h1
  cases hv : noComp v with
  | true => exact PSx.imp (ps_set G.gd.nd a1 a2 (sndE t G.gd v h2) (no_swap hv) a3) fun D σ H q => asg_imp a4 q
  | false =>
    cases t with
    | bad => exact ⟨fun pins s σ H D I ⟨G, Γ, f, q⟩ => q.elim⟩
    | comp own tg it c el =>
      obtain ⟨elt, te, iter, ifs, scope, cpos, rfl, cp⟩ := comp_parts G.gd (fun e h => sndI it G.gd e h) (fun G' e h => sndT c G' e h) (fun G' e h => sndE el G' e h) h2
      cases hb : (X.env.blockKind == .function && X.env.kindOf x == some .local && px.line == cpos.line && !(scope.names.any fun (n, k) => n == x && (k == .local || k == .cell))) with
      | false => exact PSx.imp (ps_set G.gd.nd a1 a2 (pe_comp G.gd cp) (by rw [swap_comp, hb]) a3) fun D σ H q => asg_imp a4 q
      | true =>
        have hl : X.env.scope.names.lookup x = some .local := by
          simp only [Bool.and_eq_true] at hb
          exact beq_iff_eq.mp hb.1.1.2
        refine PSx.imp (ps_setLc G.gd.calm G.gd.nd a1 hl (by rw [swap_comp, hb]) cp.hi cp.ok cp.hg cp.ht cp.he cp.hs) fun D σ H q => ?_
        have q2 := asg_imp a4 q
        rw [comp_eq] at q2
        rw [cp.eo]
        exact comp_imp cp.no cp.sub q2
    | _ =>
      exfalso
      cases v with
      | ListComp a b c d => exact nomatch (show false = true from h2)
      | SetComp a b c d => exact nomatch (show false = true from h2)
      | DictComp a b c d e => exact nomatch (show false = true from h2)
      | _ => exact nomatch hv
theorem GoodS.tr (G : GoodS X g cls C r n w) {Gh : Hp} {w' : WP} {W : WX} {pn : List (Addr × Obj)} {xe : Value → Shared → Prop} (tk : Takes (X.tr pn xe) W) (po : PassesOwn (model X.prog X.w) X.A X.env xe) (hW : ∀ cl d σ H, Wx (cn X cls) (n.at Gh) w' cl d σ H → W cl d σ H) :
    GoodS (X.tr pn xe) g cls C r (n.at Gh) w' :=
  ⟨⟨G.gd.st, G.gd.room, G.gd.calm, G.gd.nd, G.gd.hN, G.gd.fn, tk.imp hW, G.gd.mt⟩, po, G.hs, G.hf, G.hex, G.kd⟩
end
mutual
theorem sndS {g : GI} {cls : String → Addr} {C : Calls} {r : Nat} {wf : Nat} : ∀ (t : TS) {X : Cx} {n : En} {w : WP}, GoodS X g cls C r n w → ∀ s : Stmt, chkS g X.env.scope t s = true → PS X s (tSf (cn X cls) n w (ex C wf t))
  | .bad, X, n, w, G, s, h => ⟨fun pins s σ H D I ⟨G, Γ, f, q⟩ => q.elim⟩
  | .asg i t, X, n, w, G, s, h => by
    simp only [chkS] at h
    split at h
    · split at h
      · rw [Bool.and_eq_true] at h
        exact asg_name G h.1 h.2
      · cases h
    · cases h
  | .unp is t, X, n, w, G, s, h => by
    simp only [chkS] at h
    split at h
    · split at h
      · simp only [Bool.and_eq_true] at h
        obtain ⟨⟨⟨h1, h2⟩, h3⟩, h4⟩ := h
        obtain ⟨i1, i2, i3, i4⟩ := pgs_nms G.gd h1
        exact PSx.imp (ps_asg (sndE t G.gd _ h4) (pg_tup G.gd.calm i1 i2 i3) (sole_swap h3) (swapped_none h2) rfl) fun D σ H q => unp_imp i4 q
      · cases h
    · cases h
  | .par i j a b, X, n, w, G, s, h => by
    simp only [chkS] at h
    split at h
    · split at h
      · simp only [Bool.and_eq_true, decide_eq_true_eq] at h
        obtain ⟨⟨⟨⟨⟨⟨⟨⟨⟨⟨⟨⟨h1, h2⟩, h3⟩, h4⟩, h5⟩, h6⟩, h7⟩, h8⟩, h9⟩, h10⟩, h11⟩, h12⟩, h13⟩ := h
        obtain ⟨a1, a2, a3, a4⟩ := st_of G.gd h1
        obtain ⟨b1, b2, b3, b4⟩ := st_of G.gd h2
        exact PSx.imp (ps_par G.gd.calm G.gd.nd a1 b1 h5 (lc_of h3) (lc_of h4) (pa_cons (sndE a G.gd _ h12) (pa_cons (sndE b G.gd _ h13) pa_nil (star_cons h9)) (star_cons h8)) (swapped_par G.kd (lc_of h3) (lc_of h4) h6 h7 h8 h9 h10 h11) rfl) fun D σ H q => par_imp a4 b4 q
      · cases h
    · cases h
  | .put i k t, X, n, w, G, s, h => by
    simp only [chkS] at h
    have hu := G.gd.un
    split at h
    · rename_i ts v pos
      split at h
      · rename_i x px ke pk
        simp only [Bool.and_eq_true] at h
        obtain ⟨⟨⟨⟨⟨h1, h2⟩, h3⟩, h4⟩, h5⟩, h6⟩ := h
        have hn : PE X (.Name x px) (tVar i) := pe_nm G.gd (by rw [h1, h2, h3]; rfl)
        have hsw : swapsWithSole [.Subscript (.Name x px) ke pk] v pos.line X.env = pure false := by cases v <;> rfl
        have hst : swappedStores [.Subscript (.Name x px) ke pk] v X.env = pure none := by cases v <;> rfl
        have has : ∀ v, assign (.Subscript (.Name x px) ke pk) X.env v = (do
            let ov ← holding [v] (eval (.Name x px) X.env)
            let iv ← holding [v, ov] (eval ke X.env)
            standAt pk
            holding [v, ov, iv] (setItem ov iv v)
            release [v, ov, iv] []) := fun v => by cases ke <;> first | rfl | cases h4
        exact PSx.imp (ps_asg (sndE t G.gd v h6) (pg_sub hn (sndE k G.gd ke h5) (set_put (cls := cls) (by omega)) has) hsw hst rfl) fun D σ H q => put_imp q
      · cases h
    · cases h
  | .app i t, X, n, w, G, s, h => by
    simp only [chkS] at h
    split at h
    · split at h
      · simp only [Bool.and_eq_true] at h
        obtain ⟨⟨⟨⟨⟨⟨h1, h2⟩, h3⟩, h4⟩, h5⟩, h6⟩, h7⟩ := h
        have em := eqS_of h4
        subst em
        exact PSx.imp (ps_expr (pe_bm F.plainAttrs_list F.slot_list_append F.type_list_append mt_append (pe_nm G.gd (by rw [h1, h2, h3]; rfl)) (pa_cons (sndE t G.gd _ h7) pa_nil (star_cons h6)) (attr_base rfl) (by rw [star_cons h6]; rfl) h5 (star_cons h6) rfl) (no_swap rfl)) fun D σ H q => app_imp q
      · cases h
    · cases h
  | .ext i t, X, n, w, G, s, h => by
    simp only [chkS] at h
    split at h
    · split at h
      · simp only [Bool.and_eq_true] at h
        obtain ⟨⟨⟨⟨⟨⟨h1, h2⟩, h3⟩, h4⟩, h5⟩, h6⟩, h7⟩ := h
        have em := eqS_of h4
        subst em
        exact PSx.imp (ps_expr (pe_bm F.plainAttrs_list F.slot_list_extend F.type_list_extend mt_extend (pe_nm G.gd (by rw [h1, h2, h3]; rfl)) (pa_cons (sndE t G.gd _ h7) pa_nil (star_cons h6)) (attr_base rfl) (by rw [star_cons h6]; rfl) h5 (star_cons h6) rfl) (no_swap rfl)) fun D σ H q => ext_imp q
      · cases h
    · cases h
  | .exp t, X, n, w, G, s, h => by
    simp only [chkS] at h
    split at h
    · rw [Bool.and_eq_true] at h
      exact PSx.imp (ps_expr (sndE t G.gd _ h.2) (no_swap h.1)) fun D σ H q => exp_imp q
    · cases h
  | .ifs c a b, X, n, w, G, s, h => by
    simp only [chkS] at h
    split at h
    · simp only [Bool.and_eq_true] at h
      exact PSx.imp (ps_if (sndT c G.gd _ h.1.1) (sndSs a G _ h.1.2) (sndSs b G _ h.2)) fun D σ H q => ifs_imp q
    · cases h
  | .for_ tg it b, X, n, w, G, s, h => by
    simp only [chkS] at h
    split at h
    · rename_i te iter body els pos
      simp only [Bool.and_eq_true] at h
      obtain ⟨⟨⟨⟨⟨h1, h2⟩, h3⟩, h4⟩, h5⟩, h6⟩ := h
      have he : els = [] := by simpa using h1
      subst he
      obtain ⟨p1, p2⟩ := pg_tg G.gd h4
      exact PSx.imp (ps_for G.po G.gd.calm (sndI it G.gd iter h3) p1 (sndSs b G body h6) (set_iter h2)) fun D σ H q => for_imp p2 q
    · cases h
  | .whl c b, X, n, w, G, s, h => by
    simp only [chkS] at h
    split at h
    · rename_i t body els pos
      simp only [Bool.and_eq_true] at h
      have he : els = [] := by simpa using h.1.1
      subst he
      exact PSx.imp (ps_while G.po (sndT c G.gd t h.1.2) (sndSs b G body h.2)) fun D σ H q => whl_imp q
    · cases h
  | .ret t, X, n, w, G, s, h => by
    simp only [chkS] at h
    split at h
    · split at h
      · exact PSx.imp (ps_ret (sndE t G.gd _ h)) fun D σ H q => ret_imp q
      · cases h
    · cases h
  | .retN, X, n, w, G, s, h => by
    simp only [chkS] at h
    split at h
    · rename_i v pos
      cases v with
      | none => exact PSx.imp ps_retN fun D σ H q => retN_imp q
      | some e => cases h
    · cases h
  | .brk, X, n, w, G, s, h => by
    simp only [chkS] at h
    split at h
    · exact PSx.imp ps_break fun D σ H q => bk_imp q
    · cases h
  | .cnt, X, n, w, G, s, h => by
    simp only [chkS] at h
    split at h
    · exact PSx.imp ps_continue fun D σ H q => ct_imp q
    · cases h
  | .pas, X, n, w, G, s, h => by
    simp only [chkS] at h
    split at h
    · exact PSx.imp ps_pass fun D σ H q => nx_imp q
    · cases h
  | .rai k, X, n, w, G, s, h => by
    simp only [chkS] at h
    split at h
    · split at h
      · simp only [Bool.and_eq_true] at h
        obtain ⟨⟨⟨h1, h2⟩, h3⟩, h4⟩ := h
        have ex := eqS_of h1
        subst ex
        have hk : k ∈ errs := by simpa using h2
        obtain ⟨e1, e2, e3, e4, e5, e6⟩ := G.gd.st.err k hk
        exact PSx.imp (ps_raise G.gd.calm G.gd.tk (pmk_own PySem.F.excBase_ValueError e2 e1 e3 (raises_own e4 e5) (gl_of h3) (okN_debug h4))) fun D σ H q => rai_imp q
      · cases h
    · cases h
  | .try_ b i e, X, n, w, G, s, h => by
    simp only [chkS] at h
    split at h
    · rename_i body hds els fin pos
      split at h
      · rename_i x px nm y py nm' pn ap hp
        simp only [Bool.and_eq_true, decide_eq_true_eq, Bool.not_eq_true'] at h
        obtain ⟨⟨⟨⟨⟨⟨⟨⟨⟨⟨⟨⟨⟨⟨h1, h2⟩, h3⟩, h4⟩, h5⟩, h6⟩, h7⟩, h8⟩, h9⟩, h10⟩, h11⟩, h12⟩, h13⟩, h14⟩, h15⟩ := h
        have e1 : els = [] := by simpa using h1
        have e2 : fin = [] := by simpa using h2
        have e3 := eqS_of h3
        subst e1 e2 e3 h6
        obtain ⟨cv, l1, l2⟩ := G.gd.st.lin
        refine PSx.imp (ps_try_keep (tb := tTry (cn X cls) n (exs C wf b)) G.hs G.hf G.hex G.gd.nd (nm_of G.gd h7) (lc_of h9) (nm_of G.gd h8) (lc_of h10) h12 (okN_debug h11) (okN_cd h11) ⟨gl_of h4, okN_debug h5, .inl l1⟩ G.gd.tk fun W pn xe tk po => ?_) fun D σ H q => try_imp (G.gd.no h13) (G.gd.no h14) h12 l2 q
        exact ⟨fun pins s σ H D I ⟨Gh, w', hW, hq⟩ => (sndSs b (G.tr tk po hW) body h15).run pins s σ H D I hq⟩
      · cases h
    · cases h
theorem sndSs {g : GI} {cls : String → Addr} {C : Calls} {r : Nat} {wf : Nat} : ∀ (ts : TSs) {X : Cx} {n : En} {w : WP}, GoodS X g cls C r n w → ∀ l : List Stmt, chkSs g X.env.scope ts l = true → PSs X l (tSf (cn X cls) n w (exs C wf ts))
  | .nil, X, n, w, G, l, h => by
    simp only [chkSs] at h
    cases l with
    | nil => exact PSsx.imp pss_nil fun D σ H q => nx_imp q
    | cons s ss => cases h
  | .cons t ts, X, n, w, G, l, h => by
    simp only [chkSs] at h
    split at h
    · rw [Bool.and_eq_true] at h
      exact PSsx.imp (pss_cons (sndS t G _ h.1) (sndSs ts G _ h.2)) fun D σ H q => seq_imp q
    · cases h
end
end Rl
set_option Elab.async false
set_option linter.all false
set_option maxRecDepth 100000
set_option autoImplicit false
/-! Roundlines, 10: defs. -/
namespace Rl
open PySem L2

theorem muts_at : ∀ {as : List SD} {Γ : Env} {ms : List (Option SD)}, muts as Γ = some ms → ∀ (k : Nat) d d', as[k]? = some (.own, d) → ms[k]? = some (some (.own, d')) → slot Γ k = some (.own, d')
  | [], Γ, ms, h, k, d, d', e, _ => by simp at e
  | (.fz, d0) :: r, [], ms, h, k, d, d', e, e' => by cases h
  | (.fz, d0) :: r, x :: Γ, ms, h, k, d, d', e, e' => by
    obtain ⟨ms', h1, rfl⟩ := Option.map_eq_some_iff.mp (show (muts r Γ).map (fun l => none :: l) = some ms from h)
    cases k with
    | zero => cases (show some (Sh.fz, d0) = some (Sh.own, d) from e)
    | succ k => exact muts_at h1 k d d' (by simpa using e) (by simpa using e')
  | (.own, d0) :: r, [], ms, h, k, d, d', e, e' => by cases h
  | (.own, d0) :: r, none :: Γ, ms, h, k, d, d', e, e' => by cases h
  | (.own, d0) :: r, some (.fz, x) :: Γ, ms, h, k, d, d', e, e' => by cases h
  | (.own, d0) :: r, some (.own, x) :: Γ, ms, h, k, d, d', e, e' => by
    obtain ⟨ms', h1, rfl⟩ := Option.map_eq_some_iff.mp (show (muts r Γ).map (fun l => some (.own, x) :: l) = some ms from h)
    cases k with
    | zero => cases (show some (some (Sh.own, x)) = some (some (Sh.own, d')) from e'); rfl
    | succ k => exact muts_at h1 k d d' (by simpa using e) (by simpa using e')
theorem shOk_at {mt : List Nat} : ∀ {as : List SD} {i : Nat}, shOk mt i as = true → ∀ (k : Nat) d, as[k]? = some (.own, d) → i + k ∈ mt
  | [], i, h, k, d, e => by simp at e
  | (s, d0) :: r, i, h, k, d, e => by
    simp only [shOk, Bool.and_eq_true] at h
    cases k with
    | zero => cases (show some (s, d0) = some (Sh.own, d) from e); simpa using h.1
    | succ k =>
      have := shOk_at h.2 k d (by simpa using e)
      rw [show i + (k + 1) = i + 1 + k by omega]; exact this
def pinAt (k : Nat) (x : Option SD) (y : Option V) : Option (Nat × V) := match x, y with
  | some (.own, _), some v => some (k, v)
  | _, _ => none
/-- the lent parameters and where they point -/
def pinsOf (as : List SD) (vs : List V) : List (Nat × V) := (List.range as.length).filterMap fun k => pinAt k as[k]? vs[k]?
theorem mem_pins {as : List SD} {vs : List V} {p : Nat × V} : p ∈ pinsOf as vs ↔ ∃ d, as[p.1]? = some (.own, d) ∧ vs[p.1]? = some p.2 := by
  unfold pinsOf
  rw [List.mem_filterMap]
  constructor
  · rintro ⟨k, _, h⟩
    unfold pinAt at h
    split at h
    · rename_i d v e1 e2
      cases h
      exact ⟨d, e1, e2⟩
    · cases h
  · rintro ⟨d, e1, e2⟩
    refine ⟨p.1, ?_, by rw [e1, e2]; rfl⟩
    rw [List.mem_range]
    rcases Nat.lt_or_ge p.1 as.length with z | z
    · exact z
    · rw [List.getElem?_eq_none z] at e1; cases e1
section
variable {c : Cn} {G H : Hp} {as : List SD} {vs : List V} {F : List Addr}
theorem slot_start {m k : Nat} {x : SD} (h : slot (startE m as) k = some x) : as[k]? = some x := by
  unfold slot startE at h
  rcases Nat.lt_or_ge k as.length with z | z
  · rw [List.getElem?_append_left (by simpa using z), List.getElem?_map] at h
    cases e : as[k]? with
    | none => rw [e] at h; cases h
    | some y => rw [e] at h; exact h
  · rw [List.getElem?_append_right (by simpa using z)] at h
    cases e : (List.replicate (m - as.length) (none : Option SD))[k - (as.map some).length]? with
    | none => rw [e] at h; cases h
    | some y =>
      rw [e] at h
      have := List.eq_of_mem_replicate (List.mem_of_getElem? e)
      subst this
      cases h
theorem start_at {N : List Str} {k : Nat} {v : V} (h : vs[k]? = some v) : (L2.start N vs)[k]? = some (some v) := by
  unfold L2.start
  have z : k < vs.length := by
    rcases Nat.lt_or_ge k vs.length with z | z
    · exact z
    · rw [List.getElem?_eq_none z] at h; cases h
  rw [List.getElem?_append_left (by simpa using z), List.getElem?_map, h]; rfl
theorem fr_start {N : List Str} (gh : Same G H) (A : ArgsOk c G H as vs F) (hl : as.length ≤ N.length) : Fr c ⟨G, H, F, pinsOf as vs⟩ G H (L2.start N vs) (startE N.length as) [] := by
  let fp : Nat → List Addr := fun k => match as[k]?, vs[k]? with
    | some (s, _), some v => fpOf s v
    | _, _ => []
  have fpm : ∀ k a, a ∈ fp k → ∃ d, as[k]? = some (.own, d) ∧ vs[k]? = some (.ref a) := fun k a ha => by
    simp only [fp] at ha
    split at ha
    · rename_i s d v e1 e2
      cases s with
      | fz => cases ha
      | own =>
        cases v with
        | ref b =>
          have : a = b := by simpa [fpOf, adr] using ha
          subst this
          exact ⟨d, e1, e2⟩
        | _ => cases ha
    · cases ha
  refine ⟨gh, ⟨fp, fun k s d e => ?_, fun i j a hi hj => ?_, fun k a ha => ?_⟩, fun a h => (by cases h), fun a o e _ => e, Same.refl _, fun a o e => .inl e, ?_, fun a ha => ?_, fun p hp => ?_⟩
  · have e1 := slot_start e
    obtain ⟨v, hv, hr⟩ := A.rep k s d e1
    have ef : fp k = fpOf s v := by simp only [fp, e1, hv]
    exact ⟨v, start_at hv, by rw [ef]; exact hr⟩
  · obtain ⟨d, e1, e2⟩ := fpm i a hi
    obtain ⟨d', e1', e2'⟩ := fpm j a hj
    exact A.inj i j d d' a e1 e1' e2 e2'
  · obtain ⟨d, e1, e2⟩ := fpm k a ha
    obtain ⟨g1, g2⟩ := A.fre k d a e1 e2
    obtain ⟨v, hv, hr⟩ := A.rep k _ d e1
    rw [e2] at hv
    cases hv
    exact ⟨g1, by simp, .inl g2, hr.dom a (by simp [fpOf, adr])⟩
  · unfold L2.start startE
    rw [List.length_append, List.length_append, List.length_map, List.length_map, List.length_replicate, List.length_replicate, A.len]
  · obtain ⟨k, d, e1, e2⟩ := A.all a ha
    obtain ⟨v, hv, hr⟩ := A.rep k _ d e1
    rw [e2] at hv
    cases hv
    exact hr.dom a (by simp [fpOf, adr])
  · obtain ⟨d, e1, e2⟩ := mem_pins.mp hp
    exact start_at e2
theorem aft_of {G' H' : Hp} {σ' : St} {Γ' : Env} {T : List Addr} {ms : List (Option SD)} (f : Fr c ⟨G, H, F, pinsOf as vs⟩ G' H' σ' Γ' T) (hm : muts as Γ' = some ms) : Aft c G H F G' H' as vs ms T := by
  refine ⟨f.gh, fun a o e h => f.keep a o e h, f.grow, fun a o e => f.new a o e, fun a ha => f.tm a ha, f.lent, fun k d d' v e1 e2 e3 => ?_⟩
  have es := muts_at hm k d d' e1 e2
  obtain ⟨fp, h1, h2, h3⟩ := f.sl
  obtain ⟨v', hv', hr⟩ := h1 k _ _ es
  have hp := f.pin (k, v) (mem_pins.mpr ⟨d, e1, e3⟩)
  have hp : σ'[k]? = some (some v) := hp
  rw [hp] at hv'
  cases hv'
  obtain ⟨a, ea, eT, hr'⟩ := id hr
  obtain ⟨g1, g2, _⟩ := h3 k a (by rw [eT]; simp)
  exact ⟨a, ea, by rw [← eT]; exact hr, g1, g2⟩
end

/-- a def keeps its promise, one step deeper -/
theorem fn_ok {P : Program} {w : World} {K : PySem.W.Frag} {mg : Str → Option Value} {base : Heap} {T : Table} {wf m f : Nat} {d : Fn} {N ps : List Str} {fns : List (Str × Nat)} {globs : List (Str × D)} {cls : String → Addr}
    {x qual : Str} {params : Arguments} {body : List Stmt} {scope : Scope} {kws : List (Str × V)} {a : Addr} {fd : FuncData} (hT : T[f]? = some d) (F : FunD K x qual params body scope [] kws a fd) (S : FnScope N ps scope) (hN : d.slots = N.length) (hp : d.par = ps.length)
    (st : Stat P w K mg base fns globs cls (run T wf m) m) (hc : chkSs ⟨N, d.mt, fns, globs⟩ scope d.body body = true) : FnOk P w K mg base (L2.CX P w) (m + 1) a fd ps (spF ⟨P, w, K, cls⟩ (run T wf (m + 1)) f) := by
  have er : ∀ as, run T wf (m + 1) f as = run1 (run T wf m) wf d as := fun as => by simp only [run, hT]
  have r1 : ∀ as, ((decide (as.length = d.par) && shOk d.mt 0 as) = true ∧ run1 (run T wf m) wf d as = (match exs (run T wf m) wf d.body (startE d.slots as) with
      | .nx Γ => (match muts as Γ with
        | some ms => CR.ok (.fz, .non) ms
        | none => .bad)
      | .rt r Γ => (match muts as Γ with
        | some ms => .ok r ms
        | none => .bad)
      | .ex k Γ => (match muts as Γ with
        | some ms => .ex k ms
        | none => .bad)
      | _ => .bad)) ∨ run1 (run T wf m) wf d as = .bad := fun as => by
    by_cases hl : (decide (as.length = d.par) && shOk d.mt 0 as) = true
    · exact .inl ⟨hl, by unfold run1; rw [if_pos hl] <;> rfl⟩
    · exact .inr (by unfold run1; rw [if_neg hl])
  have hpl : ps.length ≤ N.length := by have := congrArg List.length S.pre; rw [List.length_take] at this; omega
  refine F.ok S (fun vs H Q E h => ?_) fun cdv A outer s H vs Q E hr h => ?_
  · obtain ⟨G, as, Fl, gh, ar, h⟩ := h
    rw [er] at h
    rcases r1 as with ⟨hl, _⟩ | hb
    · rw [Bool.and_eq_true] at hl
      have : as.length = d.par := by simpa using hl.1
      rw [ar.len, this, hp]
    · rw [hb] at h; exact h.elim
  · obtain ⟨G, as, Fl, gh, ar, h⟩ := h
    rw [er] at h
    rcases r1 as with ⟨hl, hr1⟩ | hb
    · rw [hr1] at h
      rw [Bool.and_eq_true] at hl
      have hal : as.length = d.par := by simpa using hl.1
      let c : Cn := ⟨P, w, K, cls⟩
      let n : En := ⟨G, H, Fl, pinsOf as vs⟩
      let w' : WP := fun k Γ' => ∃ ms, muts as Γ' = some ms ∧ ∀ G' H', Aft c G H Fl G' H' as vs ms [] → E (.ref (cls k)) none H'
      have fr : Fr c n G H (L2.start N vs) (startE N.length as) [] := fr_start gh ar (by omega)
      have tk : Takes (cxOf (L2.CX P w) P w K mg base N qual scope a cdv A outer s H E) (Wx c n w') :=
        (takes_of (X := cxOf (L2.CX P w) P w K mg base N qual scope a cdv A outer s H E) rfl rfl rfl rfl).imp fun cl dd σ' H' ⟨k, G', Γ', e1, e2, f', ms, hm, q⟩ => by
          subst e1 e2
          exact q G' H' (aft_of f' hm)
      have gd : GoodS (cxOf (L2.CX P w) P w K mg base N qual scope a cdv A outer s H E) ⟨N, d.mt, fns, globs⟩ cls (run T wf m) m n w' :=
        ⟨⟨st, hr, rfl, S.nd, rfl, fun _ _ => rfl, tk, fun p hpp => by
          obtain ⟨dd, e1, _⟩ := mem_pins.mp hpp
          have := shOk_at hl.2 p.1 dd e1
          rw [Nat.zero_add] at this
          exact this⟩, passes_of rfl, rfl, rfl, rfl, S.kind⟩
      refine ⟨_, sndSs (wf := wf) d.body gd body hc, G, startE N.length as, fr, ?_⟩
      rw [hN] at h
      cases er2 : exs (run T wf m) wf d.body (startE N.length as) with
      | nx Γ' =>
        rw [er2] at h
        simp only at h
        intro σ' G' H' s' f'
        cases em : muts as Γ' with
        | none => rw [em] at h; exact h.elim
        | some ms => rw [em] at h; exact h .non G' H' [] (aft_of f' em) ⟨rfl, rfl⟩
      | rt x Γ' =>
        rw [er2] at h
        simp only at h
        intro v σ' G' H' T' s' f' r'
        cases em : muts as Γ' with
        | none => rw [em] at h; exact h.elim
        | some ms => rw [em] at h; exact h v G' H' T' (aft_of f' em) r'
      | ex k Γ' =>
        rw [er2] at h
        simp only at h
        cases em : muts as Γ' with
        | none => rw [em] at h; exact h.elim
        | some ms => rw [em] at h; exact ⟨ms, em, h⟩
      | bk Γ' => rw [er2] at h; exact h.elim
      | ct Γ' => rw [er2] at h; exact h.elim
      | bad => rw [er2] at h; exact h.elim
    · rw [hb] at h; exact h.elim
theorem fn_zero {P : Program} {w : World} {K : PySem.W.Frag} {mg : Str → Option Value} {base : Heap} {T : Table} {wf f : Nat} {ps : List Str} {cls : String → Addr} {a : Addr} {fd : FuncData} : FnOk P w K mg base (L2.CX P w) 0 a fd ps (spF ⟨P, w, K, cls⟩ (run T wf 0) f) :=
  ⟨fun vs H Q E ⟨_, _, _, _, _, h⟩ => h.elim, fun A outer s H args us vs Q E hr he hb hv ⟨_, _, _, _, _, h⟩ => h.elim⟩
end Rl
set_option Elab.async false
set_option linter.all false
set_option maxRecDepth 100000
set_option autoImplicit false
/-! Roundlines, 11: a module. -/
namespace Rl
open PySem L2
/-- what is known of a module's objects -/
structure ModOk (P : Program) (w0 : World) (K : PySem.W.Frag) (mg : Str → Option Value) (fns : List (Str × Nat)) (globs : List (Str × D)) (cls : String → Addr) (T : Table) : Prop where
  blt : ∀ x ∈ bnames, mg (Str.ofString x) = none
  glo : ∀ (i : Nat) x d, globs[i]? = some (x, d) → ∃ v u, mg x = some u ∧ RelV v u ∧ ∀ G, Rep ⟨P, w0, K, cls⟩ G d v
  fn : ∀ (f : Nat) x k, fns[f]? = some (x, k) → ∃ (d : Fn) (N ps : List Str) (a : Addr) (fd : FuncData) (params : Arguments) (body : List Stmt) (scope : Scope), T[f]? = some d ∧ FunD K x x params body scope [] [] a fd ∧ FnScope N ps scope ∧ d.slots = N.length ∧ d.par = ps.length ∧
    chkSs ⟨N, d.mt, fns, globs⟩ scope d.body body = true ∧ mg x = some (.ref a) ∧ Binds K fd ps []
  err : ∀ k ∈ errs, mg (Str.ofString k) = some (.ref (cls k)) ∧ PySem.W.excIn K (cls k) [.type "ValueError", .type "Exception", .type "BaseException", .type "object"] "ValueError.__new__" = true ∧ PySem.W.keepIn K (.ref (cls k)) = true ∧
    PySem.W.subIn K (.ref (cls k)) (.type "BaseException") = some true ∧ PySem.W.typeIn K (.ref (cls k)) = some (.type "type") ∧ ExcC K (cls k)
  kit : ∀ k ∈ errs, (∀ t ∈ errs, PySem.W.kitOne K (.ref (cls k)) (.ref (cls t)) = some (decide (k = t))) ∧ PySem.W.kitOne K (.ref (cls k)) (.type "ValueError") = some true
  lin : ∃ cv, mg (Str.ofString "LineError") = some cv ∧ ∀ k ∈ errs, PySem.W.exmOne K (.ref (cls k)) cv = some true
section
variable {P : Program} {w0 : World} {K : PySem.W.Frag} {mg : Str → Option Value} {fns : List (Str × Nat)} {globs : List (Str × D)} {cls : String → Addr} {T : Table}
theorem stat_all (M : ModOk P w0 K mg fns globs cls T) (base : Heap) (wf : Nat) : ∀ m, Stat P w0 K mg base fns globs cls (run T wf m) m
  | 0 => ⟨M.blt, M.glo, fun f x k e => by
      obtain ⟨d, N, ps, a, fd, pr, bd, sc, _, h2, _, _, _, _, h7, h8⟩ := M.fn f x k e
      exact ⟨a, fd, ps, h7, h2.kp, h8, fn_zero⟩, M.err, M.kit, M.lin⟩
  | m + 1 => ⟨M.blt, M.glo, fun f x k e => by
      obtain ⟨d, N, ps, a, fd, pr, bd, sc, h1, h2, h3, h4, h5, h6, h7, h8⟩ := M.fn f x k e
      exact ⟨a, fd, ps, h7, h2.kp, h8, fn_ok h1 h2 h3 h4 h5 (stat_all M base wf m) h6⟩, M.err, M.kit, M.lin⟩
/-- the law's def, at a script -/
theorem law_sp {C : Calls} {f : Nat} {H : Hp} {a : Addr} {ns : List Int} (h : ∃ s ms, C f [(.fz, .scr ns)] = .ok (s, .bl true) ms) (hS : SqL K H a (ns.map V.int)) : spF ⟨P, w0, K, cls⟩ C f [.ref a] H (fun v _ => v = .bl true) fun _ _ _ => False := by
  obtain ⟨s, ms, e⟩ := h
  refine ⟨H, [(.fz, .scr ns)], [], Same.refl _, ⟨rfl, fun k s d e => ?_, fun k k' d d' a e => ?_, fun k d a e => ?_, fun a ha => by cases ha⟩, ?_⟩
  · cases k with
    | zero => cases e; exact ⟨.ref a, rfl, rfl, a, rfl, hS⟩
    | succ k => simp at e
  · cases k with
    | zero => cases e
    | succ k => simp at e
  · cases k with
    | zero => cases e
    | succ k => simp at e
  · rw [e]
    intro v G' H' T A r
    exact (repS_bl r).1
end
end Rl
set_option Elab.async false
set_option linter.all false
set_option maxRecDepth 100000
set_option autoImplicit false
/-! Roundlines, 12b: what the head tells of the module's objects. -/
namespace Rl
open PySem L2 He
section
variable {P : Program} {w0 : World} {K : PySem.W.Frag} {cls : String → Addr}
mutual
theorem repB_ok : ∀ {d : D} {u : Value}, repB K d u = true → ∃ v, RelV v u ∧ ∀ G, Rep ⟨P, w0, K, cls⟩ G d v
  | .non, u, h => by
    simp only [repB] at h
    split at h
    · exact ⟨.non, rfl, fun _ => rfl⟩
    · cases h
  | .bl b, u, h => by
    simp only [repB] at h
    split at h
    · rename_i b'
      have e : b = b' := by simpa using h
      subst e
      exact ⟨.bl b, rfl, fun _ => rfl⟩
    · cases h
  | .int i, u, h => by
    simp only [repB] at h
    split at h
    · rename_i j t
      have e : i = j := by simpa using h
      subst e
      exact ⟨.int i, ⟨t, rfl⟩, fun _ => rfl⟩
    · cases h
  | .str x, u, h => by
    simp only [repB] at h
    split at h
    · rename_i y t
      have e : y.cps.toList = x := by simpa using h
      subst e
      exact ⟨.str y, ⟨t, rfl⟩, fun _ => by show V.str y = V.str (tS _); rw [tS_of]⟩
    · cases h
  | .tup l, u, h => by
    simp only [repB] at h
    split at h
    · rename_i a
      split at h
      · rename_i t od its n osl hk
        simp only [Bool.and_eq_true, decide_eq_true_eq] at h
        obtain ⟨⟨h1, h2⟩, h3⟩ := h
        obtain ⟨xs, rv, rp⟩ := repsB_ok h3
        refine ⟨.ref a, rfl, fun G => ⟨a, xs, rfl, .inr ⟨_, its, n, hk, congrArg Value.type h1, rfl, h2, rv⟩, rp G⟩⟩
      · cases h
    · cases h
  | .lst l, u, h => by simp [repB] at h
  | .dct a b, u, h => by simp [repB] at h
  | .exc a, u, h => by simp [repB] at h
  | .scr a, u, h => by simp [repB] at h
theorem repsB_ok : ∀ {l : List D} {us : List Value}, repsB K l us = true → ∃ xs, Vals xs us ∧ ∀ G, Reps ⟨P, w0, K, cls⟩ G l xs
  | [], us, h => by
    simp only [repsB] at h
    cases us with
    | nil => exact ⟨[], .nil, fun _ => rfl⟩
    | cons u us => cases h
  | d :: ds, us, h => by
    simp only [repsB] at h
    split at h
    · rename_i u us
      rw [Bool.and_eq_true] at h
      obtain ⟨v, r1, r2⟩ := repB_ok h.1
      obtain ⟨xs, q1, q2⟩ := repsB_ok h.2
      exact ⟨v :: xs, .cons r1 q1, fun G => ⟨v, xs, rfl, r2 G, q2 G⟩⟩
    · cases h
end
end
theorem glo_rep {P : Program} {w0 : World} {K : PySem.W.Frag} {cls : String → Addr} {h : Heap} {mg : Str → Option Value} (X : K.In h) (Gn : h.Ns mainGlobals mg) {p : Str × D} (c : gloB K p = true) (e : hashK K p = hashD w0 p)
    (hn : ∀ ks vs, p.2 = .dct ks vs → ks.Nodup) : ∃ v u, mg p.1 = some u ∧ RelV v u ∧ ∀ G, Rep ⟨P, w0, K, cls⟩ G p.2 v := by
  obtain ⟨x, d⟩ := p
  have other : (match PySem.W.nsIn K mainGlobals x with
    | some (some u) => repB K d u
    | _ => false) = true → ∃ v u, mg x = some u ∧ RelV v u ∧ ∀ G, Rep ⟨P, w0, K, cls⟩ G d v := fun c => by
    split at c
    · rename_i u hu
      obtain ⟨v, r1, r2⟩ := repB_ok (P := P) (w0 := w0) (cls := cls) c
      exact ⟨v, u, PySem.W.mg_of X Gn hu, r1, r2⟩
    · cases c
  cases d with
  | dct ks vs =>
    simp only [gloB, Bool.and_eq_true, Bool.not_eq_true'] at c
    obtain ⟨⟨c1, c2⟩, c3⟩ := c
    split at c2
    · rename_i t es ep sl hk
      simp only [Bool.and_eq_true, decide_eq_true_eq] at c2
      obtain ⟨⟨⟨⟨h1, h2⟩, h3⟩, h4⟩, h5⟩ := c2
      obtain ⟨ys, r1, r2⟩ := repsB_ok (P := P) (w0 := w0) (cls := cls) h4
      obtain ⟨xs, r3, r4⟩ := repsB_ok (P := P) (w0 := w0) (cls := cls) h5
      have eh : es.toList.map (·.hash) = ks.map fun k => (nk k).hash w0 := by
        have : hashK K (x, .dct ks vs) = es.toList.map (·.hash) := by simp only [hashK, entK, hk]
        rw [← this, e]; rfl
      refine ⟨.ref (ga K x), .ref (ga K x), glo_ok X Gn c1, rfl, fun G => ⟨ga K x, _, ys, xs, rfl, ⟨.inr hk, c3⟩, ⟨⟨congrArg Value.type h1, rfl, by simpa using h2⟩, h3, es, ep, rfl, r1, r3, eh, hn ks vs rfl⟩, r2 G, r4 G⟩⟩
    · cases c2
  | _ => exact other c

theorem excB_ok {K : PySem.W.Frag} {C : Addr} (h : excB K C = true) : ExcC K C := by
  simp only [excB, Bool.and_eq_true, decide_eq_true_eq] at h
  obtain ⟨⟨⟨⟨⟨⟨⟨h1, h2⟩, h3⟩, h4⟩, h5⟩, h6⟩, h7⟩, h8⟩ := h
  exact ⟨eqO_ok h1, eqO_ok h2, h3, h4, eqO_ok h5, eqO_ok h6, h7, h8⟩
section
variable {fa : List Fa} {fn : List DefD} {gl : List (Str × D)} {w : World} {K : PySem.W.Frag}
theorem SaysR.parts (c : SaysR fa fn gl w K) : (∀ f ∈ fa, f.ok K = true) ∧ (∀ d ∈ fn, d.ok K = true) ∧ errB K = true ∧ (∀ p ∈ gl, gloB K p = true) ∧ fn.map (fun d => fnW K d.at_) = fn.map DefD.val ∧ gl.map (hashK K) = gl.map (hashD w) := by
  have c1 : ((fa.all fun f => f.ok K) && (fn.all fun d => d.ok K) && errB K && (gl.all fun p => gloB K p)) = true := congrArg (fun z : AlR => z.1) c
  simp only [Bool.and_eq_true, List.all_eq_true] at c1
  exact ⟨c1.1.1.1, c1.1.1.2, c1.1.2, c1.2, congrArg (fun z : AlR => z.2.1) c, congrArg (fun z : AlR => z.2.2) c⟩
theorem SaysR.def_ (c : SaysR fa fn gl w K) (i : Nat) {d : DefD} (h : fn[i]? = some d) : ∃ fd, FunD K d.name d.qual d.params d.body d.scope (d.dvs K) (d.kws K) (fAd K d.at_) fd := by
  obtain ⟨_, c2, _, _, e, _⟩ := c.parts
  have e2 : (fn.map fun d => fnW K d.at_)[i]? = (fn.map DefD.val)[i]? := by rw [e]
  rw [List.getElem?_map, List.getElem?_map, h] at e2
  exact DefD.funD (Option.some.inj e2) (c2 d (List.mem_of_getElem? h))
theorem SaysR.hash (c : SaysR fa fn gl w K) (i : Nat) {p : Str × D} (h : gl[i]? = some p) : hashK K p = hashD w p := by
  obtain ⟨_, _, _, _, _, e⟩ := c.parts
  have e2 : (gl.map (hashK K))[i]? = (gl.map (hashD w))[i]? := by rw [e]
  rw [List.getElem?_map, List.getElem?_map, h] at e2
  exact Option.some.inj e2
end
end Rl
set_option Elab.async false
set_option linter.all false
set_option maxRecDepth 100000
set_option autoImplicit false
/-! Roundlines, 13: from the head's words to the module. -/
namespace Rl
open PySem L2 He

/-- a def of the row and its compact text fit -/
structure FnGood (T : Table) (fns : List (Str × Nat)) (globs : List (Str × D)) (fa : List Fa) (fn : List DefD) (f : Nat) (x : Str) (k : Nat) (d : Fn) (N ps : List Str) (dd : DefD) : Prop where
  t : T[f]? = some d
  n : fn[f]? = some dd
  a : dd.at_ = (x, none)
  nm : dd.name = x
  ql : dd.qual = x
  df : dd.dfl = []
  kw : dd.kwd = []
  gl : Fa.glo x ∈ fa
  sc : FnScope N ps dd.scope
  sl : d.slots = N.length
  pr : d.par = ps.length
  ck : chkSs ⟨N, d.mt, fns, globs⟩ dd.scope d.body dd.body = true
  bd : ∀ (kV doc pm : Value) (an : Option Addr) (cdv ct : Value) (us : List Value), us.length = ps.length → bindArgs (PySem.W.fnOf x x dd.params dd.body dd.scope .none kV doc pm an cdv ct) ⟨us, []⟩ = pure (ps.zip us)

theorem mod_of {P : Program} {w : World} {K : PySem.W.Frag} {h : Heap} {mg : Str → Option Value} {fa : List Fa} {fn : List DefD} {gl : List (Str × D)} {fns : List (Str × Nat)} {T : Table} (X : K.In h) (G : h.Ns mainGlobals mg) (c : SaysR fa fn gl w K)
    (hb : ∀ x ∈ bnames, Fa.free (Str.ofString x) ∈ fa) (hd : ∀ p ∈ gl, ∀ ks vs, p.2 = .dct ks vs → ks.Nodup)
    (hf : ∀ (f : Nat) x k, fns[f]? = some (x, k) → ∃ d N ps dd, FnGood T fns gl fa fn f x k d N ps dd) : ModOk P w K mg fns gl (clsK K) T := by
  obtain ⟨p1, p2, p3, p4, p5, p6⟩ := c.parts
  simp only [errB, Bool.and_eq_true, List.all_eq_true, decide_eq_true_eq] at p3
  obtain ⟨q1, q2⟩ := p3
  refine ⟨fun x hx => free_ok X G (p1 _ (hb x hx)), fun i x d e => ?_, fun f x k e => ?_, fun k hk => ?_, fun k hk => ?_, ?_⟩
  · have hm := List.mem_of_getElem? e
    exact glo_rep X G (p := (x, d)) (p4 _ hm) (c.hash i e) (hd _ hm)
  · obtain ⟨d, N, ps, dd, g⟩ := hf f x k e
    obtain ⟨fd, F⟩ := c.def_ f g.n
    have F : FunD K x x dd.params dd.body dd.scope [] [] (ga K x) fd := by
      have e1 : dd.dvs K = [] := by unfold DefD.dvs; rw [g.df]; rfl
      have e2 : dd.kws K = [] := by unfold DefD.kws; rw [g.kw]; rfl
      have e3 : fAd K dd.at_ = ga K x := by rw [g.a]; rfl
      rw [g.nm, g.ql, e1, e2, e3] at F
      exact F
    exact ⟨d, N, ps, ga K x, fd, dd.params, dd.body, dd.scope, g.t, F, g.sc, g.sl, g.pr, g.ck, glo_ok X G (p1 _ g.gl), F.bindsN g.bd⟩
  · obtain ⟨⟨⟨⟨⟨a1, a2⟩, a3⟩, a4⟩, a5⟩, a6⟩ := q2 k hk
    obtain ⟨b1, b2, b3, b4⟩ := exc_ok a2
    exact ⟨glo_ok X G a1, b1, b2, b3, b4, excB_ok a3⟩
  · obtain ⟨⟨⟨⟨⟨a1, a2⟩, a3⟩, a4⟩, a5⟩, a6⟩ := q2 k hk
    exact ⟨a4, a5⟩
  · exact ⟨_, glo_ok X G q1, fun k hk => (q2 k hk).2⟩
open PySem.Spec PyProof.Rows in
/-- a law's end where errors may fly within -/
theorem walk_R {L : PySem.W.OpenLaw} {most0 dep : Nat} {qq : Program} {lo : List Str} {XQ : (Str → Option Value) → Heap → Prop} {YQ : World → Heap → Prop} {dr : DefRec} {nm : Str}
    (h1 : L.most = some most0) (h2 : most0 ≤ sizeLine) (h3 : dr.params.defaults = []) (h4 : Room dep callerA)
    (h5 : ∀ (w : World) (mg : Str → Option Value) (at_ : Addr) (h : Heap), YQ w h → h.Ns mainGlobals mg → mg dr.name = some (.ref at_) → ∃ (K : PySem.W.Frag) (fd : FuncData) (pr : Sp), K.In h ∧
      (∀ (s : Shared) (u : Value), BindsTo s fd ⟨[u], []⟩ [(nm, u)]) ∧ (∀ (H : Hp) (a : Addr) (ns : List Int), ns.length ≤ most0 → SqL K H a (ns.map V.int) → pr [.ref a] H (fun v _ => v = .bl true) fun _ _ _ => False) ∧
      ∀ base : Heap, K.In base → base.Ns mainGlobals mg → FnOk L.prog w K mg base (L2.CX L.prog w) dep at_ fd [nm] pr) :
    PySem.W.WalkO qq lo XQ YQ L.row.toRowW dr [] (fun f vs => PySem.call f vs) := by
  refine Att.attach_call h1 h3 fun w _ s1 mg _ at_ _ _ _ _ a _ ns G Y _ _ _ hm ho hi hlen hg => ?_
  obtain ⟨K, fd, pr, KX, b1, b2, b3⟩ := h5 w mg at_ _ Y G.T.g hm
  refine law_call KX G.T.g G.T.b G.T.builtins G.T.nolimit hg ho hi (Nat.le_trans hlen h2) h4 b3 b1 (fun H _ hS => b2 H a ns hlen hS) fun H e s' c => ?_
  obtain ⟨_, _, _, _, _, _, _, _, _, _, _, _, z⟩ := c
  exact z
end Rl
set_option maxRecDepth 100000
namespace Rl
def i_is_whole : Nat := 0
def i_is_name : Nat := 1
def i_is_size : Nat := 2
def i_is_box : Nat := 3
def i_are_off : Nat := 4
def i_look_board : Nat := 5
def i_is_in : Nat := 6
def i_is_free : Nat := 7
def i_free : Nat := 8
def i_free_places : Nat := 9
def i_is_port : Nat := 10
def i_look_port : Nat := 11
def i_step : Nat := 12
def i_foot_of : Nat := 13
def i_look_foot : Nat := 14
def i_look_pair : Nat := 15
def i_foot : Nat := 16
def i_ports : Nat := 17
def i_look_ends : Nat := 18
def i_open_steps : Nat := 19
def i_end_cost : Nat := 20
def i_to_go : Nat := 21
def i_put_behind : Nat := 22
def i_costs : Nat := 23
def i_walk : Nat := 24
def i_corners : Nat := 25
def i_best : Nat := 26
def i_least : Nat := 27
def i_line : Nat := 28
def i_is_point : Nat := 29
def i_heading_of : Nat := 30
def i_headings_in : Nat := 31
def i_places : Nat := 32
def i_is_led : Nat := 33
def i_is_line : Nat := 34
def i_worth : Nat := 35
def i_look_lines : Nat := 36
def i_through : Nat := 37
def i_look_wires : Nat := 38
def i_laid : Nat := 39
def i_barred : Nat := 40
def i_may_step : Nat := 41
def i_left_steps : Nat := 42
def i_apart : Nat := 43
def i_are_apart : Nat := 44
def i_may_both : Nat := 45
def i_is_cross : Nat := 46
def i_paper : Nat := 47
def i_is_worth : Nat := 48
def i_are_states : Nat := 49
def i_is_sound : Nat := 50
def i_shows : Nat := 51
def i_picture : Nat := 52
def i_law_cell : Nat := 53
def i_law_mix : Nat := 54
def i_law_draw : Nat := 55
def i_law_pick : Nat := 56
def i_law_refusal : Nat := 57
def i_law_box : Nat := 58
def i_law_off : Nat := 59
def i_law_board : Nat := 60
def i_law_is_free : Nat := 61
def i_law_foot : Nat := 62
def i_law_all_ports : Nat := 63
def i_law_ports : Nat := 64
def i_law_one : Nat := 65
def i_law_told : Nat := 66
def i_law_bad_board : Nat := 67
def i_law_bad_port : Nat := 68
def i_law_ends : Nat := 69
def i_law_sides : Nat := 70
def i_law : Nat := 71
def f_is_whole : Fn := ⟨3, 3, [], (.cons (.ret (.band (.prim (.isi "int") (.cons (.v 0) .nil)) (.band (.bnot (.prim (.isi "bool") (.cons (.v 0) .nil))) (.chain .le .le (.v 1) (.v 0) (.v 2))))) .nil)⟩
def f_is_name : Fn := ⟨1, 2, [], (.cons (.ret (.band (.prim (.isi "str") (.cons (.v 0) .nil)) (.band (.chain .le .le (.e (.cst (.int 1))) (.e (.prim .len (.cons (.v 0) .nil))) (.e (.glo 3 (.int 8)))) (.prim .all (.cons (.e (.comp [1] (.one 1) (.seq (.var 0)) .yes (.prim .inn (.cons (.v 1) (.cons (.e (.glo 0 (.str [97, 98, 99, 100, 101, 102, 103, 104, 105, 106, 107, 108, 109, 110, 111, 112, 113, 114, 115, 116, 117, 118, 119, 120, 121, 122]))) .nil))))) .nil))))) .nil)⟩
def f_is_size : Fn := ⟨1, 2, [], (.cons (.ret (.band (.prim (.isi "tuple") (.cons (.v 0) .nil)) (.band (.prim .eq (.cons (.e (.prim .len (.cons (.v 0) .nil))) (.cons (.e (.cst (.int 2))) .nil))) (.prim .all (.cons (.e (.comp [1] (.one 1) (.seq (.var 0)) .yes (.call i_is_whole (.cons (.e (.var 1)) (.cons (.e (.cst (.int 1))) (.cons (.e (.glo 1 (.int 12))) .nil)))))) .nil))))) .nil)⟩
def f_is_box : Fn := ⟨2, 3, [], (.cons (.ifs (.or (.not (.tr (.e (.prim (.isi "tuple") (.cons (.v 1) .nil))))) (.cmp .ne (.e (.prim .len (.cons (.v 1) .nil))) (.e (.cst (.int 4))))) (.cons (.ret (.cst (.bl false))) .nil) .nil) (.cons (.ifs (.not (.tr (.e (.prim .all (.cons (.e (.comp [2] (.one 2) (.rng (.cst (.int 4))) .yes (.call i_is_whole (.cons (.e (.prim .idx (.cons (.v 1) (.cons (.v 2) .nil)))) (.cons (.e (.cst (.int 0))) (.cons (.e (.prim .sub (.cons (.e (.prim .idx (.cons (.v 0) (.cons (.e (.prim .mod (.cons (.v 2) (.cons (.e (.cst (.int 2))) .nil)))) .nil)))) (.cons (.e (.cst (.int 1))) .nil)))) .nil)))))) .nil))))) (.cons (.ret (.cst (.bl false))) .nil) .nil) (.cons (.ret (.band (.prim .le (.cons (.e (.prim .idx (.cons (.v 1) (.cons (.e (.cst (.int 0))) .nil)))) (.cons (.e (.prim .idx (.cons (.v 1) (.cons (.e (.cst (.int 2))) .nil)))) .nil))) (.prim .le (.cons (.e (.prim .idx (.cons (.v 1) (.cons (.e (.cst (.int 1))) .nil)))) (.cons (.e (.prim .idx (.cons (.v 1) (.cons (.e (.cst (.int 3))) .nil)))) .nil))))) .nil)))⟩
def f_are_off : Fn := ⟨2, 2, [], (.cons (.ret (.bor (.prim .lt (.cons (.e (.prim .idx (.cons (.v 0) (.cons (.e (.cst (.int 2))) .nil)))) (.cons (.e (.prim .idx (.cons (.v 1) (.cons (.e (.cst (.int 0))) .nil)))) .nil))) (.bor (.prim .lt (.cons (.e (.prim .idx (.cons (.v 1) (.cons (.e (.cst (.int 2))) .nil)))) (.cons (.e (.prim .idx (.cons (.v 0) (.cons (.e (.cst (.int 0))) .nil)))) .nil))) (.bor (.prim .lt (.cons (.e (.prim .idx (.cons (.v 0) (.cons (.e (.cst (.int 3))) .nil)))) (.cons (.e (.prim .idx (.cons (.v 1) (.cons (.e (.cst (.int 1))) .nil)))) .nil))) (.prim .lt (.cons (.e (.prim .idx (.cons (.v 1) (.cons (.e (.cst (.int 3))) .nil)))) (.cons (.e (.prim .idx (.cons (.v 0) (.cons (.e (.cst (.int 1))) .nil)))) .nil))))))) .nil)⟩
def f_look_board : Fn := ⟨1, 6, [], (.cons (.ifs (.or (.not (.tr (.e (.prim (.isi "tuple") (.cons (.v 0) .nil))))) (.or (.cmp .ne (.e (.prim .len (.cons (.v 0) .nil))) (.e (.cst (.int 2)))) (.not (.tr (.e (.call i_is_size (.cons (.e (.prim .idx (.cons (.v 0) (.cons (.e (.cst (.int 0))) .nil)))) .nil))))))) (.cons (.rai "BadBoard") .nil) .nil) (.cons (.asg 1 (.prim .idx (.cons (.v 0) (.cons (.e (.cst (.int 1))) .nil)))) (.cons (.ifs (.or (.not (.tr (.e (.prim (.isi "dict") (.cons (.v 1) .nil))))) (.or (.cmp .gt (.e (.prim .len (.cons (.v 1) .nil))) (.e (.glo 2 (.int 6)))) (.not (.tr (.e (.prim .all (.cons (.e (.comp [4] (.one 4) (.keys (.var 1)) .yes (.call i_is_name (.cons (.e (.var 4)) .nil)))) .nil))))))) (.cons (.rai "BadBoard") .nil) .nil) (.cons (.ifs (.not (.tr (.e (.prim .all (.cons (.e (.comp [4] (.one 4) (.keys (.var 1)) .yes (.call i_is_box (.cons (.e (.prim .idx (.cons (.v 0) (.cons (.e (.cst (.int 0))) .nil)))) (.cons (.e (.prim .idx (.cons (.v 1) (.cons (.v 4) .nil)))) .nil))))) .nil))))) (.cons (.rai "BadBoard") .nil) .nil) (.cons (.asg 2 (.prim .sortedKeys (.cons (.v 1) .nil))) (.cons (.for_ (.one 3) (.rng (.prim .len (.cons (.v 2) .nil))) (.cons (.ifs (.not (.tr (.e (.prim .all (.cons (.e (.comp [5] (.one 5) (.seq (.slc (.v 2) (.cst .non) (.var 3))) .yes (.call i_are_off (.cons (.e (.prim .idx (.cons (.v 1) (.cons (.e (.prim .idx (.cons (.v 2) (.cons (.v 3) .nil)))) .nil)))) (.cons (.e (.prim .idx (.cons (.v 1) (.cons (.v 5) .nil)))) .nil))))) .nil))))) (.cons (.rai "BadBoard") .nil) .nil) .nil)) .nil))))))⟩
def f_is_in : Fn := ⟨2, 2, [], (.cons (.ret (.band (.chain .le .le (.e (.prim .idx (.cons (.v 0) (.cons (.e (.cst (.int 0))) .nil)))) (.e (.prim .idx (.cons (.v 1) (.cons (.e (.cst (.int 0))) .nil)))) (.e (.prim .idx (.cons (.v 0) (.cons (.e (.cst (.int 2))) .nil))))) (.chain .le .le (.e (.prim .idx (.cons (.v 0) (.cons (.e (.cst (.int 1))) .nil)))) (.e (.prim .idx (.cons (.v 1) (.cons (.e (.cst (.int 1))) .nil)))) (.e (.prim .idx (.cons (.v 0) (.cons (.e (.cst (.int 3))) .nil))))))) .nil)⟩
def f_is_free : Fn := ⟨2, 5, [], (.cons (.unp [2, 3] (.prim .idx (.cons (.v 0) (.cons (.e (.cst (.int 0))) .nil)))) (.cons (.ifs (.or (.not (.chn .le .lt (.e (.cst (.int 0))) (.e (.prim .idx (.cons (.v 1) (.cons (.e (.cst (.int 0))) .nil)))) (.v 2))) (.not (.chn .le .lt (.e (.cst (.int 0))) (.e (.prim .idx (.cons (.v 1) (.cons (.e (.cst (.int 1))) .nil)))) (.v 3)))) (.cons (.ret (.cst (.bl false))) .nil) .nil) (.cons (.ret (.bnot (.prim .any (.cons (.e (.comp [4] (.one 4) (.vals (.prim .idx (.cons (.v 0) (.cons (.e (.cst (.int 1))) .nil)))) .yes (.call i_is_in (.cons (.e (.var 4)) (.cons (.e (.var 1)) .nil))))) .nil)))) .nil)))⟩
def f_free : Fn := ⟨1, 1, [], (.cons (.exp (.call i_look_board (.cons (.e (.var 0)) .nil))) (.cons (.ret (.call i_free_places (.cons (.e (.var 0)) .nil))) .nil))⟩
def f_free_places : Fn := ⟨1, 4, [], (.cons (.asg 1 (.lst .nil)) (.cons (.for_ (.one 2) (.rng (.prim .idx (.cons (.e (.prim .idx (.cons (.v 0) (.cons (.e (.cst (.int 0))) .nil)))) (.cons (.e (.cst (.int 1))) .nil)))) (.cons (.ext 1 (.comp [3] (.one 3) (.rng (.prim .idx (.cons (.e (.prim .idx (.cons (.v 0) (.cons (.e (.cst (.int 0))) .nil)))) (.cons (.e (.cst (.int 0))) .nil)))) (.tr (.e (.call i_is_free (.cons (.e (.var 0)) (.cons (.e (.tup (.cons (.var 3) (.cons (.var 2) .nil)))) .nil))))) (.tup (.cons (.var 3) (.cons (.var 2) .nil))))) .nil)) (.cons (.ret (.mov 1)) .nil)))⟩
def f_is_port : Fn := ⟨2, 4, [], (.cons (.ifs (.or (.not (.tr (.e (.prim (.isi "tuple") (.cons (.v 1) .nil))))) (.or (.cmp .ne (.e (.prim .len (.cons (.v 1) .nil))) (.e (.cst (.int 3)))) (.or (.not (.tr (.e (.call i_is_name (.cons (.e (.prim .idx (.cons (.v 1) (.cons (.e (.cst (.int 0))) .nil)))) .nil))))) (.cmp .nin (.e (.prim .idx (.cons (.v 1) (.cons (.e (.cst (.int 0))) .nil)))) (.e (.prim .idx (.cons (.v 0) (.cons (.e (.cst (.int 1))) .nil)))))))) (.cons (.ret (.cst (.bl false))) .nil) .nil) (.cons (.ifs (.or (.not (.tr (.e (.prim (.isi "str") (.cons (.e (.prim .idx (.cons (.v 1) (.cons (.e (.cst (.int 1))) .nil)))) .nil))))) (.cmp .nin (.e (.prim .idx (.cons (.v 1) (.cons (.e (.cst (.int 1))) .nil)))) (.e (.glo 5 (.dct [.str [110], .str [101], .str [115], .str [119]] [.tup [.int 0, .int 1], .tup [.int 1, .int 0], .tup [.int 0, .int (-1)], .tup [.int (-1), .int 0]]))))) (.cons (.ret (.cst (.bl false))) .nil) .nil) (.cons (.asg 2 (.prim .idx (.cons (.e (.prim .idx (.cons (.v 0) (.cons (.e (.cst (.int 1))) .nil)))) (.cons (.e (.prim .idx (.cons (.v 1) (.cons (.e (.cst (.int 0))) .nil)))) .nil)))) (.cons (.asg 3 (.ite (.cmp .inn (.e (.prim .idx (.cons (.v 1) (.cons (.e (.cst (.int 1))) .nil)))) (.e (.tup (.cons (.cst (.str [110])) (.cons (.cst (.str [115])) .nil))))) (.prim .sub (.cons (.e (.prim .idx (.cons (.v 2) (.cons (.e (.cst (.int 2))) .nil)))) (.cons (.e (.prim .idx (.cons (.v 2) (.cons (.e (.cst (.int 0))) .nil)))) .nil))) (.prim .sub (.cons (.e (.prim .idx (.cons (.v 2) (.cons (.e (.cst (.int 3))) .nil)))) (.cons (.e (.prim .idx (.cons (.v 2) (.cons (.e (.cst (.int 1))) .nil)))) .nil))))) (.cons (.ret (.call i_is_whole (.cons (.e (.prim .idx (.cons (.v 1) (.cons (.e (.cst (.int 2))) .nil)))) (.cons (.e (.cst (.int 0))) (.cons (.e (.var 3)) .nil))))) .nil)))))⟩
def f_look_port : Fn := ⟨2, 2, [], (.cons (.ifs (.not (.tr (.e (.call i_is_port (.cons (.e (.var 0)) (.cons (.e (.var 1)) .nil)))))) (.cons (.rai "BadPort") .nil) .nil) .nil)⟩
def f_step : Fn := ⟨2, 2, [], (.cons (.ret (.tup (.cons (.prim .add (.cons (.e (.prim .idx (.cons (.v 0) (.cons (.e (.cst (.int 0))) .nil)))) (.cons (.e (.prim .idx (.cons (.e (.prim .idx (.cons (.e (.glo 5 (.dct [.str [110], .str [101], .str [115], .str [119]] [.tup [.int 0, .int 1], .tup [.int 1, .int 0], .tup [.int 0, .int (-1)], .tup [.int (-1), .int 0]]))) (.cons (.v 1) .nil)))) (.cons (.e (.cst (.int 0))) .nil)))) .nil))) (.cons (.prim .add (.cons (.e (.prim .idx (.cons (.v 0) (.cons (.e (.cst (.int 1))) .nil)))) (.cons (.e (.prim .idx (.cons (.e (.prim .idx (.cons (.e (.glo 5 (.dct [.str [110], .str [101], .str [115], .str [119]] [.tup [.int 0, .int 1], .tup [.int 1, .int 0], .tup [.int 0, .int (-1)], .tup [.int (-1), .int 0]]))) (.cons (.v 1) .nil)))) (.cons (.e (.cst (.int 1))) .nil)))) .nil))) .nil)))) .nil)⟩
def f_foot_of : Fn := ⟨2, 4, [], (.cons (.asg 2 (.prim .idx (.cons (.e (.prim .idx (.cons (.v 0) (.cons (.e (.cst (.int 1))) .nil)))) (.cons (.e (.prim .idx (.cons (.v 1) (.cons (.e (.cst (.int 0))) .nil)))) .nil)))) (.cons (.asg 3 (.dct (.cons (.cst (.str [110])) (.cons (.tup (.cons (.prim .add (.cons (.e (.prim .idx (.cons (.v 2) (.cons (.e (.cst (.int 0))) .nil)))) (.cons (.e (.prim .idx (.cons (.v 1) (.cons (.e (.cst (.int 2))) .nil)))) .nil))) (.cons (.prim .idx (.cons (.v 2) (.cons (.e (.cst (.int 3))) .nil))) .nil))) (.cons (.cst (.str [101])) (.cons (.tup (.cons (.prim .idx (.cons (.v 2) (.cons (.e (.cst (.int 2))) .nil))) (.cons (.prim .add (.cons (.e (.prim .idx (.cons (.v 2) (.cons (.e (.cst (.int 1))) .nil)))) (.cons (.e (.prim .idx (.cons (.v 1) (.cons (.e (.cst (.int 2))) .nil)))) .nil))) .nil))) .nil)))))) (.cons (.put 3 (.cst (.str [115])) (.tup (.cons (.prim .add (.cons (.e (.prim .idx (.cons (.v 2) (.cons (.e (.cst (.int 0))) .nil)))) (.cons (.e (.prim .idx (.cons (.v 1) (.cons (.e (.cst (.int 2))) .nil)))) .nil))) (.cons (.prim .idx (.cons (.v 2) (.cons (.e (.cst (.int 1))) .nil))) .nil)))) (.cons (.put 3 (.cst (.str [119])) (.tup (.cons (.prim .idx (.cons (.v 2) (.cons (.e (.cst (.int 0))) .nil))) (.cons (.prim .add (.cons (.e (.prim .idx (.cons (.v 2) (.cons (.e (.cst (.int 1))) .nil)))) (.cons (.e (.prim .idx (.cons (.v 1) (.cons (.e (.cst (.int 2))) .nil)))) .nil))) .nil)))) (.cons (.ret (.call i_step (.cons (.e (.prim .idx (.cons (.v 3) (.cons (.e (.prim .idx (.cons (.v 1) (.cons (.e (.cst (.int 1))) .nil)))) .nil)))) (.cons (.e (.prim .idx (.cons (.v 1) (.cons (.e (.cst (.int 1))) .nil)))) .nil)))) .nil)))))⟩
def f_look_foot : Fn := ⟨2, 2, [], (.cons (.exp (.call i_look_port (.cons (.e (.var 0)) (.cons (.e (.var 1)) .nil)))) (.cons (.ifs (.not (.tr (.e (.call i_is_free (.cons (.e (.var 0)) (.cons (.e (.call i_foot_of (.cons (.e (.var 0)) (.cons (.e (.var 1)) .nil)))) .nil)))))) (.cons (.rai "NoFoot") .nil) .nil) .nil))⟩
def f_look_pair : Fn := ⟨3, 3, [], (.cons (.exp (.call i_look_foot (.cons (.e (.var 0)) (.cons (.e (.var 1)) .nil)))) (.cons (.exp (.call i_look_foot (.cons (.e (.var 0)) (.cons (.e (.var 2)) .nil)))) (.cons (.ifs (.cmp .eq (.v 1) (.v 2)) (.cons (.rai "BadPort") .nil) .nil) .nil)))⟩
def f_foot : Fn := ⟨2, 2, [], (.cons (.exp (.call i_look_board (.cons (.e (.var 0)) .nil))) (.cons (.exp (.call i_look_foot (.cons (.e (.var 0)) (.cons (.e (.var 1)) .nil)))) (.cons (.ret (.call i_foot_of (.cons (.e (.var 0)) (.cons (.e (.var 1)) .nil)))) .nil)))⟩
def f_ports : Fn := ⟨2, 6, [], (.cons (.exp (.call i_look_board (.cons (.e (.var 0)) .nil))) (.cons (.ifs (.or (.not (.tr (.e (.call i_is_name (.cons (.e (.var 1)) .nil))))) (.cmp .nin (.v 1) (.e (.prim .idx (.cons (.v 0) (.cons (.e (.cst (.int 1))) .nil)))))) (.cons (.rai "BadPort") .nil) .nil) (.cons (.asg 2 (.lst .nil)) (.cons (.for_ (.one 3) (.seq (.glo 4 (.str [110, 101, 115, 119]))) (.cons (.for_ (.one 4) (.rng (.glo 1 (.int 12))) (.cons (.asg 5 (.tup (.cons (.var 1) (.cons (.var 3) (.cons (.var 4) .nil))))) (.cons (.ifs (.and (.tr (.e (.call i_is_port (.cons (.e (.var 0)) (.cons (.e (.var 5)) .nil))))) (.tr (.e (.call i_is_free (.cons (.e (.var 0)) (.cons (.e (.call i_foot_of (.cons (.e (.var 0)) (.cons (.e (.var 5)) .nil)))) .nil)))))) (.cons (.app 2 (.var 5)) .nil) .nil) .nil))) .nil)) (.cons (.ret (.mov 2)) .nil)))))⟩
def f_look_ends : Fn := ⟨3, 3, [], (.cons (.exp (.call i_look_board (.cons (.e (.var 0)) .nil))) (.cons (.exp (.call i_look_pair (.cons (.e (.var 0)) (.cons (.e (.var 1)) (.cons (.e (.var 2)) .nil))))) .nil))⟩
def f_open_steps : Fn := ⟨1, 5, [], (.cons (.asg 1 (.prim .dictP (.cons (.e (.comp [3] (.one 3) (.seq (.call i_free_places (.cons (.e (.var 0)) .nil))) .yes (.tup (.cons (.var 3) (.cons (.cst (.bl true)) .nil))))) .nil))) (.cons (.asg 2 (.dct .nil)) (.cons (.for_ (.one 3) (.keys (.var 1)) (.cons (.put 2 (.var 3) (.comp [4] (.one 4) (.seq (.glo 4 (.str [110, 101, 115, 119]))) (.cmp .inn (.e (.call i_step (.cons (.e (.var 3)) (.cons (.e (.var 4)) .nil)))) (.v 1)) (.var 4))) .nil)) (.cons (.ret (.mov 2)) .nil))))⟩
def f_end_cost : Fn := ⟨2, 2, [], (.cons (.ifs (.cmp .eq (.v 0) (.e (.prim .idx (.cons (.e (.glo 6 (.dct [.str [110], .str [101], .str [115], .str [119]] [.str [115], .str [119], .str [110], .str [101]]))) (.cons (.v 1) .nil))))) (.cons (.ret (.cst (.non))) .nil) .nil) (.cons (.ret (.ite (.cmp .eq (.v 0) (.v 1)) (.cst (.int 0)) (.cst (.int 1)))) .nil))⟩
def f_to_go : Fn := ⟨3, 8, [], (.cons (.asg 3 (.dct .nil)) (.cons (.asg 4 (.dct .nil)) (.cons (.for_ (.one 5) (.seq (.glo 4 (.str [110, 101, 115, 119]))) (.cons (.asg 6 (.call i_end_cost (.cons (.e (.var 5)) (.cons (.e (.var 2)) .nil)))) (.cons (.ifs (.is1 .notN (.v 6)) (.cons (.put 4 (.tup (.cons (.var 6) (.cons (.cst (.int 0)) .nil))) (.prim .add (.cons (.e (.meth .get (.v 4) (.cons (.tup (.cons (.var 6) (.cons (.cst (.int 0)) .nil))) (.cons (.lst .nil) .nil)))) (.cons (.e (.lst (.cons (.tup (.cons (.var 1) (.cons (.var 5) .nil))) .nil))) .nil)))) .nil) .nil) .nil))) (.cons (.whl (.tr (.v 4)) (.cons (.asg 6 .bad) (.cons (.for_ (.one 7) (.seq .bad) (.cons (.ifs (.cmp .nin (.v 7) (.v 3)) (.cons (.put 3 (.var 7) (.var 6)) (.cons (.exp (.call i_put_behind (.cons (.e (.var 0)) (.cons (.m 4) (.cons (.e (.var 7)) (.cons (.e (.var 6)) .nil)))))) .nil)) .nil) .nil)) .nil))) (.cons (.ret (.mov 3)) .nil)))))⟩
def f_put_behind : Fn := ⟨4, 9, [1], (.cons (.unp [4, 5] (.var 2)) (.cons (.asg 6 (.call i_step (.cons (.e (.var 4)) (.cons (.e (.prim .idx (.cons (.e (.glo 6 (.dct [.str [110], .str [101], .str [115], .str [119]] [.str [115], .str [119], .str [110], .str [101]]))) (.cons (.v 5) .nil)))) .nil)))) (.cons (.ifs (.and (.cmp .inn (.v 6) (.v 0)) (.cmp .inn (.v 5) (.e (.prim .idx (.cons (.v 0) (.cons (.v 6) .nil)))))) (.cons (.for_ (.one 7) (.seq (.glo 4 (.str [110, 101, 115, 119]))) (.cons (.ifs (.cmp .ne (.v 7) (.e (.prim .idx (.cons (.e (.glo 6 (.dct [.str [110], .str [101], .str [115], .str [119]] [.str [115], .str [119], .str [110], .str [101]]))) (.cons (.v 5) .nil))))) (.cons (.asg 8 (.tup (.cons (.prim .add (.cons (.e (.prim .idx (.cons (.v 3) (.cons (.e (.cst (.int 0))) .nil)))) (.cons (.e (.prim .int (.cons (.e (.prim .ne (.cons (.v 7) (.cons (.v 5) .nil)))) .nil))) .nil))) (.cons (.prim .add (.cons (.e (.prim .idx (.cons (.v 3) (.cons (.e (.cst (.int 1))) .nil)))) (.cons (.e (.cst (.int 1))) .nil))) .nil)))) (.cons (.put 1 (.var 8) (.prim .add (.cons (.e (.meth .get (.v 1) (.cons (.var 8) (.cons (.lst .nil) .nil)))) (.cons (.e (.lst (.cons (.tup (.cons (.var 6) (.cons (.var 7) .nil))) .nil))) .nil)))) .nil)) .nil) .nil)) .nil) .nil) .nil)))⟩
def f_costs : Fn := ⟨3, 3, [], (.cons (.ret (.call i_to_go (.cons (.e (.var 2)) (.cons (.e (.call i_foot_of (.cons (.e (.var 0)) (.cons (.e (.var 1)) .nil)))) (.cons (.e (.prim .idx (.cons (.e (.glo 6 (.dct [.str [110], .str [101], .str [115], .str [119]] [.str [115], .str [119], .str [110], .str [101]]))) (.cons (.e (.prim .idx (.cons (.v 1) (.cons (.e (.cst (.int 1))) .nil)))) .nil)))) .nil))))) .nil)⟩
def f_walk : Fn := ⟨4, 9, [], (.cons (.asg 4 (.lst .nil)) (.cons (.whl (.tr (.e (.cst (.bl true)))) (.cons (.unp [5, 6] (.prim .idx (.cons (.v 1) (.cons (.e (.tup (.cons (.var 2) (.cons (.var 3) .nil)))) .nil)))) (.cons (.ifs (.cmp .eq (.v 6) (.e (.cst (.int 0)))) (.cons (.ret (.mov 4)) .nil) .nil) (.cons (.for_ (.one 7) (.seq (.prim .idx (.cons (.v 0) (.cons (.v 2) .nil)))) (.cons (.asg 8 (.meth .get (.v 1) (.cons (.tup (.cons (.call i_step (.cons (.e (.var 2)) (.cons (.e (.var 7)) .nil))) (.cons (.var 7) .nil))) (.cons (.cst (.non)) .nil)))) (.cons (.ifs (.and (.cmp .ne (.v 7) (.e (.prim .idx (.cons (.e (.glo 6 (.dct [.str [110], .str [101], .str [115], .str [119]] [.str [115], .str [119], .str [110], .str [101]]))) (.cons (.v 3) .nil))))) (.cmp .eq (.v 8) (.e (.tup (.cons (.prim .sub (.cons (.v 5) (.cons (.e (.prim .int (.cons (.e (.prim .ne (.cons (.v 7) (.cons (.v 3) .nil)))) .nil))) .nil))) (.cons (.prim .sub (.cons (.v 6) (.cons (.e (.cst (.int 1))) .nil))) .nil)))))) (.cons (.app 4 (.var 7)) (.cons (.par 2 3 (.call i_step (.cons (.e (.var 2)) (.cons (.e (.var 7)) .nil))) (.var 7)) (.cons .brk .nil))) .nil) .nil))) .nil)))) .nil))⟩
def f_corners : Fn := ⟨2, 5, [], (.cons (.asg 2 (.lst (.cons (.var 0) .nil))) (.cons (.asg 3 (.var 0)) (.cons (.for_ (.one 4) (.rng (.prim .len (.cons (.v 1) .nil))) (.cons (.asg 3 (.call i_step (.cons (.e (.var 3)) (.cons (.e (.prim .idx (.cons (.v 1) (.cons (.v 4) .nil)))) .nil)))) (.cons (.ifs (.or (.cmp .eq (.e (.prim .add (.cons (.v 4) (.cons (.e (.cst (.int 1))) .nil)))) (.e (.prim .len (.cons (.v 1) .nil)))) (.cmp .ne (.e (.prim .idx (.cons (.v 1) (.cons (.e (.prim .add (.cons (.v 4) (.cons (.e (.cst (.int 1))) .nil)))) .nil)))) (.e (.prim .idx (.cons (.v 1) (.cons (.v 4) .nil)))))) (.cons (.app 2 (.var 3)) .nil) .nil) .nil))) (.cons (.ret (.mov 2)) .nil))))⟩
def f_best : Fn := ⟨4, 6, [], (.cons (.asg 4 (.call i_costs (.cons (.e (.var 0)) (.cons (.e (.var 2)) (.cons (.e (.var 3)) .nil))))) (.cons (.asg 5 (.call i_foot_of (.cons (.e (.var 0)) (.cons (.e (.var 1)) .nil)))) (.cons (.ifs (.cmp .nin (.e (.tup (.cons (.var 5) (.cons (.prim .idx (.cons (.v 1) (.cons (.e (.cst (.int 1))) .nil))) .nil)))) (.v 4)) (.cons (.ret (.cst (.non))) .nil) .nil) (.cons (.ret (.call i_corners (.cons (.e (.var 5)) (.cons (.e (.call i_walk (.cons (.e (.var 3)) (.cons (.e (.var 4)) (.cons (.e (.var 5)) (.cons (.e (.prim .idx (.cons (.v 1) (.cons (.e (.cst (.int 1))) .nil)))) .nil)))))) .nil)))) .nil))))⟩
def f_least : Fn := ⟨3, 3, [], (.cons (.exp (.call i_look_ends (.cons (.e (.var 0)) (.cons (.e (.var 1)) (.cons (.e (.var 2)) .nil))))) (.cons (.ret (.meth .get (.e (.call i_costs (.cons (.e (.var 0)) (.cons (.e (.var 2)) (.cons (.e (.call i_open_steps (.cons (.e (.var 0)) .nil))) .nil))))) (.cons (.tup (.cons (.call i_foot_of (.cons (.e (.var 0)) (.cons (.e (.var 1)) .nil))) (.cons (.prim .idx (.cons (.v 1) (.cons (.e (.cst (.int 1))) .nil))) .nil))) (.cons (.cst (.non)) .nil)))) .nil))⟩
def f_line : Fn := ⟨3, 4, [], (.cons (.exp (.call i_look_ends (.cons (.e (.var 0)) (.cons (.e (.var 1)) (.cons (.e (.var 2)) .nil))))) (.cons (.asg 3 (.call i_best (.cons (.e (.var 0)) (.cons (.e (.var 1)) (.cons (.e (.var 2)) (.cons (.e (.call i_open_steps (.cons (.e (.var 0)) .nil))) .nil)))))) (.cons (.ifs (.is1 .isN (.v 3)) (.cons (.rai "NoWay") .nil) .nil) (.cons (.ret (.mov 3)) .nil))))⟩
def f_is_point : Fn := ⟨1, 2, [], (.cons (.ifs (.or (.not (.tr (.e (.prim (.isi "tuple") (.cons (.v 0) .nil))))) (.cmp .ne (.e (.prim .len (.cons (.v 0) .nil))) (.e (.cst (.int 2))))) (.cons (.ret (.cst (.bl false))) .nil) .nil) (.cons (.ret (.prim .all (.cons (.e (.comp [1] (.one 1) (.seq (.var 0)) .yes (.band (.prim (.isi "int") (.cons (.v 1) .nil)) (.bnot (.prim (.isi "bool") (.cons (.v 1) .nil)))))) .nil))) .nil))⟩
def f_heading_of : Fn := ⟨2, 2, [], (.cons (.ifs (.or (.cmp .eq (.v 0) (.v 1)) (.and (.cmp .ne (.e (.prim .idx (.cons (.v 0) (.cons (.e (.cst (.int 0))) .nil)))) (.e (.prim .idx (.cons (.v 1) (.cons (.e (.cst (.int 0))) .nil))))) (.cmp .ne (.e (.prim .idx (.cons (.v 0) (.cons (.e (.cst (.int 1))) .nil)))) (.e (.prim .idx (.cons (.v 1) (.cons (.e (.cst (.int 1))) .nil))))))) (.cons (.ret (.cst (.non))) .nil) .nil) (.cons (.ifs (.cmp .eq (.e (.prim .idx (.cons (.v 0) (.cons (.e (.cst (.int 0))) .nil)))) (.e (.prim .idx (.cons (.v 1) (.cons (.e (.cst (.int 0))) .nil))))) (.cons (.ret (.ite (.cmp .gt (.e (.prim .idx (.cons (.v 1) (.cons (.e (.cst (.int 1))) .nil)))) (.e (.prim .idx (.cons (.v 0) (.cons (.e (.cst (.int 1))) .nil))))) (.cst (.str [110])) (.cst (.str [115])))) .nil) .nil) (.cons (.ret (.ite (.cmp .gt (.e (.prim .idx (.cons (.v 1) (.cons (.e (.cst (.int 0))) .nil)))) (.e (.prim .idx (.cons (.v 0) (.cons (.e (.cst (.int 0))) .nil))))) (.cst (.str [101])) (.cst (.str [119])))) .nil)))⟩
def f_headings_in : Fn := ⟨1, 7, [], (.cons (.ifs (.or (.not (.tr (.e (.prim (.isi "list") (.cons (.v 0) .nil))))) (.or (.cmp .eq (.v 0) (.e (.lst .nil))) (.not (.tr (.e (.prim .all (.cons (.e (.comp [5] (.one 5) (.seq (.var 0)) .yes (.call i_is_point (.cons (.e (.var 5)) .nil)))) .nil))))))) (.cons (.ret (.cst (.non))) .nil) .nil) (.cons (.ifs (.tr (.e (.prim .any (.cons (.e (.comp [5] (.one 5) (.seq (.var 0)) .yes (.prim .gt (.cons (.e .bad) (.cons (.e (.cst (.int 99))) .nil))))) .nil)))) (.cons (.ret (.cst (.non))) .nil) .nil) (.cons (.asg 1 (.lst .nil)) (.cons (.for_ (.one 2) (.rng (.prim .sub (.cons (.e (.prim .len (.cons (.v 0) .nil))) (.cons (.e (.cst (.int 1))) .nil)))) (.cons (.asg 3 (.call i_heading_of (.cons (.e (.prim .idx (.cons (.v 0) (.cons (.v 2) .nil)))) (.cons (.e (.prim .idx (.cons (.v 0) (.cons (.e (.prim .add (.cons (.v 2) (.cons (.e (.cst (.int 1))) .nil)))) .nil)))) .nil)))) (.cons (.ifs (.or (.is1 .isN (.v 3)) (.and (.tr (.v 1)) (.cmp .inn (.v 3) (.e (.tup (.cons (.prim .idx (.cons (.v 1) (.cons (.e (.prim .neg (.cons (.e (.cst (.int 1))) .nil))) .nil))) (.cons (.prim .idx (.cons (.e (.glo 6 (.dct [.str [110], .str [101], .str [115], .str [119]] [.str [115], .str [119], .str [110], .str [101]]))) (.cons (.e (.prim .idx (.cons (.v 1) (.cons (.e (.prim .neg (.cons (.e (.cst (.int 1))) .nil))) .nil)))) .nil))) .nil))))))) (.cons (.ret (.cst (.non))) .nil) .nil) (.cons (.asg 4 (.prim .add (.cons (.e (.prim .abs (.cons (.e (.prim .sub (.cons (.e (.prim .idx (.cons (.e (.prim .idx (.cons (.v 0) (.cons (.v 2) .nil)))) (.cons (.e (.cst (.int 0))) .nil)))) (.cons (.e (.prim .idx (.cons (.e (.prim .idx (.cons (.v 0) (.cons (.e (.prim .add (.cons (.v 2) (.cons (.e (.cst (.int 1))) .nil)))) .nil)))) (.cons (.e (.cst (.int 0))) .nil)))) .nil)))) .nil))) (.cons (.e (.prim .abs (.cons (.e (.prim .sub (.cons (.e (.prim .idx (.cons (.e (.prim .idx (.cons (.v 0) (.cons (.v 2) .nil)))) (.cons (.e (.cst (.int 1))) .nil)))) (.cons (.e (.prim .idx (.cons (.e (.prim .idx (.cons (.v 0) (.cons (.e (.prim .add (.cons (.v 2) (.cons (.e (.cst (.int 1))) .nil)))) .nil)))) (.cons (.e (.cst (.int 1))) .nil)))) .nil)))) .nil))) .nil)))) (.cons (.ext 1 (.prim .mul (.cons (.e (.lst (.cons (.var 3) .nil))) (.cons (.v 4) .nil)))) .nil))))) (.cons (.ret (.ite (.cmp .eq (.e (.prim .len (.cons (.e .bad) .nil))) (.e (.prim .add (.cons (.e (.prim .len (.cons (.v 1) .nil))) (.cons (.e (.cst (.int 1))) .nil))))) (.mov 1) (.cst (.non)))) .nil)))))⟩
def f_places : Fn := ⟨2, 4, [], (.cons (.asg 2 (.lst (.cons (.var 0) .nil))) (.cons (.for_ (.one 3) (.seq (.var 1)) (.cons (.app 2 (.call i_step (.cons (.e (.prim .idx (.cons (.v 2) (.cons (.e (.prim .neg (.cons (.e (.cst (.int 1))) .nil))) .nil)))) (.cons (.e (.var 3)) .nil)))) .nil)) (.cons (.ret (.mov 2)) .nil)))⟩
def f_is_led : Fn := ⟨5, 10, [], (.cons (.asg 5 (.call i_headings_in (.cons (.e (.var 3)) .nil))) (.cons (.ifs (.or (.is1 .isN (.v 5)) (.or (.cmp .ne (.e (.prim .idx (.cons (.v 3) (.cons (.e (.cst (.int 0))) .nil)))) (.e (.call i_foot_of (.cons (.e (.var 0)) (.cons (.e (.var 1)) .nil))))) (.cmp .ne (.e (.prim .idx (.cons (.v 3) (.cons (.e (.prim .neg (.cons (.e (.cst (.int 1))) .nil))) .nil)))) (.e (.call i_foot_of (.cons (.e (.var 0)) (.cons (.e (.var 2)) .nil))))))) (.cons (.ret (.cst (.bl false))) .nil) .nil) (.cons (.ifs (.cmp .nin (.e (.prim .idx (.cons (.v 3) (.cons (.e (.cst (.int 0))) .nil)))) (.v 4)) (.cons (.ret (.cst (.bl false))) .nil) .nil) (.cons (.asg 6 (.prim .idx (.cons (.v 3) (.cons (.e (.cst (.int 0))) .nil)))) (.cons (.for_ (.one 7) (.seq (.var 5)) (.cons (.ifs (.or (.cmp .nin (.v 6) (.v 4)) (.cmp .nin (.v 7) (.e (.prim .idx (.cons (.v 4) (.cons (.v 6) .nil)))))) (.cons (.ret (.cst (.bl false))) .nil) .nil) (.cons (.asg 6 (.call i_step (.cons (.e (.var 6)) (.cons (.e (.var 7)) .nil)))) .nil))) (.cons (.asg 8 (.prim .add (.cons (.e (.prim .add (.cons (.e (.lst (.cons (.prim .idx (.cons (.v 1) (.cons (.e (.cst (.int 1))) .nil))) .nil))) (.cons (.v 5) .nil)))) (.cons (.e (.lst (.cons (.prim .idx (.cons (.e (.glo 6 (.dct [.str [110], .str [101], .str [115], .str [119]] [.str [115], .str [119], .str [110], .str [101]]))) (.cons (.e (.prim .idx (.cons (.v 2) (.cons (.e (.cst (.int 1))) .nil)))) .nil))) .nil))) .nil)))) (.cons (.ret (.prim .all (.cons (.e (.comp [9] (.one 9) (.rng (.prim .sub (.cons (.e (.prim .len (.cons (.v 8) .nil))) (.cons (.e (.cst (.int 1))) .nil)))) .yes (.prim .ne (.cons (.e (.prim .idx (.cons (.v 8) (.cons (.e (.prim .add (.cons (.v 9) (.cons (.e (.cst (.int 1))) .nil)))) .nil)))) (.cons (.e (.prim .idx (.cons (.e (.glo 6 (.dct [.str [110], .str [101], .str [115], .str [119]] [.str [115], .str [119], .str [110], .str [101]]))) (.cons (.e (.prim .idx (.cons (.v 8) (.cons (.v 9) .nil)))) .nil)))) .nil))))) .nil))) .nil)))))))⟩
def f_is_line : Fn := ⟨4, 4, [], (.cons (.exp (.call i_look_ends (.cons (.e (.var 0)) (.cons (.e (.var 1)) (.cons (.e (.var 2)) .nil))))) (.cons (.ret (.call i_is_led (.cons (.e (.var 0)) (.cons (.e (.var 1)) (.cons (.e (.var 2)) (.cons (.e (.var 3)) (.cons (.e (.call i_open_steps (.cons (.e (.var 0)) .nil))) .nil))))))) .nil))⟩
def f_worth : Fn := ⟨4, 7, [], (.cons (.exp (.call i_look_ends (.cons (.e (.var 0)) (.cons (.e (.var 1)) (.cons (.e (.var 2)) .nil))))) (.cons (.ifs (.not (.tr (.e (.call i_is_led (.cons (.e (.var 0)) (.cons (.e (.var 1)) (.cons (.e (.var 2)) (.cons (.e (.var 3)) (.cons (.e (.call i_open_steps (.cons (.e (.var 0)) .nil))) .nil))))))))) (.cons (.rai "BadLine") .nil) .nil) (.cons (.asg 4 (.call i_headings_in (.cons (.e (.var 3)) .nil))) (.cons (.asg 5 (.prim .add (.cons (.e (.prim .add (.cons (.e (.lst (.cons (.prim .idx (.cons (.v 1) (.cons (.e (.cst (.int 1))) .nil))) .nil))) (.cons (.v 4) .nil)))) (.cons (.e (.lst (.cons (.prim .idx (.cons (.e (.glo 6 (.dct [.str [110], .str [101], .str [115], .str [119]] [.str [115], .str [119], .str [110], .str [101]]))) (.cons (.e (.prim .idx (.cons (.v 2) (.cons (.e (.cst (.int 1))) .nil)))) .nil))) .nil))) .nil)))) (.cons (.ret (.tup (.cons (.prim .len (.cons (.e (.comp [6] (.one 6) (.rng (.prim .sub (.cons (.e (.prim .len (.cons (.v 5) .nil))) (.cons (.e (.cst (.int 1))) .nil)))) (.cmp .ne (.e (.prim .idx (.cons (.v 5) (.cons (.v 6) .nil)))) (.e (.prim .idx (.cons (.v 5) (.cons (.e (.prim .add (.cons (.v 6) (.cons (.e (.cst (.int 1))) .nil)))) .nil))))) (.var 6))) .nil)) (.cons (.prim .len (.cons (.v 4) .nil)) .nil)))) .nil)))))⟩
def f_look_lines : Fn := ⟨1, 2, [], (.cons (.ifs (.or (.not (.tr (.e (.prim (.isi "list") (.cons (.v 0) .nil))))) (.cmp .gt (.e (.prim .len (.cons (.v 0) .nil))) (.e (.glo 7 (.int 12))))) (.cons (.rai "BadLine") .nil) .nil) (.cons (.ifs (.not (.tr (.e (.prim .all (.cons (.e (.comp [1] (.one 1) (.seq (.var 0)) .yes (.prim .notN (.cons (.e (.call i_headings_in (.cons (.e (.var 1)) .nil))) .nil)))) .nil))))) (.cons (.rai "BadLine") .nil) .nil) .nil))⟩
def f_through : Fn := ⟨1, 5, [], (.cons (.asg 1 (.call i_headings_in (.cons (.e (.var 0)) .nil))) (.cons (.asg 2 (.dct .nil)) (.cons (.asg 3 (.call i_places (.cons (.e (.prim .idx (.cons (.v 0) (.cons (.e (.cst (.int 0))) .nil)))) (.cons (.e (.var 1)) .nil)))) (.cons (.for_ (.one 4) (.rng2 (.cst (.int 1)) (.prim .len (.cons (.v 1) .nil))) (.cons (.ifs (.cmp .eq (.e (.prim .idx (.cons (.v 1) (.cons (.v 4) .nil)))) (.e (.prim .idx (.cons (.v 1) (.cons (.e (.prim .sub (.cons (.v 4) (.cons (.e (.cst (.int 1))) .nil)))) .nil))))) (.cons (.put 2 (.prim .idx (.cons (.v 3) (.cons (.v 4) .nil))) (.prim .add (.cons (.e (.meth .get (.v 2) (.cons (.prim .idx (.cons (.v 3) (.cons (.v 4) .nil))) (.cons (.cst (.str [])) .nil)))) (.cons (.e (.ite (.cmp .inn (.e (.prim .idx (.cons (.v 1) (.cons (.v 4) .nil)))) (.e (.tup (.cons (.cst (.str [110])) (.cons (.cst (.str [115])) .nil))))) (.cst (.str [124])) (.cst (.str [45])))) .nil)))) .nil) .nil) .nil)) (.cons (.ret (.mov 2)) .nil)))))⟩
def f_look_wires : Fn := ⟨2, 3, [], (.cons (.exp (.call i_look_board (.cons (.e (.var 0)) .nil))) (.cons (.ifs (.or (.not (.tr (.e (.prim (.isi "list") (.cons (.v 1) .nil))))) (.cmp .gt (.e (.prim .len (.cons (.v 1) .nil))) (.e (.glo 8 (.int 8))))) (.cons (.rai "BadPort") .nil) .nil) (.cons (.for_ (.one 2) (.seq (.var 1)) (.cons (.ifs (.or (.not (.tr (.e (.prim (.isi "tuple") (.cons (.v 2) .nil))))) (.cmp .ne (.e (.prim .len (.cons (.v 2) .nil))) (.e (.cst (.int 2))))) (.cons (.rai "BadPort") .nil) .nil) (.cons (.exp (.call i_look_pair (.cons (.e (.var 0)) (.cons (.e (.prim .idx (.cons (.v 2) (.cons (.e (.cst (.int 0))) .nil)))) (.cons (.e (.prim .idx (.cons (.v 2) (.cons (.e (.cst (.int 1))) .nil)))) .nil))))) .nil))) .nil)))⟩
def f_laid : Fn := ⟨2, 5, [], (.cons (.exp (.call i_look_wires (.cons (.e (.var 0)) (.cons (.e (.var 1)) .nil)))) (.cons (.asg 2 (.call i_open_steps (.cons (.e (.var 0)) .nil))) (.cons (.ret (.comp [3, 4] (.many [3, 4]) (.seq (.var 1)) .yes (.call i_best (.cons (.e (.var 0)) (.cons (.e (.var 3)) (.cons (.e (.var 4)) (.cons (.e (.var 2)) .nil))))))) .nil)))⟩
def f_barred : Fn := ⟨1, 6, [], (.cons (.asg 1 (.dct .nil)) (.cons (.asg 2 (.dct .nil)) (.cons (.for_ (.one 3) (.seq (.var 0)) (.cons (.asg 4 (.call i_through (.cons (.e (.var 3)) .nil))) (.cons (.for_ (.one 5) (.seq (.call i_places (.cons (.e (.prim .idx (.cons (.v 3) (.cons (.e (.cst (.int 0))) .nil)))) (.cons (.e (.call i_headings_in (.cons (.e (.var 3)) .nil))) .nil)))) (.cons (.ifs (.cmp .nin (.v 5) (.v 4)) (.cons (.put 1 (.var 5) (.cst (.bl true))) .nil) .nil) .nil)) (.cons (.for_ (.one 5) (.keys (.var 4)) (.cons (.put 2 (.var 5) (.prim .add (.cons (.e (.meth .get (.v 2) (.cons (.var 5) (.cons (.cst (.str [])) .nil)))) (.cons (.e (.prim .idx (.cons (.v 4) (.cons (.v 5) .nil)))) .nil)))) .nil)) .nil)))) (.cons (.ret (.tup (.cons (.var 1) (.cons (.var 2) .nil)))) .nil))))⟩
def f_may_step : Fn := ⟨4, 7, [], (.cons (.asg 4 (.call i_step (.cons (.e (.var 2)) (.cons (.e (.var 3)) .nil)))) (.cons (.asg 5 (.ite (.cmp .inn (.v 3) (.e (.tup (.cons (.cst (.str [110])) (.cons (.cst (.str [115])) .nil))))) (.cst (.str [124])) (.cst (.str [45])))) (.cons (.ret (.bnot (.prim .any (.cons (.e (.comp [6] (.one 6) (.seq (.tup (.cons (.var 2) (.cons (.var 4) .nil)))) .yes (.bor (.prim .inn (.cons (.v 6) (.cons (.v 0) .nil))) (.prim .inn (.cons (.v 5) (.cons (.e (.meth .get (.v 1) (.cons (.var 6) (.cons (.cst (.str [])) .nil)))) .nil)))))) .nil)))) .nil)))⟩
def f_left_steps : Fn := ⟨2, 7, [], (.cons (.unp [2, 3] (.call i_barred (.cons (.e (.var 1)) .nil))) (.cons (.asg 4 (.dct .nil)) (.cons (.for_ (.one 5) (.keys (.var 0)) (.cons (.put 4 (.var 5) (.comp [6] (.one 6) (.seq (.prim .idx (.cons (.v 0) (.cons (.v 5) .nil)))) (.tr (.e (.call i_may_step (.cons (.e (.var 2)) (.cons (.e (.var 3)) (.cons (.e (.var 5)) (.cons (.e (.var 6)) .nil))))))) (.var 6))) .nil)) (.cons (.ret (.mov 4)) .nil))))⟩
def f_apart : Fn := ⟨2, 12, [], (.cons (.exp (.call i_look_wires (.cons (.e (.var 0)) (.cons (.e (.var 1)) .nil)))) (.cons (.asg 2 (.call i_open_steps (.cons (.e (.var 0)) .nil))) (.cons (.asg 3 (.lst .nil)) (.cons (.for_ (.many [4, 5]) (.seq (.var 1)) (.cons (.asg 6 (.call i_left_steps (.cons (.e (.var 2)) (.cons (.e (.comp [10] (.one 10) (.seq (.var 3)) (.is1 .notN (.v 10)) (.var 10))) .nil)))) (.cons (.asg 7 (.lst (.cons (.call i_foot_of (.cons (.e (.var 0)) (.cons (.e (.var 4)) .nil))) (.cons (.call i_foot_of (.cons (.e (.var 0)) (.cons (.e (.var 5)) .nil))) .nil)))) (.cons (.asg 8 (.call i_barred (.cons (.e (.comp [10] (.one 10) (.seq (.var 3)) (.is1 .notN (.v 10)) (.var 10))) .nil))) (.cons (.asg 9 (.prim .any (.cons (.e (.comp [11] (.one 11) (.seq (.var 7)) .yes (.bor (.prim .inn (.cons (.v 11) (.cons (.e (.prim .idx (.cons (.v 8) (.cons (.e (.cst (.int 0))) .nil)))) .nil))) (.prim .inn (.cons (.v 11) (.cons (.e (.prim .idx (.cons (.v 8) (.cons (.e (.cst (.int 1))) .nil)))) .nil)))))) .nil))) (.cons (.app 3 (.ite (.tr (.v 9)) (.cst (.non)) (.call i_best (.cons (.e (.var 0)) (.cons (.e (.var 4)) (.cons (.e (.var 5)) (.cons (.e (.var 6)) .nil))))))) .nil)))))) (.cons (.ret (.mov 3)) .nil)))))⟩
def f_are_apart : Fn := ⟨3, 8, [], (.cons (.exp (.call i_look_wires (.cons (.e (.var 0)) (.cons (.e (.var 1)) .nil)))) (.cons (.ifs (.or (.not (.tr (.e (.prim (.isi "list") (.cons (.v 2) .nil))))) (.cmp .ne (.e (.prim .len (.cons (.v 2) .nil))) (.e (.prim .len (.cons (.v 1) .nil))))) (.cons (.ret (.cst (.bl false))) .nil) .nil) (.cons (.asg 3 (.call i_open_steps (.cons (.e (.var 0)) .nil))) (.cons (.asg 4 (.lst .nil)) (.cons (.for_ (.one 5) (.rng (.prim .len (.cons (.v 2) .nil))) (.cons (.ifs (.is1 .notN (.e (.prim .idx (.cons (.v 2) (.cons (.v 5) .nil))))) (.cons (.ifs (.not (.tr (.e (.call i_is_led (.cons (.e (.var 0)) (.cons (.e (.prim .idx (.cons (.e (.prim .idx (.cons (.v 1) (.cons (.v 5) .nil)))) (.cons (.e (.cst (.int 0))) .nil)))) (.cons (.e (.prim .idx (.cons (.e (.prim .idx (.cons (.v 1) (.cons (.v 5) .nil)))) (.cons (.e (.cst (.int 1))) .nil)))) (.cons (.e (.prim .idx (.cons (.v 2) (.cons (.v 5) .nil)))) (.cons (.e (.var 3)) .nil))))))))) (.cons (.ret (.cst (.bl false))) .nil) .nil) (.cons (.app 4 (.prim .idx (.cons (.v 2) (.cons (.v 5) .nil)))) .nil)) .nil) .nil)) (.cons (.for_ (.one 6) (.rng (.prim .len (.cons (.v 4) .nil))) (.cons (.for_ (.one 7) (.rng (.var 6)) (.cons (.ifs (.not (.tr (.e (.call i_may_both (.cons (.e (.prim .idx (.cons (.v 4) (.cons (.v 6) .nil)))) (.cons (.e (.prim .idx (.cons (.v 4) (.cons (.v 7) .nil)))) .nil)))))) (.cons (.ret (.cst (.bl false))) .nil) .nil) .nil)) .nil)) (.cons (.ret (.cst (.bl true))) .nil)))))))⟩
def f_may_both : Fn := ⟨2, 6, [], (.cons (.par 2 3 (.call i_through (.cons (.e (.var 0)) .nil)) (.call i_through (.cons (.e (.var 1)) .nil))) (.cons (.asg 4 (.call i_places (.cons (.e (.prim .idx (.cons (.v 1) (.cons (.e (.cst (.int 0))) .nil)))) (.cons (.e (.call i_headings_in (.cons (.e (.var 1)) .nil))) .nil)))) (.cons (.for_ (.one 5) (.seq (.call i_places (.cons (.e (.prim .idx (.cons (.v 0) (.cons (.e (.cst (.int 0))) .nil)))) (.cons (.e (.call i_headings_in (.cons (.e (.var 0)) .nil))) .nil)))) (.cons (.ifs (.and (.cmp .inn (.v 5) (.v 4)) (.or (.cmp .nin (.v 5) (.v 2)) (.or (.cmp .nin (.v 5) (.v 3)) (.not (.tr (.e (.call i_is_cross (.cons (.e (.prim .idx (.cons (.v 2) (.cons (.v 5) .nil)))) (.cons (.e (.prim .idx (.cons (.v 3) (.cons (.v 5) .nil)))) .nil))))))))) (.cons (.ret (.cst (.bl false))) .nil) .nil) .nil)) (.cons (.ret (.cst (.bl true))) .nil))))⟩
def f_is_cross : Fn := ⟨2, 3, [], (.cons (.ret (.bnot (.prim .any (.cons (.e (.comp [2] (.one 2) (.seq (.var 0)) .yes (.prim .inn (.cons (.v 2) (.cons (.v 1) .nil))))) .nil)))) .nil)⟩
def f_paper : Fn := ⟨3, 3, [], (.cons (.exp (.call i_look_ends (.cons (.e (.var 0)) (.cons (.e (.var 1)) (.cons (.e (.var 2)) .nil))))) (.cons (.ret (.call i_costs (.cons (.e (.var 0)) (.cons (.e (.var 2)) (.cons (.e (.call i_open_steps (.cons (.e (.var 0)) .nil))) .nil))))) .nil))⟩
def f_is_worth : Fn := ⟨1, 2, [], (.cons (.ifs (.or (.not (.tr (.e (.prim (.isi "tuple") (.cons (.v 0) .nil))))) (.cmp .ne (.e (.prim .len (.cons (.v 0) .nil))) (.e (.cst (.int 2))))) (.cons (.ret (.cst (.bl false))) .nil) .nil) (.cons (.ret (.prim .all (.cons (.e (.comp [1] (.one 1) (.seq (.var 0)) .yes (.band (.prim (.isi "int") (.cons (.v 1) .nil)) (.band (.bnot (.prim (.isi "bool") (.cons (.v 1) .nil))) (.prim .ge (.cons (.v 1) (.cons (.e (.cst (.int 0))) .nil))))))) .nil))) .nil))⟩
def f_are_states : Fn := ⟨2, 5, [], (.cons (.ifs (.or (.not (.tr (.e (.prim (.isi "dict") (.cons (.v 1) .nil))))) (.not (.tr (.e (.prim .all (.cons (.e (.comp [4] (.one 4) (.keys (.var 1)) .yes (.band (.prim (.isi "tuple") (.cons (.v 4) .nil)) (.prim .eq (.cons (.e (.prim .len (.cons (.v 4) .nil))) (.cons (.e (.cst (.int 2))) .nil)))))) .nil)))))) (.cons (.ret (.cst (.bl false))) .nil) .nil) (.cons (.for_ (.many [2, 3]) (.keys (.var 1)) (.cons (.ifs (.or (.not (.tr (.e (.prim (.isi "tuple") (.cons (.v 2) .nil))))) (.or (.cmp .nin (.v 2) (.v 0)) (.or (.not (.tr (.e (.prim (.isi "str") (.cons (.v 3) .nil))))) (.cmp .ne (.e (.prim .len (.cons (.v 3) .nil))) (.e (.cst (.int 1))))))) (.cons (.ret (.cst (.bl false))) .nil) .nil) (.cons (.ifs (.or (.cmp .nin (.v 3) (.e (.glo 4 (.str [110, 101, 115, 119])))) (.not (.tr (.e (.call i_is_worth (.cons (.e (.prim .idx (.cons (.v 1) (.cons (.e (.tup (.cons (.var 2) (.cons (.var 3) .nil)))) .nil)))) .nil)))))) (.cons (.ret (.cst (.bl false))) .nil) .nil) .nil))) (.cons (.ret (.cst (.bl true))) .nil)))⟩
def f_is_sound : Fn := ⟨5, 11, [], (.cons (.asg 5 (.meth .get (.v 1) (.cons (.var 2) (.cons (.cst (.non)) .nil)))) (.cons (.unp [6, 7] (.var 2)) (.cons (.asg 8 (.ite (.cmp .eq (.v 6) (.v 3)) (.call i_end_cost (.cons (.e (.var 7)) (.cons (.e (.var 4)) .nil))) (.cst (.non)))) (.cons (.ifs (.and (.is1 .notN (.v 8)) (.or (.is1 .isN (.v 5)) (.cmp .gt (.v 5) (.e (.tup (.cons (.var 8) (.cons (.cst (.int 0)) .nil))))))) (.cons (.ret (.cst (.bl false))) .nil) .nil) (.cons (.for_ (.one 9) (.seq (.prim .idx (.cons (.v 0) (.cons (.v 6) .nil)))) (.cons (.asg 10 (.meth .get (.v 1) (.cons (.tup (.cons (.call i_step (.cons (.e (.var 6)) (.cons (.e (.var 9)) .nil))) (.cons (.var 9) .nil))) (.cons (.cst (.non)) .nil)))) (.cons (.ifs (.and (.cmp .ne (.v 9) (.e (.prim .idx (.cons (.e (.glo 6 (.dct [.str [110], .str [101], .str [115], .str [119]] [.str [115], .str [119], .str [110], .str [101]]))) (.cons (.v 7) .nil))))) (.is1 .notN (.v 10))) (.cons (.ifs (.or (.is1 .isN (.v 5)) (.cmp .gt (.v 5) (.e (.tup (.cons (.prim .add (.cons (.e (.prim .idx (.cons (.v 10) (.cons (.e (.cst (.int 0))) .nil)))) (.cons (.e (.prim .int (.cons (.e (.prim .ne (.cons (.v 9) (.cons (.v 7) .nil)))) .nil))) .nil))) (.cons (.prim .add (.cons (.e (.prim .idx (.cons (.v 10) (.cons (.e (.cst (.int 1))) .nil)))) (.cons (.e (.cst (.int 1))) .nil))) .nil)))))) (.cons (.ret (.cst (.bl false))) .nil) .nil) .nil) .nil) .nil))) (.cons (.ret (.cst (.bl true))) .nil))))))⟩
def f_shows : Fn := ⟨5, 11, [], (.cons (.exp (.call i_look_ends (.cons (.e (.var 0)) (.cons (.e (.var 1)) (.cons (.e (.var 2)) .nil))))) (.cons (.asg 5 (.call i_open_steps (.cons (.e (.var 0)) .nil))) (.cons (.ifs (.not (.tr (.e (.call i_are_states (.cons (.e (.var 5)) (.cons (.e (.var 3)) .nil)))))) (.cons (.ret (.cst (.bl false))) .nil) .nil) (.cons (.asg 6 (.call i_foot_of (.cons (.e (.var 0)) (.cons (.e (.var 2)) .nil)))) (.cons (.asg 7 (.prim .idx (.cons (.e (.glo 6 (.dct [.str [110], .str [101], .str [115], .str [119]] [.str [115], .str [119], .str [110], .str [101]]))) (.cons (.e (.prim .idx (.cons (.v 2) (.cons (.e (.cst (.int 1))) .nil)))) .nil)))) (.cons (.for_ (.one 8) (.keys (.var 5)) (.cons (.for_ (.one 9) (.seq (.glo 4 (.str [110, 101, 115, 119]))) (.cons (.ifs (.not (.tr (.e (.call i_is_sound (.cons (.e (.var 5)) (.cons (.e (.var 3)) (.cons (.e (.tup (.cons (.var 8) (.cons (.var 9) .nil)))) (.cons (.e (.var 6)) (.cons (.e (.var 7)) .nil))))))))) (.cons (.ret (.cst (.bl false))) .nil) .nil) .nil)) .nil)) (.cons (.asg 10 (.meth .get (.v 3) (.cons (.tup (.cons (.call i_foot_of (.cons (.e (.var 0)) (.cons (.e (.var 1)) .nil))) (.cons (.prim .idx (.cons (.v 1) (.cons (.e (.cst (.int 1))) .nil))) .nil))) (.cons (.cst (.non)) .nil)))) (.cons (.ret (.ite (.is1 .isN (.v 4)) (.prim .isN (.cons (.v 10) .nil)) (.band (.call i_is_worth (.cons (.e (.var 4)) .nil)) (.band (.prim .notN (.cons (.v 10) .nil)) (.prim .ge (.cons (.v 10) (.cons (.v 4) .nil))))))) .nil))))))))⟩
def f_picture : Fn := ⟨2, 11, [], (.cons (.exp (.call i_look_board (.cons (.e (.var 0)) .nil))) (.cons (.exp (.call i_look_lines (.cons (.e (.var 1)) .nil))) (.cons (.asg 2 (.dct .nil)) (.cons (.for_ (.one 3) (.seq (.var 1)) (.cons (.asg 4 (.call i_through (.cons (.e (.var 3)) .nil))) (.cons (.for_ (.one 5) (.seq (.call i_places (.cons (.e (.prim .idx (.cons (.v 3) (.cons (.e (.cst (.int 0))) .nil)))) (.cons (.e (.call i_headings_in (.cons (.e (.var 3)) .nil))) .nil)))) (.cons (.asg 6 (.slc (.e (.meth .get (.v 4) (.cons (.var 5) (.cons (.cst (.str [111])) .nil)))) (.cst .non) (.cst (.int 1)))) (.cons (.put 2 (.var 5) (.ite (.cmp .eq (.e (.meth .get (.v 2) (.cons (.var 5) (.cons (.var 6) .nil)))) (.v 6)) (.var 6) (.cst (.str [120])))) .nil))) .nil))) (.cons (.asg 7 (.lst .nil)) (.cons (.for_ (.one 8) (.seq .bad) (.cons (.asg 9 (.lst .nil)) (.cons (.for_ (.one 10) (.rng (.prim .idx (.cons (.e (.prim .idx (.cons (.v 0) (.cons (.e (.cst (.int 0))) .nil)))) (.cons (.e (.cst (.int 0))) .nil)))) (.cons (.asg 6 (.ite (.tr (.e (.call i_is_free (.cons (.e (.var 0)) (.cons (.e (.tup (.cons (.var 10) (.cons (.var 8) .nil)))) .nil))))) (.cst (.str [46])) (.cst (.str [35])))) (.cons (.app 9 (.meth .get (.v 2) (.cons (.tup (.cons (.var 10) (.cons (.var 8) .nil))) (.cons (.var 6) .nil)))) .nil))) (.cons (.app 7 .bad) .nil)))) (.cons (.ret (.mov 7)) .nil)))))))⟩
def f_law_cell : Fn := ⟨2, 2, [], (.cons (.ifs (.tr (.v 0)) (.cons (.ret (.prim .idx (.cons (.v 0) (.cons (.e (.prim .mod (.cons (.v 1) (.cons (.e (.prim .len (.cons (.v 0) .nil))) .nil)))) .nil)))) .nil) .nil) (.cons (.ret (.cst (.int 0))) .nil))⟩
def f_law_mix : Fn := ⟨2, 3, [], (.cons (.asg 2 (.prim .mod (.cons (.e (.prim .add (.cons (.e (.call i_law_cell (.cons (.e (.var 0)) (.cons (.e (.var 1)) .nil)))) (.cons (.e (.prim .mul (.cons (.e (.cst (.int 104729))) (.cons (.e (.prim .add (.cons (.v 1) (.cons (.e (.cst (.int 1))) .nil)))) .nil)))) .nil)))) (.cons (.e (.cst (.int 4294967291))) .nil)))) (.cons (.asg 2 (.prim .mod (.cons (.e (.prim .pow (.cons (.v 2) (.cons (.e (.cst (.int 5))) .nil)))) (.cons (.e (.cst (.int 4294967279))) .nil)))) (.cons (.ret (.prim .mod (.cons (.e (.prim .add (.cons (.e (.prim .mul (.cons (.e (.prim .fdiv (.cons (.v 2) (.cons (.e (.cst (.int 64))) .nil)))) (.cons (.e (.cst (.int 69621))) .nil)))) (.cons (.v 2) .nil)))) (.cons (.e (.cst (.int 4294967231))) .nil)))) .nil)))⟩
def f_law_draw : Fn := ⟨3, 3, [1], (.cons (.app 1 (.cst (.int 0))) (.cons (.ret (.prim .mod (.cons (.e (.prim .fdiv (.cons (.e (.call i_law_mix (.cons (.e (.var 0)) (.cons (.e (.prim .len (.cons (.v 1) .nil))) .nil)))) (.cons (.e (.cst (.int 8))) .nil)))) (.cons (.v 2) .nil)))) .nil))⟩
def f_law_pick : Fn := ⟨3, 3, [1], (.cons (.ret (.prim .idx (.cons (.v 2) (.cons (.e (.call i_law_draw (.cons (.e (.var 0)) (.cons (.m 1) (.cons (.e (.prim .len (.cons (.v 2) .nil))) .nil))))) .nil)))) .nil)⟩
def f_law_refusal : Fn := ⟨1, 2, [], (.cons (.ifs (.is1 .isN (.v 0)) (.cons (.ret (.tup (.cons (.cst (.str [111, 107])) .nil))) .nil) .nil) (.cons (.asg 1 (.lst (.cons (.prim (.isx "BadBoard") (.cons (.v 0) .nil)) (.cons (.prim (.isx "BadPort") (.cons (.v 0) .nil)) (.cons (.prim (.isx "NoFoot") (.cons (.v 0) .nil)) .nil))))) (.cons (.asg 1 (.prim .add (.cons (.v 1) (.cons (.e (.lst (.cons (.prim (.isx "NoWay") (.cons (.v 0) .nil)) (.cons (.prim (.isx "BadLine") (.cons (.v 0) .nil)) (.cons (.prim (.isx "BadNumber") (.cons (.v 0) .nil)) .nil))))) .nil)))) (.cons (.asg 1 (.prim .add (.cons (.v 1) (.cons (.e (.lst (.cons (.prim (.isx "Nothing") (.cons (.v 0) .nil)) (.cons (.prim (.isx "BadText") (.cons (.v 0) .nil)) .nil)))) .nil)))) (.cons (.ifs (.or (.cmp .ne (.e (.meth .count (.v 1) (.cons (.cst (.bl true)) .nil))) (.e (.cst (.int 1)))) (.not (.tr (.e (.prim (.isx "ValueError") (.cons (.v 0) .nil)))))) (.cons (.ret (.tup (.cons (.cst (.str [119, 114, 111, 110, 103])) .nil))) .nil) .nil) (.cons (.ret (.tup (.cons (.cst (.str [114, 101, 102, 117, 115, 101, 100])) (.cons (.prim .idx (.cons (.e (.lst (.cons (.cst (.str [98, 111, 97, 114, 100])) (.cons (.cst (.str [112, 111, 114, 116])) (.cons (.cst (.str [102, 111, 111, 116])) (.cons (.cst (.str [119, 97, 121])) (.cons (.cst (.str [108, 105, 110, 101])) (.cons (.cst (.str [110, 117, 109, 98, 101, 114])) (.cons (.cst (.str [110, 111, 116, 104, 105, 110, 103])) (.cons (.cst (.str [116, 101, 120, 116])) .nil)))))))))) (.cons (.e (.meth .index (.v 1) (.cons (.cst (.bl true)) .nil))) .nil))) .nil)))) .nil))))))⟩
def f_law_box : Fn := ⟨3, 7, [1], (.cons (.asg 3 (.call i_law_draw (.cons (.e (.var 0)) (.cons (.m 1) (.cons (.e (.prim .idx (.cons (.v 2) (.cons (.e (.cst (.int 0))) .nil)))) .nil))))) (.cons (.asg 4 (.call i_law_draw (.cons (.e (.var 0)) (.cons (.m 1) (.cons (.e (.prim .idx (.cons (.v 2) (.cons (.e (.cst (.int 1))) .nil)))) .nil))))) (.cons (.asg 5 (.call i_law_draw (.cons (.e (.var 0)) (.cons (.m 1) (.cons (.e (.call i_law_pick (.cons (.e (.var 0)) (.cons (.m 1) (.cons (.e (.lst (.cons (.cst (.int 1)) (.cons (.cst (.int 2)) (.cons (.cst (.int 3)) (.cons (.cst (.int 12)) .nil)))))) .nil))))) .nil))))) (.cons (.asg 6 (.call i_law_draw (.cons (.e (.var 0)) (.cons (.m 1) (.cons (.e (.call i_law_pick (.cons (.e (.var 0)) (.cons (.m 1) (.cons (.e (.lst (.cons (.cst (.int 1)) (.cons (.cst (.int 2)) (.cons (.cst (.int 3)) (.cons (.cst (.int 12)) .nil)))))) .nil))))) .nil))))) (.cons (.ret (.tup (.cons (.var 3) (.cons (.var 4) (.cons (.prim .min2 (.cons (.e (.prim .sub (.cons (.e (.prim .idx (.cons (.v 2) (.cons (.e (.cst (.int 0))) .nil)))) (.cons (.e (.cst (.int 1))) .nil)))) (.cons (.e (.prim .add (.cons (.v 3) (.cons (.v 5) .nil)))) .nil))) (.cons (.prim .min2 (.cons (.e (.prim .sub (.cons (.e (.prim .idx (.cons (.v 2) (.cons (.e (.cst (.int 1))) .nil)))) (.cons (.e (.cst (.int 1))) .nil)))) (.cons (.e (.prim .add (.cons (.v 4) (.cons (.v 6) .nil)))) .nil))) .nil)))))) .nil)))))⟩
def f_law_off : Fn := ⟨2, 2, [], (.cons (.ret (.bor (.prim .lt (.cons (.e (.prim .idx (.cons (.v 0) (.cons (.e (.cst (.int 2))) .nil)))) (.cons (.e (.prim .idx (.cons (.v 1) (.cons (.e (.cst (.int 0))) .nil)))) .nil))) (.bor (.prim .lt (.cons (.e (.prim .idx (.cons (.v 1) (.cons (.e (.cst (.int 2))) .nil)))) (.cons (.e (.prim .idx (.cons (.v 0) (.cons (.e (.cst (.int 0))) .nil)))) .nil))) (.bor (.prim .lt (.cons (.e (.prim .idx (.cons (.v 0) (.cons (.e (.cst (.int 3))) .nil)))) (.cons (.e (.prim .idx (.cons (.v 1) (.cons (.e (.cst (.int 1))) .nil)))) .nil))) (.prim .lt (.cons (.e (.prim .idx (.cons (.v 1) (.cons (.e (.cst (.int 3))) .nil)))) (.cons (.e (.prim .idx (.cons (.v 0) (.cons (.e (.cst (.int 1))) .nil)))) .nil))))))) .nil)⟩
def f_law_board : Fn := ⟨3, 11, [1], (.cons (.asg 3 (.tup (.cons (.prim .add (.cons (.e (.cst (.int 1))) (.cons (.e (.call i_law_draw (.cons (.e (.var 0)) (.cons (.m 1) (.cons (.e (.var 2)) .nil))))) .nil))) (.cons (.prim .add (.cons (.e (.cst (.int 1))) (.cons (.e (.call i_law_draw (.cons (.e (.var 0)) (.cons (.m 1) (.cons (.e (.var 2)) .nil))))) .nil))) .nil)))) (.cons (.asg 4 (.dct .nil)) (.cons (.asg 5 (.lst (.cons (.cst (.str [97])) (.cons (.cst (.str [98])) (.cons (.cst (.str [98, 111, 120])) (.cons (.cst (.str [122, 122, 122, 122, 122, 122, 122, 122])) (.cons (.cst (.str [101, 110, 100])) (.cons (.cst (.str [110, 111])) .nil)))))))) (.cons (.asg 6 (.call i_law_draw (.cons (.e (.var 0)) (.cons (.m 1) (.cons (.e (.cst (.int 6))) .nil))))) (.cons (.for_ (.one 7) (.seq (.prim .add (.cons (.e (.slc (.v 5) (.var 6) (.cst .non))) (.cons (.e (.slc (.v 5) (.cst .non) (.var 6))) .nil)))) (.cons (.asg 8 (.call i_law_box (.cons (.e (.var 0)) (.cons (.m 1) (.cons (.e (.var 3)) .nil))))) (.cons (.asg 9 (.comp [10] (.one 10) (.seq (.prim .listVals (.cons (.v 4) .nil))) (.not (.tr (.e (.call i_law_off (.cons (.e (.var 8)) (.cons (.e (.var 10)) .nil)))))) (.var 10))) (.cons (.ifs (.and (.cmp .eq (.v 9) (.e (.lst .nil))) (.cmp .lt (.e (.prim .len (.cons (.v 4) .nil))) (.e (.prim .add (.cons (.e (.cst (.int 1))) (.cons (.v 6) .nil)))))) (.cons (.put 4 (.var 7) (.var 8)) .nil) .nil) .nil)))) (.cons (.ret (.tup (.cons (.var 3) (.cons (.var 4) .nil)))) .nil))))))⟩
def f_law_is_free : Fn := ⟨2, 6, [], (.cons (.ifs (.or (.cmp .lt (.e (.prim .idx (.cons (.v 1) (.cons (.e (.cst (.int 0))) .nil)))) (.e (.cst (.int 0)))) (.or (.cmp .lt (.e (.prim .idx (.cons (.v 1) (.cons (.e (.cst (.int 1))) .nil)))) (.e (.cst (.int 0)))) (.or (.cmp .ge (.e (.prim .idx (.cons (.v 1) (.cons (.e (.cst (.int 0))) .nil)))) (.e (.prim .idx (.cons (.e (.prim .idx (.cons (.v 0) (.cons (.e (.cst (.int 0))) .nil)))) (.cons (.e (.cst (.int 0))) .nil))))) (.cmp .ge (.e (.prim .idx (.cons (.v 1) (.cons (.e (.cst (.int 1))) .nil)))) (.e (.prim .idx (.cons (.e (.prim .idx (.cons (.v 0) (.cons (.e (.cst (.int 0))) .nil)))) (.cons (.e (.cst (.int 1))) .nil)))))))) (.cons (.ret (.cst (.bl false))) .nil) .nil) (.cons (.for_ (.many [2, 3, 4, 5]) (.seq (.prim .listVals (.cons (.e (.prim .idx (.cons (.v 0) (.cons (.e (.cst (.int 1))) .nil)))) .nil))) (.cons (.ifs (.and (.cmp .le (.v 2) (.e (.prim .idx (.cons (.v 1) (.cons (.e (.cst (.int 0))) .nil))))) (.and (.cmp .le (.e (.prim .idx (.cons (.v 1) (.cons (.e (.cst (.int 0))) .nil)))) (.v 4)) (.and (.cmp .le (.v 3) (.e (.prim .idx (.cons (.v 1) (.cons (.e (.cst (.int 1))) .nil))))) (.cmp .le (.e (.prim .idx (.cons (.v 1) (.cons (.e (.cst (.int 1))) .nil)))) (.v 5))))) (.cons (.ret (.cst (.bl false))) .nil) .nil) .nil)) (.cons (.ret (.cst (.bl true))) .nil)))⟩
def f_law_foot : Fn := ⟨2, 6, [], (.cons (.unp [2, 3, 4, 5] (.prim .idx (.cons (.e (.prim .idx (.cons (.v 0) (.cons (.e (.cst (.int 1))) .nil)))) (.cons (.e (.prim .idx (.cons (.v 1) (.cons (.e (.cst (.int 0))) .nil)))) .nil)))) (.cons (.ifs (.cmp .inn (.e (.prim .idx (.cons (.v 1) (.cons (.e (.cst (.int 1))) .nil)))) (.e (.tup (.cons (.cst (.str [110])) (.cons (.cst (.str [115])) .nil))))) (.cons (.ret (.tup (.cons (.prim .add (.cons (.v 2) (.cons (.e (.prim .idx (.cons (.v 1) (.cons (.e (.cst (.int 2))) .nil)))) .nil))) (.cons (.ite (.cmp .eq (.e (.prim .idx (.cons (.v 1) (.cons (.e (.cst (.int 1))) .nil)))) (.e (.cst (.str [110])))) (.prim .add (.cons (.v 5) (.cons (.e (.cst (.int 1))) .nil))) (.prim .sub (.cons (.v 3) (.cons (.e (.cst (.int 1))) .nil)))) .nil)))) .nil) .nil) (.cons (.ret (.tup (.cons (.ite (.cmp .eq (.e (.prim .idx (.cons (.v 1) (.cons (.e (.cst (.int 1))) .nil)))) (.e (.cst (.str [101])))) (.prim .add (.cons (.v 4) (.cons (.e (.cst (.int 1))) .nil))) (.prim .sub (.cons (.v 2) (.cons (.e (.cst (.int 1))) .nil)))) (.cons (.prim .add (.cons (.v 3) (.cons (.e (.prim .idx (.cons (.v 1) (.cons (.e (.cst (.int 2))) .nil)))) .nil))) .nil)))) .nil)))⟩
def f_law_all_ports : Fn := ⟨2, 9, [], (.cons (.unp [2, 3, 4, 5] (.prim .idx (.cons (.e (.prim .idx (.cons (.v 0) (.cons (.e (.cst (.int 1))) .nil)))) (.cons (.v 1) .nil)))) (.cons (.asg 6 (.lst .nil)) (.cons (.for_ (.one 7) (.seq (.cst (.str [110, 101, 115, 119]))) (.cons (.for_ (.one 8) (.rng (.prim .add (.cons (.e (.cst (.int 1))) (.cons (.e (.ite (.cmp .inn (.v 7) (.e (.tup (.cons (.cst (.str [110])) (.cons (.cst (.str [115])) .nil))))) (.prim .sub (.cons (.v 4) (.cons (.v 2) .nil))) (.prim .sub (.cons (.v 5) (.cons (.v 3) .nil))))) .nil)))) (.cons (.ifs (.tr (.e (.call i_law_is_free (.cons (.e (.var 0)) (.cons (.e (.call i_law_foot (.cons (.e (.var 0)) (.cons (.e (.tup (.cons (.var 1) (.cons (.var 7) (.cons (.var 8) .nil))))) .nil)))) .nil))))) (.cons (.app 6 (.tup (.cons (.var 1) (.cons (.var 7) (.cons (.var 8) .nil))))) .nil) .nil) .nil)) .nil)) (.cons (.ret (.mov 6)) .nil))))⟩
def f_law_ports : Fn := ⟨1, 3, [], (.cons (.asg 1 (.lst .nil)) (.cons (.for_ (.one 2) (.seq (.prim .sortedKeys (.cons (.e (.prim .idx (.cons (.v 0) (.cons (.e (.cst (.int 1))) .nil)))) .nil))) (.cons (.asg 1 (.prim .add (.cons (.v 1) (.cons (.e (.call i_law_all_ports (.cons (.e (.var 0)) (.cons (.e (.var 2)) .nil)))) .nil)))) .nil)) (.cons (.ret (.mov 1)) .nil)))⟩
def f_law_one : Fn := ⟨2, 6, [], (.cons (.asg 2 (.prim .idx (.cons (.v 1) (.cons (.e (.cst (.int 0))) .nil)))) (.cons (.asg 3 (.prim .idx (.cons (.v 1) (.cons (.e (.cst (.int 1))) .nil)))) (.cons (.asg 4 (.prim .idx (.cons (.v 1) (.cons (.e (.cst (.int 2))) .nil)))) (.cons (.asg 5 (.prim .idx (.cons (.v 1) (.cons (.e (.cst (.int 3))) .nil)))) (.cons (.ifs (.cmp .eq (.v 0) (.e (.cst (.int 0)))) (.cons (.ret (.call i_foot (.cons (.e (.var 2)) (.cons (.e (.var 3)) .nil)))) .nil) .nil) (.cons (.ifs (.cmp .eq (.v 0) (.e (.cst (.int 1)))) (.cons (.ret (.call i_least (.cons (.e (.var 2)) (.cons (.e (.var 3)) (.cons (.e (.var 4)) .nil))))) .nil) .nil) (.cons (.ifs (.cmp .eq (.v 0) (.e (.cst (.int 2)))) (.cons (.ret (.call i_line (.cons (.e (.var 2)) (.cons (.e (.var 3)) (.cons (.e (.var 4)) .nil))))) .nil) .nil) (.cons (.ifs (.cmp .eq (.v 0) (.e (.cst (.int 3)))) (.cons (.ret (.call i_is_line (.cons (.e (.var 2)) (.cons (.e (.var 3)) (.cons (.e (.var 4)) (.cons (.e (.cst (.int 0))) .nil)))))) .nil) .nil) (.cons (.ifs (.cmp .eq (.v 0) (.e (.cst (.int 4)))) (.cons (.ret (.call i_worth (.cons (.e (.var 2)) (.cons (.e (.var 3)) (.cons (.e (.var 4)) (.cons (.e (.cst (.int 0))) .nil)))))) .nil) .nil) (.cons (.ifs (.cmp .eq (.v 0) (.e (.cst (.int 5)))) (.cons (.ret (.call i_paper (.cons (.e (.var 2)) (.cons (.e (.var 3)) (.cons (.e (.var 4)) .nil))))) .nil) .nil) (.cons (.ifs (.cmp .eq (.v 0) (.e (.cst (.int 6)))) (.cons (.ret (.call i_shows (.cons (.e (.var 2)) (.cons (.e (.var 3)) (.cons (.e (.var 4)) (.cons (.e (.cst (.int 0))) (.cons (.e (.cst (.int 0))) .nil))))))) .nil) .nil) (.cons (.ifs (.cmp .eq (.v 0) (.e (.cst (.int 7)))) (.cons (.ret (.call i_laid (.cons (.e (.var 2)) (.cons (.e (.lst (.cons (.tup (.cons (.var 3) (.cons (.var 4) .nil))) .nil))) .nil)))) .nil) .nil) (.cons (.ifs (.cmp .eq (.v 0) (.e (.cst (.int 8)))) (.cons (.ret (.call i_apart (.cons (.e (.var 2)) (.cons (.e (.lst (.cons (.tup (.cons (.var 3) (.cons (.var 4) .nil))) .nil))) .nil)))) .nil) .nil) (.cons (.ifs (.cmp .eq (.v 0) (.e (.cst (.int 9)))) (.cons (.ret (.call i_are_apart (.cons (.e (.var 2)) (.cons (.e (.lst (.cons (.tup (.cons (.var 3) (.cons (.var 4) .nil))) .nil))) (.cons (.e (.cst (.int 0))) .nil))))) .nil) .nil) (.cons (.ifs (.cmp .eq (.v 0) (.e (.cst (.int 10)))) (.cons (.ret (.call i_free (.cons (.e (.var 2)) .nil))) .nil) .nil) (.cons (.ifs (.cmp .eq (.v 0) (.e (.cst (.int 11)))) (.cons (.ret (.call i_ports (.cons (.e (.var 2)) (.cons (.e (.var 5)) .nil)))) .nil) .nil) (.cons (.ifs (.cmp .eq (.v 0) (.e (.cst (.int 12)))) (.cons (.ret (.call i_picture (.cons (.e (.var 2)) (.cons (.e (.lst .nil)) .nil)))) .nil) .nil) (.cons (.ret (.cst (.non))) .nil))))))))))))))))))⟩
def f_law_told : Fn := ⟨2, 5, [], (.cons (.asg 2 (.cst (.non))) (.cons (.asg 3 (.cst (.non))) (.cons (.try_ (.cons (.asg 3 (.call i_law_one (.cons (.e (.var 0)) (.cons (.e (.var 1)) .nil)))) .nil) 2 4) (.cons (.ret (.ite (.is1 .isN (.v 2)) (.tup (.cons (.cst (.str [102, 111, 117, 110, 100])) (.cons (.var 3) .nil))) (.call i_law_refusal (.cons (.e (.var 2)) .nil)))) .nil))))⟩
def f_law_bad_board : Fn := ⟨3, 17, [1], (.cons (.asg 3 (.call i_law_draw (.cons (.e (.var 0)) (.cons (.m 1) (.cons (.e (.cst (.int 12))) .nil))))) (.cons (.unp [4, 5] (.var 2)) (.cons (.ifs (.cmp .lt (.v 3) (.e (.cst (.int 4)))) (.cons (.asg 6 (.call i_law_pick (.cons (.e (.var 0)) (.cons (.m 1) (.cons (.e (.lst (.cons (.tup (.cons (.cst (.int 0)) (.cons (.cst (.int 3)) .nil))) (.cons (.tup (.cons (.cst (.int 3)) (.cons (.cst (.int 13)) .nil))) (.cons (.tup (.cons (.cst (.bl true)) (.cons (.cst (.int 3)) .nil))) (.cons (.tup (.cons (.cst (.int 3)) .nil)) (.cons (.lst (.cons (.cst (.int 3)) (.cons (.cst (.int 3)) .nil))) (.cons (.tup (.cons (.cst (.int 3)) (.cons (.prim .sub (.cons (.e (.cst (.int 0))) (.cons (.e (.cst (.int 1))) .nil))) .nil))) (.cons (.cst (.non)) .nil))))))))) .nil))))) (.cons (.ret (.prim .idx (.cons (.e (.lst (.cons (.tup (.cons (.var 6) (.cons (.var 5) .nil))) (.cons (.lst (.cons (.var 4) (.cons (.var 5) .nil))) (.cons (.tup (.cons (.var 4) (.cons (.prim .listKeys (.cons (.v 5) .nil)) .nil))) (.cons (.tup (.cons (.var 4) .nil)) .nil)))))) (.cons (.v 3) .nil)))) .nil)) .nil) (.cons (.asg 7 (.prim .dictD (.cons (.v 5) .nil))) (.cons (.asg 8 (.call i_law_pick (.cons (.e (.var 0)) (.cons (.m 1) (.cons (.e (.prim .sortedKeys (.cons (.v 5) .nil))) .nil))))) (.cons (.unp [9, 10, 11, 12] (.prim .idx (.cons (.v 5) (.cons (.v 8) .nil)))) (.cons (.ifs (.cmp .lt (.v 3) (.e (.cst (.int 8)))) (.cons (.asg 6 (.lst (.cons (.tup (.cons (.var 9) (.cons (.var 10) (.cons (.var 9) (.cons (.var 10) .nil))))) (.cons (.tup (.cons (.var 11) (.cons (.var 12) (.cons (.var 11) (.cons (.var 12) .nil))))) (.cons (.tup (.cons (.cst (.int 0)) (.cons (.cst (.int 0)) (.cons (.prim .idx (.cons (.v 4) (.cons (.e (.cst (.int 0))) .nil))) (.cons (.cst (.int 0)) .nil))))) (.cons (.tup (.cons (.cst (.int 0)) (.cons (.prim .sub (.cons (.e (.cst (.int 0))) (.cons (.e (.cst (.int 1))) .nil))) (.cons (.cst (.int 0)) (.cons (.cst (.int 0)) .nil))))) .nil)))))) (.cons (.put 7 (.cst (.str [110, 101, 119])) (.prim .idx (.cons (.v 6) (.cons (.e (.prim .sub (.cons (.v 3) (.cons (.e (.cst (.int 4))) .nil)))) .nil)))) (.cons (.ret (.tup (.cons (.var 4) (.cons (.var 7) .nil)))) .nil))) .nil) (.cons (.ifs (.cmp .lt (.v 3) (.e (.cst (.int 11)))) (.cons (.asg 13 (.prim .idx (.cons (.e (.lst (.cons (.tup (.cons (.prim .add (.cons (.v 11) (.cons (.e (.cst (.int 1))) .nil))) (.cons (.var 10) (.cons (.var 11) (.cons (.var 12) .nil))))) (.cons (.tup (.cons (.var 9) (.cons (.var 10) (.cons (.var 11) .nil)))) (.cons (.lst (.cons (.var 9) (.cons (.var 10) (.cons (.var 11) (.cons (.var 12) .nil))))) .nil))))) (.cons (.e (.prim .sub (.cons (.v 3) (.cons (.e (.cst (.int 8))) .nil)))) .nil)))) (.cons (.put 7 (.var 8) (.call i_law_pick (.cons (.e (.var 0)) (.cons (.m 1) (.cons (.e (.lst (.cons (.var 13) (.cons (.var 13) (.cons (.tup (.cons (.var 9) (.cons (.var 10) (.cons (.cst (.bl true)) (.cons (.var 12) .nil))))) (.cons (.cst (.non)) .nil)))))) .nil))))) (.cons (.ret (.tup (.cons (.var 4) (.cons (.var 7) .nil)))) .nil))) .nil) (.cons (.asg 14 (.tup (.cons (.cst (.int 12)) (.cons (.cst (.int 12)) .nil)))) (.cons (.asg 15 (.prim .dictP (.cons (.e (.comp [16] (.one 16) (.rng (.cst (.int 7))) .yes (.tup (.cons (.prim .idx (.cons (.e (.cst (.str [97, 98, 99, 100, 101, 102, 103]))) (.cons (.v 16) .nil))) (.cons (.tup (.cons (.var 16) (.cons (.cst (.int 0)) (.cons (.var 16) (.cons (.cst (.int 0)) .nil))))) .nil))))) .nil))) (.cons (.asg 6 (.prim .dictP (.cons (.e (.lst (.cons (.tup (.cons (.call i_law_pick (.cons (.e (.var 0)) (.cons (.m 1) (.cons (.e (.lst (.cons (.cst (.str [])) (.cons (.cst (.str [65])) (.cons (.cst (.str [97, 98, 99, 100, 101, 102, 103, 104, 105])) (.cons (.cst (.int 1)) .nil)))))) .nil)))) (.cons (.tup (.cons (.cst (.int 0)) (.cons (.cst (.int 0)) (.cons (.cst (.int 0)) (.cons (.cst (.int 0)) .nil))))) .nil))) .nil))) .nil))) (.cons (.ret (.call i_law_pick (.cons (.e (.var 0)) (.cons (.m 1) (.cons (.e (.lst (.cons (.tup (.cons (.var 14) (.cons (.var 15) .nil))) (.cons (.tup (.cons (.var 14) (.cons (.var 6) .nil))) .nil)))) .nil))))) .nil))))))))))))⟩
def f_law_bad_port : Fn := ⟨4, 9, [1], (.cons (.unp [4, 5, 6, 7] (.prim .idx (.cons (.e (.prim .idx (.cons (.v 2) (.cons (.e (.cst (.int 1))) .nil)))) (.cons (.v 3) .nil)))) (.cons (.asg 8 (.lst (.cons (.tup (.cons (.var 3) (.cons (.cst (.str [110])) (.cons (.prim .add (.cons (.e (.prim .sub (.cons (.v 6) (.cons (.v 4) .nil)))) (.cons (.e (.cst (.int 1))) .nil))) .nil)))) (.cons (.tup (.cons (.var 3) (.cons (.cst (.str [101])) (.cons (.prim .add (.cons (.e (.prim .sub (.cons (.v 7) (.cons (.v 5) .nil)))) (.cons (.e (.cst (.int 1))) .nil))) .nil)))) (.cons (.tup (.cons (.var 3) (.cons (.cst (.str [115])) (.cons (.prim .sub (.cons (.e (.cst (.int 0))) (.cons (.e (.cst (.int 1))) .nil))) .nil)))) (.cons (.tup (.cons (.var 3) (.cons (.cst (.str [117, 112])) (.cons (.cst (.int 0)) .nil)))) .nil)))))) (.cons (.asg 8 (.prim .add (.cons (.v 8) (.cons (.e (.lst (.cons (.tup (.cons (.cst (.str [110, 111, 110, 101])) (.cons (.cst (.str [110])) (.cons (.cst (.int 0)) .nil)))) (.cons (.tup (.cons (.var 3) (.cons (.cst (.str [110])) (.cons (.cst (.bl true)) .nil)))) (.cons (.tup (.cons (.var 3) (.cons (.cst (.str [110])) .nil))) (.cons (.lst (.cons (.var 3) (.cons (.cst (.str [110])) (.cons (.cst (.int 0)) .nil)))) (.cons (.cst (.non)) (.cons (.tup (.cons (.cst (.str [])) (.cons (.cst (.str [110])) (.cons (.cst (.int 0)) .nil)))) .nil)))))))) .nil)))) (.cons (.ret (.call i_law_pick (.cons (.e (.var 0)) (.cons (.m 1) (.cons (.e (.prim .add (.cons (.v 8) (.cons (.e (.lst (.cons (.tup (.cons (.var 3) (.cons (.cst (.str [])) (.cons (.cst (.int 0)) .nil)))) .nil))) .nil)))) .nil))))) .nil))))⟩
def f_law_ends : Fn := ⟨3, 13, [1], (.cons (.asg 3 (.call i_law_pick (.cons (.e (.var 0)) (.cons (.m 1) (.cons (.e (.prim .sortedKeys (.cons (.e (.prim .idx (.cons (.v 2) (.cons (.e (.cst (.int 1))) .nil)))) .nil))) .nil))))) (.cons (.asg 4 (.call i_law_bad_port (.cons (.e (.var 0)) (.cons (.m 1) (.cons (.e (.var 2)) (.cons (.e (.var 3)) .nil)))))) (.cons (.asg 5 (.comp [11] (.one 11) (.seq (.call i_law_sides (.cons (.e (.var 2)) .nil))) (.not (.tr (.e (.call i_law_is_free (.cons (.e (.var 2)) (.cons (.e (.call i_law_foot (.cons (.e (.var 2)) (.cons (.e (.var 11)) .nil)))) .nil)))))) (.var 11))) (.cons (.asg 6 (.call i_law_ports (.cons (.e (.var 2)) .nil))) (.cons (.asg 7 (.lst (.cons (.tup (.cons (.var 4) (.cons (.cst (.int 0)) (.cons (.cst (.str [112, 111, 114, 116])) .nil)))) .nil))) (.cons (.ifs (.cmp .ne (.v 5) (.e (.lst .nil))) (.cons (.app 7 (.tup (.cons (.call i_law_pick (.cons (.e (.var 0)) (.cons (.m 1) (.cons (.e (.var 5)) .nil)))) (.cons (.var 4) (.cons (.cst (.str [102, 111, 111, 116])) .nil))))) .nil) .nil) (.cons (.ifs (.cmp .ne (.v 6) (.e (.lst .nil))) (.cons (.app 7 (.tup (.cons (.call i_law_pick (.cons (.e (.var 0)) (.cons (.m 1) (.cons (.e (.var 6)) .nil)))) (.cons (.var 4) (.cons (.cst (.str [112, 111, 114, 116])) .nil))))) .nil) .nil) (.cons (.ifs (.and (.cmp .ne (.v 6) (.e (.lst .nil))) (.cmp .ne (.v 5) (.e (.lst .nil)))) (.cons (.app 7 (.tup (.cons (.call i_law_pick (.cons (.e (.var 0)) (.cons (.m 1) (.cons (.e (.var 6)) .nil)))) (.cons (.call i_law_pick (.cons (.e (.var 0)) (.cons (.m 1) (.cons (.e (.var 5)) .nil)))) (.cons (.cst (.str [102, 111, 111, 116])) .nil))))) .nil) .nil) (.cons (.for_ (.many [8, 9, 10]) (.seq (.var 7)) (.cons (.ifs (.cmp .ne (.e (.comp [12] (.one 12) (.rng2 (.cst (.int 1)) (.cst (.int 10))) .yes (.call i_law_told (.cons (.e (.var 12)) (.cons (.e (.lst (.cons (.var 2) (.cons (.var 8) (.cons (.var 9) (.cons (.cst (.int 0)) .nil)))))) .nil))))) (.e (.prim .mul (.cons (.e (.lst (.cons (.tup (.cons (.cst (.str [114, 101, 102, 117, 115, 101, 100])) (.cons (.var 10) .nil))) .nil))) (.cons (.e (.cst (.int 9))) .nil))))) (.cons (.ret (.cst (.bl false))) .nil) .nil) .nil)) (.cons (.ret (.prim .eq (.cons (.e (.call i_law_told (.cons (.e (.cst (.int 0))) (.cons (.e (.lst (.cons (.var 2) (.cons (.var 4) (.cons (.cst (.int 0)) (.cons (.cst (.int 0)) .nil)))))) .nil)))) (.cons (.e (.tup (.cons (.cst (.str [114, 101, 102, 117, 115, 101, 100])) (.cons (.cst (.str [112, 111, 114, 116])) .nil)))) .nil)))) .nil))))))))))⟩
def f_law_sides : Fn := ⟨1, 10, [], (.cons (.asg 1 (.lst .nil)) (.cons (.for_ (.one 2) (.seq (.prim .sortedKeys (.cons (.e (.prim .idx (.cons (.v 0) (.cons (.e (.cst (.int 1))) .nil)))) .nil))) (.cons (.unp [3, 4, 5, 6] (.prim .idx (.cons (.e (.prim .idx (.cons (.v 0) (.cons (.e (.cst (.int 1))) .nil)))) (.cons (.v 2) .nil)))) (.cons (.for_ (.one 7) (.seq (.cst (.str [110, 101, 115, 119]))) (.cons (.asg 8 (.prim .add (.cons (.e (.cst (.int 1))) (.cons (.e (.ite (.cmp .inn (.v 7) (.e (.tup (.cons (.cst (.str [110])) (.cons (.cst (.str [115])) .nil))))) (.prim .sub (.cons (.v 5) (.cons (.v 3) .nil))) (.prim .sub (.cons (.v 6) (.cons (.v 4) .nil))))) .nil)))) (.cons (.asg 1 (.prim .add (.cons (.v 1) (.cons (.e (.comp [9] (.one 9) (.rng (.var 8)) .yes (.tup (.cons (.var 2) (.cons (.var 7) (.cons (.var 9) .nil)))))) .nil)))) .nil))) .nil))) (.cons (.ret (.mov 1)) .nil)))⟩
def f_law : Fn := ⟨1, 12, [], (.cons (.asg 1 (.lst .nil)) (.cons (.asg 2 (.call i_law_draw (.cons (.e (.var 0)) (.cons (.m 1) (.cons (.e (.cst (.int 6))) .nil))))) (.cons (.asg 3 (.call i_law_board (.cons (.e (.var 0)) (.cons (.m 1) (.cons (.e (.cst (.int 12))) .nil))))) (.cons (.asg 4 (.lst .nil)) (.cons (.for_ (.one 5) (.rng (.prim .idx (.cons (.e (.prim .idx (.cons (.v 3) (.cons (.e (.cst (.int 0))) .nil)))) (.cons (.e (.cst (.int 1))) .nil)))) (.cons (.asg 4 (.prim .add (.cons (.v 4) (.cons (.e (.comp [10] (.one 10) (.rng (.prim .idx (.cons (.e (.prim .idx (.cons (.v 3) (.cons (.e (.cst (.int 0))) .nil)))) (.cons (.e (.cst (.int 0))) .nil)))) (.tr (.e (.call i_law_is_free (.cons (.e (.var 3)) (.cons (.e (.tup (.cons (.var 10) (.cons (.var 5) .nil)))) .nil))))) (.tup (.cons (.var 10) (.cons (.var 5) .nil))))) .nil)))) .nil)) (.cons (.ifs (.or (.cmp .ne (.e (.call i_free (.cons (.e (.var 3)) .nil))) (.v 4)) (.cmp .ne (.e (.call i_free (.cons (.e (.tup (.cons (.tup (.cons (.cst (.int 1)) (.cons (.cst (.int 3)) .nil))) (.cons (.dct .nil) .nil)))) .nil))) (.e (.lst (.cons (.tup (.cons (.cst (.int 0)) (.cons (.cst (.int 0)) .nil))) (.cons (.tup (.cons (.cst (.int 0)) (.cons (.cst (.int 1)) .nil))) (.cons (.tup (.cons (.cst (.int 0)) (.cons (.cst (.int 2)) .nil))) .nil))))))) (.cons (.ret (.cst (.bl false))) .nil) .nil) (.cons (.for_ (.one 6) (.seq (.prim .sortedKeys (.cons (.e (.prim .idx (.cons (.v 3) (.cons (.e (.cst (.int 1))) .nil)))) .nil))) (.cons (.ifs (.cmp .ne (.e (.call i_ports (.cons (.e (.var 3)) (.cons (.e (.var 6)) .nil)))) (.e (.call i_law_all_ports (.cons (.e (.var 3)) (.cons (.e (.var 6)) .nil))))) (.cons (.ret (.cst (.bl false))) .nil) .nil) (.cons (.for_ (.one 7) (.seq (.call i_law_all_ports (.cons (.e (.var 3)) (.cons (.e (.var 6)) .nil)))) (.cons (.ifs (.cmp .ne (.e (.call i_foot (.cons (.e (.var 3)) (.cons (.e (.var 7)) .nil)))) (.e (.call i_law_foot (.cons (.e (.var 3)) (.cons (.e (.var 7)) .nil))))) (.cons (.ret (.cst (.bl false))) .nil) .nil) .nil)) .nil))) (.cons (.asg 8 (.call i_law_bad_board (.cons (.e (.var 0)) (.cons (.m 1) (.cons (.e (.var 3)) .nil))))) (.cons (.ifs (.cmp .ne (.e (.comp [11] (.one 11) (.rng (.cst (.int 13))) .yes (.call i_law_told (.cons (.e (.var 11)) (.cons (.e (.lst (.cons (.var 8) (.cons (.cst (.int 0)) (.cons (.cst (.int 0)) (.cons (.cst (.int 0)) .nil)))))) .nil))))) (.e (.prim .mul (.cons (.e (.lst (.cons (.tup (.cons (.cst (.str [114, 101, 102, 117, 115, 101, 100])) (.cons (.cst (.str [98, 111, 97, 114, 100])) .nil))) .nil))) (.cons (.e (.cst (.int 13))) .nil))))) (.cons (.ret (.cst (.bl false))) .nil) .nil) (.cons (.for_ (.one 9) (.seq (.lst (.cons (.tup (.cons (.cst (.int 2)) (.cons (.cst (.int 0)) (.cons (.cst (.int 1)) (.cons (.cst (.int 0)) .nil))))) (.cons (.tup (.cons (.cst (.int 0)) (.cons (.cst (.int 2)) (.cons (.cst (.int 0)) (.cons (.cst (.int 1)) .nil))))) (.cons (.tup (.cons (.cst (.int 0)) (.cons (.cst (.int 0)) (.cons (.cst (.int 3)) (.cons (.cst (.int 0)) .nil))))) (.cons (.tup (.cons (.cst (.int 0)) (.cons (.cst (.int 0)) (.cons (.cst (.int 0)) (.cons (.cst (.int 3)) .nil))))) .nil)))))) (.cons (.ifs (.cmp .ne (.e (.call i_law_told (.cons (.e (.cst (.int 10))) (.cons (.e (.lst (.cons (.tup (.cons (.tup (.cons (.cst (.int 3)) (.cons (.cst (.int 3)) .nil))) (.cons (.dct (.cons (.cst (.str [97])) (.cons (.var 9) .nil))) .nil))) (.cons (.cst (.int 0)) (.cons (.cst (.int 0)) (.cons (.cst (.int 0)) .nil)))))) .nil)))) (.e (.tup (.cons (.cst (.str [114, 101, 102, 117, 115, 101, 100])) (.cons (.cst (.str [98, 111, 97, 114, 100])) .nil))))) (.cons (.ret (.cst (.bl false))) .nil) .nil) .nil)) (.cons (.ifs (.cmp .ne (.e (.call i_law_told (.cons (.e (.cst (.int 11))) (.cons (.e (.lst (.cons (.var 3) (.cons (.cst (.int 0)) (.cons (.cst (.int 0)) (.cons (.prim .idx (.cons (.e (.lst (.cons (.cst (.str [110, 111, 98, 111, 120])) (.cons (.cst (.str [])) (.cons (.cst (.str [65])) (.cons (.cst (.non)) (.cons (.cst (.int 1)) (.cons (.cst (.str [97, 98, 99, 100, 101, 102, 103, 104, 105])) .nil)))))))) (.cons (.v 2) .nil))) .nil)))))) .nil)))) (.e (.tup (.cons (.cst (.str [114, 101, 102, 117, 115, 101, 100])) (.cons (.cst (.str [112, 111, 114, 116])) .nil))))) (.cons (.ret (.cst (.bl false))) .nil) .nil) (.cons (.ret (.call i_law_ends (.cons (.e (.var 0)) (.cons (.m 1) (.cons (.e (.var 3)) .nil))))) .nil))))))))))))⟩
def tbl : Table := [f_is_whole,
  f_is_name,
  f_is_size,
  f_is_box,
  f_are_off,
  f_look_board,
  f_is_in,
  f_is_free,
  f_free,
  f_free_places,
  f_is_port,
  f_look_port,
  f_step,
  f_foot_of,
  f_look_foot,
  f_look_pair,
  f_foot,
  f_ports,
  f_look_ends,
  f_open_steps,
  f_end_cost,
  f_to_go,
  f_put_behind,
  f_costs,
  f_walk,
  f_corners,
  f_best,
  f_least,
  f_line,
  f_is_point,
  f_heading_of,
  f_headings_in,
  f_places,
  f_is_led,
  f_is_line,
  f_worth,
  f_look_lines,
  f_through,
  f_look_wires,
  f_laid,
  f_barred,
  f_may_step,
  f_left_steps,
  f_apart,
  f_are_apart,
  f_may_both,
  f_is_cross,
  f_paper,
  f_is_worth,
  f_are_states,
  f_is_sound,
  f_shows,
  f_picture,
  f_law_cell,
  f_law_mix,
  f_law_draw,
  f_law_pick,
  f_law_refusal,
  f_law_box,
  f_law_off,
  f_law_board,
  f_law_is_free,
  f_law_foot,
  f_law_all_ports,
  f_law_ports,
  f_law_one,
  f_law_told,
  f_law_bad_board,
  f_law_bad_port,
  f_law_ends,
  f_law_sides,
  f_law]
def lawIx : Nat := 71
end Rl
set_option autoImplicit false
set_option linter.all false
/-! Roundlines, plain 1: how the evaluator goes, as rules for simp. -/
namespace Rl.Pl

/-! ### small rules -/
/-- keeps simp from taking a rule as mere reduction: the kernel would then run the program -/
theorem loud {α : Type} {x y : α} (h : x = y) : x = y := h
@[simp] theorem rbind_ok {α β : Type} (a : α) (Γ : Env) (f : α → Env → R β) : (R.ok a Γ).bind f = f a Γ := loud rfl
@[simp] theorem rbind_ex {α β : Type} (k : String) (Γ : Env) (f : α → Env → R β) : (R.ex k Γ : R α).bind f = .ex k Γ := loud rfl
@[simp] theorem rsr_ok {α : Type} (a : α) (Γ : Env) (f : α → Env → SR) : (R.ok a Γ).sr f = f a Γ := loud rfl
@[simp] theorem rsr_ex {α : Type} (k : String) (Γ : Env) (f : α → Env → SR) : (R.ex k Γ : R α).sr f = .ex k Γ := loud rfl
@[simp] theorem rbind_ite {α β : Type} (c : Prop) [Decidable c] (x y : R α) (f : α → Env → R β) : (if c then x else y).bind f = if c then x.bind f else y.bind f := by split <;> rfl
@[simp] theorem rsr_ite {α : Type} (c : Prop) [Decidable c] (x y : R α) (f : α → Env → SR) : (if c then x else y).sr f = if c then x.sr f else y.sr f := by split <;> rfl
@[simp] theorem then_nx (Γ : Env) (f : Env → SR) : (SR.nx Γ).then_ f = f Γ := loud rfl
@[simp] theorem then_rt (r : SD) (Γ : Env) (f : Env → SR) : (SR.rt r Γ).then_ f = .rt r Γ := loud rfl
@[simp] theorem then_bk (Γ : Env) (f : Env → SR) : (SR.bk Γ).then_ f = .bk Γ := loud rfl
@[simp] theorem then_ct (Γ : Env) (f : Env → SR) : (SR.ct Γ).then_ f = .ct Γ := loud rfl
@[simp] theorem then_ex (k : String) (Γ : Env) (f : Env → SR) : (SR.ex k Γ).then_ f = .ex k Γ := loud rfl
@[simp] theorem then_ite (c : Prop) [Decidable c] (x y : SR) (f : Env → SR) : (if c then x else y).then_ f = if c then x.then_ f else y.then_ f := by split <;> rfl
@[simp] theorem ok_ite (c : Prop) [Decidable c] (s : Sh) (x y : Bool) (Γ : Env) : (if c then R.ok (s, D.bl x) Γ else R.ok (s, D.bl y) Γ) = R.ok (s, D.bl (if c then x else y)) Γ := by split <;> rfl
@[simp] theorem ok_iteB (c : Prop) [Decidable c] (x y : Bool) (Γ : Env) : (if c then R.ok x Γ else R.ok y Γ) = R.ok (if c then x else y) Γ := by split <;> rfl
@[simp] theorem rt_ite (c : Prop) [Decidable c] (s : Sh) (x y : Bool) (Γ : Env) : (if c then SR.rt (s, D.bl x) Γ else SR.rt (s, D.bl y) Γ) = SR.rt (s, D.bl (if c then x else y)) Γ := by split <;> rfl

@[simp] theorem slot_zero (x : Option SD) (Γ : Env) : slot (x :: Γ) 0 = x := loud rfl
@[simp] theorem slot_succ (x : Option SD) (Γ : Env) (i : Nat) : slot (x :: Γ) (i + 1) = slot Γ i := by unfold slot; simp
@[simp] theorem slot_1 (x : Option SD) (Γ : Env) : slot (x :: Γ) 1 = slot Γ 0 := slot_succ ..
@[simp] theorem slot_2 (x : Option SD) (Γ : Env) : slot (x :: Γ) 2 = slot Γ 1 := slot_succ ..
@[simp] theorem slot_3 (x : Option SD) (Γ : Env) : slot (x :: Γ) 3 = slot Γ 2 := slot_succ ..
@[simp] theorem slot_4 (x : Option SD) (Γ : Env) : slot (x :: Γ) 4 = slot Γ 3 := slot_succ ..
@[simp] theorem slot_5 (x : Option SD) (Γ : Env) : slot (x :: Γ) 5 = slot Γ 4 := slot_succ ..
@[simp] theorem slot_6 (x : Option SD) (Γ : Env) : slot (x :: Γ) 6 = slot Γ 5 := slot_succ ..
@[simp] theorem slot_7 (x : Option SD) (Γ : Env) : slot (x :: Γ) 7 = slot Γ 6 := slot_succ ..
@[simp] theorem slot_8 (x : Option SD) (Γ : Env) : slot (x :: Γ) 8 = slot Γ 7 := slot_succ ..
@[simp] theorem slot_9 (x : Option SD) (Γ : Env) : slot (x :: Γ) 9 = slot Γ 8 := slot_succ ..
@[simp] theorem slot_10 (x : Option SD) (Γ : Env) : slot (x :: Γ) 10 = slot Γ 9 := slot_succ ..
@[simp] theorem slot_11 (x : Option SD) (Γ : Env) : slot (x :: Γ) 11 = slot Γ 10 := slot_succ ..
@[simp] theorem slot_12 (x : Option SD) (Γ : Env) : slot (x :: Γ) 12 = slot Γ 11 := slot_succ ..
@[simp] theorem slot_13 (x : Option SD) (Γ : Env) : slot (x :: Γ) 13 = slot Γ 12 := slot_succ ..
@[simp] theorem slot_14 (x : Option SD) (Γ : Env) : slot (x :: Γ) 14 = slot Γ 13 := slot_succ ..
@[simp] theorem slot_15 (x : Option SD) (Γ : Env) : slot (x :: Γ) 15 = slot Γ 14 := slot_succ ..
@[simp] theorem slot_16 (x : Option SD) (Γ : Env) : slot (x :: Γ) 16 = slot Γ 15 := slot_succ ..

@[simp] theorem get_v (Γ : Env) (i : Nat) : Pd.get Γ (.v i) = (slot Γ i).map (·.2) := loud rfl
@[simp] theorem get_d (Γ : Env) (x : D) : Pd.get Γ (.d x) = some x := loud rfl
/-- one read behind the other -/
def gets1 : Option D → Option (List D) → Option (List D)
  | some d, some ds => some (d :: ds)
  | _, _ => none
@[simp] theorem gets_nil (Γ : Env) : gets Γ [] = some [] := loud rfl
@[simp] theorem gets_cons (Γ : Env) (p : Pd) (r : List Pd) : gets Γ (p :: r) = gets1 (p.get Γ) (gets Γ r) := by
  simp only [gets]
  cases p.get Γ <;> cases gets Γ r <;> rfl
@[simp] theorem gets1_some (d : D) (ds : List D) : gets1 (some d) (some ds) = some (d :: ds) := loud rfl

@[simp] theorem lm_1 : 1 ≤ most := by decide
@[simp] theorem lm_2 : 2 ≤ most := by decide
@[simp] theorem lm_3 : 3 ≤ most := by decide
@[simp] theorem lm_4 : 4 ≤ most := by decide
@[simp] theorem lm_5 : 5 ≤ most := by decide
@[simp] theorem lm_6 : 6 ≤ most := by decide
@[simp] theorem lm_7 : 7 ≤ most := by decide
@[simp] theorem lm_8 : 8 ≤ most := by decide
@[simp] theorem lm_9 : 9 ≤ most := by decide
@[simp] theorem lm_10 : 10 ≤ most := by decide
@[simp] theorem lm_11 : 11 ≤ most := by decide
@[simp] theorem lm_12 : 12 ≤ most := by decide
@[simp] theorem lm_13 : 13 ≤ most := by decide
@[simp] theorem lm_14 : 14 ≤ most := by decide
@[simp] theorem lm_15 : 15 ≤ most := by decide
@[simp] theorem lm_16 : 16 ≤ most := by decide
@[simp] theorem lm_17 : 17 ≤ most := by decide
@[simp] theorem lm_18 : 18 ≤ most := by decide
@[simp] theorem lm_19 : 19 ≤ most := by decide
@[simp] theorem lm_20 : 20 ≤ most := by decide
@[simp] theorem lm_lt0 : 0 < most := by decide
/-! ### combinators -/
def okO (o : Option SD) (Γ : Env) : R SD := match o with
  | some r => .ok r Γ
  | none => .bad
@[simp] theorem okO_some (r : SD) (Γ : Env) : okO (some r) Γ = .ok r Γ := loud rfl
def okB (o : Option SD) (Γ : Env) : R Bool := match o with
  | some (_, .bl b) => .ok b Γ
  | _ => .bad
@[simp] theorem okB_some (s : Sh) (b : Bool) (Γ : Env) : okB (some (s, .bl b)) Γ = .ok b Γ := loud rfl
def ifB {α : Type} (x : D) (a b : α) (z : α) : α := match x with
  | .bl true => a
  | .bl false => b
  | _ => z
@[simp] theorem ifB_bl {α : Type} (c : Bool) (a b z : α) : ifB (.bl c) a b z = if c = true then a else b := by cases c <;> rfl
def ifSome (x : Option SD) (f : SD → R SD) : R SD := match x with
  | some y => f y
  | none => .bad
@[simp] theorem ifSome_some (y : SD) (f : SD → R SD) : ifSome (some y) f = f y := loud rfl

section
variable (C : Calls) (wf : Nat)
@[simp] theorem ev_cst (d : D) (Γ : Env) : ev C (.cst d) Γ = .ok (.fz, d) Γ := by simp only [ev]
@[simp] theorem ev_glo (i : Nat) (d : D) (Γ : Env) : ev C (.glo i d) Γ = .ok (.fz, d) Γ := by simp only [ev]
@[simp] theorem ev_var (i : Nat) (Γ : Env) : ev C (.var i) Γ = ifSome (slot Γ i) fun x => .ok (.fz, x.2) (Γ.set i (some (.fz, x.2))) := by
  simp only [ev]
  cases slot Γ i <;> rfl
@[simp] theorem ev_mov (i : Nat) (Γ : Env) : ev C (.mov i) Γ = ifSome (slot Γ i) fun x => .ok x (Γ.set i none) := by
  simp only [ev]
  cases slot Γ i <;> rfl
@[simp] theorem ev_tup (es : TEs) (Γ : Env) : ev C (.tup es) Γ = (evs C es Γ).bind fun ds Γ => if ds.length ≤ most then .ok (.fz, .tup ds) Γ else .bad := by simp only [ev]
@[simp] theorem ev_lst (es : TEs) (Γ : Env) : ev C (.lst es) Γ = (evs C es Γ).bind fun ds Γ => if ds.length ≤ most then .ok (.own, .lst ds) Γ else .bad := by simp only [ev]
def dctR (ds : List D) (Γ : Env) : R SD := match dctOf ds with
    | some ps => (match putP ps [] [] with
      | some r => if ps.length ≤ 15 && ps.all (fun p => p.1.leaf) then .ok (.own, .dct r.1 r.2) Γ else .bad
      | none => .bad)
    | none => .bad
@[simp] theorem ev_dct (es : TEs) (Γ : Env) : ev C (.dct es) Γ = (evs C es Γ).bind dctR := by simp only [ev]; rfl
@[simp] theorem ev_prim (p : P) (os : TOs) (Γ : Env) : ev C (.prim p os) Γ = (evOs C os Γ).bind fun ps Γ => okO ((gets Γ ps).bind (prim p)) Γ := by
  simp only [ev]; rfl
def methR (p : P) (x : Pd) (es : Env → R (List D)) (Γ : Env) : R SD := match (x.get Γ).map (recvK p) with
    | some true => (es Γ).bind fun ds Γ => okO ((x.get Γ).bind (fun d => prim p (d :: ds))) Γ
    | _ => .bad
theorem methR_ok {p : P} {x : Pd} {es : Env → R (List D)} {Γ : Env} {d : D} (h : x.get Γ = some d) (h2 : recvK p d = true) : methR p x es Γ = (es Γ).bind fun ds Γ => okO ((x.get Γ).bind (fun d => prim p (d :: ds))) Γ := by
  unfold methR
  rw [h, Option.map_some, h2]
@[simp] theorem ev_meth (p : P) (o : TO) (es : TEs) (Γ : Env) : ev C (.meth p o es) Γ = (evO C o Γ).bind fun x Γ => methR p x (evs C es) Γ := by simp only [ev]; rfl
@[simp] theorem ev_slc (o : TO) (lo hi : TE) (Γ : Env) : ev C (.slc o lo hi) Γ = (evO C o Γ).bind fun x Γ => (partOf (isNo lo) (ev C lo) Γ).bind fun l Γ => (partOf (isNo hi) (ev C hi) Γ).bind fun h Γ => okO ((x.get Γ).bind (sliceD l h)) Γ := by simp only [ev]; rfl
/-- what comes back from a call -/
def aftR (Γ : Env) (ps : List Pd) : CR → R SD
  | .ok r ms => (match backTo Γ ps ms with
    | some Γ' => .ok r Γ'
    | none => .bad)
  | .ex k ms => (match backTo Γ ps ms with
    | some Γ' => .ex k Γ'
    | none => .bad)
  | .bad => .bad
def callR (f : Nat) (ps : List Pd) (Γ : Env) : R SD := match onceM ps with
    | false => .bad
    | true => match argsOf Γ ps with
      | none => .bad
      | some as => aftR Γ ps (C f as)
@[simp] theorem ev_call (f : Nat) (os : TOs) (Γ : Env) : ev C (.call f os) Γ = (evAs C os Γ).bind fun ps Γ => callR C f ps Γ := by
  simp only [ev]
  congr 1
@[simp] theorem ev_ite (c : TT) (a b : TE) (Γ : Env) : ev C (.ite c a b) Γ = (evT C c Γ).bind fun x Γ => if x = true then ev C a Γ else ev C b Γ := by
  simp only [ev]
  congr 1
  funext x Γ
  cases x <;> rfl
@[simp] theorem ev_band (a b : TE) (Γ : Env) : ev C (.band a b) Γ = (ev C a Γ).bind fun x Γ => ifB x.2 (ev C b Γ) (.ok (.fz, .bl false) Γ) .bad := by
  simp only [ev]
  congr 1
@[simp] theorem ev_bor (a b : TE) (Γ : Env) : ev C (.bor a b) Γ = (ev C a Γ).bind fun x Γ => ifB x.2 (.ok (.fz, .bl true) Γ) (ev C b Γ) .bad := by
  simp only [ev]
  congr 1
  funext x Γ
  unfold ifB
  cases x.2 <;> try rfl
  rename_i q
  cases q <;> rfl
def notR (x : D) (Γ : Env) : R SD := match x with
    | .bl b => .ok (.fz, .bl (!b)) Γ
    | _ => .bad
@[simp] theorem notR_bl (b : Bool) (Γ : Env) : notR (.bl b) Γ = .ok (.fz, .bl (!b)) Γ := loud rfl
@[simp] theorem ev_bnot (a : TE) (Γ : Env) : ev C (.bnot a) Γ = (ev C a Γ).bind fun x Γ => notR x.2 Γ := by simp only [ev]; rfl
@[simp] theorem ev_chain (p q : P) (a b c : TO) (Γ : Env) : ev C (.chain p q a b c) Γ = (chn p q (evO C a) (evO C b) (evO C c) Γ).bind fun x Γ => .ok (.fz, .bl x) Γ := by simp only [ev]
@[simp] theorem chn_eq (p q : P) (a b c : Env → R Pd) (Γ : Env) : chn p q a b c Γ = (a Γ).bind fun x Γ => (b Γ).bind fun y Γ => (okB ((gets Γ [x, y]).bind (prim p)) Γ).bind fun r Γ => if r = true then (c Γ).bind fun z Γ => okB ((gets Γ [y, z]).bind (prim q)) Γ else .ok false Γ := by
  unfold chn
  congr 1
  funext x Γ
  congr 1
  funext y Γ
  cases (gets Γ [x, y]).bind (prim p) with
  | none => rfl
  | some r =>
    obtain ⟨s, d⟩ := r
    cases d <;> try rfl
    rename_i b
    cases b <;> try rfl
@[simp] theorem evs_nil (Γ : Env) : evs C .nil Γ = .ok [] Γ := by simp only [evs]
@[simp] theorem evs_cons (e : TE) (es : TEs) (Γ : Env) : evs C (.cons e es) Γ = (ev C e Γ).bind fun x Γ => (evs C es Γ).bind fun xs Γ => .ok (x.2 :: xs) Γ := by simp only [evs]
@[simp] theorem evOs_nil (Γ : Env) : evOs C .nil Γ = .ok [] Γ := by simp only [evOs]
@[simp] theorem evOs_cons (e : TO) (es : TOs) (Γ : Env) : evOs C (.cons e es) Γ = (evO C e Γ).bind fun x Γ => (evOs C es Γ).bind fun xs Γ => .ok (x :: xs) Γ := by simp only [evOs]
@[simp] theorem evAs_nil (Γ : Env) : evAs C .nil Γ = .ok [] Γ := by simp only [evAs]
@[simp] theorem evAs_cons (e : TO) (es : TOs) (Γ : Env) : evAs C (.cons e es) Γ = (evA C e Γ).bind fun x Γ => (evAs C es Γ).bind fun xs Γ => .ok (x :: xs) Γ := by simp only [evAs]
def ifSomeP (x : Option SD) (r : R Pd) : R Pd := match x with
  | some _ => r
  | none => .bad
@[simp] theorem ifSomeP_some (y : SD) (r : R Pd) : ifSomeP (some y) r = r := loud rfl
@[simp] theorem evO_v (i : Nat) (Γ : Env) : evO C (.v i) Γ = ifSomeP (slot Γ i) (.ok (.v i) Γ) := by
  simp only [evO]
  cases slot Γ i <;> rfl
@[simp] theorem evO_e (t : TE) (Γ : Env) : evO C (.e t) Γ = (ev C t Γ).bind fun x Γ => .ok (.d x.2) Γ := by simp only [evO]
def ifOwn (x : Option SD) (r : R Pd) : R Pd := match x with
  | some (.own, _) => r
  | _ => .bad
@[simp] theorem ifOwn_some (y : D) (r : R Pd) : ifOwn (some (.own, y)) r = r := loud rfl
@[simp] theorem evA_m (i : Nat) (Γ : Env) : evA C (.m i) Γ = ifOwn (slot Γ i) (.ok (.v i) Γ) := by
  simp only [evA]
  rcases slot Γ i with _ | ⟨_ | _, _⟩ <;> rfl
@[simp] theorem evA_e (t : TE) (Γ : Env) : evA C (.e t) Γ = (ev C t Γ).bind fun x Γ => .ok (.d x.2) Γ := by simp only [evA]
@[simp] theorem evT_yes (Γ : Env) : evT C .yes Γ = .ok true Γ := by simp only [evT]
@[simp] theorem evT_is1 (p : P) (o : TO) (Γ : Env) : evT C (.is1 p o) Γ = (evO C o Γ).bind fun x Γ => okB ((gets Γ [x]).bind (prim p)) Γ := by
  simp only [evT]
  congr 1
def trR (o : Option Bool) (Γ : Env) : R Bool := match o with
    | some b => .ok b Γ
    | none => .bad
@[simp] theorem trR_some (b : Bool) (Γ : Env) : trR (some b) Γ = .ok b Γ := loud rfl
@[simp] theorem evT_tr (o : TO) (Γ : Env) : evT C (.tr o) Γ = (evO C o Γ).bind fun p Γ => trR ((p.get Γ).bind truth) Γ := by simp only [evT]; rfl
@[simp] theorem evT_cmp (p : P) (a b : TO) (Γ : Env) : evT C (.cmp p a b) Γ = (evO C a Γ).bind fun x Γ => (evO C b Γ).bind fun y Γ => okB ((gets Γ [x, y]).bind (prim p)) Γ := by
  simp only [evT]
  rfl
@[simp] theorem evT_chn (p q : P) (a b c : TO) (Γ : Env) : evT C (.chn p q a b c) Γ = chn p q (evO C a) (evO C b) (evO C c) Γ := by simp only [evT]
@[simp] theorem evT_not (a : TT) (Γ : Env) : evT C (.not a) Γ = (evT C a Γ).bind fun b Γ => .ok (!b) Γ := by simp only [evT]
@[simp] theorem evT_and (a b : TT) (Γ : Env) : evT C (.and a b) Γ = (evT C a Γ).bind fun x Γ => if x = true then evT C b Γ else .ok false Γ := by
  simp only [evT]
  congr 1
  funext x Γ
  cases x <;> rfl
@[simp] theorem evT_or (a b : TT) (Γ : Env) : evT C (.or a b) Γ = (evT C a Γ).bind fun x Γ => if x = true then .ok true Γ else evT C b Γ := by
  simp only [evT]
  congr 1
  funext x Γ
  cases x <;> rfl
@[simp] theorem evI_seq (e : TE) (Γ : Env) : evI C (.seq e) Γ = (ev C e Γ).bind fun x Γ => oneOf (seqD x.2) Γ := by simp only [evI]
@[simp] theorem oneOf_some {α : Type} (a : α) (Γ : Env) : oneOf (some a) Γ = .ok a Γ := loud rfl
@[simp] theorem seqD_lst (l : List D) : seqD (.lst l) = some l := loud rfl
@[simp] theorem seqD_tup (l : List D) : seqD (.tup l) = some l := loud rfl
@[simp] theorem seqD_str (l : List Nat) : seqD (.str l) = some (l.map fun c => .str [c]) := loud rfl
def rngR (x : D) (Γ : Env) : R (List D) := match x with
    | .int b => if rngOk b then .ok (rangeD 0 b) Γ else .bad
    | _ => .bad
theorem rngR_int (b : Int) (Γ : Env) : rngR (.int b) Γ = if rngOk b = true then .ok (rangeD 0 b) Γ else .bad := rfl
@[simp] theorem evI_rng (a : TE) (Γ : Env) : evI C (.rng a) Γ = (ev C a Γ).bind fun x Γ => rngR x.2 Γ := by simp only [evI]; rfl
def rng2R (x y : D) (Γ : Env) : R (List D) := match x, y with
    | .int a, .int b => if rngOk a && rngOk b then .ok (rangeD a b) Γ else .bad
    | _, _ => .bad
theorem rng2R_int (a b : Int) (Γ : Env) : rng2R (.int a) (.int b) Γ = if (rngOk a && rngOk b) = true then .ok (rangeD a b) Γ else .bad := rfl
@[simp] theorem evI_rng2 (a b : TE) (Γ : Env) : evI C (.rng2 a b) Γ = (ev C a Γ).bind fun x Γ => (ev C b Γ).bind fun y Γ => rng2R x.2 y.2 Γ := by simp only [evI]; rfl
def keysR (x : D) (Γ : Env) : R (List D) := match x with
    | .dct ks _ => .ok ks Γ
    | _ => .bad
def valsR (x : D) (Γ : Env) : R (List D) := match x with
    | .dct _ vs => .ok vs Γ
    | _ => .bad
@[simp] theorem keysR_dct (ks vs : List D) (Γ : Env) : keysR (.dct ks vs) Γ = .ok ks Γ := loud rfl
@[simp] theorem valsR_dct (ks vs : List D) (Γ : Env) : valsR (.dct ks vs) Γ = .ok vs Γ := loud rfl
@[simp] theorem evI_keys (e : TE) (Γ : Env) : evI C (.keys e) Γ = (ev C e Γ).bind fun x Γ => keysR x.2 Γ := by simp only [evI]; rfl
@[simp] theorem evI_vals (e : TE) (Γ : Env) : evI C (.vals e) Γ = (ev C e Γ).bind fun x Γ => valsR x.2 Γ := by simp only [evI]; rfl

/-! ### statements -/
@[simp] theorem ex_asg (i : Nat) (e : TE) (Γ : Env) : ex C wf (.asg i e) Γ = (ev C e Γ).sr fun x Γ => .nx (Γ.set i (some x)) := by simp only [ex]
def nxO (o : Option Env) : SR := match o with
    | some Γ' => .nx Γ'
    | none => .bad
@[simp] theorem nxO_some (Γ : Env) : nxO (some Γ) = .nx Γ := loud rfl
@[simp] theorem ex_unp (is : List Nat) (e : TE) (Γ : Env) : ex C wf (.unp is e) Γ = (ev C e Γ).sr fun x Γ => nxO (bindT (.many is) x.2 Γ) := by simp only [ex]; rfl
@[simp] theorem ex_par (i j : Nat) (a b : TE) (Γ : Env) : ex C wf (.par i j a b) Γ = (ev C a Γ).sr fun x Γ => (ev C b Γ).sr fun y Γ => .nx ((Γ.set i (some (.fz, x.2))).set j (some (.fz, y.2))) := by simp only [ex]
def putR (i : Nat) (x y : D) (Γ : Env) : SR := match slot Γ i with
      | some (.own, .dct ks vs) => if fits ks y && decide (ks.length < most) then .nx (Γ.set i (some (.own, .dct (putK ks y) (putV ks vs y x)))) else .bad
      | some (.own, .lst l) => (match y with
        | .int n => if 0 ≤ n ∧ n < l.length then .nx (Γ.set i (some (.own, .lst (l.set n.toNat x)))) else .bad
        | _ => .bad)
      | _ => .bad
def ifSomeS (x : Option SD) (r : SR) : SR := match x with
  | some _ => r
  | none => .bad
@[simp] theorem ifSomeS_some (y : SD) (r : SR) : ifSomeS (some y) r = r := loud rfl
@[simp] theorem ex_put (i : Nat) (k e : TE) (Γ : Env) : ex C wf (.put i k e) Γ = (ev C e Γ).sr fun x Γ => ifSomeS (slot Γ i) ((ev C k Γ).sr fun y Γ => putR i x.2 y.2 Γ) := by
  simp only [ex]
  congr 1
  funext x Γ
  cases slot Γ i <;> rfl
theorem putR_dct {i : Nat} {x y : D} {Γ : Env} {ks vs : List D} (h : slot Γ i = some (.own, .dct ks vs)) (hf : fits ks y = true) (hl : ks.length < most) : putR i x y Γ = .nx (Γ.set i (some (.own, .dct (putK ks y) (putV ks vs y x)))) := by
  unfold putR
  simp [h, hf, hl]
def ifLst (x : Option SD) (r : SR) : SR := match x with
  | some (.own, .lst _) => r
  | _ => .bad
@[simp] theorem ifLst_own (l : List D) (r : SR) : ifLst (some (.own, .lst l)) r = r := loud rfl
def appR (i : Nat) (x : D) (Γ : Env) : SR := match slot Γ i with
      | some (.own, .lst l) => if l.length < most then .nx (Γ.set i (some (.own, .lst (l ++ [x])))) else .bad
      | _ => .bad
theorem appR_ok {i : Nat} {x : D} {Γ : Env} {l : List D} (h : slot Γ i = some (.own, .lst l)) (hl : l.length < most) : appR i x Γ = .nx (Γ.set i (some (.own, .lst (l ++ [x])))) := by
  unfold appR
  simp [h, hl]
@[simp] theorem ex_app (i : Nat) (e : TE) (Γ : Env) : ex C wf (.app i e) Γ = ifLst (slot Γ i) ((ev C e Γ).sr fun x Γ => appR i x.2 Γ) := by
  simp only [ex]
  rcases slot Γ i with _ | ⟨_ | _, d⟩ <;> try rfl
def extR (i : Nat) (x : D) (Γ : Env) : SR := match x, slot Γ i with
      | .lst m, some (.own, .lst l) => if l.length + m.length ≤ most then .nx (Γ.set i (some (.own, .lst (l ++ m)))) else .bad
      | _, _ => .bad
theorem extR_ok {i : Nat} {m : List D} {Γ : Env} {l : List D} (h : slot Γ i = some (.own, .lst l)) (hl : l.length + m.length ≤ most) : extR i (.lst m) Γ = .nx (Γ.set i (some (.own, .lst (l ++ m)))) := by
  unfold extR
  simp [h, hl]
@[simp] theorem ex_ext (i : Nat) (e : TE) (Γ : Env) : ex C wf (.ext i e) Γ = ifLst (slot Γ i) ((ev C e Γ).sr fun x Γ => extR i x.2 Γ) := by
  simp only [ex]
  rcases slot Γ i with _ | ⟨_ | _, d⟩ <;> try rfl
@[simp] theorem ex_exp (e : TE) (Γ : Env) : ex C wf (.exp e) Γ = (ev C e Γ).sr fun _ Γ => .nx Γ := by simp only [ex]
@[simp] theorem ex_ifs (c : TT) (a b : TSs) (Γ : Env) : ex C wf (.ifs c a b) Γ = (evT C c Γ).sr fun x Γ => if x = true then exs C wf a Γ else exs C wf b Γ := by
  simp only [ex]
  congr 1
  funext x Γ
  cases x <;> rfl
@[simp] theorem ex_for (g : Tg) (it : TI) (b : TSs) (Γ : Env) : ex C wf (.for_ g it b) Γ = (evI C it Γ).sr fun xs Γ => loopF (bindT g) (exs C wf b) xs Γ := by simp only [ex]
@[simp] theorem ex_whl (c : TT) (b : TSs) (Γ : Env) : ex C wf (.whl c b) Γ = loopW (evT C c) (exs C wf b) wf Γ := by simp only [ex]
@[simp] theorem ex_ret (e : TE) (Γ : Env) : ex C wf (.ret e) Γ = (ev C e Γ).sr fun x Γ => .rt x Γ := by simp only [ex]
@[simp] theorem ex_retN (Γ : Env) : ex C wf .retN Γ = .rt (.fz, .non) Γ := by simp only [ex]
@[simp] theorem ex_brk (Γ : Env) : ex C wf .brk Γ = .bk Γ := by simp only [ex]
@[simp] theorem ex_cnt (Γ : Env) : ex C wf .cnt Γ = .ct Γ := by simp only [ex]
@[simp] theorem ex_pas (Γ : Env) : ex C wf .pas Γ = .nx Γ := by simp only [ex]
@[simp] theorem ex_rai (k : String) (Γ : Env) : ex C wf (.rai k) Γ = .ex k Γ := by simp only [ex]
def tryR (i e : Nat) (r : SR) : SR := match r with
    | .ex k Γ' => if k ∈ errs then .nx ((Γ'.set e none).set i (some (.fz, .exc k))) else .bad
    | r => r
@[simp] theorem tryR_ex (i e : Nat) (k : String) (Γ : Env) : tryR i e (.ex k Γ) = if k ∈ errs then .nx ((Γ.set e none).set i (some (.fz, .exc k))) else .bad := loud rfl
@[simp] theorem tryR_nx (i e : Nat) (Γ : Env) : tryR i e (.nx Γ) = .nx Γ := loud rfl
@[simp] theorem ex_try (b : TSs) (i e : Nat) (Γ : Env) : ex C wf (.try_ b i e) Γ = tryR i e (exs C wf b Γ) := by
  simp only [ex, tryR] <;> cases exs C wf b Γ <;> rfl
@[simp] theorem exs_nil (Γ : Env) : exs C wf .nil Γ = .nx Γ := by simp only [exs]
@[simp] theorem exs_cons (s : TS) (ss : TSs) (Γ : Env) : exs C wf (.cons s ss) Γ = (ex C wf s Γ).then_ (exs C wf ss) := by
  simp only [exs]
  cases ex C wf s Γ <;> rfl
end

/-! ### calls -/
def retR (as : List SD) (r : SR) : CR := match r with
    | .nx Γ => (match muts as Γ with
      | some ms => .ok (.fz, .non) ms
      | none => .bad)
    | .rt r Γ => (match muts as Γ with
      | some ms => .ok r ms
      | none => .bad)
    | .ex k Γ => (match muts as Γ with
      | some ms => .ex k ms
      | none => .bad)
    | _ => .bad
@[simp] theorem retR_ite (as : List SD) (c : Prop) [Decidable c] (x y : SR) : retR as (if c then x else y) = if c then retR as x else retR as y := by split <;> rfl
theorem retR_nx {as : List SD} {Γ : Env} {ms : List (Option SD)} (h : muts as Γ = some ms) : retR as (.nx Γ) = .ok (.fz, .non) ms := by simp only [retR, h]
theorem retR_rt {as : List SD} {Γ : Env} {ms : List (Option SD)} {r : SD} (h : muts as Γ = some ms) : retR as (.rt r Γ) = .ok r ms := by simp only [retR, h]
theorem retR_ex {as : List SD} {Γ : Env} {ms : List (Option SD)} {k : String} (h : muts as Γ = some ms) : retR as (.ex k Γ) = .ex k ms := by simp only [retR, h]
theorem run_at {T : Table} {wf m f : Nat} {d : Fn} {as : List SD} (h : T[f]? = some d) (hl : as.length = d.par) (hs : shOk d.mt 0 as = true) : run T wf (m + 1) f as = retR as (exs (run T wf m) wf d.body (startE d.slots as)) := by
  simp only [run, h, run1, hl, hs]
  simp
  rfl

/-! ### primitives -/
section
variable (a b i : Int) (x y : D) (l m ks vs : List D) (u v : List Nat)
@[simp] theorem p_add : prim .add [.int a, .int b] = some (.fz, .int (a + b)) := loud rfl
@[simp] theorem p_addL : prim .add [.lst l, .lst m] = small (l ++ m) (.own, .lst (l ++ m)) := loud rfl
@[simp] theorem p_addS : prim .add [.str u, .str v] = if u.length + v.length ≤ most then some (.fz, .str (u ++ v)) else none := loud rfl
@[simp] theorem p_sub : prim .sub [.int a, .int b] = some (.fz, .int (a - b)) := loud rfl
theorem p_mul : prim .mul [.int a, .int b] = if a.natAbs < 2 ^ 64 ∨ b.natAbs < 2 ^ 64 then some (.fz, .int (a * b)) else none := rfl
theorem p_mulL : prim .mul [.lst l, .int i] = if -(2 ^ 62) < i ∧ i < 2 ^ 62 ∧ l.length * i.toNat ≤ most then some (.own, .lst (List.replicate i.toNat l).flatten) else none := rfl
theorem p_mod : prim .mod [.int a, .int b] = if 0 < b then some (.fz, .int (a % b)) else none := rfl
theorem p_fdiv : prim .fdiv [.int a, .int b] = if 0 < b ∧ b < 1073741824 then some (.fz, .int (a / b)) else none := rfl
theorem p_pow : prim .pow [.int a, .int b] = if 0 ≤ b ∧ b ≤ 1000 ∧ a.natAbs < 2 ^ 64 then some (.fz, .int (a ^ b.toNat)) else none := rfl
theorem p_eq : prim .eq [x, y] = if pln x && pln y then some (.fz, .bl (D.eqb x y)) else none := rfl
theorem p_ne : prim .ne [x, y] = if pln x && pln y then some (.fz, .bl (!D.eqb x y)) else none := rfl
@[simp] theorem p_lt : prim .lt [.int a, .int b] = some (.fz, .bl (decide (a < b))) := loud rfl
@[simp] theorem p_le : prim .le [.int a, .int b] = some (.fz, .bl (decide (a ≤ b))) := loud rfl
@[simp] theorem p_gt : prim .gt [.int a, .int b] = some (.fz, .bl (decide (b < a))) := loud rfl
@[simp] theorem p_ge : prim .ge [.int a, .int b] = some (.fz, .bl (decide (b ≤ a))) := loud rfl
@[simp] theorem p_eqI : prim .eq [.int a, .int b] = some (.fz, .bl (decide (a = b))) := by
  simp [prim, pln, D.plain, D.eqb, sc]
  rfl
@[simp] theorem p_neI : prim .ne [.int a, .int b] = some (.fz, .bl (!decide (a = b))) := by
  simp [prim, pln, D.plain, D.eqb, sc]
  rfl
@[simp] theorem p_isN : prim .isN [.non] = some (.fz, .bl true) := loud rfl
@[simp] theorem p_isN_int : prim .isN [.int a] = some (.fz, .bl false) := loud rfl
@[simp] theorem p_isN_lst : prim .isN [.lst l] = some (.fz, .bl false) := loud rfl
@[simp] theorem p_isN_tup : prim .isN [.tup l] = some (.fz, .bl false) := loud rfl
@[simp] theorem p_isN_exc (k : String) : prim .isN [.exc k] = some (.fz, .bl false) := loud rfl
@[simp] theorem p_notN : prim .notN [.non] = some (.fz, .bl false) := loud rfl
@[simp] theorem p_notN_int : prim .notN [.int a] = some (.fz, .bl true) := loud rfl
@[simp] theorem p_notN_lst : prim .notN [.lst l] = some (.fz, .bl true) := loud rfl
@[simp] theorem p_notN_tup : prim .notN [.tup l] = some (.fz, .bl true) := loud rfl
@[simp] theorem p_inD : prim .inn [x, .dct ks vs] = if fits ks x then some (.fz, .bl (ks.any fun k => D.eqk k x)) else none := by
  cases x <;> rfl
@[simp] theorem p_ninD : prim .nin [x, .dct ks vs] = if fits ks x then some (.fz, .bl (!ks.any fun k => D.eqk k x)) else none := by
  cases x <;> rfl
@[simp] theorem p_neg : prim .neg [.int a] = some (.fz, .int (-a)) := loud rfl
@[simp] theorem p_idxL : prim .idx [.lst l, .int i] = (atI l i).bind sc := loud rfl
@[simp] theorem p_idxT : prim .idx [.tup l, .int i] = (atI l i).bind sc := loud rfl
@[simp] theorem p_idxD : prim .idx [.dct ks vs, x] = if fits ks x then (look ks vs x).bind sc else none := by
  cases x <;> rfl
@[simp] theorem p_lenL : prim .len [.lst l] = some (.fz, .int l.length) := loud rfl
@[simp] theorem p_lenT : prim .len [.tup l] = some (.fz, .int l.length) := loud rfl
@[simp] theorem p_lenD : prim .len [.dct ks vs] = some (.fz, .int ks.length) := loud rfl
@[simp] theorem p_lenS : prim .len [.str u] = if u.length ≤ most then some (.fz, .int u.length) else none := loud rfl
@[simp] theorem p_abs : prim .abs [.int a] = some (.fz, .int (if a < 0 then -a else a)) := loud rfl
@[simp] theorem p_min2 : prim .min2 [.int a, .int b] = some (.fz, .int (if b < a then b else a)) := loud rfl
@[simp] theorem p_max2 : prim .max2 [.int a, .int b] = some (.fz, .int (if b > a then b else a)) := loud rfl
@[simp] theorem p_int (c : Bool) : prim .int [.bl c] = some (.fz, .int (if c then 1 else 0)) := loud rfl
@[simp] theorem p_intI : prim .int [.int a] = some (.fz, .int a) := loud rfl
theorem p_isi (t : String) : prim (.isi t) [x] = (isA t x).bind fun b => sc (.bl b) := rfl
@[simp] theorem p_all : prim .all [.lst l] = (allB l).bind fun b => sc (.bl b) := loud rfl
@[simp] theorem p_any : prim .any [.lst l] = (anyB l).bind fun b => sc (.bl b) := loud rfl
@[simp] theorem p_listVals : prim .listVals [.dct ks vs] = small vs (.own, .lst vs) := loud rfl
@[simp] theorem p_listKeys : prim .listKeys [.dct ks vs] = small ks (.own, .lst ks) := loud rfl
@[simp] theorem p_get : prim .get [.dct ks vs, x, y] = if fits ks x then sc ((look ks vs x).getD y) else none := loud rfl
@[simp] theorem sc_eq : sc x = some (.fz, x) := loud rfl
@[simp] theorem truth_bl (c : Bool) : truth (.bl c) = some c := loud rfl
@[simp] theorem truth_lst : truth (.lst l) = some (!l.isEmpty) := loud rfl
@[simp] theorem truth_dct : truth (.dct ks vs) = some (!ks.isEmpty) := loud rfl
end
@[simp] theorem allB_nil : allB [] = some true := loud rfl
@[simp] theorem allB_cons (b : Bool) (r : List D) : allB (.bl b :: r) = (allB r).map fun c => b && c := loud rfl
@[simp] theorem anyB_nil : anyB [] = some false := loud rfl
@[simp] theorem anyB_cons (b : Bool) (r : List D) : anyB (.bl b :: r) = (anyB r).map fun c => b || c := loud rfl
@[simp] theorem allB_map {α : Type} (f : α → Bool) : ∀ l : List α, allB (l.map fun x => .bl (f x)) = some (l.all f)
  | [] => rfl
  | a :: r => by simp [allB, allB_map f r]
@[simp] theorem anyB_map {α : Type} (f : α → Bool) : ∀ l : List α, anyB (l.map fun x => .bl (f x)) = some (l.any f)
  | [] => rfl
  | a :: r => by simp [anyB, anyB_map f r]
@[simp] theorem atI_nat (l : List D) (n : Nat) : atI l (n : Int) = l[n]? := by
  unfold atI
  by_cases h : n < l.length
  · simp [h]
  · simp only [Int.natCast_nonneg, ↓reduceIte, Int.ofNat_lt, h]
    rw [List.getElem?_eq_none (by omega)]
@[simp] theorem atI_0 (l : List D) : atI l 0 = l[0]? := atI_nat l 0
@[simp] theorem atI_2 (l : List D) : atI l 2 = l[2]? := atI_nat l 2
@[simp] theorem atI_3 (l : List D) : atI l 3 = l[3]? := atI_nat l 3
@[simp] theorem atI_4 (l : List D) : atI l 4 = l[4]? := atI_nat l 4
@[simp] theorem atI_5 (l : List D) : atI l 5 = l[5]? := atI_nat l 5
@[simp] theorem atI_6 (l : List D) : atI l 6 = l[6]? := atI_nat l 6
@[simp] theorem atI_7 (l : List D) : atI l 7 = l[7]? := atI_nat l 7
@[simp] theorem atI_8 (l : List D) : atI l 8 = l[8]? := atI_nat l 8
@[simp] theorem atI_9 (l : List D) : atI l 9 = l[9]? := atI_nat l 9
@[simp] theorem atI_10 (l : List D) : atI l 10 = l[10]? := atI_nat l 10
@[simp] theorem atI_11 (l : List D) : atI l 11 = l[11]? := atI_nat l 11
@[simp] theorem atI_12 (l : List D) : atI l 12 = l[12]? := atI_nat l 12
@[simp] theorem atI_1 (l : List D) : atI l 1 = l[1]? := atI_nat l 1
end Rl.Pl
set_option autoImplicit false
set_option linter.all false
set_option maxRecDepth 10000
namespace Rl.Pl
/-! ### how a call is seen -/
@[simp] theorem startE_nil (n : Nat) : startE n [] = List.replicate n none := by simp [startE]
@[simp] theorem startE_cons (n : Nat) (a : SD) (as : List SD) : startE (n + 1) (a :: as) = some a :: startE n as := by simp [startE]
@[simp] theorem argOf_d (Γ : Env) (x : D) : argOf Γ (.d x) = some (.fz, x) := loud rfl
def argOwn (o : Option SD) : Option SD := match o with
    | some (.own, d) => some (.own, d)
    | _ => none
@[simp] theorem argOwn_own (d : D) : argOwn (some (.own, d)) = some (.own, d) := loud rfl
@[simp] theorem argOf_v (Γ : Env) (i : Nat) : argOf Γ (.v i) = argOwn (slot Γ i) := loud rfl
def args1 : Option SD → Option (List SD) → Option (List SD)
  | some d, some ds => some (d :: ds)
  | _, _ => none
@[simp] theorem args1_some (d : SD) (ds : List SD) : args1 (some d) (some ds) = some (d :: ds) := loud rfl
@[simp] theorem argsOf_nil (Γ : Env) : argsOf Γ [] = some [] := loud rfl
@[simp] theorem argsOf_cons (Γ : Env) (p : Pd) (r : List Pd) : argsOf Γ (p :: r) = args1 (argOf Γ p) (argsOf Γ r) := by
  simp only [argsOf]
  cases argOf Γ p <;> cases argsOf Γ r <;> rfl
@[simp] theorem onceM_nil : onceM [] = true := loud rfl
@[simp] theorem onceM_d (x : D) (r : List Pd) : onceM (.d x :: r) = onceM r := loud rfl
@[simp] theorem backTo_nil (Γ : Env) : backTo Γ [] [] = some Γ := loud rfl
@[simp] theorem backTo_d (Γ : Env) (x : D) (r : List Pd) (m : Option SD) (ms : List (Option SD)) : backTo Γ (.d x :: r) (m :: ms) = backTo Γ r ms := loud rfl
@[simp] theorem backTo_v (Γ : Env) (i : Nat) (d : D) (r : List Pd) (ms : List (Option SD)) : backTo Γ (.v i :: r) (some (.own, d) :: ms) = backTo (Γ.set i (some (.own, d))) r ms := loud rfl
theorem callR_ok {C : Calls} {f : Nat} {ps : List Pd} {Γ : Env} {as : List SD} (h : onceM ps = true) (h2 : argsOf Γ ps = some as) : callR C f ps Γ = aftR Γ ps (C f as) := by
  simp only [callR, h, h2]
@[simp] theorem aftR_ite (Γ : Env) (ps : List Pd) (c : Prop) [Decidable c] (x y : CR) : aftR Γ ps (if c then x else y) = if c then aftR Γ ps x else aftR Γ ps y := by split <;> rfl
theorem aftR_ok {Γ Γ' : Env} {ps : List Pd} {r : SD} {ms : List (Option SD)} (h : backTo Γ ps ms = some Γ') : aftR Γ ps (.ok r ms) = .ok r Γ' := by simp only [aftR, h]
theorem aftR_ex {Γ Γ' : Env} {ps : List Pd} {k : String} {ms : List (Option SD)} (h : backTo Γ ps ms = some Γ') : aftR Γ ps (.ex k ms) = .ex k Γ' := by simp only [aftR, h]
@[simp] theorem muts_nil (Γ : Env) : muts [] Γ = some [] := by cases Γ <;> rfl
@[simp] theorem muts_fz (d : D) (as : List SD) (x : Option SD) (Γ : Env) : muts ((.fz, d) :: as) (x :: Γ) = (muts as Γ).map fun l => none :: l := by cases x <;> rfl
@[simp] theorem muts_own (d d' : D) (as : List SD) (Γ : Env) : muts ((.own, d) :: as) (some (.own, d') :: Γ) = (muts as Γ).map fun l => some (.own, d') :: l := loud rfl
@[simp] theorem retR_nx' (as : List SD) (Γ : Env) : retR as (.nx Γ) = (match muts as Γ with
      | some ms => .ok (.fz, .non) ms
      | none => .bad) := loud rfl
@[simp] theorem retR_rt' (as : List SD) (r : SD) (Γ : Env) : retR as (.rt r Γ) = (match muts as Γ with
      | some ms => .ok r ms
      | none => .bad) := loud rfl
@[simp] theorem retR_ex' (as : List SD) (k : String) (Γ : Env) : retR as (.ex k Γ) = (match muts as Γ with
      | some ms => .ex k ms
      | none => .bad) := loud rfl
@[simp] theorem callR_eq (C : Calls) (f : Nat) (ps : List Pd) (Γ : Env) : callR C f ps Γ = (match onceM ps with
    | false => .bad
    | true => match argsOf Γ ps with
      | none => .bad
      | some as => aftR Γ ps (C f as)) := loud rfl
@[simp] theorem aftR_ok' (Γ : Env) (ps : List Pd) (r : SD) (ms : List (Option SD)) : aftR Γ ps (.ok r ms) = (match backTo Γ ps ms with
    | some Γ' => .ok r Γ'
    | none => .bad) := loud rfl
@[simp] theorem aftR_ex' (Γ : Env) (ps : List Pd) (k : String) (ms : List (Option SD)) : aftR Γ ps (.ex k ms) = (match backTo Γ ps ms with
    | some Γ' => .ex k Γ'
    | none => .bad) := loud rfl


/-! ### loops -/
/-- a comprehension whose turns leave all other names as they are -/
theorem comp_ok {α : Type} {C : Calls} {own : List Nat} {g : Tg} {it : TI} {c : TT} {e : TE} {Γ Γ0 : Env} (ys : List α) (enc h : α → D) (p : α → Bool) (hi : evI C it Γ0 = .ok (ys.map enc) Γ) (hw : canWipe Γ own = true) (hl : ys.length ≤ most)
    (hb : ∀ y ∈ ys, ∃ Γ1 s, bindT g (enc y) (clr own Γ) = some Γ1 ∧ evT C c Γ1 = .ok (p y) Γ1 ∧ (p y = true → ev C e Γ1 = .ok (s, h y) Γ1) ∧ clr own Γ1 = clr own Γ ∧ unwipe Γ own Γ1 = Γ) (hu : unwipe Γ own Γ = Γ) : ev C (.comp own g it c e) Γ0 = .ok (.own, .lst ((ys.filter p).map h)) Γ := by
  have key : ∀ (zs : List α) (acc : List D) (Γ2 : Env), (∀ y ∈ zs, y ∈ ys) → acc.length + zs.length ≤ most → clr own Γ2 = clr own Γ → unwipe Γ own Γ2 = Γ → ∃ Γ3, loopC own (bindT g) (evT C c) (ev C e) (zs.map enc) acc Γ2 = .ok (acc ++ (zs.filter p).map h) Γ3 ∧ unwipe Γ own Γ3 = Γ := by
    intro zs
    induction zs with
    | nil => intro acc Γ2 _ _ _ h3; exact ⟨Γ2, by simp [loopC], h3⟩
    | cons z zs ih =>
      intro acc Γ2 h1 hlen h2 h3
      obtain ⟨Γ1, s, b1, b2, b3, b4, b5⟩ := hb z (h1 z (by simp))
      simp only [List.length_cons] at hlen
      simp only [List.map_cons, loopC, h2, b1, b2]
      cases hp : p z with
      | true =>
        simp only [b3 hp]
        obtain ⟨Γ3, r1, r2⟩ := ih (acc ++ [h z]) Γ1 (fun y hy => h1 y (by simp [hy])) (by simp; omega) b4 b5
        refine ⟨Γ3, ?_, r2⟩
        rw [if_pos (by omega), r1]
        simp [hp]
      | false =>
        simp only
        obtain ⟨Γ3, r1, r2⟩ := ih acc Γ1 (fun y hy => h1 y (by simp [hy])) (by omega) b4 b5
        exact ⟨Γ3, by rw [r1]; simp [hp], r2⟩
  obtain ⟨Γ3, r1, r2⟩ := key ys [] Γ (fun _ h => h) (by simpa using hl) rfl hu
  simp only [ev, hi, rbind_ok, hw, r1]
  simp [r2]
theorem set_slot (Γ : Env) (i : Nat) (x : Option SD) : (Γ.set i x).set i (slot Γ i) = Γ := by
  rw [List.set_set]
  unfold slot
  apply List.ext_getElem?
  intro j
  rw [List.getElem?_set]
  split
  · rename_i e
    subst e
    split
    · rename_i h
      rw [List.getElem?_eq_getElem h]; rfl
    · rename_i h
      rw [List.getElem?_eq_none (by omega)]
  · rfl
theorem set_slot' (Γ : Env) (i : Nat) : Γ.set i (slot Γ i) = Γ := by
  have := set_slot Γ i (slot Γ i)
  rwa [List.set_set] at this
/-- a comprehension with one name -/
theorem comp1 {α : Type} {C : Calls} {i : Nat} {it : TI} {c : TT} {e : TE} {Γ0 : Env} (Γ : Env) (ys : List α) (enc h : α → D) (p : α → Bool) (hi : evI C it Γ0 = .ok (ys.map enc) Γ) (hw : canWipe Γ [i] = true) (hl : ys.length ≤ most)
    (hb : ∀ y ∈ ys, evT C c (Γ.set i (some (.fz, enc y))) = .ok (p y) (Γ.set i (some (.fz, enc y))) ∧ (p y = true → ∃ s, ev C e (Γ.set i (some (.fz, enc y))) = .ok (s, h y) (Γ.set i (some (.fz, enc y))))) : ev C (.comp [i] (.one i) it c e) Γ0 = .ok (.own, .lst ((ys.filter p).map h)) Γ := by
  refine comp_ok ys enc h p hi hw hl (fun y hy => ?_) ?_
  · obtain ⟨h1, h2⟩ := hb y hy
    cases hp : p y with
    | true =>
      obtain ⟨s, h3⟩ := h2 hp
      exact ⟨Γ.set i (some (.fz, enc y)), s, by simp [bindT, clr, List.set_set], by rw [← hp]; exact h1, fun _ => h3, by simp [clr, List.set_set], by simp only [unwipe, List.foldl]; exact set_slot ..⟩
    | false => exact ⟨Γ.set i (some (.fz, enc y)), .fz, by simp [bindT, clr, List.set_set], by rw [← hp]; exact h1, fun h => (by cases h), (by simp [clr, List.set_set]), (by simp only [unwipe, List.foldl]; exact set_slot ..)⟩
  · simp only [unwipe, List.foldl]
    exact set_slot' ..
/-- .. that takes all -/
theorem comp1y {α : Type} {C : Calls} {i : Nat} {it : TI} {e : TE} {Γ0 : Env} (Γ : Env) (ys : List α) (enc h : α → D) (hi : evI C it Γ0 = .ok (ys.map enc) Γ) (hw : canWipe Γ [i] = true) (hl : ys.length ≤ most)
    (hb : ∀ y ∈ ys, ∃ s, ev C e (Γ.set i (some (.fz, enc y))) = .ok (s, h y) (Γ.set i (some (.fz, enc y)))) : ev C (.comp [i] (.one i) it .yes e) Γ0 = .ok (.own, .lst (ys.map h)) Γ := by
  have := comp1 (c := .yes) Γ ys enc h (fun _ => true) hi hw hl fun y hy => ⟨evT_yes .., fun _ => hb y hy⟩
  rw [this, List.filter_eq_self.mpr (fun _ _ => rfl)]
/-- a for: the state goes from turn to turn -/
theorem for_ok {α σ : Type} {bind : D → Env → Option Env} {body : Env → SR} (I : σ → Env → Prop) (f : σ → α → σ) (enc : α → D) : ∀ (ys : List α) (st : σ) (Γ : Env), I st Γ →
    (∀ y ∈ ys, ∀ st Γ, I st Γ → ∃ Γ1 Γ2, bind (enc y) Γ = some Γ1 ∧ (body Γ1 = .nx Γ2 ∨ body Γ1 = .ct Γ2) ∧ I (f st y) Γ2) → ∃ Γ', loopF bind body (ys.map enc) Γ = .nx Γ' ∧ I (ys.foldl f st) Γ'
  | [], st, Γ, h, _ => ⟨Γ, rfl, h⟩
  | y :: ys, st, Γ, h, hb => by
    obtain ⟨Γ1, Γ2, b1, b2, b3⟩ := hb y (by simp) st Γ h
    obtain ⟨Γ', r1, r2⟩ := for_ok I f enc ys (f st y) Γ2 b3 fun y hy => hb y (by simp [hy])
    refine ⟨Γ', ?_, r2⟩
    simp only [List.map_cons, loopF, b1]
    rcases b2 with b2 | b2 <;> simp only [b2, r1]
/-- a for that ends the def at the first turn that does -/
theorem for_rt {α : Type} {bind : D → Env → Option Env} {body : Env → SR} (I : Env → Prop) (stop : α → Bool) (r : SD) (J : Env → Prop) (enc : α → D) : ∀ (ys : List α) (Γ : Env), I Γ →
    (∀ y ∈ ys, ∀ Γ, I Γ → ∃ Γ1 Γ2, bind (enc y) Γ = some Γ1 ∧ (stop y = true → body Γ1 = .rt r Γ2 ∧ J Γ2) ∧ (stop y = false → body Γ1 = .nx Γ2 ∧ I Γ2)) →
    ∃ Γ', (ys.any stop = true → loopF bind body (ys.map enc) Γ = .rt r Γ' ∧ J Γ') ∧ (ys.any stop = false → loopF bind body (ys.map enc) Γ = .nx Γ' ∧ I Γ')
  | [], Γ, h, _ => ⟨Γ, ⟨fun h => (by simp at h), fun _ => ⟨rfl, h⟩⟩⟩
  | y :: ys, Γ, h, hb => by
    obtain ⟨Γ1, Γ2, b1, b2, b3⟩ := hb y (by simp) Γ h
    cases hs : stop y with
    | true =>
      obtain ⟨c1, c2⟩ := b2 hs
      exact ⟨Γ2, fun _ => ⟨by simp only [List.map_cons, loopF, b1, c1], c2⟩, fun h => by simp [hs] at h⟩
    | false =>
      obtain ⟨c1, c2⟩ := b3 hs
      obtain ⟨Γ', r1, r2⟩ := for_rt I stop r J enc ys Γ2 c2 fun y hy => hb y (by simp [hy])
      refine ⟨Γ', fun h => ?_, fun h => ?_⟩
      · have := r1 (by simpa [hs] using h)
        exact ⟨by simp only [List.map_cons, loopF, b1, c1, this.1], this.2⟩
      · have := r2 (by simpa [hs] using h)
        exact ⟨by simp only [List.map_cons, loopF, b1, c1, this.1], this.2⟩
/-- a for that raises at the first turn that does -/
theorem for_ex {α : Type} {bind : D → Env → Option Env} {body : Env → SR} (I : Env → Prop) (stop : α → Bool) (r : String) (J : Env → Prop) (enc : α → D) : ∀ (ys : List α) (Γ : Env), I Γ →
    (∀ y ∈ ys, ∀ Γ, I Γ → ∃ Γ1 Γ2, bind (enc y) Γ = some Γ1 ∧ (stop y = true → body Γ1 = .ex r Γ2 ∧ J Γ2) ∧ (stop y = false → body Γ1 = .nx Γ2 ∧ I Γ2)) →
    ∃ Γ', (ys.any stop = true → loopF bind body (ys.map enc) Γ = .ex r Γ' ∧ J Γ') ∧ (ys.any stop = false → loopF bind body (ys.map enc) Γ = .nx Γ' ∧ I Γ')
  | [], Γ, h, _ => ⟨Γ, ⟨fun h => (by simp at h), fun _ => ⟨rfl, h⟩⟩⟩
  | y :: ys, Γ, h, hb => by
    obtain ⟨Γ1, Γ2, b1, b2, b3⟩ := hb y (by simp) Γ h
    cases hs : stop y with
    | true =>
      obtain ⟨c1, c2⟩ := b2 hs
      exact ⟨Γ2, fun _ => ⟨by simp only [List.map_cons, loopF, b1, c1], c2⟩, fun h => by simp [hs] at h⟩
    | false =>
      obtain ⟨c1, c2⟩ := b3 hs
      obtain ⟨Γ', r1, r2⟩ := for_ex I stop r J enc ys Γ2 c2 fun y hy => hb y (by simp [hy])
      refine ⟨Γ', fun h => ?_, fun h => ?_⟩
      · have := r1 (by simpa [hs] using h)
        exact ⟨by simp only [List.map_cons, loopF, b1, c1, this.1], this.2⟩
      · have := r2 (by simpa [hs] using h)
        exact ⟨by simp only [List.map_cons, loopF, b1, c1, this.1], this.2⟩
theorem rangeD_nat (n : Nat) : rangeD 0 (n : Int) = (List.range n).map fun (k : Nat) => .int (k : Int) := by
  unfold rangeD
  simp
theorem rngOk_nat (n : Nat) (h : n < 2 ^ 60) : rngOk (n : Int) = true := by
  unfold rngOk
  simp
  omega
theorem rngR_nat (n : Nat) (h : n < 2 ^ 60) (Γ : Env) : rngR (.int (n : Int)) Γ = .ok ((List.range n).map fun (k : Nat) => .int (k : Int)) Γ := by
  rw [rngR_int, rngOk_nat n h, if_pos rfl, rangeD_nat]
@[simp] theorem rngR_4 (Γ : Env) : rngR (.int 4) Γ = .ok ((List.range 4).map fun (k : Nat) => .int (k : Int)) Γ := rngR_nat 4 (by decide) Γ
@[simp] theorem rngR_12 (Γ : Env) : rngR (.int 12) Γ = .ok ((List.range 12).map fun (k : Nat) => .int (k : Int)) Γ := rngR_nat 12 (by decide) Γ
@[simp] theorem rngR_13 (Γ : Env) : rngR (.int 13) Γ = .ok ((List.range 13).map fun (k : Nat) => .int (k : Int)) Γ := rngR_nat 13 (by decide) Γ
@[simp] theorem rngR_7 (Γ : Env) : rngR (.int 7) Γ = .ok ((List.range 7).map fun (k : Nat) => .int (k : Int)) Γ := rngR_nat 7 (by decide) Γ
@[simp] theorem clr_nil (Γ : Env) : clr [] Γ = Γ := loud rfl
@[simp] theorem clr_cons (i : Nat) (is : List Nat) (Γ : Env) : clr (i :: is) Γ = clr is (Γ.set i none) := loud rfl
@[simp] theorem unwipe_nil (Γ Γ0 : Env) : unwipe Γ0 [] Γ = Γ := loud rfl
@[simp] theorem unwipe_cons (i : Nat) (is : List Nat) (Γ Γ0 : Env) : unwipe Γ0 (i :: is) Γ = unwipe Γ0 is (Γ.set i (slot Γ0 i)) := loud rfl
@[simp] theorem canWipe_nil (Γ : Env) : canWipe Γ [] = true := loud rfl
def wipable : Option SD → Bool
  | some (.own, _) => false
  | _ => true
@[simp] theorem wipable_none : wipable none = true := loud rfl
@[simp] theorem wipable_fz (d : D) : wipable (some (.fz, d)) = true := loud rfl
@[simp] theorem canWipe_cons (i : Nat) (is : List Nat) (Γ : Env) : canWipe Γ (i :: is) = (wipable (slot Γ i) && canWipe Γ is) := by
  rfl
@[simp] theorem bindT_one (i : Nat) (x : D) (Γ : Env) : bindT (.one i) x Γ = some (Γ.set i (some (.fz, x))) := loud rfl
@[simp] theorem bindT_many (is : List Nat) (l : List D) (Γ : Env) : bindT (.many is) (.tup l) Γ = if l.length = is.length then some ((is.zip l).foldl (fun Γ p => Γ.set p.1 (some (.fz, p.2))) Γ) else none := loud rfl

@[simp] theorem partOf_true (f : Env → R SD) (Γ : Env) : partOf true f Γ = .ok none Γ := loud rfl
def partR (d : D) (Γ : Env) : R (Option Int) := match d with
    | .int i => .ok (some i) Γ
    | _ => .bad
@[simp] theorem partR_int (i : Int) (Γ : Env) : partR (.int i) Γ = .ok (some i) Γ := loud rfl
@[simp] theorem partOf_false (f : Env → R SD) (Γ : Env) : partOf false f Γ = (f Γ).bind fun x Γ => partR x.2 Γ := loud rfl
@[simp] theorem isNo_non : isNo (.cst .non) = true := loud rfl
@[simp] theorem isNo_var (i : Nat) : isNo (.var i) = false := loud rfl
@[simp] theorem isNo_prim (p : P) (os : TOs) : isNo (.prim p os) = false := loud rfl
@[simp] theorem isNo_int (i : Int) : isNo (.cst (.int i)) = false := loud rfl
theorem cutIx_nat (n d k : Nat) : cutIx n d (some (k : Int)) = min k n := by
  unfold cutIx
  simp only [show ¬ ((k : Int) < 0) by omega, ↓reduceIte, Int.toNat_natCast]
@[simp] theorem sl_to (xs : List D) (k : Nat) : sliceD none (some (k : Int)) (.lst xs) = some (.own, .lst (xs.take k)) := by
  show some (Sh.own, D.lst (cut xs none (some (k : Int)))) = _
  unfold cut
  rw [cutIx_nat]
  simp only [cutIx, Nat.sub_zero, List.drop_zero]
  rw [List.take_eq_take_iff.mpr]
  omega
@[simp] theorem sl_from (xs : List D) (k : Nat) : sliceD (some (k : Int)) none (.lst xs) = some (.own, .lst (xs.drop k)) := by
  show some (Sh.own, D.lst (cut xs (some (k : Int)) none)) = _
  unfold cut
  rw [cutIx_nat]
  simp only [cutIx]
  congr 2
  by_cases h : k ≤ xs.length
  · rw [Nat.min_eq_left h, List.take_of_length_le (by simp)]
  · rw [Nat.min_eq_right (by omega), List.drop_eq_nil_of_le (by omega), List.drop_eq_nil_of_le (by omega)]
    simp

/-! ### loops as they stand in a goal -/
theorem for_ex_of {α : Type} {bind : D → Env → Option Env} {body : Env → SR} {xs : List D} {Γ : Env} {L : SR} (hL : loopF bind body xs Γ = L) (I : Env → Prop) (stop : α → Bool) (r : String) (J : Env → Prop) (enc : α → D) (ys : List α) (hx : xs = ys.map enc) (hI : I Γ)
    (hb : ∀ y ∈ ys, ∀ Γ, I Γ → ∃ Γ1 Γ2, bind (enc y) Γ = some Γ1 ∧ (stop y = true → body Γ1 = .ex r Γ2 ∧ J Γ2) ∧ (stop y = false → body Γ1 = .nx Γ2 ∧ I Γ2)) :
    ∃ Γ', (ys.any stop = true → L = .ex r Γ' ∧ J Γ') ∧ (ys.any stop = false → L = .nx Γ' ∧ I Γ') := by
  subst hx hL
  exact for_ex I stop r J enc ys Γ hI hb
theorem for_rt_of {α : Type} {bind : D → Env → Option Env} {body : Env → SR} {xs : List D} {Γ : Env} {L : SR} (hL : loopF bind body xs Γ = L) (I : Env → Prop) (stop : α → Bool) (r : SD) (J : Env → Prop) (enc : α → D) (ys : List α) (hx : xs = ys.map enc) (hI : I Γ)
    (hb : ∀ y ∈ ys, ∀ Γ, I Γ → ∃ Γ1 Γ2, bind (enc y) Γ = some Γ1 ∧ (stop y = true → body Γ1 = .rt r Γ2 ∧ J Γ2) ∧ (stop y = false → body Γ1 = .nx Γ2 ∧ I Γ2)) :
    ∃ Γ', (ys.any stop = true → L = .rt r Γ' ∧ J Γ') ∧ (ys.any stop = false → L = .nx Γ' ∧ I Γ') := by
  subst hx hL
  exact for_rt I stop r J enc ys Γ hI hb
theorem for_of {α σ : Type} {bind : D → Env → Option Env} {body : Env → SR} {xs : List D} {Γ : Env} {L : SR} (hL : loopF bind body xs Γ = L) (I : σ → Env → Prop) (f : σ → α → σ) (enc : α → D) (ys : List α) (st : σ) (hx : xs = ys.map enc) (hI : I st Γ)
    (hb : ∀ y ∈ ys, ∀ st Γ, I st Γ → ∃ Γ1 Γ2, bind (enc y) Γ = some Γ1 ∧ (body Γ1 = .nx Γ2 ∨ body Γ1 = .ct Γ2) ∧ I (f st y) Γ2) : ∃ Γ', L = .nx Γ' ∧ I (ys.foldl f st) Γ' := by
  subst hx hL
  exact for_ok I f enc ys st Γ hI hb

/-- what a turn that ends the loop makes of it -/
def ended : SR → Option SR
  | .rt r Γ => some (.rt r Γ)
  | .ex k Γ => some (.ex k Γ)
  | .bk Γ => some (.nx Γ)
  | _ => none
/-- a for, by what is done already; E: what it ends with early -/
theorem for_gen {α : Type} {bind : D → Env → Option Env} {body : Env → SR} {enc : α → D} (I : List α → Env → Prop) (E : SR → Prop) : ∀ (todo done_ ys : List α) (Γ : Env), ys = done_ ++ todo → I done_ Γ →
    (∀ pre y suf Γ, ys = pre ++ y :: suf → I pre Γ → ∃ Γ1, bind (enc y) Γ = some Γ1 ∧ ((∃ Γ2, (body Γ1 = .nx Γ2 ∨ body Γ1 = .ct Γ2) ∧ I (pre ++ [y]) Γ2) ∨ ∃ r, ended (body Γ1) = some r ∧ E r)) →
    (∃ Γ', loopF bind body (todo.map enc) Γ = .nx Γ' ∧ I ys Γ') ∨ E (loopF bind body (todo.map enc) Γ)
  | [], done_, ys, Γ, h, hI, _ => .inl ⟨Γ, rfl, by rw [h, List.append_nil]; exact hI⟩
  | y :: todo, done_, ys, Γ, h, hI, hb => by
    obtain ⟨Γ1, b1, b2⟩ := hb done_ y todo Γ h hI
    rcases b2 with ⟨Γ2, b2, b3⟩ | ⟨r, b2, b3⟩
    · have ih := for_gen (bind := bind) (body := body) (enc := enc) I E todo (done_ ++ [y]) ys Γ2 (by rw [h]; simp) b3 hb
      have e : loopF bind body ((y :: todo).map enc) Γ = loopF bind body (todo.map enc) Γ2 := by
        rcases b2 with b2 | b2 <;> simp only [List.map_cons, loopF, b1, b2]
      rw [e]
      exact ih
    · refine .inr ?_
      have e : loopF bind body ((y :: todo).map enc) Γ = r := by
        simp only [List.map_cons, loopF, b1]
        cases hr : body Γ1 <;> rw [hr] at b2 <;> simp only [ended] at b2 <;> first | (cases b2; done) | (cases b2; rfl)
      rw [e]
      exact b3
theorem for_gen_of {α : Type} {bind : D → Env → Option Env} {body : Env → SR} {xs : List D} {Γ : Env} {L : SR} (hL : loopF bind body xs Γ = L) (enc : α → D) (ys : List α) (hx : xs = ys.map enc) (I : List α → Env → Prop) (E : SR → Prop) (hI : I [] Γ)
    (hb : ∀ pre y suf Γ, ys = pre ++ y :: suf → I pre Γ → ∃ Γ1, bind (enc y) Γ = some Γ1 ∧ ((∃ Γ2, (body Γ1 = .nx Γ2 ∨ body Γ1 = .ct Γ2) ∧ I (pre ++ [y]) Γ2) ∨ ∃ r, ended (body Γ1) = some r ∧ E r)) :
    (∃ Γ', L = .nx Γ' ∧ I ys Γ') ∨ E L := by
  subst hx hL
  exact for_gen I E ys [] ys Γ rfl hI hb
/-- where a turn leads: on (Q), or out of the loop (E) -/
def Turn (r : SR) (Q : Env → Prop) (E : SR → Prop) : Prop := match r with
  | .nx Γ => Q Γ
  | .ct Γ => Q Γ
  | .bk Γ => E (.nx Γ)
  | .rt r Γ => E (.rt r Γ)
  | .ex k Γ => E (.ex k Γ)
  | .bad => False
@[simp] theorem turn_nx (Γ : Env) (Q : Env → Prop) (E : SR → Prop) : Turn (.nx Γ) Q E = Q Γ := loud rfl
@[simp] theorem turn_ct (Γ : Env) (Q : Env → Prop) (E : SR → Prop) : Turn (.ct Γ) Q E = Q Γ := loud rfl
@[simp] theorem turn_bk (Γ : Env) (Q : Env → Prop) (E : SR → Prop) : Turn (.bk Γ) Q E = E (.nx Γ) := loud rfl
@[simp] theorem turn_rt (r : SD) (Γ : Env) (Q : Env → Prop) (E : SR → Prop) : Turn (.rt r Γ) Q E = E (.rt r Γ) := loud rfl
@[simp] theorem turn_ex (k : String) (Γ : Env) (Q : Env → Prop) (E : SR → Prop) : Turn (.ex k Γ) Q E = E (.ex k Γ) := loud rfl
/-- a for, turn by turn -/
theorem for_turn {α : Type} {bind : D → Env → Option Env} {body : Env → SR} {xs : List D} {Γ : Env} {L : SR} (hL : loopF bind body xs Γ = L) (enc : α → D) (ys : List α) (hx : xs = ys.map enc) (I : List α → Env → Prop) (E : SR → Prop) (hI : I [] Γ)
    (hb : ∀ pre y suf Γ, ys = pre ++ y :: suf → I pre Γ → ∃ Γ1, bind (enc y) Γ = some Γ1 ∧ Turn (body Γ1) (I (pre ++ [y])) E) : (∃ Γ', L = .nx Γ' ∧ I ys Γ') ∨ E L := by
  refine for_gen_of hL enc ys hx I E hI fun pre y suf Γ h1 h2 => ?_
  obtain ⟨Γ1, b1, b2⟩ := hb pre y suf Γ h1 h2
  refine ⟨Γ1, b1, ?_⟩
  cases e : body Γ1 <;> rw [e] at b2
  · exact .inl ⟨_, .inl rfl, b2⟩
  · exact .inr ⟨_, rfl, b2⟩
  · exact .inr ⟨_, rfl, b2⟩
  · exact .inl ⟨_, .inr rfl, b2⟩
  · exact .inr ⟨_, rfl, b2⟩
  · exact b2.elim
/-- .. that goes to its end -/
theorem for_pre_of {α : Type} {bind : D → Env → Option Env} {body : Env → SR} {xs : List D} {Γ : Env} {L : SR} (hL : loopF bind body xs Γ = L) (enc : α → D) (ys : List α) (hx : xs = ys.map enc) (I : List α → Env → Prop) (hI : I [] Γ)
    (hb : ∀ pre y suf Γ, ys = pre ++ y :: suf → I pre Γ → ∃ Γ1, bind (enc y) Γ = some Γ1 ∧ Turn (body Γ1) (I (pre ++ [y])) fun _ => False) : ∃ Γ', L = .nx Γ' ∧ I ys Γ' := by
  rcases for_turn hL enc ys hx I (fun _ => False) hI hb with h | h
  · exact h
  · exact h.elim

/-! ### parts of a text -/
def nthS : Nat → TSs → TS
  | _, .nil => .bad
  | 0, .cons s _ => s
  | n + 1, .cons _ r => nthS n r
def bodyS : TS → TSs
  | .for_ _ _ b => b
  | .whl _ b => b
  | _ => .nil
end Rl.Pl
set_option autoImplicit false
set_option linter.all false
set_option maxRecDepth 10000
/-! Roundlines, plain 3: boards. -/
namespace Rl.Pl
variable {wf : Nat}
/-- neither an error nor an endless text -/
def Tame : D → Prop
  | .exc _ => False
  | .str x => x.length ≤ most
  | _ => True
def whole (d : D) (low high : Int) : Bool := match d with
  | .int i => decide (low ≤ i) && decide (i ≤ high)
  | _ => false
theorem c_is_whole (m : Nat) (d : D) (hd : Tame d) (low high : Int) : run tbl wf (m + 1) i_is_whole [(.fz, d), (.fz, .int low), (.fz, .int high)] = .ok (.fz, .bl (whole d low high)) [none, none, none] := by
  rw [run_at (d := f_is_whole) rfl rfl rfl]
  cases d with
  | exc k => exact hd.elim
  | _ => simp [f_is_whole, p_isi, isA, whole]
def small26 : List Nat := [97, 98, 99, 100, 101, 102, 103, 104, 105, 106, 107, 108, 109, 110, 111, 112, 113, 114, 115, 116, 117, 118, 119, 120, 121, 122]
def isSmall (c : Nat) : Bool := decide (c ∈ small26)
def nameOk : D → Bool
  | .str x => decide (1 ≤ x.length) && decide (x.length ≤ 8) && x.all isSmall
  | _ => false
@[simp] theorem p_inS (x : Nat) : prim .inn [.str [x], .str [97, 98, 99, 100, 101, 102, 103, 104, 105, 106, 107, 108, 109, 110, 111, 112, 113, 114, 115, 116, 117, 118, 119, 120, 121, 122]] = some (.fz, .bl (isSmall x)) := loud rfl
theorem c_is_name (m : Nat) (d : D) (hd : Tame d) : run tbl wf (m + 1) i_is_name [(.fz, d)] = .ok (.fz, .bl (nameOk d)) [none] := by
  rw [run_at (d := f_is_name) rfl rfl rfl]
  cases d with
  | exc k => exact hd.elim
  | str x =>
    have hx : x.length ≤ most := hd
    have e : ∀ n : Nat, ((x.length : Int) ≤ (n : Int)) ↔ x.length ≤ n := fun n => by omega
    simp only [f_is_name]
    simp [p_isi, isA, hx]
    rw [comp1y [some (.fz, .str x), none] x (fun c => .str [c]) (fun c => .bl (isSmall c)) (by simp) (by simp) hx (fun y hy => ⟨_, by simp; rfl⟩)]
    have e1 : (1 ≤ (x.length : Int)) ↔ 1 ≤ x.length := by omega
    have e2 : ((x.length : Int) ≤ 8) ↔ x.length ≤ 8 := by omega
    simp [nameOk, e1, e2]
    by_cases h1 : 1 ≤ x.length <;> by_cases h2 : x.length ≤ 8 <;> simp [h1, h2]
  | _ => simp [f_is_name, p_isi, isA, nameOk]

def sizeOk : D → Bool
  | .tup l => decide (l.length = 2) && l.all fun x => whole x 1 12
  | _ => false
theorem c_is_size (m : Nat) (d : D) (hd : Tame d) (hd2 : ∀ l, d = .tup l → l.length ≤ most ∧ ∀ x ∈ l, Tame x) : run tbl wf (m + 2) i_is_size [(.fz, d)] = .ok (.fz, .bl (sizeOk d)) [none] := by
  rw [run_at (d := f_is_size) rfl rfl rfl]
  cases d with
  | exc k => exact hd.elim
  | tup l =>
    obtain ⟨h1, h2⟩ := hd2 l rfl
    simp only [f_is_size]
    simp [p_isi, isA]
    rw [comp1y [some (.fz, .tup l), none] l id (fun x => .bl (whole x 1 12)) (by simp) (by simp) h1 (fun y hy => ⟨.fz, by simp [c_is_whole m y (h2 y hy)]⟩)]
    have e : ((l.length : Int) = 2) ↔ l.length = 2 := by omega
    simp [sizeOk, e]
    by_cases h : l.length = 2 <;> simp [h]
  | _ => simp [f_is_size, p_isi, isA, sizeOk]
def sizeD (w h : Nat) : D := .tup [.int w, .int h]
def boxOk (w h : Nat) : D → Bool
  | .tup [a, b, c, d] => whole a 0 (w - 1) && whole b 0 (h - 1) && whole c 0 (w - 1) && whole d 0 (h - 1) && (match a, b, c, d with
    | .int a, .int b, .int c, .int d => decide (a ≤ c) && decide (b ≤ d)
    | _, _, _, _ => false)
  | _ => false
theorem whole_int {d : D} {a b : Int} (h : whole d a b = true) : ∃ i, d = .int i ∧ a ≤ i ∧ i ≤ b := by
  cases d <;> simp [whole] at h
  exact ⟨_, rfl, h⟩
theorem c_is_box (m : Nat) (w h : Nat) (d : D) (hd : Tame d) (hd2 : ∀ l, d = .tup l → ∀ x ∈ l, Tame x) : run tbl wf (m + 2) i_is_box [(.fz, sizeD w h), (.fz, d)] = .ok (.fz, .bl (boxOk w h d)) [none, none] := by
  rw [run_at (d := f_is_box) rfl rfl rfl]
  cases d with
  | exc k => exact hd.elim
  | tup l =>
    have h2 := hd2 l rfl
    by_cases hl : l.length = 4
    · match l, hl with
      | [a, b, c, d], _ =>
        simp only [List.mem_cons, List.not_mem_nil, or_false, forall_eq_or_imp, forall_eq] at h2
        obtain ⟨ta, tb, tc, td⟩ := h2
        simp only [f_is_box]
        simp [p_isi, isA]
        rw [comp1y [some (.fz, sizeD w h), some (.fz, .tup [a, b, c, d]), none] (List.range 4) (fun (k : Nat) => .int (k : Int)) (fun k => .bl (whole (([a, b, c, d])[k]?.getD .non) 0 ((if k % 2 = 0 then (w : Int) else (h : Int)) - 1)))
          (by simp) (by simp) (by decide) (fun y hy => by
            have hy : y < 4 := by simpa using hy
            match y, hy with
            | 0, _ => exact ⟨.fz, by simp [p_mod, sizeD, c_is_whole, ta]⟩
            | 1, _ => exact ⟨.fz, by simp [p_mod, sizeD, c_is_whole, tb]⟩
            | 2, _ => exact ⟨.fz, by simp [p_mod, sizeD, c_is_whole, tc]⟩
            | 3, _ => exact ⟨.fz, by simp [p_mod, sizeD, c_is_whole, td]⟩)]
        simp [List.range, List.range.loop, boxOk]
        by_cases q1 : whole a 0 (w - 1) = true
        · by_cases q2 : whole b 0 (h - 1) = true
          · by_cases q3 : whole c 0 (w - 1) = true
            · by_cases q4 : whole d 0 (h - 1) = true
              · obtain ⟨a, rfl, _⟩ := whole_int q1
                obtain ⟨b, rfl, _⟩ := whole_int q2
                obtain ⟨c, rfl, _⟩ := whole_int q3
                obtain ⟨d, rfl, _⟩ := whole_int q4
                simp [q1, q2, q3, q4]
              · simp [q1, q2, q3, q4]
            · simp [q1, q2, q3]
          · simp [q1, q2]
        · simp [q1]
    · have e : ¬ ((l.length : Int) = 4) := by omega
      have e2 : boxOk w h (.tup l) = false := by
        unfold boxOk
        split
        · rename_i q
          cases q
          simp at hl
        · rfl
      simp [f_is_box, p_isi, isA, e, e2]
  | _ => simp [f_is_box, p_isi, isA, boxOk]
structure Box where
  l : Int
  b : Int
  r : Int
  t : Int
def Box.d (x : Box) : D := .tup [.int x.l, .int x.b, .int x.r, .int x.t]
def ptD (p : Int × Int) : D := .tup [.int p.1, .int p.2]
def Box.off (x y : Box) : Bool := decide (x.r < y.l) || (decide (y.r < x.l) || (decide (x.t < y.b) || decide (y.t < x.b)))
def Box.has (x : Box) (p : Int × Int) : Bool := decide (x.l ≤ p.1) && decide (p.1 ≤ x.r) && (decide (x.b ≤ p.2) && decide (p.2 ≤ x.t))
theorem c_are_off (m : Nat) (x y : Box) : run tbl wf (m + 1) i_are_off [(.fz, x.d), (.fz, y.d)] = .ok (.fz, .bl (x.off y)) [none, none] := by
  rw [run_at (d := f_are_off) rfl rfl rfl]
  simp [f_are_off, Box.d, Box.off]
theorem c_is_in (m : Nat) (x : Box) (p : Int × Int) : run tbl wf (m + 1) i_is_in [(.fz, x.d), (.fz, ptD p)] = .ok (.fz, .bl (x.has p)) [none, none] := by
  rw [run_at (d := f_is_in) rfl rfl rfl]
  simp [f_is_in, Box.d, Box.has, ptD]
end Rl.Pl
set_option autoImplicit false
set_option linter.all false
set_option maxRecDepth 10000
/-! Roundlines, plain 4: the look at a board. -/
namespace Rl.Pl
variable {wf : Nat}
/-! ### sorting -/
def ins {α : Type} (le : α → α → Bool) (x : α) : List α → List α
  | [] => [x]
  | y :: r => if le x y then x :: y :: r else y :: ins le x r
def isort {α : Type} (le : α → α → Bool) : List α → List α
  | [] => []
  | x :: r => ins le x (isort le r)
theorem ins_perm {α : Type} (le : α → α → Bool) (x : α) : ∀ l : List α, (ins le x l).Perm (x :: l)
  | [] => .refl _
  | y :: r => by
    unfold ins
    split
    · exact .refl _
    · exact ((ins_perm le x r).cons y).trans (.swap x y r)
theorem isort_perm {α : Type} (le : α → α → Bool) : ∀ l : List α, (isort le l).Perm l
  | [] => .refl _
  | x :: r => (ins_perm le x _).trans ((isort_perm le r).cons x)
theorem insD_map {α : Type} (f : α → D) (le : D → D → Bool) (x : α) : ∀ l : List α, insD le (f x) (l.map f) = (ins (fun a b => le (f a) (f b)) x l).map f
  | [] => rfl
  | y :: r => by
    simp only [List.map_cons, insD, ins]
    split
    · simp
    · simp [insD_map f le x r]
theorem sortBy_map {α : Type} (f : α → D) (le : D → D → Bool) : ∀ l : List α, sortBy le (l.map f) = (isort (fun a b => le (f a) (f b)) l).map f
  | [] => rfl
  | x :: r => by
    simp only [List.map_cons, sortBy, isort, sortBy_map f le r, insD_map]
abbrev Nm := List Nat
def leS (a b : Nm) : Bool := leD (.str a) (.str b)
def sortS (l : List Nm) : List Nm := isort leS l
theorem sortS_perm (l : List Nm) : (sortS l).Perm l := isort_perm ..
@[simp] theorem strsOf_map : ∀ l : List Nm, strsOf (l.map .str) = some l
  | [] => rfl
  | a :: r => by simp [strsOf, strsOf_map r]
theorem p_sortedKeys (l : List Nm) (vs : List D) (h : l.length < 64) : prim .sortedKeys [.dct (l.map .str) vs] = some (.own, .lst ((sortS l).map .str)) := by
  simp only [prim, strsOf_map]
  rw [if_pos (by simpa using h), sortBy_map]
  rfl
/-! ### boards -/
structure Brd where
  w : Nat
  h : Nat
  bx : List (Nm × Box)
def Brd.names (B : Brd) : List Nm := B.bx.map (·.1)
def Brd.sz (B : Brd) : D := sizeD B.w B.h
def Brd.bd (B : Brd) : D := .dct (B.names.map .str) (B.bx.map fun q => q.2.d)
def Brd.d (B : Brd) : D := .tup [B.sz, B.bd]
def bget (bx : List (Nm × Box)) (x : Nm) : Option Box := (bx.find? fun q => decide (q.1 = x)).map (·.2)
@[simp] theorem B_idx0 (B : Brd) : prim .idx [B.d, .int 0] = some (.fz, B.sz) := loud rfl
@[simp] theorem B_idx1 (B : Brd) : prim .idx [B.d, .int 1] = some (.fz, B.bd) := loud rfl
@[simp] theorem B_len (B : Brd) : prim .len [B.d] = some (.fz, .int 2) := loud rfl
@[simp] theorem B_isi (B : Brd) (t : String) : prim (.isi t) [B.d] = some (.fz, .bl (decide (t = "tuple"))) := loud rfl
@[simp] theorem bd_isi (B : Brd) (t : String) : prim (.isi t) [B.bd] = some (.fz, .bl (decide (t = "dict"))) := loud rfl
@[simp] theorem bd_len (B : Brd) : prim .len [B.bd] = some (.fz, .int B.bx.length) := by
  show some (Sh.fz, D.int ((B.names.map D.str).length : Int)) = _
  simp [Brd.names]
@[simp] theorem bd_keys (B : Brd) (Γ : Env) : keysR B.bd Γ = .ok (B.names.map .str) Γ := loud rfl
@[simp] theorem bd_vals (B : Brd) (Γ : Env) : valsR B.bd Γ = .ok (B.bx.map fun q => q.2.d) Γ := loud rfl
@[simp] theorem sz_idx0 (B : Brd) : prim .idx [B.sz, .int 0] = some (.fz, .int B.w) := loud rfl
@[simp] theorem sz_idx1 (B : Brd) : prim .idx [B.sz, .int 1] = some (.fz, .int B.h) := loud rfl
theorem fits_str (l : List Nm) (x : Nm) : fits (l.map .str) (.str x) = true := by
  unfold fits
  simp [D.leaf, List.all_map]
theorem look_str (x : Nm) : ∀ bx : List (Nm × Box), look (bx.map fun q => .str q.1) (bx.map fun q => q.2.d) (.str x) = (bget bx x).map Box.d
  | [] => rfl
  | (y, b) :: r => by
    simp only [List.map_cons, look, D.eqk, bget, List.find?]
    by_cases h : y = x
    · simp [h]
    · simp only [h, decide_false]
      exact look_str x r
@[simp] theorem bd_idx (B : Brd) (x : Nm) : prim .idx [B.bd, .str x] = ((bget B.bx x).map Box.d).bind sc := by
  unfold Brd.bd
  rw [p_idxD, fits_str, if_pos rfl]
  have : B.names.map D.str = B.bx.map fun q => D.str q.1 := by simp [Brd.names]
  rw [this, look_str]
theorem any_str (x : Nm) (l : List Nm) : ((l.map D.str).any fun k => D.eqk k (.str x)) = decide (x ∈ l) := by
  induction l with
  | nil => rfl
  | cons a r ih =>
    simp only [List.map_cons, List.any_cons, D.eqk, ih, List.mem_cons]
    by_cases h : a = x
    · simp [h]
    · have : ¬ x = a := fun e => h e.symm
      simp [h, this]
@[simp] theorem bd_in (B : Brd) (x : Nm) : prim .inn [.str x, B.bd] = some (.fz, .bl (decide (x ∈ B.names))) := by
  unfold Brd.bd
  rw [p_inD, fits_str, if_pos rfl, any_str]
@[simp] theorem bd_nin (B : Brd) (x : Nm) : prim .nin [.str x, B.bd] = some (.fz, .bl (!decide (x ∈ B.names))) := by
  unfold Brd.bd
  rw [p_ninD, fits_str, if_pos rfl, any_str]
theorem bget_mem {bx : List (Nm × Box)} {x : Nm} {b : Box} (h : bget bx x = some b) : (x, b) ∈ bx := by
  unfold bget at h
  obtain ⟨q, h1, h2⟩ := Option.map_eq_some_iff.mp h
  have m := List.mem_of_find?_eq_some h1
  have e := List.find?_some h1
  simp only [decide_eq_true_eq] at e
  obtain ⟨a, c⟩ := q
  simp only at e h2
  subst e h2
  exact m
theorem bget_some {bx : List (Nm × Box)} {x : Nm} (h : x ∈ bx.map (·.1)) : ∃ b, bget bx x = some b := by
  obtain ⟨q, h1, h2⟩ := List.mem_map.mp h
  unfold bget
  cases e : bx.find? fun q => decide (q.1 = x) with
  | some r => exact ⟨_, rfl⟩
  | none =>
    have := List.find?_eq_none.mp e q h1
    simp [h2] at this
theorem bget_of {bx : List (Nm × Box)} (hn : (bx.map (·.1)).Nodup) {q : Nm × Box} (h : q ∈ bx) : bget bx q.1 = some q.2 := by
  induction bx with
  | nil => cases h
  | cons a r ih =>
    simp only [List.map_cons, List.nodup_cons] at hn
    unfold bget
    simp only [List.find?]
    rcases List.mem_cons.mp h with e | e
    · subst e; simp
    · have : a.1 ≠ q.1 := fun z => hn.1 (by rw [z]; exact List.mem_map.mpr ⟨q, e, rfl⟩)
      simp only [this, decide_false]
      exact ih hn.2 e
end Rl.Pl
set_option autoImplicit false
set_option linter.all false
set_option maxRecDepth 10000
/-! Roundlines, plain 5: what is no board is refused. -/
namespace Rl.Pl
variable {wf : Nat}
theorem p_isiT (t : String) (l : List D) : prim (.isi t) [.tup l] = some (.fz, .bl (decide (t = "tuple"))) := rfl
theorem p_isiD (t : String) (ks vs : List D) : prim (.isi t) [.dct ks vs] = some (.fz, .bl (decide (t = "dict"))) := rfl
/-- tame, and what it holds -/
def Tame2 (d : D) : Prop := Tame d ∧ ∀ l, d = .tup l → l.length ≤ most ∧ ∀ x ∈ l, Tame x
/-- no pair, or a pair without a size -/
theorem lb_bad0 (m : Nat) (d : D) (hd : Tame d) (h : ∀ l, d = .tup l → l.length ≠ 2 ∨ ∃ s b, l = [s, b] ∧ Tame2 s ∧ sizeOk s = false) : run tbl wf (m + 3) i_look_board [(.fz, d)] = .ex "BadBoard" [none] := by
  rw [run_at (d := f_look_board) rfl rfl rfl]
  cases d with
  | exc k => exact hd.elim
  | tup l =>
    rcases h l rfl with h | ⟨s, b, rfl, h1, h2⟩
    · have e : ¬ ((l.length : Int) = 2) := by omega
      simp [f_look_board, p_isi, isA, e]
    · simp [f_look_board, p_isi, isA, c_is_size m s h1.1 h1.2, h2]
  | _ => simp [f_look_board, p_isi, isA]
theorem lb_bad1 (m : Nat) (s b : D) (hs : Tame2 s) (ho : sizeOk s = true) (hb : Tame b) (h : ∀ ks vs, b ≠ .dct ks vs) : run tbl wf (m + 3) i_look_board [(.fz, .tup [s, b])] = .ex "BadBoard" [none] := by
  rw [run_at (d := f_look_board) rfl rfl rfl]
  cases b with
  | exc k => exact hb.elim
  | dct ks vs => exact (h ks vs rfl).elim
  | _ => simp [f_look_board, p_isi, isA, c_is_size m s hs.1 hs.2, ho]
/-- too many, or a name that is none -/
theorem lb_bad2 (m : Nat) (s : D) (ks vs : List D) (hs : Tame2 s) (ho : sizeOk s = true) (hl : ks.length ≤ most) (hk : ∀ k ∈ ks, Tame k) (h : 6 < ks.length ∨ ks.all nameOk = false) : run tbl wf (m + 3) i_look_board [(.fz, .tup [s, .dct ks vs])] = .ex "BadBoard" [none] := by
  rw [run_at (d := f_look_board) rfl rfl rfl]
  by_cases h6 : 6 < ks.length
  · have e : (6 : Int) < ks.length := by omega
    simp [f_look_board, p_isi, isA, c_is_size m s hs.1 hs.2, ho, e]
  · have e : ¬ (6 : Int) < ks.length := by omega
    have h : ks.all nameOk = false := h.resolve_left (by omega)
    simp only [f_look_board]
    simp [p_isi, isA, c_is_size m s hs.1 hs.2, ho, e]
    rw [comp1y [some (.fz, .tup [s, .dct ks vs]), some (.fz, .dct ks vs), none, none, none, none] ks id (fun k => .bl (nameOk k)) (by simp) (by simp) hl (fun y hy => ⟨.fz, by simp [c_is_name _ y (hk y hy)]⟩)]
    have e2 : allB (ks.map fun k => .bl (nameOk k)) = some false := by rw [allB_map, h]
    simp [e2]
theorem sizeOk_nat {s : D} (h : sizeOk s = true) : ∃ w h : Nat, s = sizeD w h ∧ 1 ≤ w ∧ w ≤ 12 ∧ 1 ≤ h ∧ h ≤ 12 := by
  cases s <;> simp [sizeOk] at h
  rename_i l
  obtain ⟨hl, h⟩ := h
  match l, hl with
  | [a, b], _ =>
    obtain ⟨i, rfl, i1, i2⟩ := whole_int (h a (by simp))
    obtain ⟨j, rfl, j1, j2⟩ := whole_int (h b (by simp))
    refine ⟨i.toNat, j.toNat, ?_, by omega, by omega, by omega, by omega⟩
    unfold sizeD
    rw [Int.toNat_of_nonneg (by omega), Int.toNat_of_nonneg (by omega)]
theorem sizeD_ok {w h : Nat} (w1 : 1 ≤ w) (w2 : w ≤ 12) (h1 : 1 ≤ h) (h2 : h ≤ 12) : sizeOk (sizeD w h) = true := by
  simp [sizeOk, sizeD, whole]
  omega
theorem sizeD_tame (w h : Nat) : Tame2 (sizeD w h) := ⟨trivial, fun l e => by cases e; exact ⟨by simp [most], fun x hx => by simp at hx; rcases hx with rfl | rfl <;> trivial⟩⟩
theorem nameOk_str {d : D} (h : nameOk d = true) : ∃ x : Nm, d = .str x ∧ x.length ≤ most := by
  cases d <;> simp [nameOk] at h
  exact ⟨_, rfl, by simp [most]; omega⟩
theorem look_mem : ∀ {ks vs : List D} {k : D}, k ∈ ks → ks.length = vs.length → (∀ a, D.eqk a a = true ∨ a ∉ ks) → ∃ v ∈ vs, look ks vs k = some v
  | [], _, _, h, _, _ => by cases h
  | k0 :: ks, [], _, _, h, _ => by simp at h
  | k0 :: ks, v0 :: vs, k, h, hl, hr => by
    unfold look
    cases e : D.eqk k0 k with
    | true => exact ⟨v0, by simp, rfl⟩
    | false =>
      rcases List.mem_cons.mp h with z | z
      · subst z
        rcases hr k with q | q
        · rw [q] at e; cases e
        · exact (q (by simp)).elim
      · obtain ⟨v, h1, h2⟩ := look_mem (vs := vs) z (by simpa using hl) fun a => by
          rcases hr a with q | q
          · exact .inl q
          · exact .inr fun c => q (by simp [c])
        exact ⟨v, by simp [h1], h2⟩
/-- what the names stand for -/
def vals (ks vs : List D) : List D := ks.map fun k => (look ks vs k).getD .non
/-- a box that is none -/
theorem lb_bad3 (m : Nat) (w h : Nat) (ns : List Nm) (vs : List D) (ho : sizeOk (sizeD w h) = true) (hl : ns.length ≤ 6) (hn : ∀ x ∈ ns, nameOk (.str x) = true) (hv : ∀ v ∈ vs, Tame2 v) (hlen : ns.length = vs.length)
    (hb : (vals (ns.map .str) vs).all (boxOk w h) = false) : run tbl wf (m + 3) i_look_board [(.fz, .tup [sizeD w h, .dct (ns.map .str) vs])] = .ex "BadBoard" [none] := by
  rw [run_at (d := f_look_board) rfl rfl rfl]
  have e : ¬ (6 : Int) < (ns.map D.str).length := by simp; omega
  have hm : (ns.map D.str).length ≤ most := by simp [most]; omega
  have hT : ∀ x ∈ ns, Tame (.str x) := fun x hx => by
    obtain ⟨y, e, h⟩ := nameOk_str (hn x hx)
    cases e
    exact h
  simp only [f_look_board]
  simp only [List.length_map] at e
  simp [p_isi, isA, c_is_size m _ (sizeD_tame w h).1 (sizeD_tame w h).2, ho, e]
  rw [comp1y [some (.fz, .tup [sizeD w h, .dct (ns.map .str) vs]), some (.fz, .dct (ns.map .str) vs), none, none, none, none] ns .str (fun x => .bl true) (by simp) (by simp) (by simpa using hm) (fun y hy => ⟨.fz, by simp [c_is_name _ _ (hT y hy), hn y hy]⟩)]
  have e1 : allB (ns.map fun _ => .bl true) = some true := by rw [allB_map (fun _ => true)]; simp
  simp [e1]
  rw [comp1y [some (.fz, .tup [sizeD w h, .dct (ns.map .str) vs]), some (.fz, .dct (ns.map .str) vs), none, none, none, none] ns .str (fun x => .bl (boxOk w h ((look (ns.map .str) vs (.str x)).getD .non))) (by simp) (by simp) (by simpa using hm) (fun y hy => ⟨.fz, by
    obtain ⟨v, v1, v2⟩ := look_mem (ks := ns.map .str) (vs := vs) (k := .str y) (List.mem_map.mpr ⟨y, hy, rfl⟩) (by simpa using hlen) fun a => by
      by_cases ha : a ∈ ns.map D.str
      · obtain ⟨z, _, rfl⟩ := List.mem_map.mp ha
        exact .inl (by simp [D.eqk])
      · exact .inr ha
    simp [fits_str, v2, c_is_box _ w h v (hv v v1).1 (fun l el => ((hv v v1).2 l el).2)]⟩)]
  have e2 : allB (ns.map fun x => .bl (boxOk w h ((look (ns.map .str) vs (.str x)).getD .non))) = some false := by
    rw [allB_map]
    unfold vals at hb
    rw [List.map_map, List.all_map] at hb
    exact congrArg some hb
  simp [e2]

/-! ### typed boards -/
/-- a board but for boxes over one another -/
structure Brd.Pre (B : Brd) : Prop where
  w1 : 1 ≤ B.w
  w2 : B.w ≤ 12
  h1 : 1 ≤ B.h
  h2 : B.h ≤ 12
  len : B.bx.length ≤ 6
  nd : B.names.Nodup
  nm : ∀ x ∈ B.names, nameOk (.str x) = true
  bx : ∀ q ∈ B.bx, 0 ≤ q.2.l ∧ q.2.l ≤ q.2.r ∧ q.2.r < B.w ∧ 0 ≤ q.2.b ∧ q.2.b ≤ q.2.t ∧ q.2.t < B.h
def Brd.box (B : Brd) (x : Nm) : Box := (bget B.bx x).getD ⟨0, 0, 0, 0⟩
theorem Brd.box_of {B : Brd} {x : Nm} (h : x ∈ B.names) : bget B.bx x = some (B.box x) := by
  obtain ⟨b, e⟩ := bget_some h
  unfold Brd.box
  rw [e]; rfl
theorem Brd.box_mem {B : Brd} {x : Nm} (h : x ∈ B.names) : (x, B.box x) ∈ B.bx := bget_mem (Brd.box_of h)
theorem Brd.Pre.ok {B : Brd} (h : B.Pre) {q : Nm × Box} (hq : q ∈ B.bx) : boxOk B.w B.h q.2.d = true := by
  have := h.bx q hq
  unfold boxOk Box.d
  simp [whole]
  omega
theorem box_tame (b : Box) : Tame2 b.d := ⟨trivial, fun l e => by cases e; exact ⟨by simp [most], fun x hx => by simp at hx; rcases hx with rfl | rfl | rfl | rfl <;> trivial⟩⟩
theorem Brd.bd_eq (B : Brd) : B.bd = .dct (B.names.map .str) (B.bx.map fun q => q.2.d) := rfl
theorem off_symm (x y : Box) : x.off y = y.off x := by
  unfold Box.off
  cases decide (x.r < y.l) <;> cases decide (y.r < x.l) <;> cases decide (x.t < y.b) <;> cases decide (y.t < x.b) <;> rfl
def Brd.sorted (B : Brd) : List Nm := sortS B.names
theorem Brd.sorted_mem (B : Brd) {x : Nm} : x ∈ B.sorted ↔ x ∈ B.names := (sortS_perm _).mem_iff
theorem Brd.sorted_len (B : Brd) : B.sorted.length = B.bx.length := by
  unfold Brd.sorted
  rw [(sortS_perm _).length_eq]
  simp [Brd.names]
def Brd.nth (B : Brd) (k : Nat) : Nm := (B.sorted[k]?).getD []
def Brd.over (B : Brd) (k : Nat) : Bool := !(B.sorted.take k).all fun x => (B.box (B.nth k)).off (B.box x)
theorem Brd.nth_eq {B : Brd} {k : Nat} (h : k < B.bx.length) : B.sorted[k]? = some (B.nth k) := by
  have h : k < B.sorted.length := by rw [B.sorted_len]; exact h
  unfold Brd.nth
  rw [List.getElem?_eq_getElem h]; rfl
theorem c_is_sizeB (m : Nat) (B : Brd) (hB : B.Pre) : run tbl wf (m + 2) i_is_size [(.fz, B.sz)] = .ok (.fz, .bl true) [none] := by
  have := c_is_size (wf := wf) m _ (sizeD_tame B.w B.h).1 (sizeD_tame B.w B.h).2
  rw [sizeD_ok hB.w1 hB.w2 hB.h1 hB.h2] at this
  exact this
theorem c_is_boxB (m : Nat) (B : Brd) (hB : B.Pre) (q : Nm × Box) (hq : q ∈ B.bx) : run tbl wf (m + 2) i_is_box [(.fz, B.sz), (.fz, q.2.d)] = .ok (.fz, .bl true) [none, none] := by
  have := c_is_box (wf := wf) m B.w B.h _ (box_tame q.2).1 fun l e => ((box_tame q.2).2 l e).2
  rw [hB.ok hq] at this
  exact this
@[simp] theorem bd_sorted (B : Brd) (h : B.bx.length < 64) : prim .sortedKeys [B.bd] = some (.own, .lst (B.sorted.map .str)) := p_sortedKeys _ _ (by simpa [Brd.names] using h)
theorem allB_true {α : Type} (l : List α) : allB (l.map fun _ => .bl true) = some true := by rw [allB_map (fun _ => true)]; simp
/-- the look at a typed board: refused where one lies over another one -/
theorem lb_typed (m : Nat) (B : Brd) (hB : B.Pre) : run tbl wf (m + 3) i_look_board [(.fz, B.d)] = (if (List.range B.bx.length).any B.over = true then .ex "BadBoard" [none] else .ok (.fz, .non) [none]) := by
  rw [run_at (d := f_look_board) rfl rfl rfl]
  generalize hh : (List.range B.bx.length).any B.over = bb
  have e : ¬ (6 : Int) < B.bx.length := by have := hB.len; omega
  have e64 : B.bx.length < 64 := by have := hB.len; omega
  have hm : B.bx.length ≤ most := by have := hB.len; simp [most]; omega
  have hmn : B.names.length ≤ most := by simpa [Brd.names] using hm
  have hT : ∀ x ∈ B.names, Tame (.str x) := fun x hx => by
    obtain ⟨y, e, h⟩ := nameOk_str (hB.nm x hx)
    cases e
    exact h
  simp only [f_look_board]
  simp [c_is_sizeB, hB, e]
  rw [comp1y [some (.fz, B.d), some (.fz, B.bd), none, none, none, none] B.names .str (fun x => .bl true) (by simp) (by simp) hmn (fun y hy => ⟨.fz, by simp [c_is_name _ _ (hT y hy), hB.nm y hy]⟩)]
  simp [allB_true]
  rw [comp1y [some (.fz, B.d), some (.fz, B.bd), none, none, none, none] B.names .str (fun x => .bl true) (by simp) (by simp) hmn (fun y hy => ⟨.fz, by simp [Brd.box_of hy, c_is_boxB _ B hB _ (Brd.box_mem hy)]⟩)]
  simp [allB_true, e64]
  rw [rngR_nat _ (by rw [B.sorted_len]; omega), B.sorted_len]
  simp only [rsr_ok]
  generalize hL : loopF _ _ _ _ = L
  obtain ⟨G, r1, r2⟩ := for_ex_of hL (fun Γ => ∃ x, Γ = [some (.fz, B.d), some (.fz, B.bd), some (.own, .lst (B.sorted.map .str)), x, none, none]) B.over "BadBoard" (fun Γ => ∃ x, Γ = [some (.fz, B.d), some (.fz, B.bd), some (.own, .lst (B.sorted.map .str)), x, none, none]) (fun (k : Nat) => .int (k : Int)) (List.range B.bx.length) rfl ⟨none, rfl⟩ (by
    rintro k hk Γ ⟨x, rfl⟩
    have hk2 := Brd.nth_eq (B := B) (k := k) (by simpa using hk)
    have hin : B.nth k ∈ B.names := B.sorted_mem.mp (List.mem_of_getElem? hk2)
    have hc : ∀ b, B.over k = b → allB ((B.sorted.take k).map fun x => .bl ((B.box (B.nth k)).off (B.box x))) = some (!b) := fun b hb => by
      rw [allB_map, ← hb]
      simp [Brd.over]
    refine ⟨_, [some (.fz, B.d), some (.fz, B.bd), some (.own, .lst (B.sorted.map .str)), some (.fz, .int k), none, none], by simp; rfl, fun h => ⟨?_, ⟨_, rfl⟩⟩, fun h => ⟨?_, ⟨_, rfl⟩⟩⟩ <;>
    · simp
      rw [comp1y [some (.fz, B.d), some (.fz, B.bd), some (.own, .lst (B.sorted.map .str)), some (.fz, .int k), none, none] (B.sorted.take k) .str (fun x => .bl ((B.box (B.nth k)).off (B.box x))) (by simp) (by simp) (by rw [List.length_take, B.sorted_len]; omega) (fun y hy => ⟨.fz, by
        have : y ∈ B.names := B.sorted_mem.mp (List.mem_of_mem_take hy)
        have z := c_are_off (wf := wf) (m + 1) (B.box (B.nth k)) (B.box y)
        simp [hk2, Brd.box_of hin, Brd.box_of this, z]⟩)]
      simp only [rbind_ok, gets_cons, get_d, gets_nil, gets1_some, Option.bind_some, p_all, hc _ h]
      simp)
  clear hL
  cases bb with
  | true =>
    obtain ⟨q1, x, rfl⟩ := r1 hh
    subst q1
    simp
  | false =>
    obtain ⟨q1, x, rfl⟩ := r2 hh
    subst q1
    simp
end Rl.Pl
set_option autoImplicit false
set_option linter.all false
set_option maxRecDepth 10000
/-! Roundlines, plain 6: boards that are boards; free places, ports, feet. -/
namespace Rl.Pl
variable {wf : Nat}
def Brd.R (B : Brd) (x y : Nm) : Prop := (B.box x).off (B.box y) = true
theorem Brd.R_symm {B : Brd} {x y : Nm} (h : B.R x y) : B.R y x := by unfold Brd.R; rw [off_symm]; exact h
theorem any_over (B : Brd) : (List.range B.bx.length).any B.over = false ↔ B.names.Pairwise B.R := by
  have hp : B.names.Pairwise B.R ↔ B.sorted.Pairwise B.R := ((sortS_perm B.names).pairwise_iff fun h => Brd.R_symm h).symm
  rw [hp, List.pairwise_iff_getElem, List.any_eq_false]
  simp only [List.mem_range, Brd.over, Bool.not_eq_true', Bool.not_eq_false, List.all_eq_true]
  constructor
  · intro h i j hi hj hij
    have hj' : j < B.bx.length := by rw [← B.sorted_len]; exact hj
    have e : B.nth j = B.sorted[j] := by
      have := Brd.nth_eq hj'
      rw [List.getElem?_eq_getElem hj] at this
      exact (Option.some.inj this).symm
    have := h j hj' (B.sorted[i]) (List.mem_take_iff_getElem.mpr ⟨i, by omega, rfl⟩)
    rw [e] at this
    exact Brd.R_symm this
  · intro h k hk x hx
    have hk' : k < B.sorted.length := by rw [B.sorted_len]; exact hk
    have e : B.nth k = B.sorted[k] := by
      have := Brd.nth_eq hk
      rw [List.getElem?_eq_getElem hk'] at this
      exact (Option.some.inj this).symm
    obtain ⟨i, hi, rfl⟩ := List.mem_take_iff_getElem.mp hx
    rw [e]
    exact Brd.R_symm (h i k (by omega) hk' (by omega))
structure Brd.Ok (B : Brd) : Prop extends B.Pre where
  off : B.bx.Pairwise fun p q => p.2.off q.2 = true
theorem Brd.box_eq {B : Brd} (h : B.names.Nodup) {q : Nm × Box} (hq : q ∈ B.bx) : B.box q.1 = q.2 := by
  unfold Brd.box
  rw [bget_of h hq]; rfl
theorem names_pair {B : Brd} (h : B.names.Nodup) : B.names.Pairwise B.R ↔ B.bx.Pairwise fun p q => p.2.off q.2 = true := by
  unfold Brd.names
  rw [List.pairwise_map]
  constructor
  · intro p
    refine List.Pairwise.imp_of_mem (fun {a b} ha hb r => ?_) p
    unfold Brd.R at r
    rwa [Brd.box_eq h ha, Brd.box_eq h hb] at r
  · intro p
    refine List.Pairwise.imp_of_mem (fun {a b} ha hb r => ?_) p
    unfold Brd.R
    rwa [Brd.box_eq h ha, Brd.box_eq h hb]
theorem c_look_board (m : Nat) (B : Brd) (hB : B.Ok) : run tbl wf (m + 3) i_look_board [(.fz, B.d)] = .ok (.fz, .non) [none] := by
  rw [lb_typed m B hB.toPre, (any_over B).mpr ((names_pair hB.nd).mpr hB.off)]
  rfl
theorem lb_bad4 (m : Nat) (B : Brd) (hB : B.Pre) (h : ¬ B.bx.Pairwise fun p q => p.2.off q.2 = true) : run tbl wf (m + 3) i_look_board [(.fz, B.d)] = .ex "BadBoard" [none] := by
  rw [lb_typed m B hB]
  have : (List.range B.bx.length).any B.over = true := by
    cases e : (List.range B.bx.length).any B.over with
    | true => rfl
    | false => exact absurd ((names_pair hB.nd).mp ((any_over B).mp e)) h
  rw [if_pos this]
/-! ### free places -/
def Brd.free (B : Brd) (p : Int × Int) : Bool := decide (0 ≤ p.1) && decide (p.1 < B.w) && (decide (0 ≤ p.2) && decide (p.2 < B.h)) && !B.bx.any fun q => q.2.has p
@[simp] theorem pt_idx0 (p : Int × Int) : prim .idx [ptD p, .int 0] = some (.fz, .int p.1) := loud rfl
@[simp] theorem pt_idx1 (p : Int × Int) : prim .idx [ptD p, .int 1] = some (.fz, .int p.2) := loud rfl
@[simp] theorem bindT_sz (B : Brd) (i j : Nat) (Γ : Env) : bindT (.many [i, j]) B.sz Γ = some ((Γ.set i (some (.fz, .int B.w))).set j (some (.fz, .int B.h))) := loud rfl
theorem c_is_free (m : Nat) (B : Brd) (hl : B.bx.length ≤ 6) (p : Int × Int) : run tbl wf (m + 2) i_is_free [(.fz, B.d), (.fz, ptD p)] = .ok (.fz, .bl (B.free p)) [none, none] := by
  rw [run_at (d := f_is_free) rfl rfl rfl]
  unfold Brd.free
  generalize hz : (B.bx.any fun q => q.2.has p) = z
  have ha : anyB (B.bx.map fun q => .bl (q.2.has p)) = some z := by rw [anyB_map, hz]
  simp only [f_is_free]
  simp
  rw [comp1y [some (.fz, B.d), some (.fz, ptD p), some (.fz, .int B.w), some (.fz, .int B.h), none] B.bx (fun q => q.2.d) (fun q => .bl (q.2.has p)) (by simp) (by simp) (by simp [most]; omega) (fun y hy => ⟨.fz, by simp [c_is_in]⟩)]
  simp [-anyB_map, ha]
  by_cases a1 : 0 ≤ p.1
  · by_cases a2 : p.1 < B.w
    · by_cases a3 : 0 ≤ p.2
      · by_cases a4 : p.2 < B.h
        · simp [a1, a2, a3, a4]
          omega
        · simp [a1, a2, a3, a4]
      · simp [a1, a2, a3]
    · simp [a1, a2]
  · simp [a1]
def Brd.row (B : Brd) (y : Nat) : List (Int × Int) := ((List.range B.w).filter fun (x : Nat) => B.free ((x : Int), (y : Int))).map fun (x : Nat) => ((x : Int), (y : Int))
def Brd.freeL (B : Brd) : List (Int × Int) := (List.range B.h).flatMap B.row
theorem Brd.row_len (B : Brd) (y : Nat) : (B.row y).length ≤ B.w := by
  unfold Brd.row
  rw [List.length_map]
  exact Nat.le_trans (List.length_filter_le _ _) (by simp)
theorem flat_len {α β : Type} (f : α → List β) (n : Nat) (h : ∀ a, (f a).length ≤ n) : ∀ l : List α, (l.flatMap f).length ≤ n * l.length
  | [] => by simp
  | a :: r => by
    have := flat_len f n h r
    have := h a
    simp only [List.flatMap_cons, List.length_append, List.length_cons, Nat.mul_add, Nat.mul_one]
    omega
theorem c_free_places (m : Nat) (B : Brd) (hB : B.Pre) : run tbl wf (m + 3) i_free_places [(.fz, B.d)] = .ok (.own, .lst (B.freeL.map ptD)) [none] := by
  rw [run_at (d := f_free_places) rfl rfl rfl]
  have w2 := hB.w2
  have h2 := hB.h2
  simp only [f_free_places]
  simp
  rw [rngR_nat _ (by omega)]
  simp only [rsr_ok]
  generalize hL : loopF _ _ _ _ = L
  obtain ⟨G, rfl, x, rfl⟩ := for_pre_of hL (fun (k : Nat) => .int (k : Int)) (List.range B.h) rfl (fun pre Γ => ∃ x, Γ = [some (.fz, B.d), some (.own, .lst ((pre.flatMap B.row).map ptD)), x, none]) ⟨none, rfl⟩ (by
    rintro pre y suf Γ hy ⟨x, rfl⟩
    have hlen := congrArg List.length hy
    simp only [List.length_range, List.length_append, List.length_cons] at hlen
    have hf := flat_len B.row B.w B.row_len pre
    have hf2 := B.row_len y
    refine ⟨_, by simp; rfl, ?_⟩
    simp only [exs_cons, ex_ext, slot_1, slot_zero, ifLst_own]
    rw [comp1 [some (.fz, B.d), some (.own, .lst ((pre.flatMap B.row).map ptD)), some (.fz, .int y), none] (List.range B.w) (fun (k : Nat) => .int (k : Int)) (fun x => ptD ((x : Int), (y : Int))) (fun x => B.free ((x : Int), (y : Int))) (by simp [rngR_nat _ (show B.w < 2 ^ 60 by omega)]) (by simp) (by simp [most]; omega) (fun k hk => by
      have e : D.tup [.int k, .int y] = ptD ((k : Int), (y : Int)) := rfl
      have q := c_is_free (wf := wf) m B hB.len ((k : Int), (y : Int))
      refine ⟨?_, fun h => ⟨.fz, ?_⟩⟩
      · simp [e, q, most]
      · simp [e, most])]
    have e : ((List.range B.w).filter fun (x : Nat) => B.free ((x : Int), (y : Int))).map (fun (x : Nat) => ptD ((x : Int), (y : Int))) = (B.row y).map ptD := by unfold Brd.row; rw [List.map_map]; rfl
    simp only [e, rsr_ok]
    have q : (pre.flatMap B.row).length + (B.row y).length ≤ most := by
      have : B.w * pre.length ≤ 12 * 12 := Nat.mul_le_mul w2 (by omega)
      simp only [most]
      omega
    rw [extR_ok (l := (pre.flatMap B.row).map ptD) (by simp) (by simpa using q)]
    simp)
  clear hL
  simp
  rfl
theorem c_free (m : Nat) (B : Brd) (hB : B.Ok) : run tbl wf (m + 4) i_free [(.fz, B.d)] = .ok (.own, .lst (B.freeL.map ptD)) [none] := by
  rw [run_at (d := f_free) rfl rfl rfl]
  simp [f_free, c_look_board, c_free_places, hB, hB.toPre]
end Rl.Pl
set_option autoImplicit false
set_option linter.all false
set_option maxRecDepth 10000
/-! Roundlines, plain 7: headings, ports, feet. -/
namespace Rl.Pl
variable {wf : Nat}
inductive Hd where
  | n | e | s | w
deriving DecidableEq
def Hd.t : Hd → List Nat
  | .n => [110]
  | .e => [101]
  | .s => [115]
  | .w => [119]
def Hd.d (h : Hd) : D := .str h.t
def Hd.dx : Hd → Int
  | .n => 0
  | .e => 1
  | .s => 0
  | .w => -1
def Hd.dy : Hd → Int
  | .n => 1
  | .e => 0
  | .s => -1
  | .w => 0
def Hd.opp : Hd → Hd
  | .n => .s
  | .e => .w
  | .s => .n
  | .w => .e
def hds : List Hd := [.n, .e, .s, .w]
theorem mem_hds (h : Hd) : h ∈ hds := by cases h <;> simp [hds]
def go (p : Int × Int) (h : Hd) : Int × Int := (p.1 + h.dx, p.2 + h.dy)
def hdOf (s : List Nat) : Option Hd := if s = [110] then some .n else if s = [101] then some .e else if s = [115] then some .s else if s = [119] then some .w else none
@[simp] theorem hdOf_t (h : Hd) : hdOf h.t = some h := by cases h <;> rfl
theorem hdOf_some {s : List Nat} {h : Hd} (e : hdOf s = some h) : s = h.t := by
  unfold hdOf at e
  split at e
  · cases e; assumption
  · split at e
    · cases e; assumption
    · split at e
      · cases e; assumption
      · split at e
        · cases e; assumption
        · cases e
@[simp] theorem p_inT (x : D) (l : List D) : prim .inn [x, .tup l] = if x.flat && l.all D.flat then some (.fz, .bl (l.any fun z => D.eqb z x)) else none := by
  cases x <;> rfl
theorem c_step (m : Nat) (p : Int × Int) (h : Hd) : run tbl wf (m + 1) i_step [(.fz, ptD p), (.fz, h.d)] = .ok (.fz, ptD (go p h)) [none, none] := by
  rw [run_at (d := f_step) rfl rfl rfl]
  cases h <;> simp [f_step, Hd.d, Hd.t, fits, D.leaf, look, D.eqk, most, go, Hd.dx, Hd.dy, ptD]
/-! ### ports -/
def along (b : Box) (h : Hd) : Int := match h with
  | .n => b.r - b.l
  | .e => b.t - b.b
  | .s => b.r - b.l
  | .w => b.t - b.b
def footAt (b : Box) (h : Hd) (k : Int) : Int × Int := match h with
  | .n => (b.l + k, b.t + 1)
  | .e => (b.r + 1, b.b + k)
  | .s => (b.l + k, b.b + -1)
  | .w => (b.l + -1, b.b + k)
@[simp] theorem bx_idx0 (b : Box) : prim .idx [b.d, .int 0] = some (.fz, .int b.l) := loud rfl
@[simp] theorem bx_idx1 (b : Box) : prim .idx [b.d, .int 1] = some (.fz, .int b.b) := loud rfl
@[simp] theorem bx_idx2 (b : Box) : prim .idx [b.d, .int 2] = some (.fz, .int b.r) := loud rfl
@[simp] theorem bx_idx3 (b : Box) : prim .idx [b.d, .int 3] = some (.fz, .int b.t) := loud rfl
def portD (x : Nm) (h : Hd) (k : Int) : D := .tup [.str x, h.d, .int k]
@[simp] theorem pd_idx0 (x : Nm) (h : Hd) (k : Int) : prim .idx [portD x h k, .int 0] = some (.fz, .str x) := loud rfl
@[simp] theorem pd_idx1 (x : Nm) (h : Hd) (k : Int) : prim .idx [portD x h k, .int 1] = some (.fz, h.d) := loud rfl
@[simp] theorem pd_idx2 (x : Nm) (h : Hd) (k : Int) : prim .idx [portD x h k, .int 2] = some (.fz, .int k) := loud rfl
theorem c_foot_of (m : Nat) (B : Brd) (x : Nm) (hx : x ∈ B.names) (h : Hd) (k : Int) : run tbl wf (m + 2) i_foot_of [(.fz, B.d), (.fz, portD x h k)] = .ok (.fz, ptD (footAt (B.box x) h k)) [none, none] := by
  rw [run_at (d := f_foot_of) rfl rfl rfl]
  have q : ∀ (p : Int × Int) (h : Hd), run tbl wf (m + 1) i_step [(.fz, .tup [.int p.1, .int p.2]), (.fz, h.d)] = .ok (.fz, ptD (go p h)) [none, none] := fun p h => c_step m p h
  simp only [f_foot_of]
  simp [Brd.box_of hx, most, dctR, dctOf, putP, fits, D.leaf, putK, putV, putR, D.eqk]
  cases h
  · simp [Hd.d, Hd.t, fits, D.leaf, look, D.eqk]
    have := q ((B.box x).l + k, (B.box x).t) .n
    simp only [Hd.d, Hd.t] at this
    simp [this, footAt, go, Hd.dx, Hd.dy]
  · simp [Hd.d, Hd.t, fits, D.leaf, look, D.eqk]
    have := q ((B.box x).r, (B.box x).b + k) .e
    simp only [Hd.d, Hd.t] at this
    simp [this, footAt, go, Hd.dx, Hd.dy]
  · simp [Hd.d, Hd.t, fits, D.leaf, look, D.eqk]
    have := q ((B.box x).l + k, (B.box x).b) .s
    simp only [Hd.d, Hd.t] at this
    simp [this, footAt, go, Hd.dx, Hd.dy]
  · simp [Hd.d, Hd.t, fits, D.leaf, look, D.eqk]
    have := q ((B.box x).l, (B.box x).b + k) .w
    simp only [Hd.d, Hd.t] at this
    simp [this, footAt, go, Hd.dx, Hd.dy]
def portOk (B : Brd) : D → Bool
  | .tup [.str x, .str s, t] => nameOk (.str x) && decide (x ∈ B.names) && (match hdOf s with
    | some h => whole t 0 (along (B.box x) h)
    | none => false)
  | _ => false
/-- what may be asked whether it is a port -/
def Tame3 (d : D) : Prop := Tame d ∧ ∀ l, d = .tup l → ∀ x ∈ l, Tame x
theorem c_is_port (m : Nat) (B : Brd) (d : D) (hd : Tame3 d) : run tbl wf (m + 2) i_is_port [(.fz, B.d), (.fz, d)] = .ok (.fz, .bl (portOk B d)) [none, none] := by
  rw [run_at (d := f_is_port) rfl rfl rfl]
  obtain ⟨hd, hd2⟩ := hd
  cases d with
  | exc k => exact hd.elim
  | tup l =>
    have h2 := hd2 l rfl
    by_cases hl : l.length = 3
    · match l, hl with
      | [a, b, c], _ =>
        simp only [List.mem_cons, List.not_mem_nil, or_false, forall_eq_or_imp, forall_eq] at h2
        obtain ⟨ta, tb, tc⟩ := h2
        simp only [f_is_port]
        simp [p_isiT, c_is_name _ a ta]
        by_cases q1 : nameOk a = true
        · obtain ⟨x, rfl, _⟩ := nameOk_str q1
          simp [q1]
          by_cases q2 : x ∈ B.names
          · simp [q2]
            cases b with
            | exc k => exact tb.elim
            | str s =>
              simp [p_isi, isA, fits, D.leaf, Brd.box_of q2]
              cases q3 : hdOf s with
              | none =>
                have e : s ≠ [110] ∧ s ≠ [101] ∧ s ≠ [115] ∧ s ≠ [119] := by
                  refine ⟨?_, ?_, ?_, ?_⟩ <;> (intro z; subst z; simp [hdOf] at q3)
                have e1 : ¬ [110] = s := fun z => e.1 z.symm
                have e2 : ¬ [101] = s := fun z => e.2.1 z.symm
                have e3 : ¬ [115] = s := fun z => e.2.2.1 z.symm
                have e4 : ¬ [119] = s := fun z => e.2.2.2 z.symm
                simp [D.eqk, e1, e2, e3, e4, portOk, q3]
              | some h =>
                have := hdOf_some q3
                subst this
                cases h <;> simp [D.eqk, Hd.t, D.flat, D.eqb, portOk, q1, q2, hdOf, along, c_is_whole _ c tc, Brd.box_of q2]
            | _ => simp [p_isi, isA, portOk]
          · have : portOk B (.tup [.str x, b, c]) = false := by
              unfold portOk
              split
              · rename_i e
                cases e
                simp [q2]
              · rfl
            simp [q2, this]
        · have : portOk B (.tup [a, b, c]) = false := by
            unfold portOk
            split
            · rename_i e
              cases e
              simp [q1]
            · rfl
          simp [q1, this]
    · have e : ¬ ((l.length : Int) = 3) := by omega
      have e2 : portOk B (.tup l) = false := by
        unfold portOk
        split
        · rename_i q
          cases q
          simp at hl
        · rfl
      simp [f_is_port, p_isi, isA, e, e2]
  | _ => simp [f_is_port, p_isi, isA, portOk]
end Rl.Pl
set_option autoImplicit false
set_option linter.all false
set_option maxRecDepth 10000
/-! Roundlines, plain 8: ports that are refused, all ports. -/
namespace Rl.Pl
variable {wf : Nat}
theorem portOk_some {B : Brd} {d : D} (h : portOk B d = true) : ∃ (x : Nm) (s : Hd) (k : Nat), d = portD x s k ∧ x ∈ B.names ∧ (k : Int) ≤ along (B.box x) s ∧ nameOk (.str x) = true := by
  unfold portOk at h
  split at h
  · rename_i x s t
    simp only [Bool.and_eq_true, decide_eq_true_eq] at h
    obtain ⟨⟨h1, h2⟩, h3⟩ := h
    split at h3
    · rename_i hh he
      obtain ⟨i, rfl, i1, i2⟩ := whole_int h3
      refine ⟨x, hh, i.toNat, ?_, h2, by omega, h1⟩
      rw [hdOf_some he, Int.toNat_of_nonneg i1]
      rfl
    · cases h3
  · cases h
theorem portOk_of {B : Brd} {x : Nm} {s : Hd} {k : Int} (h1 : x ∈ B.names) (h2 : nameOk (.str x) = true) : portOk B (portD x s k) = (decide (0 ≤ k) && decide (k ≤ along (B.box x) s)) := by
  simp [portOk, portD, Hd.d, h1, h2, whole]
/-- what is told of a port: none, or the refusal -/
def footErr (B : Brd) (d : D) : Option String := match portOk B d with
  | false => some "BadPort"
  | true => match d with
    | .tup [.str x, .str s, .int k] => (match hdOf s with
      | some h => if B.free (footAt (B.box x) h k) then none else some "NoFoot"
      | none => some "BadPort")
    | _ => some "BadPort"
theorem footErr_bad {B : Brd} {d : D} (h : portOk B d = false) : footErr B d = some "BadPort" := by unfold footErr; rw [h]
theorem footErr_port {B : Brd} {x : Nm} {s : Hd} {k : Int} (h : portOk B (portD x s k) = true) : footErr B (portD x s k) = if B.free (footAt (B.box x) s k) then none else some "NoFoot" := by
  unfold footErr
  rw [h]
  simp [portD, Hd.d]
def errR (e : Option String) (n : Nat) : CR := match e with
  | none => .ok (.fz, .non) (List.replicate n none)
  | some k => .ex k (List.replicate n none)
theorem c_look_port (m : Nat) (B : Brd) (d : D) (hd : Tame3 d) : run tbl wf (m + 3) i_look_port [(.fz, B.d), (.fz, d)] = if portOk B d = true then .ok (.fz, .non) [none, none] else .ex "BadPort" [none, none] := by
  rw [run_at (d := f_look_port) rfl rfl rfl]
  cases h : portOk B d <;> simp [f_look_port, c_is_port, hd, h]
theorem c_look_foot (m : Nat) (B : Brd) (hl : B.bx.length ≤ 6) (d : D) (hd : Tame3 d) : run tbl wf (m + 4) i_look_foot [(.fz, B.d), (.fz, d)] = errR (footErr B d) 2 := by
  rw [run_at (d := f_look_foot) rfl rfl rfl]
  cases h : portOk B d with
  | false =>
    rw [footErr_bad h]
    simp [f_look_foot, c_look_port, hd, h, errR]
  | true =>
    obtain ⟨x, s, k, rfl, h1, h2, h3⟩ := portOk_some h
    rw [footErr_port h]
    cases q : B.free (footAt (B.box x) s k) <;> simp [f_look_foot, c_look_port, hd, h, errR, c_foot_of, h1, c_is_free, hl, q]
theorem c_foot (m : Nat) (B : Brd) (hB : B.Ok) (d : D) (hd : Tame3 d) : run tbl wf (m + 5) i_foot [(.fz, B.d), (.fz, d)] = (match footErr B d with
    | some k => .ex k [none, none]
    | none => (match d with
      | .tup [.str x, .str s, .int k] => (match hdOf s with
        | some h => .ok (.fz, ptD (footAt (B.box x) h k)) [none, none]
        | none => .bad)
      | _ => .bad)) := by
  rw [run_at (d := f_foot) rfl rfl rfl]
  have q := c_look_foot (wf := wf) m B hB.len d hd
  cases h : portOk B d with
  | false =>
    rw [footErr_bad h] at q ⊢
    simp [f_foot, c_look_board, hB, q, errR]
  | true =>
    obtain ⟨x, s, k, rfl, h1, h2, h3⟩ := portOk_some h
    rw [footErr_port h] at q ⊢
    cases z : B.free (footAt (B.box x) s k)
    · rw [z] at q
      simp [f_foot, c_look_board, hB, q, errR]
    · rw [z] at q
      simp [f_foot, c_look_board, hB, q, errR, c_foot_of, h1]
      simp [portD, Hd.d]
/-! ### all ports of a box -/
def Brd.portsOn (B : Brd) (x : Nm) (s : Hd) : List Nat := (List.range 12).filter fun (k : Nat) => decide ((k : Int) ≤ along (B.box x) s) && B.free (footAt (B.box x) s k)
def Brd.portsOf (B : Brd) (x : Nm) : List D := hds.flatMap fun s => (B.portsOn x s).map fun (k : Nat) => portD x s k
theorem hds_map : hds.map Hd.d = [110, 101, 115, 119].map fun c => D.str [c] := rfl
@[simp] theorem seq_nesw : seqD (.str [110, 101, 115, 119]) = some (hds.map Hd.d) := loud rfl
theorem portsOn_len (B : Brd) (x : Nm) (s : Hd) : (B.portsOn x s).length ≤ 12 := Nat.le_trans (List.length_filter_le _ _) (by simp)
theorem port_tame (x : Nm) (s : Hd) (k : Int) (h : x.length ≤ most) : Tame3 (portD x s k) := ⟨trivial, fun l e => by
  cases e
  intro y hy
  simp at hy
  rcases hy with rfl | rfl | rfl
  · exact h
  · cases s <;> (show _ ≤ most; simp [Hd.t])
  · trivial⟩
theorem hds_len {a b : List Hd} {s : Hd} (h : hds = a ++ s :: b) : a.length ≤ 3 := by
  have := congrArg List.length h
  simp [hds] at this
  omega
theorem c_ports (m : Nat) (B : Brd) (hB : B.Ok) (x : Nm) (hx : x ∈ B.names) : run tbl wf (m + 4) i_ports [(.fz, B.d), (.fz, .str x)] = .ok (.own, .lst (B.portsOf x)) [none, none] := by
  rw [run_at (d := f_ports) rfl rfl rfl]
  have hn := hB.nm x hx
  obtain ⟨x', e, hxl⟩ := nameOk_str hn
  cases e
  simp only [f_ports]
  simp [c_look_board, hB, c_is_name _ _ (show Tame (.str x) from hxl), hn, hx]
  generalize hL : loopF _ _ _ _ = L
  obtain ⟨G, rfl, a, b, c, rfl⟩ := for_pre_of hL Hd.d hds rfl (fun pre Γ => ∃ a b c, Γ = [some (.fz, B.d), some (.fz, .str x), some (.own, .lst (pre.flatMap fun s => (B.portsOn x s).map fun (k : Nat) => portD x s k)), a, b, c]) ⟨none, none, none, rfl⟩ (by
    rintro pre s suf Γ hy ⟨a, b, c, rfl⟩
    have hpl := hds_len hy
    have hf := flat_len (fun s => (B.portsOn x s).map fun (k : Nat) => portD x s k) 12 (fun s => by rw [List.length_map]; exact portsOn_len B x s) pre
    refine ⟨_, by simp; rfl, ?_⟩
    simp
    generalize hL2 : loopF _ _ _ _ = L2
    obtain ⟨G2, rfl, b', c', rfl⟩ := for_pre_of hL2 (fun (k : Nat) => .int (k : Int)) (List.range 12) rfl (fun pre2 Γ => ∃ b c, Γ = [some (.fz, B.d), some (.fz, .str x), some (.own, .lst ((pre.flatMap fun s => (B.portsOn x s).map fun (k : Nat) => portD x s k) ++ (pre2.filter fun (k : Nat) => decide ((k : Int) ≤ along (B.box x) s) && B.free (footAt (B.box x) s k)).map fun (k : Nat) => portD x s k)), some (.fz, s.d), b, c]) ⟨b, c, by simp⟩ (by
      rintro pre2 k suf2 Γ hy2 ⟨b, c, rfl⟩
      have hl2 := congrArg List.length hy2
      simp only [List.length_range, List.length_append, List.length_cons] at hl2
      have hl3 := List.length_filter_le (fun (k : Nat) => decide ((k : Int) ≤ along (B.box x) s) && B.free (footAt (B.box x) s k)) pre2
      have e : D.tup [.str x, s.d, .int k] = portD x s k := rfl
      have pt := port_tame x s k hxl
      have po := portOk_of (B := B) (x := x) (s := s) (k := (k : Int)) hx hn
      have lt : ((pre.flatMap fun s => (B.portsOn x s).map fun (k : Nat) => portD x s k) ++ (pre2.filter fun (k : Nat) => decide ((k : Int) ≤ along (B.box x) s) && B.free (footAt (B.box x) s k)).map fun (k : Nat) => portD x s k).length < most := by
        rw [List.length_append, List.length_map]
        simp only [most]
        omega
      refine ⟨_, by simp; rfl, ?_⟩
      by_cases q1 : (k : Int) ≤ along (B.box x) s
      · cases q2 : B.free (footAt (B.box x) s k) with
        | true =>
          simp [e, c_is_port, pt, po, q1, c_foot_of, hx, c_is_free, hB.len, q2]
          rw [appR_ok (by simp) lt]
          simp [q1, q2]
        | false => simp [e, c_is_port, pt, po, q1, c_foot_of, hx, c_is_free, hB.len, q2]
      · simp [e, c_is_port, pt, po, q1])
    clear hL2
    simp [Brd.portsOn])
  clear hL
  simp
  rfl
end Rl.Pl
set_option autoImplicit false
set_option linter.all false
set_option maxRecDepth 10000
/-! Roundlines, plain 9: the law's draws and boards. -/
namespace Rl.Pl
variable {wf : Nat}
@[simp] theorem p_idxScr (l : List Int) (i : Int) : prim .idx [.scr l, .int i] = (atI (l.map .int) i).bind sc := loud rfl
@[simp] theorem p_lenScr (l : List Int) : prim .len [.scr l] = some (.fz, .int l.length) := loud rfl
@[simp] theorem truth_scr (l : List Int) : truth (.scr l) = some (!l.isEmpty) := loud rfl
def cellV (ns : List Int) (k : Nat) : Int := (ns[k % ns.length]?).getD 0
theorem c_law_cell (m : Nat) (ns : List Int) (k : Nat) : run tbl wf (m + 1) i_law_cell [(.fz, .scr ns), (.fz, .int k)] = .ok (.fz, .int (cellV ns k)) [none, none] := by
  rw [run_at (d := f_law_cell) rfl rfl rfl]
  by_cases h : ns = []
  · subst h
    simp [f_law_cell, cellV]
  · have hp : 0 < ns.length := List.length_pos_iff.mpr h
    have h2 : (0 : Int) < (ns.length : Int) := by omega
    have hl : k % ns.length < ns.length := Nat.mod_lt _ hp
    have e2 : (k : Int) % (ns.length : Int) = ((k % ns.length : Nat) : Int) := by simp
    simp only [f_law_cell]
    simp [p_mod, h, hp]
    rw [e2, atI_nat]
    simp [cellV, List.getElem?_eq_getElem hl]
def mixV (ns : List Int) (k : Nat) : Int := ((((cellV ns k + 104729 * ((k : Int) + 1)) % 4294967291) ^ 5 % 4294967279) / 64 * 69621 + (((cellV ns k + 104729 * ((k : Int) + 1)) % 4294967291) ^ 5 % 4294967279)) % 4294967231
theorem mixV_pos (ns : List Int) (k : Nat) : 0 ≤ mixV ns k := by unfold mixV; omega
theorem c_law_mix (m : Nat) (ns : List Int) (k : Nat) : run tbl wf (m + 2) i_law_mix [(.fz, .scr ns), (.fz, .int k)] = .ok (.fz, .int (mixV ns k)) [none, none] := by
  rw [run_at (d := f_law_mix) rfl rfl rfl]
  have h1 : ((cellV ns k + 104729 * ((k : Int) + 1)) % 4294967291).natAbs < 18446744073709551616 := by omega
  have h2 : (((cellV ns k + 104729 * ((k : Int) + 1)) % 4294967291) ^ 5 % 4294967279 / 64).natAbs < 18446744073709551616 := by omega
  simp [f_law_mix, c_law_cell, p_mul, p_mod, p_pow, p_fdiv, h1, h2, mixV]
/-- the next draw behind n of them -/
def drw (ns : List Int) (n many : Nat) : Nat := (mixV ns (n + 1) / 8 % (many : Int)).toNat
theorem drw_lt (ns : List Int) (n : Nat) {many : Nat} (h : 0 < many) : drw ns n many < many := by
  unfold drw
  have := Int.emod_lt_of_pos (mixV ns (n + 1) / 8) (show (0 : Int) < many by omega)
  have := Int.emod_nonneg (mixV ns (n + 1) / 8) (show (many : Int) ≠ 0 by omega)
  omega
theorem drw_int (ns : List Int) (n : Nat) {many : Nat} (h : 0 < many) : mixV ns (n + 1) / 8 % (many : Int) = (drw ns n many : Int) := by
  unfold drw
  have := Int.emod_nonneg (mixV ns (n + 1) / 8) (show (many : Int) ≠ 0 by omega)
  omega
def tw (n : Nat) : D := .lst (List.replicate n (.int 0))
theorem c_law_draw (m : Nat) (ns : List Int) (n many : Nat) (hn : n < most) (hm : 0 < many) : run tbl wf (m + 3) i_law_draw [(.fz, .scr ns), (.own, tw n), (.fz, .int many)] = .ok (.fz, .int (drw ns n many : Nat)) [none, some (.own, tw (n + 1)), none] := by
  rw [run_at (d := f_law_draw) rfl rfl rfl]
  have e : List.replicate n (D.int 0) ++ [.int 0] = List.replicate (n + 1) (.int 0) := by rw [List.replicate_succ']
  have q := c_law_mix (wf := wf) m ns (n + 1)
  have h0 : (0 : Int) < many := by omega
  simp only [Int.natCast_add, Int.cast_ofNat_Int] at q
  simp only [f_law_draw]
  simp [tw]
  rw [appR_ok (l := List.replicate n (.int 0)) (by simp) (by simpa using hn), e]
  simp [q, p_fdiv, p_mod, hm, drw_int ns n hm]
theorem c_law_pick (m : Nat) (ns : List Int) (n : Nat) (l : List D) (hn : n < most) (hl : 0 < l.length) : run tbl wf (m + 4) i_law_pick [(.fz, .scr ns), (.own, tw n), (.fz, .lst l)] = .ok (.fz, l.getD (drw ns n l.length) .non) [none, some (.own, tw (n + 1)), none] := by
  rw [run_at (d := f_law_pick) rfl rfl rfl]
  have h := drw_lt ns n hl
  simp only [f_law_pick]
  simp [c_law_draw, hn, hl, onceM]
  simp [List.getElem?_eq_getElem h]

theorem c_law_pick' (m : Nat) (ns : List Int) (n : Nat) (l : List D) (hn : n < most) (hl : 0 < l.length) : ∃ v ∈ l, run tbl wf (m + 4) i_law_pick [(.fz, .scr ns), (.own, tw n), (.fz, .lst l)] = .ok (.fz, v) [none, some (.own, tw (n + 1)), none] := by
  refine ⟨_, ?_, c_law_pick m ns n l hn hl⟩
  have h := drw_lt ns n hl
  rw [List.getD_eq_getElem?_getD, List.getElem?_eq_getElem h]
  exact List.getElem_mem h
/-- a box on a board of a size -/
def InSize (w h : Nat) (b : Box) : Prop := 0 ≤ b.l ∧ b.l ≤ b.r ∧ b.r < w ∧ 0 ≤ b.b ∧ b.b ≤ b.t ∧ b.t < h
theorem c_law_box (m : Nat) (ns : List Int) (n w h : Nat) (hw : 0 < w) (hh : 0 < h) (hn : n + 6 ≤ most) : ∃ b : Box, InSize w h b ∧ run tbl wf (m + 5) i_law_box [(.fz, .scr ns), (.own, tw n), (.fz, sizeD w h)] = .ok (.fz, b.d) [none, some (.own, tw (n + 6)), none] := by
  have h1 : n < most := by omega
  have h2 : n + 1 < most := by omega
  have h3 : n + 1 + 1 < most := by omega
  have h4 : n + 1 + 1 + 1 < most := by omega
  have h5 : n + 1 + 1 + 1 + 1 < most := by omega
  have h6 : n + 1 + 1 + 1 + 1 + 1 < most := by omega
  obtain ⟨v1, m1, q1⟩ := c_law_pick' (wf := wf) m ns (n + 1 + 1) [.int 1, .int 2, .int 3, .int 12] h3 (by simp)
  obtain ⟨v2, m2, q2⟩ := c_law_pick' (wf := wf) m ns (n + 1 + 1 + 1 + 1) [.int 1, .int 2, .int 3, .int 12] h5 (by simp)
  have e1 : ∃ k : Nat, 0 < k ∧ v1 = .int k := by
    simp only [List.mem_cons, List.not_mem_nil, or_false] at m1
    rcases m1 with rfl | rfl | rfl | rfl
    · exact ⟨1, by decide, rfl⟩
    · exact ⟨2, by decide, rfl⟩
    · exact ⟨3, by decide, rfl⟩
    · exact ⟨12, by decide, rfl⟩
  have e2 : ∃ k : Nat, 0 < k ∧ v2 = .int k := by
    simp only [List.mem_cons, List.not_mem_nil, or_false] at m2
    rcases m2 with rfl | rfl | rfl | rfl
    · exact ⟨1, by decide, rfl⟩
    · exact ⟨2, by decide, rfl⟩
    · exact ⟨3, by decide, rfl⟩
    · exact ⟨12, by decide, rfl⟩
  obtain ⟨k1, p1, rfl⟩ := e1
  obtain ⟨k2, p2, rfl⟩ := e2
  have s0 : prim .idx [sizeD w h, .int 0] = some (.fz, .int w) := rfl
  have s1 : prim .idx [sizeD w h, .int 1] = some (.fz, .int h) := rfl
  have b1 := drw_lt ns n hw
  have b2 := drw_lt ns (n + 1) hh
  have b3 := drw_lt ns (n + 1 + 1 + 1) p1
  have b4 := drw_lt ns (n + 1 + 1 + 1 + 1 + 1) p2
  refine ⟨⟨drw ns n w, drw ns (n + 1) h, if (drw ns n w : Int) + (drw ns (n + 1 + 1 + 1) k1 : Int) < (w : Int) - 1 then (drw ns n w : Int) + (drw ns (n + 1 + 1 + 1) k1 : Int) else (w : Int) - 1, if (drw ns (n + 1) h : Int) + (drw ns (n + 1 + 1 + 1 + 1 + 1) k2 : Int) < (h : Int) - 1 then (drw ns (n + 1) h : Int) + (drw ns (n + 1 + 1 + 1 + 1 + 1) k2 : Int) else (h : Int) - 1⟩, ?_, ?_⟩
  · unfold InSize
    refine ⟨?_, ?_, ?_, ?_, ?_, ?_⟩ <;> simp only [] <;> (try split) <;> omega
  · rw [run_at (d := f_law_box) rfl rfl rfl]
    simp only [f_law_box]
    simp [s0, s1, c_law_draw, hw, hh, h1, h2, h3, h4, h5, h6, onceM, q1, q2, p1, p2, Box.d]
theorem c_law_off (m : Nat) (x y : Box) : run tbl wf (m + 1) i_law_off [(.fz, x.d), (.fz, y.d)] = .ok (.fz, .bl (x.off y)) [none, none] := by
  rw [run_at (d := f_law_off) rfl rfl rfl]
  simp [f_law_off, Box.off]

/-! ### a board -/
def ns6 : List Nm := [[97], [98], [98, 111, 120], [122, 122, 122, 122, 122, 122, 122, 122], [101, 110, 100], [110, 111]]
def bxK (bx : List (Nm × Box)) : List D := bx.map fun q => .str q.1
def bxV (bx : List (Nm × Box)) : List D := bx.map fun q => q.2.d
def bxD (bx : List (Nm × Box)) : D := .dct (bxK bx) (bxV bx)
theorem bxD_eq (B : Brd) : bxD B.bx = B.bd := by
  unfold bxD bxK bxV Brd.bd Brd.names
  rw [List.map_map]; rfl
theorem putK_new {x : Nm} : ∀ {bx : List (Nm × Box)}, x ∉ bx.map (·.1) → putK (bxK bx) (.str x) = bxK bx ++ [.str x]
  | [], _ => rfl
  | a :: r, h => by
    simp only [List.map_cons, List.mem_cons, not_or] at h
    have e : ¬ a.1 = x := fun z => h.1 z.symm
    have ih := putK_new (bx := r) h.2
    unfold bxK at ih ⊢
    simp only [List.map_cons, putK, D.eqk, e, decide_false, ih, List.cons_append]
theorem putV_new {x : Nm} {y : D} : ∀ {bx : List (Nm × Box)}, x ∉ bx.map (·.1) → putV (bxK bx) (bxV bx) (.str x) y = bxV bx ++ [y]
  | [], _ => rfl
  | a :: r, h => by
    simp only [List.map_cons, List.mem_cons, not_or] at h
    have e : ¬ a.1 = x := fun z => h.1 z.symm
    have ih := putV_new (y := y) (bx := r) h.2
    unfold bxK bxV at ih ⊢
    simp only [List.map_cons, putV, D.eqk, e, decide_false, ih, List.cons_append]
theorem fits_bx (bx : List (Nm × Box)) (x : Nm) : fits (bxK bx) (.str x) = true := by
  have := fits_str (bx.map (·.1)) x
  rw [List.map_map] at this
  exact this
theorem pln_lst_nil : pln (.lst []) = true := rfl
theorem plain_box (n : Nat) (b : Box) : D.plain (n + 1) b.d = true := by simp [D.plain, Box.d]
theorem pln_boxes (l : List Box) : pln (.lst (l.map Box.d)) = true := by
  simp only [pln, D.plain, List.all_map, List.all_eq_true]
  intro b _
  exact plain_box _ b
theorem p_eqNil (l : List D) (h : pln (.lst l) = true) : prim .eq [.lst l, .lst []] = some (.fz, .bl l.isEmpty) := by
  rw [p_eq, h, pln_lst_nil]
  cases l <;> rfl
theorem ns6_ok : ∀ x ∈ ns6, nameOk (.str x) = true := by decide
theorem ns6_nd : ns6.Nodup := by decide
structure BoxesOk (w h : Nat) (bx : List (Nm × Box)) : Prop where
  nd : (bx.map (·.1)).Nodup
  ins : ∀ q ∈ bx, InSize w h q.2
  off : bx.Pairwise fun p q => p.2.off q.2 = true
theorem c_law_board (m : Nat) (ns : List Int) (n mx : Nat) (h1 : 0 < mx) (h2 : mx ≤ 12) (hn : n + 40 ≤ most) : ∃ (B : Brd) (n' : Nat), B.Ok ∧ B.bx ≠ [] ∧ B.w ≤ mx ∧ B.h ≤ mx ∧ (∀ x ∈ B.names, x ∈ ns6) ∧ n' ≤ n + 39 ∧ run tbl wf (m + 6) i_law_board [(.fz, .scr ns), (.own, tw n), (.fz, .int mx)] = .ok (.fz, B.d) [none, some (.own, tw n'), none] := by
  rw [run_at (d := f_law_board) rfl rfl rfl]
  have a1 : n < most := by omega
  have a2 : n + 1 < most := by omega
  have a3 : n + 1 + 1 < most := by omega
  have d1 := drw_lt ns n h1
  have d2 := drw_lt ns (n + 1) h1
  have d3 := drw_lt ns (n + 1 + 1) (show 0 < 6 by decide)
  have q6 := c_law_draw (wf := wf) (m + 2) ns (n + 1 + 1) 6 a3 (by decide)
  rw [show ((6 : Nat) : Int) = 6 from rfl] at q6
  have l6 : ns6.length ≤ most := by decide
  generalize hwd : drw ns n mx = wd at *
  generalize hht : drw ns (n + 1) mx = ht at *
  generalize htn : drw ns (n + 1 + 1) 6 = tn at *
  have hsz : D.tup [.int (1 + (wd : Int)), .int (1 + (ht : Int))] = sizeD (wd + 1) (ht + 1) := by
    unfold sizeD
    simp [Int.add_comm]
  have hnm : List.map D.str ns6 = [D.str [97], .str [98], .str [98, 111, 120], .str [122, 122, 122, 122, 122, 122, 122, 122], .str [101, 110, 100], .str [110, 111]] := rfl
  simp only [f_law_board]
  simp [c_law_draw, h1, a1, a2, a3, onceM, hwd, hht, htn, hsz, dctR, dctOf, putP, q6, ← hnm, l6]
  have hls : ((ns6.map D.str).drop tn ++ (ns6.map D.str).take tn) = (ns6.drop tn ++ ns6.take tn).map D.str := by simp
  have hsm : small ((ns6.drop tn ++ ns6.take tn).map D.str) (Sh.own, D.lst ((ns6.drop tn ++ ns6.take tn).map D.str)) = some (Sh.own, D.lst ((ns6.drop tn ++ ns6.take tn).map D.str)) := by
    unfold small
    rw [if_pos]
    simp [ns6, most]
    omega
  simp only [← List.map_drop, ← List.map_take, ← List.map_append, hsm, okO_some, rbind_ok, seqD_lst, oneOf_some, rsr_ok]
  have hnd : (ns6.drop tn ++ ns6.take tn).Nodup := by
    have : (ns6.drop tn ++ ns6.take tn).Perm ns6 := List.perm_append_comm.trans (by rw [List.take_append_drop])
    exact this.nodup_iff.mpr ns6_nd
  have hmem : ∀ x ∈ ns6.drop tn ++ ns6.take tn, x ∈ ns6 := fun x hx => by
    rcases List.mem_append.mp hx with h | h
    · exact List.mem_of_mem_drop h
    · exact List.mem_of_mem_take h
  have hlen : (ns6.drop tn ++ ns6.take tn).length = 6 := by
    simp [ns6]
    omega
  generalize ns6.drop tn ++ ns6.take tn = rot at *
  generalize hL : loopF _ _ _ _ = L
  obtain ⟨G, rfl, bx, k, a, b, c, rfl, hk, hbx, hbn, hne, hbl⟩ := for_pre_of hL D.str rot rfl (fun pre Γ => ∃ (bx : List (Nm × Box)) (k : Nat) (a b c : Option SD), Γ = [some (.fz, .scr ns), some (.own, tw k), some (.fz, .int mx), some (.fz, sizeD (wd + 1) (ht + 1)), some (.own, bxD bx), some (.own, .lst (ns6.map D.str)), some (.fz, .int tn), a, b, c, none] ∧
      k = n + 1 + 1 + 1 + 6 * pre.length ∧ BoxesOk (wd + 1) (ht + 1) bx ∧ (∀ x ∈ bx.map (·.1), x ∈ pre) ∧ (pre ≠ [] → bx ≠ []) ∧ bx.length ≤ pre.length) ⟨[], _, none, none, none, rfl, rfl, ⟨by simp, by simp, by simp⟩, by simp, by simp, by simp⟩ (by
    rintro pre x suf Γ hy ⟨bx, k, a, b, c, rfl, hk, hb, hbn, hne, hbl⟩
    have hl := congrArg List.length hy
    simp only [List.length_append, List.length_cons, hlen] at hl
    obtain ⟨bo, hbo, qb⟩ := c_law_box (wf := wf) m ns k (wd + 1) (ht + 1) (by omega) (by omega) (by omega)
    have hxn : x ∉ pre := by
      rw [hy] at hnd
      have := List.nodup_append.mp hnd
      intro hx
      exact this.2.2 x hx x (by simp) rfl
    have hxb : x ∉ bx.map (·.1) := fun h => hxn (hbn x h)
    have hov : pln (.lst ((bx.filter fun q => !bo.off q.2).map fun q => q.2.d)) = true := by
      have := pln_boxes ((bx.filter fun q => !bo.off q.2).map (·.2))
      rw [List.map_map] at this
      exact this
    have hkl : (bxK bx).length = bx.length := by simp [bxK]
    have hml : bx.length ≤ most := by simp only [most] at *; omega
    refine ⟨_, by simp; rfl, ?_⟩
    simp [qb, onceM]
    rw [comp1 [some (.fz, .scr ns), some (.own, tw (k + 6)), some (.fz, .int mx), some (.fz, sizeD (wd + 1) (ht + 1)), some (.own, bxD bx), some (.own, .lst (ns6.map D.str)), some (.fz, .int tn), some (.fz, .str x), some (.fz, bo.d), c, none] bx (fun q => q.2.d) (fun q => q.2.d) (fun q => !bo.off q.2) (by simp [bxD, small, bxV, hml]) (by simp) hml (fun q hq => ⟨by simp [c_law_off], fun _ => ⟨.fz, by simp⟩⟩)]
    have keep : ∀ y, bx ≠ [] → ∃ bx' k', (∃ a b c, [some (Sh.fz, D.scr ns), some (.own, tw (k + 6)), some (.fz, .int mx), some (.fz, sizeD (wd + 1) (ht + 1)), some (.own, bxD bx), some (.own, .lst (ns6.map D.str)), some (.fz, .int tn), some (.fz, .str x), some (.fz, bo.d), y, none] = [some (Sh.fz, D.scr ns), some (.own, tw k'), some (.fz, .int mx), some (.fz, sizeD (wd + 1) (ht + 1)), some (.own, bxD bx'), some (.own, .lst (ns6.map D.str)), some (.fz, .int tn), a, b, c, none]) ∧
        k' = n + 1 + 1 + 1 + 6 * (pre.length + 1) ∧ BoxesOk (wd + 1) (ht + 1) bx' ∧ (∀ (x_1 : List Nat) (x_2 : Box), (x_1, x_2) ∈ bx' → x_1 ∈ pre ∨ x_1 = x) ∧ ¬ bx' = [] ∧ bx'.length ≤ pre.length + 1 := fun y hne => ⟨bx, k + 6, ⟨_, _, _, rfl⟩, by omega, hb, fun x1 x2 hm => .inl (hbn x1 (List.mem_map.mpr ⟨(x1, x2), hm, rfl⟩)), hne, by omega⟩
    by_cases hf : bx.filter (fun q => !bo.off q.2) = []
    · simp only [hf, List.map_nil]
      by_cases hlt : bx.length < 1 + tn
      · have hlt' : (bx.length : Int) < 1 + (tn : Int) := by omega
        simp [p_eqNil [] rfl, bxD, hkl, hlt']
        rw [putR_dct (ks := bxK bx) (vs := bxV bx) (by simp) (fits_bx bx x) (by rw [hkl]; simp only [most] at *; omega), putK_new hxb, putV_new hxb]
        simp
        refine ⟨bx ++ [(x, bo)], k + 6, ⟨rfl, by simp [bxK], by simp [bxV]⟩, by omega, ⟨?_, ?_, ?_⟩, ?_, by simp, by simp; omega⟩
        · rw [List.map_append]
          refine List.nodup_append.mpr ⟨hb.nd, by simp, fun y hyy z hz e => ?_⟩
          simp at hz
          subst hz e
          exact hxb hyy
        · intro q hq
          rcases List.mem_append.mp hq with h | h
          · exact hb.ins q h
          · simp at h; subst h; exact hbo
        · refine List.pairwise_append.mpr ⟨hb.off, by simp, fun p hp q hq => ?_⟩
          simp at hq
          subst hq
          have := List.filter_eq_nil_iff.mp hf p hp
          simp at this
          rw [off_symm]
          exact this
        · intro x1 x2 hm
          rcases List.mem_append.mp hm with h | h
          · exact .inl (hbn x1 (List.mem_map.mpr ⟨(x1, x2), h, rfl⟩))
          · simp at h; exact .inr h.1
      · have hlt' : ¬ (bx.length : Int) < 1 + (tn : Int) := by omega
        simp [p_eqNil [] rfl, bxD, hkl, hlt']
        have := keep (some (.own, .lst [])) (fun e => by subst e; simp at hlt)
        simpa [bxD] using this
    · have he : ((bx.filter fun q => !bo.off q.2).map fun q => q.2.d).isEmpty = false := by
        cases h : bx.filter fun q => !bo.off q.2 with
        | nil => exact absurd h hf
        | cons a r => rfl
      have heq : prim P.eq [D.lst ((bx.filter fun q => !bo.off q.2).map fun q => q.2.d), D.lst []] = some (.fz, .bl false) := by rw [p_eqNil _ hov, he]
      simp [heq]
      have := keep (some (.own, .lst ((bx.filter fun q => !bo.off q.2).map fun q => q.2.d))) (fun e => by subst e; simp at hf)
      simpa using this)
  clear hL
  have hbne : bx ≠ [] := hne (fun e => by rw [e] at hlen; simp at hlen)
  refine ⟨⟨wd + 1, ht + 1, bx⟩, ⟨⟨by simp, by simp; omega, by simp, by simp; omega, by simp; omega, hbx.nd, fun y hy => ns6_ok y (hmem y (hbn y hy)), fun q hq => ?_⟩, hbx.off⟩, hbne, by simp; omega, by simp; omega, fun y hy => hmem y (hbn y hy), k, by omega, ?_⟩
  · have := hbx.ins q hq
    unfold InSize at this
    simpa using this
  · simp [Brd.d, Brd.sz, ← bxD_eq]
end Rl.Pl
set_option autoImplicit false
set_option linter.all false
set_option maxRecDepth 10000
/-! Roundlines, plain 10: the law's own look at boards. -/
namespace Rl.Pl
variable {wf : Nat}
@[simp] theorem bindT_bx (b : Box) (i j k l : Nat) (Γ : Env) : bindT (.many [i, j, k, l]) b.d Γ = some ((((Γ.set i (some (.fz, .int b.l))).set j (some (.fz, .int b.b))).set k (some (.fz, .int b.r))).set l (some (.fz, .int b.t))) := loud rfl
@[simp] theorem bd_listVals (B : Brd) (h : B.bx.length ≤ most) : prim .listVals [B.bd] = some (.own, .lst (B.bx.map fun q => q.2.d)) := by
  show small _ _ = _
  unfold small
  rw [if_pos (by simpa using h)]
theorem c_law_is_free (m : Nat) (B : Brd) (hl : B.bx.length ≤ 6) (p : Int × Int) : run tbl wf (m + 1) i_law_is_free [(.fz, B.d), (.fz, ptD p)] = .ok (.fz, .bl (B.free p)) [none, none] := by
  rw [run_at (d := f_law_is_free) rfl rfl rfl]
  have hm : B.bx.length ≤ most := by simp only [most]; omega
  unfold Brd.free
  generalize hz : (B.bx.any fun q => q.2.has p) = z
  by_cases a1 : 0 ≤ p.1
  · by_cases a2 : 0 ≤ p.2
    · by_cases a3 : p.1 < B.w
      · by_cases a4 : p.2 < B.h
        · have b1 : ¬ p.1 < 0 := by omega
          have b2 : ¬ p.2 < 0 := by omega
          have b3 : ¬ (B.w : Int) ≤ p.1 := by omega
          have b4 : ¬ (B.h : Int) ≤ p.2 := by omega
          simp only [f_law_is_free]
          simp [b1, b2, b3, b4, hm, a1, a2, a3, a4]
          generalize hL : loopF _ _ _ _ = L
          obtain ⟨G, r1, r2⟩ := for_rt_of hL (fun Γ => ∃ a b c d, Γ = [some (.fz, B.d), some (.fz, ptD p), a, b, c, d]) (fun q : Nm × Box => q.2.has p) (.fz, .bl false) (fun Γ => ∃ a b c d, Γ = [some (.fz, B.d), some (.fz, ptD p), a, b, c, d]) (fun q => q.2.d) B.bx rfl ⟨_, _, _, _, rfl⟩ (by
            rintro q hq Γ ⟨a, b, c, d, rfl⟩
            refine ⟨_, [some (.fz, B.d), some (.fz, ptD p), some (.fz, .int q.2.l), some (.fz, .int q.2.b), some (.fz, .int q.2.r), some (.fz, .int q.2.t)], by simp; rfl, fun h => ⟨?_, _, _, _, _, rfl⟩, fun h => ⟨?_, _, _, _, _, rfl⟩⟩
            · simp only [Box.has, Bool.and_eq_true, decide_eq_true_eq] at h
              simp [h.1.1, h.1.2, h.2.1, h.2.2]
            · unfold Box.has at h
              by_cases c1 : q.2.l ≤ p.1 <;> by_cases c2 : p.1 ≤ q.2.r <;> by_cases c3 : q.2.b ≤ p.2 <;> by_cases c4 : p.2 ≤ q.2.t <;> simp [c1, c2, c3, c4] at h ⊢)
          clear hL
          cases z with
          | true =>
            obtain ⟨rfl, a, b, c, d, rfl⟩ := r1 hz
            simp
          | false =>
            obtain ⟨rfl, a, b, c, d, rfl⟩ := r2 hz
            simp
        · have b4 : (B.h : Int) ≤ p.2 := by omega
          simp [f_law_is_free, a1, a2, a3, a4, b4]
      · have b3 : (B.w : Int) ≤ p.1 := by omega
        simp [f_law_is_free, a1, a2, a3, b3]
    · have b2 : p.2 < 0 := by omega
      simp [f_law_is_free, a1, a2, b2]
  · have b1 : p.1 < 0 := by omega
    simp [f_law_is_free, a1, b1]
theorem c_law_foot (m : Nat) (B : Brd) (x : Nm) (hx : x ∈ B.names) (h : Hd) (k : Int) : run tbl wf (m + 1) i_law_foot [(.fz, B.d), (.fz, portD x h k)] = .ok (.fz, ptD (footAt (B.box x) h k)) [none, none] := by
  rw [run_at (d := f_law_foot) rfl rfl rfl]
  cases h <;> simp [f_law_foot, Brd.box_of hx, Hd.d, Hd.t, D.flat, D.eqb, p_eq, pln, D.plain, footAt, ptD, Int.sub_eq_add_neg]
theorem along_nat {B : Brd} (hB : B.Pre) {x : Nm} (hx : x ∈ B.names) (h : Hd) : ∃ k : Nat, along (B.box x) h = k ∧ k ≤ 11 := by
  have h0 := hB.bx _ (Brd.box_mem hx)
  simp only at h0
  have := hB.w2
  have := hB.h2
  refine ⟨(along (B.box x) h).toNat, ?_, ?_⟩ <;> cases h <;> simp only [along] <;> omega
/-- the places along a side -/
def Brd.alongN (B : Brd) (x : Nm) (h : Hd) : Nat := (along (B.box x) h).toNat
theorem range_filter (a b : Nat) (h : a ≤ b) (p : Nat → Bool) : (List.range b).filter (fun k => decide (k < a) && p k) = (List.range a).filter p := by
  induction b with
  | zero => simp at h; subst h; simp
  | succ b ih =>
    by_cases e : a = b + 1
    · subst e
      apply List.filter_congr
      intro x hx
      simp at hx
      simp [hx]
    · rw [List.range_succ, List.filter_append, ih (by omega)]
      have : ¬ b < a := by omega
      simp [this]
theorem Brd.portsOn_eq {B : Brd} (hB : B.Pre) {x : Nm} (hx : x ∈ B.names) (s : Hd) : B.portsOn x s = (List.range (B.alongN x s + 1)).filter fun (k : Nat) => B.free (footAt (B.box x) s k) := by
  obtain ⟨k, h1, h2⟩ := along_nat hB hx s
  unfold Brd.portsOn Brd.alongN
  rw [h1, Int.toNat_natCast, ← range_filter (k + 1) 12 (by omega)]
  apply List.filter_congr
  intro y _
  congr 1
  simp
  omega
theorem c_law_all_ports (m : Nat) (B : Brd) (hB : B.Pre) (x : Nm) (hx : x ∈ B.names) : run tbl wf (m + 2) i_law_all_ports [(.fz, B.d), (.fz, .str x)] = .ok (.own, .lst (B.portsOf x)) [none, none] := by
  rw [run_at (d := f_law_all_ports) rfl rfl rfl]
  simp only [f_law_all_ports]
  simp [Brd.box_of hx]
  generalize hL : loopF _ _ _ _ = L
  obtain ⟨G, rfl, a, b, rfl⟩ := for_pre_of hL Hd.d hds rfl (fun pre Γ => ∃ a b, Γ = [some (.fz, B.d), some (.fz, .str x), some (.fz, .int (B.box x).l), some (.fz, .int (B.box x).b), some (.fz, .int (B.box x).r), some (.fz, .int (B.box x).t), some (.own, .lst (pre.flatMap fun s => (B.portsOn x s).map fun (k : Nat) => portD x s k)), a, b]) ⟨none, none, rfl⟩ (by
    rintro pre s suf Γ hy ⟨a, b, rfl⟩
    have hpl := hds_len hy
    have hf := flat_len (fun s => (B.portsOn x s).map fun (k : Nat) => portD x s k) 12 (fun s => by rw [List.length_map]; exact portsOn_len B x s) pre
    obtain ⟨k0, k1, k2⟩ := along_nat hB hx s
    refine ⟨_, by simp; rfl, ?_⟩
    have hr : ∀ Γ : Env, rngR (.int (1 + along (B.box x) s)) Γ = .ok ((List.range (k0 + 1)).map fun (k : Nat) => .int (k : Int)) Γ := fun Γ => by
      rw [k1, show (1 + (k0 : Int)) = ((k0 + 1 : Nat) : Int) by omega, rngR_nat _ (by omega)]
    have hc : ∀ Γ : Env, slot Γ 7 = some (.fz, s.d) → slot Γ 4 = some (.fz, .int (B.box x).r) → slot Γ 2 = some (.fz, .int (B.box x).l) → slot Γ 5 = some (.fz, .int (B.box x).t) → slot Γ 3 = some (.fz, .int (B.box x).b) →
        evI (run tbl wf (m + 1)) (.rng (.prim .add (.cons (.e (.cst (.int 1))) (.cons (.e (.ite (.cmp .inn (.v 7) (.e (.tup (.cons (.cst (.str [110])) (.cons (.cst (.str [115])) .nil))))) (.prim .sub (.cons (.v 4) (.cons (.v 2) .nil))) (.prim .sub (.cons (.v 5) (.cons (.v 3) .nil))))) .nil)))) Γ = .ok ((List.range (k0 + 1)).map fun (k : Nat) => .int (k : Int)) Γ := fun Γ e1 e2 e3 e4 e5 => by
      rw [← hr]
      cases s <;> simp [e1, e2, e3, e4, e5, Hd.d, Hd.t, D.flat, D.eqb, along]
    simp only [exs_cons, ex_for]
    rw [hc _ (by simp) (by simp) (by simp) (by simp) (by simp)]
    simp only [rsr_ok]
    generalize hL2 : loopF _ _ _ _ = L2
    obtain ⟨G2, rfl, b', rfl⟩ := for_pre_of hL2 (fun (k : Nat) => .int (k : Int)) (List.range (k0 + 1)) rfl (fun pre2 Γ => ∃ b, Γ = [some (.fz, B.d), some (.fz, .str x), some (.fz, .int (B.box x).l), some (.fz, .int (B.box x).b), some (.fz, .int (B.box x).r), some (.fz, .int (B.box x).t), some (.own, .lst ((pre.flatMap fun s => (B.portsOn x s).map fun (k : Nat) => portD x s k) ++ (pre2.filter fun (k : Nat) => B.free (footAt (B.box x) s k)).map fun (k : Nat) => portD x s k)), some (.fz, s.d), b]) ⟨b, by simp⟩ (by
      rintro pre2 k suf2 Γ hy2 ⟨b, rfl⟩
      have hl2 := congrArg List.length hy2
      simp only [List.length_range, List.length_append, List.length_cons] at hl2
      have hl3 := List.length_filter_le (fun (k : Nat) => B.free (footAt (B.box x) s k)) pre2
      have e : D.tup [.str x, s.d, .int k] = portD x s k := rfl
      have lt : ((pre.flatMap fun s => (B.portsOn x s).map fun (k : Nat) => portD x s k) ++ (pre2.filter fun (k : Nat) => B.free (footAt (B.box x) s k)).map fun (k : Nat) => portD x s k).length < most := by
        rw [List.length_append, List.length_map]
        simp only [most]
        omega
      refine ⟨_, by simp; rfl, ?_⟩
      cases q2 : B.free (footAt (B.box x) s k) with
      | true =>
        simp [e, c_law_foot, hx, c_law_is_free, hB.len, q2]
        rw [appR_ok (by simp) lt]
        simp [q2]
      | false => simp [e, c_law_foot, hx, c_law_is_free, hB.len, q2])
    clear hL2
    have e : B.alongN x s = k0 := by unfold Brd.alongN; rw [k1]; rfl
    simp [Brd.portsOn_eq hB hx, e])
  clear hL
  simp
  rfl

/-- all ports that have a foot -/
def Brd.allPorts (B : Brd) : List D := B.sorted.flatMap B.portsOf
theorem portsOf_len (B : Brd) (x : Nm) : (B.portsOf x).length ≤ 48 := by
  have := flat_len (fun s => (B.portsOn x s).map fun (k : Nat) => portD x s k) 12 (fun s => by rw [List.length_map]; exact portsOn_len B x s) hds
  unfold Brd.portsOf
  simp only [hds, List.length_cons, List.length_nil] at this
  exact this
theorem c_law_ports (m : Nat) (B : Brd) (hB : B.Pre) : run tbl wf (m + 3) i_law_ports [(.fz, B.d)] = .ok (.own, .lst B.allPorts) [none] := by
  rw [run_at (d := f_law_ports) rfl rfl rfl]
  have e64 : B.bx.length < 64 := by have := hB.len; omega
  simp only [f_law_ports]
  simp [e64]
  generalize hL : loopF _ _ _ _ = L
  obtain ⟨G, rfl, a, rfl⟩ := for_pre_of hL D.str B.sorted rfl (fun pre Γ => ∃ a, Γ = [some (.fz, B.d), some (.own, .lst (pre.flatMap B.portsOf)), a]) ⟨none, rfl⟩ (by
    rintro pre x suf Γ hy ⟨a, rfl⟩
    have hx : x ∈ B.names := B.sorted_mem.mp (by rw [hy]; simp)
    have hl := congrArg List.length hy
    rw [B.sorted_len] at hl
    simp only [List.length_append, List.length_cons] at hl
    have := hB.len
    have hf := flat_len B.portsOf 48 (portsOf_len B) pre
    have hf2 := portsOf_len B x
    have hs : (pre.flatMap B.portsOf ++ B.portsOf x).length ≤ most := by
      rw [List.length_append]
      simp only [most]
      omega
    refine ⟨_, by simp; rfl, ?_⟩
    simp [c_law_all_ports, hB, hx, small, hs]
    simp [hs] at hs
    simp [hs])
  clear hL
  simp
  rfl
def Brd.sidesOf (B : Brd) (x : Nm) : List D := hds.flatMap fun s => (List.range (B.alongN x s + 1)).map fun (k : Nat) => portD x s k
def Brd.sides (B : Brd) : List D := B.sorted.flatMap B.sidesOf
theorem c_law_sides (m : Nat) (B : Brd) (hB : B.Pre) : run tbl wf (m + 1) i_law_sides [(.fz, B.d)] = .ok (.own, .lst B.sides) [none] := by
  rw [run_at (d := f_law_sides) rfl rfl rfl]
  have e64 : B.bx.length < 64 := by have := hB.len; omega
  simp only [f_law_sides]
  simp [e64]
  have hal : ∀ x ∈ B.names, ∀ s, (B.alongN x s + 1) ≤ 12 := fun x hx s => by
    obtain ⟨k, k1, k2⟩ := along_nat hB hx s
    unfold Brd.alongN
    rw [k1]
    simp
    omega
  have flat_len' : ∀ (f : Nm → List D) (n : Nat) (l : List Nm), (∀ a ∈ l, (f a).length ≤ n) → (l.flatMap f).length ≤ n * l.length := fun f n l => by
    induction l with
    | nil => simp
    | cons a r ih =>
      intro h
      have := ih fun b hb => h b (by simp [hb])
      have := h a (by simp)
      simp only [List.flatMap_cons, List.length_append, List.length_cons, Nat.mul_add, Nat.mul_one]
      omega
  have hsl : ∀ x ∈ B.names, ∀ pre : List Hd, (pre.flatMap fun s => (List.range (B.alongN x s + 1)).map fun (k : Nat) => portD x s k).length ≤ 12 * pre.length := fun x hx pre =>
    flat_len (fun s => (List.range (B.alongN x s + 1)).map fun (k : Nat) => portD x s k) 12 (fun s => by simpa using hal x hx s) pre
  generalize hL : loopF _ _ _ _ = L
  obtain ⟨G, rfl, a, b, c, d, e, f, g, rfl⟩ := for_pre_of hL D.str B.sorted rfl (fun pre Γ => ∃ a b c d e f g, Γ = [some (.fz, B.d), some (.own, .lst (pre.flatMap B.sidesOf)), a, b, c, d, e, f, g, none]) ⟨none, none, none, none, none, none, none, rfl⟩ (by
    rintro pre x suf Γ hy ⟨a, b, c, d, e, f, g, rfl⟩
    have hx : x ∈ B.names := B.sorted_mem.mp (by rw [hy]; simp)
    have hpre : ∀ y ∈ pre, y ∈ B.names := fun y hm => B.sorted_mem.mp (by rw [hy]; simp [hm])
    have hl := congrArg List.length hy
    rw [B.sorted_len] at hl
    simp only [List.length_append, List.length_cons] at hl
    have hlen := hB.len
    have hf := flat_len' B.sidesOf 48 pre fun y hm => hsl y (hpre y hm) hds
    refine ⟨_, by simp; rfl, ?_⟩
    simp [Brd.box_of hx]
    generalize hL2 : loopF _ _ _ _ = L2
    obtain ⟨G2, rfl, a', b', rfl⟩ := for_pre_of hL2 Hd.d hds rfl (fun pre2 Γ => ∃ a b, Γ = [some (.fz, B.d), some (.own, .lst (pre.flatMap B.sidesOf ++ pre2.flatMap fun s => (List.range (B.alongN x s + 1)).map fun (k : Nat) => portD x s k)), some (.fz, .str x), some (.fz, .int (B.box x).l), some (.fz, .int (B.box x).b), some (.fz, .int (B.box x).r), some (.fz, .int (B.box x).t), a, b, none]) ⟨f, g, by simp⟩ (by
      rintro pre2 s suf2 Γ hy2 ⟨a, b, rfl⟩
      have hpl := hds_len hy2
      have hf2 := hsl x hx pre2
      have ha12 := hal x hx s
      obtain ⟨k0, k1, k2⟩ := along_nat hB hx s
      have ek : B.alongN x s = k0 := by unfold Brd.alongN; rw [k1]; rfl
      refine ⟨_, by simp; rfl, ?_⟩
      have hc : ∀ Γ : Env, slot Γ 7 = some (.fz, s.d) → slot Γ 5 = some (.fz, .int (B.box x).r) → slot Γ 3 = some (.fz, .int (B.box x).l) → slot Γ 6 = some (.fz, .int (B.box x).t) → slot Γ 4 = some (.fz, .int (B.box x).b) →
          ev (run tbl wf m) (.prim .add (.cons (.e (.cst (.int 1))) (.cons (.e (.ite (.cmp .inn (.v 7) (.e (.tup (.cons (.cst (.str [110])) (.cons (.cst (.str [115])) .nil))))) (.prim .sub (.cons (.v 5) (.cons (.v 3) .nil))) (.prim .sub (.cons (.v 6) (.cons (.v 4) .nil))))) .nil))) Γ = .ok (.fz, .int ((k0 + 1 : Nat) : Int)) Γ := fun Γ e1 e2 e3 e4 e5 => by
        rw [show ((k0 + 1 : Nat) : Int) = 1 + along (B.box x) s by omega]
        cases s <;> simp [e1, e2, e3, e4, e5, Hd.d, Hd.t, D.flat, D.eqb, along]
      simp only [exs_cons, ex_asg]
      rw [hc _ (by simp) (by simp) (by simp) (by simp) (by simp)]
      have e : ∀ k : Nat, D.tup [.str x, s.d, .int k] = portD x s k := fun _ => rfl
      have hs : (pre.flatMap B.sidesOf ++ (pre2.flatMap fun s => (List.range (B.alongN x s + 1)).map fun (k : Nat) => portD x s k) ++ (List.range (k0 + 1)).map fun (k : Nat) => portD x s k).length ≤ most := by
        rw [List.length_append, List.length_append, List.length_map, List.length_range]
        simp only [most]
        omega
      simp only [rsr_ok, List.set_cons_succ, List.set_cons_zero, then_nx, exs_cons, ex_asg, ev_prim, evOs_cons, evO_v, slot_1, slot_zero, ifSomeP_some, rbind_ok, evO_e]
      rw [comp1y [some (.fz, B.d), some (.own, .lst (pre.flatMap B.sidesOf ++ pre2.flatMap fun s => (List.range (B.alongN x s + 1)).map fun (k : Nat) => portD x s k)), some (.fz, .str x), some (.fz, .int (B.box x).l), some (.fz, .int (B.box x).b), some (.fz, .int (B.box x).r), some (.fz, .int (B.box x).t), some (.fz, s.d), some (.fz, .int ((k0 + 1 : Nat) : Int)), none] (List.range (k0 + 1)) (fun (k : Nat) => .int (k : Int)) (fun k => portD x s k) (by simp [-Int.natCast_add]; rw [rngR_nat _ (by omega)]) (by simp) (by simp [most]; omega) (fun k hk => ⟨.fz, by simp [e]⟩)]
      simp only [evOs_nil, rbind_ok, gets_cons, get_v, slot_1, slot_zero, Option.map_some, get_d, gets_nil, gets1_some, Option.bind_some, p_addL, small, hs, if_true, okO_some, rsr_ok, then_nx, exs_nil, turn_nx, List.set_cons_succ, List.set_cons_zero]
      refine ⟨some (.fz, s.d), some (.fz, .int ((k0 + 1 : Nat) : Int)), ?_⟩
      simp [ek])
    clear hL2
    simp [Brd.sidesOf])
  clear hL
  simp
  rfl
end Rl.Pl
set_option autoImplicit false
set_option linter.all false
set_option maxRecDepth 10000
/-! Roundlines, plain 11: refusals as the law tells them. -/
namespace Rl.Pl
variable {wf : Nat}
theorem eqbs_refl : ∀ {l : List D}, (∀ x ∈ l, D.eqb x x = true) → D.eqbs l l = true
  | [], _ => rfl
  | a :: r, h => by
    simp only [D.eqbs, h a (by simp), eqbs_refl (l := r) fun x hx => h x (by simp [hx]), Bool.and_self]
theorem eqb_refl : ∀ (n : Nat) (d : D), D.plain n d = true → D.eqb d d = true
  | _, .non, _ => rfl
  | _, .bl b, _ => by simp [D.eqb]
  | _, .int i, _ => by simp [D.eqb]
  | _, .str x, _ => by simp [D.eqb]
  | 0, .tup l, h => by simp [D.plain] at h
  | n + 1, .tup l, h => by
    simp only [D.plain, List.all_eq_true] at h
    simp only [D.eqb]
    exact eqbs_refl fun x hx => eqb_refl n x (h x hx)
  | 0, .lst l, h => by simp [D.plain] at h
  | n + 1, .lst l, h => by
    simp only [D.plain, List.all_eq_true] at h
    simp only [D.eqb]
    exact eqbs_refl fun x hx => eqb_refl n x (h x hx)
  | n, .dct a b, h => by cases n <;> simp [D.plain] at h
  | n, .exc a, h => by cases n <;> simp [D.plain] at h
  | n, .scr a, h => by cases n <;> simp [D.plain] at h
theorem p_ne_self {d : D} (h : pln d = true) : prim .ne [d, d] = some (.fz, .bl false) := by
  rw [p_ne, h, eqb_refl 30 d h]; rfl
theorem p_eq_self {d : D} (h : pln d = true) : prim .eq [d, d] = some (.fz, .bl true) := by
  rw [p_eq, h, eqb_refl 30 d h]; rfl
def wordOf (k : String) : List Nat := if k = "BadBoard" then [98, 111, 97, 114, 100] else if k = "BadPort" then [112, 111, 114, 116] else if k = "NoFoot" then [102, 111, 111, 116] else if k = "NoWay" then [119, 97, 121] else if k = "BadLine" then [108, 105, 110, 101] else if k = "BadNumber" then [110, 117, 109, 98, 101, 114] else if k = "Nothing" then [110, 111, 116, 104, 105, 110, 103] else [116, 101, 120, 116]
def refusedD (k : String) : D := .tup [.str [114, 101, 102, 117, 115, 101, 100], .str (wordOf k)]
theorem c_law_refusal (m : Nat) (k : String) (hk : k ∈ errs) : run tbl wf (m + 1) i_law_refusal [(.fz, .exc k)] = .ok (.fz, refusedD k) [none] := by
  simp only [errs, List.mem_cons, List.not_mem_nil, or_false] at hk
  rcases hk with rfl | rfl | rfl | rfl | rfl | rfl | rfl | rfl <;> rfl
/-- what law_one raises, law_told tells -/
theorem told_ex (m : Nat) (kind some_ : D) (k : String) (hk : k ∈ errs) (h : run tbl wf (m + 1) i_law_one [(.fz, kind), (.fz, some_)] = .ex k [none, none]) : run tbl wf (m + 2) i_law_told [(.fz, kind), (.fz, some_)] = .ok (.fz, refusedD k) [none, none] := by
  rw [run_at (d := f_law_told) rfl rfl rfl]
  simp [f_law_told, h, hk, c_law_refusal _ k hk]
/-- a board, ports, that are refused by all -/
structure Ref (wf : Nat) (d one other : D) (k : String) : Prop where
  ends : ∀ m, run tbl wf (m + 6) i_look_ends [(.fz, d), (.fz, one), (.fz, other)] = .ex k [none, none, none]
  wires : ∀ m, run tbl wf (m + 6) i_look_wires [(.fz, d), (.fz, .lst [.tup [one, other]])] = .ex k [none, none]
theorem one_ref (m : Nat) {d one other x : D} {k : String} (h : Ref wf d one other k) (n : Nat) (h1 : 1 ≤ n) (h2 : n ≤ 9) : run tbl wf (m + 8) i_law_one [(.fz, .int n), (.fz, .lst [d, one, other, x])] = .ex k [none, none] := by
  have q1 : run tbl wf (m + 7) i_least [(.fz, d), (.fz, one), (.fz, other)] = .ex k [none, none, none] := by
    rw [run_at (d := f_least) rfl rfl rfl]
    simp [f_least, h.ends]
  have q2 : run tbl wf (m + 7) i_line [(.fz, d), (.fz, one), (.fz, other)] = .ex k [none, none, none] := by
    rw [run_at (d := f_line) rfl rfl rfl]
    simp [f_line, h.ends]
  have q3 : run tbl wf (m + 7) i_is_line [(.fz, d), (.fz, one), (.fz, other), (.fz, .int 0)] = .ex k [none, none, none, none] := by
    rw [run_at (d := f_is_line) rfl rfl rfl]
    simp [f_is_line, h.ends]
  have q4 : run tbl wf (m + 7) i_worth [(.fz, d), (.fz, one), (.fz, other), (.fz, .int 0)] = .ex k [none, none, none, none] := by
    rw [run_at (d := f_worth) rfl rfl rfl]
    simp [f_worth, h.ends]
  have q5 : run tbl wf (m + 7) i_paper [(.fz, d), (.fz, one), (.fz, other)] = .ex k [none, none, none] := by
    rw [run_at (d := f_paper) rfl rfl rfl]
    simp [f_paper, h.ends]
  have q6 : run tbl wf (m + 7) i_shows [(.fz, d), (.fz, one), (.fz, other), (.fz, .int 0), (.fz, .int 0)] = .ex k [none, none, none, none, none] := by
    rw [run_at (d := f_shows) rfl rfl rfl]
    simp [f_shows, h.ends]
  have q7 : run tbl wf (m + 7) i_laid [(.fz, d), (.fz, .lst [.tup [one, other]])] = .ex k [none, none] := by
    rw [run_at (d := f_laid) rfl rfl rfl]
    simp [f_laid, h.wires]
  have q8 : run tbl wf (m + 7) i_apart [(.fz, d), (.fz, .lst [.tup [one, other]])] = .ex k [none, none] := by
    rw [run_at (d := f_apart) rfl rfl rfl]
    simp [f_apart, h.wires]
  have q9 : run tbl wf (m + 7) i_are_apart [(.fz, d), (.fz, .lst [.tup [one, other]]), (.fz, .int 0)] = .ex k [none, none, none] := by
    rw [run_at (d := f_are_apart) rfl rfl rfl]
    simp [f_are_apart, h.wires]
  rw [run_at (d := f_law_one) rfl rfl rfl]
  have : n = 1 ∨ n = 2 ∨ n = 3 ∨ n = 4 ∨ n = 5 ∨ n = 6 ∨ n = 7 ∨ n = 8 ∨ n = 9 := by omega
  rcases this with rfl | rfl | rfl | rfl | rfl | rfl | rfl | rfl | rfl <;> simp [f_law_one, q1, q2, q3, q4, q5, q6, q7, q8, q9]
/-- a board that is none -/
def BadB (wf : Nat) (d : D) : Prop := ∀ m, run tbl wf (m + 3) i_look_board [(.fz, d)] = .ex "BadBoard" [none]
theorem BadB.ref {d one other : D} (h : BadB wf d) : Ref wf d one other "BadBoard" := by
  refine ⟨fun m => ?_, fun m => ?_⟩
  · rw [run_at (d := f_look_ends) rfl rfl rfl]
    simp [f_look_ends, h (m + 2)]
  · rw [run_at (d := f_look_wires) rfl rfl rfl]
    simp [f_look_wires, h (m + 2)]
theorem one_bad (m : Nat) {d x : D} (h : BadB wf d) (n : Nat) (h2 : n < 13) : run tbl wf (m + 8) i_law_one [(.fz, .int n), (.fz, .lst [d, .int 0, .int 0, x])] = .ex "BadBoard" [none, none] := by
  by_cases h3 : 1 ≤ n ∧ n ≤ 9
  · exact one_ref m h.ref n h3.1 h3.2
  · have q1 : run tbl wf (m + 7) i_foot [(.fz, d), (.fz, .int 0)] = .ex "BadBoard" [none, none] := by
      rw [run_at (d := f_foot) rfl rfl rfl]
      simp [f_foot, h (m + 3)]
    have q2 : run tbl wf (m + 7) i_free [(.fz, d)] = .ex "BadBoard" [none] := by
      rw [run_at (d := f_free) rfl rfl rfl]
      simp [f_free, h (m + 3)]
    have q3 : run tbl wf (m + 7) i_ports [(.fz, d), (.fz, x)] = .ex "BadBoard" [none, none] := by
      rw [run_at (d := f_ports) rfl rfl rfl]
      simp [f_ports, h (m + 3)]
    have q4 : run tbl wf (m + 7) i_picture [(.fz, d), (.fz, .lst [])] = .ex "BadBoard" [none, none] := by
      rw [run_at (d := f_picture) rfl rfl rfl]
      simp [f_picture, h (m + 3)]
    rw [run_at (d := f_law_one) rfl rfl rfl]
    have : n = 0 ∨ n = 10 ∨ n = 11 ∨ n = 12 := by omega
    rcases this with rfl | rfl | rfl | rfl <;> simp [f_law_one, q1, q2, q3, q4]
end Rl.Pl
set_option autoImplicit false
set_option linter.all false
set_option maxRecDepth 10000
/-! Roundlines, plain 12: what is no board. -/
namespace Rl.Pl
variable {wf : Nat}
@[simp] theorem bindT_B (B : Brd) (i j : Nat) (Γ : Env) : bindT (.many [i, j]) B.d Γ = some ((Γ.set i (some (.fz, B.sz))).set j (some (.fz, B.bd))) := loud rfl
@[simp] theorem bd_listKeys (B : Brd) (h : B.bx.length ≤ most) : prim .listKeys [B.bd] = some (.own, .lst (B.names.map .str)) := by
  show small _ _ = _
  unfold small
  rw [if_pos (by simpa [Brd.names] using h)]
@[simp] theorem bd_dictD (B : Brd) (h : B.bx.length ≤ most) : prim .dictD [B.bd] = some (.own, B.bd) := by
  show (if (B.names.map D.str).all D.leaf && decide ((B.names.map D.str).length ≤ most) then some (Sh.own, D.dct (B.names.map .str) (B.bx.map fun q => q.2.d)) else none) = _
  rw [if_pos]
  · rfl
  · have : B.names.length ≤ most := by simpa [Brd.names] using h
    simp [List.all_map, this]
    intro x _
    rfl
theorem sz_ok {B : Brd} (hB : B.Pre) : sizeOk B.sz = true := sizeD_ok hB.w1 hB.w2 hB.h1 hB.h2
theorem sz_tame (B : Brd) : Tame2 B.sz := sizeD_tame B.w B.h
/-- a size that is none -/
theorem bad_size {B : Brd} {odd : D} (h : Tame2 odd) (h2 : sizeOk odd = false) : BadB wf (.tup [odd, B.bd]) := fun m => lb_bad0 m _ trivial fun l e => by cases e; exact .inr ⟨_, _, rfl, h, h2⟩
theorem put_new {B : Brd} {x : Nm} (h : x ∉ B.names) (y : D) : D.dct (putK (B.names.map .str) (.str x)) (putV (B.names.map .str) (B.bx.map fun q => q.2.d) (.str x) y) = .dct ((B.names ++ [x]).map .str) ((B.bx.map fun q => q.2.d) ++ [y]) := by
  have e1 : B.names.map D.str = bxK B.bx := by simp [Brd.names, bxK]
  have e2 : (B.bx.map fun q => q.2.d) = bxV B.bx := rfl
  rw [e1, e2, putK_new h, putV_new h, ← e1]
  simp
theorem look_app {x : Nm} {y : D} : ∀ {ks vs : List D}, ks.length = vs.length → (∀ k ∈ ks, D.eqk k (.str x) = false) → look (ks ++ [.str x]) (vs ++ [y]) (.str x) = some y
  | [], [], _, _ => by simp [look, D.eqk]
  | [], _ :: _, h, _ => by simp at h
  | _ :: _, [], h, _ => by simp at h
  | k :: ks, v :: vs, h, hk => by
    simp only [List.cons_append, look, hk k (by simp)]
    exact look_app (by simpa using h) fun z hz => hk z (by simp [hz])
/-- a new box that can't be -/
theorem bad_new {B : Brd} (hB : B.Ok) {x : Nm} (hx : x ∉ B.names) (hxn : nameOk (.str x) = true) (y : D) (hy : Tame2 y)
    (h : boxOk B.w B.h y = false ∨ ∃ b : Box, y = b.d ∧ boxOk B.w B.h y = true ∧ ∃ q ∈ B.bx, q.2.off b = false) : BadB wf (.tup [B.sz, .dct ((B.names ++ [x]).map .str) ((B.bx.map fun q => q.2.d) ++ [y])]) := fun m => by
  have hlen : B.names.length = B.bx.length := by simp [Brd.names]
  by_cases h6 : B.bx.length ≤ 5
  · rcases h with h | ⟨b, rfl, h, q, hq, ho⟩
    · refine lb_bad3 m B.w B.h (B.names ++ [x]) _ (sz_ok hB.toPre) (by simp; omega) (fun z hz => ?_) (fun v hv => ?_) (by simp; omega) ?_
      · rcases List.mem_append.mp hz with e | e
        · exact hB.nm z e
        · simp at e; subst e; exact hxn
      · rcases List.mem_append.mp hv with e | e
        · obtain ⟨q, _, rfl⟩ := List.mem_map.mp e
          exact box_tame q.2
        · simp at e; subst e; exact hy
      · rw [List.all_eq_false]
        refine ⟨y, ?_, by simp [h]⟩
        unfold vals
        rw [List.mem_map]
        refine ⟨.str x, by simp, ?_⟩
        rw [List.map_append, List.map_cons, List.map_nil, look_app (by simp; omega) (fun k hk => ?_)]
        · rfl
        · obtain ⟨z, hz, rfl⟩ := List.mem_map.mp hk
          simp only [D.eqk, decide_eq_false_iff_not]
          intro e
          subst e
          exact hx hz
    · let B' : Brd := ⟨B.w, B.h, B.bx ++ [(x, b)]⟩
      have e : D.tup [B.sz, .dct ((B.names ++ [x]).map .str) ((B.bx.map fun q => q.2.d) ++ [b.d])] = B'.d := by
        simp [B', Brd.d, Brd.sz, Brd.bd, Brd.names]
      rw [e]
      refine lb_bad4 m B' ⟨hB.w1, hB.w2, hB.h1, hB.h2, by simp [B']; omega, ?_, ?_, ?_⟩ ?_
      · simp only [B', Brd.names, List.map_append]
        refine List.nodup_append.mpr ⟨hB.nd, by simp, fun a ha c hc e2 => ?_⟩
        simp at hc
        subst hc e2
        exact hx ha
      · intro z hz
        simp only [B', Brd.names, List.map_append, List.mem_append] at hz
        rcases hz with e | e
        · exact hB.nm z e
        · simp at e; subst e; exact hxn
      · intro r hr
        rcases List.mem_append.mp hr with e | e
        · exact hB.bx r e
        · simp at e
          subst e
          simp [boxOk, Box.d, whole] at h
          simp only [B']
          omega
      · intro hp
        have := (List.pairwise_append.mp hp).2.2 q hq (x, b) (by simp)
        rw [ho] at this
        cases this
  · refine lb_bad2 m B.sz _ _ (sz_tame B) (sz_ok hB.toPre) (by simp [most]; have := hB.len; omega) (fun k hk => ?_) (.inl (by simp; omega))
    obtain ⟨z, hz, rfl⟩ := List.mem_map.mp hk
    have : nameOk (.str z) = true := by
      rcases List.mem_append.mp hz with e | e
      · exact hB.nm z e
      · simp at e; subst e; exact hxn
    obtain ⟨_, e, h⟩ := nameOk_str this
    cases e
    exact h

theorem putK_old {x : Nm} : ∀ {l : List Nm}, x ∈ l → putK (l.map .str) (.str x) = l.map .str
  | [], h => by cases h
  | a :: r, h => by
    by_cases e : a = x
    · subst e
      simp [putK, D.eqk]
    · have : x ∈ r := (List.mem_cons.mp h).resolve_left fun z => e z.symm
      simp [putK, D.eqk, e, putK_old this]
theorem putV_old {x : Nm} {y : D} : ∀ {l : List Nm} {vs : List D}, x ∈ l → l.length = vs.length → look (l.map .str) (putV (l.map .str) vs (.str x) y) (.str x) = some y ∧ (putV (l.map .str) vs (.str x) y).length = vs.length ∧ ∀ v ∈ putV (l.map .str) vs (.str x) y, v = y ∨ v ∈ vs
  | [], _, h, _ => by cases h
  | a :: r, [], _, h => by simp at h
  | a :: r, v :: vs, h, hl => by
    by_cases e : a = x
    · subst e
      simp [putV, D.eqk, look]
      intro b hb
      exact .inr (.inr hb)
    · have : x ∈ r := (List.mem_cons.mp h).resolve_left fun z => e z.symm
      obtain ⟨i1, i2, i3⟩ := putV_old (y := y) (vs := vs) this (by simpa using hl)
      simp [putV, D.eqk, e, look, i1, i2]
      intro b hb
      rcases i3 b hb with z | z
      · exact .inl z
      · exact .inr (.inr z)
/-- a box that becomes what is none -/
theorem bad_old {B : Brd} (hB : B.Ok) {x : Nm} (hx : x ∈ B.names) (y : D) (hy : Tame2 y) (h : boxOk B.w B.h y = false) : BadB wf (.tup [B.sz, .dct (putK (B.names.map .str) (.str x)) (putV (B.names.map .str) (B.bx.map fun q => q.2.d) (.str x) y)]) := fun m => by
  have hlen : B.names.length = B.bx.length := by simp [Brd.names]
  obtain ⟨i1, i2, i3⟩ := putV_old (y := y) (vs := B.bx.map fun q => q.2.d) hx (by simpa using hlen)
  rw [putK_old hx]
  refine lb_bad3 m B.w B.h B.names _ (sz_ok hB.toPre) (by rw [hlen]; exact hB.len) hB.nm (fun v hv => ?_) (by rw [i2]; simp; omega) ?_
  · rcases i3 v hv with e | e
    · subst e; exact hy
    · obtain ⟨q, _, rfl⟩ := List.mem_map.mp e
      exact box_tame q.2
  · rw [List.all_eq_false]
    refine ⟨y, ?_, by simp [h]⟩
    unfold vals
    exact List.mem_map.mpr ⟨.str x, List.mem_map.mpr ⟨x, hx, rfl⟩, by rw [i1]; rfl⟩
theorem off_self {b : Box} {w h : Nat} (hi : InSize w h b) {c : Box} (hc : c = ⟨b.l, b.b, b.l, b.b⟩ ∨ c = ⟨b.r, b.t, b.r, b.t⟩) : b.off c = false ∧ boxOk w h c.d = true := by
  unfold InSize at hi
  rcases hc with rfl | rfl <;> simp [Box.off, boxOk, Box.d, whole] <;> omega
theorem c_law_pick1 (m : Nat) (ns : List Int) (n : Nat) (l : List D) (hn : n < most) (hl : 0 < l.length) : ∃ v ∈ l, run tbl wf (m + 4) i_law_pick [(.fz, .scr ns), (.own, tw n), (.fz, .lst l)] = .ok (.fz, v) [none, some (.own, tw (n + 1)), none] := c_law_pick' m ns n l hn hl
theorem sorted_pos {B : Brd} (hne : B.bx ≠ []) : 0 < (B.sorted.map D.str).length := by
  rw [List.length_map, B.sorted_len]
  exact List.length_pos_iff.mpr hne
theorem c_law_bad_board (m : Nat) (ns : List Int) (n : Nat) (B : Brd) (hB : B.Ok) (hne : B.bx ≠ []) (h6 : ∀ x ∈ B.names, x ∈ ns6) (hn : n + 4 ≤ most) : ∃ bad n', run tbl wf (m + 5) i_law_bad_board [(.fz, .scr ns), (.own, tw n), (.fz, B.d)] = .ok (.fz, bad) [none, some (.own, tw n'), none] ∧ n' ≤ n + 4 ∧ BadB wf bad := by
  have hm : B.bx.length ≤ most := by have := hB.len; simp only [most]; omega
  have e64 : B.bx.length < 64 := by have := hB.len; omega
  have a1 : n < most := by omega
  have a2 : n + 1 < most := by omega
  have a3 : n + 1 + 1 < most := by omega
  have a4 : n + 1 + 1 + 1 < most := by omega
  have q12 := c_law_draw (wf := wf) (m + 1) ns n 12 a1 (by decide)
  rw [show ((12 : Nat) : Int) = 12 from rfl] at q12
  have d12 := drw_lt ns n (show 0 < 12 by decide)
  generalize drw ns n 12 = way at *
  rw [run_at (d := f_law_bad_board) rfl rfl rfl]
  simp only [f_law_bad_board]
  by_cases w4 : way < 4
  · have w4' : (way : Int) < 4 := by omega
    obtain ⟨odd, ho, qo⟩ := c_law_pick1 (wf := wf) m ns (n + 1) [.tup [.int 0, .int 3], .tup [.int 3, .int 13], .tup [.bl true, .int 3], .tup [.int 3], .lst [.int 3, .int 3], .tup [.int 3, .int (-1)], .non] a2 (by simp)
    have hodd : Tame2 odd ∧ sizeOk odd = false := by
      simp only [List.mem_cons, List.not_mem_nil, or_false] at ho
      rcases ho with rfl | rfl | rfl | rfl | rfl | rfl | rfl <;> (refine ⟨⟨trivial, fun l e => ?_⟩, by simp [sizeOk, whole]⟩; cases e) <;> (refine ⟨by simp, fun x hx => ?_⟩; simp at hx; first | (rcases hx with rfl | rfl <;> trivial) | (subst hx; trivial))
    have : way = 0 ∨ way = 1 ∨ way = 2 ∨ way = 3 := by omega
    rcases this with rfl | rfl | rfl | rfl
    · refine ⟨.tup [odd, B.bd], n + 1 + 1, ?_, by omega, bad_size hodd.1 hodd.2⟩
      simp [q12, onceM, qo, hm]
    · refine ⟨.lst [B.sz, B.bd], n + 1 + 1, ?_, by omega, fun m => lb_bad0 m _ trivial fun l e => by cases e⟩
      simp [q12, onceM, qo, hm]
    · refine ⟨.tup [B.sz, .lst (B.names.map .str)], n + 1 + 1, ?_, by omega, fun m => lb_bad1 m _ _ (sz_tame B) (sz_ok hB.toPre) trivial (fun _ _ e => by cases e)⟩
      simp [q12, onceM, qo, hm]
    · refine ⟨.tup [B.sz], n + 1 + 1, ?_, by omega, fun m => lb_bad0 m _ trivial fun l e => by cases e; exact .inl (by simp)⟩
      simp [q12, onceM, qo, hm]
  · have w4' : ¬ (way : Int) < 4 := by omega
    obtain ⟨nm, hnm, qn⟩ := c_law_pick1 (wf := wf) m ns (n + 1) (B.sorted.map .str) a2 (sorted_pos hne)
    obtain ⟨x, hx, rfl⟩ := List.mem_map.mp hnm
    have hx := B.sorted_mem.mp hx
    have hin := hB.bx _ (Brd.box_mem hx)
    simp only at hin
    have hnew : ([110, 101, 119] : Nm) ∉ B.names := fun h => by
      have := h6 _ h
      revert this
      decide
    have hw1 := hB.w1
    have hw2 := hB.w2
    have hfit : fits (B.names.map .str) (.str [110, 101, 119]) = true := fits_str _ _
    have hfit2 : fits (B.names.map .str) (.str x) = true := fits_str _ _
    have hnl : (B.names.map D.str).length < most := by simp [Brd.names, most]; have := hB.len; omega
    have hbt : ∀ a b c d : Int, Tame2 (.tup [.int a, .int b, .int c, .int d]) := fun a b c d => box_tame ⟨a, b, c, d⟩
    by_cases w8 : way < 8
    · have w8' : (way : Int) < 8 := by omega
      have core : ∀ y : D, Tame2 y → (boxOk B.w B.h y = false ∨ ∃ b : Box, y = b.d ∧ boxOk B.w B.h y = true ∧ ∃ q ∈ B.bx, q.2.off b = false) → BadB wf (.tup [B.sz, .dct (putK (B.names.map .str) (.str [110, 101, 119])) (putV (B.names.map .str) (B.bx.map fun q => q.2.d) (.str [110, 101, 119]) y)]) := fun y h1 h2 => by
        rw [put_new hnew]
        exact bad_new hB hnew (by decide) y h1 h2
      have : way = 4 ∨ way = 5 ∨ way = 6 ∨ way = 7 := by omega
      rcases this with rfl | rfl | rfl | rfl
      · refine ⟨_, n + 1 + 1, ?_, by omega, core (.tup [.int (B.box x).l, .int (B.box x).b, .int (B.box x).l, .int (B.box x).b]) (hbt _ _ _ _) ?_⟩
        · simp [q12, onceM, qn, hm, e64, Brd.box_of hx]
          rw [putR_dct (ks := B.names.map .str) (vs := B.bx.map fun q => q.2.d) (by simp [Brd.bd]) hfit hnl]
          simp
        · obtain ⟨o1, o2⟩ := off_self (b := B.box x) (w := B.w) (h := B.h) hin (.inl rfl)
          exact .inr ⟨⟨_, _, _, _⟩, rfl, o2, _, Brd.box_mem hx, o1⟩
      · refine ⟨_, n + 1 + 1, ?_, by omega, core (.tup [.int (B.box x).r, .int (B.box x).t, .int (B.box x).r, .int (B.box x).t]) (hbt _ _ _ _) ?_⟩
        · simp [q12, onceM, qn, hm, e64, Brd.box_of hx]
          rw [putR_dct (ks := B.names.map .str) (vs := B.bx.map fun q => q.2.d) (by simp [Brd.bd]) hfit hnl]
          simp
        · obtain ⟨o1, o2⟩ := off_self (b := B.box x) (w := B.w) (h := B.h) hin (.inr rfl)
          exact .inr ⟨⟨_, _, _, _⟩, rfl, o2, _, Brd.box_mem hx, o1⟩
      · refine ⟨_, n + 1 + 1, ?_, by omega, core (.tup [.int 0, .int 0, .int B.w, .int 0]) (hbt _ _ _ _) (.inl (by simp [boxOk, whole]; intros; omega))⟩
        · simp [q12, onceM, qn, hm, e64, Brd.box_of hx]
          rw [putR_dct (ks := B.names.map .str) (vs := B.bx.map fun q => q.2.d) (by simp [Brd.bd]) hfit hnl]
          simp
      · refine ⟨_, n + 1 + 1, ?_, by omega, core (.tup [.int 0, .int (-1), .int 0, .int 0]) (hbt _ _ _ _) (.inl (by simp [boxOk, whole]))⟩
        · simp [q12, onceM, qn, hm, e64, Brd.box_of hx]
          rw [putR_dct (ks := B.names.map .str) (vs := B.bx.map fun q => q.2.d) (by simp [Brd.bd]) hfit hnl]
          simp
    · have w8' : ¬ (way : Int) < 8 := by omega
      by_cases w11 : way < 11
      · have core : ∀ worse : D, Tame2 worse → boxOk B.w B.h worse = false → ∃ y, run tbl wf (m + 4) i_law_pick [(.fz, .scr ns), (.own, tw (n + 1 + 1)), (.fz, .lst [worse, worse, .tup [.int (B.box x).l, .int (B.box x).b, .bl true, .int (B.box x).t], .non])] = .ok (.fz, y) [none, some (.own, tw (n + 1 + 1 + 1)), none] ∧ BadB wf (.tup [B.sz, .dct (putK (B.names.map .str) (.str x)) (putV (B.names.map .str) (B.bx.map fun q => q.2.d) (.str x) y)]) := fun worse h1 h2 => by
          obtain ⟨y, hy, qy⟩ := c_law_pick1 (wf := wf) m ns (n + 1 + 1) [worse, worse, .tup [.int (B.box x).l, .int (B.box x).b, .bl true, .int (B.box x).t], .non] a3 (by simp)
          refine ⟨y, qy, ?_⟩
          simp only [List.mem_cons, List.not_mem_nil, or_false] at hy
          rcases hy with rfl | rfl | rfl | rfl
          · exact bad_old hB hx _ h1 h2
          · exact bad_old hB hx _ h1 h2
          · refine bad_old hB hx _ ⟨trivial, fun l e => ?_⟩ (by simp [boxOk, whole])
            cases e
            refine ⟨by simp, fun z hz => ?_⟩
            simp at hz
            rcases hz with rfl | rfl | rfl | rfl <;> trivial
          · exact bad_old hB hx _ ⟨trivial, fun l e => by cases e⟩ (by simp [boxOk])
        have : way = 8 ∨ way = 9 ∨ way = 10 := by omega
        rcases this with rfl | rfl | rfl
        · obtain ⟨y, qy, hy⟩ := core (.tup [.int ((B.box x).r + 1), .int (B.box x).b, .int (B.box x).r, .int (B.box x).t]) (hbt _ _ _ _) (by
            simp [boxOk]
            intros
            omega)
          refine ⟨_, n + 1 + 1 + 1, ?_, by omega, hy⟩
          simp [q12, onceM, qn, hm, e64, Brd.box_of hx, qy]
          rw [putR_dct (ks := B.names.map .str) (vs := B.bx.map fun q => q.2.d) (by simp [Brd.bd]) hfit2 hnl]
          simp
        · obtain ⟨y, qy, hy⟩ := core (.tup [.int (B.box x).l, .int (B.box x).b, .int (B.box x).r]) ⟨trivial, fun l e => by
            cases e
            refine ⟨by simp, fun z hz => ?_⟩
            simp at hz
            rcases hz with rfl | rfl | rfl <;> trivial⟩ (by simp [boxOk])
          refine ⟨_, n + 1 + 1 + 1, ?_, by omega, hy⟩
          simp [q12, onceM, qn, hm, e64, Brd.box_of hx, qy]
          rw [putR_dct (ks := B.names.map .str) (vs := B.bx.map fun q => q.2.d) (by simp [Brd.bd]) hfit2 hnl]
          simp
        · obtain ⟨y, qy, hy⟩ := core (.lst [.int (B.box x).l, .int (B.box x).b, .int (B.box x).r, .int (B.box x).t]) ⟨trivial, fun l e => by cases e⟩ (by simp [boxOk])
          refine ⟨_, n + 1 + 1 + 1, ?_, by omega, hy⟩
          simp [q12, onceM, qn, hm, e64, Brd.box_of hx, qy]
          rw [putR_dct (ks := B.names.map .str) (vs := B.bx.map fun q => q.2.d) (by simp [Brd.bd]) hfit2 hnl]
          simp
      · have : way = 11 := by omega
        subst this
        let K7 : List D := (List.range 7).map fun (k : Nat) => .str [97 + k]
        let V7 : List D := (List.range 7).map fun (k : Nat) => .tup [.int k, .int 0, .int k, .int 0]
        have hs7 : prim .dictP [.lst ((List.range 7).map fun (k : Nat) => .tup [.str [97 + k], .tup [.int k, .int 0, .int k, .int 0]])] = some (.own, .dct K7 V7) := rfl
        obtain ⟨key, hk, qk⟩ := c_law_pick1 (wf := wf) m ns (n + 1 + 1) [.str [], .str [65], .str [97, 98, 99, 100, 101, 102, 103, 104, 105], .int 1] a3 (by simp)
        have hkey : nameOk key = false ∧ Tame key ∧ key.leaf = true := by
          simp only [List.mem_cons, List.not_mem_nil, or_false] at hk
          rcases hk with rfl | rfl | rfl | rfl
          · exact ⟨by decide, by simp [Tame], rfl⟩
          · exact ⟨by decide, by simp [Tame], rfl⟩
          · exact ⟨by decide, by simp [Tame], rfl⟩
          · exact ⟨rfl, trivial, rfl⟩
        have hodd : prim .dictP [.lst [.tup [key, .tup [.int 0, .int 0, .int 0, .int 0]]]] = some (.own, .dct [key] [.tup [.int 0, .int 0, .int 0, .int 0]]) := by
          simp [prim, pairsOf, putP, fits, hkey.2.2, putK, putV]
        obtain ⟨bad, hb, qb⟩ := c_law_pick1 (wf := wf) m ns (n + 1 + 1 + 1) [.tup [.tup [.int 12, .int 12], .dct K7 V7], .tup [.tup [.int 12, .int 12], .dct [key] [.tup [.int 0, .int 0, .int 0, .int 0]]]] a4 (by simp)
        refine ⟨bad, n + 1 + 1 + 1 + 1, ?_, by omega, ?_⟩
        · simp [q12, onceM, qn, hm, e64, Brd.box_of hx]
          rw [comp1y [some (.fz, .scr ns), some (.own, tw (n + 1 + 1)), some (.fz, B.d), some (.fz, .int 11), some (.fz, B.sz), some (.fz, B.bd), none, some (.own, B.bd), some (.fz, .str x), some (.fz, .int (B.box x).l), some (.fz, .int (B.box x).b), some (.fz, .int (B.box x).r), some (.fz, .int (B.box x).t), none, some (.fz, .tup [.int 12, .int 12]), none, none] (List.range 7) (fun (k : Nat) => .int (k : Int)) (fun k => .tup [.str [97 + k], .tup [.int k, .int 0, .int k, .int 0]]) (by simp) (by simp) (by simp) (fun k hk => ⟨.fz, by
            have hk : k < 7 := by simpa using hk
            have e : prim .idx [.str [97, 98, 99, 100, 101, 102, 103], .int (k : Int)] = some (.fz, .str [97 + k]) := by
              have : k = 0 ∨ k = 1 ∨ k = 2 ∨ k = 3 ∨ k = 4 ∨ k = 5 ∨ k = 6 := by omega
              rcases this with rfl | rfl | rfl | rfl | rfl | rfl | rfl <;> rfl
            simp [e]⟩)]
          simp [hs7, qk, onceM, hodd, qb]
        · have fs : Tame2 (.tup [.int 12, .int 12]) := sizeD_tame 12 12
          simp only [List.mem_cons, List.not_mem_nil, or_false] at hb
          rcases hb with rfl | rfl
          · refine fun m => lb_bad2 m _ _ _ fs (by simp [sizeOk, whole]) (by simp [K7]) (fun k hk => ?_) (.inl (by simp [K7]))
            obtain ⟨z, _, rfl⟩ := List.mem_map.mp hk
            show 1 ≤ most
            simp
          · refine fun m => lb_bad2 m _ _ _ fs (by simp [sizeOk, whole]) (by simp) (fun k hk => ?_) (.inr (by simp [hkey.1]))
            simp at hk
            subst hk
            exact hkey.2.1
end Rl.Pl
set_option autoImplicit false
set_option linter.all false
set_option maxRecDepth 10000
/-! Roundlines, plain 13: ports that are none, ends; the law. -/
namespace Rl.Pl
variable {wf : Nat}
theorem ns6_small : ∀ x ∈ ns6, ∀ c ∈ x, c < 1114112 := by decide
theorem c_law_bad_port (m : Nat) (ns : List Int) (n : Nat) (B : Brd) (hB : B.Ok) (h6 : ∀ x ∈ B.names, x ∈ ns6) (x : Nm) (hx : x ∈ B.names) (hn : n + 1 ≤ most) : ∃ bad, run tbl wf (m + 5) i_law_bad_port [(.fz, .scr ns), (.own, tw n), (.fz, B.d), (.fz, .str x)] = .ok (.fz, bad) [none, some (.own, tw (n + 1)), none, none] ∧ portOk B bad = false ∧ Tame3 bad ∧ pln bad = true := by
  have a1 : n < most := by omega
  have hxn := hB.nm x hx
  obtain ⟨_, e, hxl⟩ := nameOk_str hxn
  cases e
  obtain ⟨bad, hb, qb⟩ := c_law_pick1 (wf := wf) m ns n [.tup [.str x, .str [110], .int ((B.box x).r - (B.box x).l + 1)], .tup [.str x, .str [101], .int ((B.box x).t - (B.box x).b + 1)], .tup [.str x, .str [115], .int (-1)], .tup [.str x, .str [117, 112], .int 0],
    .tup [.str [110, 111, 110, 101], .str [110], .int 0], .tup [.str x, .str [110], .bl true], .tup [.str x, .str [110]], .lst [.str x, .str [110], .int 0], .non, .tup [.str [], .str [110], .int 0], .tup [.str x, .str [], .int 0]] a1 (by simp)
  refine ⟨bad, ?_, ?_⟩
  · rw [run_at (d := f_law_bad_port) rfl rfl rfl]
    simp [f_law_bad_port, Brd.box_of hx, small, qb, onceM]
  · have hnone : ([110, 111, 110, 101] : Nm) ∉ B.names := fun h => by
      have := h6 _ h
      revert this
      decide
    have t3 : ∀ a b c : D, Tame a → Tame b → Tame c → Tame3 (.tup [a, b, c]) := fun a b c ha hb hc => ⟨trivial, fun l e => by
      cases e
      intro y hy
      simp at hy
      rcases hy with rfl | rfl | rfl <;> assumption⟩
    have tx : Tame (.str x) := hxl
    have ts : ∀ y : List Nat, y.length ≤ 20 → Tame (.str y) := fun y hy => by
      show y.length ≤ most
      simp only [most]
      omega
    have px : ∀ c ∈ x, c < 1114112 := ns6_small x (h6 x hx)
    have al : ∀ (s : Hd) (k : Int), (0 ≤ k → along (B.box x) s < k) → portOk B (portD x s k) = false := fun s k h => by
      rw [portOk_of hx hxn]
      simp
      exact h
    simp only [List.mem_cons, List.not_mem_nil, or_false] at hb
    rcases hb with rfl | rfl | rfl | rfl | rfl | rfl | rfl | rfl | rfl | rfl | rfl
    · exact ⟨al .n _ (by simp only [along]; omega), t3 _ _ _ tx (ts _ (by simp)) trivial, by simp [pln, D.plain]; exact px⟩
    · exact ⟨al .e _ (by simp only [along]; omega), t3 _ _ _ tx (ts _ (by simp)) trivial, by simp [pln, D.plain]; exact px⟩
    · exact ⟨al .s _ (by omega), t3 _ _ _ tx (ts _ (by simp)) trivial, by simp [pln, D.plain]; exact px⟩
    · exact ⟨by simp [portOk, hdOf], t3 _ _ _ tx (ts _ (by simp)) trivial, by simp [pln, D.plain]; exact px⟩
    · exact ⟨by simp [portOk, hnone], t3 _ _ _ (ts _ (by simp)) (ts _ (by simp)) trivial, by simp [pln, D.plain]⟩
    · exact ⟨by simp [portOk, hdOf, whole], t3 _ _ _ tx (ts _ (by simp)) trivial, by simp [pln, D.plain]; exact px⟩
    · refine ⟨by simp [portOk], ⟨trivial, fun l e => ?_⟩, by simp [pln, D.plain]; exact px⟩
      cases e
      intro y hy
      simp at hy
      rcases hy with rfl | rfl
      · exact tx
      · exact ts _ (by simp)
    · exact ⟨by simp [portOk], ⟨trivial, fun l e => by cases e⟩, by simp [pln, D.plain]; exact px⟩
    · exact ⟨by simp [portOk], ⟨trivial, fun l e => by cases e⟩, by simp [pln, D.plain]⟩
    · exact ⟨by simp [portOk, nameOk], t3 _ _ _ (ts _ (by simp)) (ts _ (by simp)) trivial, by simp [pln, D.plain]⟩
    · exact ⟨by simp [portOk, hdOf], t3 _ _ _ tx (ts _ (by simp)) trivial, by simp [pln, D.plain]; exact px⟩
/-- two ports of which one is refused -/
theorem pair_ref {B : Brd} (hB : B.Ok) {one other : D} {k : String} (t1 : Tame3 one) (t2 : Tame3 other) (h : footErr B one = some k ∨ (footErr B one = none ∧ footErr B other = some k)) : Ref wf B.d one other k := by
  have lp : ∀ m, run tbl wf (m + 5) i_look_pair [(.fz, B.d), (.fz, one), (.fz, other)] = .ex k [none, none, none] := fun m => by
    rw [run_at (d := f_look_pair) rfl rfl rfl]
    rcases h with h | ⟨h1, h2⟩
    · simp [f_look_pair, c_look_foot, hB.len, t1, h, errR]
    · simp [f_look_pair, c_look_foot, hB.len, t1, t2, h1, h2, errR]
  refine ⟨fun m => ?_, fun m => ?_⟩
  · rw [run_at (d := f_look_ends) rfl rfl rfl]
    simp [f_look_ends, c_look_board, hB, lp]
  · rw [run_at (d := f_look_wires) rfl rfl rfl]
    simp [f_look_wires, c_look_board, hB, p_isi, isA, loopF, lp]

@[simp] theorem rng2R_1_10 (Γ : Env) : rng2R (.int 1) (.int 10) Γ = .ok ((List.range 9).map fun (k : Nat) => .int ((k + 1 : Nat) : Int)) Γ := by
  rw [rng2R_int]
  have : rngOk 1 = true := by decide
  have h2 : rngOk 10 = true := by decide
  rw [this, h2]
  rfl
structure Row (wf : Nat) (B : Brd) (r : D × D × String) : Prop where
  ref : Ref wf B.d r.1 r.2.1 r.2.2
  err : r.2.2 ∈ errs
def rowD (r : D × D × String) : D := .tup [r.1, r.2.1, .str (wordOf r.2.2)]
theorem pln_refused (k : String) (hk : k ∈ errs) (n : Nat) : D.plain (n + 1) (refusedD k) = true := by
  simp only [errs, List.mem_cons, List.not_mem_nil, or_false] at hk
  rcases hk with rfl | rfl | rfl | rfl | rfl | rfl | rfl | rfl <;> simp [refusedD, D.plain, wordOf]
theorem pln_rep {d : D} (h : ∀ n, D.plain (n + 1) d = true) (k : Nat) : pln (.lst (List.replicate k d)) = true := by
  simp only [pln, D.plain, List.all_eq_true]
  intro x hx
  rw [List.eq_of_mem_replicate hx]
  exact h _
theorem flat_rep {d : D} : ∀ k : Nat, (List.replicate k [d]).flatten = List.replicate k d
  | 0 => rfl
  | k + 1 => by rw [List.replicate_succ, List.flatten_cons, flat_rep k, List.replicate_succ]; rfl
theorem map_const {α : Type} {d : D} : ∀ l : List α, l.map (fun _ => d) = List.replicate l.length d
  | [] => rfl
  | a :: r => by rw [List.map_cons, map_const r, List.length_cons, List.replicate_succ]
theorem ends_loop (m : Nat) (ns : List Int) (n : Nat) (B : Brd) (rows : List (D × D × String)) (hr : ∀ r ∈ rows, Row wf B r) (a b c d e : Option SD) :
    ∃ x y z, loopF (bindT (.many [8, 9, 10])) (exs (run tbl wf (m + 9)) wf (bodyS (nthS 8 f_law_ends.body))) (rows.map rowD) [some (.fz, .scr ns), some (.own, tw n), some (.fz, B.d), a, b, c, d, e, none, none, none, none, none] = .nx [some (.fz, .scr ns), some (.own, tw n), some (.fz, B.d), a, b, c, d, e, x, y, z, none, none] := by
  generalize hL : loopF _ _ _ _ = L
  obtain ⟨G, rfl, x, y, z, rfl⟩ := for_pre_of hL rowD rows rfl (fun _ Γ => ∃ x y z, Γ = [some (.fz, .scr ns), some (.own, tw n), some (.fz, B.d), a, b, c, d, e, x, y, z, none, none]) ⟨_, _, _, rfl⟩ (by
    rintro pre r suf Γ hy ⟨x, y, z, rfl⟩
    have hrow := hr r (by rw [hy]; simp)
    obtain ⟨one, other, k⟩ := r
    refine ⟨[some (.fz, .scr ns), some (.own, tw n), some (.fz, B.d), a, b, c, d, e, some (.fz, one), some (.fz, other), some (.fz, .str (wordOf k)), none, none], by simp [rowD], ?_⟩
    have told : ∀ j : Nat, j < 9 → run tbl wf (m + 9) i_law_told [(.fz, .int ((j + 1 : Nat) : Int)), (.fz, .lst [B.d, one, other, .int 0])] = .ok (.fz, refusedD k) [none, none] := fun j hj => told_ex _ _ _ k hrow.err (one_ref m hrow.ref (j + 1) (by omega) (by omega))
    have told' : ∀ j : Nat, j < 9 → run tbl wf (m + 9) i_law_told [(.fz, .int ((j : Int) + 1)), (.fz, .lst [B.d, one, other, .int 0])] = .ok (.fz, refusedD k) [none, none] := fun j hj => told j hj
    simp only [f_law_ends, nthS, bodyS]
    simp
    rw [comp1y [some (.fz, .scr ns), some (.own, tw n), some (.fz, B.d), a, b, c, d, e, some (.fz, one), some (.fz, other), some (.fz, .str (wordOf k)), none, none] (List.range 9) (fun (k : Nat) => .int ((k + 1 : Nat) : Int)) (fun _ => refusedD k) (by simp) (by simp) (by simp) (fun j hj => ⟨.fz, by simp [told' j (by simpa using hj)]⟩)]
    have e1 : D.tup [.str [114, 101, 102, 117, 115, 101, 100], .str (wordOf k)] = refusedD k := rfl
    have e2 : prim .mul [.lst [refusedD k], .int 9] = some (.own, .lst (List.replicate 9 (refusedD k))) := by
      rw [p_mulL, if_pos ⟨by decide, by decide, by simp⟩, ← flat_rep]
      rfl
    have hp := p_ne_self (pln_rep (pln_refused k hrow.err) 9)
    simp only [List.replicate] at hp e2
    rw [map_const]
    simp [e1, e2, hp])
  exact ⟨x, y, z, rfl⟩
end Rl.Pl
set_option autoImplicit false
set_option linter.all false
set_option maxRecDepth 10000
/-! Roundlines, plain 14: the ends. -/
namespace Rl.Pl
variable {wf : Nat}
abbrev PT := Nm × Hd × Nat
def ptT (t : PT) : D := portD t.1 t.2.1 t.2.2
def Brd.sidesT (B : Brd) : List PT := B.sorted.flatMap fun x => hds.flatMap fun s => (List.range (B.alongN x s + 1)).map fun k => (x, s, k)
theorem sides_eq (B : Brd) : B.sides = B.sidesT.map ptT := by
  unfold Brd.sides Brd.sidesT Brd.sidesOf
  simp [List.map_flatMap, ptT, Function.comp_def]
theorem sidesT_mem {B : Brd} (hB : B.Pre) {t : PT} (h : t ∈ B.sidesT) : t.1 ∈ B.names ∧ (t.2.2 : Int) ≤ along (B.box t.1) t.2.1 := by
  unfold Brd.sidesT at h
  simp only [List.mem_flatMap, List.mem_map, List.mem_range] at h
  obtain ⟨x, hx, s, _, k, hk, rfl⟩ := h
  have hx := B.sorted_mem.mp hx
  refine ⟨hx, ?_⟩
  obtain ⟨k0, k1, k2⟩ := along_nat hB hx s
  unfold Brd.alongN at hk
  rw [k1] at hk
  simp only [Int.toNat_natCast] at hk
  simp only [k1]
  omega
def Brd.footT (B : Brd) (t : PT) : Int × Int := footAt (B.box t.1) t.2.1 t.2.2
/-- a true port of the board -/
def IsPort (B : Brd) (v : D) : Prop := ∃ t : PT, v = ptT t ∧ t.1 ∈ B.names ∧ (t.2.2 : Int) ≤ along (B.box t.1) t.2.1
theorem footErr_t {B : Brd} (hB : B.Pre) {t : PT} (h1 : t.1 ∈ B.names) (h2 : (t.2.2 : Int) ≤ along (B.box t.1) t.2.1) : footErr B (ptT t) = if B.free (B.footT t) then none else some "NoFoot" := by
  unfold ptT Brd.footT
  rw [footErr_port]
  rw [portOk_of h1 (hB.nm _ h1)]
  simp [h2]
theorem port_tame' {B : Brd} (hB : B.Pre) {t : PT} (h1 : t.1 ∈ B.names) : Tame3 (ptT t) := by
  obtain ⟨_, e, h⟩ := nameOk_str (hB.nm _ h1)
  cases e
  exact port_tame _ _ _ h
theorem plain_port {B : Brd} (h6 : ∀ x ∈ B.names, x ∈ ns6) {t : PT} (h1 : t.1 ∈ B.names) (n : Nat) : D.plain (n + 1) (ptT t) = true := by
  have := ns6_small t.1 (h6 _ h1)
  simp [D.plain, ptT, portD, Hd.d]
  refine ⟨this, ?_⟩
  cases t.2.1 <;> simp [Hd.t]
theorem pln_list {l : List D} (h : ∀ v ∈ l, ∀ n, D.plain (n + 1) v = true) : pln (.lst l) = true := by
  simp only [pln, D.plain, List.all_eq_true]
  intro v hv
  exact h v hv _
theorem p_neNil (l : List D) (h : pln (.lst l) = true) : prim .ne [.lst l, .lst []] = some (.fz, .bl (!l.isEmpty)) := by
  rw [p_ne, h, pln_lst_nil]
  cases l <;> rfl
theorem mem_allPorts {B : Brd} (hB : B.Pre) {v : D} (h : v ∈ B.allPorts) : ∃ t : PT, v = ptT t ∧ t.1 ∈ B.names ∧ (t.2.2 : Int) ≤ along (B.box t.1) t.2.1 ∧ B.free (B.footT t) = true := by
  unfold Brd.allPorts Brd.portsOf Brd.portsOn at h
  simp only [List.mem_flatMap, List.mem_map, List.mem_filter, Bool.and_eq_true, decide_eq_true_eq] at h
  obtain ⟨x, hx, s, _, k, ⟨_, h1, h2⟩, rfl⟩ := h
  exact ⟨(x, s, k), rfl, B.sorted_mem.mp hx, h1, h2⟩
theorem sides_len {B : Brd} (hB : B.Pre) : B.sidesT.length ≤ 48 * 6 := by
  have hal : ∀ x ∈ B.names, ∀ s, (B.alongN x s + 1) ≤ 12 := fun x hx s => by
    obtain ⟨k, k1, k2⟩ := along_nat hB hx s
    unfold Brd.alongN
    rw [k1]
    simp
    omega
  have key : ∀ l : List Nm, (∀ x ∈ l, x ∈ B.names) → (l.flatMap fun x => hds.flatMap fun s => (List.range (B.alongN x s + 1)).map fun k => (x, s, k)).length ≤ 48 * l.length := by
    intro l
    induction l with
    | nil => simp
    | cons a r ih =>
      intro h
      have h1 := ih fun b hb => h b (by simp [hb])
      have h2 := flat_len (fun s => (List.range (B.alongN a s + 1)).map fun k => (a, s, k)) 12 (fun s => by simpa using hal a (h a (by simp)) s) hds
      simp only [hds, List.length_cons, List.length_nil] at h2
      simp only [List.flatMap_cons, List.length_append, List.length_cons]
      simp only [hds] at h1 ⊢
      omega
  have := key B.sorted fun x hx => B.sorted_mem.mp hx
  rw [B.sorted_len] at this
  have h6 := hB.len
  unfold Brd.sidesT
  omega
theorem told_foot (m : Nat) {B : Brd} (hB : B.Ok) {d : D} {k : String} (hd : Tame3 d) (hk : k ∈ errs) (h : footErr B d = some k) (x y : D) : run tbl wf (m + 9) i_law_told [(.fz, .int 0), (.fz, .lst [B.d, d, x, y])] = .ok (.fz, refusedD k) [none, none] := by
  refine told_ex _ _ _ k hk ?_
  have q := c_foot (wf := wf) (m + 2) B hB d hd
  rw [h] at q
  rw [run_at (d := f_law_one) rfl rfl rfl]
  simp [f_law_one, q]
theorem c_law_ends (m : Nat) (ns : List Int) (n : Nat) (B : Brd) (hB : B.Ok) (hne : B.bx ≠ []) (h6 : ∀ x ∈ B.names, x ∈ ns6) (hn : n + 10 ≤ most) : ∃ n', run tbl wf (m + 10) i_law_ends [(.fz, .scr ns), (.own, tw n), (.fz, B.d)] = .ok (.fz, .bl true) [none, some (.own, tw n'), none] := by
  have e64 : B.bx.length < 64 := by have := hB.len; omega
  have a1 : n < most := by omega
  have a2 : n + 1 + 1 ≤ most := by omega
  have a3 : n + 1 + 1 < most := by omega
  have a4 : n + 1 + 1 + 1 < most := by omega
  have a5 : n + 1 + 1 + 1 + 1 < most := by omega
  have a6 : n + 1 + 1 + 1 + 1 + 1 < most := by omega
  obtain ⟨nm, hnm, qn⟩ := c_law_pick1 (wf := wf) (m + 5) ns n (B.sorted.map .str) a1 (sorted_pos hne)
  obtain ⟨x, hx, rfl⟩ := List.mem_map.mp hnm
  have hx := B.sorted_mem.mp hx
  obtain ⟨wrong, qw, w1, w2, w3⟩ := c_law_bad_port (wf := wf) (m + 4) ns (n + 1) B hB h6 x hx a2
  have we := footErr_bad w1
  obtain ⟨shutT, hsT⟩ : ∃ l : List PT, l = B.sidesT.filter fun t => !B.free (B.footT t) := ⟨_, rfl⟩
  have eP : "BadPort" ∈ errs := by decide
  have eF : "NoFoot" ∈ errs := by decide
  have hshut : ∀ t ∈ shutT, t.1 ∈ B.names ∧ footErr B (ptT t) = some "NoFoot" := fun t ht => by
    rw [hsT] at ht
    obtain ⟨h1, h2⟩ := List.mem_filter.mp ht
    obtain ⟨h3, h4⟩ := sidesT_mem hB.toPre h1
    refine ⟨h3, ?_⟩
    rw [footErr_t hB.toPre h3 h4]
    simp at h2
    simp [h2]
  have hgood : ∀ v ∈ B.allPorts, ∃ t : PT, v = ptT t ∧ t.1 ∈ B.names ∧ footErr B v = none := fun v hv => by
    obtain ⟨t, rfl, h1, h2, h3⟩ := mem_allPorts hB.toPre hv
    refine ⟨t, rfl, h1, ?_⟩
    rw [footErr_t hB.toPre h1 h2, h3]
    rfl
  have plS : pln (.lst (shutT.map ptT)) = true := pln_list fun v hv k => by
    obtain ⟨t, ht, rfl⟩ := List.mem_map.mp hv
    exact plain_port h6 (hshut t ht).1 k
  have plG : pln (.lst B.allPorts) = true := pln_list fun v hv k => by
    obtain ⟨t, rfl, ht, _⟩ := hgood v hv
    exact plain_port h6 ht k
  have sl := sides_len hB.toPre
  rw [run_at (d := f_law_ends) rfl rfl rfl]
  have hbody := fun rows hr a b c d e n => ends_loop (wf := wf) m ns n B rows hr a b c d e
  have tz : Tame3 (.int 0) := ⟨trivial, fun l e => by cases e⟩
  have r1 : Row wf B (wrong, .int 0, "BadPort") := ⟨pair_ref hB w2 tz (.inl we), eP⟩
  have r2 : ∀ t ∈ shutT, Row wf B (ptT t, wrong, "NoFoot") := fun t ht => ⟨pair_ref hB (port_tame' hB.toPre (hshut t ht).1) w2 (.inl (hshut t ht).2), eF⟩
  have r3 : ∀ v ∈ B.allPorts, Row wf B (v, wrong, "BadPort") := fun v hv => by
    obtain ⟨t, rfl, h1, h2⟩ := hgood v hv
    exact ⟨pair_ref hB (port_tame' hB.toPre h1) w2 (.inr ⟨h2, we⟩), eP⟩
  have r4 : ∀ v ∈ B.allPorts, ∀ t ∈ shutT, Row wf B (v, ptT t, "NoFoot") := fun v hv t ht => by
    obtain ⟨t', rfl, h1, h2⟩ := hgood v hv
    exact ⟨pair_ref hB (port_tame' hB.toPre h1) (port_tame' hB.toPre (hshut t ht).1) (.inr ⟨h2, (hshut t ht).2⟩), eF⟩
  have fin := told_foot (wf := wf) m hB w2 (by decide) we (.int 0) (.int 0)
  have fe : prim .eq [refusedD "BadPort", .tup [.str [114, 101, 102, 117, 115, 101, 100], .str [112, 111, 114, 116]]] = some (.fz, .bl true) := p_eq_self (pln_refused "BadPort" (by decide) 29)
  simp only [f_law_ends]
  simp [e64, qn, onceM, qw]
  rw [comp1 [some (.fz, .scr ns), some (.own, tw (n + 1 + 1)), some (.fz, B.d), some (.fz, .str x), some (.fz, wrong), none, none, none, none, none, none, none, none] B.sidesT ptT ptT (fun t => !B.free (B.footT t)) (by simp [c_law_sides, hB.toPre, sides_eq]) (by simp) (by simp only [most]; omega) (fun t ht => ⟨by
    obtain ⟨h1, h2⟩ := sidesT_mem hB.toPre ht
    have := c_law_foot (wf := wf) (m + 8) B t.1 h1 t.2.1 t.2.2
    simp [ptT, this, c_law_is_free, hB.len, Brd.footT], fun _ => ⟨.fz, by simp⟩⟩)]
  rw [← hsT]
  have wP : ∀ a b : D, D.tup [a, b, .str [112, 111, 114, 116]] = rowD (a, b, "BadPort") := fun _ _ => rfl
  have wF : ∀ a b : D, D.tup [a, b, .str [102, 111, 111, 116]] = rowD (a, b, "NoFoot") := fun _ _ => rfl
  have ap : ∀ (Γ : Env) (l : List D) (v : D), slot Γ 7 = some (.own, .lst l) → l.length ≤ 10 → appR 7 v Γ = .nx (Γ.set 7 (some (.own, .lst (l ++ [v])))) := fun Γ l v h1 h2 => appR_ok h1 (by simp only [most]; omega)
  have last : ∀ (rows : List (D × D × String)) (a c d e : Option SD) (n' : Nat), (∀ r ∈ rows, Row wf B r) → ∀ L, loopF (bindT (.many [8, 9, 10])) (exs (run tbl wf (m + 9)) wf (bodyS (nthS 8 f_law_ends.body))) (rows.map rowD) [some (.fz, .scr ns), some (.own, tw n'), some (.fz, B.d), a, some (.fz, wrong), c, d, e, none, none, none, none, none] = L →
      ∃ n'', retR [(.fz, .scr ns), (.own, tw n), (.fz, B.d)] (L.then_ (exs (run tbl wf (m + 9)) wf (.cons (nthS 9 f_law_ends.body) .nil))) = .ok (.fz, .bl true) [none, some (.own, tw n''), none] := fun rows a c d e n' hr L hL => by
    obtain ⟨x, y, z, q⟩ := hbody rows hr a (some (.fz, wrong)) c d e n'
    rw [q] at hL
    subst hL
    refine ⟨n', ?_⟩
    simp only [f_law_ends, nthS]
    simp [fin, fe]
  by_cases hs : shutT = []
  · subst hs
    by_cases hg : B.allPorts = []
    · simp [c_law_ports, hB.toPre, hg, p_neNil [] rfl, wP]
      generalize hL : loopF _ _ _ _ = L
      exact last [_] _ _ _ _ _ (by simp; exact r1) L hL
    · obtain ⟨g1, hg1, qg1⟩ := c_law_pick1 (wf := wf) (m + 5) ns (n + 1 + 1) B.allPorts a3 (List.length_pos_iff.mpr hg)
      simp [c_law_ports, hB.toPre, hg, p_neNil [] rfl, p_neNil _ plG, wP, qg1, onceM]
      rw [ap _ [rowD (wrong, .int 0, "BadPort")] _ (by simp) (by simp)]
      simp [p_neNil [] rfl, p_neNil _ plG, hg]
      generalize hL : loopF _ _ _ _ = L
      exact last [_, _] _ _ _ _ _ (by simp; exact ⟨r1, r3 _ hg1⟩) L hL
  · obtain ⟨s1, hs1, qs1⟩ := c_law_pick1 (wf := wf) (m + 5) ns (n + 1 + 1) (shutT.map ptT) a3 (by rw [List.length_map]; exact List.length_pos_iff.mpr hs)
    obtain ⟨t1, ht1, rfl⟩ := List.mem_map.mp hs1
    have hse : (shutT.map ptT).isEmpty = false := by
      cases h : shutT with
      | nil => exact absurd h hs
      | cons a r => rfl
    have neS : prim .ne [.lst (shutT.map ptT), .lst []] = some (.fz, .bl true) := by rw [p_neNil _ plS, hse]; rfl
    by_cases hg : B.allPorts = []
    · simp [c_law_ports, hB.toPre, hg, p_neNil [] rfl, neS, wP, wF, qs1, onceM]
      rw [ap _ [rowD (wrong, .int 0, "BadPort")] _ (by simp) (by simp)]
      simp [p_neNil [] rfl]
      generalize hL : loopF _ _ _ _ = L
      exact last [_, _] _ _ _ _ _ (by simp; exact ⟨r1, r2 _ ht1⟩) L hL
    · obtain ⟨g1, hg1, qg1⟩ := c_law_pick1 (wf := wf) (m + 5) ns (n + 1 + 1 + 1) B.allPorts a4 (List.length_pos_iff.mpr hg)
      obtain ⟨g2, hg2, qg2⟩ := c_law_pick1 (wf := wf) (m + 5) ns (n + 1 + 1 + 1 + 1) B.allPorts a5 (List.length_pos_iff.mpr hg)
      obtain ⟨s2, hs2, qs2⟩ := c_law_pick1 (wf := wf) (m + 5) ns (n + 1 + 1 + 1 + 1 + 1) (shutT.map ptT) a6 (by rw [List.length_map]; exact List.length_pos_iff.mpr hs)
      obtain ⟨t2, ht2, rfl⟩ := List.mem_map.mp hs2
      have neG : prim .ne [.lst B.allPorts, .lst []] = some (.fz, .bl true) := by
        rw [p_neNil _ plG]
        cases h : B.allPorts with
        | nil => exact absurd h hg
        | cons a r => rfl
      simp [c_law_ports, hB.toPre, neS, neG, wP, wF, qs1, onceM]
      rw [ap _ [rowD (wrong, .int 0, "BadPort")] _ (by simp) (by simp)]
      simp [neG, qg1, onceM, wP]
      rw [ap _ [rowD (wrong, .int 0, "BadPort"), rowD (ptT t1, wrong, "NoFoot")] _ (by simp) (by simp)]
      simp [neG, neS, qg2, qs2, onceM, wF]
      rw [ap _ [rowD (wrong, .int 0, "BadPort"), rowD (ptT t1, wrong, "NoFoot"), rowD (g1, wrong, "BadPort")] _ (by simp) (by simp)]
      simp
      generalize hL : loopF _ _ _ _ = L
      exact last [_, _, _, _] _ _ _ _ _ (by simp; exact ⟨r1, r2 _ ht1, r3 _ hg1, r4 _ hg2 _ ht2⟩) L hL
end Rl.Pl
set_option autoImplicit false
set_option linter.all false
set_option maxRecDepth 10000
/-! Roundlines, plain 15: the law of boards. -/
namespace Rl.Pl
variable {wf : Nat}
theorem plain_pt (p : Int × Int) (n : Nat) : D.plain (n + 1) (ptD p) = true := by simp [D.plain, ptD]
theorem pln_pts (l : List (Int × Int)) : pln (.lst (l.map ptD)) = true := pln_list fun v hv n => by
  obtain ⟨p, _, rfl⟩ := List.mem_map.mp hv
  exact plain_pt p n
theorem c_ports_bad (m : Nat) (B : Brd) (hB : B.Ok) (d : D) (hd : Tame d) (h : nameOk d = false ∨ ∃ x, d = .str x ∧ x ∉ B.names) : run tbl wf (m + 4) i_ports [(.fz, B.d), (.fz, d)] = .ex "BadPort" [none, none] := by
  rw [run_at (d := f_ports) rfl rfl rfl]
  cases hn : nameOk d with
  | false => simp [f_ports, c_look_board, hB, c_is_name _ d hd, hn]
  | true =>
    rcases h with h | ⟨x, rfl, h⟩
    · rw [h] at hn; cases hn
    · simp [f_ports, c_look_board, hB, c_is_name _ _ hd, hn, h]
/-- one box that can't be, on a small board -/
theorem bad_one (w h : Nat) (a b c d : Int) (ho : sizeOk (sizeD w h) = true) (hb : boxOk w h (.tup [.int a, .int b, .int c, .int d]) = false) : BadB wf (.tup [sizeD w h, .dct [.str [97]] [.tup [.int a, .int b, .int c, .int d]]]) := fun m => by
  have := lb_bad3 (wf := wf) m w h [[97]] [.tup [.int a, .int b, .int c, .int d]] ho (by simp) (by decide) (fun v hv => by simp at hv; subst hv; exact box_tame ⟨a, b, c, d⟩) rfl (by
    rw [show vals ([[97]].map D.str) [.tup [.int a, .int b, .int c, .int d]] = [.tup [.int a, .int b, .int c, .int d]] from rfl]
    simp [hb])
  exact this
theorem law_places (m : Nat) (B : Brd) (hB : B.Pre) (ns : List Int) (n : Nat) (a b c d e f g h : Option SD) : ∃ y, loopF (bindT (.one 5)) (exs (run tbl wf (m + 1)) wf (bodyS (nthS 4 f_law.body))) ((List.range B.h).map fun (k : Nat) => .int (k : Int)) [some (.fz, .scr ns), some (.own, tw n), a, some (.fz, B.d), some (.own, .lst []), none, c, d, e, f, none, none] =
    .nx [some (.fz, .scr ns), some (.own, tw n), a, some (.fz, B.d), some (.own, .lst (B.freeL.map ptD)), y, c, d, e, f, none, none] := by
  have w2 := hB.w2
  have h2 := hB.h2
  generalize hL : loopF _ _ _ _ = L
  obtain ⟨G, rfl, x, rfl⟩ := for_pre_of hL (fun (k : Nat) => .int (k : Int)) (List.range B.h) rfl (fun pre Γ => ∃ x, Γ = [some (.fz, .scr ns), some (.own, tw n), a, some (.fz, B.d), some (.own, .lst ((pre.flatMap B.row).map ptD)), x, c, d, e, f, none, none]) ⟨none, rfl⟩ (by
    rintro pre y suf Γ hy ⟨x, rfl⟩
    have hlen := congrArg List.length hy
    simp only [List.length_range, List.length_append, List.length_cons] at hlen
    have hf := flat_len B.row B.w B.row_len pre
    have hf2 := B.row_len y
    refine ⟨_, by simp; rfl, ?_⟩
    simp only [f_law, nthS, bodyS]
    simp only [exs_cons, ex_asg, ev_prim, evOs_cons, evO_v, slot_4, slot_3, slot_2, slot_1, slot_zero, ifSomeP_some, rbind_ok, evO_e]
    rw [comp1 [some (.fz, .scr ns), some (.own, tw n), a, some (.fz, B.d), some (.own, .lst ((pre.flatMap B.row).map ptD)), some (.fz, .int y), c, d, e, f, none, none] (List.range B.w) (fun (k : Nat) => .int (k : Int)) (fun x => ptD ((x : Int), (y : Int))) (fun x => B.free ((x : Int), (y : Int))) (by simp [rngR_nat _ (show B.w < 2 ^ 60 by omega)]) (by simp) (by simp [most]; omega) (fun k hk => by
      have e : D.tup [.int k, .int y] = ptD ((k : Int), (y : Int)) := rfl
      have q := c_law_is_free (wf := wf) m B hB.len ((k : Int), (y : Int))
      refine ⟨?_, fun h => ⟨.fz, ?_⟩⟩
      · simp [e, q]
      · simp [e])]
    have e : ((List.range B.w).filter fun (x : Nat) => B.free ((x : Int), (y : Int))).map (fun (x : Nat) => ptD ((x : Int), (y : Int))) = (B.row y).map ptD := by unfold Brd.row; rw [List.map_map]; rfl
    have q : ((pre.flatMap B.row).map ptD ++ (B.row y).map ptD).length ≤ most := by
      have : B.w * pre.length ≤ 12 * 12 := Nat.mul_le_mul w2 (by omega)
      simp only [most, List.length_append, List.length_map]
      omega
    simp only [e, evOs_nil, rbind_ok, gets_cons, get_v, slot_4, slot_3, slot_2, slot_1, slot_zero, Option.map_some, get_d, gets_nil, gets1_some, Option.bind_some, p_addL, small, q, if_true, okO_some, rsr_ok, then_nx, exs_nil, turn_nx, List.set_cons_succ, List.set_cons_zero]
    exact ⟨some (.fz, .int y), by simp⟩)
  exact ⟨x, rfl⟩
theorem sz13 : (⟨1, 3, []⟩ : Brd).Ok := ⟨⟨by simp, by simp, by simp, by simp, by simp, by simp [Brd.names], by simp [Brd.names], by simp⟩, by simp⟩
theorem law_true' (m : Nat) (ns : List Int) : ∃ s ms, run tbl wf (m + 11) i_law [(.fz, .scr ns)] = .ok (s, .bl true) ms := by
  have q6 := c_law_draw (wf := wf) (m + 7) ns 0 6 (by decide) (by decide)
  rw [show ((6 : Nat) : Int) = 6 from rfl] at q6
  have d6 := drw_lt ns 0 (show 0 < 6 by decide)
  generalize drw ns 0 6 = way at *
  obtain ⟨B, n1, hB, hne, hw, hh, h6, hn1, qB⟩ := c_law_board (wf := wf) (m + 4) ns 1 12 (by decide) (by decide) (by decide)
  rw [show ((12 : Nat) : Int) = 12 from rfl] at qB
  obtain ⟨bad, n2, qb, hn2, hbad⟩ := c_law_bad_board (wf := wf) (m + 5) ns n1 B hB hne h6 (by simp only [most]; omega)
  obtain ⟨n3, qe⟩ := c_law_ends (wf := wf) m ns n2 B hB hne h6 (by simp only [most]; omega)
  have h12 := hB.h2
  have e64 : B.bx.length < 64 := by have := hB.len; omega
  have tw0 : D.lst [] = tw 0 := rfl
  have hpl : ∀ (a c d e f : Option SD) (n : Nat) (L : SR), loopF (bindT (.one 5)) (exs (run tbl wf (m + 10)) wf (bodyS (nthS 4 f_law.body))) ((List.range B.h).map fun (k : Nat) => .int (k : Int)) [some (.fz, .scr ns), some (.own, tw n), a, some (.fz, B.d), some (.own, .lst []), none, c, d, e, f, none, none] = L → ∃ y, L = .nx [some (.fz, .scr ns), some (.own, tw n), a, some (.fz, B.d), some (.own, .lst (B.freeL.map ptD)), y, c, d, e, f, none, none] := fun a c d e f n L hL => by
    obtain ⟨y, q⟩ := law_places (wf := wf) (m + 9) B hB.toPre ns n a none c d e f none none
    exact ⟨y, by rw [← hL, q]⟩
  have nf := p_ne_self (pln_pts B.freeL)
  have q13 : run tbl wf (m + 10) i_free [(.fz, .tup [.tup [.int 1, .int 3], .dct [] []])] = .ok (.own, .lst [.tup [.int 0, .int 0], .tup [.int 0, .int 1], .tup [.int 0, .int 2]]) [none] := c_free (wf := wf) (m + 6) ⟨1, 3, []⟩ sz13
  have nf13 : prim .ne [.lst [.tup [.int 0, .int 0], .tup [.int 0, .int 1], .tup [.int 0, .int 2]], .lst [.tup [.int 0, .int 0], .tup [.int 0, .int 1], .tup [.int 0, .int 2]]] = some (.fz, .bl false) := p_ne_self (pln_pts [(0, 0), (0, 1), (0, 2)])
  rw [run_at (d := f_law) rfl rfl rfl]
  simp only [f_law]
  simp [tw0, q6, onceM, qB]
  rw [rngR_nat _ (by omega)]
  simp only [rsr_ok]
  generalize hL : loopF _ _ _ _ = L
  obtain ⟨y, rfl⟩ := hpl _ _ _ _ _ _ L hL
  clear hL
  simp [c_free, hB, nf, dctR, dctOf, putP, q13, nf13, e64]
  generalize hL : loopF _ _ _ _ = L
  obtain ⟨G, rfl, a6, a7, rfl⟩ := for_pre_of hL D.str B.sorted rfl (fun _ Γ => ∃ a b, Γ = [some (.fz, .scr ns), some (.own, tw n1), some (.fz, .int way), some (.fz, B.d), some (.own, .lst (B.freeL.map ptD)), y, a, b, none, none, none, none]) ⟨none, none, rfl⟩ (by
    rintro pre x suf Γ hy ⟨a, b, rfl⟩
    have hx : x ∈ B.names := B.sorted_mem.mp (by rw [hy]; simp)
    have hpt : ∀ v ∈ B.portsOf x, ∃ t : PT, v = ptT t ∧ t.1 ∈ B.names ∧ (t.2.2 : Int) ≤ along (B.box t.1) t.2.1 ∧ B.free (B.footT t) = true := fun v hv => mem_allPorts hB.toPre (List.mem_flatMap.mpr ⟨x, B.sorted_mem.mpr hx, hv⟩)
    have np := p_ne_self (pln_list (l := B.portsOf x) fun v hv k => by
      obtain ⟨t, rfl, ht, _⟩ := hpt v hv
      exact plain_port h6 ht k)
    refine ⟨_, by simp; rfl, ?_⟩
    simp [c_ports, hB, hx, c_law_all_ports, hB.toPre, np]
    generalize hL2 : loopF _ _ _ _ = L2
    obtain ⟨G2, rfl, b', rfl⟩ := for_pre_of hL2 id (B.portsOf x) (by simp) (fun _ Γ => ∃ b, Γ = [some (.fz, .scr ns), some (.own, tw n1), some (.fz, .int way), some (.fz, B.d), some (.own, .lst (B.freeL.map ptD)), y, some (.fz, .str x), b, none, none, none, none]) ⟨b, rfl⟩ (by
      rintro pre2 v suf2 Γ hy2 ⟨b, rfl⟩
      obtain ⟨t, rfl, h1, h2, h3⟩ := hpt v (by rw [hy2]; simp)
      have hfe : footErr B (ptT t) = none := by rw [footErr_t hB.toPre h1 h2, h3]; rfl
      have qf := c_foot (wf := wf) (m + 5) B hB (ptT t) (port_tame' hB.toPre h1)
      rw [hfe] at qf
      have ql := c_law_foot (wf := wf) (m + 9) B t.1 h1 t.2.1 t.2.2
      have qf' : run tbl wf (m + 10) i_foot [(.fz, B.d), (.fz, ptT t)] = .ok (.fz, ptD (footAt (B.box t.1) t.2.1 t.2.2)) [none, none] := by
        rw [qf]
        simp [ptT, portD, Hd.d]
      have ql' : run tbl wf (m + 10) i_law_foot [(.fz, B.d), (.fz, ptT t)] = .ok (.fz, ptD (footAt (B.box t.1) t.2.1 t.2.2)) [none, none] := ql
      refine ⟨_, by simp; rfl, ?_⟩
      simp [qf', ql', p_ne_self (plain_pt (footAt (B.box t.1) t.2.1 t.2.2) 29)])
    clear hL2
    simp)
  clear hL
  simp [qb, onceM]
  have told13 : ∀ k : Nat, k < 13 → run tbl wf (m + 10) i_law_told [(.fz, .int (k : Int)), (.fz, .lst [bad, .int 0, .int 0, .int 0])] = .ok (.fz, refusedD "BadBoard") [none, none] := fun k hk => told_ex _ _ _ _ (by decide) (one_bad (m + 1) hbad k hk)
  rw [comp1y [some (.fz, .scr ns), some (.own, tw n2), some (.fz, .int way), some (.fz, B.d), some (.own, .lst (B.freeL.map ptD)), y, a6, a7, some (.fz, bad), none, none, none] (List.range 13) (fun (k : Nat) => .int (k : Int)) (fun _ => refusedD "BadBoard") (by simp) (by simp) (by simp) (fun k hk => ⟨.fz, by simp [told13 k (by simpa using hk)]⟩)]
  have e1 : D.tup [.str [114, 101, 102, 117, 115, 101, 100], .str [98, 111, 97, 114, 100]] = refusedD "BadBoard" := rfl
  have e1' : D.tup [.str [114, 101, 102, 117, 115, 101, 100], .str [112, 111, 114, 116]] = refusedD "BadPort" := rfl
  have e2 : prim .mul [.lst [refusedD "BadBoard"], .int 13] = some (.own, .lst (List.replicate 13 (refusedD "BadBoard"))) := by
    rw [p_mulL, if_pos ⟨by decide, by decide, by simp⟩, ← flat_rep]
    rfl
  have hp := p_ne_self (pln_rep (pln_refused "BadBoard" (by decide)) 13)
  have hpb := p_ne_self (pln_refused "BadBoard" (by decide) 29)
  have hpp := p_ne_self (pln_refused "BadPort" (by decide) 29)
  rw [map_const]
  simp only [List.length_range, rbind_ok, rsr_ok, ex_ifs, evT_cmp, evO_e, ev_prim, evOs_cons, evOs_nil, ev_lst, evs_cons, evs_nil, ev_tup, ev_cst, List.length_cons, List.length_nil, Nat.zero_add, lm_1, lm_2, Nat.reduceAdd, if_true, e1, gets_cons, gets_nil, get_d, gets1_some, Option.bind_some, e2, okO_some, hp, okB_some, Bool.false_eq_true, if_false, exs_nil, then_nx]
  simp
  have four : [D.tup [.int 2, .int 0, .int 1, .int 0], .tup [.int 0, .int 2, .int 0, .int 1], .tup [.int 0, .int 0, .int 3, .int 0], .tup [.int 0, .int 0, .int 0, .int 3]] = [(⟨2, 0, 1, 0⟩ : Box), ⟨0, 2, 0, 1⟩, ⟨0, 0, 3, 0⟩, ⟨0, 0, 0, 3⟩].map Box.d := rfl
  generalize hL : loopF _ _ _ _ = L
  obtain ⟨G, rfl, a9, rfl⟩ := for_pre_of hL Box.d [(⟨2, 0, 1, 0⟩ : Box), ⟨0, 2, 0, 1⟩, ⟨0, 0, 3, 0⟩, ⟨0, 0, 0, 3⟩] four (fun _ Γ => ∃ a, Γ = [some (.fz, .scr ns), some (.own, tw n2), some (.fz, .int way), some (.fz, B.d), some (.own, .lst (B.freeL.map ptD)), y, a6, a7, some (.fz, bad), a, none, none]) ⟨none, rfl⟩ (by
    rintro pre b suf Γ hy ⟨a, rfl⟩
    have hb : b ∈ [(⟨2, 0, 1, 0⟩ : Box), ⟨0, 2, 0, 1⟩, ⟨0, 0, 3, 0⟩, ⟨0, 0, 0, 3⟩] := by rw [hy]; simp
    have hbo : boxOk 3 3 b.d = false := by
      simp only [List.mem_cons, List.not_mem_nil, or_false] at hb
      rcases hb with rfl | rfl | rfl | rfl <;> rfl
    have hbb : BadB wf (.tup [.tup [.int 3, .int 3], .dct [.str [97]] [b.d]]) := bad_one 3 3 b.l b.b b.r b.t rfl hbo
    have qt : run tbl wf (m + 10) i_law_told [(.fz, .int 10), (.fz, .lst [.tup [.tup [.int 3, .int 3], .dct [.str [97]] [b.d]], .int 0, .int 0, .int 0])] = .ok (.fz, refusedD "BadBoard") [none, none] := told_ex _ _ _ _ (by decide) (one_bad (m + 1) hbb 10 (by decide))
    refine ⟨_, by simp; rfl, ?_⟩
    simp [dctR, dctOf, putP, fits, D.leaf, putK, putV, qt, e1, hpb])
  clear hL
  have tport : ∀ d : D, Tame d → (nameOk d = false ∨ ∃ x, d = .str x ∧ x ∉ B.names) → run tbl wf (m + 10) i_law_told [(.fz, .int 11), (.fz, .lst [B.d, .int 0, .int 0, d])] = .ok (.fz, refusedD "BadPort") [none, none] := fun d h1 h2 => by
    refine told_ex _ _ _ _ (by decide) ?_
    rw [run_at (d := f_law_one) rfl rfl rfl]
    simp [f_law_one, c_ports_bad, hB, h1, h2]
  have hnb : ([110, 111, 98, 111, 120] : Nm) ∉ B.names := fun h => by
    have := h6 _ h
    revert this
    decide
  have t0 := tport (.str [110, 111, 98, 111, 120]) (by simp [Tame]) (.inr ⟨_, rfl, hnb⟩)
  have t1 := tport (.str []) (by simp [Tame]) (.inl (by decide))
  have t2 := tport (.str [65]) (by simp [Tame]) (.inl (by decide))
  have t3 := tport .non trivial (.inl rfl)
  have t4 := tport (.int 1) trivial (.inl rfl)
  have t5 := tport (.str [97, 98, 99, 100, 101, 102, 103, 104, 105]) (by simp [Tame]) (.inl (by decide))
  have : way = 0 ∨ way = 1 ∨ way = 2 ∨ way = 3 ∨ way = 4 ∨ way = 5 := by omega
  rcases this with rfl | rfl | rfl | rfl | rfl | rfl <;> simp [t0, t1, t2, t3, t4, t5, e1', hpp, qe, onceM]
theorem law_true (ns : List Int) (h : ns.length ≤ 63) : ∃ s ms, run tbl 1000 30 i_law [(.fz, .scr ns)] = .ok (s, .bl true) ms := law_true' 19 ns
end Rl.Pl
namespace Rl
open PySem L2 He
theorem g0 : FnGood tbl fnsOf globsOf fa fn 0 "is_whole" 3 f_is_whole nm0 (nm0.take 3) d_is_whole := ⟨rfl, rfl, rfl, rfl, rfl, rfl, rfl, List.mem_of_getElem? (i := 0) rfl, ⟨rfl, rfl, rfl, by decide +kernel, by decide +kernel, by decide +kernel, by decide +kernel⟩, rfl, rfl, by decide +kernel, fun _ _ _ _ _ _ us hl => match us, hl with | [_, _, _], _ => rfl⟩
theorem g1 : FnGood tbl fnsOf globsOf fa fn 1 "is_name" 1 f_is_name nm1 (nm1.take 1) d_is_name := ⟨rfl, rfl, rfl, rfl, rfl, rfl, rfl, List.mem_of_getElem? (i := 1) rfl, ⟨rfl, rfl, rfl, by decide +kernel, by decide +kernel, by decide +kernel, by decide +kernel⟩, rfl, rfl, by decide +kernel, fun _ _ _ _ _ _ us hl => match us, hl with | [_], _ => rfl⟩
theorem g2 : FnGood tbl fnsOf globsOf fa fn 2 "is_size" 1 f_is_size nm2 (nm2.take 1) d_is_size := ⟨rfl, rfl, rfl, rfl, rfl, rfl, rfl, List.mem_of_getElem? (i := 2) rfl, ⟨rfl, rfl, rfl, by decide +kernel, by decide +kernel, by decide +kernel, by decide +kernel⟩, rfl, rfl, by decide +kernel, fun _ _ _ _ _ _ us hl => match us, hl with | [_], _ => rfl⟩
theorem g3 : FnGood tbl fnsOf globsOf fa fn 3 "is_box" 2 f_is_box nm3 (nm3.take 2) d_is_box := ⟨rfl, rfl, rfl, rfl, rfl, rfl, rfl, List.mem_of_getElem? (i := 3) rfl, ⟨rfl, rfl, rfl, by decide +kernel, by decide +kernel, by decide +kernel, by decide +kernel⟩, rfl, rfl, by decide +kernel, fun _ _ _ _ _ _ us hl => match us, hl with | [_, _], _ => rfl⟩
theorem g4 : FnGood tbl fnsOf globsOf fa fn 4 "are_off" 2 f_are_off nm4 (nm4.take 2) d_are_off := ⟨rfl, rfl, rfl, rfl, rfl, rfl, rfl, List.mem_of_getElem? (i := 4) rfl, ⟨rfl, rfl, rfl, by decide +kernel, by decide +kernel, by decide +kernel, by decide +kernel⟩, rfl, rfl, by decide +kernel, fun _ _ _ _ _ _ us hl => match us, hl with | [_, _], _ => rfl⟩
theorem g5 : FnGood tbl fnsOf globsOf fa fn 5 "look_board" 1 f_look_board nm5 (nm5.take 1) d_look_board := ⟨rfl, rfl, rfl, rfl, rfl, rfl, rfl, List.mem_of_getElem? (i := 5) rfl, ⟨rfl, rfl, rfl, by decide +kernel, by decide +kernel, by decide +kernel, by decide +kernel⟩, rfl, rfl, by decide +kernel, fun _ _ _ _ _ _ us hl => match us, hl with | [_], _ => rfl⟩
theorem g6 : FnGood tbl fnsOf globsOf fa fn 6 "is_in" 2 f_is_in nm6 (nm6.take 2) d_is_in := ⟨rfl, rfl, rfl, rfl, rfl, rfl, rfl, List.mem_of_getElem? (i := 6) rfl, ⟨rfl, rfl, rfl, by decide +kernel, by decide +kernel, by decide +kernel, by decide +kernel⟩, rfl, rfl, by decide +kernel, fun _ _ _ _ _ _ us hl => match us, hl with | [_, _], _ => rfl⟩
theorem g7 : FnGood tbl fnsOf globsOf fa fn 7 "is_free" 2 f_is_free nm7 (nm7.take 2) d_is_free := ⟨rfl, rfl, rfl, rfl, rfl, rfl, rfl, List.mem_of_getElem? (i := 7) rfl, ⟨rfl, rfl, rfl, by decide +kernel, by decide +kernel, by decide +kernel, by decide +kernel⟩, rfl, rfl, by decide +kernel, fun _ _ _ _ _ _ us hl => match us, hl with | [_, _], _ => rfl⟩
theorem g8 : FnGood tbl fnsOf globsOf fa fn 8 "free" 1 f_free nm8 (nm8.take 1) d_free := ⟨rfl, rfl, rfl, rfl, rfl, rfl, rfl, List.mem_of_getElem? (i := 8) rfl, ⟨rfl, rfl, rfl, by decide +kernel, by decide +kernel, by decide +kernel, by decide +kernel⟩, rfl, rfl, by decide +kernel, fun _ _ _ _ _ _ us hl => match us, hl with | [_], _ => rfl⟩
theorem g9 : FnGood tbl fnsOf globsOf fa fn 9 "free_places" 1 f_free_places nm9 (nm9.take 1) d_free_places := ⟨rfl, rfl, rfl, rfl, rfl, rfl, rfl, List.mem_of_getElem? (i := 9) rfl, ⟨rfl, rfl, rfl, by decide +kernel, by decide +kernel, by decide +kernel, by decide +kernel⟩, rfl, rfl, by decide +kernel, fun _ _ _ _ _ _ us hl => match us, hl with | [_], _ => rfl⟩
theorem g10 : FnGood tbl fnsOf globsOf fa fn 10 "is_port" 2 f_is_port nm10 (nm10.take 2) d_is_port := ⟨rfl, rfl, rfl, rfl, rfl, rfl, rfl, List.mem_of_getElem? (i := 10) rfl, ⟨rfl, rfl, rfl, by decide +kernel, by decide +kernel, by decide +kernel, by decide +kernel⟩, rfl, rfl, by decide +kernel, fun _ _ _ _ _ _ us hl => match us, hl with | [_, _], _ => rfl⟩
theorem g11 : FnGood tbl fnsOf globsOf fa fn 11 "look_port" 2 f_look_port nm11 (nm11.take 2) d_look_port := ⟨rfl, rfl, rfl, rfl, rfl, rfl, rfl, List.mem_of_getElem? (i := 11) rfl, ⟨rfl, rfl, rfl, by decide +kernel, by decide +kernel, by decide +kernel, by decide +kernel⟩, rfl, rfl, by decide +kernel, fun _ _ _ _ _ _ us hl => match us, hl with | [_, _], _ => rfl⟩
theorem g12 : FnGood tbl fnsOf globsOf fa fn 12 "step" 2 f_step nm12 (nm12.take 2) d_step := ⟨rfl, rfl, rfl, rfl, rfl, rfl, rfl, List.mem_of_getElem? (i := 12) rfl, ⟨rfl, rfl, rfl, by decide +kernel, by decide +kernel, by decide +kernel, by decide +kernel⟩, rfl, rfl, by decide +kernel, fun _ _ _ _ _ _ us hl => match us, hl with | [_, _], _ => rfl⟩
theorem g13 : FnGood tbl fnsOf globsOf fa fn 13 "foot_of" 2 f_foot_of nm13 (nm13.take 2) d_foot_of := ⟨rfl, rfl, rfl, rfl, rfl, rfl, rfl, List.mem_of_getElem? (i := 13) rfl, ⟨rfl, rfl, rfl, by decide +kernel, by decide +kernel, by decide +kernel, by decide +kernel⟩, rfl, rfl, by decide +kernel, fun _ _ _ _ _ _ us hl => match us, hl with | [_, _], _ => rfl⟩
theorem g14 : FnGood tbl fnsOf globsOf fa fn 14 "look_foot" 2 f_look_foot nm14 (nm14.take 2) d_look_foot := ⟨rfl, rfl, rfl, rfl, rfl, rfl, rfl, List.mem_of_getElem? (i := 14) rfl, ⟨rfl, rfl, rfl, by decide +kernel, by decide +kernel, by decide +kernel, by decide +kernel⟩, rfl, rfl, by decide +kernel, fun _ _ _ _ _ _ us hl => match us, hl with | [_, _], _ => rfl⟩
theorem g15 : FnGood tbl fnsOf globsOf fa fn 15 "look_pair" 3 f_look_pair nm15 (nm15.take 3) d_look_pair := ⟨rfl, rfl, rfl, rfl, rfl, rfl, rfl, List.mem_of_getElem? (i := 15) rfl, ⟨rfl, rfl, rfl, by decide +kernel, by decide +kernel, by decide +kernel, by decide +kernel⟩, rfl, rfl, by decide +kernel, fun _ _ _ _ _ _ us hl => match us, hl with | [_, _, _], _ => rfl⟩
theorem g16 : FnGood tbl fnsOf globsOf fa fn 16 "foot" 2 f_foot nm16 (nm16.take 2) d_foot := ⟨rfl, rfl, rfl, rfl, rfl, rfl, rfl, List.mem_of_getElem? (i := 16) rfl, ⟨rfl, rfl, rfl, by decide +kernel, by decide +kernel, by decide +kernel, by decide +kernel⟩, rfl, rfl, by decide +kernel, fun _ _ _ _ _ _ us hl => match us, hl with | [_, _], _ => rfl⟩
theorem g17 : FnGood tbl fnsOf globsOf fa fn 17 "ports" 2 f_ports nm17 (nm17.take 2) d_ports := ⟨rfl, rfl, rfl, rfl, rfl, rfl, rfl, List.mem_of_getElem? (i := 17) rfl, ⟨rfl, rfl, rfl, by decide +kernel, by decide +kernel, by decide +kernel, by decide +kernel⟩, rfl, rfl, by decide +kernel, fun _ _ _ _ _ _ us hl => match us, hl with | [_, _], _ => rfl⟩
theorem g18 : FnGood tbl fnsOf globsOf fa fn 18 "look_ends" 3 f_look_ends nm18 (nm18.take 3) d_look_ends := ⟨rfl, rfl, rfl, rfl, rfl, rfl, rfl, List.mem_of_getElem? (i := 18) rfl, ⟨rfl, rfl, rfl, by decide +kernel, by decide +kernel, by decide +kernel, by decide +kernel⟩, rfl, rfl, by decide +kernel, fun _ _ _ _ _ _ us hl => match us, hl with | [_, _, _], _ => rfl⟩
theorem g19 : FnGood tbl fnsOf globsOf fa fn 19 "open_steps" 1 f_open_steps nm19 (nm19.take 1) d_open_steps := ⟨rfl, rfl, rfl, rfl, rfl, rfl, rfl, List.mem_of_getElem? (i := 19) rfl, ⟨rfl, rfl, rfl, by decide +kernel, by decide +kernel, by decide +kernel, by decide +kernel⟩, rfl, rfl, by decide +kernel, fun _ _ _ _ _ _ us hl => match us, hl with | [_], _ => rfl⟩
theorem g20 : FnGood tbl fnsOf globsOf fa fn 20 "end_cost" 2 f_end_cost nm20 (nm20.take 2) d_end_cost := ⟨rfl, rfl, rfl, rfl, rfl, rfl, rfl, List.mem_of_getElem? (i := 20) rfl, ⟨rfl, rfl, rfl, by decide +kernel, by decide +kernel, by decide +kernel, by decide +kernel⟩, rfl, rfl, by decide +kernel, fun _ _ _ _ _ _ us hl => match us, hl with | [_, _], _ => rfl⟩
theorem g21 : FnGood tbl fnsOf globsOf fa fn 21 "to_go" 3 f_to_go nm21 (nm21.take 3) d_to_go := ⟨rfl, rfl, rfl, rfl, rfl, rfl, rfl, List.mem_of_getElem? (i := 21) rfl, ⟨rfl, rfl, rfl, by decide +kernel, by decide +kernel, by decide +kernel, by decide +kernel⟩, rfl, rfl, by decide +kernel, fun _ _ _ _ _ _ us hl => match us, hl with | [_, _, _], _ => rfl⟩
theorem g22 : FnGood tbl fnsOf globsOf fa fn 22 "put_behind" 4 f_put_behind nm22 (nm22.take 4) d_put_behind := ⟨rfl, rfl, rfl, rfl, rfl, rfl, rfl, List.mem_of_getElem? (i := 22) rfl, ⟨rfl, rfl, rfl, by decide +kernel, by decide +kernel, by decide +kernel, by decide +kernel⟩, rfl, rfl, by decide +kernel, fun _ _ _ _ _ _ us hl => match us, hl with | [_, _, _, _], _ => rfl⟩
theorem g23 : FnGood tbl fnsOf globsOf fa fn 23 "costs" 3 f_costs nm23 (nm23.take 3) d_costs := ⟨rfl, rfl, rfl, rfl, rfl, rfl, rfl, List.mem_of_getElem? (i := 23) rfl, ⟨rfl, rfl, rfl, by decide +kernel, by decide +kernel, by decide +kernel, by decide +kernel⟩, rfl, rfl, by decide +kernel, fun _ _ _ _ _ _ us hl => match us, hl with | [_, _, _], _ => rfl⟩
theorem g24 : FnGood tbl fnsOf globsOf fa fn 24 "walk" 4 f_walk nm24 (nm24.take 4) d_walk := ⟨rfl, rfl, rfl, rfl, rfl, rfl, rfl, List.mem_of_getElem? (i := 24) rfl, ⟨rfl, rfl, rfl, by decide +kernel, by decide +kernel, by decide +kernel, by decide +kernel⟩, rfl, rfl, by decide +kernel, fun _ _ _ _ _ _ us hl => match us, hl with | [_, _, _, _], _ => rfl⟩
theorem g25 : FnGood tbl fnsOf globsOf fa fn 25 "corners" 2 f_corners nm25 (nm25.take 2) d_corners := ⟨rfl, rfl, rfl, rfl, rfl, rfl, rfl, List.mem_of_getElem? (i := 25) rfl, ⟨rfl, rfl, rfl, by decide +kernel, by decide +kernel, by decide +kernel, by decide +kernel⟩, rfl, rfl, by decide +kernel, fun _ _ _ _ _ _ us hl => match us, hl with | [_, _], _ => rfl⟩
theorem g26 : FnGood tbl fnsOf globsOf fa fn 26 "best" 4 f_best nm26 (nm26.take 4) d_best := ⟨rfl, rfl, rfl, rfl, rfl, rfl, rfl, List.mem_of_getElem? (i := 26) rfl, ⟨rfl, rfl, rfl, by decide +kernel, by decide +kernel, by decide +kernel, by decide +kernel⟩, rfl, rfl, by decide +kernel, fun _ _ _ _ _ _ us hl => match us, hl with | [_, _, _, _], _ => rfl⟩
theorem g27 : FnGood tbl fnsOf globsOf fa fn 27 "least" 3 f_least nm27 (nm27.take 3) d_least := ⟨rfl, rfl, rfl, rfl, rfl, rfl, rfl, List.mem_of_getElem? (i := 27) rfl, ⟨rfl, rfl, rfl, by decide +kernel, by decide +kernel, by decide +kernel, by decide +kernel⟩, rfl, rfl, by decide +kernel, fun _ _ _ _ _ _ us hl => match us, hl with | [_, _, _], _ => rfl⟩
theorem g28 : FnGood tbl fnsOf globsOf fa fn 28 "line" 3 f_line nm28 (nm28.take 3) d_line := ⟨rfl, rfl, rfl, rfl, rfl, rfl, rfl, List.mem_of_getElem? (i := 28) rfl, ⟨rfl, rfl, rfl, by decide +kernel, by decide +kernel, by decide +kernel, by decide +kernel⟩, rfl, rfl, by decide +kernel, fun _ _ _ _ _ _ us hl => match us, hl with | [_, _, _], _ => rfl⟩
theorem g29 : FnGood tbl fnsOf globsOf fa fn 29 "is_point" 1 f_is_point nm29 (nm29.take 1) d_is_point := ⟨rfl, rfl, rfl, rfl, rfl, rfl, rfl, List.mem_of_getElem? (i := 29) rfl, ⟨rfl, rfl, rfl, by decide +kernel, by decide +kernel, by decide +kernel, by decide +kernel⟩, rfl, rfl, by decide +kernel, fun _ _ _ _ _ _ us hl => match us, hl with | [_], _ => rfl⟩
theorem g30 : FnGood tbl fnsOf globsOf fa fn 30 "heading_of" 2 f_heading_of nm30 (nm30.take 2) d_heading_of := ⟨rfl, rfl, rfl, rfl, rfl, rfl, rfl, List.mem_of_getElem? (i := 30) rfl, ⟨rfl, rfl, rfl, by decide +kernel, by decide +kernel, by decide +kernel, by decide +kernel⟩, rfl, rfl, by decide +kernel, fun _ _ _ _ _ _ us hl => match us, hl with | [_, _], _ => rfl⟩
theorem g31 : FnGood tbl fnsOf globsOf fa fn 31 "headings_in" 1 f_headings_in nm31 (nm31.take 1) d_headings_in := ⟨rfl, rfl, rfl, rfl, rfl, rfl, rfl, List.mem_of_getElem? (i := 31) rfl, ⟨rfl, rfl, rfl, by decide +kernel, by decide +kernel, by decide +kernel, by decide +kernel⟩, rfl, rfl, by decide +kernel, fun _ _ _ _ _ _ us hl => match us, hl with | [_], _ => rfl⟩
theorem g32 : FnGood tbl fnsOf globsOf fa fn 32 "places" 2 f_places nm32 (nm32.take 2) d_places := ⟨rfl, rfl, rfl, rfl, rfl, rfl, rfl, List.mem_of_getElem? (i := 32) rfl, ⟨rfl, rfl, rfl, by decide +kernel, by decide +kernel, by decide +kernel, by decide +kernel⟩, rfl, rfl, by decide +kernel, fun _ _ _ _ _ _ us hl => match us, hl with | [_, _], _ => rfl⟩
theorem g33 : FnGood tbl fnsOf globsOf fa fn 33 "is_led" 5 f_is_led nm33 (nm33.take 5) d_is_led := ⟨rfl, rfl, rfl, rfl, rfl, rfl, rfl, List.mem_of_getElem? (i := 33) rfl, ⟨rfl, rfl, rfl, by decide +kernel, by decide +kernel, by decide +kernel, by decide +kernel⟩, rfl, rfl, by decide +kernel, fun _ _ _ _ _ _ us hl => match us, hl with | [_, _, _, _, _], _ => rfl⟩
theorem g34 : FnGood tbl fnsOf globsOf fa fn 34 "is_line" 4 f_is_line nm34 (nm34.take 4) d_is_line := ⟨rfl, rfl, rfl, rfl, rfl, rfl, rfl, List.mem_of_getElem? (i := 34) rfl, ⟨rfl, rfl, rfl, by decide +kernel, by decide +kernel, by decide +kernel, by decide +kernel⟩, rfl, rfl, by decide +kernel, fun _ _ _ _ _ _ us hl => match us, hl with | [_, _, _, _], _ => rfl⟩
theorem g35 : FnGood tbl fnsOf globsOf fa fn 35 "worth" 4 f_worth nm35 (nm35.take 4) d_worth := ⟨rfl, rfl, rfl, rfl, rfl, rfl, rfl, List.mem_of_getElem? (i := 35) rfl, ⟨rfl, rfl, rfl, by decide +kernel, by decide +kernel, by decide +kernel, by decide +kernel⟩, rfl, rfl, by decide +kernel, fun _ _ _ _ _ _ us hl => match us, hl with | [_, _, _, _], _ => rfl⟩
theorem g36 : FnGood tbl fnsOf globsOf fa fn 36 "look_lines" 1 f_look_lines nm36 (nm36.take 1) d_look_lines := ⟨rfl, rfl, rfl, rfl, rfl, rfl, rfl, List.mem_of_getElem? (i := 36) rfl, ⟨rfl, rfl, rfl, by decide +kernel, by decide +kernel, by decide +kernel, by decide +kernel⟩, rfl, rfl, by decide +kernel, fun _ _ _ _ _ _ us hl => match us, hl with | [_], _ => rfl⟩
theorem g37 : FnGood tbl fnsOf globsOf fa fn 37 "through" 1 f_through nm37 (nm37.take 1) d_through := ⟨rfl, rfl, rfl, rfl, rfl, rfl, rfl, List.mem_of_getElem? (i := 37) rfl, ⟨rfl, rfl, rfl, by decide +kernel, by decide +kernel, by decide +kernel, by decide +kernel⟩, rfl, rfl, by decide +kernel, fun _ _ _ _ _ _ us hl => match us, hl with | [_], _ => rfl⟩
theorem g38 : FnGood tbl fnsOf globsOf fa fn 38 "look_wires" 2 f_look_wires nm38 (nm38.take 2) d_look_wires := ⟨rfl, rfl, rfl, rfl, rfl, rfl, rfl, List.mem_of_getElem? (i := 38) rfl, ⟨rfl, rfl, rfl, by decide +kernel, by decide +kernel, by decide +kernel, by decide +kernel⟩, rfl, rfl, by decide +kernel, fun _ _ _ _ _ _ us hl => match us, hl with | [_, _], _ => rfl⟩
theorem g39 : FnGood tbl fnsOf globsOf fa fn 39 "laid" 2 f_laid nm39 (nm39.take 2) d_laid := ⟨rfl, rfl, rfl, rfl, rfl, rfl, rfl, List.mem_of_getElem? (i := 39) rfl, ⟨rfl, rfl, rfl, by decide +kernel, by decide +kernel, by decide +kernel, by decide +kernel⟩, rfl, rfl, by decide +kernel, fun _ _ _ _ _ _ us hl => match us, hl with | [_, _], _ => rfl⟩
theorem g40 : FnGood tbl fnsOf globsOf fa fn 40 "barred" 1 f_barred nm40 (nm40.take 1) d_barred := ⟨rfl, rfl, rfl, rfl, rfl, rfl, rfl, List.mem_of_getElem? (i := 40) rfl, ⟨rfl, rfl, rfl, by decide +kernel, by decide +kernel, by decide +kernel, by decide +kernel⟩, rfl, rfl, by decide +kernel, fun _ _ _ _ _ _ us hl => match us, hl with | [_], _ => rfl⟩
theorem g41 : FnGood tbl fnsOf globsOf fa fn 41 "may_step" 4 f_may_step nm41 (nm41.take 4) d_may_step := ⟨rfl, rfl, rfl, rfl, rfl, rfl, rfl, List.mem_of_getElem? (i := 41) rfl, ⟨rfl, rfl, rfl, by decide +kernel, by decide +kernel, by decide +kernel, by decide +kernel⟩, rfl, rfl, by decide +kernel, fun _ _ _ _ _ _ us hl => match us, hl with | [_, _, _, _], _ => rfl⟩
theorem g42 : FnGood tbl fnsOf globsOf fa fn 42 "left_steps" 2 f_left_steps nm42 (nm42.take 2) d_left_steps := ⟨rfl, rfl, rfl, rfl, rfl, rfl, rfl, List.mem_of_getElem? (i := 42) rfl, ⟨rfl, rfl, rfl, by decide +kernel, by decide +kernel, by decide +kernel, by decide +kernel⟩, rfl, rfl, by decide +kernel, fun _ _ _ _ _ _ us hl => match us, hl with | [_, _], _ => rfl⟩
theorem g43 : FnGood tbl fnsOf globsOf fa fn 43 "apart" 2 f_apart nm43 (nm43.take 2) d_apart := ⟨rfl, rfl, rfl, rfl, rfl, rfl, rfl, List.mem_of_getElem? (i := 43) rfl, ⟨rfl, rfl, rfl, by decide +kernel, by decide +kernel, by decide +kernel, by decide +kernel⟩, rfl, rfl, by decide +kernel, fun _ _ _ _ _ _ us hl => match us, hl with | [_, _], _ => rfl⟩
theorem g44 : FnGood tbl fnsOf globsOf fa fn 44 "are_apart" 3 f_are_apart nm44 (nm44.take 3) d_are_apart := ⟨rfl, rfl, rfl, rfl, rfl, rfl, rfl, List.mem_of_getElem? (i := 44) rfl, ⟨rfl, rfl, rfl, by decide +kernel, by decide +kernel, by decide +kernel, by decide +kernel⟩, rfl, rfl, by decide +kernel, fun _ _ _ _ _ _ us hl => match us, hl with | [_, _, _], _ => rfl⟩
theorem g45 : FnGood tbl fnsOf globsOf fa fn 45 "may_both" 2 f_may_both nm45 (nm45.take 2) d_may_both := ⟨rfl, rfl, rfl, rfl, rfl, rfl, rfl, List.mem_of_getElem? (i := 45) rfl, ⟨rfl, rfl, rfl, by decide +kernel, by decide +kernel, by decide +kernel, by decide +kernel⟩, rfl, rfl, by decide +kernel, fun _ _ _ _ _ _ us hl => match us, hl with | [_, _], _ => rfl⟩
theorem g46 : FnGood tbl fnsOf globsOf fa fn 46 "is_cross" 2 f_is_cross nm46 (nm46.take 2) d_is_cross := ⟨rfl, rfl, rfl, rfl, rfl, rfl, rfl, List.mem_of_getElem? (i := 46) rfl, ⟨rfl, rfl, rfl, by decide +kernel, by decide +kernel, by decide +kernel, by decide +kernel⟩, rfl, rfl, by decide +kernel, fun _ _ _ _ _ _ us hl => match us, hl with | [_, _], _ => rfl⟩
theorem g47 : FnGood tbl fnsOf globsOf fa fn 47 "paper" 3 f_paper nm47 (nm47.take 3) d_paper := ⟨rfl, rfl, rfl, rfl, rfl, rfl, rfl, List.mem_of_getElem? (i := 47) rfl, ⟨rfl, rfl, rfl, by decide +kernel, by decide +kernel, by decide +kernel, by decide +kernel⟩, rfl, rfl, by decide +kernel, fun _ _ _ _ _ _ us hl => match us, hl with | [_, _, _], _ => rfl⟩
theorem g48 : FnGood tbl fnsOf globsOf fa fn 48 "is_worth" 1 f_is_worth nm48 (nm48.take 1) d_is_worth := ⟨rfl, rfl, rfl, rfl, rfl, rfl, rfl, List.mem_of_getElem? (i := 48) rfl, ⟨rfl, rfl, rfl, by decide +kernel, by decide +kernel, by decide +kernel, by decide +kernel⟩, rfl, rfl, by decide +kernel, fun _ _ _ _ _ _ us hl => match us, hl with | [_], _ => rfl⟩
theorem g49 : FnGood tbl fnsOf globsOf fa fn 49 "are_states" 2 f_are_states nm49 (nm49.take 2) d_are_states := ⟨rfl, rfl, rfl, rfl, rfl, rfl, rfl, List.mem_of_getElem? (i := 49) rfl, ⟨rfl, rfl, rfl, by decide +kernel, by decide +kernel, by decide +kernel, by decide +kernel⟩, rfl, rfl, by decide +kernel, fun _ _ _ _ _ _ us hl => match us, hl with | [_, _], _ => rfl⟩
theorem g50 : FnGood tbl fnsOf globsOf fa fn 50 "is_sound" 5 f_is_sound nm50 (nm50.take 5) d_is_sound := ⟨rfl, rfl, rfl, rfl, rfl, rfl, rfl, List.mem_of_getElem? (i := 50) rfl, ⟨rfl, rfl, rfl, by decide +kernel, by decide +kernel, by decide +kernel, by decide +kernel⟩, rfl, rfl, by decide +kernel, fun _ _ _ _ _ _ us hl => match us, hl with | [_, _, _, _, _], _ => rfl⟩
theorem g51 : FnGood tbl fnsOf globsOf fa fn 51 "shows" 5 f_shows nm51 (nm51.take 5) d_shows := ⟨rfl, rfl, rfl, rfl, rfl, rfl, rfl, List.mem_of_getElem? (i := 51) rfl, ⟨rfl, rfl, rfl, by decide +kernel, by decide +kernel, by decide +kernel, by decide +kernel⟩, rfl, rfl, by decide +kernel, fun _ _ _ _ _ _ us hl => match us, hl with | [_, _, _, _, _], _ => rfl⟩
theorem g52 : FnGood tbl fnsOf globsOf fa fn 52 "picture" 2 f_picture nm52 (nm52.take 2) d_picture := ⟨rfl, rfl, rfl, rfl, rfl, rfl, rfl, List.mem_of_getElem? (i := 52) rfl, ⟨rfl, rfl, rfl, by decide +kernel, by decide +kernel, by decide +kernel, by decide +kernel⟩, rfl, rfl, by decide +kernel, fun _ _ _ _ _ _ us hl => match us, hl with | [_, _], _ => rfl⟩
theorem g53 : FnGood tbl fnsOf globsOf fa fn 53 "_law_cell" 2 f_law_cell nm53 (nm53.take 2) d__law_cell := ⟨rfl, rfl, rfl, rfl, rfl, rfl, rfl, List.mem_of_getElem? (i := 53) rfl, ⟨rfl, rfl, rfl, by decide +kernel, by decide +kernel, by decide +kernel, by decide +kernel⟩, rfl, rfl, by decide +kernel, fun _ _ _ _ _ _ us hl => match us, hl with | [_, _], _ => rfl⟩
theorem g54 : FnGood tbl fnsOf globsOf fa fn 54 "_law_mix" 2 f_law_mix nm54 (nm54.take 2) d__law_mix := ⟨rfl, rfl, rfl, rfl, rfl, rfl, rfl, List.mem_of_getElem? (i := 54) rfl, ⟨rfl, rfl, rfl, by decide +kernel, by decide +kernel, by decide +kernel, by decide +kernel⟩, rfl, rfl, by decide +kernel, fun _ _ _ _ _ _ us hl => match us, hl with | [_, _], _ => rfl⟩
theorem g55 : FnGood tbl fnsOf globsOf fa fn 55 "_law_draw" 3 f_law_draw nm55 (nm55.take 3) d__law_draw := ⟨rfl, rfl, rfl, rfl, rfl, rfl, rfl, List.mem_of_getElem? (i := 55) rfl, ⟨rfl, rfl, rfl, by decide +kernel, by decide +kernel, by decide +kernel, by decide +kernel⟩, rfl, rfl, by decide +kernel, fun _ _ _ _ _ _ us hl => match us, hl with | [_, _, _], _ => rfl⟩
theorem g56 : FnGood tbl fnsOf globsOf fa fn 56 "_law_pick" 3 f_law_pick nm56 (nm56.take 3) d__law_pick := ⟨rfl, rfl, rfl, rfl, rfl, rfl, rfl, List.mem_of_getElem? (i := 56) rfl, ⟨rfl, rfl, rfl, by decide +kernel, by decide +kernel, by decide +kernel, by decide +kernel⟩, rfl, rfl, by decide +kernel, fun _ _ _ _ _ _ us hl => match us, hl with | [_, _, _], _ => rfl⟩
theorem g57 : FnGood tbl fnsOf globsOf fa fn 57 "_law_refusal" 1 f_law_refusal nm57 (nm57.take 1) d__law_refusal := ⟨rfl, rfl, rfl, rfl, rfl, rfl, rfl, List.mem_of_getElem? (i := 57) rfl, ⟨rfl, rfl, rfl, by decide +kernel, by decide +kernel, by decide +kernel, by decide +kernel⟩, rfl, rfl, by decide +kernel, fun _ _ _ _ _ _ us hl => match us, hl with | [_], _ => rfl⟩
theorem g58 : FnGood tbl fnsOf globsOf fa fn 58 "_law_box" 3 f_law_box nm58 (nm58.take 3) d__law_box := ⟨rfl, rfl, rfl, rfl, rfl, rfl, rfl, List.mem_of_getElem? (i := 58) rfl, ⟨rfl, rfl, rfl, by decide +kernel, by decide +kernel, by decide +kernel, by decide +kernel⟩, rfl, rfl, by decide +kernel, fun _ _ _ _ _ _ us hl => match us, hl with | [_, _, _], _ => rfl⟩
theorem g59 : FnGood tbl fnsOf globsOf fa fn 59 "_law_off" 2 f_law_off nm59 (nm59.take 2) d__law_off := ⟨rfl, rfl, rfl, rfl, rfl, rfl, rfl, List.mem_of_getElem? (i := 59) rfl, ⟨rfl, rfl, rfl, by decide +kernel, by decide +kernel, by decide +kernel, by decide +kernel⟩, rfl, rfl, by decide +kernel, fun _ _ _ _ _ _ us hl => match us, hl with | [_, _], _ => rfl⟩
theorem g60 : FnGood tbl fnsOf globsOf fa fn 60 "_law_board" 3 f_law_board nm60 (nm60.take 3) d__law_board := ⟨rfl, rfl, rfl, rfl, rfl, rfl, rfl, List.mem_of_getElem? (i := 60) rfl, ⟨rfl, rfl, rfl, by decide +kernel, by decide +kernel, by decide +kernel, by decide +kernel⟩, rfl, rfl, by decide +kernel, fun _ _ _ _ _ _ us hl => match us, hl with | [_, _, _], _ => rfl⟩
theorem g61 : FnGood tbl fnsOf globsOf fa fn 61 "_law_is_free" 2 f_law_is_free nm61 (nm61.take 2) d__law_is_free := ⟨rfl, rfl, rfl, rfl, rfl, rfl, rfl, List.mem_of_getElem? (i := 61) rfl, ⟨rfl, rfl, rfl, by decide +kernel, by decide +kernel, by decide +kernel, by decide +kernel⟩, rfl, rfl, by decide +kernel, fun _ _ _ _ _ _ us hl => match us, hl with | [_, _], _ => rfl⟩
theorem g62 : FnGood tbl fnsOf globsOf fa fn 62 "_law_foot" 2 f_law_foot nm62 (nm62.take 2) d__law_foot := ⟨rfl, rfl, rfl, rfl, rfl, rfl, rfl, List.mem_of_getElem? (i := 62) rfl, ⟨rfl, rfl, rfl, by decide +kernel, by decide +kernel, by decide +kernel, by decide +kernel⟩, rfl, rfl, by decide +kernel, fun _ _ _ _ _ _ us hl => match us, hl with | [_, _], _ => rfl⟩
theorem g63 : FnGood tbl fnsOf globsOf fa fn 63 "_law_all_ports" 2 f_law_all_ports nm63 (nm63.take 2) d__law_all_ports := ⟨rfl, rfl, rfl, rfl, rfl, rfl, rfl, List.mem_of_getElem? (i := 63) rfl, ⟨rfl, rfl, rfl, by decide +kernel, by decide +kernel, by decide +kernel, by decide +kernel⟩, rfl, rfl, by decide +kernel, fun _ _ _ _ _ _ us hl => match us, hl with | [_, _], _ => rfl⟩
theorem g64 : FnGood tbl fnsOf globsOf fa fn 64 "_law_ports" 1 f_law_ports nm64 (nm64.take 1) d__law_ports := ⟨rfl, rfl, rfl, rfl, rfl, rfl, rfl, List.mem_of_getElem? (i := 64) rfl, ⟨rfl, rfl, rfl, by decide +kernel, by decide +kernel, by decide +kernel, by decide +kernel⟩, rfl, rfl, by decide +kernel, fun _ _ _ _ _ _ us hl => match us, hl with | [_], _ => rfl⟩
theorem g65 : FnGood tbl fnsOf globsOf fa fn 65 "_law_one" 2 f_law_one nm65 (nm65.take 2) d__law_one := ⟨rfl, rfl, rfl, rfl, rfl, rfl, rfl, List.mem_of_getElem? (i := 65) rfl, ⟨rfl, rfl, rfl, by decide +kernel, by decide +kernel, by decide +kernel, by decide +kernel⟩, rfl, rfl, by decide +kernel, fun _ _ _ _ _ _ us hl => match us, hl with | [_, _], _ => rfl⟩
theorem g66 : FnGood tbl fnsOf globsOf fa fn 66 "_law_told" 2 f_law_told nm66 (nm66.take 2) d__law_told := ⟨rfl, rfl, rfl, rfl, rfl, rfl, rfl, List.mem_of_getElem? (i := 66) rfl, ⟨rfl, rfl, rfl, by decide +kernel, by decide +kernel, by decide +kernel, by decide +kernel⟩, rfl, rfl, by decide +kernel, fun _ _ _ _ _ _ us hl => match us, hl with | [_, _], _ => rfl⟩
theorem g67 : FnGood tbl fnsOf globsOf fa fn 67 "_law_bad_board" 3 f_law_bad_board nm67 (nm67.take 3) d__law_bad_board := ⟨rfl, rfl, rfl, rfl, rfl, rfl, rfl, List.mem_of_getElem? (i := 67) rfl, ⟨rfl, rfl, rfl, by decide +kernel, by decide +kernel, by decide +kernel, by decide +kernel⟩, rfl, rfl, by decide +kernel, fun _ _ _ _ _ _ us hl => match us, hl with | [_, _, _], _ => rfl⟩
theorem g68 : FnGood tbl fnsOf globsOf fa fn 68 "_law_bad_port" 4 f_law_bad_port nm68 (nm68.take 4) d__law_bad_port := ⟨rfl, rfl, rfl, rfl, rfl, rfl, rfl, List.mem_of_getElem? (i := 68) rfl, ⟨rfl, rfl, rfl, by decide +kernel, by decide +kernel, by decide +kernel, by decide +kernel⟩, rfl, rfl, by decide +kernel, fun _ _ _ _ _ _ us hl => match us, hl with | [_, _, _, _], _ => rfl⟩
theorem g69 : FnGood tbl fnsOf globsOf fa fn 69 "_law_ends" 3 f_law_ends nm69 (nm69.take 3) d__law_ends := ⟨rfl, rfl, rfl, rfl, rfl, rfl, rfl, List.mem_of_getElem? (i := 69) rfl, ⟨rfl, rfl, rfl, by decide +kernel, by decide +kernel, by decide +kernel, by decide +kernel⟩, rfl, rfl, by decide +kernel, fun _ _ _ _ _ _ us hl => match us, hl with | [_, _, _], _ => rfl⟩
theorem g70 : FnGood tbl fnsOf globsOf fa fn 70 "_law_sides" 1 f_law_sides nm70 (nm70.take 1) d__law_sides := ⟨rfl, rfl, rfl, rfl, rfl, rfl, rfl, List.mem_of_getElem? (i := 70) rfl, ⟨rfl, rfl, rfl, by decide +kernel, by decide +kernel, by decide +kernel, by decide +kernel⟩, rfl, rfl, by decide +kernel, fun _ _ _ _ _ _ us hl => match us, hl with | [_], _ => rfl⟩
theorem g71 : FnGood tbl fnsOf globsOf fa fn 71 "law" 1 f_law nm71 (nm71.take 1) d_law := ⟨rfl, rfl, rfl, rfl, rfl, rfl, rfl, List.mem_of_getElem? (i := 71) rfl, ⟨rfl, rfl, rfl, by decide +kernel, by decide +kernel, by decide +kernel, by decide +kernel⟩, rfl, rfl, by decide +kernel, fun _ _ _ _ _ _ us hl => match us, hl with | [_], _ => rfl⟩
theorem g_all : ∀ (f : Nat) x k, fnsOf[f]? = some (x, k) → ∃ d N ps dd, FnGood tbl fnsOf globsOf fa fn f x k d N ps dd := by
  intro f x k e
  match f, e with
  | 0, e => cases e; exact ⟨_, _, _, _, g0⟩
  | 1, e => cases e; exact ⟨_, _, _, _, g1⟩
  | 2, e => cases e; exact ⟨_, _, _, _, g2⟩
  | 3, e => cases e; exact ⟨_, _, _, _, g3⟩
  | 4, e => cases e; exact ⟨_, _, _, _, g4⟩
  | 5, e => cases e; exact ⟨_, _, _, _, g5⟩
  | 6, e => cases e; exact ⟨_, _, _, _, g6⟩
  | 7, e => cases e; exact ⟨_, _, _, _, g7⟩
  | 8, e => cases e; exact ⟨_, _, _, _, g8⟩
  | 9, e => cases e; exact ⟨_, _, _, _, g9⟩
  | 10, e => cases e; exact ⟨_, _, _, _, g10⟩
  | 11, e => cases e; exact ⟨_, _, _, _, g11⟩
  | 12, e => cases e; exact ⟨_, _, _, _, g12⟩
  | 13, e => cases e; exact ⟨_, _, _, _, g13⟩
  | 14, e => cases e; exact ⟨_, _, _, _, g14⟩
  | 15, e => cases e; exact ⟨_, _, _, _, g15⟩
  | 16, e => cases e; exact ⟨_, _, _, _, g16⟩
  | 17, e => cases e; exact ⟨_, _, _, _, g17⟩
  | 18, e => cases e; exact ⟨_, _, _, _, g18⟩
  | 19, e => cases e; exact ⟨_, _, _, _, g19⟩
  | 20, e => cases e; exact ⟨_, _, _, _, g20⟩
  | 21, e => cases e; exact ⟨_, _, _, _, g21⟩
  | 22, e => cases e; exact ⟨_, _, _, _, g22⟩
  | 23, e => cases e; exact ⟨_, _, _, _, g23⟩
  | 24, e => cases e; exact ⟨_, _, _, _, g24⟩
  | 25, e => cases e; exact ⟨_, _, _, _, g25⟩
  | 26, e => cases e; exact ⟨_, _, _, _, g26⟩
  | 27, e => cases e; exact ⟨_, _, _, _, g27⟩
  | 28, e => cases e; exact ⟨_, _, _, _, g28⟩
  | 29, e => cases e; exact ⟨_, _, _, _, g29⟩
  | 30, e => cases e; exact ⟨_, _, _, _, g30⟩
  | 31, e => cases e; exact ⟨_, _, _, _, g31⟩
  | 32, e => cases e; exact ⟨_, _, _, _, g32⟩
  | 33, e => cases e; exact ⟨_, _, _, _, g33⟩
  | 34, e => cases e; exact ⟨_, _, _, _, g34⟩
  | 35, e => cases e; exact ⟨_, _, _, _, g35⟩
  | 36, e => cases e; exact ⟨_, _, _, _, g36⟩
  | 37, e => cases e; exact ⟨_, _, _, _, g37⟩
  | 38, e => cases e; exact ⟨_, _, _, _, g38⟩
  | 39, e => cases e; exact ⟨_, _, _, _, g39⟩
  | 40, e => cases e; exact ⟨_, _, _, _, g40⟩
  | 41, e => cases e; exact ⟨_, _, _, _, g41⟩
  | 42, e => cases e; exact ⟨_, _, _, _, g42⟩
  | 43, e => cases e; exact ⟨_, _, _, _, g43⟩
  | 44, e => cases e; exact ⟨_, _, _, _, g44⟩
  | 45, e => cases e; exact ⟨_, _, _, _, g45⟩
  | 46, e => cases e; exact ⟨_, _, _, _, g46⟩
  | 47, e => cases e; exact ⟨_, _, _, _, g47⟩
  | 48, e => cases e; exact ⟨_, _, _, _, g48⟩
  | 49, e => cases e; exact ⟨_, _, _, _, g49⟩
  | 50, e => cases e; exact ⟨_, _, _, _, g50⟩
  | 51, e => cases e; exact ⟨_, _, _, _, g51⟩
  | 52, e => cases e; exact ⟨_, _, _, _, g52⟩
  | 53, e => cases e; exact ⟨_, _, _, _, g53⟩
  | 54, e => cases e; exact ⟨_, _, _, _, g54⟩
  | 55, e => cases e; exact ⟨_, _, _, _, g55⟩
  | 56, e => cases e; exact ⟨_, _, _, _, g56⟩
  | 57, e => cases e; exact ⟨_, _, _, _, g57⟩
  | 58, e => cases e; exact ⟨_, _, _, _, g58⟩
  | 59, e => cases e; exact ⟨_, _, _, _, g59⟩
  | 60, e => cases e; exact ⟨_, _, _, _, g60⟩
  | 61, e => cases e; exact ⟨_, _, _, _, g61⟩
  | 62, e => cases e; exact ⟨_, _, _, _, g62⟩
  | 63, e => cases e; exact ⟨_, _, _, _, g63⟩
  | 64, e => cases e; exact ⟨_, _, _, _, g64⟩
  | 65, e => cases e; exact ⟨_, _, _, _, g65⟩
  | 66, e => cases e; exact ⟨_, _, _, _, g66⟩
  | 67, e => cases e; exact ⟨_, _, _, _, g67⟩
  | 68, e => cases e; exact ⟨_, _, _, _, g68⟩
  | 69, e => cases e; exact ⟨_, _, _, _, g69⟩
  | 70, e => cases e; exact ⟨_, _, _, _, g70⟩
  | 71, e => cases e; exact ⟨_, _, _, _, g71⟩
  | n + 72, e => cases (show (none : Option (Str × Nat)) = some (x, k) from e)
theorem free_all : ∀ x ∈ bnames, Fa.free (Str.ofString x) ∈ fa := by
  intro x hx
  simp only [bnames, List.mem_cons, List.not_mem_nil, or_false] at hx
  rcases hx with rfl | rfl | rfl | rfl | rfl | rfl | rfl | rfl | rfl | rfl | rfl | rfl | rfl | rfl | rfl | rfl
  · exact List.mem_of_getElem? (i := 72) rfl
  · exact List.mem_of_getElem? (i := 73) rfl
  · exact List.mem_of_getElem? (i := 74) rfl
  · exact List.mem_of_getElem? (i := 75) rfl
  · exact List.mem_of_getElem? (i := 76) rfl
  · exact List.mem_of_getElem? (i := 77) rfl
  · exact List.mem_of_getElem? (i := 78) rfl
  · exact List.mem_of_getElem? (i := 79) rfl
  · exact List.mem_of_getElem? (i := 80) rfl
  · exact List.mem_of_getElem? (i := 81) rfl
  · exact List.mem_of_getElem? (i := 82) rfl
  · exact List.mem_of_getElem? (i := 83) rfl
  · exact List.mem_of_getElem? (i := 84) rfl
  · exact List.mem_of_getElem? (i := 85) rfl
  · exact List.mem_of_getElem? (i := 86) rfl
  · exact List.mem_of_getElem? (i := 87) rfl
theorem gl_nd : ∀ p ∈ globsOf, ∀ ks vs, p.2 = .dct ks vs → ks.Nodup := by
  intro p hp ks vs e
  simp only [globsOf, List.mem_cons, List.not_mem_nil, or_false] at hp
  rcases hp with rfl | rfl | rfl | rfl | rfl | rfl | rfl | rfl | rfl <;> first | (cases e; done) | (cases e; refine List.nodup_cons.mpr ⟨by simp, List.nodup_cons.mpr ⟨by simp, List.nodup_cons.mpr ⟨by simp, List.nodup_cons.mpr ⟨by simp, List.nodup_nil⟩⟩⟩⟩)

theorem facts {P : Program} {w : World} {K : PySem.W.Frag} {h : Heap} {mg : Str → Option Value} {f : Addr} (X : K.In h) (G : h.Ns mainGlobals mg) (hfa : mg ("law" : Str) = some (.ref f)) (c : SaysR fa fn globsOf w K) :
    ∃ fd : FuncData, (∀ (s : Shared) (v : Value), BindsTo s fd ⟨[v], []⟩ [("script", v)]) ∧ ∀ base : Heap, K.In base → base.Ns mainGlobals mg → FnOk P w K mg base (L2.CX P w) 30 f fd ["script"] (spF ⟨P, w, K, clsK K⟩ (run tbl 1000 30) i_law) := by
  have M : ModOk P w K mg fnsOf globsOf (clsK K) tbl := mod_of X G c free_all gl_nd g_all
  obtain ⟨fd0, F⟩ := c.def_ 71 (d := d_law) rfl
  have e := hfa.symm.trans (glo_ok X G (c.parts.1 _ g71.gl))
  cases e
  have b := FunD.bindsA (ps := ["script"]) F fun _ _ _ _ _ _ us hl => match us, hl with | [_], _ => rfl
  refine ⟨fd0, fun s v => b s [v] rfl, fun base _ _ => ?_⟩
  have st := stat_all M base 1000 29
  exact fn_ok (x := "law") (qual := "law") (N := nm71) (ps := ["script"]) (d := f_law) (T := tbl) rfl F g71.sc rfl rfl st g71.ck
end Rl
open PySem PySem.W PySem.Calls PyProof.Rows
theorem PySem.Challenge.cw_roundlines_k01_whole_boards_holds : PySem.Challenge.rw_roundlines_k01_whole_boards.Holds := by
  w_on; o_law
  refine HandSHeadRun.head_any (r := OpenLaw.row PySem.Challenge.rw_roundlines_k01_whole_boards) (q := Rl.qv) (H := Rl.hk) (ob := Rl.ob) (M := 20000) (loose := Rl.loose) (d := HandSHeadRun.topDef (OpenLaw.row PySem.Challenge.rw_roundlines_k01_whole_boards).prog 97) (kwd := []) Rl.ob_eq
    (by kernel_rfl) (fun s => by kernel_rfl) Rl.runH (by kernel_rfl) (by kernel_rfl) (by kernel_rfl) (by rfl) (by first | assumption | decide +kernel) (by decide +kernel) ⟨rfl, rfl, rfl, rfl, rfl, by decide +kernel⟩ ?hw ?hc
  case hw => w_witness2
  case hc =>
    refine Rl.walk_R (L := PySem.Challenge.rw_roundlines_k01_whole_boards) (most0 := 63) (dep := 30) (nm := "script") rfl (by decide) (by kernel_rfl) ⟨rfl, by decide, by decide⟩ ?F
    case F =>
      intro w mg fa h Y G hmg0
      obtain ⟨K, KX, c⟩ := Y
      have hmg : mg ("law" : PySem.Str) = some (.ref fa) := by
        have e : (HandSHeadRun.topDef (OpenLaw.row PySem.Challenge.rw_roundlines_k01_whole_boards).prog 97).name = ("law" : PySem.Str) := by kernel_rfl
        rw [← e]
        exact hmg0
      obtain ⟨fd, hb, hF⟩ := Rl.facts (P := (PySem.Challenge.rw_roundlines_k01_whole_boards).prog) (w := w) KX G hmg c
      exact ⟨K, fd, _, KX, hb, fun H a ns hl hS => Rl.law_sp (Rl.Pl.law_true ns hl) hS, hF⟩
