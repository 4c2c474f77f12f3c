import PyProof.Rows.All
import HandS.ForMost
import HandS.Deep
import HandS.IsInst
import HandS.TupAny
import HandS.Codes
import HandS.Flow
import HandS.Style
import HandS.Wide
import HandS.Star
import HandS.Lambda
import HandS.HeadHook4
import HandS.TupMul
import PyProof.EqKinds
import HandS.DictEq
import HandS.Defaults
import HandS.HeadEnd
import HandS.EndTab
import HandS.RevTup
import HandS.NoneIn
import HandS.TryMany
import KE.GoesEnum
import HandS.ExcOwn
import HandS.Set
import HandS.Strs
import KE.KDictZip
import HandS.Keys
import HandS.Head0
import HandS.Head1
import HandS.Head2
import PySem.Challenge.RW_askwords_k03_nodes_and_bodies
set_option Elab.async false
set_option linter.all false
set_option maxRecDepth 100000
/-! A small language over plain data, with an evaluator; a checker against the row's syntax. -/
namespace AW
open PySem
/-- plain data -/
inductive D where
  | non | bl (b : Bool) | int (i : Int) | str (s : Str)
  | tup (ds : List D) | lst (ds : List D) | dct (ks vs : List D)
deriving Inhabited
mutual
def D.py : D → Option PyData
  | .non => some .none
  | .bl b => some (.bool b)
  | .int i => some (.int i)
  | .str s => some (.str s)
  | .tup ds => (D.pys ds).map .tuple
  | .lst ds => (D.pys ds).map .list
  | .dct _ _ => none
def D.pys : List D → Option (List PyData)
  | [] => some []
  | d :: ds => d.py.bind fun p => (D.pys ds).map fun ps => p :: ps
end
inductive Val where
  | d (x : D) | cell (n : Nat)
deriving Inhabited
inductive Cel where
  | lst (ds : List D) | dct (ks vs : List D) | dead
abbrev Store := List Cel
abbrev Ev := List (Option Val)
structure Exc where
  cls : Str
  flds : List (Str × D)
inductive Out (α : Type) where
  | ok (a : α) (m : Store) | exc (x : Exc) (m : Store) | bad
def Out.bind {α β : Type} : Out α → (α → Store → Out β) → Out β
  | .ok a m, f => f a m
  | .exc x m, _ => .exc x m
  | .bad, _ => .bad
@[simp] theorem Out.bind_ok {α β : Type} (a : α) (m : Store) (f : α → Store → Out β) : (Out.ok a m).bind f = f a m := rfl
@[simp] theorem Out.bind_exc {α β : Type} (x : Exc) (m : Store) (f : α → Store → Out β) : (Out.exc x m).bind f = .exc x m := rfl
@[simp] theorem Out.bind_bad {α β : Type} (f : α → Store → Out β) : (Out.bad).bind f = .bad := rfl
def lift {α : Type} (m : Store) : Option α → Out α
  | some a => .ok a m
  | none => .bad
@[simp] theorem lift_some {α : Type} (m : Store) (a : α) : lift m (some a) = .ok a m := rfl
@[simp] theorem lift_none {α : Type} (m : Store) : lift m (none : Option α) = .bad := rfl
/-- what a value is read as -/
def peek (m : Store) : Val → Option D
  | .d x => some x
  | .cell n => match m[n]? with
    | some (.lst ds) => some (.lst ds)
    | some (.dct ks vs) => some (.dct ks vs)
    | _ => none
def Val.data : Val → Option D
  | .d x => some x
  | .cell _ => none
def Val.datas : List Val → Option (List D)
  | [] => some []
  | v :: vs => v.data.bind fun d => (Val.datas vs).map fun ds => d :: ds
def peeks (m : Store) : List Val → Option (List D)
  | [] => some []
  | v :: vs => (peek m v).bind fun d => (peeks m vs).map fun ds => d :: ds
/-! ### operations on data -/
def eqPy (a b : D) : Option Bool := match a.py, b.py with
  | some x, some y => if SeqAt.shaped x && SeqAt.shaped y then some (PyData.eqv x y) else none
  | _, _ => none
def eqN (a b : D) : Option Bool := match a, b with
  | .str x, .str y => some (x == y)
  | a, b => eqPy a b
def D.isDct : D → Bool
  | .dct _ _ => true
  | _ => false
/-- where a dict is one of both, or the empty tuple the second -/
def eqO (a b : D) : Option Bool := match a, b with
  | .dct ks _, .dct ks' _ => if ks.isEmpty || ks'.isEmpty then some (ks.isEmpty && ks'.isEmpty) else none
  | .tup ds, .tup [] => some ds.isEmpty
  | .lst ds, .lst [] => some ds.isEmpty
  | a, b => if a.isDct || b.isDct then some false else none
def eqD (a b : D) : Option Bool := match eqN a b with
  | some k => some k
  | none => eqO a b
def scalD : D → Bool
  | .non => true
  | .bl _ => true
  | .int _ => true
  | .str _ => true
  | _ => false
def eqS : D → D → Bool
  | .non, .non => true
  | .bl a, .bl b => a == b
  | .bl a, .int j => (if a then 1 else 0) == j
  | .int i, .bl b => i == (if b then 1 else 0)
  | .int i, .int j => i == j
  | .str x, .str y => x == y
  | _, _ => false
def small (n : Nat) : Bool := decide (n ≤ sizeLine)
def cmul (i j : Int) : Bool := (decide (-(2 ^ 64) < i) && decide (i < 2 ^ 64)) || (decide (-(2 ^ 64) < j) && decide (j < 2 ^ 64)) || decide (i.natAbs.log2 + j.natAbs.log2 < 1000000)
def binD : Operator → D → D → Option D
  | .Add, .int i, .int j => some (.int (i + j))
  | .Add, .str a, .str b => if small (a.length + b.length) then some (.str (a ++ b)) else none
  | .Add, .tup a, .tup b => if small (a.length + b.length) then some (.tup (a ++ b)) else none
  | .Add, .lst a, .lst b => if small (a.length + b.length) then some (.lst (a ++ b)) else none
  | .Sub, .int i, .int j => some (.int (i - j))
  | .Mult, .tup ds, .int k => if decide (ds ≠ []) && (decide (2 ≤ k) && (decide (k ≤ 1000) && decide (ds.length ≤ 1000))) then some (.tup (List.replicate k.toNat ds).flatten) else none
  | .Mult, .int i, .int j => if cmul i j then some (.int (i * j)) else none
  | .FloorDiv, .int i, .int j => if decide (j ≠ 0) && decide (j.natAbs < 1073741824) then some (.int (i.fdiv j)) else none
  | .Mod, .int i, .int j => if j ≠ 0 then some (.int (i.fmod j)) else none
  | .Pow, .int i, .int j => if decide (0 ≤ j) && decide ((Builtin.Int.intBits i : Int) * j ≤ 2 ^ 27) then some (.int (i ^ j.toNat)) else none
  | _, _, _ => none
def cutD {α : Type} (xs : List α) (lo hi : Option Int) : List α := (xs.drop (HT.sIx xs.length 0 lo)).take (HT.sIx xs.length xs.length hi - HT.sIx xs.length 0 lo)
def D.isNon : D → Bool
  | .non => true
  | _ => false
def cmpD : CmpOp → D → D → Option Bool
  | .Eq, a, b => eqD a b
  | .NotEq, a, b => (eqN a b).map not
  | .Lt, .int i, .int j => some (decide (i < j))
  | .LtE, .int i, .int j => some (decide (i ≤ j))
  | .Gt, .int i, .int j => some (decide (j < i))
  | .GtE, .int i, .int j => some (decide (j ≤ i))
  | .Lt, .str a, .str b => some (decide (a.cps.toList < b.cps.toList))
  | .LtE, .str a, .str b => some (!decide (b.cps.toList < a.cps.toList))
  | .Gt, .str a, .str b => some (decide (b.cps.toList < a.cps.toList))
  | .GtE, .str a, .str b => some (!decide (a.cps.toList < b.cps.toList))
  | .Is, a, .non => some a.isNon
  | .IsNot, a, .non => some (!a.isNon)
  | .Is, .bl a, .bl b => some (a == b)
  | .IsNot, .bl a, .bl b => some (!(a == b))
  | .In, a, .tup ds => if ds.all scalD then some (scalD a && ds.any fun z => eqS z a) else none
  | .NotIn, a, .tup ds => if ds.all scalD then some (!(scalD a && ds.any fun z => eqS z a)) else none
  | .In, a, .lst ds => if ds.all scalD then some (scalD a && ds.any fun z => eqS z a) else none
  | .NotIn, a, .lst ds => if ds.all scalD then some (!(scalD a && ds.any fun z => eqS z a)) else none
  | .In, .str ⟨⟨[c]⟩⟩, .str z => some (decide (c ∈ z.cps.toList))
  | .NotIn, .str ⟨⟨[c]⟩⟩, .str z => some (!decide (c ∈ z.cps.toList))
  | _, _, _ => none
def truD : D → Option Bool
  | .non => some false
  | .bl b => some b
  | .int i => some (i != 0)
  | .str s => if small s.length then some (s.length != 0) else none
  | .tup ds => some (!ds.isEmpty)
  | .lst ds => some (!ds.isEmpty)
  | .dct _ _ => none
def lenD : D → Option Nat
  | .str s => if small s.length then some s.length else none
  | .tup ds => some ds.length
  | .lst ds => some ds.length
  | _ => none
def tyD : D → String
  | .non => "NoneType"
  | .bl _ => "bool"
  | .int _ => "int"
  | .str _ => "str"
  | .tup _ => "tuple"
  | .lst _ => "list"
  | .dct _ _ => "dict"
inductive Ty where
  | bool | int | str | tuple | list | dict
def Ty.name : Ty → String
  | .bool => "bool" | .int => "int" | .str => "str" | .tuple => "tuple" | .list => "list" | .dict => "dict"
def isiD : D → Ty → Bool
  | .bl _, .bool => true
  | .bl _, .int => true
  | .int _, .int => true
  | .str _, .str => true
  | .tup _, .tuple => true
  | .lst _, .list => true
  | .dct _ _, .dict => true
  | _, _ => false
def idxD : D → D → Option D
  | .lst ds, .int i => L2.atI ds i
  | .tup ds, .int i => L2.atI ds i
  | .str s, .int i => if small s.length then (L2.atI s.cps.toList i).map fun c => .str ⟨#[c]⟩ else none
  | _, _ => none
def sliD : D → Option Int → Option Int → Option D
  | .lst ds, lo, hi => some (.lst (cutD ds lo hi))
  | .tup ds, lo, hi => some (.tup (cutD ds lo hi))
  | .str s, lo, hi => if small s.length then some (.str (L2.cutS s lo hi)) else none
  | _, _, _ => none
def revD : D → Option D
  | .lst ds => some (.lst ds.reverse)
  | _ => none
def revTD : D → Option D
  | .tup ds => some (.tup ds.reverse)
  | _ => none
def itemsD : D → Option (List D)
  | .lst ds => some ds
  | .tup ds => some ds
  | _ => none
inductive B1 where
  | len | abs | all | any | int | str | repr | tuple | lenset | dict | dlen | drepr
inductive B2 where
  | max | min
inductive M1 where
  | join | split
def boolsD : List D → Option (List Bool)
  | [] => some []
  | .bl b :: ds => (boolsD ds).map fun bs => b :: bs
  | _ :: _ => none
def strsD : List D → Option (List Str)
  | [] => some []
  | .str b :: ds => (strsD ds).map fun bs => b :: bs
  | _ :: _ => none
def seqD : D → Option (List D)
  | .tup ds => some ds
  | .lst ds => some ds
  | .str s => if small s.length then some (s.cps.toList.map fun c => .str ⟨#[c]⟩) else none
  | _ => none
def reprD (d : D) : Option Str := d.py.bind fun p => if p.showable && !p.hasDict && decide (p.depth ≤ 64) && small p.shown.length then some p.shown else none
mutual
def noBox : PyData → Bool
  | .list _ => false
  | .dict _ => false
  | .tuple xs => noBoxes xs
  | .none => true
  | .bool _ => true
  | .int _ => true
  | .str _ => true
def noBoxes : List PyData → Bool
  | [] => true
  | x :: xs => noBox x && noBoxes xs
end
/-- the text of a dict with keys that are texts and values without lists and dicts -/
def dreprD : D → Option Str
  | .dct ks vs => (strsD ks).bind fun xs => (D.pys vs).bind fun ps => if xs.length = ps.length ∧ noBoxes ps = true ∧ (PyData.dict ((xs.map .str).zip ps)).showable = true ∧ (PyData.dict ((xs.map .str).zip ps)).depth ≤ 64 ∧ small (PyData.dict ((xs.map .str).zip ps)).shown.length = true then some (PyData.dict ((xs.map .str).zip ps)).shown else none
  | _ => none
def dedupS : List Str → List Str
  | [] => []
  | x :: xs => if x ∈ xs then dedupS xs else x :: dedupS xs
def keyOfD : D → Option L2.Key
  | .int i => some (.inl i)
  | .str x => some (.inr x)
  | _ => none
def pairsD : List D → Option (List (L2.Key × D))
  | [] => some []
  | .tup [k, v] :: ds => (keyOfD k).bind fun k => (pairsD ds).map fun r => (k, v) :: r
  | _ :: _ => none
def keyD : L2.Key → D
  | .inl i => .int i
  | .inr x => .str x
def dgetK (k : L2.Key) : List D → List D → Option D
  | kd :: ks, v :: vs => if keyOfD kd = some k then some v else dgetK k ks vs
  | _, _ => none
def dgetD : D → D → Option D
  | .dct ks vs, k => (keyOfD k).bind fun k => dgetK k ks vs
  | _, _ => none
def dinD (neg : Bool) : D → D → Option D
  | k, .dct ks vs => (keyOfD k).map fun k => .bl (if neg then !(dgetK k ks vs).isSome else (dgetK k ks vs).isSome)
  | _, _ => none
def valsD : D → Option (List D)
  | .dct ks vs => if ks.length = vs.length then some vs else none
  | _ => none
def b1D : B1 → D → Option D
  | .len, d => (lenD d).map fun n => .int (n : Int)
  | .abs, .int i => some (.int (if i < 0 then -i else i))
  | .all, .lst ds => (boolsD ds).map fun bs => .bl (bs.all id)
  | .any, .lst ds => (boolsD ds).map fun bs => .bl (bs.any id)
  | .int, .int i => some (.int i)
  | .int, .bl b => some (.int (if b then 1 else 0))
  | .str, .int i => if i.natAbs.log2 < 1920 then some (.str (toString i)) else none
  | .repr, d => (reprD d).map .str
  | .tuple, .lst ds => some (.tup ds)
  | .tuple, .tup ds => some (.tup ds)
  | .dict, .lst ds => (pairsD ds).bind fun ps => if (ps.map (·.1)).Nodup ∧ ps.length ≤ sizeLine then some (.dct (ps.map fun p => keyD p.1) (ps.map (·.2))) else none
  | .drepr, d => (dreprD d).map .str
  | .dlen, .dct ks _ => some (.int (ks.length : Int))
  | .lenset, .tup ds => (strsD ds).bind fun xs => if xs.length < 64 then some (.int ((dedupS xs).length : Int)) else none
  | .lenset, .lst ds => (strsD ds).bind fun xs => if xs.length < 64 then some (.int ((dedupS xs).length : Int)) else none
  | _, _ => none
def b2D : B2 → D → D → Option D
  | .max, .int i, .int j => some (.int (if j > i then j else i))
  | .min, .int i, .int j => some (.int (if j < i then j else i))
  | _, _, _ => none
def m1D : M1 → Str → D → Option D
  | .join, a, .lst ds => (strsD ds).bind fun ys => if (ys.map (·.length)).sum + ys.length * a.length ≤ 16777216 then some (.str (Txt.join a ys)) else none
  | .join, a, .tup ds => (strsD ds).bind fun ys => if (ys.map (·.length)).sum + ys.length * a.length ≤ 16777216 then some (.str (Txt.join a ys)) else none
  | .split, a, .str b => if (b.length == 0) = false ∧ a.length + 2 ≤ sizeLine then some (.lst ((Txt.split a b).map .str)) else none
  | _, _, _ => none
/-- what is walked, item by item -/
def ltS (a b : Str) : Bool := decide (a.cps.toList < b.cps.toList)
def leS (a b : Str) : Bool := !decide (b.cps.toList < a.cps.toList)
def insS (x : Str) : List Str → List Str
  | [] => [x]
  | y :: ys => if leS x y = true then x :: y :: ys else y :: insS x ys
def sortS : List Str → List Str
  | [] => []
  | x :: xs => insS x (sortS xs)
inductive LB where
  | list | sorted | sset
def ssetD (ds : List D) : Option (List D) := (strsD ds).bind fun xs => if xs.length < 64 then some ((sortS (dedupS xs)).map .str) else none
def lbD : LB → D → Option (List D)
  | .list, d => seqD d
  | .sset, d => match d with
    | .lst ds => ssetD ds
    | .tup ds => ssetD ds
    | _ => none
  | .sorted, d => match d with
    | .lst ds => (strsD ds).bind fun xs => if xs.length < 64 then some ((sortS xs).map .str) else none
    | .tup ds => (strsD ds).bind fun xs => if xs.length < 64 then some ((sortS xs).map .str) else none
    | .dct ks _ => (strsD ks).bind fun xs => if xs.length < 64 then some ((sortS xs).map .str) else none
    | _ => none
inductive Tg where
  | name (i : Nat) | tup (is : List Nat)
def setAll : List Nat → List D → Ev → Option Ev
  | [], [], ρ => some ρ
  | i :: is, d :: ds, ρ => setAll is ds (ρ.set i (some (.d d)))
  | _, _, _ => none
def bindT : Tg → D → Ev → Option Ev
  | .name i, d, ρ => some (ρ.set i (some (.d d)))
  | .tup is, .tup ds, ρ => setAll is ds ρ
  | _, _, _ => none
mutual
inductive E where
  | var (i : Nat)
  | con (d : D)
  | glob (x : Str) (i : Nat)
  | bin (op : Operator) (a b : E)
  | neg (a : E)
  | not (a : E)
  | cmp (op : CmpOp) (a b : E)
  | cmp2 (op op' : CmpOp) (a b c : E)
  | bop (isAnd : Bool) (es : Es)
  | ite (c a b : E)
  | tup (es : Es)
  | lm (mt : Bool) (l : L)
  | dict0
  | dget (a k : E)
  | din (neg : Bool) (k a : E)
  | dsp (ks : List Str) (vs : Es)
  | dspE (kvs : Es)
  | idx (a i : E)
  | sli (a : E) (lo hi : O)
  | rev (a : E)
  | revT (a : E)
  | dictM
  | isi (a : E) (t : Ty)
  | b1 (f : B1) (a : E)
  | b2 (f : B2) (a b : E)
  | m1 (f : M1) (a b : E)
  | app (a b : E)
  | pop1 (a b : E)
  | call (i : Nat) (es : Es)
  | told (x : Str) (hds : List (Str × List Str × Str)) (fin : Str) (e : E)
inductive L where
  | disp (es : Es)
  | lc (it : It) (tg : Tg) (c : O) (elt : E)
  | blt (f : LB) (a : E)
  | zipl (a b : E)
  | rep (l : L) (n : Nat)
  | cat (a b : E)
inductive It where
  | seq (e : E)
  | rng1 (a : E)
  | enum (a : E)
  | enumT (a : E)
  | zip (a b : E)
  | vals (a : E)
inductive Es where
  | nil | cons (e : E) (es : Es) | star (e : E) (es : Es)
inductive O where
  | no | yes (e : E)
end
mutual
inductive S where
  | asg (i : Nat) (e : E)
  | par (is : List Nat) (es : Es)
  | unp (is : List Nat) (e : E)
  | unpS (i r : Nat) (e : E)
  | mtch (e : E) (cs : Cs)
  | setIx (a i e : E)
  | setD (a i e : E)
  | unpL (is : List Nat) (e : E)
  | aug (i : Nat) (op : Operator) (e : E)
  | ife (c : E) (t f : Ss)
  | forr (it : It) (tg : Tg) (b : Ss)
  | whil (c : E) (b : Ss)
  | ret (e : E)
  | retN
  | expr (e : E)
  | pass | brk | cont | never
  | rais (c : Str)
inductive Ss where
  | nil | cons (s : S) (ss : Ss) | frz (i : Nat) (ss : Ss)
inductive Cs where
  | nil | cons (p : Option Str) (b : Ss) (cs : Cs) | seq (is : List Nat) (g : O) (b : Ss) (cs : Cs)
end
abbrev Fns := Nat → List Val → Store → Out Val
def allocL (mt : Bool) (ds : List D) (m : Store) : Out Val := if mt then .ok (.cell m.length) (m ++ [.lst ds]) else .ok (.d (.lst ds)) m
/-- the items of a list comprehension, one by one -/
def goLc (f : D → Store → Out (Option D)) : List D → List D → Store → Out (List D)
  | [], acc, m => .ok acc m
  | d :: ds, acc, m => match f d m with
    | .ok (some y) m1 => if acc.length < sizeLine then goLc f ds (acc ++ [y]) m1 else .bad
    | .ok none m1 => goLc f ds acc m1
    | _ => .bad
def zipD : List D → List D → List D
  | a :: as, b :: bs => .tup [a, b] :: zipD as bs
  | _, _ => []
def enumD (n : Nat) : List D → List D
  | [] => []
  | a :: as => .tup [.int (n : Int), a] :: enumD (n + 1) as
def rngD (n : Nat) : List D := (List.range n).map fun i : Nat => .int (i : Int)
def truV (x : Val) (m : Store) : Out Bool := (lift m (peek m x)).bind fun d m => lift m (truD d)
/-! ### the evaluator's parts -/
abbrev Ex := Ev → Store → Out Val
def ixV (v : Val) : Option (Option Int) := match v with
  | .d (.int i) => some (some i)
  | _ => none
def evVar (i : Nat) : Ex := fun ρ m => match ρ[i]? with
  | some (some v) => .ok v m
  | _ => .bad
def evCon (d : D) : Ex := fun _ m => .ok (.d d) m
def ev1 (f : D → Option D) (oa : Ex) : Ex := fun ρ m => (oa ρ m).bind fun x m => (lift m (peek m x)).bind fun x m => (lift m (f x)).bind fun z m => .ok (.d z) m
def ev2 (f : D → D → Option D) (oa ob : Ex) : Ex := fun ρ m => (oa ρ m).bind fun x m => (ob ρ m).bind fun y m => (lift m (peek m x)).bind fun x m => (lift m (peek m y)).bind fun y m => (lift m (f x y)).bind fun z m => .ok (.d z) m
def negD : D → Option D
  | .int i => some (.int (-i))
  | _ => none
def cmpV (op : CmpOp) (a b : D) : Option D := (cmpD op a b).map .bl
def evT (oa : Ex) : Ev → Store → Out Bool := fun ρ m => (oa ρ m).bind truV
def evNot (oa : Ex) : Ex := fun ρ m => (oa ρ m).bind fun x m => (truV x m).bind fun b m => .ok (.d (.bl (!b))) m
def evChain (op op' : CmpOp) (oa ob oc : Ex) : Ex := fun ρ m => (oa ρ m).bind fun x m => (ob ρ m).bind fun y m => (lift m (peek m x)).bind fun x m => (lift m (peek m y)).bind fun y' m => (lift m (cmpD op x y')).bind fun z m =>
  if z = true then (oc ρ m).bind fun w m => (lift m (peek m y)).bind fun y m => (lift m (peek m w)).bind fun w m => (lift m (cmpV op' y w)).bind fun z m => .ok (.d z) m else .ok (.d (.bl false)) m
def evAnd (oa ob : Ex) : Ex := fun ρ m => (oa ρ m).bind fun x m => (truV x m).bind fun t m => if t = true then ob ρ m else .ok x m
def evOr (oa ob : Ex) : Ex := fun ρ m => (oa ρ m).bind fun x m => (truV x m).bind fun t m => if t = true then .ok x m else ob ρ m
def evIte (oc oa ob : Ex) : Ex := fun ρ m => (evT oc ρ m).bind fun t m => if t = true then oa ρ m else ob ρ m
def evTup (oe : Ev → Store → Out (List Val)) : Ex := fun ρ m => (oe ρ m).bind fun vs m => (lift m (Val.datas vs)).bind fun ds m => if small ds.length then .ok (.d (.tup ds)) m else .bad
def evDisp (oe : Ev → Store → Out (List Val)) : Ev → Store → Out (List D) := fun ρ m => (oe ρ m).bind fun vs m => (lift m (Val.datas vs)).bind fun ds m => if small ds.length then .ok ds m else .bad
def evDsp (ks : List Str) (oe : Ev → Store → Out (List Val)) : Ex := fun ρ m => (oe ρ m).bind fun vs m => (lift m (Val.datas vs)).bind fun ds m => if ks.Nodup ∧ ks.length = ds.length ∧ 0 < ks.length ∧ ks.length ≤ 15 then .ok (.d (.dct (ks.map .str) ds)) m else .bad
def pairUp {α : Type} : List α → Option (List (α × α))
  | [] => some []
  | k :: v :: r => (pairUp r).map fun l => (k, v) :: l
  | _ => none
def evDspE (oe : Ev → Store → Out (List Val)) : Ex := fun ρ m => (oe ρ m).bind fun vs m => (lift m (Val.datas vs)).bind fun ds m => (lift m (pairUp ds)).bind fun kvs m => (lift m (strsD (kvs.map (·.1)))).bind fun ks m => if ks.Nodup ∧ 0 < ks.length ∧ ks.length ≤ 15 then .ok (.d (.dct (ks.map .str) (kvs.map (·.2)))) m else .bad
def evDictM : Ex := fun _ m => .ok (.cell m.length) (m ++ [.dct [] []])
def evLm (mt : Bool) (ol : Ev → Store → Out (List D)) : Ex := fun ρ m => (ol ρ m).bind fun ds m => allocL mt ds m
def evSli (oa : Ex) (ol oh : Ev → Store → Out (Option Int)) : Ex := fun ρ m => (oa ρ m).bind fun x m => (ol ρ m).bind fun l m => (oh ρ m).bind fun h m => (lift m (peek m x)).bind fun x m => (lift m (sliD x l h)).bind fun z m => .ok (.d z) m
def appC (n : Nat) (d : D) (m : Store) : Out Val := match m[n]? with
  | some (.lst ds) => if ds.length < sizeLine then .ok (.d .non) (m.set n (.lst (ds ++ [d]))) else .bad
  | _ => .bad
def cellL (m : Store) : Val → Option Nat
  | .cell n => (match m[n]? with
    | some (.lst _) => some n
    | _ => none)
  | _ => none
def strV : Val → Option Str
  | .d (.str s) => some s
  | _ => none
def intV : Val → Option Int
  | .d (.int i) => some i
  | _ => none
def evM (f : Str → D → Option D) (oa ob : Ex) : Ex := fun ρ m => (oa ρ m).bind fun x m => (lift m (strV x)).bind fun s m => (ob ρ m).bind fun y m => (lift m (peek m y)).bind fun y m => (lift m (f s y)).bind fun z m => .ok (.d z) m
def evApp (oa ob : Ex) : Ex := fun ρ m => (oa ρ m).bind fun x m => (lift m (cellL m x)).bind fun n m => (ob ρ m).bind fun y m => (lift m y.data).bind fun d m => appC n d m
def popC (n : Nat) (i : Int) (m : Store) : Out Val := match m[n]? with
  | some (.lst ds) => (match L2.ixN ds.length i with
    | some j => (match ds[j]? with
      | some d => .ok (.d d) (m.set n (.lst (ds.eraseIdx j)))
      | none => .bad)
    | none => .bad)
  | _ => .bad
def evPop1 (oa ob : Ex) : Ex := fun ρ m => (oa ρ m).bind fun x m => (lift m (cellL m x)).bind fun n m => (ob ρ m).bind fun y m => (lift m (intV y)).bind fun i m => popC n i m
def evCall (f : List Val → Store → Out Val) (oe : Ev → Store → Out (List Val)) : Ex := fun ρ m => (oe ρ m).bind fun vs m => f vs m
/-- x(lambda: e), where x tells by a text which error it met -/
def toldX (hds : List (Str × List Str × Str)) (x : Exc) (m : Store) : Out Val := match hds with
  | [] => .bad
  | h :: hds => if h.2.1.contains x.cls then .ok (.d (.str h.2.2)) m else toldX hds x m
def evTold (hds : List (Str × List Str × Str)) (fin : Str) (oe : Ex) : Ex := fun ρ m => match oe ρ m with
  | .ok _ m' => .ok (.d (.str fin)) m'
  | .exc x m' => toldX hds x m'
  | .bad => .bad
def evNil : Ev → Store → Out (List Val) := fun _ m => .ok [] m
def evCons (oa : Ex) (oe : Ev → Store → Out (List Val)) : Ev → Store → Out (List Val) := fun ρ m => (oa ρ m).bind fun v m => (oe ρ m).bind fun vs m => .ok (v :: vs) m
def evStar (oa : Ex) (oe : Ev → Store → Out (List Val)) : Ev → Store → Out (List Val) := fun ρ m => (oa ρ m).bind fun v m => (lift m v.data).bind fun d m => (lift m (itemsD d)).bind fun ds m => (oe ρ m).bind fun vs m => .ok (ds.map .d ++ vs) m
def evNoPart : Ev → Store → Out (Option Int) := fun _ m => .ok none m
def evPart (oa : Ex) : Ev → Store → Out (Option Int) := fun ρ m => (oa ρ m).bind fun v m => lift m (ixV v)
def evYes : Ev → Store → Out Bool := fun _ m => .ok true m
def lcTurn (tg : Tg) (oc : Ev → Store → Out Bool) (oe : Ex) (ρ : Ev) (d : D) (m : Store) : Out (Option D) := (lift m (bindT tg d ρ)).bind fun ρ' m => (oc ρ' m).bind fun t m => if t = true then (oe ρ' m).bind fun v m => (lift m v.data).bind fun d m => .ok (some d) m else .ok none m
def evLc (oi : Ev → Store → Out (List D)) (tg : Tg) (oc : Ev → Store → Out Bool) (oe : Ex) : Ev → Store → Out (List D) := fun ρ m => (oi ρ m).bind fun ds m => goLc (lcTurn tg oc oe ρ) ds [] m
def evLb (f : LB) (oa : Ex) : Ev → Store → Out (List D) := fun ρ m => (oa ρ m).bind fun x m => (lift m (peek m x)).bind fun d m => lift m (lbD f d)
def itSeq (oa : Ex) : Ev → Store → Out (List D) := fun ρ m => (oa ρ m).bind fun x m => (lift m x.data).bind fun d m => lift m (seqD d)
def itRng1 (oa : Ex) : Ev → Store → Out (List D) := fun ρ m => (oa ρ m).bind fun x m => match x with
  | .d (.int n) => if decide (-(2 ^ 62) ≤ n) && decide (n < 2 ^ 62) then .ok (rngD n.toNat) m else .bad
  | _ => .bad
def itEnum (oa : Ex) : Ev → Store → Out (List D) := fun ρ m => (oa ρ m).bind fun x m => match x with
  | .d (.lst ds) => .ok (enumD 0 ds) m
  | _ => .bad
def itEnumT (oa : Ex) : Ev → Store → Out (List D) := fun ρ m => (oa ρ m).bind fun x m => match x with
  | .d (.tup ds) => .ok (enumD 0 ds) m
  | _ => .bad
def itZip (oa ob : Ex) : Ev → Store → Out (List D) := fun ρ m => (oa ρ m).bind fun x m => (ob ρ m).bind fun y m => match x, y with
  | .d (.lst xs), .d (.lst ys) => .ok (zipD xs ys) m
  | _, _ => .bad
def evRep (n : Nat) (ol : Ev → Store → Out (List D)) : Ev → Store → Out (List D) := fun ρ m => (ol ρ m).bind fun ds m => if decide (n ≤ 1000) && decide (ds.length ≤ 1000) then .ok (List.replicate n ds).flatten m else .bad
def catD : D → D → Option (List D)
  | .lst a, .lst b => if small (a.length + b.length) then some (a ++ b) else none
  | _, _ => none
def evCat (oa ob : Ex) : Ev → Store → Out (List D) := fun ρ m => (oa ρ m).bind fun x m => (ob ρ m).bind fun y m => (lift m (peek m x)).bind fun x m => (lift m (peek m y)).bind fun y m => lift m (catD x y)
def itVals (oa : Ex) : Ev → Store → Out (List D) := fun ρ m => (oa ρ m).bind fun x m => (lift m x.data).bind fun d m => lift m (valsD d)
variable (G : List D) (Φ : Fns)
mutual
def evalE : E → Ev → Store → Out Val
  | .var i => evVar i
  | .con d => evCon d
  | .glob _ i => evCon (G.getD i .non)
  | .bin op a b => ev2 (binD op) (evalE a) (evalE b)
  | .neg a => ev1 negD (evalE a)
  | .not a => evNot (evalE a)
  | .cmp op a b => ev2 (cmpV op) (evalE a) (evalE b)
  | .cmp2 op op' a b c => evChain op op' (evalE a) (evalE b) (evalE c)
  | .bop k es => evalB k es
  | .ite c a b => evIte (evalE c) (evalE a) (evalE b)
  | .tup es => evTup (evalEs es)
  | .lm mt l => evLm mt (evalL l)
  | .dict0 => evCon (.dct [] [])
  | .dget a k => ev2 dgetD (evalE a) (evalE k)
  | .din neg k a => ev2 (dinD neg) (evalE k) (evalE a)
  | .dsp ks vs => evDsp ks (evalEs vs)
  | .dspE kvs => evDspE (evalEs kvs)
  | .idx a i => ev2 idxD (evalE a) (evalE i)
  | .sli a lo hi => evSli (evalE a) (evalO lo) (evalO hi)
  | .rev a => ev1 revD (evalE a)
  | .revT a => ev1 revTD (evalE a)
  | .dictM => evDictM
  | .isi a t => ev1 (fun d => some (.bl (isiD d t))) (evalE a)
  | .b1 f a => ev1 (b1D f) (evalE a)
  | .b2 f a b => ev2 (b2D f) (evalE a) (evalE b)
  | .m1 f a b => evM (m1D f) (evalE a) (evalE b)
  | .app a b => evApp (evalE a) (evalE b)
  | .pop1 a b => evPop1 (evalE a) (evalE b)
  | .call i es => evCall (Φ i) (evalEs es)
  | .told _ hds fin e => evTold hds fin (evalE e)
def evalB (k : Bool) : Es → Ev → Store → Out Val
  | .nil => fun _ _ => .bad
  | .cons e .nil => evalE e
  | .cons e (.cons f es) => if k then evAnd (evalE e) (evalB k (.cons f es)) else evOr (evalE e) (evalB k (.cons f es))
  | .cons _ (.star _ _) => fun _ _ => .bad
  | .star _ _ => fun _ _ => .bad
def evalEs : Es → Ev → Store → Out (List Val)
  | .nil => evNil
  | .cons e es => evCons (evalE e) (evalEs es)
  | .star e es => evStar (evalE e) (evalEs es)
def evalO : O → Ev → Store → Out (Option Int)
  | .no => evNoPart
  | .yes e => evPart (evalE e)
def evalC : O → Ev → Store → Out Bool
  | .no => evYes
  | .yes e => evT (evalE e)
def evalL : L → Ev → Store → Out (List D)
  | .disp es => evDisp (evalEs es)
  | .lc it tg c e => evLc (evalIt it) tg (evalC c) (evalE e)
  | .blt f a => evLb f (evalE a)
  | .zipl a b => itZip (evalE a) (evalE b)
  | .rep l n => evRep n (evalL l)
  | .cat a b => evCat (evalE a) (evalE b)
def evalIt : It → Ev → Store → Out (List D)
  | .seq e => itSeq (evalE e)
  | .rng1 a => itRng1 (evalE a)
  | .enum a => itEnum (evalE a)
  | .enumT a => itEnumT (evalE a)
  | .zip a b => itZip (evalE a) (evalE b)
  | .vals a => itVals (evalE a)
end
/-- how a statement ends -/
inductive Fl where
  | nx (ρ : Ev) | ret (v : Val) | bk (ρ : Ev) | ct (ρ : Ev)
def goFor (f : D → Ev → Store → Out Fl) : List D → Ev → Store → Out Fl
  | [], ρ, m => .ok (.nx ρ) m
  | d :: ds, ρ, m => (f d ρ m).bind fun r m => match r with
    | .nx ρ => goFor f ds ρ m
    | .ct ρ => goFor f ds ρ m
    | .bk ρ => .ok (.nx ρ) m
    | .ret v => .ok (.ret v) m
def goWhile (c : Ev → Store → Out Bool) (b : Ev → Store → Out Fl) : Nat → Ev → Store → Out Fl
  | 0, _, _ => .bad
  | n + 1, ρ, m => (c ρ m).bind fun t m => if t then (b ρ m).bind fun r m => match r with
    | .nx ρ => goWhile c b n ρ m
    | .ct ρ => goWhile c b n ρ m
    | .bk ρ => .ok (.nx ρ) m
    | .ret v => .ok (.ret v) m
    else .ok (.nx ρ) m
abbrev Sx := Ev → Store → Out Fl
def exAsg (i : Nat) (oe : Ex) : Sx := fun ρ m => (oe ρ m).bind fun v m => .ok (.nx (ρ.set i (some v))) m
def setVs : List Nat → List Val → Ev → Option Ev
  | [], [], ρ => some ρ
  | i :: is, v :: vs, ρ => setVs is vs (ρ.set i (some v))
  | _, _, _ => none
def exPar (is : List Nat) (oe : Ev → Store → Out (List Val)) : Sx := fun ρ m => (oe ρ m).bind fun vs m => (lift m (setVs is vs ρ)).bind fun ρ m => .ok (.nx ρ) m
def exUnp (is : List Nat) (oe : Ex) : Sx := fun ρ m => (oe ρ m).bind fun v m => match v with
  | .d d => (lift m (bindT (.tup is) d ρ)).bind fun ρ m => .ok (.nx ρ) m
  | _ => .bad
def exUnpS (i r : Nat) (oe : Ex) : Sx := fun ρ m => (oe ρ m).bind fun v m => match v with
  | .d (.tup (d :: ds)) => .ok (.nx ((ρ.set i (some (.d d))).set r (some (.d (.lst ds))))) m
  | _ => .bad
/-- a case that says no goes to the next -/
def csNil : Val → Sx := fun _ ρ m => .ok (.nx ρ) m
def csAny (ob : Sx) : Val → Sx := fun _ => ob
def csStr (s : Str) (ob : Sx) (oc : Val → Sx) : Val → Sx := fun v ρ m => match v with
  | .d (.str t) => (lift m (eqD (.str t) (.str s))).bind fun b m => if b = true then ob ρ m else oc v ρ m
  | _ => .bad
def csSeq (is : List Nat) (og : Ev → Store → Out Bool) (ob : Sx) (oc : Val → Sx) : Val → Sx := fun v ρ m => match v with
  | .d (.tup ds) => if ds.length = is.length then (match setAll is ds ρ with
    | some ρ' => (og ρ' m).bind fun t m => if t = true then ob ρ' m else oc v ρ' m
    | none => .bad) else oc v ρ m
  | _ => .bad
def exMtch (oe : Ex) (oc : Val → Sx) : Sx := fun ρ m => (oe ρ m).bind fun v m => oc v ρ m
def setC (n : Nat) (k : Int) (d : D) (m : Store) : Option Store := match m[n]? with
  | some (.lst ds) => (L2.ixN ds.length k).map fun j => m.set n (.lst (ds.set j d))
  | _ => none
def exSetIx (oa oi oe : Ex) : Sx := fun ρ m => (oe ρ m).bind fun v m => (oa ρ m).bind fun x m => (oi ρ m).bind fun y m => match x, y, v with
  | .cell n, .d (.int k), .d d => (match setC n k d m with
    | some m' => .ok (.nx ρ) m'
    | none => .bad)
  | _, _, _ => .bad
def putC (n : Nat) (k : L2.Key) (d : D) (m : Store) : Option Store := match m[n]? with
  | some (.dct ks vs) => if dgetK k ks vs = none ∧ ks.length = vs.length ∧ ks.length < sizeLine then some (m.set n (.dct (ks ++ [keyD k]) (vs ++ [d]))) else none
  | _ => none
def exSetD (oa oi oe : Ex) : Sx := fun ρ m => (oe ρ m).bind fun v m => (oa ρ m).bind fun x m => (oi ρ m).bind fun y m => match x, y, v with
  | .cell n, .d k, .d d => (match (keyOfD k).bind fun k => putC n k d m with
    | some m' => .ok (.nx ρ) m'
    | none => .bad)
  | _, _, _ => .bad
def exUnpL (is : List Nat) (oe : Ex) : Sx := fun ρ m => (oe ρ m).bind fun v m => match v with
  | .d (.lst ds) => (lift m (setAll is ds ρ)).bind fun ρ m => .ok (.nx ρ) m
  | _ => .bad
def augD (op : Operator) : D → D → Option D
  | .int a, .int b => (match op with
    | .Add => some (.int (a + b))
    | .Sub => some (.int (a - b))
    | _ => none)
  | _, _ => none
def exAug (i : Nat) (op : Operator) (oe : Ex) : Sx := fun ρ m => (evVar i ρ m).bind fun x m => (oe ρ m).bind fun y m => match x, y with
  | .d a, .d b => (lift m (augD op a b)).bind fun z m => .ok (.nx (ρ.set i (some (.d z)))) m
  | _, _ => .bad
def exIf (oc : Ev → Store → Out Bool) (ot of : Sx) : Sx := fun ρ m => (oc ρ m).bind fun b m => if b = true then ot ρ m else of ρ m
def exFor (oi : Ev → Store → Out (List D)) (tg : Tg) (ob : Sx) : Sx := fun ρ m => (oi ρ m).bind fun ds m => goFor (fun d ρ m => (lift m (bindT tg d ρ)).bind fun ρ m => ob ρ m) ds ρ m
def exRet (oe : Ex) : Sx := fun ρ m => (oe ρ m).bind fun v m => .ok (.ret v) m
def exDrop (oe : Ex) : Sx := fun ρ m => (oe ρ m).bind fun _ m => .ok (.nx ρ) m
def exSeq (os ot : Sx) : Sx := fun ρ m => (os ρ m).bind fun r m => match r with
  | .nx ρ => ot ρ m
  | r => .ok r m
def exNext : Sx := fun ρ m => .ok (.nx ρ) m
def exFrz (i : Nat) (ot : Sx) : Sx := fun ρ m => match ρ[i]? with
  | some (some (.cell n)) => (match m[n]? with
    | some (.lst ds) => ot (ρ.set i (some (.d (.lst ds)))) (m.set n .dead)
    | _ => .bad)
  | _ => .bad
variable (fuel : Nat)
mutual
def execS : S → Ev → Store → Out Fl
  | .asg i e => exAsg i (evalE G Φ e)
  | .par is es => exPar is (evalEs G Φ es)
  | .unp is e => exUnp is (evalE G Φ e)
  | .unpS i r e => exUnpS i r (evalE G Φ e)
  | .mtch e cs => exMtch (evalE G Φ e) (execCs cs)
  | .setD a i e => exSetD (evalE G Φ a) (evalE G Φ i) (evalE G Φ e)
  | .unpL is e => exUnpL is (evalE G Φ e)
  | .setIx a i e => exSetIx (evalE G Φ a) (evalE G Φ i) (evalE G Φ e)
  | .aug i op e => exAug i op (evalE G Φ e)
  | .ife c t f => exIf (evT (evalE G Φ c)) (execSs t) (execSs f)
  | .forr it tg b => exFor (evalIt G Φ it) tg (execSs b)
  | .whil c b => goWhile (evT (evalE G Φ c)) (execSs b) fuel
  | .ret e => exRet (evalE G Φ e)
  | .retN => exRet (evCon .non)
  | .expr e => exDrop (evalE G Φ e)
  | .pass => exNext
  | .brk => fun ρ m => .ok (.bk ρ) m
  | .cont => fun ρ m => .ok (.ct ρ) m
  | .never => fun _ _ => .bad
  | .rais c => fun _ m => .exc ⟨c, []⟩ m
def execSs : Ss → Ev → Store → Out Fl
  | .nil => exNext
  | .cons s ss => exSeq (execS s) (execSs ss)
  | .frz i ss => exFrz i (execSs ss)
def execCs : Cs → Val → Sx
  | .nil => csNil
  | .cons none b _ => csAny (execSs b)
  | .cons (some s) b cs => csStr s (execSs b) (execCs cs)
  | .seq is g b cs => csSeq is (evalC G Φ g) (execSs b) (execCs cs)
end
structure Def where
  name : Str
  np : Nat
  N : List Str
  keep : Bool
  star : Bool
  lam : Bool
  body : Ss
/-- what a def's names are at first; *rest is a tuple of data -/
def Def.args (f : Def) (vs : List Val) : Option (List Val) := match f.star with
  | false => if vs.length = f.np then some vs else none
  | true => if f.np ≤ vs.length + 1 then (Val.datas (vs.drop (f.np - 1))).bind fun ds => if small ds.length then some (vs.take (f.np - 1) ++ [.d (.tup ds)]) else none else none
def startE (f : Def) (vs : List Val) : Ev := vs.map some ++ List.replicate (f.N.length - vs.length) none
def retV (keep : Bool) (m0 m : Store) : Val → Out Val
  | .d d => .ok (.d d) (m.take m0.length)
  | .cell n => if m0.length ≤ n then (match m[n]? with
    | some (.lst ds) => if keep then .ok (.cell m0.length) (m.take m0.length ++ [.lst ds]) else .ok (.d (.lst ds)) (m.take m0.length)
    | _ => .bad) else .bad
def finish (keep : Bool) (m0 : Store) : Out Fl → Out Val
  | .ok (.ret v) m => retV keep m0 m v
  | .ok (.nx _) m => .ok (.d .non) (m.take m0.length)
  | .exc x m => .exc x (m.take m0.length)
  | _ => .bad
/-- a call of the def at i, at most k calls deep -/
def run (G : List D) (P : List Def) (fuel : Nat) : Nat → Fns
  | 0, _, _, _ => .bad
  | k + 1, i, vs, m => match P[i]? with
    | none => .bad
    | some f => match f.args vs with
      | some us => finish f.keep m (execSs G (run G P fuel k) fuel f.body (startE f us) m)
      | none => .bad
end AW
set_option maxRecDepth 100000
namespace AW
open PySem L2
abbrev Frag := PySem.W.Frag
mutual
/-- what stands for a datum -/
inductive Rep (K : Frag) (F : Hp) : V → D → Prop
  | non : Rep K F .non .non
  | bl (b : Bool) : Rep K F (.bl b) (.bl b)
  | int (i : Int) : Rep K F (.int i) (.int i)
  | str (x : Str) : Rep K F (.str x) (.str x)
  | lst {a : Addr} {vs : List V} {ds : List D} : SqL K F a vs → Reps K F vs ds → Rep K F (.ref a) (.lst ds)
  | tup {a : Addr} {vs : List V} {ds : List D} : SqT K F a vs → Reps K F vs ds → Rep K F (.ref a) (.tup ds)
  | dct {a : Addr} {o : Obj} {kvs : List (Key × V)} {ks vs : List D} : F a = some (.frz o (.dK kvs)) → kvs.map (fun p => keyD p.1) = ks → Reps K F (kvs.map (·.2)) vs → Rep K F (.ref a) (.dct ks vs)
inductive Reps (K : Frag) (F : Hp) : List V → List D → Prop
  | nil : Reps K F [] []
  | cons {v : V} {vs : List V} {d : D} {ds : List D} : Rep K F v d → Reps K F vs ds → Reps K F (v :: vs) (d :: ds)
end
def Ext (F F' : Hp) : Prop := ∀ a o, F a = some o → F' a = some o
theorem Ext.refl (F : Hp) : Ext F F := fun _ _ h => h
theorem Ext.trans {F G H : Hp} (a : Ext F G) (b : Ext G H) : Ext F H := fun x o h => b x o (a x o h)
theorem Ext.new {F : Hp} {p : Addr} {o : HO} (h : F p = none) : Ext F (upd F p o) := fun a u e => by
  rw [upd_ne (ne_of_none e h)]; exact e
theorem Ext.rd {F F' : Hp} {a : Addr} {u : HO} (e : Ext F F') (h : Rd F a u) : Rd F' a u := by
  rcases h with h | ⟨o, h⟩
  · exact .inl (e a _ h)
  · exact .inr ⟨o, e a _ h⟩
theorem Ext.l {K : Frag} {F F' : Hp} {a : Addr} {xs : List V} (e : Ext F F') (h : SqL K F a xs) : SqL K F' a xs := by
  rcases h with h | h
  · exact .inl (e.rd h)
  · exact .inr h
theorem Ext.t {K : Frag} {F F' : Hp} {a : Addr} {xs : List V} (e : Ext F F') (h : SqT K F a xs) : SqT K F' a xs := by
  rcases h with h | h
  · exact .inl (e.rd h)
  · exact .inr h
theorem Ext.free {F F' : Hp} {p : Addr} (e : Ext F F') (h : F' p = none) : F p = none := by
  cases h1 : F p with
  | none => rfl
  | some o => rw [e p o h1] at h; cases h
mutual
theorem Rep.mono {K : Frag} {F F' : Hp} (e : Ext F F') : ∀ {v : V} {d : D}, Rep K F v d → Rep K F' v d
  | _, _, .non => .non
  | _, _, .bl b => .bl b
  | _, _, .int i => .int i
  | _, _, .str x => .str x
  | _, _, .lst h r => .lst (e.l h) (Reps.mono e r)
  | _, _, .tup h r => .tup (e.t h) (Reps.mono e r)
  | _, _, .dct h h1 r => .dct (e _ _ h) h1 (Reps.mono e r)
theorem Reps.mono {K : Frag} {F F' : Hp} (e : Ext F F') : ∀ {vs : List V} {ds : List D}, Reps K F vs ds → Reps K F' vs ds
  | _, _, .nil => .nil
  | _, _, .cons h r => .cons (Rep.mono e h) (Reps.mono e r)
end
section
variable {K : Frag} {F : Hp}
theorem Reps.length : ∀ {vs : List V} {ds : List D}, Reps K F vs ds → vs.length = ds.length
  | _, _, .nil => rfl
  | _, _, .cons _ r => by rw [List.length_cons, List.length_cons, Reps.length r]
theorem Reps.get : ∀ {vs : List V} {ds : List D} {i : Nat} {d : D}, Reps K F vs ds → ds[i]? = some d → ∃ v, vs[i]? = some v ∧ Rep K F v d
  | _, _, _, _, .nil, e => by simp at e
  | _, _, 0, _, .cons h _, e => by simp at e; subst e; exact ⟨_, rfl, h⟩
  | _, _, i + 1, _, .cons _ r, e => by
    obtain ⟨v, h1, h2⟩ := Reps.get (i := i) r (by simpa using e)
    exact ⟨v, by simpa using h1, h2⟩
theorem Reps.append : ∀ {vs ws : List V} {ds es : List D}, Reps K F vs ds → Reps K F ws es → Reps K F (vs ++ ws) (ds ++ es)
  | _, _, _, _, .nil, s => s
  | _, _, _, _, .cons h r, s => .cons h (Reps.append r s)
theorem Reps.take : ∀ {vs : List V} {ds : List D} (n : Nat), Reps K F vs ds → Reps K F (vs.take n) (ds.take n)
  | _, _, 0, _ => by simp; exact .nil
  | _, _, _ + 1, .nil => by simp; exact .nil
  | _, _, n + 1, .cons h r => .cons h (Reps.take n r)
theorem Reps.drop : ∀ {vs : List V} {ds : List D} (n : Nat), Reps K F vs ds → Reps K F (vs.drop n) (ds.drop n)
  | _, _, 0, r => r
  | _, _, _ + 1, .nil => by simp; exact .nil
  | _, _, n + 1, .cons _ r => Reps.drop n r
theorem Reps.set {v : V} {d : D} (h : Rep K F v d) : ∀ {vs : List V} {ds : List D} (n : Nat), Reps K F vs ds → Reps K F (vs.set n v) (ds.set n d)
  | _, _, _, .nil => .nil
  | _, _, 0, .cons _ r => .cons h r
  | _, _, n + 1, .cons q r => .cons q (Reps.set h n r)
theorem Reps.erase : ∀ {vs : List V} {ds : List D} (n : Nat), Reps K F vs ds → Reps K F (vs.eraseIdx n) (ds.eraseIdx n)
  | _, _, _, .nil => .nil
  | _, _, 0, .cons _ r => r
  | _, _, n + 1, .cons q r => .cons q (Reps.erase n r)
theorem Reps.strs : ∀ {vs : List V} {ds : List D} {xs : List Str}, Reps K F vs ds → strsD ds = some xs → vs = xs.map V.str
  | _, _, _, .nil, e => by simp [strsD] at e; subst e; rfl
  | _, _, xs, .cons (ds := ds) h r, e => by
    cases h <;> simp [strsD] at e
    obtain ⟨ys, e1, rfl⟩ := e
    rw [Reps.strs r e1]; rfl
theorem Reps.bools : ∀ {vs : List V} {ds : List D} {xs : List Bool}, Reps K F vs ds → boolsD ds = some xs → vs = xs.map V.bl
  | _, _, _, .nil, e => by simp [boolsD] at e; subst e; rfl
  | _, _, xs, .cons (ds := ds) h r, e => by
    cases h <;> simp [boolsD] at e
    obtain ⟨ys, e1, rfl⟩ := e
    rw [Reps.bools r e1]; rfl
theorem Reps.ofStrs : ∀ xs : List Str, Reps K F (xs.map V.str) (xs.map D.str)
  | [] => .nil
  | _ :: xs => .cons (.str _) (Reps.ofStrs xs)
theorem Reps.rev : ∀ {vs : List V} {ds : List D}, Reps K F vs ds → Reps K F vs.reverse ds.reverse
  | _, _, .nil => .nil
  | _, _, .cons h r => by rw [List.reverse_cons, List.reverse_cons]; exact (Reps.rev r).append (.cons h .nil)
theorem Reps.snoc {vs : List V} {ds : List D} {v : V} {d : D} (r : Reps K F vs ds) (h : Rep K F v d) : Reps K F (vs ++ [v]) (ds ++ [d]) := r.append (.cons h .nil)
mutual
theorem Rep.dp : ∀ {v : V} {d : D} {p : PyData}, Rep K F v d → d.py = some p → Dp K F v p
  | _, _, _, .non, e => by simp [D.py] at e; subst e; exact .non
  | _, _, _, .bl b, e => by simp [D.py] at e; subst e; exact .bl b
  | _, _, _, .int i, e => by simp [D.py] at e; subst e; exact .int i
  | _, _, _, .str x, e => by simp [D.py] at e; subst e; exact .str x
  | _, _, _, .lst h r, e => by
    simp [D.py] at e
    obtain ⟨ps, e1, rfl⟩ := e
    exact .lst h (Reps.dps r e1)
  | _, _, _, .tup h r, e => by
    simp [D.py] at e
    obtain ⟨ps, e1, rfl⟩ := e
    exact .tup h (Reps.dps r e1)
  | _, _, _, .dct h _ _, e => by simp [D.py] at e
theorem Reps.dps : ∀ {vs : List V} {ds : List D} {ps : List PyData}, Reps K F vs ds → D.pys ds = some ps → DpAll K F vs ps
  | _, _, _, .nil, e => by simp [D.pys] at e; subst e; exact .nil
  | _, _, _, .cons (d := d) (ds := ds) h r, e => by
    have e' : (d.py.bind fun p => (D.pys ds).map fun ps => p :: ps) = _ := e
    cases e1 : d.py with
    | none => rw [e1] at e'; cases e'
    | some p =>
      cases e2 : D.pys ds with
      | none => rw [e1, e2] at e'; cases e'
      | some ps =>
        rw [e1, e2] at e'; cases e'
        exact .cons (Rep.dp h e1) (Reps.dps r e2)
end
end
/-! ### tables of code objects: one for each def of the law, by the kept objects -/
def lawName (x : Str) : Bool := x.cps.toList.take 3 == [108, 97, 119] || x.cps.toList.take 4 == [95, 108, 97, 119]
def tabK1 (K : Frag) (o : Obj) : Option (Addr × Str) := match o.data with
  | .func fd => if lawName fd.name then (match fd.code with
    | .ref c => (match He.tabOf K c with
      | 0 => none
      | P => (match K.lookup P with
        | none => some (P, fd.name ++ ".<locals>." ++ "<lambda>")
        | some _ => none))
    | _ => none) else none
  | _ => none
def tabsK (K : Frag) : List (Addr × Str) := K.filterMap fun p => tabK1 K p.2
abbrev TabsH (K : Frag) (H : Hp) : Prop := LamX.Tabs (tabsK K) H
def Plain (o : HO) : Prop := (∀ ps, o ≠ .tbl ps) ∧ ∀ f, o ≠ .ext f
theorem TabsH.upd {K : Frag} {H : Hp} {a : Addr} {o : HO} (t : TabsH K H) (h : ∀ u, H a = some u → Plain u) : TabsH K (upd H a o) := fun p hp => by
  obtain ⟨ps, h1, h2, h3⟩ := t p hp
  refine ⟨ps, ?_, h2, fun pos cv hc => ?_⟩
  · rw [upd_ne (fun q : p.1 = a => (h _ (q ▸ h1)).1 ps rfl)]; exact h1
  · obtain ⟨c, e1, e2⟩ := h3 pos cv hc
    exact ⟨c, e1, by rw [upd_ne (fun q : c = a => (h _ (q ▸ e2)).2 _ rfl)]; exact e2⟩
theorem TabsH.new {K : Frag} {H : Hp} {a : Addr} {o : HO} (t : TabsH K H) (h : H a = none) : TabsH K (L2.upd H a o) := t.upd fun u e => by rw [h] at e; cases e
/-! ### the store -/
def RepO (K : Frag) (F : Hp) : HO → Cel → Prop
  | .lst vs, .lst ds => Reps K F vs ds
  | .dK kvs, .dct ks vs => kvs.map (fun p => keyD p.1) = ks ∧ Reps K F (kvs.map (·.2)) vs
  | _, _ => False
def Cel.live : Cel → Bool
  | .dead => false
  | _ => true
theorem RepO.mono {K : Frag} {F F' : Hp} (e : Ext F F') : ∀ {h : HO} {o : Cel}, RepO K F h o → RepO K F' h o := by
  intro h o r
  cases h <;> cases o <;> first | exact r.elim | skip
  · exact Reps.mono e r
  · exact ⟨r.1, Reps.mono e r.2⟩
structure RelS (K : Frag) (φ : Nat → Addr) (F : Hp) (m : Store) (H : Hp) : Prop where
  sub : Ext F H
  pln : ∀ a o, F a = some o → Plain o
  tabs : TabsH K H
  cell : ∀ n o, m[n]? = some o → ∃ ho, H (φ n) = some ho ∧ (o.live = true → F (φ n) = none ∧ RepO K F ho o)
  inj : ∀ n n', n < m.length → n' < m.length → φ n = φ n' → n = n'
theorem RepO.plain {K : Frag} {F : Hp} {h : HO} {o : Cel} (r : RepO K F h o) : Plain h := by
  cases h <;> cases o <;> first | exact r.elim | exact ⟨fun _ q => (nomatch q), fun _ q => (nomatch q)⟩
/-- what was there is there; a table may have grown -/
def Kept (o : HO) (o' : Option HO) : Prop := o' = some o ∨ ∃ ps qs, o = .tbl ps ∧ o' = some (.tbl qs)
theorem Kept.plain {o : HO} {o' : Option HO} (h : Kept o o') (p : Plain o) : o' = some o := by
  rcases h with h | ⟨ps, qs, e, _⟩
  · exact h
  · exact absurd e (p.1 ps)
theorem Kept.ne {o : HO} {o' : Option HO} (h : Kept o o') : o' ≠ none := by
  rcases h with h | ⟨ps, qs, _, e⟩ <;> rw [‹o' = _›] <;> exact fun q => nomatch q
def RepV (K : Frag) (φ : Nat → Addr) (F : Hp) (m : Store) : V → Val → Prop
  | v, .d x => Rep K F v x
  | v, .cell n => v = .ref (φ n) ∧ n < m.length
def RepVs (K : Frag) (φ : Nat → Addr) (F : Hp) (m : Store) : List V → List Val → Prop := Paired (RepV K φ F m)
def RepE (K : Frag) (φ : Nat → Addr) (F : Hp) (m : Store) (σ : L2.St) (ρ : Ev) : Prop := ∀ (i : Nat) (v : Val), ρ[i]? = some (some v) → ∃ u, σ[i]? = some (some u) ∧ RepV K φ F m u v
structure Stp (K : Frag) (φ : Nat → Addr) (F : Hp) (m : Store) (H : Hp) (φ' : Nat → Addr) (F' : Hp) (m' : Store) (H' : Hp) : Prop where
  len : m.length ≤ m'.length
  ext : ∀ n, n < m.length → φ' n = φ n
  exF : Ext F F'
  fr : ∀ a o, H a = some o → (∀ n o', m[n]? = some o' → o'.live = true → φ n ≠ a) → Kept o (H' a)
  dead : ∀ n : Nat, m[n]? = some Cel.dead → m'[n]? = some Cel.dead
  new : ∀ n, m.length ≤ n → n < m'.length → H (φ' n) = none
  own : ∀ a o, F' a = some o → F a = none → H a = none ∨ ∃ n o', m[n]? = some o' ∧ o'.live = true ∧ φ n = a
  rel : RelS K φ' F' m' H'
section
variable {K : Frag} {φ φ1 φ2 : Nat → Addr} {F F1 F2 : Hp} {m m1 m2 : Store} {H H1 H2 : Hp}
theorem Cel.dead_of {o : Cel} (h : ¬ o.live = true) : o = .dead := by cases o <;> simp [Cel.live] at h; rfl
theorem Stp.refl (R : RelS K φ F m H) : Stp K φ F m H φ F m H := ⟨Nat.le_refl _, fun _ _ => rfl, Ext.refl _, fun _ _ h _ => .inl h, fun _ h => h, fun n h1 h2 => absurd h2 (by omega), (fun a o h1 h2 => by rw [h1] at h2; cases h2), R⟩
theorem Stp.trans (a : Stp K φ F m H φ1 F1 m1 H1) (b : Stp K φ1 F1 m1 H1 φ2 F2 m2 H2) (R : RelS K φ F m H) : Stp K φ F m H φ2 F2 m2 H2 where
  len := Nat.le_trans a.len b.len
  ext := fun n h => by rw [b.ext n (Nat.lt_of_lt_of_le h a.len), a.ext n h]
  exF := a.exF.trans b.exF
  dead := fun n h => b.dead n (a.dead n h)
  rel := b.rel
  fr := fun x o h hn => by
   have nl : ∀ n o', m1[n]? = some o' → o'.live = true → φ1 n ≠ x := fun n o' e l q => by
    by_cases hlt : n < m.length
    · have e0 : m[n]? = some m[n] := List.getElem?_eq_getElem hlt
      by_cases hl : (m[n]).live = true
      · exact hn n _ e0 hl (by rw [← a.ext n hlt]; exact q)
      · have hd := a.dead n (by rw [e0, Cel.dead_of hl])
        rw [hd] at e; cases e; simp [Cel.live] at l
    · have hn2 := a.new n (by omega) (List.getElem?_eq_some_iff.mp e).1
      rw [q, h] at hn2; cases hn2
   rcases a.fr x o h hn with e1 | ⟨ps, qs, e0, e1⟩
   · exact b.fr x o e1 nl
   · rcases b.fr x _ e1 nl with e2 | ⟨ps', qs', _, e2⟩
     · exact .inr ⟨ps, qs, e0, e2⟩
     · exact .inr ⟨ps, qs', e0, e2⟩
  own := fun x o h1 h2 => by
    cases e : F1 x with
    | some o1 => exact a.own x o1 e h2
    | none =>
      rcases b.own x o h1 e with h3 | ⟨n, o', e1, l, e2⟩
      · by_cases hl : ∃ n o', m[n]? = some o' ∧ o'.live = true ∧ φ n = x
        · exact .inr hl
        · refine .inl ?_
          cases eh : H x with
          | none => rfl
          | some o2 =>
            exact absurd h3 (a.fr x o2 eh fun n o' e1 l e2 => hl ⟨n, o', e1, l, e2⟩).ne
      · by_cases hlt : n < m.length
        · have e0 : m[n]? = some m[n] := List.getElem?_eq_getElem hlt
          by_cases hl : (m[n]).live = true
          · exact .inr ⟨n, _, e0, hl, by rw [← a.ext n hlt]; exact e2⟩
          · have hd := a.dead n (by rw [e0, Cel.dead_of hl])
            rw [hd] at e1; cases e1; simp [Cel.live] at l
        · have hn2 := a.new n (by omega) (List.getElem?_eq_some_iff.mp e1).1
          rw [e2] at hn2; exact .inl hn2
  new := fun n h1 h2 => by
    by_cases hlt : n < m1.length
    · rw [b.ext n hlt]; exact a.new n h1 hlt
    · have q := b.new n (by omega) h2
      cases e : H (φ2 n) with
      | none => rfl
      | some o =>
        exfalso
        -- φ2 n is not live in m, so it would be kept
        by_cases hl : ∀ k o', m[k]? = some o' → o'.live = true → φ k ≠ φ2 n
        · exact absurd q (a.fr _ _ e hl).ne
        · simp only [Classical.not_forall, Classical.not_not, exists_prop] at hl
          obtain ⟨k, o', e1, l, e2⟩ := hl
          have hk := (List.getElem?_eq_some_iff.mp e1).1
          have hk1 : k < m1.length := Nat.lt_of_lt_of_le hk a.len
          obtain ⟨ho, eh, _⟩ := a.rel.cell k _ (List.getElem?_eq_getElem hk1)
          rw [a.ext k hk, e2, q] at eh; cases eh
theorem RepV.step (s : Stp K φ F m H φ1 F1 m1 H1) : ∀ {v : V} {x : Val}, RepV K φ F m v x → RepV K φ1 F1 m1 v x
  | _, .d _, h => Rep.mono s.exF h
  | _, .cell n, h => ⟨by rw [s.ext n h.2]; exact h.1, Nat.lt_of_lt_of_le h.2 s.len⟩
theorem RepVs.step (s : Stp K φ F m H φ1 F1 m1 H1) : ∀ {vs : List V} {xs : List Val}, RepVs K φ F m vs xs → RepVs K φ1 F1 m1 vs xs
  | _, _, .nil => .nil
  | _, _, .cons h r => .cons (RepV.step s h) (RepVs.step s r)
theorem RepE.step {σ : L2.St} {ρ : Ev} (s : Stp K φ F m H φ1 F1 m1 H1) (h : RepE K φ F m σ ρ) : RepE K φ1 F1 m1 σ ρ := fun i v e => by
  obtain ⟨u, e1, r⟩ := h i v e
  exact ⟨u, e1, RepV.step s r⟩
theorem RepE.set {σ : L2.St} {ρ : Ev} {i : Nat} {u : V} {v : Val} (h : RepE K φ F m σ ρ) (hl : σ.length = ρ.length) (r : RepV K φ F m u v) : RepE K φ F m (σ.set i (some u)) (ρ.set i (some v)) := fun j w e => by
  by_cases hj : i = j
  · subst hj
    by_cases hi : i < ρ.length
    · rw [List.getElem?_set_self hi] at e; cases e
      exact ⟨u, List.getElem?_set_self (by omega), r⟩
    · rw [List.getElem?_eq_none (by simpa using Nat.le_of_not_lt hi)] at e; cases e
  · rw [List.getElem?_set_ne hj] at e
    obtain ⟨u', e1, r1⟩ := h j w e
    exact ⟨u', by rw [List.getElem?_set_ne hj]; exact e1, r1⟩
end
end AW
set_option maxRecDepth 100000
namespace AW
open PySem L2
abbrev Wsh := Exc → (Nat → Addr) → Hp → Store → Hp → Prop
def Post {α β : Type} (K : Frag) (W : Wsh) (R : (Nat → Addr) → Hp → Store → β → α → Prop) (φ : Nat → Addr) (F : Hp) (m : Store) (H : Hp) (o : Out α) (Q : β → Hp → Prop) : Prop :=
  match o with
  | .ok a m' => ∀ φ' F' H' b, Stp K φ F m H φ' F' m' H' → R φ' F' m' b a → Q b H'
  | .exc x m' => ∀ φ' F' H', Stp K φ F m H φ' F' m' H' → W x φ' F' m' H'
  | .bad => False
abbrev RVl (K : Frag) : (Nat → Addr) → Hp → Store → V → Val → Prop := fun φ F m u v => RepV K φ F m u v
abbrev RVs (K : Frag) : (Nat → Addr) → Hp → Store → List V → List Val → Prop := fun φ F m u v => RepVs K φ F m u v
abbrev REq {α : Type} : (Nat → Addr) → Hp → Store → α → α → Prop := fun _ _ _ u v => u = v
abbrev RDs (K : Frag) : (Nat → Addr) → Hp → Store → List V → List D → Prop := fun _ F _ u v => Reps K F u v
section
variable {K : Frag} {W : Wsh} {φ φ1 φ2 : Nat → Addr} {F F1 F2 : Hp} {m m1 m2 : Store} {H H1 H2 : Hp}
theorem Post.step {α β : Type} {R : (Nat → Addr) → Hp → Store → β → α → Prop} {o : Out α} {Q : β → Hp → Prop} (R0 : RelS K φ F m H) (h : Post K W R φ F m H o Q) (s : Stp K φ F m H φ1 F1 m1 H1) : Post K W R φ1 F1 m1 H1 o Q := by
  cases o with
  | ok a m' => exact fun φ' F' H' b s' r => h φ' F' H' b (s.trans s' R0) r
  | exc x m' => exact fun φ' F' H' s' => h φ' F' H' (s.trans s' R0)
  | bad => exact h
theorem Post.bind {α β γ δ : Type} {Ra : (Nat → Addr) → Hp → Store → β → α → Prop} {Rc : (Nat → Addr) → Hp → Store → δ → γ → Prop} {o : Out α} {k : α → Store → Out γ} {Q : δ → Hp → Prop} {Q1 : β → Hp → Prop}
    (R0 : RelS K φ F m H) (h : Post K W Rc φ F m H (o.bind k) Q)
    (hk : ∀ a m1 φ1 F1 H1 b, Stp K φ F m H φ1 F1 m1 H1 → Ra φ1 F1 m1 b a → Post K W Rc φ1 F1 m1 H1 (k a m1) Q → Q1 b H1) : Post K W Ra φ F m H o Q1 := by
  cases o with
  | ok a m' => exact fun φ' F' H' b s' r => hk a m' φ' F' H' b s' r (Post.step R0 h s')
  | exc x m' => exact h
  | bad => exact h
theorem Post.lift {α γ δ : Type} {Rc : (Nat → Addr) → Hp → Store → δ → γ → Prop} {o : Option α} {k : α → Store → Out γ} {Q : δ → Hp → Prop} (h : Post K W Rc φ F m H ((lift m o).bind k) Q) : ∃ a, o = some a ∧ Post K W Rc φ F m H (k a m) Q := by
  cases o with
  | none => exact h.elim
  | some a => exact ⟨a, rfl, h⟩
theorem Post.lift0 {α δ : Type} {Rc : (Nat → Addr) → Hp → Store → δ → α → Prop} {o : Option α} {Q : δ → Hp → Prop} (h : Post K W Rc φ F m H (AW.lift m o) Q) : ∃ a, o = some a ∧ Post K W Rc φ F m H (.ok a m) Q := by
  cases o with
  | none => exact h.elim
  | some a => exact ⟨a, rfl, h⟩
theorem Post.ok0 {α β : Type} {R : (Nat → Addr) → Hp → Store → β → α → Prop} {a : α} {b : β} {Q : β → Hp → Prop} (R0 : RelS K φ F m H) (h : Post K W R φ F m H (.ok a m) Q) (r : R φ F m b a) : Q b H := h φ F H b (Stp.refl R0) r
/-! ### how the state moves -/
theorem RelS.fresh (R : RelS K φ F m H) {p : Addr} (hp : H p = none) : F p = none := R.sub.free hp
theorem RelS.ne (R : RelS K φ F m H) {p : Addr} (hp : H p = none) {n : Nat} (hn : n < m.length) : φ n ≠ p := by
  obtain ⟨ho, e, _⟩ := R.cell n _ (List.getElem?_eq_getElem hn)
  exact ne_of_none e hp
/-- a new datum's object -/
theorem Stp.newF (R : RelS K φ F m H) {p : Addr} {o : HO} (hp : H p = none) (po : Plain o := by exact ⟨fun _ q => (nomatch q), fun _ q => (nomatch q)⟩) : Stp K φ F m H φ (upd F p o) m (upd H p o) where
  len := Nat.le_refl _
  ext := fun _ _ => rfl
  exF := Ext.new (R.fresh hp)
  fr := fun a u e _ => .inl (by rw [upd_ne (ne_of_none e hp)]; exact e)
  dead := fun _ h => h
  new := fun n h1 h2 => absurd h2 (by omega)
  own := fun a u e1 e2 => by
    by_cases ha : a = p
    · subst ha; exact .inl hp
    · rw [upd_ne ha, e2] at e1; cases e1
  rel := by
    refine ⟨fun a u e => ?_, fun a u e => ?_, R.tabs.new hp, fun n c e => ?_, R.inj⟩
    · by_cases ha : a = p
      · subst ha; rw [upd_same] at e ⊢; exact e
      · rw [upd_ne ha] at e ⊢; exact R.sub a u e
    · by_cases ha : a = p
      · subst ha; rw [upd_same] at e; cases e; exact po
      · rw [upd_ne ha] at e; exact R.pln a u e
    · obtain ⟨ho, e1, e2⟩ := R.cell n c e
      have hne : φ n ≠ p := R.ne hp (List.getElem?_eq_some_iff.mp e).1
      refine ⟨ho, by rw [upd_ne hne]; exact e1, fun l => ?_⟩
      obtain ⟨e3, e4⟩ := e2 l
      exact ⟨by rw [upd_ne hne]; exact e3, RepO.mono (Ext.new (R.fresh hp)) e4⟩
/-- an object that nobody speaks of -/
theorem Stp.newN (R : RelS K φ F m H) {p : Addr} {o : HO} (hp : H p = none) : Stp K φ F m H φ F m (upd H p o) where
  len := Nat.le_refl _
  ext := fun _ _ => rfl
  exF := Ext.refl _
  fr := fun a u e _ => .inl (by rw [upd_ne (ne_of_none e hp)]; exact e)
  dead := fun _ h => h
  new := fun n h1 h2 => absurd h2 (by omega)
  own := fun a u e1 e2 => by rw [e1] at e2; cases e2
  rel := by
    refine ⟨fun a u e => ?_, R.pln, R.tabs.new hp, fun n c e => ?_, R.inj⟩
    · rw [upd_ne (ne_of_none (R.sub a u e) hp)]; exact R.sub a u e
    · obtain ⟨ho, e1, e2⟩ := R.cell n c e
      have hne : φ n ≠ p := R.ne hp (List.getElem?_eq_some_iff.mp e).1
      exact ⟨ho, by rw [upd_ne hne]; exact e1, e2⟩
/-- a new cell -/
theorem Stp.newC (R : RelS K φ F m H) {p : Addr} {o : HO} {c : Cel} (hp : H p = none) (ro : RepO K F o c) : Stp K φ F m H (fun n => if n = m.length then p else φ n) F (m ++ [c]) (upd H p o) := by
  have hN : ∀ n, n < m.length → (if n = m.length then p else φ n) = φ n := fun n h => if_neg (by omega)
  refine ⟨by simp, hN, Ext.refl _, fun a u e _ => .inl (by rw [upd_ne (ne_of_none e hp)]; exact e), fun n e => ?_, fun n h1 h2 => ?_, (fun a u e1 e2 => by rw [e1] at e2; cases e2), ⟨fun a u e => ?_, R.pln, R.tabs.new hp, fun n c' e => ?_, fun n n' h1 h2 e => ?_⟩⟩
  · have hn := (List.getElem?_eq_some_iff.mp e).1
    rw [List.getElem?_append_left hn]; exact e
  · have : n = m.length := by simp at h2; omega
    subst this; simp [hp]
  · rw [upd_ne (ne_of_none (R.sub a u e) hp)]; exact R.sub a u e
  · by_cases hn : n < m.length
    · rw [List.getElem?_append_left hn] at e
      obtain ⟨ho, e1, e2⟩ := R.cell n c' e
      rw [hN n hn]
      exact ⟨ho, by rw [upd_ne (R.ne hp hn)]; exact e1, e2⟩
    · have hl := (List.getElem?_eq_some_iff.mp e).1
      have hn' : n = m.length := by simp at hl; omega
      subst hn'
      simp at e; subst e
      simp only [if_pos rfl, if_true]
      exact ⟨o, upd_same, fun _ => ⟨R.fresh hp, ro⟩⟩
  · simp at h1 h2
    by_cases hn : n < m.length
    · by_cases hn' : n' < m.length
      · rw [hN n hn, hN n' hn'] at e; exact R.inj n n' hn hn' e
      · have : n' = m.length := by omega
        subst this
        rw [hN n hn] at e; simp at e
        exact absurd e (R.ne hp hn)
    · have : n = m.length := by omega
      subst this
      by_cases hn' : n' < m.length
      · rw [hN n' hn'] at e; simp at e
        exact absurd e.symm (R.ne hp hn')
      · omega
/-- a cell is written -/
theorem Stp.write (R : RelS K φ F m H) {n : Nat} {c c' : Cel} {o : HO} (e : m[n]? = some c) (hl : c.live = true) (hl' : c'.live = true) (ro : RepO K F o c') : Stp K φ F m H φ F (m.set n c') (upd H (φ n) o) := by
  have hn := (List.getElem?_eq_some_iff.mp e).1
  obtain ⟨ho, e1, e2⟩ := R.cell n c e
  refine ⟨by simp, fun _ _ => rfl, Ext.refl _, fun a u ea hne => .inl (by rw [upd_ne (fun q => hne n c e hl q.symm)]; exact ea), fun k ek => ?_, fun k h1 h2 => absurd h2 (by simp; omega), (fun a u e1 e2 => by rw [e1] at e2; cases e2), ⟨fun a u ea => ?_, R.pln, R.tabs.upd (fun u eu => by rw [e1] at eu; cases eu; exact (e2 hl).2.plain), fun k c2 ek => ?_, fun k k' h1 h2 => R.inj k k' (by simpa using h1) (by simpa using h2)⟩⟩
  · by_cases hk : n = k
    · subst hk; rw [e] at ek; cases ek; simp [Cel.live] at hl
    · rw [List.getElem?_set_ne hk]; exact ek
  · have : a ≠ φ n := fun q => by subst q; rw [(e2 hl).1] at ea; cases ea
    rw [upd_ne this]; exact R.sub a u ea
  · by_cases hk : n = k
    · subst hk
      rw [List.getElem?_set_self hn] at ek; cases ek
      exact ⟨o, upd_same, fun _ => ⟨(e2 hl).1, ro⟩⟩
    · rw [List.getElem?_set_ne hk] at ek
      obtain ⟨ho', e3, e4⟩ := R.cell k c2 ek
      have hkl := (List.getElem?_eq_some_iff.mp ek).1
      exact ⟨ho', by rw [upd_ne (fun q => hk (R.inj n k hn hkl q.symm))]; exact e3, e4⟩
/-- a cell is frozen to a datum -/
theorem Stp.kill (R : RelS K φ F m H) {n : Nat} {c : Cel} {o : HO} (e : m[n]? = some c) (hl : c.live = true) (eo : H (φ n) = some o) : Stp K φ F m H φ (upd F (φ n) o) (m.set n .dead) H := by
  have hn := (List.getElem?_eq_some_iff.mp e).1
  obtain ⟨ho, e1, e2⟩ := R.cell n c e
  refine ⟨by simp, fun _ _ => rfl, Ext.new (e2 hl).1, fun a u ea hne => .inl ea, fun k ek => ?_, fun k h1 h2 => absurd h2 (by simp; omega), (fun a u h1 h2 => by
    by_cases ha : a = φ n
    · exact .inr ⟨n, c, e, hl, ha.symm⟩
    · rw [upd_ne ha, h2] at h1; cases h1), ⟨fun a u ea => ?_, (fun a u ea => by
    by_cases ha : a = φ n
    · subst ha; rw [upd_same] at ea; cases ea
      rw [e1] at eo; cases eo; exact (e2 hl).2.plain
    · rw [upd_ne ha] at ea; exact R.pln a u ea), R.tabs, fun k c2 ek => ?_, fun k k' h1 h2 => R.inj k k' (by simpa using h1) (by simpa using h2)⟩⟩
  · by_cases hk : n = k
    · subst hk; rw [List.getElem?_set_self hn]
    · rw [List.getElem?_set_ne hk]; exact ek
  · by_cases ha : a = φ n
    · subst ha; rw [upd_same] at ea; rw [eo]; exact ea
    · rw [upd_ne ha] at ea; exact R.sub a u ea
  · by_cases hk : n = k
    · subst hk
      rw [List.getElem?_set_self hn] at ek; cases ek
      exact ⟨o, eo, fun l => by simp [Cel.live] at l⟩
    · rw [List.getElem?_set_ne hk] at ek
      obtain ⟨ho', e3, e4⟩ := R.cell k c2 ek
      have hkl := (List.getElem?_eq_some_iff.mp ek).1
      refine ⟨ho', e3, fun l => ?_⟩
      obtain ⟨e5, e6⟩ := e4 l
      exact ⟨by rw [upd_ne (fun q => hk (R.inj n k hn hkl q.symm))]; exact e5, RepO.mono (Ext.new (e2 hl).1) e6⟩
/-! ### what a value is read as -/
def PV (K : Frag) (F H : Hp) (u : V) (d : D) : Prop := Rep K F u d ∨ (∃ a vs ds, d = .lst ds ∧ u = .ref a ∧ H a = some (.lst vs) ∧ Reps K F vs ds) ∨
  ∃ a kvs ks vs, d = .dct ks vs ∧ u = .ref a ∧ H a = some (.dK kvs) ∧ kvs.map (fun p => keyD p.1) = ks ∧ Reps K F (kvs.map (·.2)) vs
theorem pv_of (R : RelS K φ F m H) {u : V} {v : Val} {d : D} (r : RepV K φ F m u v) (e : peek m v = some d) : PV K F H u d := by
  cases v with
  | d x => cases e; exact .inl r
  | cell n =>
    obtain ⟨rfl, hn⟩ := r
    obtain ⟨ho, e1, e2⟩ := R.cell n _ (List.getElem?_eq_getElem hn)
    simp only [peek, List.getElem?_eq_getElem hn] at e
    cases hc : m[n] with
    | lst ds =>
      rw [hc] at e e2; cases e
      obtain ⟨_, e4⟩ := e2 rfl
      cases ho <;> first | exact e4.elim | skip
      exact .inr (.inl ⟨_, _, _, rfl, rfl, e1, e4⟩)
    | dct ks vs =>
      rw [hc] at e e2; cases e
      obtain ⟨_, e4⟩ := e2 rfl
      cases ho <;> first | exact e4.elim | skip
      exact .inr (.inr ⟨_, _, _, _, rfl, rfl, e1, e4.1, e4.2⟩)
    | dead => rw [hc] at e; cases e
theorem PV.int {u : V} {i : Int} (h : PV K F H u (.int i)) : u = .int i := by
  rcases h with h | ⟨_, _, _, e, _⟩ | ⟨_, _, _, _, e, _⟩
  · cases h; rfl
  · cases e
  · cases e
theorem PV.bl {u : V} {i : Bool} (h : PV K F H u (.bl i)) : u = .bl i := by
  rcases h with h | ⟨_, _, _, e, _⟩ | ⟨_, _, _, _, e, _⟩
  · cases h; rfl
  · cases e
  · cases e
theorem PV.str {u : V} {i : Str} (h : PV K F H u (.str i)) : u = .str i := by
  rcases h with h | ⟨_, _, _, e, _⟩ | ⟨_, _, _, _, e, _⟩
  · cases h; rfl
  · cases e
  · cases e
theorem PV.non {u : V} (h : PV K F H u .non) : u = .non := by
  rcases h with h | ⟨_, _, _, e, _⟩ | ⟨_, _, _, _, e, _⟩
  · cases h; rfl
  · cases e
  · cases e
theorem PV.tup {u : V} {ds : List D} (h : PV K F H u (.tup ds)) : ∃ a vs, u = .ref a ∧ SqT K F a vs ∧ Reps K F vs ds := by
  rcases h with h | ⟨_, _, _, e, _⟩ | ⟨_, _, _, _, e, _⟩
  · cases h with | tup h r => exact ⟨_, _, rfl, h, r⟩
  · cases e
  · cases e
theorem PV.lst {u : V} {ds : List D} (S : Ext F H) (h : PV K F H u (.lst ds)) : ∃ a vs, u = .ref a ∧ SqL K H a vs ∧ Reps K F vs ds := by
  rcases h with h | ⟨a, vs, ds', e, e1, e2, e3⟩ | ⟨_, _, _, _, e, _⟩
  · cases h with | lst h r => exact ⟨_, _, rfl, S.l h, r⟩
  · cases e; exact ⟨a, vs, e1, SqL.of e2, e3⟩
  · cases e
theorem PV.dct {u : V} {ks vs : List D} (S : Ext F H) (h : PV K F H u (.dct ks vs)) : ∃ a kvs, u = .ref a ∧ Rd H a (.dK kvs) ∧ kvs.map (fun p => keyD p.1) = ks ∧ Reps K F (kvs.map (·.2)) vs := by
  rcases h with h | ⟨_, _, _, e, _⟩ | ⟨a, kvs, ks', vs', e, e1, e2, e3, e4⟩
  · cases h with | dct h h1 r => exact ⟨_, _, rfl, .inr ⟨_, S _ _ h⟩, h1, r⟩
  · cases e
  · cases e; exact ⟨a, kvs, e1, .inl e2, e3, e4⟩
theorem PV.dp {u : V} {d : D} {p : PyData} (S : Ext F H) (h : PV K F H u d) (e : d.py = some p) : Dp K H u p := by
  rcases h with h | ⟨a, vs, ds', rfl, e1, e2, e3⟩ | ⟨a, kvs, ks', vs', rfl, e1, e2, e3⟩
  · exact Rep.dp (Rep.mono S h) e
  · simp [D.py] at e
    obtain ⟨ps, e4, rfl⟩ := e
    subst e1
    exact .lst (SqL.of e2) (Reps.dps (Reps.mono S e3) e4)
  · simp [D.py] at e
end
end AW
set_option maxRecDepth 100000
namespace AW
open PySem L2
def rd {α β : Type} (K : Frag) (W : Wsh) (R : (Nat → Addr) → Hp → Store → β → α → Prop) (o : Ev → Store → Out α) : L2.St → Hp → (β → Hp → Prop) → Prop := fun σ H Q =>
  ∃ φ F ρ m, RelS K φ F m H ∧ RepE K φ F m σ ρ ∧ σ.length = ρ.length ∧ Post K W R φ F m H (o ρ m) Q
abbrev rdE (K : Frag) (W : Wsh) (o : Ev → Store → Out Val) : TE := rd K W (RVl K) o
abbrev rdT (K : Frag) (W : Wsh) (o : Ev → Store → Out Bool) : TT := rd K W REq o
abbrev rdA (K : Frag) (W : Wsh) (o : Ev → Store → Out (List Val)) : TA := rd K W (RVs K) o
abbrev rdO (K : Frag) (W : Wsh) (o : Ev → Store → Out (Option Int)) : TO := rd K W REq o
theorem rd_bind {α β γ δ : Type} {K : Frag} {W : Wsh} {Ra : (Nat → Addr) → Hp → Store → β → α → Prop} {Rc : (Nat → Addr) → Hp → Store → δ → γ → Prop} {oa : Ev → Store → Out α} {k : Ev → α → Store → Out γ} {σ : L2.St} {H : Hp} {Q : δ → Hp → Prop} {Q1 : β → Hp → Prop}
    (h : rd K W Rc (fun ρ m => (oa ρ m).bind (k ρ)) σ H Q)
    (hk : ∀ φ F ρ m H1 a b, RelS K φ F m H1 → RepE K φ F m σ ρ → σ.length = ρ.length → Ra φ F m b a → Post K W Rc φ F m H1 (k ρ a m) Q → Q1 b H1) : rd K W Ra oa σ H Q1 := by
  obtain ⟨φ, F, ρ, m, R, E, L, h⟩ := h
  exact ⟨φ, F, ρ, m, R, E, L, Post.bind R h fun a m1 φ1 F1 H1 b s r h => hk φ1 F1 ρ m1 H1 a b s.rel (E.step s) L r h⟩
theorem PEmono {X : Cx} {e : Expr} {t t' : TE} (h : PE X e t) (i : ∀ σ H Q, t' σ H Q → t σ H Q) : PE X e t' := ⟨fun pins s σ H Q I q => h.run pins s σ H Q I (i _ _ _ q)⟩
theorem PTmono {X : Cx} {e : Expr} {t t' : TT} (h : PT X e t) (i : ∀ σ H Q, t' σ H Q → t σ H Q) : PT X e t' := ⟨fun pins s σ H Q I q => h.run pins s σ H Q I (i _ _ _ q)⟩
theorem PWmono {X : Cx} {e : Expr} {t t' : TT} (h : PW X e t) (i : ∀ σ H Q, t' σ H Q → t σ H Q) : PW X e t' := ⟨fun w pins s σ H Q I q => h.run w pins s σ H Q I (i _ _ _ q)⟩
theorem PAmono {X : Cx} {e : List Expr} {t t' : TA} (h : PA X e t) (i : ∀ σ H Q, t' σ H Q → t σ H Q) : PA X e t' := ⟨fun p pins s σ H Q I q => h.run p pins s σ H Q I (i _ _ _ q)⟩
theorem POmono {X : Cx} {e : Option Expr} {t t' : TO} (h : PO X e t) (i : ∀ σ H Q, t' σ H Q → t σ H Q) : PO X e t' := ⟨fun pins s σ H Q I q => h.run pins s σ H Q I (i _ _ _ q)⟩
/-- what was made is locked from then on -/
def tFrz (t : TE) : TE := fun σ H Q => t σ H fun x H1 => ∃ d u, x = .ref d ∧ H1 d = some u ∧ Mut (some u) ∧ ∀ od, Q x (upd H1 d (.frz od u))
theorem pe_frz {X : Cx} {e : Expr} {t : TE} (h : PE X e t) : PE X e (tFrz t) := ⟨fun pins s σ H Q I hw => by
  refine thn (h.run pins s σ H _ I hw) fun v s1 hh => ?_
  obtain ⟨x, H1, I1, r, d, u, ex, hd, mu, q⟩ := hh
  obtain ⟨od, I2⟩ := I1.lock hd mu
  exact ⟨x, _, I2, r, q od⟩⟩
theorem cr_frz {X : Cx} {f : Value} {t : List V → Hp → VK → Prop} (h : CallR X f t) : CallR X f (fun xs H Q => t xs H fun x H1 => ∃ d u, x = .ref d ∧ H1 d = some u ∧ Mut (some u) ∧ ∀ od, Q x (upd H1 d (.frz od u))) := by
  intro pins s σ H xs us Q I r hw
  refine thn (h pins s σ H xs us _ I r hw) fun v s1 hh => ?_
  obtain ⟨x, H1, I1, r, d, u, ex, hd, mu, q⟩ := hh
  obtain ⟨od, I2⟩ := I1.lock hd mu
  exact ⟨x, _, I2, r, q od⟩
section
variable {X : Cx} {W : Wsh} {a b c : Expr} {oa ob oc : Ev → Store → Out Val} {pos : Pos}
/-! ### names, constants -/
theorem snd_var {i : Nat} {x : Str} (hN : X.N[i]? = some x) (hv : Vis X.env.scope x) (hd : (x == ("__debug__" : Str)) = false) (hcd : (x == ("__classdict__" : Str)) = false) : PE X (.Name x pos) (rdE X.K W (evVar i)) := PEmono (pe_var hN hv hd hcd) fun σ H Q h => by
  obtain ⟨φ, F, ρ, m, R, E, L, h⟩ := h
  cases e : ρ[i]? with
  | none => simp only [evVar, e] at h; exact h.elim
  | some o =>
    cases o with
    | none => simp only [evVar, e] at h; exact h.elim
    | some v =>
      simp only [evVar, e] at h
      obtain ⟨u, e1, r⟩ := E i v e
      exact ⟨u, e1, Post.ok0 R h r⟩
theorem snd_con {ex : Expr} {v : V} {d : D} (h : PE X ex (tC v)) (r : ∀ F, Rep X.K F v d) : PE X ex (rdE X.K W (evCon d)) := PEmono h fun σ H Q h => by
  obtain ⟨φ, F, ρ, m, R, E, L, h⟩ := h
  exact Post.ok0 R h (r F)
theorem Reps.rep {K : Frag} {F : Hp} {vs : List V} {ds : List D} (r : Reps K F vs ds) : ∀ n : Nat, Reps K F (List.replicate n vs).flatten (List.replicate n ds).flatten
  | 0 => .nil
  | n + 1 => by
    rw [List.replicate_succ, List.replicate_succ, List.flatten_cons, List.flatten_cons]
    exact r.append (r.rep n)
/-! ### operators -/
def OkD (K : Frag) (W : Wsh) (φ : Nat → Addr) (F : Hp) (m : Store) (H : Hp) (z : D) (Q : VK) : Prop := Post K W (RVl K) φ F m H (.ok (.d z) m) Q
theorem OkD.at {K : Frag} {W : Wsh} {φ : Nat → Addr} {F : Hp} {m : Store} {H : Hp} {z : D} {Q : VK} {u : V} (R : RelS K φ F m H) (h : OkD K W φ F m H z Q) (r : Rep K F u z) : Q u H := Post.ok0 (R := RVl K) R h r
theorem OkD.new {K : Frag} {W : Wsh} {φ : Nat → Addr} {F : Hp} {m : Store} {H : Hp} {z : D} {Q : VK} {o : HO} {p : Addr} (R : RelS K φ F m H) (h : OkD K W φ F m H z Q) (hp : H p = none) (r : Rep K (upd F p o) (.ref p) z) (po : Plain o := by exact ⟨fun _ q => (nomatch q), fun _ q => (nomatch q)⟩) : Q (.ref p) (upd H p o) := h φ _ _ _ (Stp.newF R hp po) r
theorem OkD.lst {K : Frag} {W : Wsh} {φ : Nat → Addr} {F : Hp} {m : Store} {H : Hp} {vs : List V} {ds : List D} {Q : VK} {p : Addr} (R : RelS K φ F m H) (h : OkD K W φ F m H (.lst ds) Q) (hp : H p = none) (r : Reps K F vs ds) : Q (.ref p) (upd H p (.lst vs)) :=
  h.new R hp (.lst (SqL.of upd_same) (r.mono (Ext.new (R.fresh hp))))
theorem OkD.tup {K : Frag} {W : Wsh} {φ : Nat → Addr} {F : Hp} {m : Store} {H : Hp} {vs : List V} {ds : List D} {Q : VK} {p : Addr} (R : RelS K φ F m H) (h : OkD K W φ F m H (.tup ds) Q) (hp : H p = none) (r : Reps K F vs ds) : Q (.ref p) (upd H p (.tup vs)) :=
  h.new R hp (.tup (SqT.of upd_same) (r.mono (Ext.new (R.fresh hp))))
/-- an operation on two data -/
def r2 (K : Frag) (W : Wsh) (f : D → D → Option D) : R2 := fun x y H Q => ∃ φ F m dx dy z, RelS K φ F m H ∧ PV K F H x dx ∧ PV K F H y dy ∧ f dx dy = some z ∧ OkD K W φ F m H z Q
theorem rd_ev2 {K : Frag} {f : D → D → Option D} {σ : L2.St} {H : Hp} {Q : VK} (h : rdE K W (ev2 f oa ob) σ H Q) : tOp (r2 K W f) (rdE K W oa) (rdE K W ob) σ H Q := by
  refine rd_bind h fun φ F ρ m H1 x u R E L rx h => ?_
  refine ⟨φ, F, ρ, m, R, E, L, Post.bind R h fun y m1 φ1 F1 H2 w s ry h => ?_⟩
  obtain ⟨dx, ex, h⟩ := h.lift
  obtain ⟨dy, ey, h⟩ := h.lift
  obtain ⟨z, ez, h⟩ := h.lift
  exact ⟨φ1, F1, m1, dx, dy, z, s.rel, pv_of s.rel (RepV.step s rx) ex, pv_of s.rel ry ey, ez, h⟩
theorem snd_op {op : Operator} (ho : OpR X (binaryOp op) (r2 X.K W (binD op))) (ha : PE X a (rdE X.K W oa)) (hb : PE X b (rdE X.K W ob)) : PE X (.BinOp a op b pos) (rdE X.K W (ev2 (binD op) oa ob)) := PEmono (pe_op ho ha hb) fun _ _ _ h => rd_ev2 h
theorem op_catR : OpR X (binaryOp .Add) (fun x y H Q => ∃ l b xs zs, x = .ref l ∧ y = .ref b ∧ SqL X.K H l xs ∧ SqL X.K H b zs ∧ xs.length + zs.length ≤ sizeLine ∧ ∀ p, H p = none → Q (.ref p) (upd H p (.lst (xs ++ zs)))) := by
  intro pins s σ H x y v u Q I rx ry h
  obtain ⟨l, b, xs, zs, rfl, rfl, hL, hB, hz, q⟩ := h
  cases rx
  cases ry
  obtain ⟨is, r1, ⟨⟨c1, d1, a1, sl1⟩, n1, e1, p1, p2, p3⟩, z1⟩ := I.list hL
  obtain ⟨js, r2, ⟨⟨c2, d2, a2, sl2⟩, n2, e2, q1, q2, q3⟩, z2⟩ := I.list hB
  simp only at p1 p2 p3 q1 q2 q3
  subst p1 p2 p3 q1 q2 q3
  have l1 := r1.length
  have l2 := r2.length
  refine PySem.concat_meets ⟨_, e1, rfl⟩ ⟨_, e2, rfl⟩ PySem.noFill_list_add PySem.seq_list_add PySem.F.slot_list_add PySem.F.entry_list_add (PySem.F.args_list_add_2 _ _)
    (PyProof.Rows.list_addW l b is.toArray js.toArray n1 n2 none none sl1 sl2 (by simp; omega)) ⟨e1, e2, ?_⟩
  have ea : is.toArray ++ js.toArray = (is ++ js).toArray := by simp
  rw [ea]
  exact ⟨.ref _, _, I.lnew (t' := s.toks) (r1.append r2) (by rw [List.length_append]; omega), rfl, q _ I.fresh⟩
theorem op_powW : OpR X (binaryOp .Pow) (rI (fun i j => 0 ≤ j ∧ (Builtin.Int.intBits i : Int) * j ≤ 2 ^ 27) fun i j => .int (i ^ j.toNat)) := opI fun _ _ _ _ _ _ _ hc q => PyProof.Rows.pow_int hc.1 hc.2 q
theorem op_bin (op : Operator) : OpR X (binaryOp op) (r2 X.K W (binD op)) := by
  intro pins s σ H x y v u Q I rx ry h
  obtain ⟨φ, F, m, dx, dy, z, R, px, py, e, h⟩ := h
  unfold binD at e
  split at e
  · cases e; exact op_add pins s σ H x y v u Q I rx ry ⟨_, _, px.int, py.int, h.at R (.int _)⟩
  · split at e
    · rename_i hs; cases e
      exact op_add_str pins s σ H x y v u Q I rx ry ⟨_, _, px.str, py.str, of_decide_eq_true hs, h.at R (.str _)⟩
    · cases e
  · split at e
    · rename_i hs; cases e
      obtain ⟨p, vs, rfl, h1, r1⟩ := px.tup
      obtain ⟨q, ws, rfl, h2, r3⟩ := py.tup
      refine op_catA pins s σ H _ _ v u Q I rx ry ⟨p, q, vs, ws, rfl, rfl, R.sub.t h1, R.sub.t h2, by rw [r1.length, r3.length]; exact of_decide_eq_true hs, fun e => ?_, fun _ e => ?_, fun _ _ l hl => ?_⟩
      · subst e; cases r1; exact h.at R (.tup h2 r3)
      · subst e; cases r3
        refine h.at R (.tup h1 ?_)
        rw [List.append_nil]; exact r1
      · exact h.tup R hl (r1.append r3)
    · cases e
  · split at e
    · rename_i hs; cases e
      obtain ⟨p, vs, rfl, h1, r1⟩ := px.lst R.sub
      obtain ⟨q, ws, rfl, h2, r3⟩ := py.lst R.sub
      refine op_catR pins s σ H _ _ v u Q I rx ry ⟨p, q, vs, ws, rfl, rfl, h1, h2, by rw [r1.length, r3.length]; exact of_decide_eq_true hs, fun l hl => ?_⟩
      exact h.lst R hl (r1.append r3)
    · cases e
  · cases e; exact op_sub pins s σ H x y v u Q I rx ry ⟨_, _, px.int, py.int, h.at R (.int _)⟩
  · split at e
    · rename_i hs; cases e
      simp only [Bool.and_eq_true, decide_eq_true_eq] at hs
      obtain ⟨p, vs, rfl, h1, r1⟩ := px.tup
      refine op_repT pins s σ H _ _ v u Q I rx ry ⟨p, _, vs, rfl, py.int, R.sub.t h1, fun q => hs.1 (by subst q; cases r1; rfl), hs.2.1, hs.2.2.1, by rw [r1.length]; exact hs.2.2.2, fun l hl => ?_⟩
      exact h.tup R hl (r1.rep _)
    · cases e
  · split at e
    · rename_i hs; cases e
      unfold cmul at hs
      rcases Bool.or_eq_true_iff.mp hs with hs | hs
      · refine op_mul pins s σ H x y v u Q I rx ry ⟨_, _, px.int, py.int, ?_, h.at R (.int _)⟩
        simpa [CMul] using hs
      · exact op_mulW pins s σ H x y v u Q I rx ry ⟨_, _, px.int, py.int, by simpa [CMulW] using hs, h.at R (.int _)⟩
    · cases e
  · split at e
    · rename_i hs; cases e
      exact op_fdivN pins s σ H x y v u Q I rx ry ⟨_, _, px.int, py.int, by simpa [CDivN] using hs, h.at R (.int _)⟩
    · cases e
  · split at e
    · rename_i hs; cases e
      exact op_modN pins s σ H x y v u Q I rx ry ⟨_, _, px.int, py.int, hs, h.at R (.int _)⟩
    · cases e
  · split at e
    · rename_i hs; cases e
      simp only [Bool.and_eq_true, decide_eq_true_eq] at hs
      exact op_powW pins s σ H x y v u Q I rx ry ⟨_, _, px.int, py.int, hs, h.at R (.int _)⟩
    · cases e
  · cases e
end
end AW
set_option maxRecDepth 100000
set_option maxHeartbeats 4000000
namespace AW
open PySem L2 PySem.SeqAt
/-! equality where a dict is one of both -/
def DictAt (h : Heap) (a : Addr) : Prop := ∃ es n dd sl, h.get? a = some { cls := .type "dict", dict := dd, data := .dict es n, slots := sl }
open AutoSeq1 (wpAny_loadPart')
open MeetsSeq
theorem str_dec (b : Str) (u : Tok) (l : Addr) (es : Array DictEntry) (n : Nat) (dd : Option Addr) (sl : Array (Option Value)) :
    Meets (Builtin.«str.__eq__» ⟨[.str b u, .ref l], []⟩) (fun _ R s => s.heap.get? l = some { cls := .type "dict", dict := dd, data := .dict es n, slots := sl } ∧ R (.ok (.ret .notImplemented)) s) :=
  .of_wp fun prog w A R s h => by
    obtain ⟨hp, g, d, tk, os⟩ := s
    obtain ⟨hl, h⟩ := h
    wp_walk using wpAny_loadPart' hl, wpAny_load hl
    exact ⟨_, rfl, h⟩
theorem int_dec (b : Int) (u : Tok) (l : Addr) (es : Array DictEntry) (n : Nat) (dd : Option Addr) (sl : Array (Option Value)) :
    Meets (Builtin.«int.__eq__» ⟨[.int b u, .ref l], []⟩) (fun _ R s => s.heap.get? l = some { cls := .type "dict", dict := dd, data := .dict es n, slots := sl } ∧ R (.ok (.ret .notImplemented)) s) :=
  .of_wp fun prog w A R s h => by
    obtain ⟨hp, g, d, tk, os⟩ := s
    obtain ⟨hl, h⟩ := h
    wp_walk using wpAny_loadPart' hl, wpAny_load hl
    exact ⟨_, rfl, h⟩
theorem bool_dec (b : Bool) (l : Addr) (es : Array DictEntry) (n : Nat) (dd : Option Addr) (sl : Array (Option Value)) :
    Meets (Builtin.«int.__eq__» ⟨[.bool b, .ref l], []⟩) (fun _ R s => s.heap.get? l = some { cls := .type "dict", dict := dd, data := .dict es n, slots := sl } ∧ R (.ok (.ret .notImplemented)) s) :=
  .of_wp fun prog w A R s h => by
    obtain ⟨hp, g, d, tk, os⟩ := s
    obtain ⟨hl, h⟩ := h
    wp_walk using wpAny_loadPart' hl, wpAny_load hl
    exact ⟨_, rfl, h⟩
theorem list_dec (l b : Addr) (its : Array Value) (n n2 : Nat) (es : Array DictEntry) (dd dd2 : Option Addr) (sl sl2 : Array (Option Value)) :
    Meets (Builtin.«list.__eq__» ⟨[.ref l, .ref b], []⟩) (fun _ R s => s.heap.get? l = some { cls := .type "list", dict := dd, data := .seq its n, slots := sl } ∧ s.heap.get? b = some { cls := .type "dict", dict := dd2, data := .dict es n2, slots := sl2 } ∧ R (.ok (.ret .notImplemented)) s) :=
  .of_wp fun prog w A R s h => by
    obtain ⟨hp, g, d, tk, os⟩ := s
    obtain ⟨hl, hb, h⟩ := h
    have f1 := PySem.F.sub_dict_list
    wp_walk using wpAny_loadPart' hl, wpAny_loadPart' hb
    exact ⟨_, rfl, h⟩
theorem tuple_dec (l b : Addr) (its : Array Value) (n n2 : Nat) (es : Array DictEntry) (dd dd2 : Option Addr) (sl sl2 : Array (Option Value)) :
    Meets (Builtin.«tuple.__eq__» ⟨[.ref l, .ref b], []⟩) (fun _ R s => s.heap.get? l = some { cls := .type "tuple", dict := dd, data := .seq its n, slots := sl } ∧ s.heap.get? b = some { cls := .type "dict", dict := dd2, data := .dict es n2, slots := sl2 } ∧ R (.ok (.ret .notImplemented)) s) :=
  .of_wp fun prog w A R s h => by
    obtain ⟨hp, g, d, tk, os⟩ := s
    obtain ⟨hl, hb, h⟩ := h
    have f1 := PySem.F.sub_dict_tuple
    wp_walk using wpAny_loadPart' hl, wpAny_loadPart' hb
    exact ⟨_, rfl, h⟩
section
variable {A : Around} {s : Shared} {prog : Program} {w : World} {E : Value → Shared → Prop}
/-- dict.__eq__ of another kind -/
theorem dict_dec {a : Addr} {b : Value} {Tb : String} {nm : Str} {Q : Value → Shared → Prop} (sl : Slot "dict" nm "dict.__eq__") (da : s.TypeIs (.ref a) "dict") (hb : s.TypeIs b Tb) (hs : isSubtype (.type Tb) (.type "dict") = pure false) (hq : Q .notImplemented s) :
    wpAny (model prog w) A (call (.builtin "dict.__eq__") [.ref a, b]) Q E s := by
  refine wpAny_call_entry sl da PySem.F.entry_dict_eq ?_ (PySem.F.args_dict_eq_2 _ _)
  show wpAny _ _ (Builtin.Dict.dictSlotArgs "__eq__" ⟨[.ref a, b], []⟩ >>= _) _ _ s
  refine wpAny_bind ?_
  unfold Builtin.Dict.dictSlotArgs
  refine wpAny_bind (wpAny_notOrdered_dict da (wpAny_pure ?_))
  refine wpAny_bind (wpAny_isInstance (T := Tb) hb hs ?_)
  simp only [Bool.not_false, if_true]
  refine wpAny_bind (wpAny_rule (wpAny_bind (wpAny_pure (wpAny_pure ?_))))
  exact ⟨_, rfl, hq⟩
theorem EqAt.scal {y : Value} {a : Addr} {k : Bool} (hy : ∀ b, y ≠ .ref b) (h : RcAt A s y (.ref a) k) : EqAt A s y (.ref a) k := fun prog w E Q hq => by
  unfold eqBool
  refine wpAny_holding (wpAny_ite_split (fun hab => absurd (eq_of_beq hab) (hy a)) fun _ => ?_)
  cases y <;> first | exact absurd rfl (hy _) | exact wpAny_bind (h prog w E _ (wpAny_truthy_bool hq))
theorem rc_none_dict {l : Addr} (hl : DictAt s.heap l) (hu : A.units < cLine) : RcAt A s .none (.ref l) false := fun prog w E Q h => by
  obtain ⟨es, n, dd, sl, ho⟩ := hl
  exact rc_eq_decline_or (k := false) rfl ⟨_, ho, rfl⟩ (by decide) PySem.F.sub_dict_NoneType PySem.F.slot_NoneType_eq PySem.F.slot_dict_eq_refl
    (fun _ hq => call_gives PySem.F.slot_NoneType_eq rfl PySem.F.entry_NoneType_eq (PySem.F.args_NoneType_eq_2 _ _) (NoneType___eq___none_ref_0 l) hq)
    (fun _ hq => dict_dec PySem.F.slot_dict_eq_refl ⟨_, ho, rfl⟩ (Tb := "NoneType") rfl PySem.F.sub_NoneType_dict hq)
    (fun _ hq => wpAny_of_eq (rfl : isSame .none (.ref l) = pure false) hq) (.inr hu) h
theorem rc_bool_dict {l : Addr} (b : Bool) (hl : DictAt s.heap l) (hu : A.units < cLine) : RcAt A s (.bool b) (.ref l) false := fun prog w E Q h => by
  obtain ⟨es, n, dd, sl, ho⟩ := hl
  exact rc_eq_decline_or (k := false) rfl ⟨_, ho, rfl⟩ (by decide) PySem.F.sub_dict_bool PySem.F.slot_bool_eq PySem.F.slot_dict_eq_refl
    (fun _ hq => call_meets PySem.F.slot_bool_eq rfl PySem.F.entry_int_eq (PySem.F.args_int_eq_2 _ _) (bool_dec b l es n dd sl) ⟨ho, hq⟩)
    (fun _ hq => dict_dec PySem.F.slot_dict_eq_refl ⟨_, ho, rfl⟩ (Tb := "bool") rfl PySem.F.sub_bool_dict hq)
    (fun _ hq => wpAny_of_eq (rfl : isSame (.bool b) (.ref l) = pure false) hq) (.inr hu) h
theorem rc_int_dict {l : Addr} (b : Int) (u : Tok) (hl : DictAt s.heap l) (hu : A.units < cLine) : RcAt A s (.int b u) (.ref l) false := fun prog w E Q h => by
  obtain ⟨es, n, dd, sl, ho⟩ := hl
  exact rc_eq_decline_or (k := false) (typeIs_int s b u) ⟨_, ho, rfl⟩ (by decide) PySem.F.sub_dict_int PySem.F.slot_int_eq PySem.F.slot_dict_eq_refl
    (fun _ hq => call_meets PySem.F.slot_int_eq (typeIs_int s b u) PySem.F.entry_int_eq (PySem.F.args_int_eq_2 _ _) (int_dec b u l es n dd sl) ⟨ho, hq⟩)
    (fun _ hq => dict_dec PySem.F.slot_dict_eq_refl ⟨_, ho, rfl⟩ (typeIs_int s b u) PySem.F.sub_int_dict hq)
    (fun _ hq => wpAny_of_eq (rfl : isSame (.int b u) (.ref l) = pure false) hq) (.inr hu) h
theorem rc_str_dict {l : Addr} (b : Str) (u : Tok) (hl : DictAt s.heap l) (hu : A.units < cLine) : RcAt A s (.str b u) (.ref l) false := fun prog w E Q h => by
  obtain ⟨es, n, dd, sl, ho⟩ := hl
  exact rc_eq_decline_or (k := false) (typeIs_str s b u) ⟨_, ho, rfl⟩ (by decide) PySem.F.sub_dict_str PySem.F.slot_str_eq PySem.F.slot_dict_eq_refl
    (fun _ hq => call_meets PySem.F.slot_str_eq (typeIs_str s b u) PySem.F.entry_str_eq (PySem.F.args_str_eq_2 _ _) (str_dec b u l es n dd sl) ⟨ho, hq⟩)
    (fun _ hq => dict_dec PySem.F.slot_dict_eq_refl ⟨_, ho, rfl⟩ (typeIs_str s b u) PySem.F.sub_str_dict hq)
    (fun _ hq => wpAny_of_eq (rfl : isSame (.str b u) (.ref l) = pure false) hq) (.inr hu) h
theorem rc_dict_none {l : Addr} (hl : DictAt s.heap l) (hu : A.units < cLine) : RcAt A s (.ref l) .none false := fun prog w E Q h => by
  obtain ⟨es, n, dd, sl, ho⟩ := hl
  exact rc_eq_decline_or (k := false) ⟨_, ho, rfl⟩ rfl (by decide) PySem.F.sub_NoneType_dict PySem.F.slot_dict_eq PySem.F.slot_NoneType_eq_refl
    (fun _ hq => dict_dec PySem.F.slot_dict_eq ⟨_, ho, rfl⟩ (Tb := "NoneType") rfl PySem.F.sub_NoneType_dict hq)
    (fun _ hq => call_gives PySem.F.slot_NoneType_eq_refl rfl PySem.F.entry_NoneType_eq (PySem.F.args_NoneType_eq_2 _ _) (NoneType___eq___none_ref_0 l) hq)
    (fun _ hq => wpAny_of_eq (rfl : isSame (.ref l) .none = pure false) hq) (.inr hu) h
theorem rc_dict_bool {l : Addr} (b : Bool) (hl : DictAt s.heap l) (hu : A.units < cLine) : RcAt A s (.ref l) (.bool b) false := fun prog w E Q h => by
  obtain ⟨es, n, dd, sl, ho⟩ := hl
  exact rc_eq_decline_or (k := false) ⟨_, ho, rfl⟩ rfl (by decide) PySem.F.sub_bool_dict PySem.F.slot_dict_eq PySem.F.slot_bool_eq_refl
    (fun _ hq => dict_dec PySem.F.slot_dict_eq ⟨_, ho, rfl⟩ (Tb := "bool") rfl PySem.F.sub_bool_dict hq)
    (fun _ hq => call_meets PySem.F.slot_bool_eq_refl rfl PySem.F.entry_int_eq (PySem.F.args_int_eq_2 _ _) (bool_dec b l es n dd sl) ⟨ho, hq⟩)
    (fun _ hq => wpAny_of_eq (rfl : isSame (.ref l) (.bool b) = pure false) hq) (.inr hu) h
theorem rc_dict_int {l : Addr} (b : Int) (u : Tok) (hl : DictAt s.heap l) (hu : A.units < cLine) : RcAt A s (.ref l) (.int b u) false := fun prog w E Q h => by
  obtain ⟨es, n, dd, sl, ho⟩ := hl
  exact rc_eq_decline_or (k := false) ⟨_, ho, rfl⟩ (typeIs_int s b u) (by decide) PySem.F.sub_int_dict PySem.F.slot_dict_eq PySem.F.slot_int_eq_refl
    (fun _ hq => dict_dec PySem.F.slot_dict_eq ⟨_, ho, rfl⟩ (typeIs_int s b u) PySem.F.sub_int_dict hq)
    (fun _ hq => call_meets PySem.F.slot_int_eq_refl (typeIs_int s b u) PySem.F.entry_int_eq (PySem.F.args_int_eq_2 _ _) (int_dec b u l es n dd sl) ⟨ho, hq⟩)
    (fun _ hq => wpAny_of_eq (rfl : isSame (.ref l) (.int b u) = pure false) hq) (.inr hu) h
theorem rc_dict_str {l : Addr} (b : Str) (u : Tok) (hl : DictAt s.heap l) (hu : A.units < cLine) : RcAt A s (.ref l) (.str b u) false := fun prog w E Q h => by
  obtain ⟨es, n, dd, sl, ho⟩ := hl
  exact rc_eq_decline_or (k := false) ⟨_, ho, rfl⟩ (typeIs_str s b u) (by decide) PySem.F.sub_str_dict PySem.F.slot_dict_eq PySem.F.slot_str_eq_refl
    (fun _ hq => dict_dec PySem.F.slot_dict_eq ⟨_, ho, rfl⟩ (typeIs_str s b u) PySem.F.sub_str_dict hq)
    (fun _ hq => call_meets PySem.F.slot_str_eq_refl (typeIs_str s b u) PySem.F.entry_str_eq (PySem.F.args_str_eq_2 _ _) (str_dec b u l es n dd sl) ⟨ho, hq⟩)
    (fun _ hq => wpAny_of_eq (rfl : isSame (.ref l) (.str b u) = pure false) hq) (.inr hu) h
theorem rc_dict_seq {l b : Addr} {its : Array Value} (hl : DictAt s.heap l) (hb : s.heap.IsList b its ∨ s.heap.IsTuple b its) (hu : A.units < cLine) : RcAt A s (.ref l) (.ref b) false := fun prog w E Q h => by
  obtain ⟨es, n, dd, sl, ho⟩ := hl
  rcases hb with hb | hb
  all_goals
    obtain ⟨⟨cls, d2, data, sl2⟩, ho2, hc, n2, hd⟩ := hb
    simp only at hc hd
    subst hc hd
    have hne : l ≠ b := fun e => by
      subst e
      have q := congrArg (Option.map Obj.cls) (ho.symm.trans ho2)
      simp at q
  · exact rc_eq_decline_or (k := false) ⟨_, ho, rfl⟩ ⟨_, ho2, rfl⟩ (by decide) PySem.F.sub_list_dict PySem.F.slot_dict_eq PySem.F.slot_list_eq_refl
      (fun _ hq => dict_dec PySem.F.slot_dict_eq ⟨_, ho, rfl⟩ ⟨_, ho2, rfl⟩ PySem.F.sub_list_dict hq)
      (fun _ hq => call_meets PySem.F.slot_list_eq_refl ⟨_, ho2, rfl⟩ PySem.F.entry_list_eq (PySem.F.args_list_eq_2 _ _) (list_dec b l its n2 n es d2 dd sl2 sl) ⟨ho2, ho, hq⟩)
      (fun _ hq => wpAny_isSame_ref_other' hne ho ho2 (by simp) hq) (.inr hu) h
  · exact rc_eq_decline_or (k := false) ⟨_, ho, rfl⟩ ⟨_, ho2, rfl⟩ (by decide) PySem.F.sub_tuple_dict PySem.F.slot_dict_eq PySem.F.slot_tuple_eq_refl
      (fun _ hq => dict_dec PySem.F.slot_dict_eq ⟨_, ho, rfl⟩ ⟨_, ho2, rfl⟩ PySem.F.sub_tuple_dict hq)
      (fun _ hq => call_meets PySem.F.slot_tuple_eq_refl ⟨_, ho2, rfl⟩ PySem.F.entry_tuple_eq (PySem.F.args_tuple_eq_2 _ _) (tuple_dec b l its n2 n es d2 dd sl2 sl) ⟨ho2, ho, hq⟩)
      (fun _ hq => wpAny_isSame_ref_other hne ho ho2 (by simp) hq) (.inr hu) h
theorem rc_seq_dict {l b : Addr} {its : Array Value} (hl : s.heap.IsList l its ∨ s.heap.IsTuple l its) (hb : DictAt s.heap b) (hu : A.units < cLine) : RcAt A s (.ref l) (.ref b) false := fun prog w E Q h => by
  obtain ⟨es, n, dd, sl, ho⟩ := hb
  rcases hl with hl | hl
  all_goals
    obtain ⟨⟨cls, d2, data, sl2⟩, ho2, hc, n2, hd⟩ := hl
    simp only at hc hd
    subst hc hd
    have hne : l ≠ b := fun e => by
      subst e
      have q := congrArg (Option.map Obj.cls) (ho.symm.trans ho2)
      simp at q
  · exact rc_eq_decline_or (k := false) ⟨_, ho2, rfl⟩ ⟨_, ho, rfl⟩ (by decide) PySem.F.sub_dict_list PySem.F.slot_list_eq PySem.F.slot_dict_eq_refl
      (fun _ hq => call_meets PySem.F.slot_list_eq ⟨_, ho2, rfl⟩ PySem.F.entry_list_eq (PySem.F.args_list_eq_2 _ _) (list_dec l b its n2 n es d2 dd sl2 sl) ⟨ho2, ho, hq⟩)
      (fun _ hq => dict_dec PySem.F.slot_dict_eq_refl ⟨_, ho, rfl⟩ ⟨_, ho2, rfl⟩ PySem.F.sub_list_dict hq)
      (fun _ hq => wpAny_isSame_ref_other' hne ho2 ho (by simp) hq) (.inr hu) h
  · exact rc_eq_decline_or (k := false) ⟨_, ho2, rfl⟩ ⟨_, ho, rfl⟩ (by decide) PySem.F.sub_dict_tuple PySem.F.slot_tuple_eq PySem.F.slot_dict_eq_refl
      (fun _ hq => call_meets PySem.F.slot_tuple_eq ⟨_, ho2, rfl⟩ PySem.F.entry_tuple_eq (PySem.F.args_tuple_eq_2 _ _) (tuple_dec l b its n2 n es d2 dd sl2 sl) ⟨ho2, ho, hq⟩)
      (fun _ hq => dict_dec PySem.F.slot_dict_eq_refl ⟨_, ho, rfl⟩ ⟨_, ho2, rfl⟩ PySem.F.sub_tuple_dict hq)
      (fun _ hq => wpAny_isSame_ref_other' hne ho2 ho (by simp) hq) (.inr hu) h
end
/-! ### by data -/
section
variable {X : Cx} {pins : List (Addr × Obj)} {σ : L2.St} {H F : Hp} {s : Shared}
theorem dict_at (I : L2.Inv X pins σ H s) {a : Addr} {kvs : List (Key × V)} (h : Rd H a (.dK kvs)) : DictAt s.heap a ∧ (a == sysModules) = false ∧ ∃ vs, KV kvs vs ∧ s.heap.DictOf (mixKind X.prog X.w) a vs := by
  have key : ObjOk X.prog X.w H s.heap a (.dK kvs) := by
    rcases h with h | ⟨o, h⟩
    · exact I.hok a _ h
    · exact (I.hok a _ h).2
  obtain ⟨hz, hy, vs, kv, d⟩ := key
  refine ⟨?_, hy, vs, kv, d⟩
  obtain ⟨⟨oc, od, odt, osl⟩, es, ep, e, c, dd, _⟩ := id d
  have c1 : oc = .type "dict" := c.1
  simp only at dd
  subst c1 dd
  exact ⟨es, ep, od, osl, e⟩
/-- a dict and a datum of another kind -/
theorem rc_dct_other (I : L2.Inv X pins σ H s) (S : Ext F H) {a b : V} {ua ub : Value} {ks vs : List D} {d : D} (ra : RelV a ua) (rb : RelV b ub) (pa : PV X.K F H a (.dct ks vs)) (pb : PV X.K F H b d) (hd : d.isDct = false) (hu : X.A.units < cLine) : RcAt X.A s ua ub false := by
  obtain ⟨q, kvs, rfl, h1, _⟩ := pa.dct S
  cases ra
  have dc := (dict_at I h1).1
  cases d with
  | non => rw [pb.non] at rb; cases rb; exact rc_dict_none dc hu
  | bl z => rw [pb.bl] at rb; cases rb; exact rc_dict_bool z dc hu
  | int z => rw [pb.int] at rb; obtain ⟨t, rfl⟩ := rb; exact rc_dict_int z t dc hu
  | str z => rw [pb.str] at rb; obtain ⟨t, rfl⟩ := rb; exact rc_dict_str z t dc hu
  | tup ds =>
    obtain ⟨p, us, rfl, h2, r2⟩ := pb.tup
    cases rb
    obtain ⟨its, r, pl, _⟩ := I.tuple (S.t h2)
    exact rc_dict_seq dc (.inr pl) hu
  | lst ds =>
    obtain ⟨p, us, rfl, h2, r2⟩ := pb.lst S
    cases rb
    obtain ⟨its, r, pl, _⟩ := I.list h2
    exact rc_dict_seq dc (.inl pl.isList) hu
  | dct _ _ => cases hd
theorem rc_other_dct (I : L2.Inv X pins σ H s) (S : Ext F H) {a b : V} {ua ub : Value} {ks vs : List D} {d : D} (ra : RelV a ua) (rb : RelV b ub) (pa : PV X.K F H a d) (pb : PV X.K F H b (.dct ks vs)) (hd : d.isDct = false) (hu : X.A.units < cLine) : RcAt X.A s ua ub false := by
  obtain ⟨q, kvs, rfl, h1, _⟩ := pb.dct S
  cases rb
  have dc := (dict_at I h1).1
  cases d with
  | non => rw [pa.non] at ra; cases ra; exact rc_none_dict dc hu
  | bl z => rw [pa.bl] at ra; cases ra; exact rc_bool_dict z dc hu
  | int z => rw [pa.int] at ra; obtain ⟨t, rfl⟩ := ra; exact rc_int_dict z t dc hu
  | str z => rw [pa.str] at ra; obtain ⟨t, rfl⟩ := ra; exact rc_str_dict z t dc hu
  | tup ds =>
    obtain ⟨p, us, rfl, h2, r2⟩ := pa.tup
    cases ra
    obtain ⟨its, r, pl, _⟩ := I.tuple (S.t h2)
    exact rc_seq_dict (.inr pl) dc hu
  | lst ds =>
    obtain ⟨p, us, rfl, h2, r2⟩ := pa.lst S
    cases ra
    obtain ⟨its, r, pl, _⟩ := I.list h2
    exact rc_seq_dict (.inl pl.isList) dc hu
  | dct _ _ => cases hd
/-- a dict and an empty one -/
theorem rc_dct_dct (I : L2.Inv X pins σ H s) (S : Ext F H) {a b : V} {ua ub : Value} {ks vs ks' vs' : List D} (ra : RelV a ua) (rb : RelV b ub) (pa : PV X.K F H a (.dct ks vs)) (pb : PV X.K F H b (.dct ks' vs')) (he : ks = [] ∨ ks' = []) (hu : X.A.units < cLine)
    {E Q : Value → Shared → Prop} (h : Q (.bool (ks.isEmpty && ks'.isEmpty)) s) : wpAny (model X.prog X.w) X.A (richCompare .Eq ua ub) Q E s := by
  obtain ⟨q, kvs, rfl, h1, e1, _⟩ := pa.dct S
  obtain ⟨q', kvs', rfl, h1', e1', _⟩ := pb.dct S
  cases ra
  cases rb
  obtain ⟨_, y, us, kv, d⟩ := dict_at I h1
  obtain ⟨_, y', us', kv', d'⟩ := dict_at I h1'
  have l1 : ks.length = us.length := by rw [← e1, List.length_map]; exact kv.length
  have l2 : ks'.length = us'.length := by rw [← e1', List.length_map]; exact kv'.length
  refine PySem.W.rcP_dicts (knd := mixKind X.prog X.w) (r := true) y y' d d' hu (fun el => ?_) E Q ?_
  · have : us = [] := by
      rcases he with rfl | rfl
      · exact List.length_eq_zero_iff.mp l1.symm
      · have : us'.length = 0 := l2.symm
        exact List.length_eq_zero_iff.mp (by omega)
    subst this
    exact .nil
  · have e : (us.length == us'.length && true) = (ks.isEmpty && ks'.isEmpty) := by
      rw [← l1, ← l2]
      rcases he with rfl | rfl
      · cases ks' <;> simp
      · cases ks <;> simp
    rw [e]; exact h
/-- a tuple and the empty one -/
theorem rc_tup_nil (I : L2.Inv X pins σ H s) (S : Ext F H) {a b : V} {ua ub : Value} {ds : List D} (ra : RelV a ua) (rb : RelV b ub) (pa : PV X.K F H a (.tup ds)) (pb : PV X.K F H b (.tup [])) (hu : X.A.units < cLine) : RcAt X.A s ua ub ds.isEmpty := by
  obtain ⟨p, us, rfl, h2, r2⟩ := pa.tup
  obtain ⟨p', us', rfl, h2', r2'⟩ := pb.tup
  cases ra
  cases rb
  cases r2'
  obtain ⟨its, r, pl, _⟩ := I.tuple (S.t h2)
  obtain ⟨its', r', pl', _⟩ := I.tuple (S.t h2')
  cases r'
  have q := RcAt.tuples (e := fun _ => true) pl pl' hu (fun j h1 h2 => absurd h2 (by simp))
  have e : ((List.range (min its.toArray.size ([] : List Value).toArray.size)).all (fun _ => true) && its.toArray.size == ([] : List Value).toArray.size) = ds.isEmpty := by
    have l1 := r2.length
    have l2 := r.length
    cases ds with
    | nil => simp at l1; subst l1; simp at l2; simp [List.length_eq_zero_iff.mp l2.symm]
    | cons _ _ =>
      have : its.length ≠ 0 := by simp at l1; omega
      simp [this]
  rw [e] at q
  exact q
theorem rc_lst_nil (I : L2.Inv X pins σ H s) (S : Ext F H) {a b : V} {ua ub : Value} {ds : List D} (ra : RelV a ua) (rb : RelV b ub) (pa : PV X.K F H a (.lst ds)) (pb : PV X.K F H b (.lst [])) (hu : X.A.units < cLine) : RcAt X.A s ua ub ds.isEmpty := by
  obtain ⟨p, us, rfl, h2, r2⟩ := pa.lst S
  obtain ⟨p', us', rfl, h2', r2'⟩ := pb.lst S
  cases ra
  cases rb
  cases r2'
  obtain ⟨its, r, pl, _⟩ := I.list h2
  obtain ⟨its', r', pl', _⟩ := I.list h2'
  cases r'
  have l1 := r2.length
  have l2 := r.length
  cases ds with
  | nil =>
    have e : its = [] := by
      simp at l1; subst l1
      exact List.length_eq_zero_iff.mp (by simpa using l2.symm)
    subst e
    have q := RcAt.lists (e := fun _ => true) pl.isList pl'.isList rfl hu (fun j h1 h2 => absurd h2 (by simp))
    have e2 : (List.range ([] : List Value).toArray.size).all (fun _ => true) = true := by simp
    rw [e2] at q
    exact q
  | cons d ds =>
    have hn : its.length ≠ 0 := by simp at l1; omega
    exact RcAt.lists_lengths pl.isList pl'.isList (by simp [hn]) hu
/-- a flat datum and a list, a tuple, a dict -/
theorem eq_scal_box (I : L2.Inv X pins σ H s) (S : Ext F H) {A : Around} {a b : V} {ua ub : Value} {d e : D} (ra : RelV a ua) (rb : RelV b ub) (pa : PV X.K F H a d) (pb : PV X.K F H b e) (hd : scalD d = true) (he : scalD e = false) (hu : A.units < cLine) : EqAt A s ua ub false := by
  have nr : ∀ z, ua ≠ .ref z := by
    intro z q
    cases d <;> simp [scalD] at hd
    · rw [pa.non] at ra; cases ra; cases q
    · rw [pa.bl] at ra; cases ra; cases q
    · rw [pa.int] at ra; obtain ⟨t, rfl⟩ := ra; cases q
    · rw [pa.str] at ra; obtain ⟨t, rfl⟩ := ra; cases q
  cases e <;> simp [scalD] at he
  · rename_i ds
    obtain ⟨p, us, rfl, h2, r2⟩ := pb.tup
    cases rb
    obtain ⟨its, r, pl, _⟩ := I.tuple (S.t h2)
    cases d <;> simp [scalD] at hd
    · rw [pa.non] at ra; cases ra; exact .none_tuple pl hu
    · rw [pa.bl] at ra; cases ra; exact .bool_tuple _ pl hu
    · rw [pa.int] at ra; obtain ⟨t, rfl⟩ := ra; exact .int_tuple _ _ pl hu
    · rw [pa.str] at ra; obtain ⟨t, rfl⟩ := ra; exact .str_tuple _ _ pl hu
  · rename_i ds
    obtain ⟨p, us, rfl, h2, r2⟩ := pb.lst S
    cases rb
    obtain ⟨its, r, pl, _⟩ := I.list h2
    cases d <;> simp [scalD] at hd
    · rw [pa.non] at ra; cases ra; exact .none_list pl.isList hu
    · rw [pa.bl] at ra; cases ra; exact .bool_list _ pl.isList hu
    · rw [pa.int] at ra; obtain ⟨t, rfl⟩ := ra; exact .int_list _ _ pl.isList hu
    · rw [pa.str] at ra; obtain ⟨t, rfl⟩ := ra; exact .str_list _ _ pl.isList hu
  · rename_i ks vs
    obtain ⟨q, kvs, rfl, h1, _⟩ := pb.dct S
    cases rb
    have dc := (dict_at I h1).1
    refine EqAt.scal nr ?_
    cases d <;> simp [scalD] at hd
    · rw [pa.non] at ra; cases ra; exact rc_none_dict dc hu
    · rw [pa.bl] at ra; cases ra; exact rc_bool_dict _ dc hu
    · rw [pa.int] at ra; obtain ⟨t, rfl⟩ := ra; exact rc_int_dict _ _ dc hu
    · rw [pa.str] at ra; obtain ⟨t, rfl⟩ := ra; exact rc_str_dict _ _ dc hu
theorem reps_vals_mem {K : Frag} : ∀ {us : List V} {ds : List D} {its : List Value} {y : Value}, Reps K F us ds → Vals us its → y ∈ its → ∃ u d, d ∈ ds ∧ Rep K F u d ∧ RelV u y
  | _, _, _, _, .nil, .nil, h => by cases h
  | _, _, _, _, .cons h r, .cons q rs, hy => by
    rcases List.mem_cons.mp hy with rfl | hy
    · exact ⟨_, _, List.mem_cons_self, h, q⟩
    · obtain ⟨u, d, h1, h2, h3⟩ := reps_vals_mem r rs hy
      exact ⟨u, d, List.mem_cons_of_mem _ h1, h2, h3⟩
/-- a list, a tuple, a dict is in no row of flat data -/
theorem in_box (I : L2.Inv X pins σ H s) (S : Ext F H) {a b : V} {ua ub : Value} {d e : D} (ra : RelV a ua) (rb : RelV b ub) (pa : PV X.K F H a d) (pb : PV X.K F H b e) (hd : scalD d = false) {ds : List D} (he : e = .tup ds ∨ e = .lst ds) (hs : ds.all scalD = true) (hu : X.A.units + 64 < cLine)
    {E Q : Value → Shared → Prop} : (Q (.bool false) s → wpAny (model X.prog X.w) X.A (compareOp .In ua ub) Q E s) ∧ (Q (.bool true) s → wpAny (model X.prog X.w) X.A (compareOp .NotIn ua ub) Q E s) := by
  have h1 : X.A.in1.units < cLine := by show X.A.units + 1 < cLine; omega
  have key : ∀ {us : List V} {its : List Value}, Reps X.K F us ds → Vals us its → ∀ y, y ∈ its.toArray → EqAt X.A.in1 s y ua false := fun {us its} r rs y hy => by
    obtain ⟨u, d', hm, q1, q2⟩ := reps_vals_mem r rs (by simpa using hy)
    exact eq_scal_box I S q2 ra (.inl q1) pa (List.all_eq_true.mp hs d' hm) hd h1
  have nf : ∀ its : List Value, its.toArray.any (fun _ => false) = false := fun its => by simp
  rcases he with rfl | rfl
  · obtain ⟨p, us, rfl, h2, r2⟩ := pb.tup
    cases rb
    obtain ⟨its, r, pl, _⟩ := I.tuple (S.t h2)
    exact ⟨fun q => in_tupleAt (fun _ => false) pl (key r2 r) (by rw [nf]; exact q), fun q => notIn_tupleAt (fun _ => false) pl (key r2 r) (by rw [nf]; exact q)⟩
  · obtain ⟨p, us, rfl, h2, r2⟩ := pb.lst S
    cases rb
    obtain ⟨its, r, pl, _⟩ := I.list h2
    exact ⟨fun q => in_listAt (fun _ => false) pl.isList (key r2 r) (by rw [nf]; exact q), fun q => notIn_listAt (fun _ => false) pl.isList (key r2 r) (by rw [nf]; exact q)⟩
end
end AW
set_option maxRecDepth 100000
namespace AW
open PySem L2
section
variable {K : Frag} {F H : Hp}
theorem PV.any_lst {u : V} {d : D} (h : PV K F H u d) (S : Ext F H) {ds : List D} (e : d = .lst ds) : ∃ a vs, u = .ref a ∧ SqL K H a vs ∧ Reps K F vs ds := by subst e; exact h.lst S
theorem Rep.isN {u : V} {d : D} (h : PV K F H u d) : decide (u = .non) = d.isNon := by
  rcases h with h | ⟨a, vs, ds, rfl, rfl, _⟩ | ⟨a, kvs, ks, vs, rfl, rfl, _⟩
  · cases h <;> rfl
  · rfl
  · rfl
theorem PV.flat {u : V} {d : D} (h : PV K F H u d) (e : scalD d = true) : flatV u = true := by
  cases d <;> simp [scalD] at e
  · rw [h.non]; rfl
  · rw [h.bl]; rfl
  · rw [h.int]; rfl
  · rw [h.str]; rfl
theorem Rep.pv {u : V} {d : D} (h : Rep K F u d) : PV K F H u d := .inl h
theorem Reps.flat : ∀ {vs : List V} {ds : List D}, Reps K F vs ds → ds.all scalD = true → vs.all flatV = true
  | _, _, .nil, _ => rfl
  | _, _, .cons h r, e => by
    rw [List.all_cons, Bool.and_eq_true] at e ⊢
    exact ⟨PV.flat (H := F) (.inl h) e.1, Reps.flat r e.2⟩
theorem eqV_eqS {u w : V} {d e : D} (h1 : PV K F H u d) (h2 : PV K F H w e) (s1 : scalD d = true) (s2 : scalD e = true) : eqV u w = eqS d e := by
  cases d <;> simp [scalD] at s1 <;> cases e <;> simp [scalD] at s2 <;> (first | rw [h1.non] | rw [h1.bl] | rw [h1.int] | rw [h1.str]) <;> (first | rw [h2.non] | rw [h2.bl] | rw [h2.int] | rw [h2.str]) <;> rfl
theorem inV_eq {w : V} {e : D} (h2 : PV K F H w e) (s2 : scalD e = true) : ∀ {vs : List V} {ds : List D}, Reps K F vs ds → ds.all scalD = true → inV w vs = ds.any fun z => eqS z e
  | _, _, .nil, _ => rfl
  | _, _, .cons h r, q => by
    rw [List.all_cons, Bool.and_eq_true] at q
    show (eqV _ w || inV w _) = (eqS _ e || _)
    rw [eqV_eqS (H := H) (.inl h) h2 q.1 s2, inV_eq h2 s2 r q.2]
theorem atI_reps {vs : List V} {ds : List D} {i : Int} {d : D} (r : Reps K F vs ds) (e : atI ds i = some d) : ∃ v, atI vs i = some v ∧ Rep K F v d := by
  unfold atI at e ⊢
  rw [r.length]
  cases q : ixN ds.length i with
  | none => rw [q] at e; cases e
  | some j => rw [q] at e; exact r.get e
theorem Reps.cut {vs : List V} {ds : List D} (r : Reps K F vs ds) (lo hi : Option Int) : Reps K F (cutV vs lo hi) (cutD ds lo hi) := by
  unfold cutV cutD
  rw [r.length]
  exact (r.drop _).take _
end
section
variable {X : Cx} {W : Wsh} {a b c : Expr} {oa ob oc : Ex} {pos : Pos}
/-! ### comparisons -/
theorem eqN_ok (hu : X.A.units + 64 < cLine) {pins : List (Addr × Obj)} {s : Shared} {σ : L2.St} {H F : Hp} {x y : V} {v u : Value} {dx dy : D} {k : Bool} {Q : VK} (I : L2.Inv X pins σ H s) (S : Ext F H) (rx : RelV x v) (ry : RelV y u) (px : PV X.K F H x dx) (py : PV X.K F H y dy) (ec : eqN dx dy = some k) :
    (Q (.bl k) H → wpAny (model X.prog X.w) X.A (compareOp .Eq v u) (EP X pins σ Q) X.xe s) ∧ (Q (.bl !k) H → wpAny (model X.prog X.w) X.A (compareOp .NotEq v u) (EP X pins σ Q) X.xe s) := by
  unfold eqN at ec
  split at ec
  · cases ec
    rename_i a b
    have hs : scal x y = true := by rw [px.str, py.str]; rfl
    have e : decide (x = y) = (a == b) := by
      rw [px.str, py.str, Bool.eq_iff_iff]
      simp
    exact ⟨fun hq => op_eq pins s σ H x y v u Q I rx ry ⟨hs, by rw [e]; exact hq⟩, fun hq => op_ne pins s σ H x y v u Q I rx ry ⟨hs, by rw [e]; exact hq⟩⟩
  · unfold eqPy at ec
    split at ec
    · rename_i p q e1 e2
      split at ec
      · rename_i hs; cases ec
        rw [Bool.and_eq_true] at hs
        exact ⟨fun hq => op_eqD hu pins s σ H x y v u Q I rx ry ⟨p, q, px.dp S e1, py.dp S e2, hs.1, hs.2, hq⟩, fun hq => op_neD hu pins s σ H x y v u Q I rx ry ⟨p, q, px.dp S e1, py.dp S e2, hs.1, hs.2, hq⟩⟩
      · cases ec
    · cases ec
theorem eqD_ok (hu : X.A.units + 64 < cLine) {pins : List (Addr × Obj)} {s : Shared} {σ : L2.St} {H F : Hp} {x y : V} {v u : Value} {dx dy : D} {k : Bool} {Q : VK} (I : L2.Inv X pins σ H s) (S : Ext F H) (rx : RelV x v) (ry : RelV y u) (px : PV X.K F H x dx) (py : PV X.K F H y dy) (ec : eqD dx dy = some k)
    (hq : Q (.bl k) H) : wpAny (model X.prog X.w) X.A (compareOp .Eq v u) (EP X pins σ Q) X.xe s := by
  have hu0 : X.A.units < cLine := by omega
  have go : ∀ k', k' = k → SeqAt.RcAt X.A s v u k' → wpAny (model X.prog X.w) X.A (compareOp .Eq v u) (EP X pins σ Q) X.xe s := fun k' e r => by
    subst e
    exact r X.prog X.w _ _ ⟨.bl _, H, I, rfl, hq⟩
  unfold eqD at ec
  cases en : eqN dx dy with
  | some k' => rw [en] at ec; cases ec; exact (eqN_ok hu I S rx ry px py en).1 hq
  | none =>
    rw [en] at ec
    simp only at ec
    unfold eqO at ec
    split at ec
    · split at ec
      · rename_i ks _ ks' _ hs
        cases ec
        exact rc_dct_dct I S rx ry px py (by
          simp only [Bool.or_eq_true, List.isEmpty_iff] at hs
          exact hs) hu0 ⟨.bl _, H, I, rfl, hq⟩
      · cases ec
    · cases ec
      exact go _ rfl (rc_tup_nil I S rx ry px py hu0)
    · cases ec
      exact go _ rfl (rc_lst_nil I S rx ry px py hu0)
    · split at ec
      · rename_i n1 _ _ hs
        cases ec
        cases hx : dx.isDct with
        | true =>
          cases dx <;> simp [D.isDct] at hx
          refine go _ rfl (rc_dct_other I S rx ry px py ?_ hu0)
          cases dy <;> first | rfl | exact absurd rfl (n1 _ _ _ _ rfl)
        | false =>
          have hy : dy.isDct = true := by simpa [hx] using hs
          cases dy <;> simp [D.isDct] at hy
          exact go _ rfl (rc_other_dct I S rx ry px py hx hu0)
      · cases ec
theorem op_cmp (hu : X.A.units + 64 < cLine) (op : CmpOp) : OpR X (compareOp op) (r2 X.K W (cmpV op)) := by
  intro pins s σ H x y v u Q I rx ry h
  obtain ⟨φ, F, m, dx, dy, z, R, px, py, e, h⟩ := h
  unfold cmpV at e
  cases ec : cmpD op dx dy with
  | none => rw [ec] at e; cases e
  | some k =>
    rw [ec] at e; cases e
    have hq : Q (.bl k) H := h.at R (.bl k)
    unfold cmpD at ec
    split at ec
    · exact eqD_ok hu I R.sub rx ry px py ec hq
    · cases en : eqN dx dy with
      | none => rw [en] at ec; cases ec
      | some k' => rw [en] at ec; cases ec; exact (eqN_ok hu I R.sub rx ry px py en).2 hq
    · cases ec; exact op_lt pins s σ H x y v u Q I rx ry ⟨_, _, px.int, py.int, hq⟩
    · cases ec; exact op_le pins s σ H x y v u Q I rx ry ⟨_, _, px.int, py.int, hq⟩
    · cases ec; exact op_gt pins s σ H x y v u Q I rx ry ⟨_, _, px.int, py.int, hq⟩
    · cases ec; exact op_ge pins s σ H x y v u Q I rx ry ⟨_, _, px.int, py.int, hq⟩
    · cases ec; exact op_lt_str pins s σ H x y v u Q I rx ry ⟨_, _, px.str, py.str, hq⟩
    · cases ec; exact op_le_str pins s σ H x y v u Q I rx ry ⟨_, _, px.str, py.str, hq⟩
    · cases ec; exact op_gt_str pins s σ H x y v u Q I rx ry ⟨_, _, px.str, py.str, hq⟩
    · cases ec; exact op_ge_str pins s σ H x y v u Q I rx ry ⟨_, _, px.str, py.str, hq⟩
    · cases ec
      refine op_isN pins s σ H x y v u Q I rx ry ⟨py.non, ?_⟩
      rw [Rep.isN px]; exact hq
    · cases ec
      refine op_notN pins s σ H x y v u Q I rx ry ⟨py.non, ?_⟩
      rw [Rep.isN px]; exact hq
    · cases ec
      refine op_isBl pins s σ H x y v u Q I rx ry ⟨_, _, px.bl, py.bl, ?_⟩
      exact hq
    · cases ec
      refine op_notBl pins s σ H x y v u Q I rx ry ⟨_, _, px.bl, py.bl, ?_⟩
      exact hq
    · split at ec
      · rename_i hs
        cases hx : scalD dx with
        | true =>
          rw [hx] at ec; cases ec
          obtain ⟨p, vs, rfl, h1, r1⟩ := py.tup
          refine op_in_seq pins s σ H x _ v u Q I rx ry ⟨p, vs, rfl, .inr (R.sub.t h1), px.flat hx, r1.flat hs, ?_⟩
          rw [inV_eq px hx r1 hs]; exact hq
        | false => rw [hx] at ec; cases ec; exact (in_box I R.sub rx ry px py hx (.inl rfl) hs hu).1 ⟨.bl _, H, I, rfl, hq⟩
      · cases ec
    · split at ec
      · rename_i hs
        cases hx : scalD dx with
        | true =>
          rw [hx] at ec; cases ec
          obtain ⟨p, vs, rfl, h1, r1⟩ := py.tup
          refine op_notIn_seq pins s σ H x _ v u Q I rx ry ⟨p, vs, rfl, .inr (R.sub.t h1), px.flat hx, r1.flat hs, ?_⟩
          rw [inV_eq px hx r1 hs]; exact hq
        | false => rw [hx] at ec; cases ec; exact (in_box I R.sub rx ry px py hx (.inl rfl) hs hu).2 ⟨.bl _, H, I, rfl, hq⟩
      · cases ec
    · split at ec
      · rename_i hs
        cases hx : scalD dx with
        | true =>
          rw [hx] at ec; cases ec
          obtain ⟨p, vs, rfl, h1, r1⟩ := py.lst R.sub
          refine op_in_seq pins s σ H x _ v u Q I rx ry ⟨p, vs, rfl, .inl h1, px.flat hx, r1.flat hs, ?_⟩
          rw [inV_eq px hx r1 hs]; exact hq
        | false => rw [hx] at ec; cases ec; exact (in_box I R.sub rx ry px py hx (.inr rfl) hs hu).1 ⟨.bl _, H, I, rfl, hq⟩
      · cases ec
    · split at ec
      · rename_i hs
        cases hx : scalD dx with
        | true =>
          rw [hx] at ec; cases ec
          obtain ⟨p, vs, rfl, h1, r1⟩ := py.lst R.sub
          refine op_notIn_seq pins s σ H x _ v u Q I rx ry ⟨p, vs, rfl, .inl h1, px.flat hx, r1.flat hs, ?_⟩
          rw [inV_eq px hx r1 hs]; exact hq
        | false => rw [hx] at ec; cases ec; exact (in_box I R.sub rx ry px py hx (.inr rfl) hs hu).2 ⟨.bl _, H, I, rfl, hq⟩
      · cases ec
    · cases ec
      exact op_in_sign pins s σ H x y v u Q I rx ry ⟨_, _, px.str, py.str, hq⟩
    · cases ec
      exact op_notIn_sign pins s σ H x y v u Q I rx ry ⟨_, _, px.str, py.str, hq⟩
    · cases ec
theorem snd_cmp (hu : X.A.units + 64 < cLine) {op : CmpOp} (ha : PE X a (rdE X.K W oa)) (hb : PE X b (rdE X.K W ob)) (hm : behindInMarks op b = false) : PE X (.Compare a [op] [b] pos) (rdE X.K W (ev2 (cmpV op) oa ob)) :=
  PEmono (pe_cmpR (op_cmp hu op) ha hb hm) fun _ _ _ h => rd_ev2 h
theorem truV_ok {K : Frag} {φ : Nat → Addr} {F : Hp} {m : Store} {H : Hp} {u : V} {v : Val} {d : D} {k : Bool} (R : RelS K φ F m H) (r : RepV K φ F m u v) (e : peek m v = some d) (t : truD d = some k) : TruV K u H k := by
  have p := pv_of R r e
  cases d with
  | non => rw [p.non]; exact (Option.some.inj t).symm
  | bl b => rw [p.bl]; exact (Option.some.inj t).symm
  | int i => rw [p.int]; exact (Option.some.inj t).symm
  | str s =>
    rw [p.str]
    simp only [truD] at t
    split at t
    · rename_i hs
      refine ⟨of_decide_eq_true hs, ?_⟩
      cases t
      show (s.length != 0) = ((s.length : Int) != 0)
      by_cases h0 : s.length = 0
      · rw [h0]; rfl
      · have h1 : ¬ ((s.length : Int) = 0) := by omega
        rw [bne_iff_ne.mpr h0, bne_iff_ne.mpr h1]
    · cases t
  | tup ds =>
    obtain ⟨a, vs, rfl, h1, r1⟩ := p.tup
    simp only [truD, Option.some.injEq] at t
    refine .inr (.inl ⟨vs, R.sub.t h1, ?_⟩)
    rw [← t]; cases r1 <;> rfl
  | lst ds =>
    obtain ⟨a, vs, rfl, h1, r1⟩ := p.lst R.sub
    simp only [truD, Option.some.injEq] at t
    refine .inl ⟨vs, h1, ?_⟩
    rw [← t]; cases r1 <;> rfl
  | dct ks vs => cases t
theorem Post.tru {γ δ : Type} {K : Frag} {φ : Nat → Addr} {F : Hp} {m : Store} {H : Hp} {u : V} {v : Val} {Rc : (Nat → Addr) → Hp → Store → δ → γ → Prop} {k : Bool → Store → Out γ} {Q : δ → Hp → Prop} (R : RelS K φ F m H) (r : RepV K φ F m u v) (h : Post K W Rc φ F m H ((truV v m).bind k) Q) : ∃ b, truV v m = .ok b m ∧ TruV K u H b ∧ Post K W Rc φ F m H (k b m) Q := by
  unfold truV at h ⊢
  cases e : peek m v with
  | none => rw [e] at h; exact h.elim
  | some d =>
    rw [e] at h
    cases t : truD d with
    | none =>
      have h2 : Post K W Rc φ F m H ((AW.lift m (truD d)).bind k) Q := h
      rw [t] at h2; exact h2.elim
    | some b =>
      have h2 : Post K W Rc φ F m H ((AW.lift m (truD d)).bind k) Q := h
      rw [t] at h2
      refine ⟨b, ?_, truV_ok R r e t, h2⟩
      show AW.lift m (truD d) = _
      rw [t]; rfl
theorem snd_not (ha : PE X a (rdE X.K W oa)) : PE X (.UnaryOp .Not a pos) (rdE X.K W (evNot oa)) := PEmono (pe_notT ha) fun σ H Q h => by
  refine rd_bind h fun φ F ρ m H1 x u R E L rx h => ?_
  obtain ⟨b, _, t, h⟩ := h.tru R rx
  exact ⟨b, t, Post.ok0 (R := RVl X.K) R h (Rep.bl _)⟩
theorem snd_neg (ha : PE X a (rdE X.K W oa)) : PE X (.UnaryOp .USub a pos) (rdE X.K W (ev1 negD oa)) := PEmono (pe_un un_neg ha) fun σ H Q h => by
  refine rd_bind h fun φ F ρ m H1 x u R E L rx h => ?_
  obtain ⟨d, e, h⟩ := h.lift
  obtain ⟨z, ez, h⟩ := h.lift
  have p := pv_of R rx e
  cases d <;> simp [negD] at ez
  subst ez
  exact ⟨_, p.int, Post.ok0 (R := RVl X.K) R h (Rep.int _)⟩
theorem rd_evT {K : Frag} {σ : L2.St} {H : Hp} {Q : Bool → Hp → Prop} (h : rdT K W (evT oa) σ H Q) : rdE K W oa σ H fun x H' => ∃ k, TruV K x H' k ∧ Q k H' := by
  refine rd_bind (k := fun _ => truV) h fun φ F ρ m H1 x u R E L rx h => ?_
  have h' : Post K W REq φ F m H1 ((truV x m).bind fun b m => .ok b m) Q := by
    have e : (truV x m).bind (fun b m => Out.ok b m) = truV x m := by
      cases truV x m <;> rfl
    rw [e]; exact h
  obtain ⟨b, _, t, h⟩ := h'.tru R rx
  exact ⟨b, t, Post.ok0 (R := REq) R h rfl⟩
theorem snt_any (ha : PE X a (rdE X.K W oa)) (he : ∀ whole, isTrue a X.env whole = (do let v ← whole; standAt a.pos; holding [v] (truthy v))) : PT X a (rdT X.K W (evT oa)) := PTmono (pt_truth ha he) fun _ _ _ h => rd_evT h
theorem snt_cmp (hu : X.A.units + 64 < cLine) {op : CmpOp} (ha : PE X a (rdE X.K W oa)) (hb : PE X b (rdE X.K W ob)) (hm : behindInMarks op b = false) : PT X (.Compare a [op] [b] pos) (rdT X.K W (evT (ev2 (cmpV op) oa ob))) :=
  PTmono (pt_cmpR (op_cmp (W := W) hu op) ha hb hm) fun σ H Q h => by
    obtain ⟨φ, F, ρ, m, R, E, L, h⟩ := h
    have h : Post X.K W REq φ F m H ((ev2 (cmpV op) oa ob ρ m).bind truV) Q := h
    -- the value is a truth value
    refine rd_ev2 (oa := oa) (ob := ob) ⟨φ, F, ρ, m, R, E, L, ?_⟩
    have hb : ∀ v m', ev2 (cmpV op) oa ob ρ m = .ok v m' → ∃ b, v = .d (.bl b) := by
      intro v m' e
      simp only [ev2] at e
      cases h1 : oa ρ m with
      | ok x m1 =>
        rw [h1] at e
        simp only [Out.bind_ok] at e
        cases h2 : ob ρ m1 with
        | ok y m2 =>
          rw [h2] at e
          simp only [Out.bind_ok] at e
          cases h3 : peek m2 x with
          | none => rw [h3] at e; cases e
          | some dx =>
            simp only [h3, lift_some, Out.bind_ok] at e
            cases h4 : peek m2 y with
            | none => rw [h4] at e; cases e
            | some dy =>
              simp only [h4, lift_some, Out.bind_ok] at e
              unfold cmpV at e
              cases h5 : cmpD op dx dy with
              | none => rw [h5] at e; cases e
              | some k => rw [h5] at e; cases e; exact ⟨k, rfl⟩
        | exc _ _ => rw [h2] at e; cases e
        | bad => rw [h2] at e; cases e
      | exc _ _ => rw [h1] at e; cases e
      | bad => rw [h1] at e; cases e
    cases ho : ev2 (cmpV op) oa ob ρ m with
    | bad => rw [ho] at h; exact h.elim
    | exc x m' => rw [ho] at h; exact h
    | ok v m' =>
      obtain ⟨b, rfl⟩ := hb v m' ho
      rw [ho] at h
      have h : Post X.K W REq φ F m H (.ok b m') Q := h
      intro φ' F' H' u s r
      cases (show Rep X.K F' u (.bl b) from r)
      exact ⟨b, rfl, h φ' F' H' b s rfl⟩
end
end AW
set_option maxRecDepth 100000
namespace AW
open PySem L2
theorem Out.bind_assoc {α β γ : Type} (o : Out α) (f : α → Store → Out β) (g : β → Store → Out γ) : (o.bind f).bind g = o.bind fun a m => (f a m).bind g := by cases o <;> rfl
theorem Out.bind_eta {α : Type} (o : Out α) : (o.bind fun a m => .ok a m) = o := by cases o <;> rfl
theorem truV_m {x : Val} {m m' : Store} {b : Bool} (h : truV x m = .ok b m') : m' = m := by
  unfold truV at h
  cases e : peek m x with
  | none => rw [e] at h; cases h
  | some d =>
    rw [e] at h
    simp only [lift_some, Out.bind_ok] at h
    cases t : truD d with
    | none => rw [t] at h; cases h
    | some k => rw [t] at h; cases h; rfl
theorem truV_exc {x : Val} {m m' : Store} {e : Exc} : truV x m ≠ .exc e m' := by
  intro h
  unfold truV at h
  cases e : peek m x with
  | none => rw [e] at h; cases h
  | some d =>
    rw [e] at h
    simp only [lift_some, Out.bind_ok] at h
    cases t : truD d with
    | none => rw [t] at h; cases h
    | some k => rw [t] at h; cases h
theorem evT_and (oa ob : Ex) : evT (evAnd oa ob) = fun ρ m => (evT oa ρ m).bind fun t m => if t = true then evT ob ρ m else .ok false m := by
  funext ρ m
  show (Out.bind _ _).bind truV = (Out.bind _ _).bind _
  rw [Out.bind_assoc, Out.bind_assoc]
  congr 1; funext x m1
  rw [Out.bind_assoc]
  cases h : truV x m1 with
  | bad => rfl
  | exc e m' => exact absurd h truV_exc
  | ok b m' =>
    have := truV_m h; subst this
    cases b with
    | true => rfl
    | false => exact h
theorem evT_or (oa ob : Ex) : evT (evOr oa ob) = fun ρ m => (evT oa ρ m).bind fun t m => if t = true then .ok true m else evT ob ρ m := by
  funext ρ m
  show (Out.bind _ _).bind truV = (Out.bind _ _).bind _
  rw [Out.bind_assoc, Out.bind_assoc]
  congr 1; funext x m1
  rw [Out.bind_assoc]
  cases h : truV x m1 with
  | bad => rfl
  | exc e m' => exact absurd h truV_exc
  | ok b m' =>
    have := truV_m h; subst this
    cases b with
    | false => rfl
    | true => exact h
theorem evT_not (oa : Ex) : evT (evNot oa) = fun ρ m => (evT oa ρ m).bind fun t m => .ok (!t) m := by
  funext ρ m
  show (Out.bind _ _).bind truV = (Out.bind _ _).bind _
  rw [Out.bind_assoc, Out.bind_assoc]
  congr 1; funext x m1
  rw [Out.bind_assoc]
  rfl
section
variable {X : Cx} {W : Wsh} {a b c : Expr} {rest : List Expr} {oa ob oc : Ex} {pos : Pos}
theorem snt_and (ha : PT X a (rdT X.K W (evT oa))) (hb : PW X (.BoolOp .And (b :: rest) pos) (rdT X.K W (evT ob))) : PW X (.BoolOp .And (a :: b :: rest) pos) (rdT X.K W (evT (evAnd oa ob))) := PWmono (pw_and ha hb) fun σ H Q h => by
  rw [evT_and] at h
  refine rd_bind h fun φ F ρ m H1 t u R E L rx h => ?_
  cases rx
  cases t with
  | true => exact ⟨φ, F, ρ, m, R, E, L, h⟩
  | false => exact Post.ok0 (R := REq) R h rfl
theorem snt_or (ha : PT X a (rdT X.K W (evT oa))) (hb : PW X (.BoolOp .Or (b :: rest) pos) (rdT X.K W (evT ob))) : PW X (.BoolOp .Or (a :: b :: rest) pos) (rdT X.K W (evT (evOr oa ob))) := PWmono (pw_or ha hb) fun σ H Q h => by
  rw [evT_or] at h
  refine rd_bind h fun φ F ρ m H1 t u R E L rx h => ?_
  cases rx
  cases t with
  | true => exact Post.ok0 (R := REq) R h rfl
  | false => exact ⟨φ, F, ρ, m, R, E, L, h⟩
theorem snt_not (ha : PT X a (rdT X.K W (evT oa))) : PT X (.UnaryOp .Not a pos) (rdT X.K W (evT (evNot oa))) := PTmono (pt_not ha) fun σ H Q h => by
  rw [evT_not] at h
  refine rd_bind h fun φ F ρ m H1 t u R E L rx h => ?_
  cases rx
  exact Post.ok0 (R := REq) R h rfl
theorem snd_and (ha : PE X a (rdE X.K W oa)) (hb : PE X (.BoolOp .And (b :: rest) pos) (rdE X.K W ob)) : PE X (.BoolOp .And (a :: b :: rest) pos) (rdE X.K W (evAnd oa ob)) := PEmono (pe_andT ha hb) fun σ H Q h => by
  refine rd_bind h fun φ F ρ m H1 x u R E L rx h => ?_
  obtain ⟨t, _, tr, h⟩ := h.tru R rx
  refine ⟨t, tr, ?_⟩
  cases t with
  | true => exact ⟨φ, F, ρ, m, R, E, L, h⟩
  | false => exact Post.ok0 (R := RVl X.K) R h rx
theorem snd_or (ha : PE X a (rdE X.K W oa)) (hb : PE X (.BoolOp .Or (b :: rest) pos) (rdE X.K W ob)) : PE X (.BoolOp .Or (a :: b :: rest) pos) (rdE X.K W (evOr oa ob)) := PEmono (pe_orT ha hb) fun σ H Q h => by
  refine rd_bind h fun φ F ρ m H1 x u R E L rx h => ?_
  obtain ⟨t, _, tr, h⟩ := h.tru R rx
  refine ⟨t, tr, ?_⟩
  cases t with
  | false => exact ⟨φ, F, ρ, m, R, E, L, h⟩
  | true => exact Post.ok0 (R := RVl X.K) R h rx
theorem snd_ite (hc : PT X c (rdT X.K W (evT oc))) (ha : PE X a (rdE X.K W oa)) (hb : PE X b (rdE X.K W ob)) : PE X (.IfExp c a b pos) (rdE X.K W (evIte oc oa ob)) := PEmono (pe_ifExp hc ha hb) fun σ H Q h => by
  refine rd_bind h fun φ F ρ m H1 t u R E L rx h => ?_
  cases rx
  cases t with
  | true => exact ⟨φ, F, ρ, m, R, E, L, h⟩
  | false => exact ⟨φ, F, ρ, m, R, E, L, h⟩
/-! ### chains -/
theorem rd_chain {K : Frag} {op op' : CmpOp} {σ : L2.St} {H : Hp} {Q : VK} (h : rdE K W (evChain op op' oa ob oc) σ H Q) : tChain (r2 K W (cmpV op)) (r2 K W (cmpV op')) (rdE K W oa) (rdE K W ob) (rdE K W oc) σ H Q := by
  refine rd_bind h fun φ F ρ m H1 x u R E L rx h => ?_
  refine ⟨φ, F, ρ, m, R, E, L, Post.bind R h fun y m1 φ1 F1 H2 w s ry h => ?_⟩
  obtain ⟨dx, ex, h⟩ := h.lift
  obtain ⟨dy, ey, h⟩ := h.lift
  obtain ⟨z, ez, h⟩ := h.lift
  refine ⟨φ1, F1, m1, dx, dy, .bl z, s.rel, pv_of s.rel (RepV.step s rx) ex, pv_of s.rel ry ey, by rw [cmpV, ez]; rfl, fun φ2 F2 H3 u2 s2 r2 => ?_⟩
  cases (show Rep K F2 u2 (.bl z) from r2)
  refine ⟨z, rfl, ?_⟩
  have h' := h.step s.rel s2
  have E2 : RepE K φ2 F2 m1 σ ρ := (E.step s).step s2
  cases z with
  | false => exact Post.ok0 (R := RVl K) s2.rel h' (Rep.bl false)
  | true =>
    refine ⟨φ2, F2, ρ, m1, s2.rel, E2, L, Post.bind s2.rel h' fun w' m3 φ3 F3 H4 u3 s3 r3 h => ?_⟩
    obtain ⟨dy', ey', h⟩ := h.lift
    obtain ⟨dw, ew, h⟩ := h.lift
    obtain ⟨z', ez', h⟩ := h.lift
    exact ⟨φ3, F3, m3, dy', dw, z', s3.rel, pv_of s3.rel (RepV.step s3 (RepV.step s2 ry)) ey', pv_of s3.rel r3 ew, ez', h⟩
theorem snd_chain (hu : X.A.units + 64 < cLine) {op op' : CmpOp} (ha : PE X a (rdE X.K W oa)) (hb : PE X b (rdE X.K W ob)) (hc : PE X c (rdE X.K W oc)) (hl : lastMarks [op, op'] [b, c] = false) : PE X (.Compare a [op, op'] [b, c] pos) (rdE X.K W (evChain op op' oa ob oc)) :=
  PEmono (pe_chain (op_cmp hu op) (op_cmp hu op') ha hb hc hl) fun σ H Q h => rd_chain h
def IsB (o : Ex) : Prop := ∀ ρ m v m', o ρ m = .ok v m' → ∃ b, v = .d (.bl b)
theorem bindOk {α β : Type} {o : Out α} {f : α → Store → Out β} {v : β} {m' : Store} (h : o.bind f = .ok v m') : ∃ a m1, o = .ok a m1 ∧ f a m1 = .ok v m' := by
  cases o with
  | ok a m1 => exact ⟨a, m1, rfl, h⟩
  | exc _ _ => cases h
  | bad => cases h
theorem liftOk {α : Type} {o : Option α} {m : Store} {v : α} {m' : Store} (h : lift m o = .ok v m') : o = some v ∧ m' = m := by
  cases o with
  | none => cases h
  | some a => cases h; exact ⟨rfl, rfl⟩
theorem isB_chain {op op' : CmpOp} : IsB (evChain op op' oa ob oc) := by
  intro ρ m v m' e
  obtain ⟨x, m1, _, e⟩ := bindOk e
  obtain ⟨y, m2, _, e⟩ := bindOk e
  obtain ⟨dx, m3, _, e⟩ := bindOk e
  obtain ⟨dy, m4, _, e⟩ := bindOk e
  obtain ⟨z, m5, _, e⟩ := bindOk e
  split at e
  · obtain ⟨w, m6, _, e⟩ := bindOk e
    obtain ⟨dy', m7, _, e⟩ := bindOk e
    obtain ⟨dw, m8, _, e⟩ := bindOk e
    obtain ⟨z', m9, ez, e⟩ := bindOk e
    obtain ⟨ez, _⟩ := liftOk ez
    cases e
    unfold cmpV at ez
    cases h5 : cmpD op' dy' dw with
    | none => rw [h5] at ez; cases ez
    | some k => rw [h5] at ez; cases ez; exact ⟨k, rfl⟩
  · cases e; exact ⟨false, rfl⟩
theorem rd_evTB {K : Frag} {o : Ex} (hb : IsB o) {σ : L2.St} {H : Hp} {Q : Bool → Hp → Prop} (h : rdT K W (evT o) σ H Q) : rdE K W o σ H fun x H' => ∃ k, x = .bl k ∧ Q k H' := by
  obtain ⟨φ, F, ρ, m, R, E, L, h⟩ := h
  have h : Post K W REq φ F m H ((o ρ m).bind truV) Q := h
  refine ⟨φ, F, ρ, m, R, E, L, ?_⟩
  cases ho : o ρ m with
  | bad => rw [ho] at h; exact h.elim
  | exc x m' => rw [ho] at h; exact h
  | ok v m' =>
    obtain ⟨b, rfl⟩ := hb _ _ _ _ ho
    rw [ho] at h
    have h : Post K W REq φ F m H (.ok b m') Q := h
    intro φ' F' H' u s r
    cases (show Rep K F' u (.bl b) from r)
    exact ⟨b, rfl, h φ' F' H' b s rfl⟩
theorem snt_chain (hu : X.A.units + 64 < cLine) {op op' : CmpOp} (ha : PE X a (rdE X.K W oa)) (hb : PE X b (rdE X.K W ob)) (hc : PE X c (rdE X.K W oc)) (hl : lastMarks [op, op'] [b, c] = false) : PT X (.Compare a [op, op'] [b, c] pos) (rdT X.K W (evT (evChain op op' oa ob oc))) :=
  PTmono (pt_chain (op_cmp (W := W) hu op) (op_cmp (W := W) hu op') ha hb hc hl) fun σ H Q h => rd_chain (rd_evTB isB_chain h)
/-! ### arguments, displays -/
variable {es : List Expr} {oe : Ev → Store → Out (List Val)} {ol oh : Ev → Store → Out (Option Int)}
def nos : Expr → Bool
  | .Starred _ _ => false
  | _ => true
theorem star_nos {e : Expr} {es : List Expr} {env : PySem.Env} (h : nos e = true) : starEach (e :: es) env = (false, eval e env) :: starEach es env := by
  cases e <;> first | rfl | cases h
theorem star_any {env : PySem.Env} : ∀ {es : List Expr}, es.all nos = true → (backTo pos (starEach es env)).any (·.1) = false
  | [], _ => rfl
  | e :: es, h => by
    rw [List.all_cons, Bool.and_eq_true] at h
    rw [star_nos h.1]
    show (false || (backTo pos (starEach es env)).any (·.1)) = false
    rw [star_any h.2]; rfl
theorem sna_nil : PA X [] (rdA X.K W evNil) := PAmono pa_nil fun σ H Q h => by
  obtain ⟨φ, F, ρ, m, R, E, L, h⟩ := h
  exact Post.ok0 (R := RVs X.K) R h .nil
theorem sna_cons (hn : nos a = true) (ha : PE X a (rdE X.K W oa)) (he : PA X es (rdA X.K W oe)) : PA X (a :: es) (rdA X.K W (evCons oa oe)) := PAmono (pa_cons ha he (star_nos hn)) fun σ H Q h => by
  refine rd_bind h fun φ F ρ m H1 x u R E L rx h => ?_
  refine ⟨φ, F, ρ, m, R, E, L, Post.bind R h fun y m1 φ1 F1 H2 w s ry h => ?_⟩
  exact Post.ok0 (R := RVs X.K) s.rel h (.cons (RepV.step s rx) ry)
theorem reps_vals {K : Frag} {φ : Nat → Addr} {F : Hp} {m : Store} : ∀ {us : List V} {ds : List D}, Reps K F us ds → RepVs K φ F m us (ds.map .d)
  | _, _, .nil => .nil
  | _, _, .cons h r => .cons h (reps_vals r)
theorem repVs_app {K : Frag} {φ : Nat → Addr} {F : Hp} {m : Store} : ∀ {us us' : List V} {xs xs' : List Val}, RepVs K φ F m us xs → RepVs K φ F m us' xs' → RepVs K φ F m (us ++ us') (xs ++ xs')
  | _, _, _, _, .nil, s => s
  | _, _, _, _, .cons h r, s => .cons h (repVs_app r s)
theorem sna_star {p : Pos} (ha : PE X a (rdE X.K W oa)) (he : PA X es (rdA X.K W oe)) : PA X (.Starred a p :: es) (rdA X.K W (evStar oa oe)) := PAmono (StX.pa_star ha he) fun σ H Q h => by
  refine rd_bind h fun φ F ρ m H1 x u R E L rx h0 => ?_
  obtain ⟨d, ed, h1⟩ := h0.lift
  obtain ⟨ds, ei, h2⟩ := h1.lift
  clear h0 h1
  cases x with
  | cell _ => cases ed
  | d d' =>
    cases ed
    have rx : Rep X.K F u d := rx
    have fin : ∀ {a : Addr} {vs : List V}, (SqT X.K H1 a vs ∨ SqL X.K H1 a vs) → Reps X.K F vs ds → u = .ref a → ∃ p xs, u = V.ref p ∧ (SqT X.K H1 p xs ∨ SqL X.K H1 p xs) ∧ rdA X.K W oe σ H1 fun ys H2 => Q (xs ++ ys) H2 := fun {a vs} hs r eu =>
      ⟨a, vs, eu, hs, φ, F, ρ, m, R, E, L, Post.bind R h2 fun y m1 φ1 F1 H2 w s ry h => Post.ok0 (R := RVs X.K) s.rel h (repVs_app (reps_vals (r.mono s.exF)) ry)⟩
    cases rx <;> simp only [itemsD] at ei <;> try (cases ei; done)
    · rename_i h1 r1; cases ei
      exact fin (.inr (R.sub.l h1)) r1 rfl
    · rename_i h1 r1; cases ei
      exact fin (.inl (R.sub.t h1)) r1 rfl
theorem datas_reps {K : Frag} {φ : Nat → Addr} {F : Hp} {m : Store} : ∀ {us : List V} {vs : List Val} {ds : List D}, RepVs K φ F m us vs → Val.datas vs = some ds → Reps K F us ds
  | _, _, _, .nil, e => by cases e; exact .nil
  | _, v :: vs, _, .cons h r, e => by
    cases v with
    | cell n => cases e
    | d x =>
      have e' : ((Val.datas vs).map fun ds => x :: ds) = some _ := e
      cases q : Val.datas vs with
      | none => rw [q] at e'; cases e'
      | some ds => rw [q] at e'; cases e'; exact .cons h (datas_reps r q)
theorem snd_tup {k : Nat} (he : PA X es (rdA X.K W oe)) : PE X (.Tuple es k pos) (rdE X.K W (evTup oe)) := PEmono (pe_tup he) fun σ H Q h => by
  refine rd_bind h fun φ F ρ m H1 x u R E L rx h => ?_
  obtain ⟨ds, e, h⟩ := h.lift
  have r := datas_reps rx e
  split at h
  · rename_i hs
    exact ⟨by rw [r.length]; exact of_decide_eq_true hs, fun p hp => OkD.tup (W := W) R h hp r⟩
  · exact h.elim
/-- a list to be made: its items, then the new list -/
def rdL (K : Frag) (W : Wsh) (o : Ev → Store → Out (List D)) : TE := fun σ H Q => ∃ φ F ρ m, RelS K φ F m H ∧ RepE K φ F m σ ρ ∧ σ.length = ρ.length ∧ (match o ρ m with
  | .ok ds m' => ∀ φ' F' H' vs p, Stp K φ F m H φ' F' m' H' → Reps K F' vs ds → H' p = none → Q (.ref p) (upd H' p (.lst vs))
  | .exc x m' => ∀ φ' F' H', Stp K φ F m H φ' F' m' H' → W x φ' F' m' H'
  | .bad => False)
theorem rd_lm {K : Frag} {mt : Bool} {o : Ev → Store → Out (List D)} {σ : L2.St} {H : Hp} {Q : VK} (h : rdE K W (evLm mt o) σ H Q) : rdL K W o σ H Q := by
  obtain ⟨φ, F, ρ, m, R, E, L, h⟩ := h
  have h : Post K W (RVl K) φ F m H ((o ρ m).bind fun ds m => allocL mt ds m) Q := h
  refine ⟨φ, F, ρ, m, R, E, L, ?_⟩
  cases ho : o ρ m with
  | bad => rw [ho] at h; exact h.elim
  | exc x m' => rw [ho] at h; exact h
  | ok ds m' =>
    rw [ho] at h
    intro φ' F' H' vs p s r hp
    have h := Post.step R h s
    cases mt with
    | false => exact OkD.lst (W := W) s.rel h hp r
    | true =>
      have h : Post K W (RVl K) φ' F' m' H' (.ok (.cell m'.length) (m' ++ [.lst ds])) Q := h
      exact h _ F' _ _ (Stp.newC s.rel hp (o := .lst vs) (c := .lst ds) r) ⟨by simp, by simp⟩
theorem snd_lm {mt : Bool} {o : Ev → Store → Out (List D)} {ex : Expr} (h : PE X ex (rdL X.K W o)) : PE X ex (rdE X.K W (evLm mt o)) := PEmono h fun _ _ _ h => rd_lm h
theorem snl_disp (he : PA X es (rdA X.K W oe)) : PE X (.List es pos) (rdL X.K W (evDisp oe)) := PEmono (pe_lst he) fun σ H Q h => by
  obtain ⟨φ, F, ρ, m, R, E, L, h⟩ := h
  refine ⟨φ, F, ρ, m, R, E, L, ?_⟩
  unfold evDisp at h
  cases ho : oe ρ m with
  | bad => rw [ho] at h; exact h.elim
  | exc x m' => rw [ho] at h; exact h
  | ok vs m' =>
    rw [ho] at h
    simp only [Out.bind_ok] at h
    intro φ' F' H' us s r
    cases e : Val.datas vs with
    | none => rw [e] at h; exact h.elim
    | some ds =>
      rw [e] at h
      simp only [lift_some, Out.bind_ok] at h
      have r' := datas_reps r e
      by_cases hs : small ds.length = true
      · rw [if_pos hs] at h
        exact ⟨by rw [r'.length]; exact of_decide_eq_true hs, fun p hp => h φ' F' H' us p s r' hp⟩
      · rw [if_neg hs] at h; exact h.elim
end
end AW
set_option maxRecDepth 100000
namespace AW
open PySem L2
section
variable {X : Cx} {W : Wsh} {a b c : Expr} {rest : List Expr} {oa ob oc : Ex} {pos p p2 : Pos} {es : List Expr} {oe : Ev → Store → Out (List Val)} {ol oh : Ev → Store → Out (Option Int)}
/-! ### subscripts, slices -/
theorem ix_any : IxR X (r2 X.K W idxD) := by
  intro value slice pins s σ H x y v u Q I rx ry h hs
  obtain ⟨φ, F, m, dx, dy, z, R, px, py, e, h⟩ := h
  unfold idxD at e
  split at e
  · obtain ⟨q, vs, rfl, h1, r1⟩ := px.lst R.sub
    obtain ⟨w, e1, rw1⟩ := atI_reps r1 e
    exact ix_list value slice pins s σ H _ _ v u Q I rx ry ⟨q, vs, _, w, rfl, py.int, h1, e1, h.at R rw1⟩ hs
  · obtain ⟨q, vs, rfl, h1, r1⟩ := px.tup
    obtain ⟨w, e1, rw1⟩ := atI_reps r1 e
    exact ix_tup value slice pins s σ H _ _ v u Q I rx ry ⟨q, vs, _, w, rfl, py.int, R.sub.t h1, e1, h.at R rw1⟩ hs
  · split at e
    · rename_i t i hs'
      cases e1 : atI t.cps.toList i with
      | none => rw [e1] at e; cases e
      | some k =>
        rw [e1] at e; cases e
        exact ix_str value slice pins s σ H _ _ v u Q I rx ry ⟨t, i, k, px.str, py.int, of_decide_eq_true hs', e1, h.at R (.str _)⟩ hs
    · cases e
  · cases e
theorem snd_idx (ha : PE X a (rdE X.K W oa)) (hb : PE X b (rdE X.K W ob)) (hp : PlainIx b) : PE X (.Subscript a b pos) (rdE X.K W (ev2 idxD oa ob)) := PEmono (pe_ix ix_any ha hb hp) fun _ _ _ h => rd_ev2 h
theorem sno_no : PO X none (rdO X.K W evNoPart) := POmono po_none fun σ H Q h => by
  obtain ⟨φ, F, ρ, m, R, E, L, h⟩ := h
  exact Post.ok0 (R := REq) R h rfl
theorem sno_yes (ha : PE X a (rdE X.K W oa)) : PO X (some a) (rdO X.K W (evPart oa)) := POmono (po_some ha) fun σ H Q h => by
  refine rd_bind h fun φ F ρ m H1 x u R E L rx h => ?_
  obtain ⟨k, e, h⟩ := h.lift0
  unfold ixV at e
  split at e
  · cases e
    cases (show Rep X.K F u (.int _) from rx)
    exact ⟨_, rfl, Post.ok0 (R := REq) R h rfl⟩
  · cases e
def rSl (K : Frag) (W : Wsh) : V → Option Int → Option Int → Hp → VK → Prop := fun x lo hi H Q => ∃ φ F m dx z, RelS K φ F m H ∧ PV K F H x dx ∧ sliD dx lo hi = some z ∧ OkD K W φ F m H z Q
theorem sl_any : SlR X (rSl X.K W) := by
  intro pins s σ H x v vl vu lo hi sl Q I rx hs pl pu h
  obtain ⟨φ, F, m, dx, z, R, px, e, h⟩ := h
  unfold sliD at e
  split at e
  · cases e
    obtain ⟨q, vs, rfl, h1, r1⟩ := px.lst R.sub
    exact sl_list pins s σ H _ v vl vu _ _ sl Q I rx hs pl pu ⟨q, vs, rfl, h1, fun l hl => h.lst R hl (r1.cut _ _)⟩
  · cases e
    obtain ⟨q, vs, rfl, h1, r1⟩ := px.tup
    refine sl_tupA pins s σ H _ v vl vu _ _ sl Q I rx hs pl pu ⟨q, vs, rfl, R.sub.t h1, fun hw => ?_, fun _ l hl => h.tup R hl (r1.cut _ _)⟩
    refine h.at R (.tup h1 ?_)
    rw [r1.length] at hw
    unfold cutD
    rw [hw.1, hw.2, Nat.sub_zero, List.drop_zero, List.take_length]
    exact r1
  · split at e
    · rename_i hz; cases e
      exact sl_str pins s σ H _ v vl vu _ _ sl Q I rx hs pl pu ⟨_, px.str, of_decide_eq_true hz, h.at R (.str _)⟩
    · cases e
  · cases e
theorem snd_sli {lo hi : Option Expr} (ha : PE X a (rdE X.K W oa)) (hl : PO X lo (rdO X.K W ol)) (hh : PO X hi (rdO X.K W oh)) : PE X (.Subscript a (.Slice lo hi none p2) pos) (rdE X.K W (evSli oa ol oh)) := PEmono (pe_slice (sl_any (W := W)) ha hl hh) fun σ H Q h => by
  refine rd_bind h fun φ F ρ m H1 x u R E L rx h => ?_
  refine ⟨φ, F, ρ, m, R, E, L, Post.bind R h fun l m1 φ1 F1 H2 w s rl h => ?_⟩
  refine ⟨φ1, F1, ρ, m1, s.rel, E.step s, L, Post.bind s.rel h fun l2 m2 φ2 F2 H3 w2 s2 rl2 h => ?_⟩
  cases rl; cases rl2
  obtain ⟨dx, ex, h⟩ := h.lift
  obtain ⟨z, ez, h⟩ := h.lift
  exact ⟨φ2, F2, m2, dx, z, s2.rel, pv_of s2.rel (RepV.step s2 (RepV.step s rx)) ex, ez, h⟩
theorem snd_rev {k : Nat} {p1 p3 : Pos} (ha : PE X a (rdE X.K W oa)) : PE X (.Subscript a (.Slice none none (some (.UnaryOp .USub (.Constant (.int 1) k p1) p2)) p3) pos) (rdE X.K W (ev1 revD oa)) := PEmono (pe_revL ha) fun σ H Q h => by
  refine rd_bind h fun φ F ρ m H1 x u R E L rx h => ?_
  obtain ⟨d, ed, h⟩ := h.lift
  obtain ⟨z, ez, h⟩ := h.lift
  have px := pv_of R rx ed
  cases d <;> simp only [revD] at ez <;> try (cases ez; done)
  cases ez
  obtain ⟨q, vs, rfl, h1, r1⟩ := px.lst R.sub
  exact ⟨q, vs, rfl, h1, fun l hl => OkD.lst (W := W) R h hl r1.rev⟩
theorem snd_dict0 : PE X (.Dict [] [] pos) (rdE X.K W (evCon (.dct [] []))) := PEmono (pe_frz pe_dnewK) fun σ H Q h => by
  obtain ⟨φ, F, ρ, m, R, E, L, h⟩ := h
  intro q hq
  refine ⟨q, .dK [], rfl, upd_same, trivial, fun od => ?_⟩
  rw [upd_upd]
  exact OkD.new (W := W) R h hq (.dct upd_same rfl .nil)
/-! ### calls of built-ins -/
def r1c (K : Frag) (W : Wsh) (f : D → Option D) : List V → Hp → VK → Prop := fun xs H Q => ∃ x φ F m dx z, xs = [x] ∧ RelS K φ F m H ∧ PV K F H x dx ∧ f dx = some z ∧ OkD K W φ F m H z Q
def r2c (K : Frag) (W : Wsh) (f : D → D → Option D) : List V → Hp → VK → Prop := fun xs H Q => ∃ x y φ F m dx dy z, xs = [x, y] ∧ RelS K φ F m H ∧ PV K F H x dx ∧ PV K F H y dy ∧ f dx dy = some z ∧ OkD K W φ F m H z Q
theorem rd_c1 {K : Frag} {f : D → Option D} {σ : L2.St} {H : Hp} {Q : VK} (h : rdE K W (ev1 f oa) σ H Q) : tCB (r1c K W f) (tCons (rdE K W oa) tNil) σ H Q := by
  refine rd_bind h fun φ F ρ m H1 x u R E L rx h => ?_
  obtain ⟨dx, ex, h⟩ := h.lift
  obtain ⟨z, ez, h⟩ := h.lift
  exact ⟨u, φ, F, m, dx, z, rfl, R, pv_of R rx ex, ez, h⟩
theorem rd_c2 {K : Frag} {f : D → D → Option D} {σ : L2.St} {H : Hp} {Q : VK} (h : rdE K W (ev2 f oa ob) σ H Q) : tCB (r2c K W f) (tCons (rdE K W oa) (tCons (rdE K W ob) tNil)) σ H Q := by
  refine rd_bind h fun φ F ρ m H1 x u R E L rx h => ?_
  refine ⟨φ, F, ρ, m, R, E, L, Post.bind R h fun y m1 φ1 F1 H2 w s ry h => ?_⟩
  obtain ⟨dx, ex, h⟩ := h.lift
  obtain ⟨dy, ey, h⟩ := h.lift
  obtain ⟨z, ez, h⟩ := h.lift
  exact ⟨u, w, φ1, F1, m1, dx, dy, z, rfl, s.rel, pv_of s.rel (RepV.step s rx) ex, pv_of s.rel ry ey, ez, h⟩
theorem snd_b1B {f : D → Option D} {id : String} {x : Str} (hc : CallR X (.builtin id) (r1c X.K W f)) (hg : Gl X x) (hm : X.mg x = none) (hv : bootBuiltins x = some (.builtin id)) (hn : x ≠ "__name__") (hdb : (x == ("__debug__" : Str)) = false)
    (na : nos a = true) (ha : PE X a (rdE X.K W oa)) : PE X (.Call (.Name x p) [a] [] pos) (rdE X.K W (ev1 f oa)) :=
  PEmono (pe_callB hc hg hm hv (pa_cons ha pa_nil (star_nos na)) hn hdb (star_nos na) rfl) fun _ _ _ h => rd_c1 h
theorem snd_b1T {f : D → Option D} {T : String} {x : Str} (hc : CallR X (.type T) (r1c X.K W f)) (hg : Gl X x) (hm : X.mg x = none) (hv : bootBuiltins x = some (.type T)) (hn : x ≠ "__name__") (hdb : (x == ("__debug__" : Str)) = false)
    (na : nos a = true) (ha : PE X a (rdE X.K W oa)) : PE X (.Call (.Name x p) [a] [] pos) (rdE X.K W (ev1 f oa)) :=
  PEmono (pe_callTy hc hg hm hv (pa_cons ha pa_nil (star_nos na)) hn hdb (star_nos na) rfl) fun _ _ _ h => rd_c1 h
theorem snd_b2B {f : D → D → Option D} {id : String} {x : Str} (hc : CallR X (.builtin id) (r2c X.K W f)) (hg : Gl X x) (hm : X.mg x = none) (hv : bootBuiltins x = some (.builtin id)) (hn : x ≠ "__name__") (hdb : (x == ("__debug__" : Str)) = false)
    (na : nos a = true) (nb : nos b = true) (ha : PE X a (rdE X.K W oa)) (hb : PE X b (rdE X.K W ob)) : PE X (.Call (.Name x p) [a, b] [] pos) (rdE X.K W (ev2 f oa ob)) :=
  PEmono (pe_callB hc hg hm hv (pa_cons ha (pa_cons hb pa_nil (star_nos nb)) (star_nos na)) hn hdb (star_nos na) (star_any (by rw [List.all_cons, nb]; rfl))) fun _ _ _ h => rd_c2 h
theorem c_len : CallR X (.builtin "len") (r1c X.K W (b1D .len)) := by
  intro pins s σ H xs us Q I r h
  obtain ⟨x, φ, F, m, dx, z, rfl, R, px, e, h⟩ := h
  have e : (lenD dx).map (fun n => D.int (n : Int)) = some z := e
  cases el : lenD dx with
  | none => rw [el] at e; cases e
  | some n =>
    rw [el] at e; cases e
    refine call_len pins s σ H _ us Q I r ⟨x, n, rfl, ?_, h.at R (.int _)⟩
    cases dx <;> simp only [lenD] at el <;> try (cases el; done)
    · split at el
      · rename_i hs; cases el
        rw [px.str]; exact ⟨of_decide_eq_true hs, rfl⟩
      · cases el
    · obtain ⟨q, vs, rfl, h1, r1⟩ := px.tup
      cases el
      exact .inr ⟨vs, R.sub.t h1, r1.length.symm⟩
    · obtain ⟨q, vs, rfl, h1, r1⟩ := px.lst R.sub
      cases el
      exact .inl ⟨vs, h1, r1.length.symm⟩
theorem c_abs : CallR X (.builtin "abs") (r1c X.K W (b1D .abs)) := by
  intro pins s σ H xs us Q I r h
  obtain ⟨x, φ, F, m, dx, z, rfl, R, px, e, h⟩ := h
  cases dx <;> simp only [b1D] at e <;> try (cases e; done)
  cases e
  exact call_abs pins s σ H _ us Q I r ⟨_, by rw [px.int], h.at R (.int _)⟩
theorem c_all (hc : X.calm = true) : CallR X (.builtin "all") (r1c X.K W (b1D .all)) := by
  intro pins s σ H xs us Q I r h
  obtain ⟨x, φ, F, m, dx, z, rfl, R, px, e, h⟩ := h
  cases dx <;> simp only [b1D] at e <;> try (cases e; done)
  rename_i ds
  cases eb : boolsD ds with
  | none => rw [eb] at e; cases e
  | some bs =>
    rw [eb] at e; cases e
    obtain ⟨q, vs, rfl, h1, r1⟩ := px.lst R.sub
    rw [r1.bools eb] at h1
    exact cr_all hc pins s σ H _ us Q I r ⟨q, bs, rfl, h1, h.at R (.bl _)⟩
theorem c_any (hc : X.calm = true) : CallR X (.builtin "any") (r1c X.K W (b1D .any)) := by
  intro pins s σ H xs us Q I r h
  obtain ⟨x, φ, F, m, dx, z, rfl, R, px, e, h⟩ := h
  cases dx <;> simp only [b1D] at e <;> try (cases e; done)
  rename_i ds
  cases eb : boolsD ds with
  | none => rw [eb] at e; cases e
  | some bs =>
    rw [eb] at e; cases e
    obtain ⟨q, vs, rfl, h1, r1⟩ := px.lst R.sub
    rw [r1.bools eb] at h1
    exact cr_any hc pins s σ H _ us Q I r ⟨q, bs, rfl, h1, h.at R (.bl _)⟩
theorem c_int : CallR X (.type "int") (r1c X.K W (b1D .int)) := by
  intro pins s σ H xs us Q I r h
  obtain ⟨x, φ, F, m, dx, z, rfl, R, px, e, h⟩ := h
  cases dx <;> simp only [b1D] at e <;> try (cases e; done)
  · cases e
    exact call_int1 pins s σ H _ us Q I r (.inr ⟨_, by rw [px.bl], h.at R (.int _)⟩)
  · cases e
    exact call_int1 pins s σ H _ us Q I r (.inl ⟨_, by rw [px.int], h.at R (.int _)⟩)
theorem c_str : CallR X (.type "str") (r1c X.K W (b1D .str)) := by
  intro pins s σ H xs us Q I r h
  obtain ⟨x, φ, F, m, dx, z, rfl, R, px, e, h⟩ := h
  cases dx <;> simp only [b1D] at e <;> try (cases e; done)
  split at e
  · rename_i hs; cases e
    exact call_str_int pins s σ H _ us Q I r ⟨_, by rw [px.int], hs, h.at R (.str _)⟩
  · cases e
theorem c_tuple : CallR X (.type "tuple") (r1c X.K W (b1D .tuple)) := by
  intro pins s σ H xs us Q I r h
  obtain ⟨x, φ, F, m, dx, z, rfl, R, px, e, h⟩ := h
  cases dx <;> simp only [b1D] at e <;> try (cases e; done)
  · cases e
    obtain ⟨q, vs, rfl, h1, r1⟩ := px.tup
    exact call_tuple_of pins s σ H _ us Q I r ⟨q, vs, rfl, .inr ⟨R.sub.t h1, h.at R (.tup h1 r1)⟩⟩
  · cases e
    obtain ⟨q, vs, rfl, h1, r1⟩ := px.lst R.sub
    exact call_tuple_of pins s σ H _ us Q I r ⟨q, vs, rfl, .inl ⟨h1, fun l hl => h.tup R hl r1⟩⟩
theorem c_max (hc : X.calm = true) : CallR X (.builtin "max") (r2c X.K W (b2D .max)) := by
  intro pins s σ H xs us Q I r h
  obtain ⟨x, y, φ, F, m, dx, dy, z, rfl, R, px, py, e, h⟩ := h
  cases dx <;> cases dy <;> simp only [b2D] at e <;> try (cases e; done)
  cases e
  exact call_max2 hc pins s σ H _ us Q I r ⟨_, _, by rw [px.int, py.int], h.at R (.int _)⟩
theorem c_min (hc : X.calm = true) : CallR X (.builtin "min") (r2c X.K W (b2D .min)) := by
  intro pins s σ H xs us Q I r h
  obtain ⟨x, y, φ, F, m, dx, dy, z, rfl, R, px, py, e, h⟩ := h
  cases dx <;> cases dy <;> simp only [b2D] at e <;> try (cases e; done)
  cases e
  exact call_min2 hc pins s σ H _ us Q I r ⟨_, _, by rw [px.int, py.int], h.at R (.int _)⟩
end
end AW
set_option maxRecDepth 100000
namespace AW
open PySem L2
/-- what an iterator yields: the data ds, one by one, in every later state -/
def JOk (K : Frag) (J : L2.It) (F0 : Hp) (ds : List D) : Prop := ∀ (φ : Nat → Addr) (F : Hp) (m : Store) (H : Hp), RelS K φ F m H → Ext F0 F → ∀ i : Nat, (i < ds.length → J.go i H) ∧ (ds.length ≤ i → J.stop i H) ∧
  ∀ x H', i < ds.length → J.yld i H x H' → ∃ d F', ds[i]? = some d ∧ Stp K φ F m H φ F' m H' ∧ Rep K F' x d
def rdI (K : Frag) (W : Wsh) (o : Ev → Store → Out (List D)) : TI := fun σ H R => ∃ φ F ρ m, RelS K φ F m H ∧ RepE K φ F m σ ρ ∧ σ.length = ρ.length ∧ (match o ρ m with
  | .ok ds m' => ∀ φ' F' H' J, Stp K φ F m H φ' F' m' H' → JOk K J F' ds → R J H'
  | .exc x m' => ∀ φ' F' H', Stp K φ F m H φ' F' m' H' → W x φ' F' m' H'
  | .bad => False)
theorem PImono {X : Cx} {tg e : Expr} {t t' : TI} (h : PI X tg e t) (i : ∀ σ H Q, t' σ H Q → t σ H Q) : PI X tg e t' := ⟨fun pins s σ H Q I q => h.run pins s σ H Q I (i _ _ _ q)⟩
theorem PIor {X : Cx} {tg e : Expr} {t t' : TI} (h : PI X tg e t) (h' : PI X tg e t') : PI X tg e (fun σ H Q => t σ H Q ∨ t' σ H Q) := ⟨fun pins s σ H Q I q => q.elim (h.run pins s σ H Q I) (h'.run pins s σ H Q I)⟩
section
variable {K : Frag} {F0 : Hp}
theorem jok_list {a : Addr} {vs : List V} {ds : List D} (h : SqL K F0 a vs) (r : Reps K F0 vs ds) : JOk K (Itl K a) F0 ds := by
  intro φ F m H R E i
  have hq : SqL K H a vs := R.sub.l (E.l h)
  refine ⟨fun hi => ⟨vs, vs[i]'(by rw [r.length]; exact hi), hq, by simp [r.length, hi]⟩, fun hi => ⟨vs, hq, by rw [r.length]; exact hi⟩, fun x H' hi hy => ?_⟩
  obtain ⟨rfl, hy⟩ := hy
  obtain ⟨v, e1, r1⟩ := r.get (List.getElem?_eq_getElem hi)
  have : x = v := Option.some.inj ((hy vs hq).symm.trans e1)
  subst this
  exact ⟨_, F, List.getElem?_eq_getElem hi, Stp.refl R, r1.mono E⟩
theorem jok_tup {a : Addr} {vs : List V} {ds : List D} (h : SqT K F0 a vs) (r : Reps K F0 vs ds) : JOk K (Itt K a) F0 ds := by
  intro φ F m H R E i
  have hq : SqT K H a vs := R.sub.t (E.t h)
  refine ⟨fun hi => ⟨vs, vs[i]'(by rw [r.length]; exact hi), hq, by simp [r.length, hi]⟩, fun hi => ⟨vs, hq, by rw [r.length]; exact hi⟩, fun x H' hi hy => ?_⟩
  obtain ⟨rfl, hy⟩ := hy
  obtain ⟨v, e1, r1⟩ := r.get (List.getElem?_eq_getElem hi)
  have : x = v := Option.some.inj ((hy vs hq).symm.trans e1)
  subst this
  exact ⟨_, F, List.getElem?_eq_getElem hi, Stp.refl R, r1.mono E⟩
theorem jok_str (s : Str) : JOk K (Its s) F0 (s.cps.toList.map fun c => D.str ⟨#[c]⟩) := by
  intro φ F m H R E i
  have hl : (s.cps.toList.map fun c => D.str ⟨#[c]⟩).length = s.cps.size := by simp
  rw [hl]
  refine ⟨fun h => h, fun h => h, fun x H' hi hy => ?_⟩
  obtain ⟨rfl, c, e, rfl⟩ := hy
  refine ⟨_, F, ?_, Stp.refl R, .str _⟩
  rw [List.getElem?_map]
  have : s.cps.toList[i]? = some c := by simpa using e
  rw [this]; rfl
theorem jok_rng (n : Nat) : JOk K (Itr 0 n) F0 (rngD n) := by
  intro φ F m H R E i
  have hl : (rngD n).length = n := by simp [rngD]
  rw [hl]
  refine ⟨fun h => h, fun h => h, fun x H' hi hy => ?_⟩
  obtain ⟨rfl, rfl⟩ := hy
  refine ⟨.int (0 + (i : Int)), F, ?_, Stp.refl R, .int _⟩
  simp [rngD, hi]
theorem enumD_get : ∀ (ds : List D) (n i : Nat), (enumD n ds)[i]? = ds[i]?.map fun d => .tup [.int ((n + i : Nat) : Int), d]
  | [], _, _ => by simp [enumD]
  | d :: ds, n, 0 => by simp [enumD]
  | d :: ds, n, i + 1 => by
    show (enumD (n + 1) ds)[i]? = _
    rw [enumD_get ds (n + 1) i]
    simp only [List.getElem?_cons_succ]
    congr 1; funext d
    rw [show n + 1 + i = n + (i + 1) by omega]
theorem enumD_len : ∀ (ds : List D) (n : Nat), (enumD n ds).length = ds.length
  | [], _ => rfl
  | _ :: ds, n => by simp [enumD, enumD_len ds (n + 1)]
theorem jok_enum {a : Addr} {vs : List V} {ds : List D} (h : SqL K F0 a vs) (r : Reps K F0 vs ds) : JOk K (Ite K a) F0 (enumD 0 ds) := by
  intro φ F m H R E i
  have hq : SqL K H a vs := R.sub.l (E.l h)
  rw [enumD_len]
  refine ⟨fun hi => ⟨vs, vs[i]'(by rw [r.length]; exact hi), hq, by simp [r.length, hi]⟩, fun hi => ⟨vs, hq, by rw [r.length]; exact hi⟩, fun x H' hi hy => ?_⟩
  obtain ⟨T, y, rfl, nT, rfl, hy⟩ := hy
  obtain ⟨v, e1, r1⟩ := r.get (List.getElem?_eq_getElem hi)
  have : y = v := Option.some.inj ((hy vs hq).symm.trans e1)
  subst this
  refine ⟨_, upd F T (.tup [.int (i : Nat), y]), by rw [enumD_get, List.getElem?_eq_getElem hi]; rfl, Stp.newF R nT, .tup (SqT.of upd_same) (.cons ?_ (.cons ((r1.mono E).mono (Ext.new (R.fresh nT))) .nil))⟩
  rw [Nat.zero_add]; exact .int _
theorem zipD_get : ∀ (as bs : List D) (i : Nat) (a b : D), as[i]? = some a → bs[i]? = some b → (zipD as bs)[i]? = some (.tup [a, b])
  | [], _, _, _, _, h, _ => by simp at h
  | _ :: _, [], _, _, _, _, h => by simp at h
  | _ :: _, _ :: _, 0, _, _, h1, h2 => by simp at h1 h2; subst h1; subst h2; rfl
  | _ :: as, _ :: bs, i + 1, a, b, h1, h2 => zipD_get as bs i a b (by simpa using h1) (by simpa using h2)
theorem zipD_len : ∀ (as bs : List D), (zipD as bs).length = min as.length bs.length
  | [], _ => by simp [zipD]
  | _ :: _, [] => by simp [zipD]
  | _ :: as, _ :: bs => by simp only [zipD, List.length_cons, zipD_len as bs]; omega
theorem jok_zip {a b : Addr} {vs ws : List V} {ds es : List D} (h : SqL K F0 a vs) (r : Reps K F0 vs ds) (h' : SqL K F0 b ws) (r' : Reps K F0 ws es) : JOk K (Itz K a b) F0 (zipD ds es) := by
  intro φ F m H R E i
  have hq : SqL K H a vs := R.sub.l (E.l h)
  have hq' : SqL K H b ws := R.sub.l (E.l h')
  rw [zipD_len]
  refine ⟨fun hi => ?_, fun hi => ⟨vs, ws, hq, hq', by rw [r.length, r'.length]; omega⟩, fun x H' hi hy => ?_⟩
  · obtain ⟨v, e1, _⟩ := r.get (List.getElem?_eq_getElem (show i < ds.length by omega))
    obtain ⟨w, e2, _⟩ := r'.get (List.getElem?_eq_getElem (show i < es.length by omega))
    exact ⟨vs, ws, v, w, hq, hq', e1, e2⟩
  · obtain ⟨T, y, z, rfl, nT, rfl, hy, hz⟩ := hy
    have h1 : i < ds.length := by omega
    have h2 : i < es.length := by omega
    obtain ⟨v, e1, r1⟩ := r.get (List.getElem?_eq_getElem h1)
    obtain ⟨w, e2, r2⟩ := r'.get (List.getElem?_eq_getElem h2)
    have : y = v := Option.some.inj ((hy vs hq).symm.trans e1)
    subst this
    have : z = w := Option.some.inj ((hz ws hq').symm.trans e2)
    subst this
    exact ⟨_, upd F T (.tup [y, z]), zipD_get _ _ _ _ _ (List.getElem?_eq_getElem h1) (List.getElem?_eq_getElem h2), Stp.newF R nT, .tup (SqT.of upd_same) (.cons ((r1.mono E).mono (Ext.new (R.fresh nT))) (.cons ((r2.mono E).mono (Ext.new (R.fresh nT))) .nil))⟩
end
section
variable {X : Cx} {W : Wsh} {tg a b : Expr} {oa ob : Ex} {pos p p2 : Pos}
/-- from a value to its items -/
theorem rdI_of {K : Frag} {o : Val → Store → Out (List D)} {σ : L2.St} {H : Hp} {R : L2.It → Hp → Prop} {Q : VK} (h : rdI K W (fun ρ m => (oa ρ m).bind o) σ H R)
    (hk : ∀ φ F ρ m H1 v u, RelS K φ F m H1 → RepE K φ F m σ ρ → σ.length = ρ.length → RepV K φ F m u v → (match o v m with
      | .ok ds m' => ∀ φ' F' H' J, Stp K φ F m H1 φ' F' m' H' → JOk K J F' ds → R J H'
      | .exc x m' => ∀ φ' F' H', Stp K φ F m H1 φ' F' m' H' → W x φ' F' m' H'
      | .bad => False) → Q u H1) : rdE K W oa σ H Q := by
  obtain ⟨φ, F, ρ, m, R0, E, L, h⟩ := h
  refine ⟨φ, F, ρ, m, R0, E, L, ?_⟩
  cases ho : oa ρ m with
  | bad => simp only [ho, Out.bind_bad] at h
  | exc x m' => simp only [ho, Out.bind_exc] at h; exact h
  | ok v m1 =>
    simp only [ho, Out.bind_ok] at h
    intro φ1 F1 H1 u s r
    refine hk φ1 F1 ρ m1 H1 v u s.rel (E.step s) L r ?_
    cases h2 : o v m1 with
    | bad => rw [h2] at h; exact h
    | exc x m' => rw [h2] at h; exact fun φ' F' H' s' => h φ' F' H' (s.trans s' R0)
    | ok ds m' => rw [h2] at h; exact fun φ' F' H' J s' => h φ' F' H' J (s.trans s' R0)
theorem sni_seq (ha : PE X a (rdE X.K W oa)) : PI X tg a (rdI X.K W (itSeq oa)) := by
  refine PImono (PIor (pi_list ha) (PIor (pi_tup ha) (pi_str ha))) fun σ H R h => ?_
  -- by what comes
  have key : (∃ Q : VK, rdE X.K W oa σ H Q ∧ (∀ u H1, Q u H1 → ∃ a, u = .ref a ∧ (∃ xs, SqL X.K H1 a xs) ∧ R (Itl X.K a) H1)) ∨ (∃ Q : VK, rdE X.K W oa σ H Q ∧ (∀ u H1, Q u H1 → ∃ a, u = .ref a ∧ (∃ xs, SqT X.K H1 a xs) ∧ R (Itt X.K a) H1)) ∨
      (∃ Q : VK, rdE X.K W oa σ H Q ∧ (∀ u H1, Q u H1 → ∃ x, u = .str x ∧ R (Its x) H1)) := by
    obtain ⟨φ, F, ρ, m, R0, E, L, h⟩ := h
    unfold itSeq at h
    cases ho : oa ρ m with
    | bad => simp only [ho, Out.bind_bad] at h
    | exc x m' =>
      simp only [ho, Out.bind_exc] at h
      exact .inl ⟨fun _ _ => False, ⟨φ, F, ρ, m, R0, E, L, by rw [ho]; exact h⟩, fun _ _ z => z.elim⟩
    | ok v m1 =>
      simp only [ho, Out.bind_ok] at h
      cases v with
      | cell n => exact h.elim
      | d d =>
        have h : (match lift m1 (seqD d) with
          | .ok ds m' => ∀ φ' F' H' J, Stp X.K φ F m H φ' F' m' H' → JOk X.K J F' ds → R J H'
          | .exc x m' => ∀ φ' F' H', Stp X.K φ F m H φ' F' m' H' → W x φ' F' m' H'
          | .bad => False) := h
        cases d with
        | lst ds =>
          refine .inl ⟨_, ⟨φ, F, ρ, m, R0, E, L, ?_⟩, fun u H1 z => z⟩
          rw [ho]; intro φ' F' H' u s r
          cases (show Rep X.K F' u (.lst ds) from r) with
          | lst h1 r1 => exact ⟨_, rfl, ⟨_, s.rel.sub.l h1⟩, h φ' F' H' _ s (jok_list h1 r1)⟩
        | tup ds =>
          refine .inr (.inl ⟨_, ⟨φ, F, ρ, m, R0, E, L, ?_⟩, fun u H1 z => z⟩)
          rw [ho]; intro φ' F' H' u s r
          cases (show Rep X.K F' u (.tup ds) from r) with
          | tup h1 r1 => exact ⟨_, rfl, ⟨_, s.rel.sub.t h1⟩, h φ' F' H' _ s (jok_tup h1 r1)⟩
        | str t =>
          refine .inr (.inr ⟨_, ⟨φ, F, ρ, m, R0, E, L, ?_⟩, fun u H1 z => z⟩)
          rw [ho]; intro φ' F' H' u s r
          cases (show Rep X.K F' u (.str t) from r)
          simp only [seqD] at h
          by_cases hs : small t.length = true
          · rw [if_pos hs] at h
            exact ⟨t, rfl, h φ' F' H' _ s (jok_str t)⟩
          · rw [if_neg hs] at h; exact h.elim
        | non => exact h.elim
        | bl _ => exact h.elim
        | int _ => exact h.elim
        | dct _ _ => exact h.elim
  have mono : ∀ {Q Q' : VK}, rdE X.K W oa σ H Q → (∀ u H1, Q u H1 → Q' u H1) → rdE X.K W oa σ H Q' := by
    rintro Q Q' ⟨φ, F, ρ, m, R0, E, L, h⟩ i
    refine ⟨φ, F, ρ, m, R0, E, L, ?_⟩
    cases ho : oa ρ m with
    | bad => rw [ho] at h; exact h
    | exc _ _ => rw [ho] at h; exact h
    | ok _ _ => rw [ho] at h; exact fun φ' F' H' u s r => i _ _ (h φ' F' H' u s r)
  rcases key with ⟨Q, h1, h2⟩ | ⟨Q, h1, h2⟩ | ⟨Q, h1, h2⟩
  · exact .inl (mono h1 h2)
  · exact .inr (.inl (mono h1 h2))
  · exact .inr (.inr (mono h1 h2))
theorem sni_rng (hg : Gl X "range") (hm : X.mg "range" = none) (na : nos a = true) (ha : PE X a (rdE X.K W oa)) : PI X tg (.Call (.Name "range" p) [a] [] pos) (rdI X.K W (itRng1 oa)) := by
  refine PImono (pi_range1 hg hm (pa_cons ha pa_nil (star_nos na)) (star_nos na)) fun σ H R h => ?_
  refine rdI_of h fun φ F ρ m H1 v u R0 E L r h => ?_
  cases v with
  | cell n => exact h.elim
  | d d =>
    cases d <;> try exact h.elim
    rename_i n
    by_cases hb : (decide (-(2 ^ 62) ≤ n) && decide (n < 2 ^ 62)) = true
    · simp only [hb, if_true] at h
      cases (show Rep X.K F u (.int n) from r)
      rw [Bool.and_eq_true, decide_eq_true_eq, decide_eq_true_eq] at hb
      exact ⟨n, rfl, hb.1, hb.2, h φ F H1 _ (Stp.refl R0) (jok_rng _)⟩
    · simp only [hb] at h; exact h.elim
theorem sni_enum {elts : List Expr} {kk : Nat} {tpos : Pos} (hg : Gl X "enumerate") (hm : X.mg "enumerate" = none) (na : nos a = true) (ha : PE X a (rdE X.K W oa)) : PI X (.Tuple elts kk tpos) (.Call (.Name "enumerate" p) [a] [] pos) (rdI X.K W (itEnum oa)) := by
  refine PImono (pi_enum hg hm (pa_cons ha pa_nil (star_nos na)) (star_nos na)) fun σ H R h => ?_
  refine rdI_of h fun φ F ρ m H1 v u R0 E L r h => ?_
  cases v with
  | cell n => exact h.elim
  | d d =>
    cases d <;> try exact h.elim
    cases (show Rep X.K F u (.lst _) from r) with
    | lst h1 r1 => exact ⟨_, _, rfl, R0.sub.l h1, h φ F H1 _ (Stp.refl R0) (jok_enum h1 r1)⟩
theorem sni_zip {elts : List Expr} {kk : Nat} {tpos : Pos} (hg : Gl X "zip") (hm : X.mg "zip" = none) (na : nos a = true) (nb : nos b = true) (ha : PE X a (rdE X.K W oa)) (hb : PE X b (rdE X.K W ob)) : PI X (.Tuple elts kk tpos) (.Call (.Name "zip" p) [a, b] [] pos) (rdI X.K W (itZip oa ob)) := by
  refine PImono (pi_zip hg hm (pa_cons ha (pa_cons hb pa_nil (star_nos nb)) (star_nos na)) (star_nos na) (star_any (by rw [List.all_cons, nb]; rfl))) fun σ H R h => ?_
  obtain ⟨φ, F, ρ, m, R0, E, L, h⟩ := h
  refine ⟨φ, F, ρ, m, R0, E, L, ?_⟩
  unfold itZip at h
  cases ho : oa ρ m with
  | bad => simp only [ho, Out.bind_bad] at h
  | exc x m' => simp only [ho, Out.bind_exc] at h; exact h
  | ok v m1 =>
    simp only [ho, Out.bind_ok] at h
    intro φ1 F1 H1 u s r
    refine ⟨φ1, F1, ρ, m1, s.rel, E.step s, L, ?_⟩
    cases ho2 : ob ρ m1 with
    | bad => simp only [ho2, Out.bind_bad] at h
    | exc x m' => simp only [ho2, Out.bind_exc] at h; exact fun φ' F' H' s' => h φ' F' H' (s.trans s' R0)
    | ok v2 m2 =>
      simp only [ho2, Out.bind_ok] at h
      intro φ2 F2 H2 u2 s2 r2
      have r1' := RepV.step s2 r
      cases v with
      | cell n => exact h.elim
      | d d =>
        cases v2 with
        | cell n => cases d <;> exact h.elim
        | d d2 =>
          cases d <;> try exact h.elim
          cases d2 <;> try exact h.elim
          cases (show Rep X.K F2 u (.lst _) from r1') with
          | lst h1 q1 =>
            cases (show Rep X.K F2 u2 (.lst _) from r2) with
            | lst h2 q2 => exact ⟨_, _, _, _, rfl, s2.rel.sub.l h1, s2.rel.sub.l h2, h φ2 F2 H2 _ (s.trans s2 R0) (jok_zip h1 q1 h2 q2)⟩
end
/-! ### targets -/
def Tg.slots : Tg → List Nat
  | .name i => [i]
  | .tup is => is
def gT (K : Frag) : Tg → TG
  | .name i => gName i
  | .tup is => gTup K is.length (is.foldr (fun i t => gCons (gName i) t) gNil)
section
variable {K : Frag} {φ : Nat → Addr} {F : Hp} {m : Store} {H : Hp}
theorem setAll_len : ∀ {is : List Nat} {ds : List D} {ρ ρ' : Ev}, setAll is ds ρ = some ρ' → ds.length = is.length ∧ ρ'.length = ρ.length
  | [], [], _, _, h => by simp [setAll] at h; subst h; exact ⟨rfl, rfl⟩
  | _ :: is, _ :: ds, ρ, _, h => by
    have h : setAll is ds _ = some _ := h
    obtain ⟨h1, h2⟩ := setAll_len h
    exact ⟨by simp [h1], by rw [h2, List.length_set]⟩
  | [], _ :: _, _, _, h => by simp [setAll] at h
  | _ :: _, [], _, _, h => by simp [setAll] at h
theorem bindT_len {tg : Tg} {d : D} {ρ ρ' : Ev} (h : bindT tg d ρ = some ρ') : ρ'.length = ρ.length := by
  cases tg with
  | name i => cases h; simp
  | tup is =>
    cases d <;> simp [bindT] at h
    exact (setAll_len h).2
/-- where slots agree but for some that are about to be set -/
def RepX (K : Frag) (φ : Nat → Addr) (F : Hp) (m : Store) (xs : List Nat) (σ : L2.St) (ρ : Ev) : Prop := ∀ (i : Nat) (v : Val), i ∉ xs → ρ[i]? = some (some v) → ∃ u, σ[i]? = some (some u) ∧ RepV K φ F m u v
theorem RepX.set {xs : List Nat} {σ : L2.St} {ρ : Ev} {i : Nat} {u : V} {v : Val} (h : RepX K φ F m (i :: xs) σ ρ) (hl : σ.length = ρ.length) (r : RepV K φ F m u v) : RepX K φ F m xs (σ.set i (some u)) (ρ.set i (some v)) := fun j w hj e => by
  by_cases hi : i = j
  · subst hi
    by_cases hlt : i < ρ.length
    · rw [List.getElem?_set_self hlt] at e; cases e
      exact ⟨u, List.getElem?_set_self (by omega), r⟩
    · rw [List.getElem?_eq_none (by simpa using Nat.le_of_not_lt hlt)] at e; cases e
  · rw [List.getElem?_set_ne hi] at e
    obtain ⟨u', e1, r1⟩ := h j w (by simp only [List.mem_cons, not_or]; exact ⟨fun z => hi z.symm, hj⟩) e
    exact ⟨u', by rw [List.getElem?_set_ne hi]; exact e1, r1⟩
theorem gs_ok : ∀ {is : List Nat} {ds : List D} {vs : List V} {σ : L2.St} {ρ ρ' : Ev} {Q : L2.St → Hp → Prop}, setAll is ds ρ = some ρ' → Reps K F vs ds → RepX K φ F m is σ ρ → σ.length = ρ.length →
    (∀ σ', RepE K φ F m σ' ρ' → σ'.length = σ.length → (∀ j, j ∉ is → σ'[j]? = σ[j]?) → Q σ' H) → is.foldr (fun i t => gCons (gName i) t) gNil vs σ H Q
  | [], [], _, σ, ρ, ρ', Q, h, .nil, E, L, k => by
    simp [setAll] at h; subst h
    exact ⟨rfl, k σ (fun i v e => E i v (by simp) e) rfl fun _ _ => rfl⟩
  | i :: is, d :: ds, _, σ, ρ, ρ', Q, h, .cons hv r, E, L, k => by
    have h : setAll is ds (ρ.set i (some (.d d))) = some ρ' := h
    refine ⟨_, _, rfl, gs_ok h r (E.set L hv) (by simp [L]) fun σ' e1 e2 e3 => k σ' e1 (by rw [e2, List.length_set]) fun j hj => ?_⟩
    have hne : i ≠ j := fun z => hj (by rw [← z]; exact List.mem_cons_self)
    rw [e3 j (fun z => hj (List.mem_cons_of_mem _ z)), List.getElem?_set_ne hne]
  | [], _ :: _, _, _, _, _, _, h, _, _, _, _ => by simp [setAll] at h
  | _ :: _, [], _, _, _, _, _, h, _, _, _, _ => by simp [setAll] at h
theorem gT_ok {tg : Tg} {d : D} {u : V} {σ : L2.St} {ρ ρ' : Ev} {Q : L2.St → Hp → Prop} (R : RelS K φ F m H) (h : bindT tg d ρ = some ρ') (r : Rep K F u d) (E : RepX K φ F m tg.slots σ ρ) (L : σ.length = ρ.length)
    (k : ∀ σ', RepE K φ F m σ' ρ' → σ'.length = σ.length → (∀ j, j ∉ tg.slots → σ'[j]? = σ[j]?) → Q σ' H) : gT K tg u σ H Q := by
  cases tg with
  | name i =>
    cases h
    have E2 := RepX.set (v := .d d) (u := u) E L r
    refine k _ (fun j v e => E2 j v (by simp) e) (by simp) fun j hj => ?_
    rw [List.getElem?_set_ne (fun z => hj (by rw [← z]; exact List.mem_cons_self))]
  | tup is =>
    cases d <;> simp [bindT] at h
    cases r with
    | tup h1 r1 =>
      exact ⟨_, _, rfl, R.sub.t h1, by rw [r1.length, (setAll_len h).1], gs_ok h r1 E L k⟩
end
end AW
set_option maxRecDepth 100000
namespace AW
open PySem L2
def Wn : Wsh := fun _ _ _ _ _ => False
theorem Post.wn {α β : Type} {K : Frag} {W : Wsh} {R : (Nat → Addr) → Hp → Store → β → α → Prop} {φ : Nat → Addr} {F : Hp} {m : Store} {H : Hp} {o : Out α} {Q : β → Hp → Prop} (h : Post K Wn R φ F m H o Q) : Post K W R φ F m H o Q := by
  cases o with
  | ok a m' => exact h
  | exc x m' => exact fun φ' F' H' s => (h φ' F' H' s).elim
  | bad => exact h
theorem rd_wn {α β : Type} {K : Frag} {W : Wsh} {R : (Nat → Addr) → Hp → Store → β → α → Prop} {o : Ev → Store → Out α} {σ : L2.St} {H : Hp} {Q : β → Hp → Prop} (h : rd K Wn R o σ H Q) : rd K W R o σ H Q := by
  obtain ⟨φ, F, ρ, m, r, e, l, h⟩ := h
  exact ⟨φ, F, ρ, m, r, e, l, h.wn⟩
section
variable {K : Frag} {W : Wsh} {φ φ' : Nat → Addr} {F F' : Hp} {m m' : Store} {G H4 : Hp} {p : Addr} {o : HO}
/-- an object that nobody speaks of stays apart -/
def hide (H : Hp) (p : Addr) : Hp := fun a => if a = p then none else H a
theorem unhide (R : RelS K φ F m G) (hp : G p = none) (s : Stp K φ F m (upd G p o) φ' F' m' H4) (po : Plain o := by exact ⟨fun _ q => (nomatch q), fun _ q => (nomatch q)⟩) : H4 = upd (hide H4 p) p o ∧ Stp K φ F m G φ' F' m' (hide H4 p) ∧ hide H4 p p = none := by
  have nl : ∀ n o', m[n]? = some o' → o'.live = true → φ n ≠ p := fun n o' e _ => R.ne hp (List.getElem?_eq_some_iff.mp e).1
  have h4 : H4 p = some o := (s.fr p o upd_same nl).plain po
  have fp : F' p = none := by
    cases e : F' p with
    | none => rfl
    | some o' =>
      rcases s.own p o' e (R.fresh hp) with h | ⟨n, o2, e1, l, e2⟩
      · rw [upd_same] at h; cases h
      · exact absurd e2 (nl n o2 e1 l)
  have hne : ∀ {a : Addr}, a ≠ p → hide H4 p a = H4 a := fun h => if_neg h
  have hp0 : hide H4 p p = none := if_pos rfl
  have hneu : ∀ {a : Addr}, a ≠ p → upd G p o a = G a := fun h => upd_ne h
  have cne : ∀ n, n < m'.length → φ' n ≠ p := fun n hn => by
    by_cases hlt : n < m.length
    · rw [s.ext n hlt]; exact R.ne hp hlt
    · have := s.new n (by omega) hn
      intro q; rw [q, upd_same] at this; cases this
  refine ⟨?_, ⟨s.len, s.ext, s.exF, fun a u e hn => ?_, s.dead, fun n h1 h2 => ?_, fun a u e1 e2 => ?_, ⟨fun a u e => ?_, s.rel.pln, ?_, fun n c e => ?_, s.rel.inj⟩⟩, hp0⟩
  · funext a
    by_cases ha : a = p
    · subst ha; rw [upd_same, h4]
    · rw [upd_ne ha, hne ha]
  · have ha : a ≠ p := ne_of_none e hp
    rw [hne ha]; exact s.fr a u (by rw [hneu ha]; exact e) hn
  · have q := s.new n h1 h2
    rw [hneu (cne n h2)] at q; exact q
  · rcases s.own a u e1 e2 with h | h
    · by_cases ha : a = p
      · subst ha; rw [upd_same] at h; cases h
      · rw [hneu ha] at h; exact .inl h
    · exact .inr h
  · have ha : a ≠ p := fun q => by rw [q, fp] at e; cases e
    rw [hne ha]; exact s.rel.sub a u e
  · intro q hq
    obtain ⟨ps, t1, t2, t3⟩ := s.rel.tabs q hq
    refine ⟨ps, ?_, t2, fun pos cv hc => ?_⟩
    · rw [hne (fun z => by rw [z, h4] at t1; exact po.1 ps (Option.some.inj t1))]; exact t1
    · obtain ⟨c, e1, e2⟩ := t3 pos cv hc
      exact ⟨c, e1, by rw [hne (fun z => by rw [z, h4] at e2; exact po.2 _ (Option.some.inj e2))]; exact e2⟩
  · obtain ⟨ho, e1, e2⟩ := s.rel.cell n c e
    exact ⟨ho, by rw [hne (cne n (List.getElem?_eq_some_iff.mp e).1)]; exact e1, e2⟩
theorem upd_hide {H : Hp} {o' : HO} : upd (upd H p o) p o' = upd H p o' := upd_upd
end
theorem wipe_get : ∀ {vs : List Nat} {σ : L2.St} {i : Nat}, i ∉ vs → (wipe σ vs)[i]? = σ[i]?
  | [], _, _, _ => rfl
  | v :: vs, σ, i, h => by
    simp only [List.mem_cons, not_or] at h
    show ((wipe σ vs).set v none)[i]? = _
    rw [List.getElem?_set_ne (fun q => h.1 q.symm), wipe_get h.2]
theorem wipe_in : ∀ {vs : List Nat} {σ : L2.St} {i : Nat}, i ∈ vs → i < σ.length → (wipe σ vs)[i]? = some none
  | v :: vs, σ, i, h, hl => by
    show ((wipe σ vs).set v none)[i]? = _
    by_cases e : v = i
    · subst e
      exact List.getElem?_set_self (by rw [wipe_length]; exact hl)
    · rw [List.getElem?_set_ne e]
      rcases List.mem_cons.mp h with q | q
      · exact absurd q.symm e
      · exact wipe_in q hl
theorem wipe_same {vs : List Nat} {σ σ' : L2.St} (hl : σ'.length = σ.length) (h : ∀ j, j ∉ vs → σ'[j]? = σ[j]?) : wipe σ' vs = wipe σ vs := by
  apply List.ext_getElem?
  intro i
  by_cases hi : i ∈ vs
  · by_cases hlt : i < σ.length
    · rw [wipe_in hi hlt, wipe_in hi (by omega)]
    · rw [List.getElem?_eq_none (by rw [wipe_length]; omega), List.getElem?_eq_none (by rw [wipe_length]; omega)]
  · rw [wipe_get hi, wipe_get hi, h i hi]
section
variable {X : Cx} {W : Wsh} {elt tge iter : Expr} {ifs : List Expr} {scope : Scope} {own : List (Str × Nat)} {pos : Pos} {tg : Tg} {oi : Ev → Store → Out (List D)} {oc : Ev → Store → Out Bool} {oe : Ex}
theorem rd_lc {K : Frag} {σ : L2.St} {H : Hp} {Q : VK} (h : rdL K W (evLc oi tg oc oe) σ H Q) : tLc (rdI K W oi) (gT K tg) (rdT K Wn oc) (rdE K Wn oe) tg.slots σ H Q := by
  obtain ⟨φ, F, ρ, m, R, E, L, h⟩ := h
  refine ⟨φ, F, ρ, m, R, E, L, ?_⟩
  unfold evLc at h
  cases ho : oi ρ m with
  | bad => simp only [ho, Out.bind_bad] at h
  | exc x m' => simp only [ho, Out.bind_exc] at h; exact h
  | ok ds m1 =>
    simp only [ho, Out.bind_ok] at h
    intro φ1 F1 H1 J s1 jok p hp
    let f := lcTurn tg oc oe ρ
    have hb : goLc f ds [] m1 ≠ .bad := by
      intro q
      have h' : (match goLc f ds [] m1 with
        | .ok ds m' => ∀ φ' F' H' vs p, Stp K φ F m H φ' F' m' H' → Reps K F' vs ds → H' p = none → Q (.ref p) (upd H' p (.lst vs))
        | .exc x m' => ∀ φ' F' H', Stp K φ F m H φ' F' m' H' → W x φ' F' m' H'
        | .bad => False) := h
      rw [q] at h'; exact h'
    refine ⟨fun i n H' => n = ds.length - i ∧ i ≤ ds.length ∧ ∃ φi Fi mi G vs as, H' = upd G p (.lst vs) ∧ G p = none ∧ Stp K φ1 F1 m1 H1 φi Fi mi G ∧ Reps K Fi vs as ∧ goLc f (ds.drop i) as mi = goLc f ds [] m1,
      ⟨ds.length, by simp, Nat.zero_le _, φ1, F1, m1, H1, [], [], rfl, hp, Stp.refl s1.rel, .nil, rfl⟩, ?_⟩
    rintro i n H' ⟨rfl, hi, φi, Fi, mi, G, vs, as, rfl, hG, si, ra, eg⟩
    have sN : Stp K φi Fi mi G φi Fi mi (upd G p (.lst vs)) := Stp.newN si.rel hG
    by_cases hlt : i < ds.length
    · refine .inr ⟨(jok φi Fi mi _ sN.rel si.exF i).1 hlt, fun H'' => ∃ φi Fi mi G vs as, H'' = upd G p (.lst vs) ∧ G p = none ∧ Stp K φ1 F1 m1 H1 φi Fi mi G ∧ Reps K Fi vs as ∧ goLc f (ds.drop (i + 1)) as mi = goLc f ds [] m1, fun H'' hN => ⟨ds.length - (i + 1), by omega, rfl, hlt, hN⟩, fun x H2 hy => ?_⟩
      obtain ⟨d, F2, ed, s2, rx⟩ := (jok φi Fi mi _ sN.rel si.exF i).2.2 x H2 hlt hy
      -- the turn
      have hd : ds.drop i = d :: ds.drop (i + 1) := by
        rw [List.drop_eq_getElem_cons hlt]
        have := List.getElem?_eq_getElem hlt
        rw [this] at ed; cases ed; rfl
      rw [hd] at eg
      have eg' : (match f d mi with
        | .ok (some y) m1 => if as.length < sizeLine then goLc f (ds.drop (i + 1)) (as ++ [y]) m1 else .bad
        | .ok none m1 => goLc f (ds.drop (i + 1)) as m1
        | _ => .bad) = goLc f ds [] m1 := eg
      have hfb : ∀ r, f d mi = r → (r = .bad ∨ ∃ x m', r = .exc x m') → False := by
        intro r er hr
        rcases hr with rfl | ⟨x, m', rfl⟩ <;> (rw [er] at eg'; exact hb eg'.symm)
      cases eb : bindT tg d ρ with
      | none => exact (hfb _ rfl (.inl (by show (lift mi (bindT tg d ρ)).bind _ = _; rw [eb]; rfl))).elim
      | some ρ' =>
        have ef : f d mi = (oc ρ' mi).bind fun t m => if t = true then (oe ρ' m).bind fun v m => (lift m v.data).bind fun d m => .ok (some d) m else .ok none m := by
          show (lift mi (bindT tg d ρ)).bind _ = _
          rw [eb]; rfl
        have Ei : RepE K φi F2 mi σ ρ := ((E.step s1).step si).step (sN.trans s2 si.rel)
        have EX : RepX K φi F2 mi tg.slots (wipe σ tg.slots) ρ := fun j v hj e => by
          obtain ⟨u, e1, r1⟩ := Ei j v e
          exact ⟨u, by rw [wipe_get hj]; exact e1, r1⟩
        refine gT_ok s2.rel eb rx EX (by rw [wipe_length]; exact L) fun σ2 E2 l2 k2 => ⟨?_, ?_⟩
        · rw [wipe_same (vs := tg.slots) (σ := wipe σ tg.slots) l2 k2]
          exact wipe_same (wipe_length _ _) fun j hj => wipe_get hj
        have L2 : σ2.length = ρ'.length := by rw [l2, wipe_length, bindT_len eb]; exact L
        refine ⟨φi, F2, ρ', mi, s2.rel, E2, L2, ?_⟩
        cases hc : oc ρ' mi with
        | bad => exact (hfb _ rfl (.inl (by rw [ef, hc]; rfl))).elim
        | exc x m' => exact (hfb _ rfl (.inr ⟨x, m', by rw [ef, hc]; rfl⟩)).elim
        | ok t m3 =>
          rw [hc] at ef
          simp only [Out.bind_ok] at ef
          intro φ3 F3 H3 b s3 rb
          cases rb
          have S3 : Stp K φi Fi mi (upd G p (.lst vs)) φ3 F3 m3 H3 := s2.trans s3 sN.rel
          cases t with
          | false =>
            rw [if_neg (by simp)] at ef
            rw [ef] at eg'
            obtain ⟨e4, s4, g4⟩ := unhide si.rel hG S3
            exact ⟨φ3, F3, m3, _, vs, as, e4, g4, si.trans s4 s1.rel, ra.mono S3.exF, eg'⟩
          | true =>
            rw [if_pos rfl] at ef
            refine ⟨φ3, F3, ρ', m3, s3.rel, E2.step s3, L2, ?_⟩
            cases he : oe ρ' m3 with
            | bad => exact (hfb _ rfl (.inl (by rw [ef, he]; rfl))).elim
            | exc x m' => exact (hfb _ rfl (.inr ⟨x, m', by rw [ef, he]; rfl⟩)).elim
            | ok v m4 =>
              rw [he] at ef
              simp only [Out.bind_ok] at ef
              intro φ4 F4 H4 u s4 ru
              cases v with
              | cell k => exact (hfb _ rfl (.inl (by rw [ef]; rfl))).elim
              | d y =>
                have ef : f d mi = .ok (some y) m4 := ef
                rw [ef] at eg'
                have S4 : Stp K φi Fi mi (upd G p (.lst vs)) φ4 F4 m4 H4 := S3.trans s4 sN.rel
                obtain ⟨e5, s5, g5⟩ := unhide si.rel hG S4
                have hl : as.length < sizeLine := by
                  by_cases hl : as.length < sizeLine
                  · exact hl
                  · have eg2 : (if as.length < sizeLine then goLc f (ds.drop (i + 1)) (as ++ [y]) m4 else .bad) = goLc f ds [] m1 := eg'
                    rw [if_neg hl] at eg2; exact absurd eg2.symm hb
                have eg2 : (if as.length < sizeLine then goLc f (ds.drop (i + 1)) (as ++ [y]) m4 else .bad) = goLc f ds [] m1 := eg'
                rw [if_pos hl] at eg2
                refine ⟨vs, by rw [e5, upd_same], by rw [ra.length]; exact hl, ?_⟩
                exact ⟨φ4, F4, m4, hide H4 p, vs ++ [u], as ++ [y], (congrArg (fun Z => upd Z p (.lst (vs ++ [u]))) e5).trans upd_upd, g5, si.trans s5 s1.rel, (ra.mono S4.exF).snoc ru, eg2⟩
    · have hie : i = ds.length := by omega
      subst hie
      refine .inl ⟨(jok φi Fi mi _ sN.rel si.exF _).2.1 (Nat.le_refl _), ?_⟩
      rw [List.drop_length] at eg
      have h' : (match goLc f ds [] m1 with
        | .ok ds m' => ∀ φ' F' H' vs p, Stp K φ F m H φ' F' m' H' → Reps K F' vs ds → H' p = none → Q (.ref p) (upd H' p (.lst vs))
        | .exc x m' => ∀ φ' F' H', Stp K φ F m H φ' F' m' H' → W x φ' F' m' H'
        | .bad => False) := h
      rw [← eg] at h'
      exact h' φi Fi G vs p (s1.trans si R) ra hG
end
end AW
set_option maxRecDepth 100000
namespace AW
open PySem L2
def PostS (K : Frag) (W : Wsh) (φ : Nat → Addr) (F : Hp) (m : Store) (H : Hp) (o : Out Fl) (Dn : L2.Ends) : Prop := match o with
  | .ok (.nx ρ) m' => ∀ φ' F' H' σ', Stp K φ F m H φ' F' m' H' → RepE K φ' F' m' σ' ρ → σ'.length = ρ.length → Dn.nx σ' H'
  | .ok (.ret v) m' => ∀ φ' F' H' u, Stp K φ F m H φ' F' m' H' → RepV K φ' F' m' u v → Dn.rt u H'
  | .ok (.bk ρ) m' => ∀ φ' F' H' σ', Stp K φ F m H φ' F' m' H' → RepE K φ' F' m' σ' ρ → σ'.length = ρ.length → Dn.bk σ' H'
  | .ok (.ct ρ) m' => ∀ φ' F' H' σ', Stp K φ F m H φ' F' m' H' → RepE K φ' F' m' σ' ρ → σ'.length = ρ.length → Dn.ct σ' H'
  | .exc x m' => ∀ φ' F' H', Stp K φ F m H φ' F' m' H' → W x φ' F' m' H'
  | .bad => False
def rdS (K : Frag) (W : Wsh) (o : Sx) : TS := fun Dn σ H => ∃ φ F ρ m, RelS K φ F m H ∧ RepE K φ F m σ ρ ∧ σ.length = ρ.length ∧ PostS K W φ F m H (o ρ m) Dn
section
variable {K : Frag} {W : Wsh} {φ φ1 : Nat → Addr} {F F1 : Hp} {m m1 : Store} {H H1 : Hp}
theorem PostS.step {o : Out Fl} {Dn : L2.Ends} (R0 : RelS K φ F m H) (h : PostS K W φ F m H o Dn) (s : Stp K φ F m H φ1 F1 m1 H1) : PostS K W φ1 F1 m1 H1 o Dn := by
  cases o with
  | ok r m' =>
    cases r with
    | nx ρ => exact fun φ' F' H' σ' s' => h φ' F' H' σ' (s.trans s' R0)
    | ret v => exact fun φ' F' H' u s' => h φ' F' H' u (s.trans s' R0)
    | bk ρ => exact fun φ' F' H' σ' s' => h φ' F' H' σ' (s.trans s' R0)
    | ct ρ => exact fun φ' F' H' σ' s' => h φ' F' H' σ' (s.trans s' R0)
  | exc x m' => exact fun φ' F' H' s' => h φ' F' H' (s.trans s' R0)
  | bad => exact h
/-- an expression, then a statement's rest -/
theorem PostS.bind {α β : Type} {Ra : (Nat → Addr) → Hp → Store → β → α → Prop} {o : Out α} {k : α → Store → Out Fl} {Dn : L2.Ends} {Q1 : β → Hp → Prop} (R0 : RelS K φ F m H) (h : PostS K W φ F m H (o.bind k) Dn)
    (hk : ∀ a m1 φ1 F1 H1 b, Stp K φ F m H φ1 F1 m1 H1 → Ra φ1 F1 m1 b a → PostS K W φ1 F1 m1 H1 (k a m1) Dn → Q1 b H1) : Post K W Ra φ F m H o Q1 := by
  cases o with
  | ok a m' => exact fun φ' F' H' b s' r => hk a m' φ' F' H' b s' r (PostS.step R0 h s')
  | exc x m' => exact h
  | bad => exact h
theorem PostS.lift {α : Type} {o : Option α} {k : α → Store → Out Fl} {Dn : L2.Ends} (h : PostS K W φ F m H ((AW.lift m o).bind k) Dn) : ∃ a, o = some a ∧ PostS K W φ F m H (k a m) Dn := by
  cases o with
  | none => exact h.elim
  | some a => exact ⟨a, rfl, h⟩
theorem rdS_bind {α β : Type} {Ra : (Nat → Addr) → Hp → Store → β → α → Prop} {oa : Ev → Store → Out α} {k : Ev → α → Store → Out Fl} {σ : L2.St} {H : Hp} {Dn : L2.Ends} {Q1 : β → Hp → Prop}
    (h : rdS K W (fun ρ m => (oa ρ m).bind (k ρ)) Dn σ H)
    (hk : ∀ φ F ρ m H1 a b, RelS K φ F m H1 → RepE K φ F m σ ρ → σ.length = ρ.length → Ra φ F m b a → PostS K W φ F m H1 (k ρ a m) Dn → Q1 b H1) : rd K W Ra oa σ H Q1 := by
  obtain ⟨φ, F, ρ, m, R, E, L, h⟩ := h
  exact ⟨φ, F, ρ, m, R, E, L, PostS.bind R h fun a m1 φ1 F1 H1 b s r h => hk φ1 F1 ρ m1 H1 a b s.rel (E.step s) L r h⟩
end
theorem PSmono {X : Cx} {st : Stmt} {t t' : TS} (h : PS X st t) (i : ∀ Dn σ H, t' Dn σ H → t Dn σ H) : PS X st t' := ⟨fun pins s σ H Dn I q => h.run pins s σ H Dn I (i _ _ _ q)⟩
theorem PSsmono {X : Cx} {st : List Stmt} {t t' : TS} (h : PSs X st t) (i : ∀ Dn σ H, t' Dn σ H → t Dn σ H) : PSs X st t' := ⟨fun pins s σ H Dn I q => h.run pins s σ H Dn I (i _ _ _ q)⟩
section
variable {X : Cx} {W : Wsh} {a b c e : Expr} {oa ob oc oe : Ex} {ou : Ev → Store → Out (List Val)} {pos px py pt : Pos} {x y : Str} {os ot : Sx}
/-! ### names set -/
def notLc : Expr → Bool
  | .ListComp _ _ _ _ => false
  | .SetComp _ _ _ _ => false
  | .DictComp _ _ _ _ _ => false
  | _ => true
theorem sw_not {tgt : Option Expr} {l : Nat} {env : PySem.Env} (h : notLc e = true) : swapsWith e tgt l env = pure false := by cases e <;> first | rfl | cases h
theorem sole_name {l : Nat} {env : PySem.Env} : swapsWithSole [.Name x px] e l env = swapsWith e (some (.Name x px)) l env := rfl
theorem rdS_asg {K : Frag} {i : Nat} {σ : L2.St} {H : Hp} {Dn : L2.Ends} (h : rdS K W (exAsg i oe) Dn σ H) : tAsg (rdE K W oe) (gName i) Dn σ H := by
  refine rdS_bind h fun φ F ρ m H1 v u R E L r h => ?_
  exact h φ F H1 _ (Stp.refl R) (E.set L r) (by simp [L])
theorem sns_asg {i : Nat} (hN : X.N.Nodup) (hi : X.N[i]? = some x) (hx : Loc X.env.scope x) (hf : X.fn x = true ∨ X.env.scope.names.lookup x = some .local) (hs : swapsWith e (some (.Name x px)) pos.line X.env = pure false) (he : PE X e (rdE X.K W oe)) :
    PS X (.Assign [.Name x px] e pos) (rdS X.K W (exAsg i oe)) := PSmono (ps_asg he (pg_name hN hi hx hf) hs rfl rfl) fun _ _ _ h => rdS_asg h
/-- x = [..], the comprehension's frame swapped -/
theorem sns_asgLc {i : Nat} {mt : Bool} {elt tge iter : Expr} {scope : Scope} {own : List (Str × Nat)} {ifs : List Expr} {tg : Tg} {oi : Ev → Store → Out (List D)} {oq : Ev → Store → Out Bool} {p2 : Pos} (hc : X.calm = true) (hN : X.N.Nodup) (hi : X.N[i]? = some x) (hyl : X.env.scope.names.lookup x = some .local)
    (hsw : swapsWith (.ListComp elt [⟨tge, iter, ifs, 0⟩] scope p2) (some (.Name x px)) pos.line X.env = pure true) (hit : PI X tge iter (rdI X.K W oi)) (ok : BlkOk X.N X.env.scope scope own) (ho : own.map (·.2) = tg.slots)
    (hg : ∀ (s : Shared) (H : Hp) (C : Addr) (cl : List (Str × Addr)) (fp : List Addr), PG (X.blk s H scope (compEnvC scope cl C X.env) fp) tge (gT X.K tg)) (ht : ∀ (s : Shared) (H : Hp) (C : Addr) (cl : List (Str × Addr)) (fp : List Addr), PTs (X.blk s H scope (compEnvC scope cl C X.env) fp) ifs (rdT X.K Wn oq))
    (he : ∀ (s : Shared) (H : Hp) (C : Addr) (cl : List (Str × Addr)) (fp : List Addr), PE (X.blk s H scope (compEnvC scope cl C X.env) fp) elt (rdE X.K Wn oe)) (hs : ∀ v, foldedSetIterable iter X.env v = pure v) :
    PS X (.Assign [.Name x px] (.ListComp elt [⟨tge, iter, ifs, 0⟩] scope p2) pos) (rdS X.K W (exAsg i (evLm mt (evLc oi tg oq oe)))) := by
  refine PSmono (ps_setLc hc hN hi hyl hsw hit ok hg ht he hs) fun Dn σ H h => ?_
  have h2 : tAsg (rdE X.K W (evLm mt (evLc oi tg oq oe))) (gName i) Dn σ H := rdS_asg h
  rw [ho]
  exact rd_lc (rd_lm h2)
theorem snl_lc {elt tge iter : Expr} {scope : Scope} {own : List (Str × Nat)} {ifs : List Expr} {tg : Tg} {oi : Ev → Store → Out (List D)} {oq : Ev → Store → Out Bool} {p2 : Pos} (hc : X.calm = true) (hN : X.N.Nodup)
    (hit : PI X tge iter (rdI X.K W oi)) (ok : BlkOk X.N X.env.scope scope own) (ho : own.map (·.2) = tg.slots)
    (hg : ∀ (s : Shared) (H : Hp) (C : Addr) (cl : List (Str × Addr)) (fp : List Addr), PG (X.blk s H scope (compEnvC scope cl C X.env) fp) tge (gT X.K tg)) (ht : ∀ (s : Shared) (H : Hp) (C : Addr) (cl : List (Str × Addr)) (fp : List Addr), PTs (X.blk s H scope (compEnvC scope cl C X.env) fp) ifs (rdT X.K Wn oq))
    (he : ∀ (s : Shared) (H : Hp) (C : Addr) (cl : List (Str × Addr)) (fp : List Addr), PE (X.blk s H scope (compEnvC scope cl C X.env) fp) elt (rdE X.K Wn oe)) (hs : ∀ v, foldedSetIterable iter X.env v = pure v) :
    PE X (.ListComp elt [⟨tge, iter, ifs, 0⟩] scope p2) (rdL X.K W (evLc oi tg oq oe)) := by
  refine PEmono (pe_lc hc hN hit ok hg ht he hs) fun σ H Q h => ?_
  rw [ho]
  exact rd_lc h
/-! ### other statements -/
theorem sns_expr (hs : notLc e = true) (he : PE X e (rdE X.K W oe)) : PS X (.Expr e pos) (rdS X.K W (exDrop oe)) := PSmono (ps_expr he (sw_not hs)) fun Dn σ H h => by
  refine rdS_bind h fun φ F ρ m H1 v u R E L r h => ?_
  exact h φ F H1 σ (Stp.refl R) E L
theorem sns_ret (he : PE X e (rdE X.K W oe)) : PS X (.Return (some e) pos) (rdS X.K W (exRet oe)) := PSmono (ps_ret he) fun Dn σ H h => by
  refine rdS_bind h fun φ F ρ m H1 v u R E L r h => ?_
  exact h φ F H1 u (Stp.refl R) r
theorem sns_pass : PS X (.Pass pos) (rdS X.K W exNext) := PSmono ps_pass fun Dn σ H h => by
  obtain ⟨φ, F, ρ, m, R, E, L, h⟩ := h
  exact h φ F H σ (Stp.refl R) E L
theorem sns_brk : PS X (.Break pos) (rdS X.K W fun ρ m => .ok (.bk ρ) m) := PSmono ps_break fun Dn σ H h => by
  obtain ⟨φ, F, ρ, m, R, E, L, h⟩ := h
  exact h φ F H σ (Stp.refl R) E L
theorem sns_cont : PS X (.Continue pos) (rdS X.K W fun ρ m => .ok (.ct ρ) m) := PSmono ps_continue fun Dn σ H h => by
  obtain ⟨φ, F, ρ, m, R, E, L, h⟩ := h
  exact h φ F H σ (Stp.refl R) E L
theorem sns_never {st : Stmt} : PS X st (rdS X.K W fun _ _ => .bad) := PSmono ps_never fun Dn σ H h => by
  obtain ⟨φ, F, ρ, m, R, E, L, h⟩ := h
  exact h
theorem sns_if {oq : Ev → Store → Out Bool} {st sf : List Stmt} (hc : PT X c (rdT X.K W oq)) (ht : PSs X st (rdS X.K W os)) (hf : PSs X sf (rdS X.K W ot)) : PS X (.If c st sf pos) (rdS X.K W (exIf oq os ot)) := PSmono (ps_if hc ht hf) fun Dn σ H h => by
  refine rdS_bind (Ra := REq) h fun φ F ρ m H1 v u R E L r h => ?_
  cases r
  cases v with
  | true => exact ⟨φ, F, ρ, m, R, E, L, h⟩
  | false => exact ⟨φ, F, ρ, m, R, E, L, h⟩
theorem snss_nil : PSs X [] (rdS X.K W exNext) := PSsmono pss_nil fun Dn σ H h => by
  obtain ⟨φ, F, ρ, m, R, E, L, h⟩ := h
  exact h φ F H σ (Stp.refl R) E L
theorem snss_cons {st : Stmt} {sts : List Stmt} (h1 : PS X st (rdS X.K W os)) (h2 : PSs X sts (rdS X.K W ot)) : PSs X (st :: sts) (rdS X.K W (exSeq os ot)) := PSsmono (pss_cons h1 h2) fun Dn σ H h => by
  obtain ⟨φ, F, ρ, m, R, E, L, h⟩ := h
  refine ⟨φ, F, ρ, m, R, E, L, ?_⟩
  unfold exSeq at h
  cases ho : os ρ m with
  | bad => rw [ho] at h; exact h
  | exc x m' => rw [ho] at h; exact h
  | ok r m1 =>
    rw [ho] at h
    simp only [Out.bind_ok] at h
    cases r with
    | nx ρ1 => exact fun φ' F' H' σ' s E' L' => ⟨φ', F', ρ1, m1, s.rel, E', L', PostS.step R h s⟩
    | ret v => exact h
    | bk ρ1 => exact h
    | ct ρ1 => exact h
theorem snss_frz {sts : List Stmt} {i : Nat} (h2 : PSs X sts (rdS X.K W ot)) : PSs X sts (rdS X.K W (exFrz i ot)) := PSsmono h2 fun Dn σ H h => by
  obtain ⟨φ, F, ρ, m, R, E, L, h⟩ := h
  unfold exFrz at h
  split at h
  · rename_i n e1
    split at h
    · rename_i ds e2
      obtain ⟨u, e3, rfl, hn⟩ := E i _ e1
      obtain ⟨ho, e4, e5⟩ := R.cell n _ e2
      have hro := (e5 rfl).2
      cases ho <;> try exact hro.elim
      rename_i vs
      have s := Stp.kill R e2 rfl e4
      refine ⟨φ, _, _, _, s.rel, ?_, by simp [L], PostS.step R h s⟩
      intro j v ej
      by_cases hj : i = j
      · subst hj
        by_cases hlt : i < ρ.length
        · rw [List.getElem?_set_self hlt] at ej; cases ej
          refine ⟨_, e3, ?_⟩
          exact Rep.lst (SqL.of upd_same) (Reps.mono s.exF hro)
        · rw [List.getElem?_eq_none (by simpa using Nat.le_of_not_lt hlt)] at ej; cases ej
      · rw [List.getElem?_set_ne hj] at ej
        obtain ⟨u', e6, r6⟩ := E j v ej
        exact ⟨u', e6, RepV.step s r6⟩
    · exact h.elim
  · exact h.elim
end
end AW
set_option maxRecDepth 100000
namespace AW
open PySem L2
section
variable {X : Cx} {W : Wsh} {a b c e : Expr} {oa ob oc oe : Ex} {ou : Ev → Store → Out (List Val)} {pos px py pt : Pos} {x y : Str} {os ot : Sx}
theorem sns_for {tge iter : Expr} {body : List Stmt} {oi : Ev → Store → Out (List D)} {tg : Tg} (hp : PassesOwn (model X.prog X.w) X.A X.env X.xe) (hc : X.calm = true) (hi : PI X tge iter (rdI X.K W oi)) (hg : PG X tge (gT X.K tg)) (hb : PSs X body (rdS X.K W os))
    (hs : ∀ v, foldedSetIterable iter X.env v = pure v) : PS X (.For tge iter body [] pos) (rdS X.K W (exFor oi tg os)) := PSmono (ps_for hp hc hi hg hb hs) fun Dn σ H h => by
  obtain ⟨φ, F, ρ, m, R, E, L, h⟩ := h
  refine ⟨φ, F, ρ, m, R, E, L, ?_⟩
  unfold exFor at h
  cases ho : oi ρ m with
  | bad => simp only [ho, Out.bind_bad] at h; exact h
  | exc x m' => simp only [ho, Out.bind_exc] at h; exact h
  | ok ds m1 =>
    simp only [ho, Out.bind_ok] at h
    intro φ1 F1 H1 J s1 jok
    generalize hf : (fun d ρ m => (lift m (bindT tg d ρ)).bind fun ρ m => os ρ m) = f at h
    refine ⟨fun i n σ' H' => n = ds.length - i ∧ i ≤ ds.length ∧ ∃ φi Fi ρi mi, Stp X.K φ1 F1 m1 H1 φi Fi mi H' ∧ RepE X.K φi Fi mi σ' ρi ∧ σ'.length = ρi.length ∧ goFor f (ds.drop i) ρi mi = goFor f ds ρ m1,
      ⟨ds.length, by simp, Nat.zero_le _, φ1, F1, ρ, m1, Stp.refl s1.rel, E.step s1, L, rfl⟩, ?_⟩
    rintro i n σ' H' ⟨rfl, hi, φi, Fi, ρi, mi, si, Ei, Li, eg⟩
    by_cases hlt : i < ds.length
    · refine .inr ⟨(jok φi Fi mi _ si.rel si.exF i).1 hlt, fun σ'' H'' => ∃ φi Fi ρi mi, Stp X.K φ1 F1 m1 H1 φi Fi mi H'' ∧ RepE X.K φi Fi mi σ'' ρi ∧ σ''.length = ρi.length ∧ goFor f (ds.drop (i + 1)) ρi mi = goFor f ds ρ m1, fun σ'' H'' hN => ⟨ds.length - (i + 1), by omega, rfl, hlt, hN⟩, fun x H2 hy => ?_⟩
      obtain ⟨d, F2, ed, s2, rx⟩ := (jok φi Fi mi _ si.rel si.exF i).2.2 x H2 hlt hy
      have hd : ds.drop i = d :: ds.drop (i + 1) := by
        rw [List.drop_eq_getElem_cons hlt]
        have := List.getElem?_eq_getElem hlt
        rw [this] at ed; cases ed; rfl
      rw [hd] at eg
      have eg' : (f d ρi mi).bind (fun r m => match r with
        | .nx ρ => goFor f (ds.drop (i + 1)) ρ m
        | .ct ρ => goFor f (ds.drop (i + 1)) ρ m
        | .bk ρ => .ok (.nx ρ) m
        | .ret v => .ok (.ret v) m) = goFor f ds ρ m1 := eg
      have h' : PostS X.K W φ1 F1 m1 H1 (goFor f ds ρ m1) Dn := PostS.step R h s1
      rw [← eg'] at h'
      have ef : f d ρi mi = (lift mi (bindT tg d ρi)).bind fun ρ m => os ρ m := by rw [← hf]
      cases eb : bindT tg d ρi with
      | none => rw [ef, eb] at h'; exact h'.elim
      | some ρ' =>
        rw [eb] at ef
        have ef : f d ρi mi = os ρ' mi := ef
        refine gT_ok s2.rel eb rx (fun j v _ e => (Ei.step s2) j v e) Li fun σ2 E2 l2 _ => ?_
        have L2 : σ2.length = ρ'.length := by rw [l2, bindT_len eb]; exact Li
        refine ⟨φi, F2, ρ', mi, s2.rel, E2, L2, ?_⟩
        have S2 : Stp X.K φ1 F1 m1 H1 φi F2 mi H2 := si.trans s2 s1.rel
        cases hq : os ρ' mi with
        | bad => rw [ef, hq] at h'; exact h'
        | exc x m' => rw [ef, hq] at h'; exact PostS.step s1.rel h' S2
        | ok r m3 =>
          rw [ef, hq] at h' eg'
          simp only [Out.bind_ok] at h' eg'
          cases r with
          | nx ρ3 => exact fun φ3 F3 H3 σ3 s3 E3 L3 => ⟨φ3, F3, ρ3, m3, S2.trans s3 s1.rel, E3, L3, eg'⟩
          | ct ρ3 => exact fun φ3 F3 H3 σ3 s3 E3 L3 => ⟨φ3, F3, ρ3, m3, S2.trans s3 s1.rel, E3, L3, eg'⟩
          | bk ρ3 => exact fun φ3 F3 H3 σ3 s3 E3 L3 => h' φ3 F3 H3 σ3 (S2.trans s3 s1.rel) E3 L3
          | ret v => exact fun φ3 F3 H3 u s3 r3 => h' φ3 F3 H3 u (S2.trans s3 s1.rel) r3
    · have hie : i = ds.length := by omega
      subst hie
      refine .inl ⟨(jok φi Fi mi _ si.rel si.exF _).2.1 (Nat.le_refl _), ?_⟩
      rw [List.drop_length] at eg
      have h' : PostS X.K W φ1 F1 m1 H1 (goFor f ds ρ m1) Dn := PostS.step R h s1
      rw [← eg] at h'
      exact h' φi Fi H' σ' si Ei Li
theorem sns_while {body : List Stmt} {oq : Ev → Store → Out Bool} {fuel : Nat} (hp : PassesOwn (model X.prog X.w) X.A X.env X.xe) (hc : PT X c (rdT X.K W oq)) (hb : PSs X body (rdS X.K W os)) : PS X (.While c body [] pos) (rdS X.K W (goWhile oq os fuel)) := PSmono (ps_while hp hc hb) fun Dn σ H h => by
  obtain ⟨φ, F, ρ, m, R, E, L, h⟩ := h
  refine ⟨fun n σ' H' => ∃ φi Fi ρi mi, Stp X.K φ F m H φi Fi mi H' ∧ RepE X.K φi Fi mi σ' ρi ∧ σ'.length = ρi.length ∧ goWhile oq os n ρi mi = goWhile oq os fuel ρ m, ⟨fuel, φ, F, ρ, m, Stp.refl R, E, L, rfl⟩, ?_⟩
  rintro n σ' H' ⟨φi, Fi, ρi, mi, si, Ei, Li, eg⟩
  refine ⟨φi, Fi, ρi, mi, si.rel, Ei, Li, ?_⟩
  have h' := PostS.step R h si
  rw [← eg] at h'
  cases n with
  | zero => exact h'.elim
  | succ n =>
    have eg' : ((oq ρi mi).bind fun t m => if t = true then (os ρi m).bind fun r m => match r with
      | .nx ρ => goWhile oq os n ρ m
      | .ct ρ => goWhile oq os n ρ m
      | .bk ρ => .ok (.nx ρ) m
      | .ret v => .ok (.ret v) m
      else .ok (.nx ρi) m) = goWhile oq os fuel ρ m := eg
    have h2 : PostS X.K W φi Fi mi H' ((oq ρi mi).bind fun t m => if t = true then (os ρi m).bind fun r m => match r with
      | .nx ρ => goWhile oq os n ρ m
      | .ct ρ => goWhile oq os n ρ m
      | .bk ρ => .ok (.nx ρ) m
      | .ret v => .ok (.ret v) m
      else .ok (.nx ρi) m) Dn := h'
    cases hq : oq ρi mi with
    | bad => rw [hq] at h2; exact h2
    | exc x m' => rw [hq] at h2; exact h2
    | ok t m2 =>
      rw [hq] at h2 eg'
      simp only [Out.bind_ok] at h2 eg'
      intro φ2 F2 H2 t' s2 et
      cases et
      have S2 : Stp X.K φ F m H φ2 F2 m2 H2 := si.trans s2 R
      cases t with
      | false => exact h2 φ2 F2 H2 σ' s2 (Ei.step s2) Li
      | true =>
        simp only [if_true] at h2 eg'
        refine ⟨fun σ'' H'' => ∃ φi Fi ρi mi, Stp X.K φ F m H φi Fi mi H'' ∧ RepE X.K φi Fi mi σ'' ρi ∧ σ''.length = ρi.length ∧ goWhile oq os n ρi mi = goWhile oq os fuel ρ m, fun σ'' H'' hN => ⟨n, Nat.lt_succ_self n, hN⟩, ?_⟩
        refine ⟨φ2, F2, ρi, m2, s2.rel, Ei.step s2, Li, ?_⟩
        have h3 := PostS.step si.rel h2 s2
        cases ho : os ρi m2 with
        | bad => rw [ho] at h3; exact h3
        | exc x m' => rw [ho] at h3; exact h3
        | ok r m3 =>
          rw [ho] at h3 eg'
          simp only [Out.bind_ok] at h3 eg'
          cases r with
          | nx ρ3 => exact fun φ3 F3 H3 σ3 s3 E3 L3 => ⟨φ3, F3, ρ3, m3, S2.trans s3 R, E3, L3, eg'⟩
          | ct ρ3 => exact fun φ3 F3 H3 σ3 s3 E3 L3 => ⟨φ3, F3, ρ3, m3, S2.trans s3 R, E3, L3, eg'⟩
          | bk ρ3 => exact fun φ3 F3 H3 σ3 s3 E3 L3 => h3 φ3 F3 H3 σ3 s3 E3 L3
          | ret v => exact fun φ3 F3 H3 u s3 r3 => h3 φ3 F3 H3 u s3 r3
/-! ### several targets -/
theorem gV_ok {K : Frag} {φ : Nat → Addr} {F : Hp} {m : Store} {H : Hp} : ∀ {is : List Nat} {xs : List Val} {vs : List V} {σ : L2.St} {ρ ρ' : Ev} {Q : L2.St → Hp → Prop}, setVs is xs ρ = some ρ' → RepVs K φ F m vs xs → RepE K φ F m σ ρ → σ.length = ρ.length →
    (∀ σ', RepE K φ F m σ' ρ' → σ'.length = ρ'.length → Q σ' H) → is.foldr (fun i t => gCons (gName i) t) gNil vs σ H Q
  | [], [], _, σ, ρ, ρ', Q, h, .nil, E, L, k => by
    simp [setVs] at h; subst h
    exact ⟨rfl, k σ E L⟩
  | i :: is, d :: ds, _, σ, ρ, ρ', Q, h, .cons hv r, E, L, k => by
    have h : setVs is ds (ρ.set i (some d)) = some ρ' := h
    exact ⟨_, _, rfl, gV_ok h r (E.set L hv) (by simp [L]) k⟩
  | [], _ :: _, _, _, _, _, _, h, _, _, _, _ => by simp [setVs] at h
  | _ :: _, [], _, _, _, _, _, h, _, _, _, _ => by simp [setVs] at h
theorem setVs_len : ∀ {is : List Nat} {ds : List Val} {ρ ρ' : Ev}, setVs is ds ρ = some ρ' → ds.length = is.length
  | [], [], _, _, h => rfl
  | _ :: is, _ :: ds, ρ, _, h => by
    have h : setVs is ds _ = some _ := h
    simp [setVs_len h]
  | [], _ :: _, _, _, h => by simp [setVs] at h
  | _ :: _, [], _, _, h => by simp [setVs] at h
theorem repVs_len {K : Frag} {φ : Nat → Addr} {F : Hp} {m : Store} : ∀ {vs : List V} {xs : List Val}, RepVs K φ F m vs xs → vs.length = xs.length
  | _, _, .nil => rfl
  | _, _, .cons _ r => by simp [repVs_len r]
theorem sns_par {is : List Nat} {ts es : List Expr} {k1 k2 : Nat} (hl : is.length ≤ 9) (hg : PG X (.Tuple ts k1 px) (gT X.K (.tup is))) (he : PA X es (rdA X.K W ou)) (hw : swappedStores [.Tuple ts k1 px] (.Tuple es k2 py) X.env = pure none) :
    PS X (.Assign [.Tuple ts k1 px] (.Tuple es k2 py) pos) (rdS X.K W (exPar is ou)) := PSmono (ps_asg (pe_tup he) hg rfl hw rfl) fun Dn σ H h => by
  refine rdS_bind h fun φ F ρ m H1 vs us R E L r h => ?_
  obtain ⟨ρ', e, h⟩ := h.lift
  have h1 := repVs_len r
  have h2 := setVs_len e
  refine ⟨by rw [h1, h2]; exact Nat.le_trans hl (by decide), fun p hp => ?_⟩
  have s := Stp.newN (o := .tup us) R hp
  refine ⟨p, us, rfl, SqT.of upd_same, by rw [h1, h2], gV_ok e (r.step s) (E.step s) L fun σ' E' L' => ?_⟩
  exact h φ F _ σ' s E' L'
theorem sns_par2 {i j : Nat} {kt k2 : Nat} {pt2 : Pos} (hc : X.calm = true) (hN : X.N.Nodup) (hi : X.N[i]? = some x) (hj : X.N[j]? = some y) (hij : i ≠ j)
    (hx : X.env.scope.names.lookup x = some .local) (hy : X.env.scope.names.lookup y = some .local) (ha : PA X [a, b] (rdA X.K W ou))
    (hw : swappedStores [.Tuple [.Name x px, .Name y py] kt pt] (.Tuple [a, b] k2 pt2) X.env = pure (some [x, y])) :
    PS X (.Assign [.Tuple [.Name x px, .Name y py] kt pt] (.Tuple [a, b] k2 pt2) pos) (rdS X.K W (exPar [i, j] ou)) := PSmono (ps_par hc hN hi hj hij hx hy ha hw rfl) fun Dn σ H h => by
  refine rdS_bind h fun φ F ρ m H1 vs us R E L r h => ?_
  obtain ⟨ρ', e, h⟩ := h.lift
  have h2 := setVs_len e
  match vs, h2 with
  | [v1, v2], _ =>
    cases r with
    | cons r1 r2 =>
      cases r2 with
      | cons r2 r3 =>
        cases r3
        cases e
        exact ⟨_, _, rfl, h φ F H1 _ (Stp.refl R) ((E.set L r1).set (by simp [L]) r2) (by simp [L])⟩
theorem sns_par3 {i j l : Nat} {z : Str} {pz : Pos} {kt k2 : Nat} {pt2 : Pos} (hc : X.calm = true) (hN : X.N.Nodup) (hi : X.N[i]? = some x) (hj : X.N[j]? = some y) (hl : X.N[l]? = some z) (hij : i ≠ j) (hil : i ≠ l) (hjl : j ≠ l)
    (hx : X.env.scope.names.lookup x = some .local) (hy : X.env.scope.names.lookup y = some .local) (hz : X.env.scope.names.lookup z = some .local) (ha : PA X [a, b, c] (rdA X.K W ou))
    (hw : swappedStores [.Tuple [.Name x px, .Name y py, .Name z pz] kt pt] (.Tuple [a, b, c] k2 pt2) X.env = pure (some [x, y, z])) :
    PS X (.Assign [.Tuple [.Name x px, .Name y py, .Name z pz] kt pt] (.Tuple [a, b, c] k2 pt2) pos) (rdS X.K W (exPar [i, j, l] ou)) := PSmono (ps_par3 hc hN hi hj hl hij hil hjl hx hy hz ha hw rfl) fun Dn σ H h => by
  refine rdS_bind h fun φ F ρ m H1 vs us R E L r h => ?_
  obtain ⟨ρ', e, h⟩ := h.lift
  have h2 := setVs_len e
  match vs, h2 with
  | [v1, v2, v3], _ =>
    cases r with
    | cons r1 r2 =>
      cases r2 with
      | cons r2 r3 =>
        cases r3 with
        | cons r3 r4 =>
          cases r4
          cases e
          exact ⟨_, _, _, rfl, h φ F H1 _ (Stp.refl R) (((E.set L r1).set (by simp [L]) r2).set (by simp [L]) r3) (by simp [L])⟩
theorem sole_not {t : Expr} {l : Nat} {env : PySem.Env} (h : notLc e = true) : swapsWithSole [t] e l env = pure false := sw_not (tgt := some t) h
def notTup : Expr → Bool
  | .Tuple _ _ _ => false
  | _ => true
theorem swap_none {ts : List Expr} {k : Nat} {env : PySem.Env} (h : notTup e = true) : swappedStores [.Tuple ts k px] e env = pure none := by cases e <;> first | rfl | cases h
theorem sns_unp {is : List Nat} {ts : List Expr} {k1 : Nat} (hg : PG X (.Tuple ts k1 px) (gT X.K (.tup is))) (he : PE X e (rdE X.K W oe)) (hn : notTup e = true) (hs : notLc e = true) : PS X (.Assign [.Tuple ts k1 px] e pos) (rdS X.K W (exUnp is oe)) :=
  PSmono (ps_asg he hg (sole_not hs) (swap_none hn) rfl) fun Dn σ H h => by
    refine rdS_bind h fun φ F ρ m H1 v u R E L r h => ?_
    cases v with
    | cell n => exact h.elim
    | d d =>
      obtain ⟨ρ', e, h⟩ := h.lift
      exact gT_ok (tg := .tup is) R e r (fun j v _ q => E j v q) L fun σ' E' l' _ => h φ F H1 σ' (Stp.refl R) E' (by rw [l', bindT_len e]; exact L)
theorem sns_setIx {o i : Expr} {oo oi : Ex} {p2 : Pos} (ho : PE X o (rdE X.K W oo)) (hi : PE X i (rdE X.K W oi)) (he : PE X e (rdE X.K W oe)) (hs : notLc e = true) (ha : ∀ v, assign (.Subscript o i p2) X.env v = (do
      let ov ← holding [v] (eval o X.env)
      let iv ← holding [v, ov] (eval i X.env)
      standAt p2
      holding [v, ov, iv] (setItem ov iv v)
      release [v, ov, iv] [])) (hw : swappedStores [.Subscript o i p2] e X.env = pure none) (h1 : (assignEach [.Subscript o i p2] X.env).map (·.2) = [assign (.Subscript o i p2) X.env]) : PS X (.Assign [.Subscript o i p2] e pos) (rdS X.K W (exSetIx oo oi oe)) :=
  PSmono (ps_asg he (pg_sub ho hi set_list ha) (sole_not hs) hw h1) fun Dn σ H h => by
    refine rdS_bind h fun φ F ρ m H1 v u R E L r h => ?_
    refine ⟨φ, F, ρ, m, R, E, L, PostS.bind R h fun x m1 φ1 F1 H2 ux s1 r1 h => ?_⟩
    refine ⟨φ1, F1, ρ, m1, s1.rel, E.step s1, L, PostS.bind s1.rel h fun y m2 φ2 F2 H3 uy s2 r2 h => ?_⟩
    cases x with
    | d _ => exact h.elim
    | cell n =>
      cases y with
      | cell _ => exact h.elim
      | d dy =>
        cases dy <;> try exact h.elim
        rename_i k
        cases v with
        | cell _ => exact h.elim
        | d d =>
          obtain ⟨rfl, hn⟩ := RepV.step s2 r1
          cases (show Rep X.K F2 uy (.int k) from r2)
          have h : PostS X.K W φ2 F2 m2 H3 (match setC n k d m2 with
            | some m' => .ok (.nx ρ) m'
            | none => .bad) Dn := h
          unfold setC at h
          cases ec : m2[n]? with
          | none => rw [ec] at h; exact h.elim
          | some cc =>
            cases cc with
            | dead => rw [ec] at h; exact h.elim
            | dct _ _ => rw [ec] at h; exact h.elim
            | lst ds =>
              rw [ec] at h
              obtain ⟨ho2, e4, e5⟩ := s2.rel.cell n _ ec
              have hro := (e5 rfl).2
              cases ho2 <;> try exact hro.elim
              rename_i vs
              have hro : Reps X.K F2 vs ds := hro
              cases ej : ixN ds.length k with
              | none => simp only [ej, Option.map_none] at h; exact h.elim
              | some j =>
                simp only [ej, Option.map_some] at h
                refine ⟨_, vs, k, j, rfl, rfl, e4, by rw [hro.length]; exact ej, ?_⟩
                have r' : Rep X.K F2 u d := RepV.step s2 (RepV.step s1 r)
                have s3 := Stp.write s2.rel (o := .lst (vs.set j u)) (c' := .lst (ds.set j d)) ec rfl rfl (Reps.set r' j hro)
                exact h φ2 F2 _ σ s3 ((E.step s1).step s2 |>.step s3) L
end
end AW
set_option maxRecDepth 100000
set_option maxHeartbeats 4000000
namespace AW
open PySem L2 PySem.Spec PyProof.Rows
/-- what a def promises where no repr is under way -/
structure FnG (P : Program) (w : World) (K : PySem.W.Frag) (mg : Str → Option Value) (base : Heap) (CX : CXT) (k : Nat) (f : Addr) (fd : FuncData) (ps : List Str) (sp : Sp) : Prop where
  len : ∀ vs H Q E, sp vs H Q E → vs.length = ps.length
  run : ∀ (A : Around) (outer : List Env) (s : Shared) (H : Hp) (args : Args) (us : List Value) (vs : List V) (Q : VK) (E : XK), A.guards = some [] → Room k A → Env0 P w K mg base A outer s H → BindsTo s fd args (ps.zip us) → Vals vs us → sp vs H Q E →
    codeAny (model P w) A (.call (.ref f) args) (CR CX outer P w H s Q E) s
theorem fnG_of {CX : CXT} {P : Program} {w : World} {K : PySem.W.Frag} {mg : Str → Option Value} {base : Heap} {k : Nat} {f : Addr} {x qual : Str} {params : Arguments} {body : List Stmt} {scope : Scope} {kws : List (Str × V)} {dvs : List V} {fd : FuncData} {N ps : List Str} {sp : Sp}
    (F : FunD K x qual params body scope dvs kws f fd) (S : FnScope N ps scope) (len : ∀ vs H Q E, sp vs H Q E → vs.length = ps.length)
    (hbody : ∀ (cdv : Value) (A : Around) (outer : List Env) (s : Shared) (H : Hp) (vs : List V) (Q : VK) (E : XK), fd.code = cdv → A.guards = some [] → Room k (A.deeper (PyProof.Rows.envOfC qual scope s.heap.objs.size f cdv)) → sp vs H Q E →
      ∃ t, PSs (cxOf CX P w K mg base N qual scope f cdv A outer s H E) body t ∧ t { nx := fun _ H' => Q .non H', rt := Q } (L2.start N vs) H) : FnG P w K mg base CX (k + 1) f fd ps sp := by
  obtain ⟨oc, od, dV, kV, doc, pm, an, cdv, ct, osl, rfl, lk, hcd, _, _⟩ := F.ex
  refine ⟨len, fun A outer s H args us vs Q E hgd hr e0 hb r hsp => ?_⟩
  have hlen := len _ _ _ _ hsp
  have KX : K.In s.heap := e0.mod.kin.keeps fun b o e => (e0.bs b o e).1
  have noL : s.heap.NoLimit := e0.mod.nolimit.keeps fun b o e => (e0.bs b o e).1
  have kinds : ∀ y ∈ ps.zip us, scope.names.lookup y.1 = some .local ∨ (scope.names.lookup y.1 = some .cell ∧ ((cellsFrom (s.heap.objs.size + 1) scope.names []).lookup y.1).isSome = true) := by
    rintro ⟨n, v⟩ hy
    refine (S.par n (List.of_mem_zip hy).1).imp id fun q => ⟨q, ?_⟩
    exact PySem.W.cellsFrom_some _ _ _ (.inl q)
  refine PySem.codeAny_call_function hr.depth (KX _ _ lk) rfl S.co S.gen rfl (PySem.W.codeRec_of KX hcd) (hb _ _ _ _ ?_)
  refine PySem.wpAny_newFunctionEnv_cells S.kind kinds fun env he s1 x1 => ?_
  subst he
  refine ⟨noL.keeps x1.toInCall.keep, codeAny_func ?_⟩
  obtain ⟨t, ht, hq⟩ := hbody cdv A outer s H vs Q E rfl hgd (hr.deeper _) hsp
  have J0 := inv_start (CX := CX) (E := E) (P := P) (w := w) (mg := mg) (base := base) S hr.hd e0 hlen r x1
  refine wpAny_mono (ht.run [] s1 (L2.start N vs) H _ J0 hq) (fun fl s' hs => ?_) fun e s' hs => hs
  cases fl with
  | ret u =>
    obtain ⟨v, σ', H', J, rv, q⟩ := hs
    exact ⟨v, H', J.os, J.bare, J.base, J.hok, rv, q⟩
  | next =>
    obtain ⟨σ', H', J, q⟩ := hs
    exact ⟨.non, H', J.os, J.bare, J.base, J.hok, rfl, q⟩
  | brk =>
    obtain ⟨σ', H', J, q⟩ := hs
    exact False.elim q
  | cont =>
    obtain ⟨σ', H', J, q⟩ := hs
    exact False.elim q
section
variable {X : Cx} {CX : CXT} {k : Nat} {f : Addr} {fd : FuncData} {ps : List Str} {sp : Sp} {E : XK} {x : Str} {p pos : Pos} {e : Expr} {es : List Expr} {t : TA}
theorem run_fnG {pins : List (Addr × Obj)} {σ : L2.St} {H : Hp} {s : Shared} {Q : VK} {us : List Value} {vs : List V} (F : FnG X.prog X.w X.K X.mg X.base CX k f fd ps sp) (hgd : X.A.guards = some []) (hr : Room k X.A) (hb : Binds X.K fd ps []) (hx : Passes CX X E)
    (I : L2.Inv X pins σ H s) (r : Vals vs us) (h : sp vs H Q E) : wpAny (model X.prog X.w) X.A (call (.ref f) us) (EP X pins σ Q) X.xe s := by
  have hl : us.length = ps.length := by rw [← r.length]; exact F.len _ _ _ _ h
  have hb' := hb s us I.kIn (by rw [List.append_nil]; exact hl)
  rw [List.append_nil] at hb'
  refine wpAny_call (codeAny_mono (F.run X.A X.stack s H ⟨us, []⟩ us vs Q E hgd hr I.env0 hb' r h) fun z s' hq => ?_)
  match z, hq with
  | .error e, hq => exact hx pins σ H s e s' I hq
  | .ok (.ret u), hq => exact I.after hq
  | .ok .next, hq => exact False.elim hq
  | .ok .brk, hq => exact False.elim hq
  | .ok .cont, hq => exact False.elim hq
theorem pe_callG (F : FnG X.prog X.w X.K X.mg X.base CX k f fd ps sp) (hgd : X.A.guards = some []) (hr : Room k X.A) (hg : Gl X x) (hm : X.mg x = some (.ref f)) (hk : PySem.W.keepIn X.K (.ref f) = true) (hb : Binds X.K fd ps []) (hx : Passes CX X E) (ha : PA X (e :: es) t) (hdb : (x == ("__debug__" : Str)) = false)
    (he : starEach (e :: es) X.env = (false, eval e X.env) :: starEach es X.env) (hpl : (backTo pos (starEach es X.env)).any (·.1) = false) : PE X (.Call (.Name x p) (e :: es) [] pos) (tCall sp [] E t) := ⟨fun pins s σ H Q I h => by
  refine wpAny_Call_Name_kw (ld_glob I hg hm ?_ hdb)
  refine PySem.W.callWith_K (h₀ := X.base) I.ok.mod.kin hk (thn (ha.run pos pins s σ H _ I h) fun us s1 hh => ?_) he hpl
  obtain ⟨vs, H1, I1, r, q⟩ := hh
  rw [List.append_nil] at q
  exact ⟨I1.kIn, run_fnG F hgd hr hb hx I1 r q⟩⟩
theorem pe_call0G (F : FnG X.prog X.w X.K X.mg X.base CX k f fd ps sp) (hgd : X.A.guards = some []) (hr : Room k X.A) (hg : Gl X x) (hm : X.mg x = some (.ref f)) (hk : PySem.W.keepIn X.K (.ref f) = true) (hb : Binds X.K fd ps []) (hx : Passes CX X E)
    (hdb : (x == ("__debug__" : Str)) = false) : PE X (.Call (.Name x p) [] [] pos) (tCall sp [] E tNil) := ⟨fun pins s σ H Q I h => by
  refine wpAny_Call_Name_kw (ld_glob I hg hm ?_ hdb)
  refine PySem.W.callWith_K0 (first := []) I.kIn hk ?_
  exact run_fnG (us := []) (vs := []) F hgd hr hb hx I .nil h⟩
end
/-- the same by what is handed over -/
def FnQ (P : Program) (w : World) (K : PySem.W.Frag) (mg : Str → Option Value) (base : Heap) (CX : CXT) (k : Nat) (f : Addr) (sp : Sp) : Prop :=
  ∀ (A : Around) (outer : List Env) (s : Shared) (H : Hp) (us : List Value) (vs : List V) (Q : VK) (E : XK), A.guards = some [] → Room k A → Env0 P w K mg base A outer s H → Vals vs us → sp vs H Q E →
    codeAny (model P w) A (.call (.ref f) ⟨us, []⟩) (CR CX outer P w H s Q E) s
theorem FnG.q {P : Program} {w : World} {K : PySem.W.Frag} {mg : Str → Option Value} {base : Heap} {CX : CXT} {k : Nat} {f : Addr} {fd : FuncData} {ps : List Str} {sp : Sp} (F : FnG P w K mg base CX k f fd ps sp) (hb : Binds K fd ps []) : FnQ P w K mg base CX k f sp := by
  intro A outer s H us vs Q E hgd hr e0 r h
  have KX : K.In s.heap := e0.mod.kin.keeps fun b o e => (e0.bs b o e).1
  have hl : us.length = ps.length := by rw [← r.length]; exact F.len _ _ _ _ h
  have hb' := hb s us KX (by rw [List.append_nil]; exact hl)
  rw [List.append_nil] at hb'
  exact F.run A outer s H ⟨us, []⟩ us vs Q E hgd hr e0 hb' r h
/-- def f(a, .., *v) -/
theorem fnQ_star {CX : CXT} {P : Program} {w : World} {K : PySem.W.Frag} {mg : Str → Option Value} {base : Heap} {k : Nat} {f : Addr} {x qual : Str} {params : Arguments} {body : List Stmt} {scope : Scope} {kws : List (Str × V)} {dvs : List V} {fd : FuncData} {N ps : List Str} {pv : Str} {sp : Sp}
    (F : FunD K x qual params body scope dvs kws f fd) (S : FnScope N (ps ++ [pv]) scope) (hCX : StX.CXUp CX)
    (hb : ∀ us rest : List Value, us.length = ps.length → bindArgs fd ⟨us ++ rest, []⟩ = (newTuple rest >>= fun t => pure (ps.zip us ++ [(pv, t)])))
    (hbody : ∀ (cdv : Value) (A : Around) (outer : List Env) (s : Shared) (H : Hp) (vs : List V) (Q : VK) (E : XK), fd.code = cdv → A.guards = some [] → Room k (A.deeper (PyProof.Rows.envOfC qual scope s.heap.objs.size f cdv)) → sp vs H Q E →
      ∃ t, PSs (cxOf CX P w K mg base N qual scope f cdv A outer s H E) body t ∧ t { nx := fun _ H' => Q .non H', rt := Q } (L2.start N vs) H) :
    FnQ P w K mg base CX (k + 1) f (fun vs H Q E => ∃ ws rest, vs = ws ++ rest ∧ ws.length = ps.length ∧ rest.length ≤ sizeLine ∧ ∀ p, H p = Option.none → sp (ws ++ [V.ref p]) (upd H p (.tup rest)) Q E) := by
  obtain ⟨oc, od, dV, kV, doc, pm, an, cdv, ct, osl, rfl, lk, hcd, _, _⟩ := F.ex
  intro A outer s H us vs Q E hgd hr e0 r hsp
  obtain ⟨ws, rest, ev, hl, hz, hq⟩ := hsp
  subst ev
  obtain ⟨u1, u2, eu, r1, r2⟩ := StX.vals_split r
  subst eu
  have hn : H s.heap.objs.size = Option.none := e0.hok.fresh (Nat.le_refl _)
  have hl1 : u1.length = ps.length := by rw [← r1.length]; exact hl
  have hl2 : u2.length ≤ sizeLine := by rw [← r2.length]; exact hz
  refine StX.run_bnd lk hcd S hr e0 (G := fun xs H2 => ∃ p, H p = Option.none ∧ xs = ws ++ [V.ref p] ∧ H2 = upd H p (.tup rest)) (fun A' Ex Q' h => ?_) fun s2 H2 xs ⟨p, hp, ex, eH⟩ hr' => ?_
  · rw [hb u1 u2 hl1]
    refine wpAny_bind (wpAny_newTuple (wpAny_pure ?_) hl2)
    have new : ObjOk P w (upd H s.heap.objs.size (.tup rest)) (s.heap.push ({ cls := .type "tuple", data := .seq u2.toArray } : Obj)) s.heap.objs.size (.tup rest) := ⟨hz, u2, r2, ⟨_, Heap.get?_push_size _ rfl, rfl, _, rfl⟩⟩
    have un := StX.un_laid (fs := frs outer) (s := s) (o := ({ cls := .type "tuple", data := .seq u2.toArray } : Obj)) (u := .tup rest) hn
    have z := h _ _ (ws ++ [V.ref s.heap.objs.size]) (u1 ++ [Value.ref s.heap.objs.size]) (StX.env0_laid e0 new) un rfl (fun e s' => hCX outer s H _ _ E e s' un (fun b o q => Heap.get?_push_of_some _ q) rfl) (r1.append (.cons rfl .nil))
      (by rw [List.length_append, List.length_append, hl] <;> rfl) ⟨_, hn, rfl, rfl⟩
    rw [List.zip_append hl1.symm] at z
    exact z
  · subst ex eH
    exact hbody cdv A outer s2 _ _ Q E rfl hgd hr' (hq p hp)
section
variable {X : Cx} {CX : CXT} {k : Nat} {f : Addr} {sp : Sp} {E : XK} {x : Str} {p pos : Pos} {e : Expr} {es : List Expr} {t : TA}
theorem run_fnQ {pins : List (Addr × Obj)} {σ : L2.St} {H : Hp} {s : Shared} {Q : VK} {us : List Value} {vs : List V} (F : FnQ X.prog X.w X.K X.mg X.base CX k f sp) (hgd : X.A.guards = some []) (hr : Room k X.A) (hx : Passes CX X E)
    (I : L2.Inv X pins σ H s) (r : Vals vs us) (h : sp vs H Q E) : wpAny (model X.prog X.w) X.A (call (.ref f) us) (EP X pins σ Q) X.xe s := by
  refine wpAny_call (codeAny_mono (F X.A X.stack s H us vs Q E hgd hr I.env0 r h) fun z s' hq => ?_)
  match z, hq with
  | .error e, hq => exact hx pins σ H s e s' I hq
  | .ok (.ret u), hq => exact I.after hq
  | .ok .next, hq => exact False.elim hq
  | .ok .brk, hq => exact False.elim hq
  | .ok .cont, hq => exact False.elim hq
theorem pe_callQ (F : FnQ X.prog X.w X.K X.mg X.base CX k f sp) (hgd : X.A.guards = some []) (hr : Room k X.A) (hg : Gl X x) (hm : X.mg x = some (.ref f)) (hk : PySem.W.keepIn X.K (.ref f) = true) (hx : Passes CX X E) (ha : PA X (e :: es) t) (hdb : (x == ("__debug__" : Str)) = false)
    (he : starEach (e :: es) X.env = (false, eval e X.env) :: starEach es X.env) (hpl : (backTo pos (starEach es X.env)).any (·.1) = false) : PE X (.Call (.Name x p) (e :: es) [] pos) (tCall sp [] E t) := ⟨fun pins s σ H Q I h => by
  refine wpAny_Call_Name_kw (ld_glob I hg hm ?_ hdb)
  refine PySem.W.callWith_K (h₀ := X.base) I.ok.mod.kin hk (thn (ha.run pos pins s σ H _ I h) fun us s1 hh => ?_) he hpl
  obtain ⟨vs, H1, I1, r, q⟩ := hh
  rw [List.append_nil] at q
  exact ⟨I1.kIn, run_fnQ F hgd hr hx I1 r q⟩⟩
theorem pe_call0Q (F : FnQ X.prog X.w X.K X.mg X.base CX k f sp) (hgd : X.A.guards = some []) (hr : Room k X.A) (hg : Gl X x) (hm : X.mg x = some (.ref f)) (hk : PySem.W.keepIn X.K (.ref f) = true) (hx : Passes CX X E)
    (hdb : (x == ("__debug__" : Str)) = false) : PE X (.Call (.Name x p) [] [] pos) (tCall sp [] E tNil) := ⟨fun pins s σ H Q I h => by
  refine wpAny_Call_Name_kw (ld_glob I hg hm ?_ hdb)
  refine PySem.W.callWith_K0 (first := []) I.kIn hk ?_
  exact run_fnQ (us := []) (vs := []) F hgd hr hx I .nil h⟩
end
/-- the law at its call: as L2's law_call, where the def's promise holds when no repr is under way; cs: the code objects of defs, and their tables, which are empty -/
theorem law_callG {P : Program} {w : World} {K : PySem.W.Frag} {mg mb : Str → Option Value} {CX : CXT} {k : Nat} {fa a : Addr} {cs : List (Addr × Addr)} {fd : FuncData} {x : Str} {sp : Sp} {s1 : Shared} {vs : List Value} {ns : List Int}
    (KX : K.In s1.heap) (hns : s1.heap.Ns mainGlobals mg) (hb : s1.heap.Ns builtinsNs mb) (hbb : ∀ y : Str, y ≠ "__name__" → mb y = bootBuiltins y) (hlim : s1.heap.NoLimit) (hg : s1.gens = #[])
    (hT : ∀ p ∈ cs, s1.heap.get? p.2 = some { cls := .none, data := .fields #[] }) (nT : ∀ p ∈ cs, K.lookup p.2 = none) (hC : ∀ p ∈ cs, PySem.W.CodeHd s1.heap p.1 p.2)
    (hbm : ∃ (bm : Addr) (ob : Obj), mg "__builtins__" = some (.ref bm) ∧ bm ≠ builtinsNs ∧ s1.heap.get? bm = some ob ∧ ob.cls = .type "module" ∧ ob.dict = some builtinsNs ∧ ob.data = .plain)
    (ha : s1.heap.get? a = some { cls := .type "list", data := .seq vs.toArray }) (hi : PyProof.Rows.IntsAre vs ns) (hl : ns.length ≤ sizeLine) (hr : Room k callerA)
    (F : ∀ base : Heap, K.In base → base.Ns mainGlobals mg → (∀ p ∈ cs, LamX.TabB base mg p.1 p.2) → FnG P w K mg base CX k fa fd [x] sp) (hbind : ∀ (s : Shared) (u : Value), BindsTo s fd ⟨[u], []⟩ [(x, u)])
    (hsp : ∀ H : Hp, (∀ p ∈ cs, H p.2 = some (.tbl #[])) → SqL K H a (ns.map V.int) → sp [.ref a] H (fun v _ => v = .bl true) fun _ _ _ => False)
    (hCX : ∀ H e s', CX [] H s1 (fun _ _ _ => False) e s' → False) :
    codeAny (model P w) callerA (.call (.ref fa) ⟨[.ref a], []⟩) (fun r s' => r = .ok (.ret (.bool true)) ∧ OldK s1.heap s'.heap ∧ s'.os = s1.os ∧ AllBare s'.gens) s1 := by
  have rv := vals_ints hi
  have lenV := hi.length
  -- which addresses are tables
  obtain ⟨tb, tbd⟩ : ∃ tb : Addr → Prop, tb = fun b => ∃ p ∈ cs, p.2 = b := ⟨_, rfl⟩
  have tbs : ∀ p ∈ cs, tb p.2 := fun p hp => by rw [tbd]; exact ⟨p, hp, rfl⟩
  have isT : ∀ b, tb b → s1.heap.get? b = some { cls := .none, data := .fields #[] } := fun b hb => by
    rw [tbd] at hb; obtain ⟨p, hp, rfl⟩ := hb; exact hT p hp
  have kT : ∀ b, tb b → K.lookup b = none := fun b hb => by
    rw [tbd] at hb; obtain ⟨p, hp, rfl⟩ := hb; exact nT p hp
  have aT : ¬ tb a := fun z => by
    have q := isT a z
    rw [ha] at q; cases q
  have main : ∀ H : Hp, (∀ b, tb b → H b = some (.tbl #[])) → (∀ b, H b = none ∨ tb b ∨ ∃ o xs, H b = some (.frz o (.lst xs))) → SqL K H a (ns.map V.int) → HOk P w H s1.heap → (∀ b, H b ≠ none → b = a ∨ tb b) → (H a ≠ none → K.lookup a = none) →
      codeAny (model P w) callerA (.call (.ref fa) ⟨[.ref a], []⟩) (fun r s' => r = .ok (.ret (.bool true)) ∧ OldK s1.heap s'.heap ∧ s'.os = s1.os ∧ AllBare s'.gens) s1 := by
    intro H hH hO hS hok hA hK
    have free : ∀ {b : Addr} {o : Obj}, s1.heap.get? b = some o → (∀ us n, o.data ≠ .seq us n) → o.data ≠ .fields #[] → H b = none := fun {b o} e h1 h2 => by
      cases q : H b with
      | none => rfl
      | some u =>
        rcases hA b (by rw [q]; exact fun z => nomatch z) with rfl | z
        · rw [ha] at e; cases e; exact absurd rfl (h1 _ _)
        · rw [isT b z] at e; cases e; exact absurd rfl h2
    have ns' : ∀ {b : Addr} {mm : Str → Option Value}, s1.heap.Ns b mm → (hidT s1.heap H).Ns b mm := by
      rintro b mm ⟨o, es, ep, e, d, r⟩
      exact ⟨o, es, ep, hidT_get e (free e (fun us n z => by rw [d] at z; cases z) (fun z => by rw [d] at z; cases z)), d, r⟩
    have hKb : K.In (hidT s1.heap H) := fun b o e => hidT_get (KX b o e) (by
      cases z : H b with
      | none => rfl
      | some u =>
        rcases hA b (by rw [z]; exact fun q => nomatch q) with rfl | q
        · rw [hK (by rw [z]; exact fun y => nomatch y)] at e; cases e
        · rw [kT b q] at e; cases e)
    obtain ⟨mc, c1, c2⟩ := hlim
    have hM : Mod K mg (hidT s1.heap H) := ⟨hKb, ns' hns, ⟨mb, ns' hb, hbb⟩, ⟨mc, ns' c1, c2⟩⟩
    obtain ⟨oG, esG, epG, eG, dG, rG⟩ := id hns
    have TB : ∀ p ∈ cs, LamX.TabB (hidT s1.heap H) mg p.1 p.2 := fun p hp => by
      obtain ⟨o, us, file, tf, flags, tg, inF, text, tt, e1, r1, r2, r3, rest⟩ := hC p hp
      obtain ⟨bm, ob, b1, b2, b3, b4, b5, b6⟩ := hbm
      have tp := hT p hp
      refine ⟨⟨o, us, file, tf, flags, tg, inF, text, tt, hidT_get e1 (free e1 (fun us n z => by rw [r2] at z; cases z) fun z => ?_), r1, r2, r3, rest⟩, ⟨bm, ob, b1, b2, fun q => ?_, fun q => ?_, hidT_get b3 (free b3 (fun us n z => by rw [b6] at z; cases z) (fun z => by rw [b6] at z; cases z)), b4, b5, b6⟩, fun z => ?_⟩
      · rw [r2] at z; cases z; simp at r3
      · rw [q, eG] at b3; cases b3; rw [dG] at b6; cases b6
      · rw [q, tp] at b3; cases b3; cases b6
      · rw [z, tp] at eG; cases eG; cases dG
    have hE : Env0 P w K mg (hidT s1.heap H) callerA [] s1 H := ⟨rfl, hM, fun b o e => of_hidT e, Nat.le_of_eq (hidT_size _ _), trivial, (fun b hb => by cases hb), hok, .of_eq hg⟩
    have go := (F _ hKb (ns' hns) TB).run callerA [] s1 H ⟨[.ref a], []⟩ [.ref a] [.ref a] _ _ rfl hr hE (hbind s1 (.ref a)) (.cons rfl .nil) (hsp H (fun p hp => hH _ (tbs p hp)) hS)
    refine codeAny_mono go fun z s' h => ?_
    match z, h with
    | .error e, h => exact (hCX H e s' h).elim
    | .ok .next, h => exact False.elim h
    | .ok .brk, h => exact False.elim h
    | .ok .cont, h => exact False.elim h
    | .ok (.ret u), h =>
      obtain ⟨v, H', os, bare, un, hok', r', q⟩ := h
      cases (show v = .bl true from q)
      cases (show u = Value.bool true from r')
      have old : ∀ b o, s1.heap.get? b = some o → (¬ tb b ∧ s'.heap.get? b = some o) ∨ ∃ p ∈ cs, p.2 = b ∧ o = { cls := .none, data := .fields #[] } ∧ ∃ more, s'.heap.get? b = some { cls := .none, data := .fields more } := fun b o e => by
        rcases hO b with z | z | ⟨ob, xs, z⟩
        · refine .inl ⟨fun t => (by rw [hH b t] at z; cases z), un.keep b o e z (by intro y; cases y) (by simp)⟩
        · obtain ⟨more, y⟩ := un.tbls b #[] (hH b z)
          rw [isT b z] at e; cases e
          rw [tbd] at z
          obtain ⟨p, hp, rfl⟩ := z
          exact .inr ⟨p, hp, rfl, rfl, _, hok' _ _ y⟩
        · obtain ⟨e1, _⟩ := hok b _ z
          obtain ⟨e2, _⟩ := hok' b _ (un.frzs b ob _ z)
          rw [e] at e1; cases e1
          exact .inl ⟨fun t => (by rw [hH b t] at z; cases z), e2⟩
      refine ⟨rfl, ⟨fun b o e => ?_, fun b o e => ?_⟩, os, bare⟩
      · rcases old b o e with ⟨_, y⟩ | ⟨p, hp, rfl, rfl, more, hm⟩
        · exact .inl y
        · exact .inr (.inl ⟨((hC p hp).tab (hT p hp)).isCodeTable, rfl, #[], more, rfl, by rw [Array.empty_append]; exact hm⟩)
      · rcases old b o e with ⟨_, y⟩ | ⟨p, hp, rfl, rfl, more, hm⟩
        · exact ⟨_, y⟩
        · exact ⟨_, hm⟩
  classical
  cases hk : K.lookup a with
  | some o =>
    have e := KX a o hk
    rw [ha] at e
    cases e
    refine main (fun b => if tb b then some (.tbl #[]) else none) (fun b hb => if_pos hb) (fun b => ?_) (.inr ⟨_, vs.toArray, _, hk, rfl, rfl, rfl, by rw [List.size_toArray, lenV]; exact hl, by simpa using rv⟩) (fun b u z => ?_) (fun b z => ?_) fun z => absurd (if_neg aT) z
    · by_cases q : tb b
      · exact .inr (.inl q)
      · exact .inl (if_neg q)
    · by_cases q : tb b
      · simp only [if_pos q] at z; cases z; exact isT b q
      · simp only [if_neg q] at z; cases z
    · by_cases q : tb b
      · exact .inr q
      · exact absurd (if_neg q) z
  | none =>
    refine main (fun b => if b = a then some (.frz { cls := .type "list", data := .seq vs.toArray } (.lst (ns.map V.int))) else if tb b then some (.tbl #[]) else none) (fun b hb => ?_) (fun b => ?_) (.inl (.inr ⟨_, if_pos rfl⟩)) (fun b u z => ?_) (fun b z => ?_) fun _ => hk
    · have nb : b ≠ a := fun q => aT (q ▸ hb)
      simp only [if_neg nb, if_pos hb]
    · by_cases q : b = a
      · exact .inr (.inr ⟨_, _, if_pos q⟩)
      · by_cases q2 : tb b
        · exact .inr (.inl q2)
        · exact .inl (by simp only [if_neg q, if_neg q2])
    · by_cases q : b = a
      · subst q
        simp only [if_true] at z
        cases z
        exact ⟨ha, by rw [List.length_map]; exact hl, vs, _, rv, ha⟩
      · by_cases q2 : tb b
        · simp only [if_neg q, if_pos q2] at z; cases z; exact isT b q2
        · simp only [if_neg q, if_neg q2] at z; cases z
    · by_cases q : b = a
      · exact .inl q
      · by_cases q2 : tb b
        · exact .inr q2
        · exact absurd (by simp only [if_neg q, if_neg q2]) z
theorem walk_G {l : PySem.W.OpenLaw} {n k : Nat} {q : Program} {loose : List Str} {XP : (Str → Option Value) → Heap → Prop} {YP : World → Heap → Prop} {d : DefRec} {x : Str}
    (hn : l.most = some n) (hn2 : n ≤ sizeLine) (hdf : d.params.defaults = []) (hr : Room k callerA)
    (F : ∀ (w : World) (mg : Str → Option Value) (fa : Addr) (h : Heap), YP w h → h.Ns mainGlobals mg → mg d.name = some (.ref fa) →
      ∃ (K : PySem.W.Frag) (fd : FuncData) (cs : List (Addr × Addr)) (sp : Sp), K.In h ∧ (∀ p ∈ cs, h.get? p.2 = some { cls := .none, data := .fields #[] }) ∧ (∀ p ∈ cs, K.lookup p.2 = none) ∧ (∀ p ∈ cs, PySem.W.CodeHd h p.1 p.2) ∧ (∀ (s : Shared) (u : Value), BindsTo s fd ⟨[u], []⟩ [(x, u)]) ∧
        (∀ (H : Hp) (a : Addr) (ns : List Int), ns.length ≤ n → (∀ p ∈ cs, H p.2 = some (.tbl #[])) → SqL K H a (ns.map V.int) → sp [.ref a] H (fun v _ => v = .bl true) fun _ _ _ => False) ∧
        ∀ base : Heap, K.In base → base.Ns mainGlobals mg → (∀ p ∈ cs, LamX.TabB base mg p.1 p.2) → FnG l.prog w K mg base (L2.CX l.prog w) k fa fd [x] sp) : PySem.W.WalkO q loose XP YP l.row.toRowW d [] (fun f vs => PySem.call f vs) := by
  refine Att.attach_call hn hdf fun w s0 s1 mg mb fa o pm cd doc a vs ns G Y ho hd hcd hmg hobj hints hlen hg => ?_
  obtain ⟨K, fd, cs, sp, KX, hT, nT, hC, hb, hsp, hF⟩ := F w mg fa _ Y G.T.g hmg
  refine law_callG KX G.T.g G.T.b G.T.builtins G.T.nolimit hg hT nT hC G.T.bmain hobj hints (Nat.le_trans hlen hn2) hr hF hb (fun H hH hS => hsp H a ns hlen hH hS) fun H e s' hc => ?_
  obtain ⟨_, _, _, _, _, _, _, _, _, _, _, _, z⟩ := hc
  exact z
end AW
set_option maxRecDepth 100000
namespace AW
open PySem L2
section
variable {X : Cx} {W : Wsh} {a b c e : Expr} {es : List Expr} {oa ob oc oe : Ex} {ou : Ev → Store → Out (List Val)} {pos p px py pt apos : Pos} {x y : Str} {os ot : Sx}
/-! ### x op= e -/
def rAug (K : Frag) (W : Wsh) (op : Operator) : TIp := fun x y H Q => ∃ φ F m dx dy z, RelS K φ F m H ∧ Rep K F x dx ∧ Rep K F y dy ∧ augD op dx dy = some z ∧ OkD K W φ F m H z Q
theorem ip_any (op : Operator) : PIp X op (rAug X.K W op) := by
  intro pins s σ H x y v u Q I rx ry h
  obtain ⟨φ, F, m, dx, dy, z, R, px, py, e, h⟩ := h
  unfold augD at e
  split at e
  · cases px; cases py
    split at e
    · cases e; exact ip_add pins s σ H _ _ v u Q I rx ry ⟨_, _, rfl, rfl, h.at R (.int _)⟩
    · cases e; exact ip_sub pins s σ H _ _ v u Q I rx ry ⟨_, _, rfl, rfl, h.at R (.int _)⟩
    · cases e
  · cases e
theorem sns_aug {i : Nat} {op : Operator} (hN : X.N.Nodup) (hi : X.N[i]? = some x) (hx : Loc X.env.scope x) (hf : X.fn x = true ∨ X.env.scope.names.lookup x = some .local) (he : PE X e (rdE X.K W oe)) : PS X (.AugAssign (.Name x px) op e pos) (rdS X.K W (exAug i op oe)) :=
  PSmono (ps_aug hN hi hx he (ip_any (W := W) op) hf) fun Dn σ H h => by
    obtain ⟨φ, F, ρ, m, R, E, L, h⟩ := h
    unfold exAug evVar at h
    split at h
    · rename_i v e1
      simp only [Out.bind_ok] at h
      obtain ⟨u, e2, r⟩ := E i v e1
      refine ⟨u, e2, φ, F, ρ, m, R, E, L, PostS.bind R h fun y m1 φ1 F1 H1 uy s1 r1 h => ?_⟩
      cases v with
      | cell _ => exact h.elim
      | d dx =>
        cases y with
        | cell _ => exact h.elim
        | d dy =>
          obtain ⟨z, ez, h⟩ := h.lift
          have r' : Rep X.K F1 u dx := RepV.step s1 r
          refine ⟨φ1, F1, m1, dx, dy, z, s1.rel, r', r1, ez, fun φ2 F2 H2 uz s2 rz => ?_⟩
          exact h φ2 F2 H2 _ s2 (((E.step s1).step s2).set L rz) (by simp [L])
    · exact h.elim
/-! ### isinstance -/
theorem kit_isi (d : D) (t : Ty) : kitB (tyD d) t.name = some (isiD d t) := by
  cases d <;> cases t <;> (simp only [tyD, Ty.name, isiD]; decide +kernel)
theorem pv_ty {K : Frag} {F H : Hp} {u : V} {d : D} (S : Ext F H) (h : PV K F H u d) : TyX K H u (.type (tyD d)) := by
  cases d with
  | non => rw [h.non]; exact .base .non
  | bl b => rw [h.bl]; exact .base (.bl b)
  | int i => rw [h.int]; exact .base (.int i)
  | str s => rw [h.str]; exact .base (.str s)
  | tup ds =>
    obtain ⟨q, vs, rfl, h1, r1⟩ := h.tup
    rcases S.t h1 with (h2 | ⟨o, h2⟩) | ⟨o, its, n, hk, hc, _⟩
    · exact .base (.tup h2)
    · exact .fTuple h2
    · exact .kTuple hk hc
  | lst ds =>
    obtain ⟨q, vs, rfl, h1, r1⟩ := h.lst S
    rcases h1 with (h2 | ⟨o, h2⟩) | ⟨o, its, n, hk, hc, _⟩
    · exact .base (.lst h2)
    · exact .base (.frz h2)
    · exact .kList hk hc
  | dct ks vs =>
    obtain ⟨q, kvs, rfl, h1, e1, r1⟩ := h.dct S
    rcases h1 with h1 | ⟨o, h1⟩
    · exact .base (.dK h1)
    · exact .fDict h1
theorem snd_isi {t : Ty} (hg : Gl X "isinstance") (hm : X.mg "isinstance" = none) (hgt : Gl X (Str.ofString t.name)) (hmt : X.mg (Str.ofString t.name) = none) (na : nos a = true) (ha : PE X a (rdE X.K W oa)) :
    PE X (.Call (.Name "isinstance" p) [a, .Name (Str.ofString t.name) px] [] pos) (rdE X.K W (ev1 (fun d => some (.bl (isiD d t))) oa)) := by
  have hT : PE X (.Name (Str.ofString t.name) px) (tC (.ty t.name)) := by
    cases t <;> exact pe_bltn hgt hmt (by decide +kernel) rfl
  refine PEmono (pe_callB call_isi hg hm (by decide +kernel) (pa_cons ha (pa_cons hT pa_nil rfl) (star_nos na)) (by decide) (by decide) (star_nos na) rfl) fun σ H Q h => ?_
  refine rd_bind h fun φ F ρ m H1 v u R E L r h => ?_
  obtain ⟨d, ed, h⟩ := h.lift
  obtain ⟨z, ez, h⟩ := h.lift
  cases ez
  exact ⟨u, .ty t.name, .type (tyD d), .type t.name, isiD d t, rfl, .ty _, pv_ty R.sub (pv_of R r ed), kit_ty (kit_isi d t), Post.ok0 (R := RVl X.K) R h (Rep.bl _)⟩
/-! ### methods -/
def plainBase : Expr → Bool
  | .Call _ [] [] _ => false
  | _ => true
theorem base_plain {o : Expr} {n : Str} {env : PySem.Env} (h : plainBase o = true) : attributeBase o n env (eval o env) = eval o env := by
  cases o <;> try rfl
  rename_i f as ks q
  cases as with
  | nil =>
    cases ks with
    | nil => cases h
    | cons _ _ => cases f <;> rfl
  | cons _ _ => cases f <;> rfl
theorem few1 {env : PySem.Env} {cpos : Pos} (na : nos a = true) : ((backTo cpos (starEach [a] env)).all (fun x => !x.1) && (backToKw cpos (keywordEach [] env)).all (fun x => x.1.isSome) && decide ([a].length + ([] : List Keyword).length + (if ([] : List Keyword).isEmpty then 0 else 1) < 30)) = true := by
  rw [star_nos na]; rfl
def rM (K : Frag) (W : Wsh) (f : Str → D → Option D) : V → List V → Hp → VK → Prop := fun x xs H Q => ∃ φ F m s y dy z, x = .str s ∧ xs = [y] ∧ RelS K φ F m H ∧ PV K F H y dy ∧ f s dy = some z ∧ OkD K W φ F m H z Q
theorem snd_M {f : Str → D → Option D} {name : Str} {id : String} (slot : Slot "str" name id) (hty : typeOf (.builtin id) = pure (.type "method_descriptor")) (hm : MtR X id (rM X.K W f)) (hb : plainBase a = true) (hl : (apos.endLine == pos.line) = true) (nb : nos b = true)
    (ha : PE X a (rdE X.K W oa)) (hbb : PE X b (rdE X.K W ob)) : PE X (.Call (.Attribute a name apos) [b] [] pos) (rdE X.K W (evM f oa ob)) :=
  PEmono (pe_bm PySem.F.plainAttrs_str slot hty hm ha (pa_cons hbb pa_nil (star_nos nb)) (base_plain hb) (few1 nb) hl (star_nos nb) rfl) fun σ H Q h => by
    refine rd_bind h fun φ F ρ m H1 v u R E L r h => ?_
    obtain ⟨s, es, h⟩ := h.lift
    unfold strV at es
    split at es
    · cases es
      cases (show Rep X.K F u (.str s) from r)
      refine ⟨rfl, φ, F, ρ, m, R, E, L, Post.bind R h fun y m1 φ1 F1 H2 w s1 ry h => ?_⟩
      obtain ⟨dy, ey, h⟩ := h.lift
      obtain ⟨z, ez, h⟩ := h.lift
      exact ⟨φ1, F1, m1, s, w, dy, z, rfl, rfl, s1.rel, pv_of s1.rel ry ey, ez, h⟩
    · cases es
theorem m_join : MtR X "str.join" (rM X.K W (m1D .join)) := by
  intro pins s σ H x xs v us Q I rx rxs h
  obtain ⟨φ, F, m, t, y, dy, z, rfl, rfl, R, py, e, h⟩ := h
  cases dy <;> simp only [m1D] at e <;> try (cases e; done)
  · rename_i ds
    cases es : strsD ds with
    | none => rw [es] at e; cases e
    | some ys =>
      rw [es] at e
      simp only [Option.bind_some] at e
      split at e
      · rename_i hs; cases e
        obtain ⟨q, vs, rfl, h1, r1⟩ := py.tup
        rw [r1.strs es] at h1
        exact mt_join pins s σ H _ _ v us Q I rx rxs ⟨t, q, ys, rfl, rfl, .inr (R.sub.t h1), hs, h.at R (.str _)⟩
      · cases e
  · rename_i ds
    cases es : strsD ds with
    | none => rw [es] at e; cases e
    | some ys =>
      rw [es] at e
      simp only [Option.bind_some] at e
      split at e
      · rename_i hs; cases e
        obtain ⟨q, vs, rfl, h1, r1⟩ := py.lst R.sub
        rw [r1.strs es] at h1
        exact mt_join pins s σ H _ _ v us Q I rx rxs ⟨t, q, ys, rfl, rfl, .inl h1, hs, h.at R (.str _)⟩
      · cases e
theorem m_split : MtR X "str.split" (rM X.K W (m1D .split)) := by
  intro pins s σ H x xs v us Q I rx rxs h
  obtain ⟨φ, F, m, t, y, dy, z, rfl, rfl, R, py, e, h⟩ := h
  cases dy <;> simp only [m1D] at e <;> try (cases e; done)
  split at e
  · rename_i hs; cases e
    cases py.str
    refine mt_split pins s σ H _ _ v us Q I rx rxs ⟨t, _, rfl, rfl, hs.1, hs.2, fun q hq => ?_⟩
    exact h.lst R hq (Reps.ofStrs _)
  · cases e
theorem cellL_ok {m : Store} {v : Val} {n : Nat} (h : cellL m v = some n) : ∃ ds, v = .cell n ∧ m[n]? = some (.lst ds) := by
  cases v with
  | d _ => cases h
  | cell k =>
    unfold cellL at h
    simp only at h
    cases ec : m[k]? with
    | none => rw [ec] at h; cases h
    | some cc =>
      cases cc with
      | dead => rw [ec] at h; cases h
      | dct _ _ => rw [ec] at h; cases h
      | lst ds => rw [ec] at h; cases h; exact ⟨ds, rfl, ec⟩
theorem cell_lst {K : Frag} {φ : Nat → Addr} {F : Hp} {m : Store} {H : Hp} {n : Nat} {ds : List D} (R : RelS K φ F m H) (e : m[n]? = some (.lst ds)) : ∃ vs, H (φ n) = some (.lst vs) ∧ Reps K F vs ds := by
  obtain ⟨ho, e4, e5⟩ := R.cell n _ e
  have hro := (e5 rfl).2
  cases ho <;> try exact hro.elim
  exact ⟨_, e4, hro⟩
theorem snd_app (hb : plainBase a = true) (hl : (apos.endLine == pos.line) = true) (nb : nos b = true) (ha : PE X a (rdE X.K W oa)) (hbb : PE X b (rdE X.K W ob)) : PE X (.Call (.Attribute a "append" apos) [b] [] pos) (rdE X.K W (evApp oa ob)) :=
  PEmono (pe_bm PySem.F.plainAttrs_list PySem.F.slot_list_append PySem.F.type_list_append mt_append ha (pa_cons hbb pa_nil (star_nos nb)) (base_plain hb) (few1 nb) hl (star_nos nb) rfl) fun σ H Q h => by
    refine rd_bind h fun φ F ρ m H1 v u R E L r h0 => ?_
    obtain ⟨n, en, h⟩ := h0.lift
    obtain ⟨ds, rfl, ec⟩ := cellL_ok en
    obtain ⟨rfl, hk⟩ := r
    obtain ⟨vs, e4, hro⟩ := cell_lst R ec
    refine ⟨.inl ⟨rfl, vs, SqL.of e4⟩, φ, F, ρ, m, R, E, L, Post.bind R h fun y m1 φ1 F1 H2 w s1 ry h1 => ?_⟩
    obtain ⟨d, ed, h⟩ := h1.lift
    clear h1
    cases y with
    | cell _ => cases ed
    | d dy =>
      cases ed
      unfold appC at h
      split at h
      · rename_i ds2 ec2
        split at h
        · rename_i hz
          obtain ⟨vs2, e6, hro2⟩ := cell_lst s1.rel ec2
          have s3 := Stp.write s1.rel (o := .lst (vs2 ++ [w])) (c' := .lst (ds2 ++ [d])) ec2 rfl rfl (hro2.snoc ry)
          rw [s1.ext n hk] at e6 s3
          exact ⟨_, vs2, w, rfl, rfl, e6, by rw [hro2.length]; exact hz, h φ1 F1 _ _ s3 Rep.non⟩
        · exact h.elim
      · exact h.elim
theorem mt_popN : MtM X "list.pop" (fun x vs H Q => ∃ l xs i k y, x = .ref l ∧ vs = [.int i] ∧ H l = some (.lst xs) ∧ ixN xs.length i = some k ∧ xs[k]? = some y ∧ Q y (upd H l (.lst (xs.eraseIdx k)))) := by
  intro pins s σ H x vs v us Q I rx rv h
  obtain ⟨l, xs, i, k, y, rfl, rfl, hH, hk, hy, q⟩ := h
  have hz : xs.length ≤ sizeLine := (I.hok l _ hH).1
  obtain ⟨e1, e2, e3, e4⟩ := ixN_seq hk
  have h63 := line63
  exact mt_popAt pins s σ H _ _ v us Q I rx rv ⟨l, xs, i, k, y, rfl, rfl, hH, by omega, by omega, e1, hy, q⟩
theorem snd_pop1 (hb : plainBase a = true) (hl : (apos.endLine == pos.line) = true) (nb : nos b = true) (ha : PE X a (rdE X.K W oa)) (hbb : PE X b (rdE X.K W ob)) : PE X (.Call (.Attribute a "pop" apos) [b] [] pos) (rdE X.K W (evPop1 oa ob)) :=
  PEmono (pe_bm PySem.F.plainAttrs_list PySem.F.slot_list_pop PySem.F.type_list_pop mt_popN ha (pa_cons hbb pa_nil (star_nos nb)) (base_plain hb) (few1 nb) hl (star_nos nb) rfl) fun σ H Q h => by
    refine rd_bind h fun φ F ρ m H1 v u R E L r h0 => ?_
    obtain ⟨n, en, h⟩ := h0.lift
    obtain ⟨ds, rfl, ec⟩ := cellL_ok en
    obtain ⟨rfl, hk⟩ := r
    obtain ⟨vs, e4, hro⟩ := cell_lst R ec
    refine ⟨.inl ⟨rfl, vs, SqL.of e4⟩, φ, F, ρ, m, R, E, L, Post.bind R h fun y m1 φ1 F1 H2 w s1 ry h1 => ?_⟩
    obtain ⟨i, ei, h⟩ := h1.lift
    clear h1
    unfold intV at ei
    split at ei
    · cases ei
      cases (show Rep X.K F1 w (.int i) from ry)
      unfold popC at h
      split at h
      · rename_i ds2 ec2
        split at h
        · rename_i j ej
          split at h
          · rename_i d ed
            obtain ⟨vs2, e6, hro2⟩ := cell_lst s1.rel ec2
            obtain ⟨uv, e8, r8⟩ := hro2.get ed
            have s3 := Stp.write s1.rel (o := .lst (vs2.eraseIdx j)) (c' := .lst (ds2.eraseIdx j)) ec2 rfl rfl (hro2.erase _)
            rw [s1.ext n hk] at e6 s3
            exact ⟨_, vs2, i, j, uv, rfl, rfl, e6, by rw [hro2.length]; exact ej, e8, h φ1 F1 _ _ s3 r8⟩
          · exact h.elim
        · exact h.elim
      · exact h.elim
    · cases ei
/-! ### own defs -/
/-- an exception's class and its own dict -/
def RepZ (K : Frag) (F H : Hp) (x : Exc) (cls : Value) (d : Option Addr) : Prop := cls = .ref (He.ga K x.cls) ∧ match x.flds with
  | [] => d = none
  | fs => ∃ dd vs, d = some dd ∧ H dd = some (.xd ((fs.map (·.1)).zip vs)) ∧ Reps K F vs (fs.map (·.2))
/-- what is wished of an exception that leaves -/
def wsh (K : Frag) (Ξ : XK) : Wsh := fun x _ F _ H => ∀ cls d, RepZ K F H x cls d → Ξ cls d H
/-- the promise of a def that gives what f tells -/
def spD (K : Frag) (n : Nat) (f : List Val → Store → Out Val) : Sp := fun vs H Q Ξ => vs.length = n ∧ ∃ φ F m xs, RelS K φ F m H ∧ RepVs K φ F m vs xs ∧ Post K (wsh K Ξ) (RVl K) φ F m H (f xs m) Q
def spQ (K : Frag) (f : List Val → Store → Out Val) : Sp := fun vs H Q Ξ => ∃ φ F m xs, RelS K φ F m H ∧ RepVs K φ F m vs xs ∧ Post K (wsh K Ξ) (RVl K) φ F m H (f xs m) Q
theorem rd_call {K : Frag} {f : List Val → Store → Out Val} {E0 : XK} {σ : L2.St} {H : Hp} {Q : VK} (h : rdE K (wsh K E0) (evCall f ou) σ H Q) : tCall (spQ K f) [] E0 (rdA K (wsh K E0) ou) σ H Q := by
  refine rd_bind h fun φ F ρ m H1 xs vs R E L r h => ?_
  exact ⟨φ, F, m, xs, R, by rw [List.append_nil]; exact r, h⟩
theorem snd_call {k : Nat} {f : List Val → Store → Out Val} {fa : Addr} {CX : CXT} {E0 : XK} (G : FnQ X.prog X.w X.K X.mg X.base CX k fa (spQ X.K f)) (hgd : X.A.guards = some []) (hr : Room k X.A) (hg : Gl X x) (hm : X.mg x = some (.ref fa)) (hk : PySem.W.keepIn X.K (.ref fa) = true) (hx : Passes CX X E0)
    (hd : (x == ("__debug__" : Str)) = false) (hes : (e :: es).all nos = true) (he : PA X (e :: es) (rdA X.K (wsh X.K E0) ou)) : PE X (.Call (.Name x p) (e :: es) [] pos) (rdE X.K (wsh X.K E0) (evCall f ou)) := by
  rw [List.all_cons, Bool.and_eq_true] at hes
  exact PEmono (pe_callQ G hgd hr hg hm hk hx he hd (star_nos hes.1) (star_any hes.2)) fun σ H Q h => rd_call h
theorem snd_call0 {k : Nat} {f : List Val → Store → Out Val} {fa : Addr} {CX : CXT} {E0 : XK} (G : FnQ X.prog X.w X.K X.mg X.base CX k fa (spQ X.K f)) (hgd : X.A.guards = some []) (hr : Room k X.A) (hg : Gl X x) (hm : X.mg x = some (.ref fa)) (hk : PySem.W.keepIn X.K (.ref fa) = true) (hx : Passes CX X E0)
    (hd : (x == ("__debug__" : Str)) = false) : PE X (.Call (.Name x p) [] [] pos) (rdE X.K (wsh X.K E0) (evCall f evNil)) := by
  refine PEmono (pe_call0Q G hgd hr hg hm hk hx hd) fun σ H Q h => ?_
  have h2 : tCall (spQ X.K f) [] E0 (rdA X.K (wsh X.K E0) evNil) σ H Q := rd_call h
  obtain ⟨φ, F, ρ, m, R, E, L, h2⟩ := h2
  exact Post.ok0 (R := RVs X.K) R h2 .nil
end
end AW
set_option maxRecDepth 100000
set_option maxHeartbeats 4000000
namespace AW
open PySem PySem.Spec PyProof.Rows L2
/-! a, *rest = a tuple -/
theorem nolen_ti : typeLookup (.type "tuple_iterator") "__len__" = pure none := by rw [typeLookup_type, builtinLookup_eq_fast]; kernel_rfl
theorem hint_ti : typeLookup (.type "tuple_iterator") "__length_hint__" = pure (some (.builtin "tuple_iterator.__length_hint__")) := by rw [typeLookup_type, builtinLookup_eq_fast]; kernel_rfl
section
variable {prog : Program} {w : World} {A : Around} {E : Value → Shared → Prop} {s : Shared}
/-- a walk from its second item on -/
theorem walks_behind {I : Addr} {fp wr : List Addr} {n : Nat} {P : Nat → Value → Prop} {St : Nat → Heap → Prop} (W : Walks prog w A I fp wr (n + 1) P St) : Walks prog w A I fp wr n (fun i => P (i + 1)) (fun i => St (i + 1)) where
  sub := W.sub
  frame := fun i => W.frame (i + 1)
  item := fun i s Q E hi st hQ => W.item (i + 1) s Q E (by omega) st hQ
  done := W.done
  self := fun i => W.self (i + 1)
theorem collect_ti {it l : Addr} {x : Value} {xs : List Value} {Q : List Value → Shared → Prop} (hh : A.handled = none) (hit : s.heap.IsTupleIter it l 1) (hl : s.heap.IsTuple l (x :: xs).toArray) (hne : l ≠ it) (hn : xs.length ≤ sizeLine)
    (hQ : ∀ (h' : Heap) (tk : Nat), (∀ b o, b ≠ it → s.heap.get? b = some o → h'.get? b = some o) → Q xs { s with heap := h', toks := tk }) :
    wpAny (model prog w) A (collect (.ref it)) Q E s := by
  have W0 := Walks.tuple (prog := prog) (w := w) (A := A.in1) hh it l hne (x :: xs).toArray
  have W := (walks_behind (n := xs.length) W0).toS
  obtain ⟨oi, hoi, _⟩ := id hit
  obtain ⟨ol, hol, _⟩ := id hl
  have hSi : s.heap.objs.size ≠ it := Nat.ne_of_gt (Heap.lt_size hoi)
  have hSl : s.heap.objs.size ≠ l := Nat.ne_of_gt (Heap.lt_size hol)
  have hSf : s.heap.objs.size ∉ [it, l] := by simp only [List.mem_cons, List.not_mem_nil, or_false, not_or]; exact ⟨hSi, hSl⟩
  unfold collect
  refine wpAny_bind (wpAny_runValue (codeAny_builtin F.entry_proto_collect ?_))
  rw [Around.under_plainId F.plain_proto_collect _]
  show wpAny _ A.in1 (newList [] >>= fun l' => again (.builtin "list.__iadd__" ⟨[l', .ref it], []⟩)) _ _ s
  refine wpAny_bind (wpAny_newObj_type ?_)
  refine wpAny_pure ⟨plainId_quiet F.plain_list_iadd _, codeAny_builtin F.entry_list_iadd ?_⟩
  rw [Around.under_plainId F.plain_list_iadd _]
  have hS1 : (s.heap.push { cls := .type "list", data := .seq ([] : List Value).toArray }).get? s.heap.objs.size = some { cls := .type "list", data := .seq ([] : List Value).toArray } := Heap.get?_push_size _ rfl
  have hit1 : (s.heap.push { cls := .type "list", data := .seq ([] : List Value).toArray }).IsTupleIter it l 1 := hit.at fun o e => Heap.get?_push_of_some _ e
  have hl1 : (s.heap.push { cls := .type "list", data := .seq ([] : List Value).toArray }).IsTuple l (x :: xs).toArray := hl.push _
  have hT : ({ s with heap := s.heap.push { cls := .type "list", data := .seq ([] : List Value).toArray } } : Shared).TypeIs (.ref it) "tuple_iterator" := Heap.IsTupleIter.typeIs (s := { s with heap := s.heap.push { cls := .type "list", data := .seq ([] : List Value).toArray } }) hit1
  have h1 : Builtin.List.listSameRef (.ref s.heap.objs.size) (.ref it) = false := by simp [Builtin.List.listSameRef, hSi]
  show wpAny _ A.in1 (Builtin.List.listExtendWith (.ref s.heap.objs.size) (.ref it) (.ref s.heap.objs.size)) _ _ _
  unfold Builtin.List.listExtendWith
  refine wpAny_bind (wpAny_typeOf hT ?_)
  rw [if_neg (by rw [h1]; decide)]
  refine wpAny_bind (W0.self 1 { s with heap := s.heap.push { cls := .type "list", data := .seq ([] : List Value).toArray } } _ _ ⟨hit1, hl1⟩ ?_)
  refine wpAny_bind (wpAny_holding ?_)
  unfold Builtin.List.listLengthHint
  refine wpAny_bind (wpAny_specialOf hT nolen_ti ?_)
  show wpAny _ A.in1 (specialOf (Value.ref it) (Str.ofString "__length_hint__") >>= _) _ _ _
  refine wpAny_bind (wpAny_specialOf hT hint_ti ?_)
  generalize hid : ("tuple_iterator.__length_hint__" : String) = id0
  wp_delta
  rw [show splitId id0 = some ("tuple_iterator", "__length_hint__") from by subst hid; decide +kernel]
  subst hid
  refine wpAny_bind (wpAny_isInstance (b := true) hT (by rw [isSubtype_type]; kernel_rfl) ?_)
  refine wpAny_pure ?_
  rw [if_neg (by decide)]
  refine wpAny_pure ⟨plainId_quiet F.plain_extend_loop _, codeAny_extend_loopS W hn _ hSf _ xs.length 0 _ _ _ rfl (Nat.zero_le _) ⟨hit1, hl1⟩ hS1 (ItemsOf.nil _) fun s' acc' c' hm hS' hacc => ?_⟩
  show wpAny _ A (load s.heap.objs.size >>= _) _ _ s'
  refine wpAny_bind (wpAny_load hS' ?_)
  refine wpAny_pure ?_
  rw [Moved.eq_with hm]
  have ea : acc'.toList = xs := by
    apply List.ext_getElem?
    intro i
    by_cases hi : i < xs.length
    · have hlt : i < acc'.size := by rw [hacc.1]; exact hi
      have q := hacc.2 i acc'[i] (by simp [hlt])
      rw [Array.getElem?_toList]
      simp at q
      rw [Array.getElem?_eq_getElem hlt]
      rw [← q]
    · rw [List.getElem?_eq_none (by rw [Array.length_toList, hacc.1]; omega), List.getElem?_eq_none (by omega)]
  rw [ea]
  refine hQ s'.heap s'.toks (fun b o hb e => hm.heap b o (fun hmem => ?_) (Heap.get?_push_of_some _ e))
  rcases List.mem_cons.mp hmem with e' | hmem
  · exact absurd (Heap.lt_size e) (by rw [e']; exact Nat.lt_irrefl _)
  · exact hb (List.mem_singleton.mp hmem)
theorem unpackS {t : Addr} {x : Value} {xs : List Value} {Q : List Value → Shared → Prop} (hh : A.handled = none) (ht : s.heap.IsTuple t (x :: xs).toArray) (hn : xs.length ≤ sizeLine)
    (hQ : ∀ (h' : Heap) (tk : Nat), (∀ b o, s.heap.get? b = some o → h'.get? b = some o) → Q [x, .ref h'.objs.size] { s with heap := h'.push { cls := .type "list", data := .seq xs.toArray }, toks := tk }) : wpAny (model prog w) A (unpackItems (.ref t) 2 (some 1)) Q E s := by
  have hlt : t ≠ s.heap.objs.size := by obtain ⟨o, ho, _⟩ := ht; exact Nat.ne_of_lt (Heap.lt_size ho)
  unfold unpackItems
  refine wpAny_bind ?_
  unfold notIterableAtAll
  refine wpAny_bind (wpAny_specialOf ht.typeIs F.slot_tuple_iter.lookup ?_)
  refine wpAny_pure ?_
  simp only [Bool.false_eq_true, if_false]
  refine wpAny_bind (wpAny_holding (wpAny_pyIter_tuple ht ?_))
  refine wpAny_bind (wpAny_holding (wpAny_draw_tuple hlt 1 0 _ _ ⟨_, Heap.get?_push_size _ rfl, rfl, rfl⟩ (ht.push _) (by simp) fun h1 hit1 hs1 => ?_))
  simp only [List.drop_zero, List.take_succ_cons, List.take_zero, List.length_cons, List.length_nil]
  rw [if_neg (by omega)]
  have ht1 : h1.IsTuple t (x :: xs).toArray := (ht.push _).extBut hs1.extBut hlt
  refine wpAny_bind (wpAny_holding (collect_ti (s := { s with heap := h1 }) hh hit1 ht1 hlt hn fun h2 tk k2 => ?_))
  rw [if_neg (by omega)]
  refine wpAny_bind (wpAny_newList ?_ (by simp; exact hn))
  have q := hQ h2 tk (fun b o e => k2 b o (Nat.ne_of_lt (Heap.lt_size e)) (hs1.extBut b o (Nat.ne_of_lt (Heap.lt_size e)) (Heap.get?_push_of_some _ e)))
  refine wpAny_pure ?_
  have e0 : xs.length - (2 - 1 - 1) = xs.length := by omega
  rw [e0, List.take_length, List.drop_length]
  exact q
end
end AW
set_option maxRecDepth 100000
set_option maxHeartbeats 4000000
namespace AW
open PySem L2
theorem put_new {kvs : List (Key × V)} {k : Key} {v : V} (h : k ∉ kvs.map (·.1)) : putK kvs k v = kvs ++ [(k, v)] := by
  unfold putK
  rw [if_neg]
  intro q
  rw [List.any_eq_true] at q
  obtain ⟨kv, hm, e⟩ := q
  exact h (List.mem_map.mpr ⟨kv, hm, of_decide_eq_true e⟩)
theorem merge_new : ∀ (more acc : List (Key × V)), ((acc ++ more).map (·.1)).Nodup → mergeK acc more = acc ++ more
  | [], acc, _ => by simp [mergeK]
  | p :: more, acc, h => by
    show mergeK (putK acc p.1 p.2) more = _
    have hn : p.1 ∉ acc.map (·.1) := by
      rw [List.map_append, List.map_cons] at h
      intro q
      exact (List.nodup_append.mp h).2.2 _ q _ List.mem_cons_self rfl
    rw [put_new hn, merge_new more _ (by rw [List.append_assoc]; exact h), List.append_assoc]; rfl
section
variable {X : Cx} {W : Wsh} {a b c e : Expr} {es : List Expr} {oa ob oc oe : Ex} {ou : Ev → Store → Out (List Val)} {pos p px py pt apos : Pos} {x y : Str} {os ot : Sx}
/-! ### dicts that stay as they are -/
theorem key_keyD (k : Key) : keyOfD (keyD k) = some k := by cases k <;> rfl
theorem dget_val {K : Frag} {F : Hp} {k : Key} : ∀ {kvs : List (Key × V)} {ks vs : List D}, kvs.map (fun p => keyD p.1) = ks → Reps K F (kvs.map (·.2)) vs → (∀ d, dgetK k ks vs = some d → ∃ v, valV kvs k = some v ∧ Rep K F v d) ∧ (dgetK k ks vs).isSome = (valV kvs k).isSome
  | [], ks, vs, e1, r => by
    cases r
    subst e1
    exact ⟨(fun d h => by cases h), rfl⟩
  | p :: kvs, ks, vs, e1, r => by
    cases r with
    | cons hv r =>
      subst e1
      obtain ⟨h1, h2⟩ := dget_val (k := k) (kvs := kvs) rfl r
      by_cases q : p.1 = k
      · have e : ∀ (v : D) (vs : List D), dgetK k (keyD p.1 :: kvs.map fun p => keyD p.1) (v :: vs) = some v := fun v vs => by
          unfold dgetK
          rw [key_keyD, if_pos (by rw [q])]
        have ev : valV (p :: kvs) k = some p.2 := valV_pos q
        refine ⟨fun d h => ?_, ?_⟩
        · rw [List.map_cons, e] at h; cases h
          exact ⟨_, ev, hv⟩
        · rw [List.map_cons, e, ev]; rfl
      · have e : ∀ (v : D) (vs : List D), dgetK k (keyD p.1 :: kvs.map fun p => keyD p.1) (v :: vs) = dgetK k (kvs.map fun p => keyD p.1) vs := fun v vs => by
          show (if keyOfD (keyD p.1) = some k then some v else dgetK k _ vs) = _
          rw [key_keyD, if_neg (by intro z; cases z; exact q rfl)]
        have ev : valV (p :: kvs) k = valV kvs k := valV_neg q
        refine ⟨fun d h => ?_, ?_⟩
        · rw [List.map_cons, e] at h
          rw [ev]; exact h1 d h
        · rw [List.map_cons, e, ev]; exact h2
theorem pv_key {K : Frag} {F H : Hp} {u : V} {d : D} {k : Key} (h : PV K F H u d) (e : keyOfD d = some k) : u = kV k := by
  cases d <;> simp only [keyOfD] at e <;> try (cases e; done)
  · cases e; exact h.int
  · cases e; exact h.str
theorem snd_dget (hu : X.A.units + 64 < cLine) (ha : PE X a (rdE X.K W oa)) (hb : PE X b (rdE X.K W ob)) (hs : NoSl b) : PE X (.Subscript a b pos) (rdE X.K W (ev2 dgetD oa ob)) := PEmono (pe_dget (by omega) ha hb hs) fun σ H Q h => by
  refine rd_bind h fun φ F ρ m H1 x u R E L rx h => ?_
  refine ⟨φ, F, ρ, m, R, E, L, Post.bind R h fun y m1 φ1 F1 H2 w s ry h => ?_⟩
  obtain ⟨dx, ex, h2⟩ := h.lift
  obtain ⟨dy, ey, h3⟩ := h2.lift
  obtain ⟨z, ez, h4⟩ := h3.lift
  clear h h2 h3
  have px := pv_of s.rel (RepV.step s rx) ex
  have py := pv_of s.rel ry ey
  cases dx <;> simp only [dgetD] at ez <;> try (cases ez; done)
  cases ek : keyOfD dy with
  | none => rw [ek] at ez; cases ez
  | some k =>
    rw [ek] at ez
    simp only [Option.bind_some] at ez
    obtain ⟨q, kvs, rfl, h1, e1, r1⟩ := px.dct s.rel.sub
    obtain ⟨v, ev, rv⟩ := (dget_val e1 r1).1 z ez
    exact ⟨q, v, rfl, .inl ⟨kvs, k, h1, pv_key py ek, ev.symm⟩, OkD.at (W := W) s.rel h4 rv⟩
theorem snd_din {neg : Bool} (hu : X.A.units + 64 < cLine) (hb : PE X b (rdE X.K W ob)) (ha : PE X a (rdE X.K W oa)) (hm : behindInMarks (if neg then .NotIn else .In) a = false) : PE X (.Compare b [if neg then .NotIn else .In] [a] pos) (rdE X.K W (ev2 (dinD neg) ob oa)) := by
  have key : ∀ {σ : L2.St} {H : Hp} {Q : VK}, rdE X.K W (ev2 (dinD neg) ob oa) σ H Q → rdE X.K W ob σ H fun y H1 => rdE X.K W oa σ H1 fun x H2 => ∃ a o, x = .ref a ∧ DGet H2 a y o ∧ Q (.bl (if neg then !o.isSome else o.isSome)) H2 := by
    intro σ H Q h
    refine rd_bind h fun φ F ρ m H1 x u R E L rx h => ?_
    refine ⟨φ, F, ρ, m, R, E, L, Post.bind R h fun y m1 φ1 F1 H2 w s ry h => ?_⟩
    obtain ⟨dx, ex, h2⟩ := h.lift
    obtain ⟨dy, ey, h3⟩ := h2.lift
    obtain ⟨z, ez, h4⟩ := h3.lift
    clear h h2 h3
    have px := pv_of s.rel (RepV.step s rx) ex
    have py := pv_of s.rel ry ey
    cases dy <;> try (cases dx <;> cases ez; done)
    rename_i ks vs
    have ez : (keyOfD dx).map (fun k => D.bl (if neg then !(dgetK k ks vs).isSome else (dgetK k ks vs).isSome)) = some z := by cases dx <;> exact ez
    cases ek : keyOfD dx with
    | none => rw [ek] at ez; cases ez
    | some k =>
      rw [ek] at ez; cases ez
      obtain ⟨q, kvs, rfl, h1, e1, r1⟩ := py.dct s.rel.sub
      refine ⟨q, valV kvs k, rfl, .inl ⟨kvs, k, h1, pv_key px ek, rfl⟩, ?_⟩
      rw [← (dget_val e1 r1).2]
      exact OkD.at (W := W) s.rel h4 (.bl _)
  cases neg with
  | false => exact PEmono (pe_cmp (pc_din (by omega) hb ha) hm) fun σ H Q h => key h
  | true => exact PEmono (pe_cmp (pc_dnotin (by omega) hb ha) hm) fun σ H Q h => key h
theorem c_dlen : CallR X (.builtin "len") (r1c X.K W (b1D .dlen)) := by
  intro pins s σ H xs us Q I r h
  obtain ⟨x, φ, F, m, dx, z, rfl, R, px, e, h⟩ := h
  cases dx <;> simp only [b1D] at e <;> try (cases e; done)
  rename_i ks vs
  cases e
  obtain ⟨q, kvs, rfl, h1, e1, r1⟩ := px.dct R.sub
  rw [Vals.ref1 r]
  refine d_len I h1 fun t s' I' => ⟨.int kvs.length, H, I', ⟨t, rfl⟩, ?_⟩
  have el : kvs.length = ks.length := by rw [← e1, List.length_map]
  rw [el]
  exact h.at R (.int _)
theorem jok_vals {K : Frag} {F0 : Hp} {d : Addr} {o : Obj} {kvs : List (Key × V)} {vs : List D} (h : F0 d = some (.frz o (.dK kvs))) (r : Reps K F0 (kvs.map (·.2)) vs) : JOk K (Itd d o kvs) F0 vs := by
  intro φ F m H R E i
  have hq : H d = some (.frz o (.dK kvs)) := R.sub _ _ (E _ _ h)
  have hl : kvs.length = vs.length := by rw [← r.length, List.length_map]
  refine ⟨fun hi => ⟨hq, by omega⟩, fun hi => ⟨hq, by omega⟩, fun x H' hi hy => ?_⟩
  obtain ⟨rfl, k, hk⟩ := hy
  obtain ⟨v, e1, r1⟩ := r.get (List.getElem?_eq_getElem hi)
  rw [List.getElem?_map, hk] at e1
  cases e1
  exact ⟨_, F, List.getElem?_eq_getElem hi, Stp.refl R, r1.mono E⟩
theorem sni_vals {tg : Expr} (hb : plainBase a = true) (hl : (apos.endLine == pos.line) = true) (ha : PE X a (rdE X.K W oa)) : PI X tg (.Call (.Attribute a "values" apos) [] [] pos) (rdI X.K W (itVals oa)) := by
  refine PImono (pi_values ha (base_plain hb) hl) fun σ H R h => ?_
  refine rdI_of h fun φ F ρ m H1 v u R0 E L r h => ?_
  cases v with
  | cell n => exact h.elim
  | d d =>
    cases d <;> try exact h.elim
    rename_i ks vs
    have h : (match lift m (if ks.length = vs.length then some vs else none) with
      | .ok ds m' => ∀ φ' F' H' J, Stp X.K φ F m H1 φ' F' m' H' → JOk X.K J F' ds → R J H'
      | .exc x m' => ∀ φ' F' H', Stp X.K φ F m H1 φ' F' m' H' → W x φ' F' m' H'
      | .bad => False) := h
    by_cases hc : ks.length = vs.length
    · rw [if_pos hc] at h
      cases (show Rep X.K F u (.dct ks vs) from r) with
      | dct h1 e1 r1 => exact ⟨_, _, _, rfl, R0.sub _ _ h1, h φ F H1 _ (Stp.refl R0) (jok_vals h1 r1)⟩
    · rw [if_neg hc] at h; exact h.elim
/-! ### {'a': e, ..} -/
def keysB : List Str → List (Option Expr) → Bool
  | [], [] => true
  | k :: ks, some (.Constant (.str s) _ _) :: es => decide (k = s) && keysB ks es
  | _, _ => false
theorem keysB_all : ∀ {ks : List Str} {keys : List (Option Expr)}, keysB ks keys = true → keys.all (·.isSome) = true ∧ keys.length = ks.length
  | [], [], _ => ⟨rfl, rfl⟩
  | [], _ :: _, h => by cases h
  | _ :: _, [], h => by cases h
  | k :: ks, x :: es, h => by
    unfold keysB at h
    split at h
    · cases ‹_ :: _ = []›
    · rename_i e1 e2
      cases e1; cases e2
      rw [Bool.and_eq_true] at h
      obtain ⟨h1, h2⟩ := keysB_all h.2
      exact ⟨by rw [List.all_cons, h1]; rfl, by simp [h2]⟩
    · cases h
theorem snd_dsp {keys : List (Option Expr)} {ks : List Str} {trs : List (TE × TE)} (hc : ks.Nodup ∧ 0 < ks.length ∧ ks.length ≤ 15) (hk : keysB ks keys = true) (hl : es.length = ks.length)
    (hp : PPs X pos keys es trs) (ht : ∀ σ H Q, rdA X.K W ou σ H (fun vs H' => Q ((ks.map V.str).zip vs) H') → tPairs trs σ H Q) : PE X (.Dict keys es pos) (rdE X.K W (evDsp ks ou)) := by
  obtain ⟨k1, k2⟩ := keysB_all hk
  · refine PEmono (pe_frz (pe_disp hp k1 (by rw [k2, hl]) (by intro z; rw [z] at k2; simp at k2; omega) (by omega))) fun σ H Q h => ?_
    obtain ⟨φ, F, ρ, m, R, E, L, h⟩ := h
    have h : Post X.K W (RVl X.K) φ F m H ((ou ρ m).bind fun vs m => (lift m (Val.datas vs)).bind fun ds m => if ks.Nodup ∧ ks.length = ds.length ∧ 0 < ks.length ∧ ks.length ≤ 15 then .ok (.d (.dct (ks.map .str) ds)) m else .bad) Q := h
    intro q hq
    have sN : Stp X.K φ F m H φ F m (upd H q (.dK [])) := Stp.newN R hq
    refine ht σ _ _ ⟨φ, F, ρ, m, sN.rel, E.step sN, L, ?_⟩
    cases ho : ou ρ m with
    | bad => rw [ho] at h; exact h.elim
    | exc x m' =>
      rw [ho] at h
      exact fun φ' F' H' s => h φ' F' H' (sN.trans s R)
    | ok vs m1 =>
      rw [ho] at h
      intro φ1 F1 H2 us s r
      obtain ⟨e4, s4, g4⟩ := unhide R hq s
      cases ed : Val.datas vs with
      | none =>
        have h : Post X.K W (RVl X.K) φ F m H ((lift m1 (Val.datas vs)).bind _) Q := h
        rw [ed] at h; exact h.elim
      | some ds =>
        have h : Post X.K W (RVl X.K) φ F m H ((lift m1 (Val.datas vs)).bind fun ds m => if ks.Nodup ∧ ks.length = ds.length ∧ 0 < ks.length ∧ ks.length ≤ 15 then .ok (.d (.dct (ks.map .str) ds)) m else .bad) Q := h
        rw [ed] at h
        have h : Post X.K W (RVl X.K) φ F m H (if ks.Nodup ∧ ks.length = ds.length ∧ 0 < ks.length ∧ ks.length ≤ 15 then .ok (.d (.dct (ks.map .str) ds)) m1 else .bad) Q := h
        split at h
        · rename_i hc2
          have rr := datas_reps r ed
          have hlu : us.length = ks.length := by rw [rr.length]; exact hc2.2.1.symm
          have z1 : ((ks.map (Sum.inr : Str → Key)).zip us).map (·.1) = ks.map Sum.inr := List.map_fst_zip (by rw [List.length_map]; omega)
          have z2 : ((ks.map (Sum.inr : Str → Key)).zip us).map (·.2) = us := List.map_snd_zip (by rw [List.length_map]; omega)
          have e5 : mergeK [] ((ks.map (Sum.inr : Str → Key)).zip us) = (ks.map Sum.inr).zip us := by
            rw [merge_new _ [] (by rw [List.nil_append, z1]; exact List.Pairwise.map Sum.inr (fun a b z q => z (Sum.inr.inj q)) hc2.1)]; rfl
          refine ⟨by rw [e4, upd_same], (ks.map Sum.inr).zip us, ?_, ?_, q, .dK _, rfl, upd_same, trivial, fun od => ?_⟩
          · have : ∀ (ks : List Str) (us : List V), (ks.map V.str).zip us = ((ks.map (Sum.inr : Str → Key)).zip us).map fun kv => (kV kv.1, kv.2) := by
              intro ks
              induction ks with
              | nil => intro us; rfl
              | cons k ks ih =>
                intro us
                cases us with
                | nil => rfl
                | cons u us => simp only [List.map_cons, List.zip_cons_cons, ih us]; rfl
            exact this ks us
          · rw [List.length_zip, List.length_map]; omega
          · rw [e5, upd_upd]
            have eH : ∀ o : HO, upd H2 q o = upd (hide H2 q) q o := fun o => (congrArg (fun Z => upd Z q o) e4).trans upd_upd
            rw [eH]
            refine OkD.new (W := W) s4.rel (Post.step R h s4) g4 (.dct upd_same ?_ ?_)
            · have : ((ks.map (Sum.inr : Str → Key)).zip us).map (fun p => keyD p.1) = (((ks.map (Sum.inr : Str → Key)).zip us).map (·.1)).map keyD := by rw [List.map_map]; rfl
              rw [this, z1, List.map_map]; rfl
            · rw [z2]; exact rr.mono (Ext.new (s4.rel.fresh g4))
        · exact h.elim
/-- the pairs of a display, one by one -/
theorem pps_es (hk : keysB [] [] = true) : True := trivial
theorem pairs_nil : ∃ trs, PPs X pos [] [] trs ∧ ∀ σ H Q, rdA X.K W evNil σ H (fun vs H' => Q ((([] : List Str).map V.str).zip vs) H') → tPairs trs σ H Q := ⟨[], pps_nil, fun σ H Q h => by
  obtain ⟨φ, F, ρ, m, R, E, L, h⟩ := h
  exact Post.ok0 (R := RVs X.K) R h .nil⟩
theorem pairs_cons {k : Str} {ks : List Str} {keys : List (Option Expr)} {kd : Nat} {pk : Pos} (ha : PE X a (rdE X.K W oa)) (h : ∃ trs, PPs X pos keys es trs ∧ ∀ σ H Q, rdA X.K W ou σ H (fun vs H' => Q ((ks.map V.str).zip vs) H') → tPairs trs σ H Q) :
    ∃ trs, PPs X pos (some (.Constant (.str k) kd pk) :: keys) (a :: es) trs ∧ ∀ σ H Q, rdA X.K W (evCons oa ou) σ H (fun vs H' => Q (((k :: ks).map V.str).zip vs) H') → tPairs trs σ H Q := by
  obtain ⟨trs, h1, h2⟩ := h
  refine ⟨(tC (.str k), rdE X.K W oa) :: trs, pps_cons pe_str ha h1, fun σ H Q h => ?_⟩
  show rdE X.K W oa σ H fun y H2 => tPairs trs σ H2 fun ps H3 => Q ((.str k, y) :: ps) H3
  refine rd_bind h fun φ F ρ m H1 x u R E L rx h => ?_
  refine h2 σ H1 _ ⟨φ, F, ρ, m, R, E, L, Post.bind R h fun y m1 φ1 F1 H2 w s ry h => ?_⟩
  exact Post.ok0 (R := RVs X.K) s.rel h (.cons (RepV.step s rx) ry)
/-! ### {k: v, ..} with keys that are evaluated -/
theorem pair_reps {K : Frag} {F : Hp} : ∀ {us : List V} {ds : List D} {kvs : List (D × D)} {ks : List Str}, Reps K F us ds → pairUp ds = some kvs → strsD (kvs.map (·.1)) = some ks → ∃ ps, pairUp us = some ps ∧ ps.map (·.1) = ks.map V.str ∧ Reps K F (ps.map (·.2)) (kvs.map (·.2))
  | _, _, _, _, .nil, e, e2 => by simp [pairUp] at e; subst e; simp [strsD] at e2; subst e2; exact ⟨[], rfl, rfl, .nil⟩
  | _, _, _, _, .cons _ .nil, e, _ => by simp [pairUp] at e
  | _, _, kvs, ks, .cons (d := d1) h1 (.cons (d := d2) (ds := ds) h2 r), e, e2 => by
    simp only [pairUp, Option.map_eq_some_iff] at e
    obtain ⟨l, e, rfl⟩ := e
    rw [List.map_cons] at e2
    cases d1 <;> simp [strsD] at e2
    obtain ⟨ks', e3, rfl⟩ := e2
    obtain ⟨ps, p1, p2, p3⟩ := pair_reps r e (by simpa using e3)
    cases h1
    exact ⟨(.str _, _) :: ps, by simp only [pairUp, p1]; rfl, by simp [p2], .cons h2 p3⟩
theorem snd_dspE {keys : List (Option Expr)} {trs : List (TE × TE)} (k1 : keys.all (·.isSome) = true) (k2 : keys.length = es.length) (k0 : keys ≠ []) (k15 : keys.length ≤ 15)
    (hp : PPs X pos keys es trs) (ht : ∀ σ H Q, rdA X.K W ou σ H (fun vs H' => ∃ ps, pairUp vs = some ps ∧ Q ps H') → tPairs trs σ H Q) : PE X (.Dict keys es pos) (rdE X.K W (evDspE ou)) := by
  refine PEmono (pe_frz (pe_disp hp k1 k2 k0 k15)) fun σ H Q h => ?_
  obtain ⟨φ, F, ρ, m, R, E, L, h⟩ := h
  unfold evDspE at h
  intro q hq
  have sN : Stp X.K φ F m H φ F m (upd H q (.dK [])) := Stp.newN R hq
  refine ht σ _ _ ⟨φ, F, ρ, m, sN.rel, E.step sN, L, ?_⟩
  cases ho : ou ρ m with
  | bad => rw [ho] at h; exact h.elim
  | exc x m' =>
    rw [ho] at h
    exact fun φ' F' H' s => h φ' F' H' (sN.trans s R)
  | ok vs m1 =>
    rw [ho] at h
    simp only [Out.bind_ok] at h
    intro φ1 F1 H2 us s r
    obtain ⟨e4, s4, g4⟩ := unhide R hq s
    have h := Post.step R h s4
    obtain ⟨ds, ed, h⟩ := h.lift
    obtain ⟨kvs, ek, h⟩ := h.lift
    obtain ⟨ks, es2, h⟩ := h.lift
    by_cases hc2 : ks.Nodup ∧ 0 < ks.length ∧ ks.length ≤ 15
    · rw [if_pos hc2] at h
      obtain ⟨ps, p1, p2, p3⟩ := pair_reps (datas_reps r ed) ek es2
      have hlp : ps.length = ks.length := by
        have := congrArg List.length p2
        simpa using this
      have hlu : (ps.map (·.2)).length = ks.length := by rw [List.length_map, hlp]
      have z1 : ((ks.map (Sum.inr : Str → Key)).zip (ps.map (·.2))).map (·.1) = ks.map Sum.inr := List.map_fst_zip (by rw [hlu, List.length_map]; exact Nat.le_refl _)
      have z2 : ((ks.map (Sum.inr : Str → Key)).zip (ps.map (·.2))).map (·.2) = ps.map (·.2) := List.map_snd_zip (by rw [hlu, List.length_map]; exact Nat.le_refl _)
      have e5 : mergeK [] ((ks.map (Sum.inr : Str → Key)).zip (ps.map (·.2))) = (ks.map Sum.inr).zip (ps.map (·.2)) := by
        rw [merge_new _ [] (by rw [List.nil_append, z1]; exact List.Pairwise.map Sum.inr (fun a b z q => z (Sum.inr.inj q)) hc2.1)]; rfl
      refine ⟨ps, p1, by rw [e4, upd_same], (ks.map Sum.inr).zip (ps.map (·.2)), ?_, ?_, q, .dK _, rfl, upd_same, trivial, fun od => ?_⟩
      · have : ∀ (ks : List Str) (ps : List (V × V)), ps.map (·.1) = ks.map V.str → ps = ((ks.map (Sum.inr : Str → Key)).zip (ps.map (·.2))).map fun kv => (kV kv.1, kv.2) := by
          intro ks
          induction ks with
          | nil => intro ps h; have : ps = [] := by simpa using h
                   subst this; rfl
          | cons k ks ih =>
            intro ps h
            cases ps with
            | nil => simp at h
            | cons p ps =>
              obtain ⟨p1, p2⟩ := p
              simp only [List.map_cons, List.cons.injEq] at h
              simp only [List.map_cons, List.zip_cons_cons]
              rw [← ih ps h.2, h.1]; rfl
        exact this ks ps p2
      · rw [List.length_zip, List.length_map]; omega
      · rw [e5, upd_upd]
        have eH : ∀ o : HO, upd H2 q o = upd (hide H2 q) q o := fun o => (congrArg (fun Z => upd Z q o) e4).trans upd_upd
        rw [eH]
        refine OkD.new (W := W) s4.rel h g4 (.dct upd_same ?_ ?_)
        · have : ((ks.map (Sum.inr : Str → Key)).zip (ps.map (·.2))).map (fun p => keyD p.1) = (((ks.map (Sum.inr : Str → Key)).zip (ps.map (·.2))).map (·.1)).map keyD := by rw [List.map_map]; rfl
          rw [this, z1, List.map_map]; rfl
        · rw [z2]; exact p3.mono (Ext.new (s4.rel.fresh g4))
    · rw [if_neg hc2] at h; exact h.elim
theorem pairsE_nil : ∃ trs, PPs X pos [] [] trs ∧ ∀ σ H Q, rdA X.K W evNil σ H (fun vs H' => ∃ ps, pairUp vs = some ps ∧ Q ps H') → tPairs trs σ H Q := ⟨[], pps_nil, fun σ H Q h => by
  obtain ⟨φ, F, ρ, m, R, E, L, h⟩ := h
  obtain ⟨ps, e, q⟩ := Post.ok0 (R := RVs X.K) R h .nil
  simp [pairUp] at e
  subst e
  exact q⟩
theorem pairsE_cons {keys : List (Option Expr)} {k : Expr} {ok : Ex} (hk : PE X k (rdE X.K W ok)) (ha : PE X a (rdE X.K W oa)) (h : ∃ trs, PPs X pos keys es trs ∧ ∀ σ H Q, rdA X.K W ou σ H (fun vs H' => ∃ ps, pairUp vs = some ps ∧ Q ps H') → tPairs trs σ H Q) :
    ∃ trs, PPs X pos (some k :: keys) (a :: es) trs ∧ ∀ σ H Q, rdA X.K W (evCons ok (evCons oa ou)) σ H (fun vs H' => ∃ ps, pairUp vs = some ps ∧ Q ps H') → tPairs trs σ H Q := by
  obtain ⟨trs, h1, h2⟩ := h
  refine ⟨(rdE X.K W ok, rdE X.K W oa) :: trs, pps_cons hk ha h1, fun σ H Q h => ?_⟩
  show rdE X.K W ok σ H fun x H1 => rdE X.K W oa σ H1 fun y H2 => tPairs trs σ H2 fun ps H3 => Q ((x, y) :: ps) H3
  refine rd_bind h fun φ F ρ m H1 x u R E L rx h => ?_
  refine ⟨φ, F, ρ, m, R, E, L, ?_⟩
  unfold evCons at h
  cases ho : oa ρ m with
  | bad => rw [ho] at h; exact h
  | exc e m' => rw [ho] at h; exact h
  | ok y m1 =>
    rw [ho] at h
    simp only [Out.bind_ok] at h
    intro φ1 F1 H2 w s1 ry
    refine h2 σ H2 _ ⟨φ1, F1, ρ, m1, s1.rel, E.step s1, L, ?_⟩
    cases ho2 : ou ρ m1 with
    | bad => rw [ho2] at h; exact h
    | exc e m' => rw [ho2] at h; exact fun φ' F' H' s' => h φ' F' H' (s1.trans s' R)
    | ok vs m2 =>
      rw [ho2] at h
      simp only [Out.bind_ok] at h
      intro φ2 F2 H3 ws s2 rw2
      obtain ⟨ps, e, q⟩ := h φ2 F2 H3 (u :: w :: ws) (s1.trans s2 R) (.cons (RepV.step s2 (RepV.step s1 rx)) (.cons (RepV.step s2 ry) rw2))
      simp only [pairUp, Option.map_eq_some_iff] at e
      obtain ⟨l, e, rfl⟩ := e
      exact ⟨l, e, q⟩
/-! ### a, *rest = e -/
def gTupS (K : Frag) (i r : Nat) : TG := fun v σ H Q => ∃ a y ys, v = .ref a ∧ SqT K H a (y :: ys) ∧ ∀ p, H p = none → Q ((σ.set i (some y)).set r (some (.ref p))) (upd H p (.lst ys))
theorem pg_tupS {i r k : Nat} {p2 : Pos} (hc : X.calm = true) (g1 : PG X (.Name x px) (gName i)) (g2 : PG X (.Name y py) (gName r)) : PG X (.Tuple [.Name x px, .Starred (.Name y py) p2] k pos) (gTupS X.K i r) := by
  refine ⟨fun pins s σ H v u Q I rv hw => ?_⟩
  obtain ⟨a, y1, ys, rfl, hq, hw⟩ := hw
  cases rv
  obtain ⟨its, rs, ht, hz⟩ := I.tuple hq
  cases rs with
  | @cons _ u1 _ us r1 rs =>
    have hlen := rs.length
    show wpAny (model X.prog X.w) X.A (do standAt pos; unpack (.ref a) [(false, assign (.Name x px) X.env), (true, assign (.Name y py) X.env)]) _ X.xe s
    refine wpAny_bind (wpAny_standAt ?_)
    unfold unpack
    refine wpAny_bind (wpAny_holding (unpackS (I.ok.hd hc) ht (by simp at hz; omega) fun h' tk kp => ?_))
    have I1 : Inv X pins σ H { s with heap := h', toks := tk } := I.kept fun b o e => kp b o e
    have I2 := I1.lnew (t' := tk) (ys := ys) (its := us) rs (by simp at hz; omega)
    have G := pgs_cons g1 (pgs_cons g2 pgs_nil rfl) rfl
    exact G.run pins _ σ _ [y1, .ref h'.objs.size] [u1, .ref h'.objs.size] Q I2 (.cons r1 (.cons rfl .nil)) ⟨_, _, rfl, _, _, rfl, rfl, hw _ I1.fresh⟩
theorem sns_unpS {i r k : Nat} {p2 : Pos} (hc : X.calm = true) (g1 : PG X (.Name x px) (gName i)) (g2 : PG X (.Name y py) (gName r)) (he : PE X e (rdE X.K W oe)) (hs : notLc e = true) (ht : notTup e = true) : PS X (.Assign [.Tuple [.Name x px, .Starred (.Name y py) p2] k pt] e pos) (rdS X.K W (exUnpS i r oe)) :=
  PSmono (ps_asg he (pg_tupS hc g1 g2) (sole_not hs) (by cases e <;> first | rfl | cases ht) rfl) fun Dn σ H h => by
    refine rdS_bind h fun φ F ρ m H1 v u R E L rv h => ?_
    cases v with
    | cell n => exact h.elim
    | d d =>
      cases d <;> try exact h.elim
      rename_i ds
      cases ds with
      | nil => exact h.elim
      | cons d ds =>
        cases (show Rep X.K F u (.tup (d :: ds)) from rv) with
        | tup h1 r1 =>
          cases r1 with
          | @cons _ vs1 _ _ q1 q2 =>
            refine ⟨_, _, _, rfl, R.sub.t h1, fun p hp => ?_⟩
            have s := Stp.newF (o := .lst vs1) R hp
            refine h φ _ _ _ s (((E.step s).set L (v := .d d) (Rep.mono s.exF q1)).set (v := .d (.lst ds)) (by simp [L]) ?_) (by simp [L])
            exact Rep.lst (SqL.of upd_same) (q2.mono s.exF)
/-! ### match -/
def CsOk (X : Cx) (W : Wsh) (cs : List MatchCase) (oc : Val → Sx) : Prop := ∀ (pins : List (Addr × Obj)) (s : Shared) (σ : L2.St) (H : Hp) (Dn : L2.Ends) (v : Val) (u : V) (uv : Value) (first : Bool) (φ : Nat → Addr) (F : Hp) (ρ : Ev) (m : Store),
  Inv X pins σ H s → RelV u uv → RelS X.K φ F m H → RepE X.K φ F m σ ρ → σ.length = ρ.length → RepV X.K φ F m u v → PostS X.K W φ F m H (oc v ρ m) Dn → wpAny (model X.prog X.w) X.A (matchCases cs X.env uv first) (SP X pins Dn) X.xe s
theorem cs_nil : CsOk X W [] csNil := by
  intro pins s σ H Dn v u uv first φ F ρ m I ru R E L rv h
  exact wpAny_matchCases_nil ⟨σ, H, I, h φ F H σ (Stp.refl R) E L⟩
theorem cs_any {cs : List MatchCase} {body : List Stmt} {pp : Pos} (hb : PSs X body (rdS X.K W os)) : CsOk X W (⟨.MatchAs none none pp, none, body⟩ :: cs) (csAny os) := by
  intro pins s σ H Dn v u uv first φ F ρ m I ru R E L rv h
  refine wpAny_matchCases_cons (wpAny_matchPattern_Capture ?_)
  refine wpAny_assignInOrder_none ?_
  exact hb.run pins s σ H Dn I ⟨φ, F, ρ, m, R, E, L, h⟩
theorem cs_str {cs : List MatchCase} {body : List Stmt} {pp pk : Pos} {kd : Nat} {z : Str} {oc : Val → Sx} (hu : X.A.units + 64 < cLine) (hb : PSs X body (rdS X.K W os)) (hc : CsOk X W cs oc) : CsOk X W (⟨.MatchValue (.Constant (.str z) kd pk) pp, none, body⟩ :: cs) (csStr z os oc) := by
  intro pins s σ H Dn v u uv first φ F ρ m I ru R E L rv h
  cases v with
  | cell n => exact h.elim
  | d d =>
    cases d <;> try exact h.elim
    rename_i t
    have h : PostS X.K W φ F m H ((lift m (eqD (.str t) (.str z))).bind fun b m => if b = true then os ρ m else oc (.d (.str t)) ρ m) Dn := h
    cases eq : eqD (.str t) (.str z) with
    | none => rw [eq] at h; exact h.elim
    | some b =>
      rw [eq] at h
      have h : PostS X.K W φ F m H (if b = true then os ρ m else oc (.d (.str t)) ρ m) Dn := h
      refine wpAny_matchCases_cons (wpAny_matchPattern_Value ?_)
      refine thn ((pe_str (X := X)).run pins s σ H (fun y H' => y = .str z ∧ H' = H) I ⟨rfl, rfl⟩) fun x s1 hh => ?_
      obtain ⟨y, H1, I1, ry, rfl, rfl⟩ := hh
      refine thn (op_cmp (W := W) hu .Eq pins s1 σ H1 u (.str z) uv x (fun w H' => ∃ φ' F', Stp X.K φ F m H1 φ' F' m H' ∧ w = .bl b) I1 ru ry ⟨φ, F, m, .str t, .str z, .bl b, R, .inl rv, .inl (.str z), by show (eqD (.str t) (.str z)).map D.bl = _; rw [eq]; rfl, fun φ' F' H' w s r => ⟨φ', F', s, by cases (show Rep X.K F' w (.bl b) from r); rfl⟩⟩) fun c s2 hh => ?_
      obtain ⟨w, H2, I2, rw2, φ', F', st, rfl⟩ := hh
      cases (show c = Value.bool b from rw2)
      have h2 := PostS.step R h st
      refine wpAny_truthy_bool ?_
      cases b with
      | true =>
        simp only [if_true] at h2 ⊢
        refine wpAny_assignInOrder_none ?_
        exact hb.run pins s2 σ H2 Dn I2 ⟨φ', F', ρ, m, st.rel, E.step st, L, h2⟩
      | false =>
        simp only [Bool.false_eq_true, if_false] at h2 ⊢
        exact hc pins s2 σ H2 Dn (.d (.str t)) u uv false φ' F' ρ m I2 ru st.rel (E.step st) L (RepV.step st rv) h2
/-- the patterns' names, one behind another -/
def capB (N : List Str) (P : Str → Bool) : List Nat → List Pattern → Bool
  | [], [] => true
  | i :: is, .MatchAs none (some x) _ :: ps => decide (N[i]? = some x) && (P x && capB N P is ps)
  | _, _ => false
theorem cap_shape {N : List Str} {P : Str → Bool} : ∀ {is : List Nat} {ps : List Pattern}, capB N P is ps = true → is.length = ps.length ∧ ps.findIdx? (·.isStar) = none ∧ (is ≠ [] → (ps.all fun p => p.isWildcard || (p.isStar && p.names.isEmpty)) = false)
  | [], [], _ => ⟨rfl, rfl, fun h => absurd rfl h⟩
  | [], _ :: _, h => by simp [capB] at h
  | _ :: _, [], h => by simp [capB] at h
  | i :: is, p :: ps, h => by
    unfold capB at h
    split at h
    · cases ‹_ :: _ = []›
    · rename_i e1 e2
      cases e1; cases e2
      simp only [Bool.and_eq_true] at h
      obtain ⟨a, b, c⟩ := cap_shape h.2.2
      refine ⟨by simp [a], ?_, fun _ => rfl⟩
      rw [List.findIdx?_cons, b]; rfl
    · cases h
theorem cap_each {N : List Str} {P : Str → Bool} {M : Model} {A : Around} {env : PySem.Env} {Ex : Value → Shared → Prop} : ∀ {is : List Nat} {ps : List Pattern} {us : List Value} {s : Shared} {Q : Option (List (Str × Value)) → Shared → Prop}, capB N P is ps = true → us.length = is.length → (∀ bs, bs.map (·.1) = is.map (fun i => N.getD i Str.empty) → bs.map (·.2) = us → Q (some bs) s) → wpAny M A (matchEach ps env us) Q Ex s
  | [], [], us, s, Q, _, hl, h => by
    have : us = [] := by simpa using hl
    subst this
    exact wpAny_matchEach_nil (h [] rfl rfl)
  | [], _ :: _, _, _, _, h, _, _ => by simp [capB] at h
  | _ :: _, [], _, _, _, h, _, _ => by simp [capB] at h
  | i :: is, p :: ps, us, s, Q, h, hl, hq => by
    unfold capB at h
    split at h
    · cases ‹_ :: _ = []›
    · rename_i e1 e2
      cases e1; cases e2
      simp only [Bool.and_eq_true, decide_eq_true_eq] at h
      cases us with
      | nil => simp at hl
      | cons u us =>
        refine wpAny_matchEach_cons (wpAny_matchPattern_Capture ?_) rfl
        refine cap_each (P := P) h.2.2 (by simpa using hl) fun bs b1 b2 => ?_
        refine hq _ ?_ ?_
        · show _ :: bs.map (·.1) = _
          rw [b1, List.map_cons, List.getD_eq_getElem?_getD, h.1]; rfl
        · show u :: bs.map (·.2) = _
          rw [b2]
    · cases h
theorem cap_store (hN : X.N.Nodup) (hP : ∀ x, P x = true → Loc X.env.scope x ∧ (X.fn x = true ∨ X.env.scope.names.lookup x = some .local)) : ∀ {is : List Nat} {ps : List Pattern} {us : List Value} {vs : List V} {ds : List D} {bs : List (Str × Value)} {pins : List (Addr × Obj)} {s : Shared} {σ : L2.St} {H : Hp} {φ : Nat → Addr} {F : Hp} {m : Store} {ρ ρ' : Ev} {Q : Unit → Shared → Prop},
    capB X.N P is ps = true → bs.map (·.1) = is.map (fun i => X.N.getD i Str.empty) → bs.map (·.2) = us → Vals vs us → Reps X.K F vs ds → Inv X pins σ H s → RepE X.K φ F m σ ρ → σ.length = ρ.length → setAll is ds ρ = some ρ' →
    (∀ s' σ', Inv X pins σ' H s' → RepE X.K φ F m σ' ρ' → σ'.length = ρ'.length → Q () s') → wpAny (model X.prog X.w) X.A (assignInOrder (bs.map fun (n, _) => bindName X.env n) (bs.map (·.2))) Q X.xe s
  | [], ps, us, vs, ds, bs, pins, s, σ, H, φ, F, m, ρ, ρ', Q, hc, b1, b2, rv, rd, I, E, L, hs, h => by
    have : bs = [] := by simpa using b1
    subst this
    cases ds with
    | cons _ _ => simp [setAll] at hs
    | nil =>
      simp [setAll] at hs
      subst hs
      exact wpAny_assignInOrder_none (h s σ I E L)
  | i :: is, ps, us, vs, ds, bs, pins, s, σ, H, φ, F, m, ρ, ρ', Q, hc, b1, b2, rv, rd, I, E, L, hs, h => by
    unfold capB at hc
    split at hc
    · cases ‹_ :: _ = []›
    · rename_i e1
      cases e1
      simp only [Bool.and_eq_true, decide_eq_true_eq] at hc
      obtain ⟨c1, c2, c3⟩ := hc
      cases bs with
      | nil => simp at b1
      | cons b bs =>
        obtain ⟨n, u⟩ := b
        simp only [List.map_cons, List.cons.injEq] at b1
        obtain ⟨b1, b1'⟩ := b1
        rw [List.getD_eq_getElem?_getD, c1] at b1
        simp only [Option.getD_some] at b1
        subst b1
        cases us with
        | nil => simp at b2
        | cons u' us =>
          simp only [List.map_cons, List.cons.injEq] at b2
          obtain ⟨rfl, b2'⟩ := b2
          cases rv with
          | cons rv0 rvs =>
            cases rd with
            | cons rd0 rds =>
              have hs : setAll is _ (ρ.set i (some (.d _))) = some ρ' := hs
              refine wpAny_assignInOrder_more ?_
              show wpAny _ _ (bindName X.env n u) _ _ _
              unfold bindName
              refine wpAny_bind (wpAny_holding (wpAny_point (wpAny_bind ?_)))
              refine store_ok I hN c1 (hP n c2).1 rv0 (fun s' I' => wpAny_point ?_) (hP n c2).2
              exact cap_store hN hP c3 b1' b2' rvs rds I' (E.set L (v := .d _) rd0) (by simp [L]) hs h
    · cases hc
theorem cs_seq {cs : List MatchCase} {body : List Stmt} {pp : Pos} {is : List Nat} {ps : List Pattern} {g : Option Expr} {og : Ev → Store → Out Bool} {oc : Val → Sx} {P : Str → Bool} (hcalm : X.calm = true) (hN : X.N.Nodup) (hP : ∀ x, P x = true → Loc X.env.scope x ∧ (X.fn x = true ∨ X.env.scope.names.lookup x = some .local))
    (hi : is ≠ []) (hk : capB X.N P is ps = true) (hg : match g with | none => og = evYes | some e => PT X e (rdT X.K W og)) (hb : PSs X body (rdS X.K W os)) (hc : CsOk X W cs oc) : CsOk X W (⟨.MatchSequence ps pp, g, body⟩ :: cs) (csSeq is og os oc) := by
  intro pins s σ H Dn v u uv first φ F ρ m I ru R E L rv h
  obtain ⟨hl, hst, hw⟩ := cap_shape hk
  cases v with
  | cell n => exact h.elim
  | d d =>
    cases d <;> try exact h.elim
    rename_i ds
    have h : PostS X.K W φ F m H (if ds.length = is.length then (match setAll is ds ρ with
      | some ρ' => (og ρ' m).bind fun t m => if t = true then os ρ' m else oc (.d (.tup ds)) ρ' m
      | none => .bad) else oc (.d (.tup ds)) ρ m) Dn := h
    obtain ⟨a, vs, rfl, h1, r1⟩ := PV.tup (H := H) (.inl (show Rep X.K F u (.tup ds) from rv))
    cases ru
    obtain ⟨its, rvs, pl, hz⟩ := I.tuple (R.sub.t h1)
    have hlen : its.length = ds.length := by rw [← rvs.length, r1.length]
    have h63 : (its.toArray.size : Int) < 2 ^ 63 := by
      have q := line63
      have : its.length ≤ sizeLine := by rw [← rvs.length]; exact hz
      simp only [List.size_toArray]; omega
    refine wpAny_matchCases_cons ?_
    have Itk := I.tok (s.toks + 1 + 1)
    by_cases he : ds.length = is.length
    · rw [if_pos he] at h
      refine PyProof.Rows.matchSeq_tuple_hit pl h63 (by simp; omega) ?_ hst (hw hi)
      have e2 : ps.length = its.toArray.size := by simp; omega
      rw [e2]
      refine PyProof.Rows.unpackItems_tuple (s := { s with toks := s.toks + 1 + 1 }) (I.ok.hd hcalm) pl fun h' hx => ?_
      have I1 : Inv X pins σ H { s with toks := s.toks + 1 + 1, heap := h' } := Itk.kept (t' := s.toks + 1 + 1) fun b o e => hx b o (Nat.ne_of_lt (Heap.lt_size e)) e
      refine cap_each (P := P) hk (by simp; omega) fun bs b1 b2 => ?_
      cases es : setAll is ds ρ with
      | none => rw [es] at h; exact h.elim
      | some ρ' =>
        rw [es] at h
        simp only at h
        refine cap_store hN hP hk b1 b2 (by simpa using rvs) r1 I1 E L es fun s2 σ2 I2 E2 L2 => ?_
        cases g with
        | none =>
          have hg : og = evYes := hg
          subst hg
          exact hb.run pins s2 σ2 H Dn I2 ⟨φ, F, ρ', m, R, E2, L2, h⟩
        | some e =>
          have hg : PT X e (rdT X.K W og) := hg
          have hr : rdT X.K W og σ2 H fun t H1 => ∃ φ1 F1 m1, RelS X.K φ1 F1 m1 H1 ∧ RepE X.K φ1 F1 m1 σ2 ρ' ∧ RepV X.K φ1 F1 m1 (.ref a) (.d (.tup ds)) ∧ PostS X.K W φ1 F1 m1 H1 (if t = true then os ρ' m1 else oc (.d (.tup ds)) ρ' m1) Dn :=
            ⟨φ, F, ρ', m, R, E2, L2, PostS.bind R h fun t m1 φ1 F1 H1 b s1 rb hp => by
              cases rb
              exact ⟨φ1, F1, m1, s1.rel, E2.step s1, RepV.step s1 rv, hp⟩⟩
          refine thn (hg.run pins s2 σ2 H _ I2 hr) fun ok s3 hh => ?_
          obtain ⟨H3, I3, φ1, F1, m1, R1, E1, rv1, hp⟩ := hh
          cases ok with
          | true => exact hb.run pins s3 σ2 H3 Dn I3 ⟨φ1, F1, ρ', m1, R1, E1, L2, hp⟩
          | false => exact hc pins s3 σ2 H3 Dn (.d (.tup ds)) (.ref a) _ false φ1 F1 ρ' m1 I3 rfl R1 E1 L2 rv1 hp
    · rw [if_neg he] at h
      refine PyProof.Rows.matchSeq_tuple_miss pl h63 (by simp; omega) ?_ hst (hw hi)
      exact hc pins _ σ H Dn (.d (.tup ds)) (.ref a) _ false φ F ρ m Itk rfl R E L rv h
theorem sns_mtch {cs : List MatchCase} {oc : Val → Sx} (he : PE X e (rdE X.K W oe)) (hc : CsOk X W cs oc) : PS X (.Match e cs pos) (rdS X.K W (exMtch oe oc)) := ⟨fun pins s σ H Dn I h => by
  refine wpAny_Match ?_
  have h2 : rdE X.K W oe σ H fun u H1 => ∃ φ F ρ m v, RelS X.K φ F m H1 ∧ RepE X.K φ F m σ ρ ∧ σ.length = ρ.length ∧ RepV X.K φ F m u v ∧ PostS X.K W φ F m H1 (oc v ρ m) Dn := by
    refine rdS_bind (k := fun ρ v m => oc v ρ m) h fun φ F ρ m H1 v u R E L rv h => ?_
    exact ⟨φ, F, ρ, m, v, R, E, L, rv, h⟩
  refine thn (he.run pins s σ H _ I h2) fun uv s1 hh => ?_
  obtain ⟨u, H1, I1, ru, φ, F, ρ, m, v, R, E, L, rv, h⟩ := hh
  exact hc pins s1 σ H1 Dn v u uv true φ F ρ m I1 ru R E L rv h⟩
end
end AW
set_option maxRecDepth 100000
set_option maxHeartbeats 4000000
namespace AW
open PySem PySem.Spec PyProof.Rows L2 HT
section
variable {prog : Program} {w : World} {A : Around} {E : Value → Shared → Prop} {s : Shared}
theorem places_back (n : Nat) : Builtin.Slice.slicePlaces ((n : Int) - 1) (-1) (-1) = n := by
  unfold Builtin.Slice.slicePlaces
  rw [if_neg (by omega)]
  split
  · have e : ((n : Int) - 1 - (-1) - 1) / (- -1) + 1 = n := by
      have : (- -1 : Int) = 1 := by omega
      rw [this, Int.ediv_one]; omega
    rw [e]; simp
  · have : n = 0 := by omega
    subst this; rfl
theorem pick_back (xs : List Value) : ((List.range xs.length).filterMap fun (m : Nat) => xs.toArray[((xs.length : Int) - 1 + (m : Int) * (-1)).toNat]?).toArray = xs.reverse.toArray := by
  congr 1
  apply List.ext_getElem?
  intro i
  have key : ∀ n, n ≤ xs.length → ((List.range n).filterMap fun (m : Nat) => xs.toArray[((xs.length : Int) - 1 + (m : Int) * (-1)).toNat]?) = xs.reverse.take n := by
    intro n
    induction n with
    | zero => intro _; simp
    | succ n ih =>
      intro hn
      have hlt : n < xs.reverse.length := by simp; omega
      rw [List.range_succ, List.filterMap_append, ih (by omega), List.take_succ_eq_append_getElem hlt]
      have e : ((xs.length : Int) - 1 + (n : Int) * (-1)).toNat = xs.length - 1 - n := by omega
      have g : xs.toArray[((xs.length : Int) - 1 + (n : Int) * (-1)).toNat]? = some xs.reverse[n] := by
        rw [e, List.getElem_reverse]
        simp
      congr 1
      rw [List.filterMap_cons_some (f := fun m : Nat => xs.toArray[((xs.length : Int) - 1 + (m : Int) * (-1)).toNat]?) g]
      rfl
  rw [key xs.length (Nat.le_refl _), List.take_of_length_le (by simp)]
theorem sliceApplied_back {sl : Addr} {t : Tok} {n : Nat} {Q : Int × Int × Nat → Shared → Prop} (hs : s.heap.IsSliceOf sl .none .none (.int (-1) t)) (h : Q ((n : Int) - 1, -1, n) s) : wpAny (model prog w) A (Builtin.Slice.sliceApplied (.ref sl) (pure (n : Int))) Q E s := by
  obtain ⟨os, hos, hcs, hds⟩ := id hs
  unfold Builtin.Slice.sliceApplied Builtin.Slice.sliceFields
  refine wpAny_bind (wpAny_bind (wpAny_field hos hds (x := .none) rfl (wpAny_bind (wpAny_field hos hds (x := .none) rfl (wpAny_bind (wpAny_field hos hds (x := .int (-1) t) rfl (wpAny_pure ?_)))))))
  refine wpAny_bind (slicePart_int ?_)
  show wpAny _ _ (if ((-1 : Int) == 0) = true then _ else _) _ _ s
  rw [if_neg (by decide)]
  refine wpAny_bind (slicePart_none (wpAny_bind (slicePart_none (wpAny_bind (wpAny_pure ?_)))))
  show wpAny _ _ (pure ((n : Int) - 1, (-1 : Int), Builtin.Slice.slicePlaces ((n : Int) - 1) (-1) (-1))) _ _ s
  rw [places_back]
  exact wpAny_pure h
theorem getItem_tuple_back {t sl : Addr} {xs : List Value} {tk : Tok} {Q : Value → Shared → Prop} (ht : IsTup s.heap t xs.toArray) (hs : s.heap.IsSliceOf sl .none .none (.int (-1) tk))
    (h : Q (.ref s.heap.objs.size) { s with heap := s.heap.push { cls := .type "tuple", data := .seq xs.reverse.toArray } }) (hsz : xs.length ≤ sizeLine) : wpAny (model prog w) A (getItem (.ref t) (.ref sl)) Q E s := by
  have htake : sizeOk (.seq xs.reverse.toArray) := by
    show xs.reverse.toArray.size ≤ sizeLine
    rw [List.size_toArray, List.length_reverse]
    exact hsz
  obtain ⟨os, hos, hcs, hds⟩ := id hs
  have hTs : s.TypeIs (.ref sl) "slice" := ⟨os, hos, hcs⟩
  unfold getItem
  try with_reducible refine wpAny_holding ?_
  first | refine wpAny_bind (wpAny_pure ?_) | skip
  refine wpAny_bind (wpAny_sequenceKey ht.typeIs (by decide) ?_)
  refine wpAny_bind (wpAny_callSpecial?_slot (name := Str.ofString "__getitem__") ht.typeIs PyProof.Rows.slot_tuple_getitem
    (wpAny_call_entry PyProof.Rows.slot_tuple_getitem ht.typeIs entry_tuple_getitem ?_ (args_tuple_getitem _ _)))
  show wpAny _ _ (Builtin.Tuple.tupleItemsOf (.ref t) >>= _) _ _ s
  refine wpAny_bind (tupleItemsOf_ ht ?_)
  refine wpAny_bind (wpAny_typeOf hTs ?_)
  rw [if_pos (by decide)]
  have e0 : (xs.toArray.size : Nat) = xs.length := by simp
  refine wpAny_bind (sliceApplied_back hs ?_)
  have hno : ¬ ((((xs.toArray.size : Nat) : Int) - 1 == 0 && (-1 : Int) == 1 && xs.toArray.size == xs.toArray.size) = true) := by
    intro q
    rw [Bool.and_eq_true, Bool.and_eq_true] at q
    exact absurd q.1.2 (by decide)
  show wpAny _ _ (if (((xs.toArray.size : Nat) : Int) - 1 == 0 && (-1 : Int) == 1 && xs.toArray.size == xs.toArray.size) = true then _ else _) _ _ s
  rw [if_neg hno, e0, pick_back]
  first
    | exact wpAny_bind (m := Builtin.Tuple.tupleExact _) (wpAny_newObj_type (wpAny_pure ⟨_, rfl, wpAny_pure h⟩) htake)
    | exact wpAny_bind (m := Builtin.Tuple.tupleExact _) (wpAny_newObj_type (wpAny_bind (wpAny_pure (wpAny_pure ⟨_, rfl, wpAny_pure h⟩))) htake)
    | exact wpAny_bind (wpAny_bind (m := Builtin.Tuple.tupleExact _) (wpAny_newObj_type (wpAny_pure (wpAny_pure ⟨_, rfl, wpAny_pure h⟩)) htake))
    | exact wpAny_bind (wpAny_bind (m := Builtin.Tuple.tupleExact _) (wpAny_newObj_type (wpAny_pure ⟨_, rfl, wpAny_pure h⟩) htake))
end
section
variable {X : Cx} {W : Wsh} {a b c e : Expr} {es : List Expr} {oa ob oc oe : Ex} {ou : Ev → Store → Out (List Val)} {pos p px py pt apos : Pos} {x y : Str} {os ot : Sx}
def tRevT (K : Frag) (te : TE) : TE := fun σ H Q => te σ H fun x H1 => ∃ a xs, x = .ref a ∧ SqT K H1 a xs ∧ ∀ p, H1 p = none → Q (.ref p) (upd H1 p (.tup xs.reverse))
theorem pe_revT {te : TE} {k : Nat} {p1 p2 p3 : Pos} (he : PE X e te) : PE X (.Subscript e (.Slice none none (some (.UnaryOp .USub (.Constant (.int 1) k p1) p2)) p3) pos) (tRevT X.K te) := by
  refine ⟨fun pins s σ H Q I h => ?_⟩
  refine Subscript_ (thn (he.run pins s σ H _ I h) fun v s1 ⟨x, H1, I1, r1, q1⟩ => ?_)
  obtain ⟨a, xs, ex, hx, q⟩ := q1
  subst ex
  cases r1
  have hst : PO X (some (.UnaryOp .USub (.Constant (.int 1) k p1) p2)) (tPart (tUn (rU fun i => .int (-i)) (tC (.int 1)))) := po_some (pe_un un_neg pe_int)
  refine wpAny_Slice (thn (po_none.run pins s1 σ H1 (fun o H2 => o = none ∧ H2 = H1) I1 ⟨rfl, rfl⟩) fun vl s2 ⟨l, H2, I2, pl, el, e2⟩ => ?_)
  subst el e2
  refine thn (po_none.run pins s2 σ H2 (fun o H3 => o = none ∧ H3 = H2) I2 ⟨rfl, rfl⟩) fun vu s3 ⟨u, H3, I3, pu, eu, e3⟩ => ?_
  subst eu e3
  refine thn (hst.run pins s3 σ H3 (fun o H4 => o = some (-1) ∧ H4 = H3) I3 ⟨1, rfl, -1, rfl, rfl, rfl⟩) fun vs s4 ⟨o, H4, I4, ps, eo, e4⟩ => ?_
  subst eo e4
  cases pl
  cases pu
  cases ps with
  | int i tk =>
    have I5 : Inv X pins σ H4 { s4 with heap := s4.heap.push { cls := .type "slice", data := .fields #[.none, .none, .int (-1) tk] } } := I4.kept (t' := s4.toks) fun b ob q => Heap.get?_push_of_some _ q
    obtain ⟨its, r, ht, hz⟩ := I5.tuple hx
    have hlen := r.length
    show wpAny (model X.prog X.w) X.A (subscriptTail e (.Slice none none (some (.UnaryOp .USub (.Constant (.int 1) k p1) p2)) p3) (.ref a) (.ref s4.heap.objs.size)) (EP X pins σ Q) X.xe { s4 with heap := s4.heap.push { cls := .type "slice", data := .fields #[.none, .none, .int (-1) tk] } }
    refine tail_any (ops := [.ref a, .ref s4.heap.objs.size]) ht.typeIs (PyProof.Rows.slot_tuple_getitem.lookup) ?_ (by with_unfolding_all rfl)
    refine getItem_tuple_back ht (Heap.IsSliceOf.new _ _ _ _) ?_ (by omega)
    refine ⟨.ref _, _, I5.laid (t' := s4.toks) (o := .tup xs.reverse) (fun b ob q => Heap.get?_push_of_some _ q) (Nat.le_refl _) ?_, rfl, q _ (I5.hok.fresh (Nat.le_refl _))⟩
    exact ⟨by rw [List.length_reverse]; exact hz, _, r.reverse, ⟨_, Heap.get?_push_size _ rfl, rfl, _, rfl⟩⟩
theorem snd_revT {k : Nat} {p1 p2 p3 : Pos} (ha : PE X a (rdE X.K W oa)) : PE X (.Subscript a (.Slice none none (some (.UnaryOp .USub (.Constant (.int 1) k p1) p2)) p3) pos) (rdE X.K W (ev1 revTD oa)) := PEmono (pe_revT ha) fun σ H Q h => by
  refine rd_bind h fun φ F ρ m H1 x u R E L rx h => ?_
  obtain ⟨d, ed, h1⟩ := h.lift
  obtain ⟨z, ez, h2⟩ := h1.lift
  clear h h1
  have px := pv_of R rx ed
  cases d <;> simp only [revTD] at ez <;> try (cases ez; done)
  cases ez
  obtain ⟨q, vs, rfl, hh, r1⟩ := px.tup
  exact ⟨q, vs, rfl, R.sub.t hh, fun l hl => OkD.tup (W := W) R h2 hl r1.rev⟩
/-! ### a dict that is filled -/
theorem snd_dictM : PE X (.Dict [] [] pos) (rdE X.K W evDictM) := PEmono pe_dnewK fun σ H Q h => by
  obtain ⟨φ, F, ρ, m, R, E, L, h⟩ := h
  intro q hq
  exact h _ F _ _ (Stp.newC R hq (o := .dK []) (c := .dct [] []) ⟨rfl, .nil⟩) ⟨by simp, by simp⟩
theorem cell_dct {K : Frag} {φ : Nat → Addr} {F : Hp} {m : Store} {H : Hp} {n : Nat} {ks vs : List D} (R : RelS K φ F m H) (e : m[n]? = some (.dct ks vs)) : ∃ kvs, H (φ n) = some (.dK kvs) ∧ kvs.map (fun p => keyD p.1) = ks ∧ Reps K F (kvs.map (·.2)) vs := by
  obtain ⟨ho, e4, e5⟩ := R.cell n _ e
  have hro := (e5 rfl).2
  cases ho <;> try exact hro.elim
  exact ⟨_, e4, hro.1, hro.2⟩
theorem sns_setD {o i : Expr} {oo oi : Ex} {p2 : Pos} (hu : X.A.units + 64 < cLine) (ho : PE X o (rdE X.K W oo)) (hi : PE X i (rdE X.K W oi)) (he : PE X e (rdE X.K W oe)) (hs : notLc e = true) : PS X (.Assign [.Subscript o i p2] e pos) (rdS X.K W (exSetD oo oi oe)) :=
  PSmono (ps_dput (by omega) ho hi he (sw_not hs)) fun Dn σ H h => by
    refine rdS_bind h fun φ F ρ m H1 v u R E L r h => ?_
    refine ⟨φ, F, ρ, m, R, E, L, PostS.bind R h fun x m1 φ1 F1 H2 ux s1 r1 h => ?_⟩
    refine ⟨φ1, F1, ρ, m1, s1.rel, E.step s1, L, PostS.bind s1.rel h fun y m2 φ2 F2 H3 uy s2 r2 h => ?_⟩
    cases x with
    | d _ => exact h.elim
    | cell n =>
      cases y with
      | cell _ => exact h.elim
      | d dk =>
        cases v with
        | cell _ => exact h.elim
        | d d =>
          obtain ⟨rfl, hn⟩ := RepV.step s2 r1
          have h : PostS X.K W φ2 F2 m2 H3 (match (keyOfD dk).bind fun k => putC n k d m2 with
            | some m' => .ok (.nx ρ) m'
            | none => .bad) Dn := h
          cases ek : keyOfD dk with
          | none => rw [ek] at h; exact h.elim
          | some k =>
            rw [ek] at h
            simp only [Option.bind_some] at h
            have ey := pv_key (H := H3) (.inl r2) ek
            unfold putC at h
            cases ec : m2[n]? with
            | none => rw [ec] at h; exact h.elim
            | some cc =>
              cases cc with
              | dead => rw [ec] at h; exact h.elim
              | lst _ => rw [ec] at h; exact h.elim
              | dct ks vs =>
                rw [ec] at h
                obtain ⟨kvs, e4, e5, e6⟩ := cell_dct s2.rel ec
                by_cases hc : dgetK k ks vs = none ∧ ks.length = vs.length ∧ ks.length < sizeLine
                · simp only [if_pos hc] at h
                  have hnone : valV kvs k = none := by
                    have q := (dget_val (k := k) e5 e6).2
                    rw [hc.1] at q
                    cases z : valV kvs k with
                    | none => rfl
                    | some _ => rw [z] at q; cases q
                  have hnk : k ∉ kvs.map (·.1) := valV_not hnone
                  have hlen : kvs.length < sizeLine := by
                    have : kvs.length = ks.length := by rw [← e5, List.length_map]
                    omega
                  rw [ey]
                  have r' : Rep X.K F2 u d := RepV.step s2 (RepV.step s1 r)
                  refine ⟨_, _, rfl, DPut.k e4 hlen, ?_⟩
                  rw [put_new hnk]
                  have s3 := Stp.write s2.rel (o := .dK (kvs ++ [(k, u)])) (c' := .dct (ks ++ [keyD k]) (vs ++ [d])) ec rfl rfl ⟨by rw [List.map_append, e5]; rfl, by rw [List.map_append]; exact e6.snoc r'⟩
                  exact h φ2 F2 _ σ s3 ((E.step s1).step s2 |>.step s3) L
                · simp only [if_neg hc] at h; exact h.elim
/-! ### a, b = a list -/
theorem sns_unpL {is : List Nat} {ts : List Expr} {k1 : Nat} (hg : PG X (.Tuple ts k1 px) (gUnl X.K is.length (is.foldr (fun i t => gCons (gName i) t) gNil))) (he : PE X e (rdE X.K W oe)) (hn : notTup e = true) (hs : notLc e = true) : PS X (.Assign [.Tuple ts k1 px] e pos) (rdS X.K W (exUnpL is oe)) :=
  PSmono (ps_asg he hg (sole_not hs) (swap_none hn) rfl) fun Dn σ H h => by
    refine rdS_bind h fun φ F ρ m H1 v u R E L r h => ?_
    cases v with
    | cell n => exact h.elim
    | d d =>
      cases d <;> try exact h.elim
      obtain ⟨ρ', e1, h1⟩ := h.lift
      cases (show Rep X.K F u (.lst _) from r) with
      | lst hl rr =>
        have hlen := setAll_len e1
        refine ⟨_, _, rfl, R.sub.l hl, by rw [rr.length]; exact hlen.1, gs_ok e1 rr (fun j v _ q => E j v q) L fun σ' E' l' _ => ?_⟩
        exact h1 φ F H1 σ' (Stp.refl R) E' (by rw [l', hlen.2]; exact L)
/-! ### repr of a dict -/
mutual
theorem reads_nobox {h : Heap} : ∀ {v : Value} {d : PyData} {as : List Addr}, Reads h v d as → noBox d = true → as = []
  | _, _, _, .none, _ => rfl
  | _, _, _, .bool _, _ => rfl
  | _, _, _, .int _ _, _ => rfl
  | _, _, _, .str _ _, _ => rfl
  | _, _, _, .tuple _ _ _ r, q => reads_noboxes r (by simpa [noBox] using q)
  | _, _, _, .list _ _ _ _, q => by simp [noBox] at q
  | _, _, _, .dict _ _ _ _ _, q => by simp [noBox] at q
theorem reads_noboxes {h : Heap} : ∀ {vs : List Value} {ds : List PyData} {as : List Addr}, ReadsAll h vs ds as → noBoxes ds = true → as = []
  | _, _, _, .nil, _ => rfl
  | _, _, _, .cons r rs, q => by
    simp only [noBoxes, Bool.and_eq_true] at q
    rw [reads_nobox r q.1, reads_noboxes rs q.2]; rfl
end
theorem keys_read {P : Program} {w : World} {h : Heap} : ∀ {es : List DictEntry} {kvs : List (Key × Value)} {xs : List Str}, PySem.Pairs (mixKind P w) es kvs → kvs.map (·.1) = xs.map Sum.inr → ReadsAll h (es.map (·.key)) (xs.map PyData.str) []
  | _, _, [], .nil, _ => .nil
  | _, _, _ :: _, .nil, e => by cases e
  | _, _, [], .cons _ _ _, e => by cases e
  | _, _, x :: xs, .cons hk hv r, e => by
    rw [List.map_cons, List.map_cons, List.cons.injEq] at e
    rcases keyIs_shape hk with ⟨i, t, q, _⟩ | ⟨z, t, q, qe⟩
    · rw [q] at e; cases e.1
    · rw [q] at e
      cases e.1
      have := ReadsAll.cons (h := h) (Reads.str x t) (keys_read r e.2)
      rw [List.map_cons, qe]
      exact this
theorem vals_pairs {P : Program} {w : World} : ∀ {es : List DictEntry} {kvs : List (Key × Value)}, PySem.Pairs (mixKind P w) es kvs → es.map (·.val) = kvs.map (·.2)
  | _, _, .nil => rfl
  | _, _, .cons _ hv r => by rw [List.map_cons, List.map_cons, hv, vals_pairs r]
theorem kv_fst {kvs : List (Key × V)} {vs : List (Key × Value)} (h : KV kvs vs) : kvs.map (·.1) = vs.map (·.1) := by
  unfold KV at h
  induction h with
  | nil => rfl
  | cons q _ ih => rw [List.map_cons, List.map_cons, ih, q.1]
theorem kv_snd {kvs : List (Key × V)} {vs : List (Key × Value)} (h : KV kvs vs) : Vals (kvs.map (·.2)) (vs.map (·.2)) := by
  unfold KV at h
  induction h with
  | nil => exact .nil
  | cons q _ ih => exact .cons q.2 ih
theorem strs_keys : ∀ {kvs : List (Key × V)} {xs : List Str}, strsD (kvs.map fun p => keyD p.1) = some xs → kvs.map (·.1) = xs.map Sum.inr
  | [], xs, e => by cases e; rfl
  | (.inl i, _) :: kvs, xs, e => by simp [strsD, keyD] at e
  | (.inr z, _) :: kvs, xs, e => by
    simp [strsD, keyD] at e
    obtain ⟨ys, e1, rfl⟩ := e
    have := strs_keys (kvs := kvs) e1
    rw [List.map_cons, this]; rfl
theorem c_drepr (hg : X.A.guards = some []) (hu : X.A.units + 150 < cLine) : CallR X (.builtin "repr") (r1c X.K W (b1D .drepr)) := by
  intro pins s σ H xs us Q I r h
  obtain ⟨x, φ, F, m, dx, z, rfl, R, px, e0, h⟩ := h
  have e : (dreprD dx).map D.str = some z := e0
  clear e0
  cases dx <;> simp only [dreprD] at e <;> try (cases e; done)
  rename_i ks vs
  cases ek : strsD ks with
  | none => rw [ek] at e; cases e
  | some xs =>
    cases ep : D.pys vs with
    | none => rw [ek, ep] at e; cases e
    | some ps =>
      rw [ek, ep] at e
      simp only [Option.bind_some] at e
      split at e
      · rename_i hc
        cases e
        obtain ⟨h1, h2, h3, h4, h5⟩ := hc
        obtain ⟨q, kvs, rfl, hr, e1, r1⟩ := px.dct R.sub
        subst e1
        have kx := strs_keys ek
        obtain ⟨z, hd, ws, rel, o, es, ep', ho, hx, hdt, kk, pr, nd⟩ := dk_rd I.hok hr
        have kf := kv_fst rel
        rw [kx] at kf
        have rk : ReadsAll s.heap (es.toList.map (·.key)) (xs.map PyData.str) [] := keys_read pr kf.symm
        have dps := Reps.dps (Reps.mono R.sub r1) ep
        obtain ⟨bs, rb⟩ := Dp.readsAll I ps _ _ dps (kv_snd rel)
        rw [← vals_pairs pr] at rb
        have hb := reads_noboxes rb h2
        subst hb
        have z1 : ((xs.map PyData.str).zip ps).map (·.1) = xs.map PyData.str := List.map_fst_zip (by rw [List.length_map]; omega)
        have z2 : ((xs.map PyData.str).zip ps).map (·.2) = ps := List.map_snd_zip (by rw [List.length_map]; omega)
        have rd : Reads s.heap (.ref q) (.dict ((xs.map PyData.str).zip ps)) (q :: [] ++ []) := Reads.dict ho hx.1 hdt (by rw [z1]; exact rk) (by rw [z2]; exact rb)
        rw [Vals.ref1 r]
        refine repr_of_reads' rd h3 (fun _ hm => ?_) hg (by omega) (fun _ _ e => e) (fun h' u' tk hk => ⟨.str _, H, I.kept (t' := tk) hk, ⟨_, rfl⟩, h.at R (.str _)⟩) (of_decide_eq_true h5)
        simp at hm
        rw [← hm] at hd
        simp at hd
      · cases e
end
end AW
set_option maxRecDepth 100000
set_option maxHeartbeats 4000000
namespace AW
open PySem L2 PySem.Spec PyProof.Rows LamX
/-! a lambda handed to a def that catches: as LamX's, where no repr is under way -/
abbrev lq (X : Cx) : Str := X.env.qual ++ "<lambda>"
abbrev laObj (X : Cx) (ps : Arguments) (b : Expr) (sc : Scope) (pm : Value) (c' : Addr) (ct : Value) : Obj :=
  PySem.W.kla_obj "<lambda>" (lq X) ps b sc (cloFrom X.env.cells sc.names []) pm c' ct
abbrev gCx (X : Cx) (Ng : List Str) (x : Str) (sg : Scope) (g : Addr) (cd : Value) (s : Shared) (H : Hp) : Cx := cxOf C8.CX0 X.prog X.w X.K X.mg X.base Ng x sg g cd X.A X.stack s H C8.E0
abbrev gEnv (x : Str) (sg : Scope) (s : Shared) (g : Addr) (cd : Value) : PySem.Env := envOfC x sg s.heap.objs.size g cd
section
variable {X : Cx} {pins : List (Addr × Obj)} {σ : L2.St} {H : Hp} {s : Shared}
theorem actG {Ng : List Str} {x : Str} {sg : Scope} {g f c' : Addr} {cd pm ct : Value} {ps : Arguments} {b : Expr} {sc : Scope} {k i : Nat} {a : Str}
    {pn : List (Addr × Obj)} {xe : Value → Shared → Prop} {W : WX} {Ξ : XK} {tb : TE} {p1 p2 : Pos}
    (hgd : X.A.guards = some []) (I : L2.Inv X pins σ H s) (L : LamS X.env.scope sc) (hf : s.heap.get? f = some (laObj X ps b sc pm c' ct))
    (hn : H f = none) (hs : f ∉ frs X.stack)
    (hb : bindArgs (PySem.W.kla_fn "<lambda>" (lq X) ps b sc (cloFrom X.env.cells sc.names []) pm (.ref c') ct) ⟨[], []⟩ = pure [])
    (tk : Takes ((gCx X Ng x sg g cd s H).tr pn xe) W) (hW : ∀ cls d σ' H', Ξ cls d H' → W cls d σ' H') (hr : Room (k + 1) (X.A.deeper (gEnv x sg s g cd)))
    (hbody : ∀ (A : Around) (outer : List PySem.Env) (s : Shared) (H : Hp), A.guards = some [] →
      Room k (A.deeper (lamEnv X sc s.heap.objs.size f c')) → PE (lamCx X A outer s H Ξ sc f c') b tb)
    (hN : Ng[i]? = some a) (hv : Vis sg a) (hd : (a == ("__debug__" : Str)) = false) (hcd : (a == ("__classdict__" : Str)) = false) :
    PE ((gCx X Ng x sg g cd s H).tr pn xe) (.Call (.Name a p1) [] [] p2)
      (fun τ HZ Q => τ[i]? = some (some (.ref f)) ∧ HZ c' = some (CodeO c' (lq X)) ∧ tb σ HZ Q) := by
  refine ⟨fun pz sz τ HZ Q IZ h => ?_⟩
  obtain ⟨e1, e2, e3⟩ := h
  have rd := (pe_var (X := (gCx X Ng x sg g cd s H).tr pn xe) (pos := p1) (i := i) hN hv hd hcd).run pz sz τ HZ
    (fun v H1 => v = .ref f ∧ H1 = HZ) IZ ⟨.ref f, e1, rfl, rfl⟩
  refine wpAny_Call_Name_kw (thn rd fun u s1 hu => ?_)
  obtain ⟨v, H1, I1, r1, ev, eH⟩ := hu
  subst ev eH
  cases (show u = Value.ref f from r1)
  have of1 := I1.base.keep f _ hf hn hs (fun z => nomatch (show f ∈ ([] : List Addr) from z))
  refine PySem.W.callWith_F0 ⟨_, _, _, _, of1⟩ ?_
  obtain ⟨⟨oc, vs, t, q1, q2, q3⟩, _⟩ := I1.hok c' _ e2
  have hx : Passes (L2.CX X.prog X.w) ((gCx X Ng x sg g cd s H).tr pn xe) Ξ := passes_call tk hW
  have rc : codeAny (model X.prog X.w) (X.A.deeper (gEnv x sg s g cd)) (.call (.ref f) ⟨[], []⟩)
      (CR (L2.CX X.prog X.w) (gEnv x sg s g cd :: X.stack) X.prog X.w H1 s1 Q Ξ) s1 := by
    refine PySem.W.kla_callFunE hr.depth of1 rfl L.co L.gen rfl ⟨c', oc, vs, t, rfl, q1, q2, q3⟩ ?_
    rw [hb]
    refine wpAny_pure (wpAny_newFunctionEnv (fun y hy => (L.own y hy).2) (fun y hy => absurd hy (by simp)) (fun h₁ ns sb => ⟨I1.nolimit.fresh _ sb, ?_⟩) L.kind)
    have kp : ∀ b o, s1.heap.get? b = some o → h₁.get? b = some o := fun b o e =>
      sb.extBut b o (Nat.ne_of_lt (Heap.lt_size e)) (Heap.get?_push_of_some _ e)
    have J := lam_start2 (A := X.A.deeper (gEnv x sg s g cd)) (outer := gEnv x sg s g cd :: X.stack) (E := Ξ) (f := f) (c' := c')
      (tk := s1.toks + ([] : List (Str × Value)).length) I L I1.env0 hr.hd I1.base ns kp
    refine PySem.W.kla_codeExpr (wpAny_mono ((hbody (X.A.deeper (gEnv x sg s g cd)) (gEnv x sg s g cd :: X.stack) s1 H1 hgd (hr.deeper _)).run [] _ _ H1 Q J e3) (fun v s' hq => ?_) fun e s' hq => hq)
    obtain ⟨w', H', J', rv, q⟩ := hq
    exact ⟨w', H', J'.os, J'.bare, J'.base, J'.hok, rv, q⟩
  refine wpAny_call (codeAny_mono rc fun r s' hq => ?_)
  match r, hq with
  | .error e, hq => exact hx pz τ H1 s1 e s' I1 hq
  | .ok (.ret u), hq => exact I1.after hq
  | .ok .next, hq => exact False.elim hq
  | .ok .brk, hq => exact False.elim hq
  | .ok .cont, hq => exact False.elim hq
/-- a table may have grown, a code object may be new; nothing else -/
def ExtT (H H1 : Hp) : Prop := ∀ b, H1 b = H b ∨ (∃ ps qs, H b = some (.tbl ps) ∧ H1 b = some (.tbl qs)) ∨ (H b = none ∧ ∃ f, H1 b = some (.ext f))
theorem lam_mk {T : List (Addr × Str)} {c P : Addr} {ps : Arguments} {b : Expr} {sc : Scope} {lp : Pos} {Ex : Value → Shared → Prop} {Q : Value → Shared → Prop}
    (I : L2.Inv X pins σ H s) (TB : TabB X.base X.mg c P) (hcode : X.env.code = .ref c) (hm : (P, lq X) ∈ T) (hu : ∀ p ∈ T, p.1 = P → p.2 = lq X) (hT : Tabs T H)
    (hdf : defaultsOf ps X.env = ([], [])) (hfr : ∀ y ∈ sc.names, y.2 = .free → ∃ c, X.env.cells.lookup y.1 = some c)
    (h : ∀ (f c' : Addr) (pm ct : Value) (H1 : Hp) (s' : Shared), L2.Inv X pins σ H1 s' → ExtT H H1 → Tabs T H1 → s'.heap.get? f = some (laObj X ps b sc pm c' ct) →
      H1 f = none → f ∉ frs X.stack → H1 c' = some (CodeO c' (lq X)) → Q (.ref f) s') :
    wpAny (model X.prog X.w) X.A (eval (.Lambda ps b sc lp) X.env) Q Ex s := by
  obtain ⟨tb, hP, ht, ha⟩ := hT _ hm
  refine PySem.W.kla_eval hdf ?_
  have bP := TB.bm.keeps I.bk
  have oP : s.heap.get? P = some { cls := .none, data := .fields tb } := I.hok P _ hP
  have out : ∀ f, s.heap.objs.size ≤ f → f ∉ frs X.stack := fun f hf z => by
    rcases List.mem_cons.mp (I.stkSub _ z) with e | e
    · have := I.lt
      rw [← e] at this
      exact absurd (Nat.lt_of_lt_of_le this hf) (Nat.lt_irrefl _)
    · exact I.nofs hf e
  cases hc : codeAmong lp tb.toList with
  | some cv =>
    obtain ⟨c', rfl, hco⟩ := ha lp cv hc
    refine PySem.W.kla_makeFunctionHit (mg := X.mg) (c := c) (P := P) (ps := tb) (closure_ok hfr) I.ok.glob (I.mod.glob.keeps I.bk) hcode (TB.code.keeps I.bk) oP ht hc bP fun ct h' tk hx hsz => ?_
    have I1 := I.kept (h' := h'.push (laObj X ps b sc ((X.mg "__name__").getD .none) c' ct)) (t' := tk) fun b o e => Heap.get?_push_of_some _ (hx b o e)
    exact h h'.objs.size c' ((X.mg "__name__").getD .none) ct H _ I1 (fun _ => .inl rfl) hT (Heap.get?_push_size _ rfl) (I.hok.fresh hsz) (out _ hsz) hco
  | none =>
    refine PySem.W.kla_makeFunction (mg := X.mg) (c := c) (P := P) (ps := tb) (closure_ok hfr) I.ok.glob (I.mod.glob.keeps I.bk) hcode (TB.code.keeps I.bk) oP ht hc TB.gP bP fun c' ct h' tk hx hge hlt hrec htb => ?_
    obtain ⟨c2, oc, vs, t, e2, hoc, hd, hv⟩ := hrec
    cases e2
    have hsz : s.heap.objs.size ≤ h'.objs.size := Nat.le_trans hge (Nat.le_of_lt hlt)
    have nC : H c' = none := I.hok.fresh hge
    have nPc := ne_of_none hP nC
    have I1 := inv_table (q := lq X) (t' := tk) (more := #[rawInt lp.line, rawInt lp.col, .ref c']) (h' := h'.push (laObj X ps b sc ((X.mg "__name__").getD .none) c' ct)) I hP
      (fun b o hb e => Heap.get?_push_of_some _ (hx b o hb e)) (Heap.get?_push_of_some _ htb) hge ⟨oc, vs, t, Heap.get?_push_of_some _ hoc, hd, hv⟩
    have hE : ∀ b, b ≠ P → b ≠ c' → upd (upd H P (.tbl (tb ++ #[rawInt lp.line, rawInt lp.col, .ref c']))) c' (CodeO c' (lq X)) b = H b := fun b h1 h2 => by rw [upd_ne h2, upd_ne h1]
    have atP : upd (upd H P (.tbl (tb ++ #[rawInt lp.line, rawInt lp.col, .ref c']))) c' (CodeO c' (lq X)) P = some (.tbl (tb ++ #[rawInt lp.line, rawInt lp.col, .ref c'])) := by rw [upd_ne nPc, upd_same]
    have eL : (tb ++ #[rawInt lp.line, rawInt lp.col, .ref c']).toList = tb.toList ++ [rawInt lp.line, rawInt lp.col, .ref c'] := by simp
    have cod : ∀ {d : Addr} {q : Str}, H d = some (CodeO d q) → upd (upd H P (.tbl (tb ++ #[rawInt lp.line, rawInt lp.col, .ref c']))) c' (CodeO c' (lq X)) d = some (CodeO d q) := fun {d q} e => by
      rw [hE d (fun z => by rw [z, hP] at e; exact codeO_ne _ (Option.some.inj e).symm) (ne_of_none e nC)]
      exact e
    refine h h'.objs.size c' ((X.mg "__name__").getD .none) ct _ _ I1 (fun b => ?_) (fun p hp => ?_) (Heap.get?_push_size _ rfl) ?_ (out _ hsz) upd_same
    · by_cases h1 : b = c'
      · exact .inr (.inr ⟨h1 ▸ nC, by rw [h1, upd_same]; exact ⟨_, rfl⟩⟩)
      · by_cases h2 : b = P
        · exact .inr (.inl ⟨tb, _, h2 ▸ hP, by rw [h2, atP]⟩)
        · exact .inl (hE b h2 h1)
    · by_cases hb : p.1 = P
      · rw [hu p hp hb, hb]
        refine ⟨_, atP, by rw [eL]; exact PySem.TriplesOk_snoc _ _ _ _ ht, fun p' cv hcv => ?_⟩
        rw [eL] at hcv
        rcases among_app _ ht hcv with z | z
        · obtain ⟨c0, e1, e2⟩ := ha p' cv z
          exact ⟨c0, e1, cod e2⟩
        · exact ⟨c', z, upd_same⟩
      · obtain ⟨ps', a1, a2, a3⟩ := hT p hp
        refine ⟨ps', by rw [hE _ hb (ne_of_none a1 nC)]; exact a1, a2, fun p' cv hcv => ?_⟩
        obtain ⟨c0, e1, e2⟩ := a3 p' cv hcv
        exact ⟨c0, e1, cod e2⟩
    · rw [hE _ (Nat.ne_of_gt (Nat.lt_of_lt_of_le (Heap.lt_size oP) hsz)) (Nat.ne_of_gt hlt)]
      exact I.hok.fresh hsz
end
def tLamG (T : List (Addr × Str)) (TT : (XK → Hp → VK → Prop) → Hp → VK → Prop) (t : XK → TE) : TE := fun σ H Q => Tabs T H ∧ ∀ H1, ExtT H H1 → Tabs T H1 → TT (fun Ξ H' Q' => t Ξ σ H' Q') H1 Q
section
variable {X : Cx}
/-- where a lambda may be made -/
def LamAt (X : Cx) : Prop := ∃ c P, X.env.code = .ref c ∧ TabB X.base X.mg c P ∧ (P, lq X) ∈ tabsK X.K ∧ ∀ p ∈ tabsK X.K, p.1 = P → p.2 = lq X
theorem lamG {TT : (XK → Hp → VK → Prop) → Hp → VK → Prop} {x a : Str} {g : Addr} {k : Nat} {pg : Arguments} {bg : List Stmt} {sg : Scope} {fd : FuncData} {Ng : List Str}
    {ps : Arguments} {b : Expr} {sc : Scope} {t : XK → TE} {p lp pos : Pos} (hgd : X.A.guards = some []) (hg : Gl X x) (hm : X.mg x = some (.ref g))
    (F : FunD X.K x x pg bg sg [] [] g fd) (hb : L2.Binds X.K fd [a] []) (Sg : FnScope Ng [a] sg) (hN : Ng[0]? = some a) (hv : Vis sg a)
    (hG : ∀ cd, GivesTo X Ng x sg g cd bg a (lq X) TT) (LA : LamAt X) (hr : Room (k + 2) X.A) (L : LamS X.env.scope sc) (hdf : defaultsOf ps X.env = ([], []))
    (hbind : ∀ (q : Str) (cl : List (Str × Addr)) (pm cv ct : Value), bindArgs (PySem.W.kla_fn "<lambda>" q ps b sc cl pm cv ct) ⟨[], []⟩ = pure [])
    (hbody : ∀ (A : Around) (outer : List PySem.Env) (s : Shared) (H : Hp) (Ξ : XK) (f c' : Addr), A.guards = some [] →
      Room k (A.deeper (lamEnv X sc s.heap.objs.size f c')) → PE (lamCx X A outer s H Ξ sc f c') b (t Ξ))
    (hdb : (x == ("__debug__" : Str)) = false) (hd : (a == ("__debug__" : Str)) = false) (hcd : (a == ("__classdict__" : Str)) = false) :
    PE X (.Call (.Name x p) [.Lambda ps b sc lp] [] pos) (tLamG (tabsK X.K) TT t) := by
  obtain ⟨oc, od, dV, kV, doc, pm, an, cdv, ct, osl, rfl, lk, hcg, _⟩ := F.ex
  obtain ⟨c, P, hcode, TB, hmT, hu⟩ := LA
  refine ⟨fun pins s σ H Q I h => ?_⟩
  obtain ⟨hT, h⟩ := h
  refine wpAny_Call_Name_kw (ld_glob I hg hm ?_ hdb)
  refine PySem.W.callWith_K (h₀ := X.base) I.ok.mod.kin F.kp ?_ (by rfl) (by rfl)
  refine Calls.spliced_cons (lam_mk I TB hcode hmT hu hT hdf (L.has I.ok) fun f c' pm' ct' H1 s' I1 eN T1 hf hn hs hco => ?_)
  refine Calls.spliced_nil ⟨I1.kIn, ?_⟩
  have rc : codeAny (model X.prog X.w) X.A (.call (.ref g) ⟨[.ref f], []⟩) (CR C8.CX0 X.stack X.prog X.w H1 s' Q C8.E0) s' := by
    refine run_ofS (N := Ng) (ps := [a]) (us := [.ref f]) (vs := [.ref f]) lk hcg Sg hr I1.env0 (hb s' [.ref f] I1.kIn rfl) (.cons rfl .nil) rfl fun hr' => ?_
    obtain ⟨t', ht', hq'⟩ := hG cdv f c' s' H1 Q (fun Ξ H' Q' => t Ξ σ H' Q')
      (fun W pn xe Ξ p1 p2 tk hW => actG (i := 0) hgd I1 L hf hn hs (hbind _ _ _ _ _) tk hW hr' (fun A outer s H hg2 hr2 => hbody A outer s H Ξ f c' hg2 hr2) hN hv hd hcd) hco (h H1 eN T1)
    exact ⟨t', ht'.nox, hq'⟩
  refine wpAny_call (codeAny_mono rc fun r s2 hq => ?_)
  match r, hq with
  | .error e, hq => exact (show False from hq).elim
  | .ok (.ret u), hq => exact I1.after hq
  | .ok .next, hq => exact False.elim hq
  | .ok .brk, hq => exact False.elim hq
  | .ok .cont, hq => exact False.elim hq
/-! ### try: a() / except c: return t / .. / return fin -/
def firstM (K : Frag) (Q : VK) (H : Hp) (cls : Value) : List (Value × Str) → Prop
  | [] => False
  | (c, t) :: r => ∃ b, PySem.W.exmOne K cls c = some b ∧ (b = true → Q (.str t) H) ∧ (b = false → firstM K Q H cls r)
def TTm (K : Frag) (hs : List (Value × Str)) (fin : Str) : (XK → Hp → VK → Prop) → Hp → VK → Prop := fun tl H Q => tl (fun cls _ H' => firstM K Q H' cls hs) H fun _ H' => Q (.str fin) H'
/-- the clauses by their names -/
def hdsB (sg : Scope) : List (Str × Str) → List ExceptHandler → Bool
  | [], [] => true
  | (x, t) :: r, .ExceptHandler (some (.Name y _)) none [.Return (some (.Constant (.str z) _ _)) _] _ :: hs => decide (x = y) && (decide (t = z) && (decide (sg.names.lookup x = some .globalImplicit) && (!(x == ("__debug__" : Str)) && hdsB sg r hs)))
  | _, _ => false
def bodyB (sg : Scope) (a : Str) (hs : List (Str × Str)) (fin : Str) : List Stmt → Bool
  | [.Try [.Expr (.Call (.Name y _) [] [] _) _] (h :: hds) [] [] _, .Return (some (.Constant (.str z) _ _)) _] => decide (a = y) && (decide (fin = z) && hdsB sg hs (h :: hds))
  | _ => false
theorem first_many {K : Frag} {D : Ends} {H : Hp} {cls : Value} {d : Option Addr} {σ : L2.St} : ∀ {l : List (Value × Str)}, firstM K D.rt H cls l → wMany K (fun _ _ _ _ => False) D (l.map fun p => (p.1, fun _ _ _ D' σ' H' => D'.rt (.str p.2) H')) cls d σ H
  | [], h => h
  | (c, t) :: r, ⟨b, e, h1, h2⟩ => ⟨b, e, fun hb a _ => h1 hb, fun hb => first_many (h2 hb)⟩
theorem gives_many {Ng : List Str} {x a q fin : Str} {sg : Scope} {g : Addr} {bg : List Stmt} {cd : Value} {hs : List (Str × Str)} (hm : ∀ y ∈ hs, X.mg y.1 = some (.ref (He.ga X.K y.1)))
    (h0 : ∀ f : Addr, (L2.start Ng [V.ref f])[0]? = some (some (V.ref f))) (hB : bodyB sg a hs fin bg = true) :
    GivesTo X Ng x sg g cd bg a q (TTm X.K (hs.map fun y => (.ref (He.ga X.K y.1), y.2)) fin) := by
  unfold bodyB at hB
  split at hB
  · rename_i y p1 p2 p3 hd hds p8 z j p5 p6
    simp only [Bool.and_eq_true] at hB
    obtain ⟨e1, e2, e3⟩ := hB
    cases of_decide_eq_true e1
    cases of_decide_eq_true e2
    intro f c' s H Q tl act hc h
    have hk : ∀ (l : List (Str × Str)) (ds : List ExceptHandler), (∀ y ∈ l, X.mg y.1 = some (.ref (He.ga X.K y.1))) → hdsB sg l ds = true →
        HdsOk (gCx X Ng x sg g cd s H).nox ds ((l.map fun y => (Value.ref (He.ga X.K y.1), y.2)).map fun p => (p.1, fun _ _ _ D' σ' H' => D'.rt (.str p.2) H')) := by
      intro l
      induction l with
      | nil =>
        intro ds _ hB
        cases ds with
        | nil => exact .nil
        | cons _ _ => simp [hdsB] at hB
      | cons y l ih =>
        intro ds hm hB
        obtain ⟨c, t⟩ := y
        unfold hdsB at hB
        split at hB
        · cases ‹_ :: _ = []›
        · rename_i x' t' r y' _ z' _ _ _ _ hs' e1
          cases e1
          simp only [Bool.and_eq_true, Bool.not_eq_true'] at hB
          obtain ⟨b1, b2, b3, b4, b5⟩ := hB
          cases of_decide_eq_true b1
          cases of_decide_eq_true b2
          have hgl : sg.names.lookup c = some .globalImplicit := of_decide_eq_true b3
          exact .cons ⟨hgl, b4, .inl (hm _ List.mem_cons_self)⟩ (fun _ _ _ _ _ _ _ => pss_one (ps_ret pe_str)) (ih _ (fun y hy => hm y (List.mem_cons_of_mem _ hy)) b5)
        · cases hB
    refine ⟨_, pss_cons (ps_try_many (X := (gCx X Ng x sg g cd s H).nox)
      (tb := fun W D σ H => ∃ Ech : XK, (∀ cls d σ' H', Ech cls d H' → W cls d σ' H') ∧ σ[0]? = some (some (.ref f)) ∧ H c' = some (CodeO c' q) ∧ tl Ech H fun _ H' => D.nx σ H')
      rfl rfl LamX.takes0 (fun W pn xe tk _ => ?_) (hk hs _ hm e3)) (pss_one (ps_ret pe_str)), ?_⟩
    · refine ⟨fun pins s' σ H' D I h' => ?_⟩
      obtain ⟨Ech, hW, h1, h2, h3⟩ := h'
      exact (pss_one (ps_expr (pos := p3) (act W pn xe Ech p1 p2 tk hW))).run pins s' σ H' D I ⟨h1, h2, h3⟩
    · exact ⟨_, fun cls d σ' H' hq => first_many (D := { nx := _, rt := Q }) hq, h0 f, hc, h⟩
  · cases hB
/-! ### over the store -/
theorem Stp.tab {K : Frag} {φ : Nat → Addr} {F : Hp} {m : Store} {H H1 : Hp} (R : RelS K φ F m H) (e : ExtT H H1) (t : TabsH K H1) : Stp K φ F m H φ F m H1 := by
  have keep : ∀ a o, H a = some o → Plain o → H1 a = some o := fun a o h p => by
    rcases e a with q | ⟨ps, qs, q, _⟩ | ⟨q, _⟩
    · rw [q]; exact h
    · rw [h] at q; exact absurd (Option.some.inj q) (p.1 ps)
    · rw [h] at q; cases q
  refine ⟨Nat.le_refl _, fun _ _ => rfl, Ext.refl _, fun a o h _ => ?_, fun _ h => h, fun n h1 h2 => absurd h2 (by omega), (fun a o h1 h2 => by rw [h1] at h2; cases h2),
    ⟨fun a o h => keep a o (R.sub a o h) (R.pln a o h), R.pln, t, fun n o h => ?_, R.inj⟩⟩
  · rcases e a with q | ⟨ps, qs, q, q'⟩ | ⟨q, _⟩
    · exact .inl (by rw [q]; exact h)
    · rw [h] at q; cases q; exact .inr ⟨ps, qs, rfl, q'⟩
    · rw [h] at q; cases q
  · obtain ⟨ho, h1, h2⟩ := R.cell n o h
    by_cases hl : o.live = true
    · exact ⟨ho, keep _ _ h1 (h2 hl).2.plain, fun _ => h2 hl⟩
    · rcases e (φ n) with q | ⟨ps, qs, _, q⟩ | ⟨q, _⟩
      · exact ⟨ho, by rw [q]; exact h1, fun z => absurd z hl⟩
      · exact ⟨_, q, fun z => absurd z hl⟩
      · rw [h1] at q; cases q
/-- the clauses' classes, told of each error that may come -/
def ExmOk (K : Frag) (hds : List (Str × List Str × Str)) : Prop := ∀ h ∈ hds, ∀ h' ∈ hds, ∀ c ∈ h'.2.1, PySem.W.exmOne K (.ref (He.ga K c)) (.ref (He.ga K h.1)) = some (h.2.1.contains c)
theorem told_first {K : Frag} {Q : VK} {H : Hp} {x : Exc} {m : Store} {all : List (Str × List Str × Str)} (ok : ExmOk K all) : ∀ {hds : List (Str × List Str × Str)}, (∀ h ∈ hds, h ∈ all) → ∀ {t : Str}, toldX hds x m = .ok (.d (.str t)) m → Q (.str t) H →
    firstM K Q H (.ref (He.ga K x.cls)) (hds.map fun h => (.ref (He.ga K h.1), h.2.2))
  | [], _, _, e, _ => by simp [toldX] at e
  | h :: hds, hs, t, e, q => by
    by_cases hc : h.2.1.contains x.cls = true
    · have et : toldX (h :: hds) x m = .ok (.d (.str h.2.2)) m := by simp only [toldX]; rw [if_pos hc]
      rw [et] at e; cases e
      exact ⟨true, by rw [ok h (hs _ List.mem_cons_self) h (hs _ List.mem_cons_self) _ (by simpa using hc), hc], fun _ => q, fun z => by cases z⟩
    · have et : toldX (h :: hds) x m = toldX hds x m := by simp only [toldX]; rw [if_neg hc]
      rw [et] at e
      have hin : ∀ (l : List (Str × List Str × Str)), toldX l x m = .ok (.d (.str t)) m → ∃ h' ∈ l, x.cls ∈ h'.2.1 := by
        intro l
        induction l with
        | nil => intro z; simp [toldX] at z
        | cons y l ih =>
          intro z
          by_cases hy : y.2.1.contains x.cls = true
          · exact ⟨y, List.mem_cons_self, by simpa using hy⟩
          · simp only [toldX] at z
            rw [if_neg hy] at z
            obtain ⟨h', m1, m2⟩ := ih z
            exact ⟨h', List.mem_cons_of_mem _ m1, m2⟩
      obtain ⟨h', m1, m2⟩ := hin hds e
      refine ⟨false, ?_, (fun z => by cases z), fun _ => told_first ok (fun y hy => hs y (List.mem_cons_of_mem _ hy)) e q⟩
      rw [ok h (hs _ List.mem_cons_self) h' (hs _ (List.mem_cons_of_mem _ m1)) _ m2]
      simpa using hc
theorem toldX_ok {hds : List (Str × List Str × Str)} {x : Exc} {m : Store} : (∃ t, toldX hds x m = .ok (.d (.str t)) m) ∨ toldX hds x m = .bad := by
  induction hds with
  | nil => exact .inr rfl
  | cons h hds ih =>
    by_cases hc : h.2.1.contains x.cls = true
    · exact .inl ⟨h.2.2, by simp only [toldX]; rw [if_pos hc]⟩
    · simp only [toldX]; rw [if_neg hc]; exact ih
theorem rd_told {K : Frag} {W : Wsh} {hds : List (Str × List Str × Str)} {fin : Str} {oe : Ex} {σ : L2.St} {H : Hp} {Q : VK} (ok : ExmOk K hds) (h : rdE K W (evTold hds fin oe) σ H Q) :
    tLamG (tabsK K) (TTm K (hds.map fun h => (.ref (He.ga K h.1), h.2.2)) fin) (fun Ξ => rdE K (wsh K Ξ) oe) σ H Q := by
  obtain ⟨φ, F, ρ, m, R, E, L, h⟩ := h
  refine ⟨R.tabs, fun H1 e t => ?_⟩
  have s0 := Stp.tab R e t
  refine ⟨φ, F, ρ, m, s0.rel, E.step s0, L, ?_⟩
  have h := Post.step R h s0
  unfold evTold at h
  cases ho : oe ρ m with
  | bad => rw [ho] at h; exact h
  | ok v m' =>
    rw [ho] at h
    exact fun φ' F' H' u s r => h φ' F' H' _ s (Rep.str fin)
  | exc x m' =>
    rw [ho] at h
    intro φ' F' H' s cls d rz
    obtain ⟨rfl, _⟩ := rz
    have h : Post K W (RVl K) φ F m H1 (toldX hds x m') Q := h
    rcases toldX_ok (hds := hds) (x := x) (m := m') with ⟨t, et⟩ | et
    · rw [et] at h
      exact told_first ok (fun _ z => z) et (h φ' F' H' _ s (Rep.str t))
    · rw [et] at h; exact h.elim
end
end AW
set_option maxRecDepth 100000
set_option maxHeartbeats 4000000
namespace AW
open PySem L2 PySem.Spec PyProof.Rows
/-! enumerate(tuple) -/
theorem enum_new1 {v : Value} {o : Obj} {Hh : Heap → Prop} (B : Begins v o Hh) :
    Meets (Builtin.«enumerate.__new__» ⟨[.type "enumerate", v], []⟩) (fun _ R s => Hh s.heap ∧
      R (.ok (.ret (.ref (s.heap.push o).objs.size))) { s with heap := (s.heap.push o).push { cls := .type "enumerate", data := .fields #[.none, .bool false, .ref s.heap.objs.size, rawInt 0, .none, .none] } }) :=
  .of_wp fun prog w A R s h => by
    obtain ⟨hp, g, d, tk, os⟩ := s
    obtain ⟨h1, h⟩ := h
    have hsub := sub_enumerate
    have q1 : ∀ {A' : Around} {E : Value → Shared → Prop} {Q : Value → Shared → Prop}, Q (.ref hp.objs.size) ⟨hp.push o, g, d, tk, os⟩ → wpAny (model prog w) A' (pyIter v) Q E ⟨hp, g, d, tk, os⟩ :=
      fun q => B.iter prog w _ _ ⟨hp, g, d, tk, os⟩ _ h1 q
    wp_walk using q1
    refine wpAny_stack_any fun st => wpAny_pure ?_
    split
    · rename_i c _ _ _ _ _
      cases (c == Value.type "enumerate") <;> (wp_walk using q1; exact ⟨_, rfl, h⟩)
    · wp_walk using q1
      exact ⟨_, rfl, h⟩
section
variable {prog : Program} {w : World} {A : Around} {E : Value → Shared → Prop} {s : Shared}
theorem enum_begins1 {v : Value} {o : Obj} {Hh : Heap → Prop} {Q : Value → Shared → Prop} (B : Begins v o Hh) (h1 : Hh s.heap)
    (h : ∀ h', IsEnum h' (s.heap.objs.size + 1) s.heap.objs.size 0 .none → h'.get? s.heap.objs.size = some o → (∀ b o, s.heap.get? b = some o → h'.get? b = some o) → Q (.ref (s.heap.objs.size + 1)) { s with heap := h' }) :
    wpAny (model prog w) A (call (.type "enumerate") [v]) Q E s := by
  refine callType_new PySem.F.called_enumerate (by decide) (PySem.F.typeCall_enumerate_1 _) (PySem.F.newCall_enumerate_1 _) (fun obj => PySem.F.args_object_init_2 obj _) PySem.F.entry_enumerate_new (enum_new1 B) ⟨h1, ?_⟩
  have hz : (s.heap.push o).objs.size = s.heap.objs.size + 1 := Heap.size_push ..
  show _ ∧ _
  rw [hz]
  have he : IsEnum ((s.heap.push o).push { cls := .type "enumerate", data := .fields #[.none, .bool false, .ref s.heap.objs.size, rawInt 0, .none, .none] }) (s.heap.objs.size + 1) s.heap.objs.size 0 .none := by
    have := Heap.get?_push_size (s.heap.push o) (o := { cls := .type "enumerate", data := .fields #[.none, .bool false, .ref s.heap.objs.size, rawInt 0, .none, .none] }) rfl
    rw [hz] at this; exact this
  exact ⟨⟨_, he, rfl⟩, h _ he (Heap.get?_push_of_some _ (Heap.get?_push_size _ B.free)) fun b o x => Heap.get?_push_of_some _ (Heap.get?_push_of_some _ x)⟩
end
/-- the tuple at a, each item in a new pair -/
def IteT (K : Frag) (a : Addr) : L2.It :=
  ⟨fun i H => ∃ (xs : List V) (x : V), SqT K H a xs ∧ xs[i]? = some x, fun i H v H' => ∃ T x, v = .ref T ∧ H T = none ∧ H' = upd H T (.tup [.int (i : Nat), x]) ∧ ∀ xs, SqT K H a xs → xs[i]? = some x, fun i H => ∃ xs : List V, SqT K H a xs ∧ xs.length ≤ i⟩
theorem turn_enumT {P : Program} {w : World} {K : Frag} {elts : List Expr} {kk : Nat} {tpos : Pos} (a e it : Addr) (its : Array Value) (ha : a ≠ it) (hae : a ≠ e) :
    Turn P w K (.Tuple elts kk tpos) (IteT K a) [e, it] e (fun i h => (∃ old, IsEnum h e it ((i : Nat) : Int) old) ∧ h.IsTupleIter it a i ∧ e ≠ it) where
  mem := by simp
  obj := fun i h st b hb => by
    obtain ⟨⟨old, he⟩, ⟨o, ho, hc, hd⟩, _⟩ := st
    have e' : b = e ∨ b = it := by simpa using hb
    rcases e' with z | z
    · rw [z]; exact ⟨_, he, fun v q => nomatch q⟩
    · rw [z]; exact ⟨o, ho, fun v q => by rw [hd] at q; cases q⟩
  keep := fun i h h' st k => let ⟨⟨old, he⟩, hi, hne⟩ := st; ⟨⟨old, k e (by simp) _ he⟩, hi.at fun o q => k it (by simp) o q, hne⟩
  item := by
    intro X hP hw hK hc i pins s σ H E I hf st hg
    subst hP hw hK
    obtain ⟨⟨old, he⟩, hit, hne⟩ := st
    obtain ⟨xs, x, hq, hx⟩ := hg
    obtain ⟨its, rv, p, hz⟩ := I.tuple hq
    obtain ⟨u, hu, ru⟩ := rv.get hx
    have hel : e < s.heap.objs.size := Heap.lt_size he
    have hil : it < s.heap.objs.size := by obtain ⟨_, q, _⟩ := hit; exact Heap.lt_size q
    have D := Draws.tuple (prog := X.prog) (w := X.w) (A := X.A.in1) (I.ok.hd hc) it a ha its.toArray
    have hlt : i < its.toArray.size := by simpa using (List.getElem?_eq_some_iff.mp hu).1
    refine wpAny_pyNext_enum_itemC D he ⟨hit, p⟩ hlt hne (by simp [hne, Ne.symm hae]) fun x' h' tk hP ho hs' hT hsz hk => ?_
    have ex : x' = u := by
      have : its[i]? = some x' := by simpa using hP
      rw [hu] at this; exact (Option.some.inj this).symm
    subst ex
    refine ⟨_, rfl, wpAny_letOwnedTupleGo_enum (s := { s with heap := h', toks := tk + 1 }) ho fun h'' he' sb => ?_⟩
    have hT2 : h''.get? s.heap.objs.size = some { cls := .type "tuple", data := .seq #[.int i tk, x'] } := (sb.2 _ (Nat.ne_of_gt hel)).trans hT
    have new : ObjOk X.prog X.w (upd H s.heap.objs.size (.tup [.int (i : Nat), x])) h'' s.heap.objs.size (.tup [.int (i : Nat), x]) :=
      ⟨by show 2 ≤ sizeLine; decide, [.int i tk, x'], .cons ⟨_, rfl⟩ (.cons ru .nil), ⟨_, hT2, rfl, _, rfl⟩⟩
    have I1 : L2.Inv X pins σ (upd H s.heap.objs.size (.tup [.int (i : Nat), x])) { s with heap := h'', toks := tk + 1 } :=
      I.turnedNew (ch := [e, it]) (fun b ob hb q => (sb.2 b (fun z => hb (by simp [z]))).trans (hk b ob (fun z => hb (by simp [z])) (fun z => hb (by simp [z])) q)) hf (Nat.le_refl _) new
    refine ⟨.ref s.heap.objs.size, _, I1, rfl, ⟨_, x, rfl, I.hok.fresh (Nat.le_refl _), rfl, fun ys hy => by rw [I.tuple_inj hy hq]; exact hx⟩, ⟨⟨x', ?_⟩, hs'.1.at fun o q => (sb.2 it (Ne.symm hne)).trans q, hne⟩, fun b hb => ?_⟩
    · rw [show ((i + 1 : Nat) : Int) = (i : Int) + 1 by omega]; exact he'
    · have hb' : b < s.heap.objs.size := by
        have e' : b = e ∨ b = it := by simpa using hb
        rcases e' with z | z
        · rw [z]; exact hel
        · rw [z]; exact hil
      rw [upd_ne (Nat.ne_of_lt hb')]
      exact (hf b hb).1
  done := by
    intro X hP hw hK hc i pins s σ H E I hf st hg
    subst hP hw hK
    obtain ⟨⟨old, he⟩, hit, hne⟩ := st
    obtain ⟨xs, hq, hx⟩ := hg
    obtain ⟨its, rv, p, hz⟩ := I.tuple hq
    obtain ⟨f0, f1, f2, f3, f4, f5⟩ := hf it (by simp)
    have hl := rv.length
    have D : Draws X.prog X.w X.A.in1 it [it, a] i (fun _ _ => False) (fun j h => j = i ∧ h.IsTupleIter it a j ∧ h.IsTuple a its.toArray) :=
      ⟨fun j h st => let ⟨o, ho, _⟩ := st.2.1; ⟨o, ho⟩, fun j h h' st hk => ⟨st.1, st.2.1.at fun o e => hk it (by simp) o e, st.2.2.at fun o e => hk a (by simp) o e⟩,
        fun j s Q E hj st _ => absurd st.1 (Nat.ne_of_lt hj), fun s Q E st hE => wpAny_nextOf_tuple_end (I.ok.hd hc) st.2.1 st.2.2 (by simp; omega) hE⟩
    exact wpAny_pyNext_enum_endD D he ⟨rfl, hit, p⟩ fun h' eb => ⟨rfl, I.turned (t' := s.toks) (fun b o hb q => eb b o hb q) f0 f1 f3 f4 f5⟩
  self := fun A i s Q E st h => let ⟨⟨_, he⟩, _⟩ := st; wpAny_pyIter_enum he h
def iEnumT (K : Frag) (ta : TA) : TI := fun σ H R => ta σ H fun vs H1 => ∃ a xs, vs = [.ref a] ∧ SqT K H1 a xs ∧ R (IteT K a) H1
theorem pi_enumT {X : Cx} {e : Expr} {ta : TA} {p pos tpos : Pos} {elts : List Expr} {kk : Nat} (hg : Gl X "enumerate") (hm : X.mg "enumerate" = none) (ha : PA X [e] ta) (hs : starEach [e] X.env = [(false, eval e X.env)]) :
    PI X (.Tuple elts kk tpos) (.Call (.Name "enumerate" p) [e] [] pos) (iEnumT X.K ta) := by
  refine ⟨fun pins s σ H R I h => ?_⟩
  refine Call_ (ld_blt I hg hm boot_enumerate (PyProof.Rows.callWith_type1 (thn (ha.run pos pins s σ H _ I h) fun us s1 hh => ?_) hs rfl))
  obtain ⟨vs, H1, I1, r1, a, xs, rfl, hq, q⟩ := hh
  cases r1 with
  | cons r rr =>
    cases rr
    cases r
    obtain ⟨its, rv, p', hz⟩ := I1.tuple hq
    have hal : a < s1.heap.objs.size := by obtain ⟨o, ho, _⟩ := id p'; exact Heap.lt_size ho
    refine enum_begins1 (begins_tuple a its.toArray) p' fun h' he hit hk => wpAny_pyIter_enum he ?_
    have I2 : L2.Inv X pins σ H1 { s1 with heap := h' } := I1.kept (t' := s1.toks) hk
    refine ⟨s1.heap.objs.size + 1, [s1.heap.objs.size + 1, s1.heap.objs.size], _, _, H1, rfl, I2, turn_enumT a (s1.heap.objs.size + 1) s1.heap.objs.size its.toArray (Nat.ne_of_lt hal) (by have : a < s1.heap.objs.size + 1 := Nat.lt_succ_of_lt hal; exact Nat.ne_of_lt this), ⟨⟨.none, he⟩, ⟨_, hit, rfl, rfl⟩, Nat.succ_ne_self _⟩, fun b hb => ?_, q⟩
    have hle : s1.heap.objs.size ≤ b := by
      have e' : b = s1.heap.objs.size + 1 ∨ b = s1.heap.objs.size := by simpa using hb
      rcases e' with z | z
      · rw [z]; exact Nat.le_add_right _ _
      · rw [z]; exact Nat.le_refl _
    exact I1.fpOk hle (I1.hok.fresh hle)
section
variable {K : Frag} {F0 : Hp}
theorem jok_enumT {a : Addr} {vs : List V} {ds : List D} (h : SqT K F0 a vs) (r : Reps K F0 vs ds) : JOk K (IteT K a) F0 (enumD 0 ds) := by
  intro φ F m H R E i
  have hq : SqT K H a vs := R.sub.t (E.t h)
  rw [enumD_len]
  refine ⟨fun hi => ⟨vs, vs[i]'(by rw [r.length]; exact hi), hq, by simp [r.length, hi]⟩, fun hi => ⟨vs, hq, by rw [r.length]; exact hi⟩, fun x H' hi hy => ?_⟩
  obtain ⟨T, y, rfl, nT, rfl, hy⟩ := hy
  obtain ⟨v, e1, r1⟩ := r.get (List.getElem?_eq_getElem hi)
  have : y = v := Option.some.inj ((hy vs hq).symm.trans e1)
  subst this
  refine ⟨_, upd F T (.tup [.int (i : Nat), y]), by rw [enumD_get, List.getElem?_eq_getElem hi]; rfl, Stp.newF R nT, .tup (SqT.of upd_same) (.cons ?_ (.cons ((r1.mono E).mono (Ext.new (R.fresh nT))) .nil))⟩
  rw [Nat.zero_add]; exact .int _
end
section
variable {X : Cx} {W : Wsh} {tg a b : Expr} {oa ob : Ex} {pos p p2 : Pos}
theorem sni_enumT {elts : List Expr} {kk : Nat} {tpos : Pos} (hg : Gl X "enumerate") (hm : X.mg "enumerate" = none) (na : nos a = true) (ha : PE X a (rdE X.K W oa)) : PI X (.Tuple elts kk tpos) (.Call (.Name "enumerate" p) [a] [] pos) (rdI X.K W (itEnumT oa)) := by
  refine PImono (pi_enumT hg hm (pa_cons ha pa_nil (star_nos na)) (star_nos na)) fun σ H R h => ?_
  refine rdI_of h fun φ F ρ m H1 v u R0 E L r h => ?_
  cases v with
  | cell n => exact h.elim
  | d d =>
    cases d <;> try exact h.elim
    cases (show Rep X.K F u (.tup _) from r) with
    | tup h1 r1 => exact ⟨_, _, rfl, R0.sub.t h1, h φ F H1 _ (Stp.refl R0) (jok_enumT h1 r1)⟩
end
end AW
set_option maxRecDepth 100000
set_option maxHeartbeats 4000000
namespace AW
open PySem L2
section
variable {X : Cx} {W : Wsh} {a b c e : Expr} {oa ob oc oe : Ex} {pos px : Pos}
theorem snl_cat (ha : PE X a (rdE X.K W oa)) (hb : PE X b (rdE X.K W ob)) : PE X (.BinOp a .Add b pos) (rdL X.K W (evCat oa ob)) := PEmono (pe_op op_catR ha hb) fun σ H Q h => by
  obtain ⟨φ, F, ρ, m, R, E, L, h⟩ := h
  refine ⟨φ, F, ρ, m, R, E, L, ?_⟩
  unfold evCat at h
  cases ho : oa ρ m with
  | bad => rw [ho] at h; exact h
  | exc x m' => rw [ho] at h; exact h
  | ok x m1 =>
    rw [ho] at h
    simp only [Out.bind_ok] at h
    intro φ1 F1 H1 u s1 r1
    refine ⟨φ1, F1, ρ, m1, s1.rel, E.step s1, L, ?_⟩
    cases ho2 : ob ρ m1 with
    | bad => rw [ho2] at h; exact h
    | exc y m' => rw [ho2] at h; exact fun φ' F' H' s' => h φ' F' H' (s1.trans s' R)
    | ok y m2 =>
      rw [ho2] at h
      simp only [Out.bind_ok] at h
      intro φ2 F2 H2 w s2 r2
      cases e1 : peek m2 x with
      | none => rw [e1] at h; exact h.elim
      | some dx =>
        cases e2 : peek m2 y with
        | none => rw [e1] at h; simp only [lift_some, Out.bind_ok, e2] at h; exact h.elim
        | some dy =>
          rw [e1] at h
          simp only [lift_some, Out.bind_ok, e2] at h
          have px := pv_of s2.rel (RepV.step s2 r1) e1
          have py := pv_of s2.rel r2 e2
          cases ec : catD dx dy with
          | none => rw [ec] at h; exact h.elim
          | some zs =>
          rw [ec] at h
          unfold catD at ec
          split at ec
          · split at ec
            · rename_i hs
              cases ec
              obtain ⟨p, vs, rfl, h1, q1⟩ := px.lst s2.rel.sub
              obtain ⟨q, ws, rfl, h2, q2⟩ := py.lst s2.rel.sub
              refine ⟨p, q, vs, ws, rfl, rfl, h1, h2, by rw [q1.length, q2.length]; exact of_decide_eq_true hs, fun l hl => ?_⟩
              exact h φ2 F2 H2 _ l (s1.trans s2 R) (q1.append q2) hl
            · cases ec
          · cases ec
theorem snl_rep {n : Nat} {j : Nat} {ol : Ev → Store → Out (List D)} (ha : PE X a (rdL X.K W ol)) : PE X (.BinOp a .Mult (.Constant (.int (n : Int)) j px) pos) (rdL X.K W (evRep n ol)) := PEmono (pe_op op_rep ha pe_int) fun σ H Q h => by
  obtain ⟨φ, F, ρ, m, R, E, L, h⟩ := h
  refine ⟨φ, F, ρ, m, R, E, L, ?_⟩
  unfold evRep at h
  cases ho : ol ρ m with
  | bad => rw [ho] at h; exact h
  | exc x m' => rw [ho] at h; exact h
  | ok ds m1 =>
    rw [ho] at h
    simp only [Out.bind_ok] at h
    intro φ1 F1 H1 vs p s1 r1 hp
    by_cases hs : (decide (n ≤ 1000) && decide (ds.length ≤ 1000)) = true
    · rw [if_pos hs] at h
      simp only [Bool.and_eq_true, decide_eq_true_eq] at hs
      have s2 := Stp.newN (o := .lst vs) s1.rel hp
      refine ⟨p, n, vs, rfl, rfl, upd_same, by omega, by omega, ?_, fun q hq => ?_⟩
      · rw [r1.length]
        have : ds.length * n ≤ 1000 * 1000 := Nat.mul_le_mul hs.2 hs.1
        show ds.length * (n : Int).toNat ≤ sizeLine
        rw [Int.toNat_natCast, sizeLine_eq]; omega
      · have := h φ1 F1 _ _ q (s1.trans s2 R) ((r1.mono s2.exF).rep n) hq
        rw [Int.toNat_natCast]; exact this
    · rw [if_neg hs] at h; exact h.elim
end
end AW
set_option maxRecDepth 100000
namespace AW
open PySem L2
/-! ### the checker: the small language's text against the row's -/
structure DefI where
  name : Str
  np : Nat
/-- a def that calls what it got and tells the error that it met -/
structure Told where
  name : Str
  a : Str
  N : List Str
  hs : List (Str × Str)
  fin : Str
structure Tab where
  free : List Str
  globs : List (Str × Nat)
  gvals : List D
  defs : List DefI
  excs : List Str := []
  exm : List (Str × Str × Bool) := []
  tolds : List Told := []
/-- a scope, and whether a lambda may be made there -/
structure Sc where
  s : Scope
  lf : Bool
instance : Coe Sc Scope := ⟨Sc.s⟩
def noArgs : Arguments → Bool
  | ⟨[], [], none, [], [], none, []⟩ => true
  | _ => false
theorem noArgs_ok {ps : Arguments} (h : noArgs ps = true) : ps = ⟨[], [], none, [], [], none, []⟩ := by
  unfold noArgs at h
  split at h
  · rfl
  · cases h
def isGl (sc : Scope) (x : Str) : Bool := decide (sc.names.lookup x = some .globalImplicit)
def isVis (sc : Scope) (x : Str) : Bool := decide (sc.names.lookup x = some .local) || (decide (sc.names.lookup x = some .cell) || decide (sc.names.lookup x = some .free))
def isLoc (sc : Scope) (x : Str) : Bool := decide (sc.names.lookup x = some .local) || decide (sc.names.lookup x = some .cell)
def plainN (x : Str) : Bool := !(x == ("__debug__" : Str)) && (!(x == ("__classdict__" : Str)) && !decide (x = ("__name__" : Str)))
def notSlice : Expr → Bool
  | .Slice _ _ _ _ => false
  | _ => true
def notSet : Expr → Bool
  | .Set _ _ _ => false
  | _ => true
def b1Name : B1 → Str
  | .len => "len" | .abs => "abs" | .all => "all" | .any => "any" | .int => "int" | .str => "str" | .repr => "repr" | .tuple => "tuple" | .lenset => "len" | .dict => "dict" | .dlen => "len" | .drepr => "repr"
def b2Name : B2 → Str
  | .max => "max" | .min => "min"
def m1Name : M1 → Str
  | .join => "join" | .split => "split"
def lbName : LB → Str
  | .list => "list" | .sorted => "sorted" | .sset => "sorted"
def okT : E → Bool
  | .ite _ _ _ => false
  | .din _ _ _ => false
  | _ => true
def tgP (N : List Str) (P : Str → Bool) : Tg → Expr → Bool
  | .name i, .Name x _ => decide (N[i]? = some x) && P x
  | .tup is, .Tuple ts _ _ => decide (is.length = ts.length) && (is.zip ts).all fun p => match p.2 with
    | .Name x _ => decide (N[p.1]? = some x) && P x
    | _ => false
  | _, _ => false
def tgOk (N : List Str) (sc : Scope) : Tg → Expr → Bool := tgP N (isLoc sc)
/-- a comprehension's own targets -/
def tgLoc (N : List Str) (sc : Scope) : Tg → Expr → Bool := tgP N fun x => decide (sc.names.lookup x = some .local)
def ownOf (N : List Str) (tg : Tg) : List (Str × Nat) := tg.slots.map fun i => (N.getD i Str.empty, i)
def noStar : Es → Bool
  | .nil => true
  | .cons _ es => noStar es
  | .star _ _ => false
section
variable (N : List Str) (T : Tab)
def isF (sc : Scope) (x : Str) : Bool := isGl sc x && (T.free.contains x && plainN x)
mutual
def chkE : E → Sc → Expr → Bool
  | .var i, sc, ex => (match ex with
    | .Name x _ => decide (N[i]? = some x) && (isVis sc x && plainN x)
    | _ => false)
  | .con d, _, ex => (match ex with
    | .Constant (.int i) _ _ => (match d with | .int j => decide (i = j) | _ => false)
    | .Constant (.str i) _ _ => (match d with | .str j => decide (i = j) | _ => false)
    | .Constant (.bool i) _ _ => (match d with | .bl j => decide (i = j) | _ => false)
    | .Constant .none _ _ => (match d with | .non => true | _ => false)
    | _ => false)
  | .glob x i, sc, ex => (match ex with
    | .Name y _ => decide (x = y) && (isGl sc x && (plainN x && T.globs.contains (x, i)))
    | _ => false)
  | .bin op a b, sc, ex => (match ex with
    | .BinOp x o y _ => decide (op = o) && (chkE a sc x && chkE b sc y)
    | _ => false)
  | .neg a, sc, ex => (match ex with
    | .UnaryOp .USub x _ => chkE a sc x
    | _ => false)
  | .not a, sc, ex => (match ex with
    | .UnaryOp .Not x _ => okT a && chkE a sc x
    | _ => false)
  | .cmp op a b, sc, ex => (match ex with
    | .Compare x [o] [y] _ => decide (op = o) && (notSet y && (chkE a sc x && chkE b sc y))
    | _ => false)
  | .cmp2 op op' a b c, sc, ex => (match ex with
    | .Compare x [o, o'] [y, z] _ => decide (op = o) && (decide (op' = o') && (notSet z && (chkE a sc x && (chkE b sc y && chkE c sc z))))
    | _ => false)
  | .bop k es, sc, ex => (match ex with
    | .BoolOp .And xs _ => k && (decide (2 ≤ xs.length) && chkB es sc xs)
    | .BoolOp .Or xs _ => !k && (decide (2 ≤ xs.length) && chkB es sc xs)
    | _ => false)
  | .ite c a b, sc, ex => (match ex with
    | .IfExp x y z _ => okT c && (chkE c sc x && (chkE a sc y && chkE b sc z))
    | _ => false)
  | .tup es, sc, ex => (match ex with
    | .Tuple xs _ _ => chkEs es sc xs
    | _ => false)
  | .lm _ l, sc, ex => chkL l sc ex
  | .dict0, _, ex => (match ex with
    | .Dict [] [] _ => true
    | _ => false)
  | .dget a i, sc, ex => (match ex with
    | .Subscript x y _ => notSlice y && (chkE a sc x && chkE i sc y)
    | _ => false)
  | .din neg k a, sc, ex => (match ex with
    | .Compare x [o] [y] _ => decide ((if neg then CmpOp.NotIn else CmpOp.In) = o) && (notSet y && (chkE k sc x && chkE a sc y))
    | _ => false)
  | .dsp ks vs, sc, ex => (match ex with
    | .Dict keys xs _ => decide (ks.Nodup ∧ 0 < ks.length ∧ ks.length ≤ 15) && (keysB ks keys && (decide (xs.length = ks.length) && (noStar vs && chkEs vs sc xs)))
    | _ => false)
  | .dspE kvs, sc, ex => (match ex with
    | .Dict keys xs _ => decide (keys.length = xs.length ∧ keys ≠ [] ∧ keys.length ≤ 15) && chkPs kvs sc keys xs
    | _ => false)
  | .idx a i, sc, ex => (match ex with
    | .Subscript x y _ => notSlice y && (chkE a sc x && chkE i sc y)
    | _ => false)
  | .sli a lo hi, sc, ex => (match ex with
    | .Subscript x (.Slice l h none _) _ => chkE a sc x && (chkO lo sc l && chkO hi sc h)
    | _ => false)
  | .rev a, sc, ex => (match ex with
    | .Subscript x (.Slice none none (some (.UnaryOp .USub (.Constant (.int 1) _ _) _)) _) _ => chkE a sc x
    | _ => false)
  | .revT a, sc, ex => (match ex with
    | .Subscript x (.Slice none none (some (.UnaryOp .USub (.Constant (.int 1) _ _) _)) _) _ => chkE a sc x
    | _ => false)
  | .dictM, _, ex => (match ex with
    | .Dict [] [] _ => true
    | _ => false)
  | .isi a t, sc, ex => (match ex with
    | .Call (.Name f _) [x, .Name ty _] [] _ => decide (f = ("isinstance" : Str)) && (decide (ty = Str.ofString t.name) && (isF T sc f && (isF T sc ty && chkE a sc x)))
    | _ => false)
  | .b1 f a, sc, ex => (match f with
    | .lenset => (match ex with
      | .Call (.Name g _) [.Call (.Name h _) [x] [] _] [] _ => decide (g = ("len" : Str)) && (decide (h = ("set" : Str)) && (isF T sc g && (isF T sc h && chkE a sc x)))
      | _ => false)
    | _ => (match ex with
      | .Call (.Name g _) [x] [] _ => decide (g = b1Name f) && (isF T sc g && chkE a sc x)
      | _ => false))
  | .b2 f a b, sc, ex => (match ex with
    | .Call (.Name g _) [x, y] [] _ => decide (g = b2Name f) && (isF T sc g && (chkE a sc x && chkE b sc y))
    | _ => false)
  | .m1 f a b, sc, ex => (match ex with
    | .Call (.Attribute x n p) [y] [] q => decide (n = m1Name f) && (plainBase x && ((p.endLine == q.line) && (chkE a sc x && chkE b sc y)))
    | _ => false)
  | .app a b, sc, ex => (match ex with
    | .Call (.Attribute x n p) [y] [] q => decide (n = ("append" : Str)) && (plainBase x && ((p.endLine == q.line) && (chkE a sc x && chkE b sc y)))
    | _ => false)
  | .pop1 a b, sc, ex => (match ex with
    | .Call (.Attribute x n p) [y] [] q => decide (n = ("pop" : Str)) && (plainBase x && ((p.endLine == q.line) && (chkE a sc x && chkE b sc y)))
    | _ => false)
  | .call i es, sc, ex => (match ex with
    | .Call (.Name g _) xs [] _ => (match T.defs[i]? with
      | some f => decide (f.name = g) && (isGl sc g && (plainN g && (xs.all nos && chkEs es sc xs)))
      | none => false)
    | _ => false)
  | .told x hds fin e, sc, ex => (match ex with
    | .Call (.Name g _) [.Lambda ps b lsc _] [] _ => decide (x = g) && (isGl sc g && (plainN g && (sc.lf && (noArgs ps && (LamX.lamSB sc.s lsc &&
        (T.tolds.any (fun t => decide (t.name = x) && (decide (t.hs = hds.map fun h => (h.1, h.2.2)) && decide (t.fin = fin))) &&
        (hds.all (fun h => hds.all fun h' => h'.2.1.all fun c => T.exm.contains (c, h.1, h.2.1.contains c)) && chkE e ⟨lsc, false⟩ b)))))))
    | _ => false)
def chkB : Es → Sc → List Expr → Bool
  | .nil, _, [] => true
  | .cons e es, sc, x :: xs => okT e && (chkE e sc x && chkB es sc xs)
  | _, _, _ => false
def chkEs : Es → Sc → List Expr → Bool
  | .nil, _, [] => true
  | .cons e es, sc, x :: xs => chkE e sc x && chkEs es sc xs
  | .star e es, sc, .Starred x _ :: xs => chkE e sc x && chkEs es sc xs
  | _, _, _ => false
def chkPs : Es → Sc → List (Option Expr) → List Expr → Bool
  | .nil, _, [], [] => true
  | .cons k (.cons v es), sc, some x :: keys, y :: ys => chkE k sc x && (chkE v sc y && chkPs es sc keys ys)
  | _, _, _, _ => false
def chkO : O → Sc → Option Expr → Bool
  | .no, _, none => true
  | .yes e, sc, some x => chkE e sc x
  | _, _, _ => false
def chkC : O → Sc → List Expr → Bool
  | .no, _, [] => true
  | .yes e, sc, [x] => okT e && chkE e sc x
  | _, _, _ => false
def chkL : L → Sc → Expr → Bool
  | .disp es, sc, ex => (match ex with
    | .List xs _ => chkEs es sc xs
    | _ => false)
  | .lc it tg c e, sc, ex => (match ex with
    | .ListComp x [⟨t, i, ifs, 0⟩] scope _ => notSet i && (blkC N sc scope (ownOf N tg) && (tgLoc N (relS scope sc.s) tg t && (chkIt it sc t i && (chkC c ⟨relS scope sc.s, false⟩ ifs && chkE e ⟨relS scope sc.s, false⟩ x))))
    | _ => false)
  | .blt f a, sc, ex => (match f with
    | .sset => (match ex with
      | .Call (.Name g _) [.Call (.Name h _) [x] [] _] [] _ => decide (g = ("sorted" : Str)) && (decide (h = ("set" : Str)) && (isF T sc g && (isF T sc h && chkE a sc x)))
      | _ => false)
    | _ => (match ex with
      | .Call (.Name g _) [x] [] _ => decide (g = lbName f) && (isF T sc g && chkE a sc x)
      | _ => false))
  | .zipl a b, sc, ex => (match ex with
    | .Call (.Name g _) [.Call (.Name h _) [x, y] [] _] [] _ => decide (g = ("list" : Str)) && (decide (h = ("zip" : Str)) && (isF T sc g && (isF T sc h && (chkE a sc x && chkE b sc y))))
    | _ => false)
  | .rep l n, sc, ex => (match ex with
    | .BinOp x .Mult (.Constant (.int k) _ _) _ => decide (k = (n : Int)) && chkL l sc x
    | _ => false)
  | .cat a b, sc, ex => (match ex with
    | .BinOp x .Add y _ => chkE a sc x && chkE b sc y
    | _ => false)
def chkIt : It → Sc → Expr → Expr → Bool
  | .seq e, sc, _, ex => chkE e sc ex
  | .rng1 a, sc, _, ex => (match ex with
    | .Call (.Name g _) [x] [] _ => decide (g = ("range" : Str)) && (isF T sc g && chkE a sc x)
    | _ => false)
  | .enum a, sc, t, ex => (match t with
    | .Tuple _ _ _ => (match ex with
      | .Call (.Name g _) [x] [] _ => decide (g = ("enumerate" : Str)) && (isF T sc g && chkE a sc x)
      | _ => false)
    | _ => false)
  | .enumT a, sc, t, ex => (match t with
    | .Tuple _ _ _ => (match ex with
      | .Call (.Name g _) [x] [] _ => decide (g = ("enumerate" : Str)) && (isF T sc g && chkE a sc x)
      | _ => false)
    | _ => false)
  | .vals a, sc, _, ex => (match ex with
    | .Call (.Attribute x n p) [] [] q => decide (n = ("values" : Str)) && (plainBase x && ((p.endLine == q.line) && chkE a sc x))
    | _ => false)
  | .zip a b, sc, t, ex => (match t with
    | .Tuple _ _ _ => (match ex with
      | .Call (.Name g _) [x, y] [] _ => decide (g = ("zip" : Str)) && (isF T sc g && (chkE a sc x && chkE b sc y))
      | _ => false)
    | _ => false)
end
end
end AW
set_option maxRecDepth 100000
namespace AW
open PySem L2
def rLb (K : Frag) (f : D → Option (List D)) : List V → Hp → VK → Prop := fun xs H Q => ∃ x φ F m dx ds, xs = [x] ∧ RelS K φ F m H ∧ PV K F H x dx ∧ f dx = some ds ∧ ∀ φ' F' H' vs p, Stp K φ F m H φ' F' m H' → Reps K F' vs ds → H' p = none → Q (.ref p) (upd H' p (.lst vs))
/-- what is known of the classes of errors, and of the defs that tell them -/
structure ErrOk (K : Frag) (mg : Str → Option Value) (T : Tab) : Prop where
  exm : ∀ c h b, (c, h, b) ∈ T.exm → PySem.W.exmOne K (.ref (He.ga K c)) (.ref (He.ga K h)) = some b
  exc : ∀ c ∈ T.excs, mg c = some (.ref (He.ga K c)) ∧ PySem.W.excIn K (He.ga K c) He.veBase "ValueError.__new__" = true ∧ PySem.W.keepIn K (.ref (He.ga K c)) = true ∧ PySem.W.subIn K (.ref (He.ga K c)) (.type "BaseException") = some true ∧ PySem.W.typeIn K (.ref (He.ga K c)) = some (.type "type")
  tld : ∀ t ∈ T.tolds, ∃ g fd pg bg sg, mg t.name = some (.ref g) ∧ FunD K t.name t.name pg bg sg [] [] g fd ∧ L2.Binds K fd [t.a] [] ∧ FnScope t.N [t.a] sg ∧ t.N[0]? = some t.a ∧ Vis sg t.a ∧ bodyB sg t.a t.hs t.fin bg = true ∧
    (∀ y ∈ t.hs, mg y.1 = some (.ref (He.ga K y.1))) ∧ (t.a == ("__debug__" : Str)) = false ∧ (t.a == ("__classdict__" : Str)) = false
/-- rules of built-ins that are proved apart -/
structure Prims : Prop where
  repr : ∀ (W : Wsh) (X : Cx), X.calm = true → X.A.guards = some [] → X.A.units + 150 < cLine → CallR X (.builtin "repr") (r1c X.K W (b1D .repr))
  lenset : ∀ {W : Wsh} (X : Cx) (a : Expr) (oa : Ex) (p p2 q pos : Pos), X.calm = true → Gl X "len" → X.mg "len" = none → Gl X "set" → X.mg "set" = none → nos a = true → PE X a (rdE X.K W oa) → PE X (.Call (.Name "len" p) [.Call (.Name "set" p2) [a] [] q] [] pos) (rdE X.K W (ev1 (b1D .lenset) oa))
  list : ∀ (X : Cx), X.calm = true → CallR X (.type "list") (rLb X.K (lbD .list))
  dict : ∀ (W : Wsh) (X : Cx), X.calm = true → CallR X (.type "dict") (r1c X.K W (b1D .dict))
  sset : ∀ {W : Wsh} (X : Cx) (a : Expr) (oa : Ex) (p p2 q pos : Pos), X.calm = true → X.A.units + 150 < cLine → Gl X "sorted" → X.mg "sorted" = none → Gl X "set" → X.mg "set" = none → nos a = true → PE X a (rdE X.K W oa) → PE X (.Call (.Name "sorted" p) [.Call (.Name "set" p2) [a] [] q] [] pos) (rdL X.K W (evLb .sset oa))
  zipl : ∀ {W : Wsh} (X : Cx) (a b : Expr) (oa ob : Ex) (p p2 q pos : Pos), X.calm = true → Gl X "list" → X.mg "list" = none → Gl X "zip" → X.mg "zip" = none → nos a = true → nos b = true → PE X a (rdE X.K W oa) → PE X b (rdE X.K W ob) → PE X (.Call (.Name "list" p) [.Call (.Name "zip" p2) [a, b] [] q] [] pos) (rdL X.K W (itZip oa ob))
  sorted : ∀ (X : Cx), X.calm = true → X.A.units + 150 < cLine → CallR X (.builtin "sorted") (rLb X.K (lbD .sorted))
/-- where one stands, for the checker's context; Ξ: what is wished of an error that leaves -/
structure Cc (T : Tab) (Φ : Fns) (k : Nat) (N : List Str) (Ξ : XK) (X : Cx) (sc : Sc) : Prop where
  hN : X.N = N
  nd : N.Nodup
  hsc : X.env.scope = sc.s
  kind : sc.s.kind = .function
  calm : X.calm = true
  room : Room (3 * k) X.A
  gds : X.A.guards = some []
  free : ∀ x ∈ T.free, X.mg x = none
  glob : ∀ x i, (x, i) ∈ T.globs → ∃ u v, X.mg x = some u ∧ RelV v u ∧ ∀ F, Rep X.K F v (T.gvals.getD i .non)
  defs : ∀ i f, T.defs[i]? = some f → ∃ fa, X.mg f.name = some (.ref fa) ∧ PySem.W.keepIn X.K (.ref fa) = true ∧ FnQ X.prog X.w X.K X.mg X.base (L2.CX X.prog X.w) (3 * k) fa (spQ X.K (Φ i))
  thr : Passes (L2.CX X.prog X.w) X Ξ
  lam : sc.lf = true → LamAt X ∧ Room (3 * k + 2) X.A
  tok : ErrOk X.K X.mg T
section
variable {T : Tab} {Φ : Fns} {k : Nat} {N : List Str} {X : Cx} {Ξ : XK} {sc : Sc}
theorem passL {X : Cx} : Passes (L2.CX X.prog X.w) X (fun _ _ _ => False) := fun _ _ _ _ _ _ _ h => by
  obtain ⟨_, _, _, _, _, _, _, _, _, _, _, _, z⟩ := h
  exact z.elim
theorem Cc.units (C : Cc T Φ k N Ξ X sc) : X.A.units + 64 < cLine := C.room.units
theorem Cc.gl (C : Cc T Φ k N Ξ X sc) {x : Str} (h : isGl sc x = true) : Gl X x := by
  show X.env.scope.names.lookup x = _
  rw [C.hsc]; exact of_decide_eq_true h
theorem Cc.vis (C : Cc T Φ k N Ξ X sc) {x : Str} (h : isVis sc x = true) : Vis X.env.scope x := by
  rw [C.hsc]
  unfold isVis at h
  simp only [Bool.or_eq_true, decide_eq_true_eq] at h
  exact h
theorem Cc.loc (C : Cc T Φ k N Ξ X sc) {x : Str} (h : isLoc sc x = true) : Loc X.env.scope x := by
  rw [C.hsc]
  unfold isLoc at h
  simp only [Bool.or_eq_true, decide_eq_true_eq] at h
  exact h
theorem plain_ok {x : Str} (h : plainN x = true) : (x == ("__debug__" : Str)) = false ∧ (x == ("__classdict__" : Str)) = false ∧ x ≠ ("__name__" : Str) := by
  unfold plainN at h
  simp only [Bool.and_eq_true, Bool.not_eq_true', decide_eq_false_iff_not] at h
  exact h
theorem Cc.isF (C : Cc T Φ k N Ξ X sc) {x : Str} (h : isF T sc x = true) : Gl X x ∧ X.mg x = none ∧ (x == ("__debug__" : Str)) = false ∧ x ≠ ("__name__" : Str) := by
  unfold AW.isF at h
  simp only [Bool.and_eq_true] at h
  obtain ⟨h1, h2, h3⟩ := h
  have q := plain_ok h3
  exact ⟨C.gl h1, C.free x (by simpa using h2), q.1, q.2.2⟩
/-- the context of a comprehension's block -/
theorem Cc.blk (C : Cc T Φ k N Ξ X sc) {scope : Scope} {own : List (Str × Nat)} (hb : blkC N sc.s scope own = true) (s : Shared) (H : Hp) (Ca : Addr) (cl : List (Str × Addr)) (fp : List Addr) : Cc T Φ k N (fun _ _ _ => False) (X.blk s H scope (compEnvC scope cl Ca X.env) fp) ⟨relS scope sc.s, false⟩ := by
  have ok := blkOk_by hb
  refine ⟨C.hN, C.nd, ?_, ok.kind, C.calm, C.room, C.gds, C.free, C.glob, C.defs, passL, (fun z => by cases z), C.tok⟩
  show relabel scope X.env = relS scope sc.s
  rw [← C.hsc]; rfl
theorem notSet_ok {e : Expr} {env : PySem.Env} (h : notSet e = true) : ∀ v, foldedSetIterable e env v = pure v := by
  intro v
  cases e <;> first | rfl | cases h
theorem notSet_mark {op : CmpOp} {e : Expr} (h : notSet e = true) : behindInMarks op e = false := by cases e <;> first | rfl | cases h
theorem slice_nosl {e : Expr} (h : notSlice e = true) : NoSl e := by
  intro o i
  cases e <;> first | rfl | cases h
theorem slice_plain {e : Expr} (h : notSlice e = true) : PlainIx e := by
  intro o i
  cases e <;> first | rfl | cases h
theorem tg_gen (C : Cc T Φ k N Ξ X sc) {P : Str → Bool} (hP : ∀ x, P x = true → Loc X.env.scope x ∧ (X.fn x = true ∨ X.env.scope.names.lookup x = some .local)) {tg : Tg} {t : Expr} (h : tgP N P tg t = true) : PG X t (gT X.K tg) := by
  have one : ∀ (i : Nat) (x : Str) (p : Pos), (decide (N[i]? = some x) && P x) = true → PG X (.Name x p) (gName i) := fun i x p h => by
    rw [Bool.and_eq_true] at h
    exact pg_name (by rw [C.hN]; exact C.nd) (by rw [C.hN]; exact of_decide_eq_true h.1) (hP x h.2).1 (hP x h.2).2
  cases tg with
  | name i =>
    cases t <;> simp only [tgP] at h <;> try (cases h; done)
    exact one i _ _ h
  | tup is =>
    cases t <;> simp only [tgP] at h <;> try (cases h; done)
    rename_i ts k p
    rw [Bool.and_eq_true] at h
    obtain ⟨hl, h⟩ := h
    have hl := of_decide_eq_true hl
    -- names one by one
    have all : ∀ (is : List Nat) (ts : List Expr), is.length = ts.length → ((is.zip ts).all fun p => match p.2 with
        | .Name x _ => decide (N[p.1]? = some x) && P x
        | _ => false) = true → PGs X ts (is.foldr (fun i t => gCons (gName i) t) gNil) ∧ (assignEach ts X.env).length = is.length ∧ (assignEach ts X.env).findIdx? (·.1) = none := by
      intro is
      induction is with
      | nil =>
        intro ts hl _
        cases ts with
        | nil => exact ⟨pgs_nil, rfl, rfl⟩
        | cons _ _ => cases hl
      | cons i is ih =>
        intro ts hl h
        cases ts with
        | nil => cases hl
        | cons t ts =>
          rw [List.zip_cons_cons, List.all_cons, Bool.and_eq_true] at h
          cases t <;> try (exact absurd h.1 Bool.false_ne_true)
          rename_i x q
          obtain ⟨g1, g2, g3⟩ := ih ts (by simpa using hl) h.2
          refine ⟨pgs_cons (one i x q h.1) g1 rfl, ?_, ?_⟩
          · show (assignEach ts X.env).length + 1 = _
            rw [g2]; rfl
          · show List.findIdx? (·.1) ((false, assign (.Name x q) X.env) :: assignEach ts X.env) = none
            rw [List.findIdx?_cons]; simp [g3]
    obtain ⟨g1, g2, g3⟩ := all is ts hl h
    exact pg_tup C.calm g1 g2 g3
theorem tg_genL (C : Cc T Φ k N Ξ X sc) {P : Str → Bool} (hP : ∀ x, P x = true → Loc X.env.scope x ∧ (X.fn x = true ∨ X.env.scope.names.lookup x = some .local)) {is : List Nat} {ts : List Expr} {kk : Nat} {pp : Pos} (h : tgP N P (.tup is) (.Tuple ts kk pp) = true) : PG X (.Tuple ts kk pp) (gUnl X.K is.length (is.foldr (fun i t => gCons (gName i) t) gNil)) := by
  have one : ∀ (i : Nat) (x : Str) (p : Pos), (decide (N[i]? = some x) && P x) = true → PG X (.Name x p) (gName i) := fun i x p h => by
    rw [Bool.and_eq_true] at h
    exact pg_name (by rw [C.hN]; exact C.nd) (by rw [C.hN]; exact of_decide_eq_true h.1) (hP x h.2).1 (hP x h.2).2
  simp only [tgP] at h
  rw [Bool.and_eq_true] at h
  obtain ⟨hl, h⟩ := h
  have hl := of_decide_eq_true hl
  -- names one by one
  have all : ∀ (is : List Nat) (ts : List Expr), is.length = ts.length → ((is.zip ts).all fun p => match p.2 with
      | .Name x _ => decide (N[p.1]? = some x) && P x
      | _ => false) = true → PGs X ts (is.foldr (fun i t => gCons (gName i) t) gNil) ∧ (assignEach ts X.env).length = is.length ∧ (assignEach ts X.env).findIdx? (·.1) = none := by
    intro is
    induction is with
    | nil =>
      intro ts hl _
      cases ts with
      | nil => exact ⟨pgs_nil, rfl, rfl⟩
      | cons _ _ => cases hl
    | cons i is ih =>
      intro ts hl h
      cases ts with
      | nil => cases hl
      | cons t ts =>
        rw [List.zip_cons_cons, List.all_cons, Bool.and_eq_true] at h
        cases t <;> try (exact absurd h.1 Bool.false_ne_true)
        rename_i x q
        obtain ⟨g1, g2, g3⟩ := ih ts (by simpa using hl) h.2
        refine ⟨pgs_cons (one i x q h.1) g1 rfl, ?_, ?_⟩
        · show (assignEach ts X.env).length + 1 = _
          rw [g2]; rfl
        · show List.findIdx? (·.1) ((false, assign (.Name x q) X.env) :: assignEach ts X.env) = none
          rw [List.findIdx?_cons]; simp [g3]
  obtain ⟨g1, g2, g3⟩ := all is ts hl h
  exact pg_unl C.calm g1 g2 g3
theorem tg_ok (C : Cc T Φ k N Ξ X sc) (hf : ∀ x, X.fn x = true) {tg : Tg} {t : Expr} (h : tgOk N sc tg t = true) : PG X t (gT X.K tg) := tg_gen C (fun x hx => ⟨C.loc hx, .inl (hf x)⟩) h
theorem tg_unl (C : Cc T Φ k N Ξ X sc) (hf : ∀ x, X.fn x = true) {is : List Nat} {ts : List Expr} {kk : Nat} {pp : Pos} (h : tgOk N sc (.tup is) (.Tuple ts kk pp) = true) : PG X (.Tuple ts kk pp) (gUnl X.K is.length (is.foldr (fun i t => gCons (gName i) t) gNil)) := tg_genL C (fun x hx => ⟨C.loc hx, .inl (hf x)⟩) h
theorem tg_blk (C : Cc T Φ k N Ξ X sc) {tg : Tg} {t : Expr} (h : tgLoc N sc tg t = true) : PG X t (gT X.K tg) := tg_gen C (fun x hx => by
  have q : X.env.scope.names.lookup x = some .local := by rw [C.hsc]; exact of_decide_eq_true hx
  exact ⟨.inl q, .inr q⟩) h
theorem own_slots (tg : Tg) : (ownOf N tg).map (·.2) = tg.slots := by
  unfold ownOf
  rw [List.map_map]
  exact List.map_id _
theorem and2 {a b : Bool} (h : (a && b) = true) : a = true ∧ b = true := by rwa [Bool.and_eq_true] at h
theorem dec {p : Prop} [Decidable p] (h : decide p = true) : p := of_decide_eq_true h
theorem chkPs_all : ∀ (es : Es) (sc : Sc) (keys : List (Option Expr)) (xs : List Expr), chkPs N T es sc keys xs = true → keys.all (·.isSome) = true
  | .star _ _, sc, keys, xs, h => by simp only [chkPs] at h; cases h
  | .cons _ .nil, sc, keys, xs, h => by simp only [chkPs] at h; cases h
  | .cons _ (.star _ _), sc, keys, xs, h => by simp only [chkPs] at h; cases h
  | .nil, sc, [], _, h => rfl
  | .nil, sc, _ :: _, _, h => by simp only [chkPs] at h; cases h
  | .cons kk (.cons v es), sc, some x :: keys, y :: ys, h => by
    simp only [chkPs, Bool.and_eq_true] at h
    rw [List.all_cons]
    exact chkPs_all es sc keys ys h.2.2
  | .cons _ (.cons _ _), sc, [], _, h => rfl
  | .cons _ (.cons _ _), sc, none :: _, _, h => by simp only [chkPs] at h; cases h
  | .cons _ (.cons _ _), sc, some _ :: _, [], h => by simp only [chkPs] at h; cases h
mutual
theorem chkE_nos : ∀ (e : E) (sc : Sc) (ex : Expr), chkE N T e sc ex = true → nos ex = true := by
  intro e sc ex h
  cases ex <;> try rfl
  exfalso
  cases e <;> simp only [chkE] at h <;> try (cases h; done)
  · rename_i l
    cases l <;> simp only [chkL] at h <;> first | (cases h; done) | (split at h <;> cases h)
  · split at h <;> cases h
end
end
end AW
set_option maxRecDepth 100000
set_option maxHeartbeats 4000000
namespace AW
open PySem L2
section
variable {T : Tab} {Φ : Fns} {k : Nat} {N : List Str} (P : Prims)
/-- a test whose text is no comparison, no and, or, not, if -/
def plainT : Expr → Bool
  | .UnaryOp .Not _ _ => false
  | .BoolOp _ _ _ => false
  | .IfExp _ _ _ _ => false
  | .Compare _ _ _ _ => false
  | _ => true
theorem plainT_ok {e : Expr} {env : PySem.Env} (h : plainT e = true) : ∀ whole, isTrue e env whole = (do let v ← whole; standAt e.pos; holding [v] (truthy v)) := by
  intro w
  cases e <;> first | rfl | (cases h; done) | skip
  rename_i op x p
  cases op <;> first | rfl | cases h
def Both (X : Cx) (Ξ : XK) (G : List D) (Φ : Fns) (e : E) (ex : Expr) : Prop := PE X ex (rdE X.K (wsh X.K Ξ) (evalE G Φ e)) ∧ (okT e = true → PT X ex (rdT X.K (wsh X.K Ξ) (evT (evalE G Φ e))))
theorem both {X : Cx} {Ξ : XK} {G : List D} {e : E} {ex : Expr} (q : PE X ex (rdE X.K (wsh X.K Ξ) (evalE G Φ e))) (h : plainT ex = true) : Both X Ξ G Φ e ex := ⟨q, fun _ => snt_any q (plainT_ok h)⟩
def tyB (X : Cx) (Ξ : XK) (G : List D) (Φ : Fns) (kk : Bool) (es : Es) (xs : List Expr) : Prop := xs ≠ [] → ∀ p, PE X (.BoolOp (if kk then .And else .Or) xs p) (rdE X.K (wsh X.K Ξ) (evalB G Φ kk es)) ∧ PW X (.BoolOp (if kk then .And else .Or) xs p) (rdT X.K (wsh X.K Ξ) (evT (evalB G Φ kk es)))
theorem pt_cond {X : Cx} {ifs : List Expr} {t : TT} (h : PTs X ifs t) : PTs X ifs t := h
theorem pts_no {X : Cx} {Ξ : XK} : PTs X [] (rdT X.K (wsh X.K Ξ) evYes) := ⟨fun pins s σ H Q I h => by
  obtain ⟨φ, F, ρ, m, R, E, L, h⟩ := h
  exact pts_nil.run pins s σ H Q I (Post.ok0 (R := REq) R h rfl)⟩
theorem rd_rLb {X : Cx} {W : Wsh} {oa : Ex} {f : LB} {σ : L2.St} {H : Hp} {Q : VK} (h : rdL X.K W (evLb f oa) σ H Q) : tCB (rLb X.K (lbD f)) (tCons (rdE X.K W oa) tNil) σ H Q := by
  obtain ⟨φ, F, ρ, m, R, E, L, h⟩ := h
  refine ⟨φ, F, ρ, m, R, E, L, ?_⟩
  unfold evLb at h
  cases ho : oa ρ m with
  | bad => rw [ho] at h; exact h
  | exc x m' => rw [ho] at h; exact h
  | ok v m1 =>
    rw [ho] at h
    simp only [Out.bind_ok] at h
    intro φ1 F1 H1 u s r
    cases e : peek m1 v with
    | none => rw [e] at h; exact h.elim
    | some d =>
      rw [e] at h
      simp only [lift_some, Out.bind_ok] at h
      cases el : lbD f d with
      | none => rw [el] at h; exact h.elim
      | some ds =>
        rw [el] at h
        exact ⟨u, φ1, F1, m1, d, ds, rfl, s.rel, pv_of s.rel r e, el, fun φ' F' H' vs p s' rv hp => h φ' F' H' vs p (s.trans s' R) rv hp⟩
theorem PTsmono {X : Cx} {e : List Expr} {t t' : TT} (h : PTs X e t) (i : ∀ σ H Q, t' σ H Q → t σ H Q) : PTs X e t' := ⟨fun pins s σ H Q I q => h.run pins s σ H Q I (i _ _ _ q)⟩
include P
mutual
theorem sndE : ∀ (e : E) (Ξ : XK) (X : Cx) (sc : Sc) (ex : Expr), Cc T Φ k N Ξ X sc → chkE N T e sc ex = true → Both X Ξ T.gvals Φ e ex
  | .var i, Ξ, X, sc, ex, C, h => by
    simp only [chkE] at h
    split at h
    · simp only [Bool.and_eq_true] at h
      obtain ⟨h1, h2, h3⟩ := h
      have q := plain_ok h3
      exact both (snd_var (by rw [C.hN]; exact dec h1) (C.vis h2) q.1 q.2.1) rfl
    · cases h
  | .con d, Ξ, X, sc, ex, C, h => by
    simp only [chkE] at h
    split at h
    · split at h
      · cases dec h; exact both (snd_con pe_int fun _ => .int _) rfl
      · cases h
    · split at h
      · cases dec h; exact both (snd_con pe_str fun _ => .str _) rfl
      · cases h
    · split at h
      · cases dec h; exact both (snd_con pe_bl fun _ => .bl _) rfl
      · cases h
    · split at h
      · exact both (snd_con pe_non fun _ => .non) rfl
      · cases h
    · cases h
  | .glob x i, Ξ, X, sc, ex, C, h => by
    simp only [chkE] at h
    split at h
    · simp only [Bool.and_eq_true] at h
      obtain ⟨h1, h2, h3, h4⟩ := h
      have e0 := dec h1
      subst e0
      obtain ⟨u, v, e1, r1, r2⟩ := C.glob x i (by simpa using h4)
      exact both (snd_con (pe_glob (C.gl h2) e1 r1 (plain_ok h3).1) r2) rfl
    · cases h
  | .bin op a b, Ξ, X, sc, ex, C, h => by
    simp only [chkE] at h
    split at h
    · simp only [Bool.and_eq_true] at h
      obtain ⟨h1, h2, h3⟩ := h
      have e0 := dec h1
      subst e0
      exact both (snd_op (op_bin _) (sndE a _ X sc _ C h2).1 (sndE b _ X sc _ C h3).1) rfl
    · cases h
  | .neg a, Ξ, X, sc, ex, C, h => by
    simp only [chkE] at h
    split at h
    · exact both (snd_neg (sndE a _ X sc _ C h).1) rfl
    · cases h
  | .not a, Ξ, X, sc, ex, C, h => by
    simp only [chkE] at h
    split at h
    · simp only [Bool.and_eq_true] at h
      obtain ⟨h1, h2⟩ := h
      have q := sndE a _ X sc _ C h2
      exact ⟨snd_not q.1, fun _ => snt_not (q.2 h1)⟩
    · cases h
  | .cmp op a b, Ξ, X, sc, ex, C, h => by
    simp only [chkE] at h
    split at h
    · simp only [Bool.and_eq_true] at h
      obtain ⟨h1, h2, h3, h4⟩ := h
      have e0 := dec h1
      subst e0
      have qa := (sndE a _ X sc _ C h3).1
      have qb := (sndE b _ X sc _ C h4).1
      exact ⟨snd_cmp C.units qa qb (notSet_mark h2), fun _ => snt_cmp C.units qa qb (notSet_mark h2)⟩
    · cases h
  | .cmp2 op op' a b c, Ξ, X, sc, ex, C, h => by
    simp only [chkE] at h
    split at h
    · simp only [Bool.and_eq_true] at h
      obtain ⟨h1, h2, h3, h4, h5, h6⟩ := h
      have e0 := dec h1
      have e1 := dec h2
      subst e0
      subst e1
      have qa := (sndE a _ X sc _ C h4).1
      have qb := (sndE b _ X sc _ C h5).1
      have qc := (sndE c _ X sc _ C h6).1
      exact ⟨snd_chain C.units qa qb qc (notSet_mark h3), fun _ => snt_chain C.units qa qb qc (notSet_mark h3)⟩
    · cases h
  | .bop kk es, Ξ, X, sc, ex, C, h => by
    simp only [chkE] at h
    split at h
    · simp only [Bool.and_eq_true] at h
      obtain ⟨h1, h2, h3⟩ := h
      subst h1
      have q := sndB true es _ X sc _ C h3 (by intro z; subst z; exact absurd (dec h2) (by simp))
      exact ⟨(q _).1, fun _ => (q _).2.pt⟩
    · simp only [Bool.and_eq_true] at h
      obtain ⟨h1, h2, h3⟩ := h
      cases kk with
      | true => cases h1
      | false =>
        have q := sndB false es _ X sc _ C h3 (by intro z; subst z; exact absurd (dec h2) (by simp))
        exact ⟨(q _).1, fun _ => (q _).2.pt⟩
    · cases h
  | .ite c a b, Ξ, X, sc, ex, C, h => by
    simp only [chkE] at h
    split at h
    · simp only [Bool.and_eq_true] at h
      obtain ⟨h0, h1, h2, h3⟩ := h
      exact ⟨snd_ite ((sndE c _ X sc _ C h1).2 h0) (sndE a _ X sc _ C h2).1 (sndE b _ X sc _ C h3).1, fun z => by cases z⟩
    · cases h
  | .tup es, Ξ, X, sc, ex, C, h => by
    simp only [chkE] at h
    split at h
    · exact both (snd_tup (sndEs es _ X sc _ C h)) rfl
    · cases h
  | .lm mt l, Ξ, X, sc, ex, C, h => by
    simp only [chkE] at h
    obtain ⟨q1, q2⟩ := sndL l _ X sc ex C h
    exact both (snd_lm q1) q2
  | .dict0, Ξ, X, sc, ex, C, h => by
    simp only [chkE] at h
    split at h
    · exact both snd_dict0 rfl
    · cases h
  | .dget a i, Ξ, X, sc, ex, C, h => by
    simp only [chkE] at h
    split at h
    · simp only [Bool.and_eq_true] at h
      obtain ⟨h1, h2, h3⟩ := h
      exact both (snd_dget C.units (sndE a _ X sc _ C h2).1 (sndE i _ X sc _ C h3).1 (slice_nosl h1)) rfl
    · cases h
  | .din neg kk a, Ξ, X, sc, ex, C, h => by
    simp only [chkE] at h
    split at h
    · simp only [Bool.and_eq_true] at h
      obtain ⟨h1, h2, h3, h4⟩ := h
      have e0 := dec h1
      subst e0
      exact ⟨snd_din C.units (sndE kk _ X sc _ C h3).1 (sndE a _ X sc _ C h4).1 (notSet_mark h2), fun z => by cases z⟩
    · cases h
  | .dsp ks vs, Ξ, X, sc, ex, C, h => by
    simp only [chkE] at h
    split at h
    · simp only [Bool.and_eq_true] at h
      obtain ⟨h1, h2, h3, h4, h5⟩ := h
      obtain ⟨trs, q1, q2⟩ := sndPs vs _ X sc ks _ _ _ C h2 h4 (dec h3) h5
      exact both (snd_dsp (dec h1) h2 (dec h3) q1 q2) rfl
    · cases h
  | .dspE kvs, Ξ, X, sc, ex, C, h => by
    simp only [chkE] at h
    split at h
    · simp only [Bool.and_eq_true] at h
      obtain ⟨h1, h2⟩ := h
      have h1 := dec h1
      obtain ⟨trs, q1, q2⟩ := sndPE kvs _ X sc _ _ _ C h2
      exact both (snd_dspE (chkPs_all kvs sc _ _ h2) h1.1 h1.2.1 h1.2.2 q1 q2) rfl
    · cases h
  | .idx a i, Ξ, X, sc, ex, C, h => by
    simp only [chkE] at h
    split at h
    · simp only [Bool.and_eq_true] at h
      obtain ⟨h1, h2, h3⟩ := h
      exact both (snd_idx (sndE a _ X sc _ C h2).1 (sndE i _ X sc _ C h3).1 (slice_plain h1)) rfl
    · cases h
  | .sli a lo hi, Ξ, X, sc, ex, C, h => by
    simp only [chkE] at h
    split at h
    · simp only [Bool.and_eq_true] at h
      obtain ⟨h1, h2, h3⟩ := h
      exact both (snd_sli (sndE a _ X sc _ C h1).1 (sndO lo _ X sc _ C h2) (sndO hi _ X sc _ C h3)) rfl
    · cases h
  | .rev a, Ξ, X, sc, ex, C, h => by
    simp only [chkE] at h
    split at h
    · exact both (snd_rev (sndE a _ X sc _ C h).1) rfl
    · cases h
  | .revT a, Ξ, X, sc, ex, C, h => by
    simp only [chkE] at h
    split at h
    · exact both (snd_revT (sndE a _ X sc _ C h).1) rfl
    · cases h
  | .dictM, Ξ, X, sc, ex, C, h => by
    simp only [chkE] at h
    split at h
    · exact both snd_dictM rfl
    · cases h
  | .isi a t, Ξ, X, sc, ex, C, h => by
    simp only [chkE] at h
    split at h
    · simp only [Bool.and_eq_true] at h
      obtain ⟨h1, h2, h3, h4, h5⟩ := h
      have e1 := dec h1
      have e2 := dec h2
      subst e1
      subst e2
      have f1 := C.isF h3
      have f2 := C.isF h4
      exact both (snd_isi f1.1 f1.2.1 f2.1 f2.2.1 (chkE_nos a sc _ h5) (sndE a _ X sc _ C h5).1) rfl
    · cases h
  | .b1 .len a, Ξ, X, sc, ex, C, h => by
    simp only [chkE] at h
    split at h
    · simp only [Bool.and_eq_true] at h
      obtain ⟨h1, h2, h3⟩ := h
      have e1 := dec h1
      subst e1
      have F := C.isF h2
      exact both (snd_b1B c_len F.1 F.2.1 (by decide +kernel) F.2.2.2 F.2.2.1 (chkE_nos a sc _ h3) (sndE a _ X sc _ C h3).1) rfl
    · cases h
  | .b1 .abs a, Ξ, X, sc, ex, C, h => by
    simp only [chkE] at h
    split at h
    · simp only [Bool.and_eq_true] at h
      obtain ⟨h1, h2, h3⟩ := h
      have e1 := dec h1
      subst e1
      have F := C.isF h2
      exact both (snd_b1B c_abs F.1 F.2.1 (by decide +kernel) F.2.2.2 F.2.2.1 (chkE_nos a sc _ h3) (sndE a _ X sc _ C h3).1) rfl
    · cases h
  | .b1 .all a, Ξ, X, sc, ex, C, h => by
    simp only [chkE] at h
    split at h
    · simp only [Bool.and_eq_true] at h
      obtain ⟨h1, h2, h3⟩ := h
      have e1 := dec h1
      subst e1
      have F := C.isF h2
      exact both (snd_b1B (c_all C.calm) F.1 F.2.1 (by decide +kernel) F.2.2.2 F.2.2.1 (chkE_nos a sc _ h3) (sndE a _ X sc _ C h3).1) rfl
    · cases h
  | .b1 .any a, Ξ, X, sc, ex, C, h => by
    simp only [chkE] at h
    split at h
    · simp only [Bool.and_eq_true] at h
      obtain ⟨h1, h2, h3⟩ := h
      have e1 := dec h1
      subst e1
      have F := C.isF h2
      exact both (snd_b1B (c_any C.calm) F.1 F.2.1 (by decide +kernel) F.2.2.2 F.2.2.1 (chkE_nos a sc _ h3) (sndE a _ X sc _ C h3).1) rfl
    · cases h
  | .b1 .int a, Ξ, X, sc, ex, C, h => by
    simp only [chkE] at h
    split at h
    · simp only [Bool.and_eq_true] at h
      obtain ⟨h1, h2, h3⟩ := h
      have e1 := dec h1
      subst e1
      have F := C.isF h2
      exact both (snd_b1T c_int F.1 F.2.1 (by decide +kernel) F.2.2.2 F.2.2.1 (chkE_nos a sc _ h3) (sndE a _ X sc _ C h3).1) rfl
    · cases h
  | .b1 .str a, Ξ, X, sc, ex, C, h => by
    simp only [chkE] at h
    split at h
    · simp only [Bool.and_eq_true] at h
      obtain ⟨h1, h2, h3⟩ := h
      have e1 := dec h1
      subst e1
      have F := C.isF h2
      exact both (snd_b1T c_str F.1 F.2.1 (by decide +kernel) F.2.2.2 F.2.2.1 (chkE_nos a sc _ h3) (sndE a _ X sc _ C h3).1) rfl
    · cases h
  | .b1 .repr a, Ξ, X, sc, ex, C, h => by
    simp only [chkE] at h
    split at h
    · simp only [Bool.and_eq_true] at h
      obtain ⟨h1, h2, h3⟩ := h
      have e1 := dec h1
      subst e1
      have F := C.isF h2
      exact both (snd_b1B (P.repr _ X C.calm C.gds (by have := C.room.un; omega)) F.1 F.2.1 (by decide +kernel) F.2.2.2 F.2.2.1 (chkE_nos a sc _ h3) (sndE a _ X sc _ C h3).1) rfl
    · cases h
  | .b1 .tuple a, Ξ, X, sc, ex, C, h => by
    simp only [chkE] at h
    split at h
    · simp only [Bool.and_eq_true] at h
      obtain ⟨h1, h2, h3⟩ := h
      have e1 := dec h1
      subst e1
      have F := C.isF h2
      exact both (snd_b1T c_tuple F.1 F.2.1 (by decide +kernel) F.2.2.2 F.2.2.1 (chkE_nos a sc _ h3) (sndE a _ X sc _ C h3).1) rfl
    · cases h
  | .b1 .dlen a, Ξ, X, sc, ex, C, h => by
    simp only [chkE] at h
    split at h
    · simp only [Bool.and_eq_true] at h
      obtain ⟨h1, h2, h3⟩ := h
      have e1 := dec h1
      subst e1
      have F := C.isF h2
      exact both (snd_b1B c_dlen F.1 F.2.1 (by decide +kernel) F.2.2.2 F.2.2.1 (chkE_nos a sc _ h3) (sndE a _ X sc _ C h3).1) rfl
    · cases h
  | .b1 .drepr a, Ξ, X, sc, ex, C, h => by
    simp only [chkE] at h
    split at h
    · simp only [Bool.and_eq_true] at h
      obtain ⟨h1, h2, h3⟩ := h
      have e1 := dec h1
      subst e1
      have F := C.isF h2
      exact both (snd_b1B (c_drepr C.gds (by have := C.room.un; omega)) F.1 F.2.1 (by decide +kernel) F.2.2.2 F.2.2.1 (chkE_nos a sc _ h3) (sndE a _ X sc _ C h3).1) rfl
    · cases h
  | .b1 .dict a, Ξ, X, sc, ex, C, h => by
    simp only [chkE] at h
    split at h
    · simp only [Bool.and_eq_true] at h
      obtain ⟨h1, h2, h3⟩ := h
      have e1 := dec h1
      subst e1
      have F := C.isF h2
      exact both (snd_b1T (P.dict _ X C.calm) F.1 F.2.1 (by decide +kernel) F.2.2.2 F.2.2.1 (chkE_nos a sc _ h3) (sndE a _ X sc _ C h3).1) rfl
    · cases h
  | .b1 .lenset a, Ξ, X, sc, ex, C, h => by
    simp only [chkE] at h
    split at h
    · simp only [Bool.and_eq_true] at h
      obtain ⟨h1, h2, h3, h4, h5⟩ := h
      have e1 := dec h1
      have e2 := dec h2
      subst e1
      subst e2
      have f1 := C.isF h3
      have f2 := C.isF h4
      exact both (P.lenset X _ _ _ _ _ _ C.calm f1.1 f1.2.1 f2.1 f2.2.1 (chkE_nos a sc _ h5) (sndE a _ X sc _ C h5).1) rfl
    · cases h
  | .b2 .max a b, Ξ, X, sc, ex, C, h => by
    simp only [chkE] at h
    split at h
    · simp only [Bool.and_eq_true] at h
      obtain ⟨h1, h2, h3, h4⟩ := h
      have e1 := dec h1
      subst e1
      have F := C.isF h2
      exact both (snd_b2B (c_max C.calm) F.1 F.2.1 (by decide +kernel) F.2.2.2 F.2.2.1 (chkE_nos a sc _ h3) (chkE_nos b sc _ h4) (sndE a _ X sc _ C h3).1 (sndE b _ X sc _ C h4).1) rfl
    · cases h
  | .b2 .min a b, Ξ, X, sc, ex, C, h => by
    simp only [chkE] at h
    split at h
    · simp only [Bool.and_eq_true] at h
      obtain ⟨h1, h2, h3, h4⟩ := h
      have e1 := dec h1
      subst e1
      have F := C.isF h2
      exact both (snd_b2B (c_min C.calm) F.1 F.2.1 (by decide +kernel) F.2.2.2 F.2.2.1 (chkE_nos a sc _ h3) (chkE_nos b sc _ h4) (sndE a _ X sc _ C h3).1 (sndE b _ X sc _ C h4).1) rfl
    · cases h
  | .m1 .join a b, Ξ, X, sc, ex, C, h => by
    simp only [chkE] at h
    split at h
    · simp only [Bool.and_eq_true] at h
      obtain ⟨h1, h2, h3, h4, h5⟩ := h
      have e1 := dec h1
      subst e1
      exact both (snd_M PySem.F.slot_str_join PySem.F.type_str_join m_join h2 h3 (chkE_nos b sc _ h5) (sndE a _ X sc _ C h4).1 (sndE b _ X sc _ C h5).1) rfl
    · cases h
  | .m1 .split a b, Ξ, X, sc, ex, C, h => by
    simp only [chkE] at h
    split at h
    · simp only [Bool.and_eq_true] at h
      obtain ⟨h1, h2, h3, h4, h5⟩ := h
      have e1 := dec h1
      subst e1
      exact both (snd_M PySem.F.slot_str_split PySem.F.type_str_split m_split h2 h3 (chkE_nos b sc _ h5) (sndE a _ X sc _ C h4).1 (sndE b _ X sc _ C h5).1) rfl
    · cases h
  | .app a b, Ξ, X, sc, ex, C, h => by
    simp only [chkE] at h
    split at h
    · simp only [Bool.and_eq_true] at h
      obtain ⟨h1, h2, h3, h4, h5⟩ := h
      have e1 := dec h1
      subst e1
      exact both (snd_app h2 h3 (chkE_nos b sc _ h5) (sndE a _ X sc _ C h4).1 (sndE b _ X sc _ C h5).1) rfl
    · cases h
  | .pop1 a b, Ξ, X, sc, ex, C, h => by
    simp only [chkE] at h
    split at h
    · simp only [Bool.and_eq_true] at h
      obtain ⟨h1, h2, h3, h4, h5⟩ := h
      have e1 := dec h1
      subst e1
      exact both (snd_pop1 h2 h3 (chkE_nos b sc _ h5) (sndE a _ X sc _ C h4).1 (sndE b _ X sc _ C h5).1) rfl
    · cases h
  | .call i es, Ξ, X, sc, ex, C, h => by
    simp only [chkE] at h
    split at h
    · rename_i g p xs q
      split at h
      · rename_i f ef
        simp only [Bool.and_eq_true] at h
        obtain ⟨h1, h2, h3, hq, h4⟩ := h
        have e1 := dec h1
        subst e1
        obtain ⟨fa, g1, g2, g4⟩ := C.defs i f ef
        have hpl := (plain_ok h3).1
        have ha := sndEs es _ X sc xs C h4
        cases xs with
        | nil =>
          have ee : es = .nil := by cases es <;> first | rfl | (simp only [chkEs] at h4; cases h4)
          subst ee
          exact both (snd_call0 (E0 := Ξ) g4 C.gds C.room (C.gl h2) g1 g2 C.thr hpl) rfl
        | cons _ _ => exact both (snd_call (E0 := Ξ) g4 C.gds C.room (C.gl h2) g1 g2 C.thr hpl hq ha) rfl
      · cases h
    · cases h
  | .told x hds fin e, Ξ, X, sc, ex, C, h => by
    simp only [chkE] at h
    split at h
    · rename_i g p ps b lsc lp pos
      simp only [Bool.and_eq_true] at h
      obtain ⟨h1, h2, h3, h4, h5, h6, h7, h8, h9⟩ := h
      have e1 := dec h1
      subst e1
      obtain ⟨t, ht, h7⟩ := List.any_eq_true.mp h7
      simp only [Bool.and_eq_true] at h7
      obtain ⟨t1, t2, t3⟩ := h7
      have t1 := dec t1
      have t2 := dec t2
      have t3 := dec t3
      obtain ⟨g, fd, pg, bg, sg, q1, q2, q3, q4, q5, q6, q7, q8, q9, q10⟩ := C.tok.tld t ht
      obtain ⟨LA, hr⟩ := C.lam h4
      have en := noArgs_ok h5
      subst en
      have hs : LamX.LamS X.env.scope lsc := by rw [C.hsc]; exact LamX.lamS_by h6
      rw [t1] at q1 q2
      refine both (PEmono (lamG (k := 3 * k) (t := fun Ξ => rdE X.K (wsh X.K Ξ) (evalE T.gvals Φ e)) (TT := TTm X.K (t.hs.map fun y => (.ref (He.ga X.K y.1), y.2)) t.fin) C.gds (C.gl h2) q1 q2 q3 q4 q5 q6
        (fun cd => gives_many q8 (fun f => by simp [L2.start]) q7) LA hr hs rfl (fun _ _ _ _ _ => rfl) (fun A outer s H Ξ' f c' hg hr' => ?_) (plain_ok h3).1 q9 q10) fun σ H Q z => ?_) rfl
      · refine (sndE e Ξ' (LamX.lamCx X A outer s H Ξ' lsc f c') ⟨lsc, false⟩ b ⟨C.hN, C.nd, rfl, hs.kind, rfl, hr', hg, C.free, C.glob, C.defs, ?_, (fun z => by cases z), C.tok⟩ h9).1
        exact passes_call (takes_of (X := LamX.lamCx X A outer s H Ξ' lsc f c') (E := Ξ') rfl rfl rfl rfl) fun _ _ _ _ z => z
      · have ok : ExmOk X.K hds := fun h hh h' hh' c hc => C.tok.exm c h.1 _ (by
          have := List.all_eq_true.mp (List.all_eq_true.mp (List.all_eq_true.mp h8 h hh) h' hh') c hc
          simpa using this)
        have r := rd_told ok z
        rw [t2, t3, List.map_map]
        exact r
    · cases h
theorem sndB : ∀ (kk : Bool) (es : Es) (Ξ : XK) (X : Cx) (sc : Sc) (xs : List Expr), Cc T Φ k N Ξ X sc → chkB N T es sc xs = true → tyB X Ξ T.gvals Φ kk es xs
  | _, .nil, Ξ, X, sc, [], C, _ => fun h => absurd rfl h
  | _, .nil, Ξ, X, sc, _ :: _, C, h => by simp only [chkB] at h; cases h
  | _, .cons _ _, Ξ, X, sc, [], C, h => by simp only [chkB] at h; cases h
  | _, .star _ _, Ξ, X, sc, [], C, h => by simp only [chkB] at h; cases h
  | _, .star _ _, Ξ, X, sc, _ :: _, C, h => by simp only [chkB] at h; cases h
  | _, .cons _ (.star _ _), Ξ, X, sc, x :: xs, C, h => by
    rw [chkB] at h
    simp only [Bool.and_eq_true] at h
    obtain ⟨h1, h2, h3⟩ := h
    cases xs <;> simp only [chkB] at h3 <;> cases h3
  | true, .cons e .nil, Ξ, X, sc, x :: xs, C, h => fun _ p => by
    simp only [chkB, Bool.and_eq_true] at h
    obtain ⟨h1, h2, h3⟩ := h
    cases xs with
    | cons _ _ => simp only [chkB] at h3; cases h3
    | nil =>
      have q := sndE e _ X sc x C h2
      exact ⟨pe_one q.1, pw_and1 (q.2 h1)⟩
  | false, .cons e .nil, Ξ, X, sc, x :: xs, C, h => fun _ p => by
    simp only [chkB, Bool.and_eq_true] at h
    obtain ⟨h1, h2, h3⟩ := h
    cases xs with
    | cons _ _ => simp only [chkB] at h3; cases h3
    | nil =>
      have q := sndE e _ X sc x C h2
      exact ⟨pe_one q.1, pw_or1 (q.2 h1)⟩
  | true, .cons e (.cons f es), Ξ, X, sc, x :: xs, C, h => fun _ p => by
    rw [chkB] at h
    simp only [Bool.and_eq_true] at h
    obtain ⟨h1, h2, h3⟩ := h
    have q := sndE e _ X sc x C h2
    have qs := sndB true (.cons f es) _ X sc xs C h3
    cases xs with
    | nil => simp only [chkB] at h3; cases h3
    | cons y ys =>
      have qs := qs (by simp) p
      exact ⟨snd_and q.1 qs.1, snt_and (q.2 h1) qs.2⟩
  | false, .cons e (.cons f es), Ξ, X, sc, x :: xs, C, h => fun _ p => by
    rw [chkB] at h
    simp only [Bool.and_eq_true] at h
    obtain ⟨h1, h2, h3⟩ := h
    have q := sndE e _ X sc x C h2
    have qs := sndB false (.cons f es) _ X sc xs C h3
    cases xs with
    | nil => simp only [chkB] at h3; cases h3
    | cons y ys =>
      have qs := qs (by simp) p
      exact ⟨snd_or q.1 qs.1, snt_or (q.2 h1) qs.2⟩
theorem sndEs : ∀ (es : Es) (Ξ : XK) (X : Cx) (sc : Sc) (xs : List Expr), Cc T Φ k N Ξ X sc → chkEs N T es sc xs = true → PA X xs (rdA X.K (wsh X.K Ξ) (evalEs T.gvals Φ es))
  | .nil, Ξ, X, sc, [], C, _ => sna_nil
  | .nil, Ξ, X, sc, _ :: _, C, h => by simp only [chkEs] at h; cases h
  | .cons _ _, Ξ, X, sc, [], C, h => by simp only [chkEs] at h; cases h
  | .cons e es, Ξ, X, sc, x :: xs, C, h => by
    simp only [chkEs, Bool.and_eq_true] at h
    exact sna_cons (chkE_nos e sc x h.1) (sndE e _ X sc x C h.1).1 (sndEs es _ X sc xs C h.2)
  | .star _ _, Ξ, X, sc, [], C, h => by simp only [chkEs] at h; cases h
  | .star e es, Ξ, X, sc, x :: xs, C, h => by
    cases x <;> simp only [chkEs] at h <;> try (cases h; done)
    rw [Bool.and_eq_true] at h
    exact sna_star (sndE e _ X sc _ C h.1).1 (sndEs es _ X sc xs C h.2)
theorem sndPs : ∀ (es : Es) (Ξ : XK) (X : Cx) (sc : Sc) (ks : List Str) (keys : List (Option Expr)) (xs : List Expr) (pos : Pos), Cc T Φ k N Ξ X sc → keysB ks keys = true → noStar es = true → xs.length = ks.length → chkEs N T es sc xs = true → ∃ trs, PPs X pos keys xs trs ∧ ∀ σ H Q, rdA X.K (wsh X.K Ξ) (evalEs T.gvals Φ es) σ H (fun vs H' => Q ((ks.map V.str).zip vs) H') → tPairs trs σ H Q
  | .star _ _, Ξ, X, sc, _, _, _, _, C, _, h, _, _ => by cases h
  | .nil, Ξ, X, sc, ks, keys, xs, pos, C, hk, hn, hl, h => by
    cases xs with
    | cons _ _ => simp only [chkEs] at h; cases h
    | nil =>
      cases ks with
      | cons _ _ => cases hl
      | nil =>
        cases keys with
        | cons _ _ => cases hk
        | nil => exact pairs_nil
  | .cons e es, Ξ, X, sc, ks, keys, xs, pos, C, hk, hn, hl, h => by
    cases xs with
    | nil => simp only [chkEs] at h; cases h
    | cons x xs =>
      cases ks with
      | nil => cases hl
      | cons k' ks =>
        simp only [chkEs, Bool.and_eq_true] at h
        cases keys with
        | nil => cases hk
        | cons kx keys =>
        unfold keysB at hk
        split at hk
        · cases ‹_ :: _ = []›
        · rename_i e1 e2
          cases e1; cases e2
          rw [Bool.and_eq_true] at hk
          obtain ⟨hk1, hk2⟩ := hk
          have e3 := dec hk1
          subst e3
          exact pairs_cons (sndE e _ X sc x C h.1).1 (sndPs es _ X sc ks _ xs pos C hk2 hn (by simpa using hl) h.2)
        · cases hk
theorem sndPE : ∀ (es : Es) (Ξ : XK) (X : Cx) (sc : Sc) (keys : List (Option Expr)) (xs : List Expr) (pos : Pos), Cc T Φ k N Ξ X sc → chkPs N T es sc keys xs = true → ∃ trs, PPs X pos keys xs trs ∧ ∀ σ H Q, rdA X.K (wsh X.K Ξ) (evalEs T.gvals Φ es) σ H (fun vs H' => ∃ ps, pairUp vs = some ps ∧ Q ps H') → tPairs trs σ H Q
  | .star _ _, Ξ, X, sc, keys, xs, pos, C, h => by simp only [chkPs] at h; cases h
  | .cons _ .nil, Ξ, X, sc, keys, xs, pos, C, h => by simp only [chkPs] at h; cases h
  | .cons _ (.star _ _), Ξ, X, sc, keys, xs, pos, C, h => by simp only [chkPs] at h; cases h
  | .nil, Ξ, X, sc, [], [], pos, C, h => pairsE_nil
  | .nil, Ξ, X, sc, [], _ :: _, pos, C, h => by simp only [chkPs] at h; cases h
  | .nil, Ξ, X, sc, _ :: _, _, pos, C, h => by simp only [chkPs] at h; cases h
  | .cons kk (.cons v es), Ξ, X, sc, some x :: keys, y :: ys, pos, C, h => by
    simp only [chkPs, Bool.and_eq_true] at h
    exact pairsE_cons (sndE kk _ X sc x C h.1).1 (sndE v _ X sc y C h.2.1).1 (sndPE es _ X sc keys ys pos C h.2.2)
  | .cons _ (.cons _ _), Ξ, X, sc, [], _, pos, C, h => by simp only [chkPs] at h; cases h
  | .cons _ (.cons _ _), Ξ, X, sc, none :: _, _, pos, C, h => by simp only [chkPs] at h; cases h
  | .cons _ (.cons _ _), Ξ, X, sc, some _ :: _, [], pos, C, h => by simp only [chkPs] at h; cases h
theorem sndO : ∀ (o : O) (Ξ : XK) (X : Cx) (sc : Sc) (x : Option Expr), Cc T Φ k N Ξ X sc → chkO N T o sc x = true → PO X x (rdO X.K (wsh X.K Ξ) (evalO T.gvals Φ o))
  | .no, Ξ, X, sc, none, C, _ => sno_no
  | .no, Ξ, X, sc, some _, C, h => by simp only [chkO] at h; cases h
  | .yes _, Ξ, X, sc, none, C, h => by simp only [chkO] at h; cases h
  | .yes e, Ξ, X, sc, some x, C, h => by
    simp only [chkO] at h
    exact sno_yes (sndE e _ X sc x C h).1
theorem sndC : ∀ (o : O) (Ξ : XK) (X : Cx) (sc : Sc) (x : List Expr), Cc T Φ k N Ξ X sc → chkC N T o sc x = true → PTs X x (rdT X.K (wsh X.K Ξ) (evalC T.gvals Φ o))
  | .no, Ξ, X, sc, [], C, _ => pts_no
  | .no, Ξ, X, sc, _ :: _, C, h => by simp only [chkC] at h; cases h
  | .yes _, Ξ, X, sc, [], C, h => by simp only [chkC] at h; cases h
  | .yes _, Ξ, X, sc, _ :: _ :: _, C, h => by simp only [chkC] at h; cases h
  | .yes e, Ξ, X, sc, [x], C, h => by
    simp only [chkC, Bool.and_eq_true] at h
    exact pts_one ((sndE e _ X sc x C h.2).2 h.1)
theorem sndL : ∀ (l : L) (Ξ : XK) (X : Cx) (sc : Sc) (ex : Expr), Cc T Φ k N Ξ X sc → chkL N T l sc ex = true → PE X ex (rdL X.K (wsh X.K Ξ) (evalL T.gvals Φ l)) ∧ plainT ex = true
  | .disp es, Ξ, X, sc, ex, C, h => by
    simp only [chkL] at h
    split at h
    · exact ⟨snl_disp (sndEs es _ X sc _ C h), rfl⟩
    · cases h
  | .lc it tg c e, Ξ, X, sc, ex, C, h => by
    simp only [chkL] at h
    split at h
    · rename_i x t i ifs scope p
      simp only [Bool.and_eq_true] at h
      obtain ⟨h0, h1, h2, h3, h4, h5⟩ := h
      refine ⟨snl_lc C.calm (by rw [C.hN]; exact C.nd) (sndIt it _ X sc t i C h3) (by rw [C.hN, C.hsc]; exact blkOk_by h1) (own_slots tg) ?_ ?_ ?_ (notSet_ok h0), rfl⟩
      · exact fun s H Ca cl fp => tg_blk (C.blk h1 s H Ca cl fp) h2
      · exact fun s H Ca cl fp => PTsmono (sndC c _ _ _ ifs (C.blk h1 s H Ca cl fp) h4) fun _ _ _ z => rd_wn z
      · exact fun s H Ca cl fp => PEmono (sndE e _ _ _ x (C.blk h1 s H Ca cl fp) h5).1 fun _ _ _ z => rd_wn z
    · cases h
  | .blt .list a, Ξ, X, sc, ex, C, h => by
    simp only [chkL] at h
    split at h
    · simp only [Bool.and_eq_true] at h
      obtain ⟨h1, h2, h3⟩ := h
      have e1 := dec h1
      subst e1
      have F := C.isF h2
      refine ⟨PEmono (pe_callTy (P.list X C.calm) F.1 F.2.1 (by decide +kernel) (pa_cons (sndE a _ X sc _ C h3).1 pa_nil (star_nos (chkE_nos a sc _ h3))) F.2.2.2 F.2.2.1 (star_nos (chkE_nos a sc _ h3)) rfl) fun _ _ _ h => rd_rLb h, rfl⟩
    · cases h
  | .blt .sorted a, Ξ, X, sc, ex, C, h => by
    simp only [chkL] at h
    split at h
    · simp only [Bool.and_eq_true] at h
      obtain ⟨h1, h2, h3⟩ := h
      have e1 := dec h1
      subst e1
      have F := C.isF h2
      refine ⟨PEmono (pe_callB (P.sorted X C.calm (by have := C.room.un; omega)) F.1 F.2.1 (by decide +kernel) (pa_cons (sndE a _ X sc _ C h3).1 pa_nil (star_nos (chkE_nos a sc _ h3))) F.2.2.2 F.2.2.1 (star_nos (chkE_nos a sc _ h3)) rfl) fun _ _ _ h => rd_rLb h, rfl⟩
    · cases h
  | .blt .sset a, Ξ, X, sc, ex, C, h => by
    simp only [chkL] at h
    split at h
    · simp only [Bool.and_eq_true] at h
      obtain ⟨h1, h2, h3, h4, h5⟩ := h
      have e1 := dec h1
      have e2 := dec h2
      subst e1
      subst e2
      have f1 := C.isF h3
      have f2 := C.isF h4
      exact ⟨P.sset X _ _ _ _ _ _ C.calm (by have := C.room.un; omega) f1.1 f1.2.1 f2.1 f2.2.1 (chkE_nos a sc _ h5) (sndE a _ X sc _ C h5).1, rfl⟩
    · cases h
  | .zipl a b, Ξ, X, sc, ex, C, h => by
    simp only [chkL] at h
    split at h
    · simp only [Bool.and_eq_true] at h
      obtain ⟨h1, h2, h3, h4, h5, h6⟩ := h
      have e1 := dec h1
      have e2 := dec h2
      subst e1
      subst e2
      have f1 := C.isF h3
      have f2 := C.isF h4
      exact ⟨P.zipl X _ _ _ _ _ _ _ _ C.calm f1.1 f1.2.1 f2.1 f2.2.1 (chkE_nos a sc _ h5) (chkE_nos b sc _ h6) (sndE a _ X sc _ C h5).1 (sndE b _ X sc _ C h6).1, rfl⟩
    · cases h
  | .rep l n, Ξ, X, sc, ex, C, h => by
    simp only [chkL] at h
    split at h
    · simp only [Bool.and_eq_true] at h
      have e1 := dec h.1
      subst e1
      exact ⟨snl_rep (sndL l _ X sc _ C h.2).1, rfl⟩
    · cases h
  | .cat a b, Ξ, X, sc, ex, C, h => by
    simp only [chkL] at h
    split at h
    · simp only [Bool.and_eq_true] at h
      exact ⟨snl_cat (sndE a _ X sc _ C h.1).1 (sndE b _ X sc _ C h.2).1, rfl⟩
    · cases h
theorem sndIt : ∀ (it : It) (Ξ : XK) (X : Cx) (sc : Sc) (t ex : Expr), Cc T Φ k N Ξ X sc → chkIt N T it sc t ex = true → PI X t ex (rdI X.K (wsh X.K Ξ) (evalIt T.gvals Φ it))
  | .seq e, Ξ, X, sc, t, ex, C, h => by
    simp only [chkIt] at h
    exact sni_seq (sndE e _ X sc ex C h).1
  | .rng1 a, Ξ, X, sc, t, ex, C, h => by
    simp only [chkIt] at h
    split at h
    · simp only [Bool.and_eq_true] at h
      obtain ⟨h1, h2, h3⟩ := h
      have e1 := dec h1
      subst e1
      have F := C.isF h2
      exact sni_rng F.1 F.2.1 (chkE_nos a sc _ h3) (sndE a _ X sc _ C h3).1
    · cases h
  | .enum a, Ξ, X, sc, t, ex, C, h => by
    simp only [chkIt] at h
    split at h
    · split at h
      · simp only [Bool.and_eq_true] at h
        obtain ⟨h1, h2, h3⟩ := h
        have e1 := dec h1
        subst e1
        have F := C.isF h2
        exact sni_enum F.1 F.2.1 (chkE_nos a sc _ h3) (sndE a _ X sc _ C h3).1
      · cases h
    · cases h
  | .enumT a, Ξ, X, sc, t, ex, C, h => by
    simp only [chkIt] at h
    split at h
    · split at h
      · simp only [Bool.and_eq_true] at h
        obtain ⟨h1, h2, h3⟩ := h
        have e1 := dec h1
        subst e1
        have F := C.isF h2
        exact sni_enumT F.1 F.2.1 (chkE_nos a sc _ h3) (sndE a _ X sc _ C h3).1
      · cases h
    · cases h
  | .vals a, Ξ, X, sc, t, ex, C, h => by
    simp only [chkIt] at h
    split at h
    · simp only [Bool.and_eq_true] at h
      obtain ⟨h1, h2, h3, h4⟩ := h
      have e1 := dec h1
      subst e1
      exact sni_vals h2 h3 (sndE a _ X sc _ C h4).1
    · cases h
  | .zip a b, Ξ, X, sc, t, ex, C, h => by
    simp only [chkIt] at h
    split at h
    · split at h
      · simp only [Bool.and_eq_true] at h
        obtain ⟨h1, h2, h3, h4⟩ := h
        have e1 := dec h1
        subst e1
        have F := C.isF h2
        exact sni_zip F.1 F.2.1 (chkE_nos a sc _ h3) (chkE_nos b sc _ h4) (sndE a _ X sc _ C h3).1 (sndE b _ X sc _ C h4).1
      · cases h
    · cases h
end
end
end AW
set_option maxRecDepth 100000
set_option maxHeartbeats 4000000
namespace AW
open PySem L2
def swapB (sc : Scope) (x : Str) (px : Pos) : Expr → Bool
  | .ListComp _ _ scope p => decide (sc.names.lookup x = some .local) && ((px.line == p.line) && !(scope.names.any fun (n, k) => n == x && (k == .local || k == .cell)))
  | _ => false
def notSD : Expr → Bool
  | .SetComp _ _ _ _ => false
  | .DictComp _ _ _ _ _ => false
  | _ => true
theorem swapB_ok {env : PySem.Env} {x : Str} {px : Pos} {v : Expr} {l : Nat} (hk : env.scope.kind = .function) (hn : notSD v = true) : swapsWith v (some (.Name x px)) l env = pure (swapB env.scope x px v) := by
  cases v <;> first | rfl | (cases hn; done) | skip
  rename_i elt gs scope p
  have hb : env.blockKind = .function := by unfold Env.blockKind; rw [hk]; rfl
  unfold swapsWith swapB
  simp only [hb, Expr.pos]
  have e1 : (env.kindOf x == some NameKind.local) = decide (List.lookup x env.scope.names = some .local) := by
    show (List.lookup x env.scope.names == some NameKind.local) = _
    by_cases h : List.lookup x env.scope.names = some .local
    · rw [h]; rfl
    · rw [decide_eq_false h]; exact beq_eq_false_iff_ne.mpr h
  rw [e1]
  cases decide (List.lookup x env.scope.names = some .local) <;> simp <;> rfl
def swap2B (sc : Scope) (x y : Str) (px py : Pos) (a b : Expr) : Bool := decide (sc.names.lookup x = some .local) && (decide (sc.names.lookup y = some .local) && (decide (x ≠ y) && ((py.line == px.line) && (nos a && (nos b && (!([a, b].all (foldedForSure 8)) && !([a, b].all (constantsAlone 8))))))))
theorem swap2_ok {env : PySem.Env} {x y : Str} {px py pt pt2 : Pos} {k1 k2 : Nat} {a b : Expr} (hk : env.scope.kind = .function) (h : swap2B env.scope x y px py a b = true) : swappedStores [.Tuple [.Name x px, .Name y py] k1 pt] (.Tuple [a, b] k2 pt2) env = pure (some [x, y]) := by
  unfold swap2B at h
  simp only [Bool.and_eq_true, Bool.not_eq_true', decide_eq_true_eq] at h
  obtain ⟨h1, h2, h3, h4, h5, h6, h7, h8⟩ := h
  have hb : env.blockKind = .function := by unfold Env.blockKind; rw [hk]; rfl
  have k1' : (env.kindOf x == some NameKind.local) = true := by show (List.lookup x env.scope.names == _) = true; rw [h1]; rfl
  have k2' : (env.kindOf y == some NameKind.local) = true := by show (List.lookup y env.scope.names == _) = true; rw [h2]; rfl
  have hst : ([a, b].any fun | .Starred .. => true | _ => false) = false := by
    rw [List.any_eq_false]
    intro e he
    have hn : nos e = true := by
      simp only [List.mem_cons, List.not_mem_nil, or_false] at he
      rcases he with rfl | rfl
      · exact h5
      · exact h6
    cases e <;> first | (cases hn; done) | simp
  unfold swappedStores
  simp only [hb]
  simp only [List.length_cons, List.length_nil, hst, h7, h8, List.head?_cons, Option.map_some, Option.getD_some, Expr.pos, List.filterMap_cons, List.filterMap_nil, k1', k2', h4, beq_self_eq_true, Bool.and_self, if_true]
  have hd : [x, y].eraseDups.length = 2 := by
    have : (y == x) = false := beq_eq_false_iff_ne.mpr (fun q => h3 q.symm)
    simp [List.eraseDups, List.eraseDupsBy, List.eraseDupsBy.loop, this]
  simp [hd]
  intro hor
  rcases hor with q | q
  · cases a <;> first | (cases q; done) | (cases h5; done)
  · cases b <;> first | (cases q; done) | (cases h6; done)
def nonLoc2 (sc : Scope) (x y : Str) : Bool := !decide (sc.names.lookup x = some .local) || !decide (sc.names.lookup y = some .local)
theorem swap2_none {env : PySem.Env} {x y : Str} {px py pt pt2 : Pos} {k1 k2 : Nat} {vs : List Expr} (h : nonLoc2 env.scope x y = true) : swappedStores [.Tuple [.Name x px, .Name y py] k1 pt] (.Tuple vs k2 pt2) env = pure none := by
  unfold nonLoc2 at h
  simp only [Bool.or_eq_true, Bool.not_eq_true', decide_eq_false_iff_not] at h
  have kk : ∀ z : Str, ¬ List.lookup z env.scope.names = some .local → (env.kindOf z == some NameKind.local) = false := fun z hz => by
    show (List.lookup z env.scope.names == _) = false
    exact beq_eq_false_iff_ne.mpr hz
  have short : ∀ L : Nat, (List.filterMap (fun e => match e with
      | Expr.Name id pos => if (env.kindOf id == some NameKind.local && pos.line == L) = true then some id else none
      | _ => none) [Expr.Name x px, Expr.Name y py]).length ≠ 2 := by
    intro L
    rcases h with h | h
    · simp only [List.filterMap_cons, List.filterMap_nil, kk x h, Bool.false_and]
      cases (env.kindOf y == some NameKind.local && py.line == L) <;> simp
    · simp only [List.filterMap_cons, List.filterMap_nil, kk y h, Bool.false_and]
      cases (env.kindOf x == some NameKind.local && px.line == L) <;> simp
  unfold swappedStores
  have hs := short (([Expr.Name x px, Expr.Name y py].head?.map (·.pos.line)).getD 0)
  generalize hn : (List.filterMap (fun e => match e with
      | Expr.Name id pos => if (env.kindOf id == some NameKind.local && pos.line == (([Expr.Name x px, Expr.Name y py].head?.map (·.pos.line)).getD 0)) = true then some id else none
      | _ => none) [Expr.Name x px, Expr.Name y py]) = names at hs
  have hl : (names.length != 2) = true := bne_iff_ne.mpr hs
  simp only [List.length_cons, List.length_nil]
  split
  · rfl
  · split
    · rfl
    · show (if (_ != 2 || _) = true then _ else _) = _
      have e : ∀ {c : Bool} {A B : Sem (Option (List Str))}, (if ((names.length != 2) || c) = true then A else B) = A := fun {c A B} => by rw [hl]; rfl
      first
      | exact e
      | (rw [← hn] at e; exact e)
      | (subst hn; exact e)
def swap3B (sc : Scope) (x y z : Str) (px py pz : Pos) (a b c : Expr) : Bool := decide (sc.names.lookup x = some .local) && (decide (sc.names.lookup y = some .local) && (decide (sc.names.lookup z = some .local) && (decide (x ≠ y) && (decide (x ≠ z) && (decide (y ≠ z) && ((py.line == px.line) && ((pz.line == px.line) && (nos a && (nos b && (nos c && (!([a, b, c].all (foldedForSure 8)) && !([a, b, c].all (constantsAlone 8)))))))))))))
theorem swap3_ok {env : PySem.Env} {x y z : Str} {px py pz pt pt2 : Pos} {k1 k2 : Nat} {a b c : Expr} (hk : env.scope.kind = .function) (h : swap3B env.scope x y z px py pz a b c = true) : swappedStores [.Tuple [.Name x px, .Name y py, .Name z pz] k1 pt] (.Tuple [a, b, c] k2 pt2) env = pure (some [x, y, z]) := by
  unfold swap3B at h
  simp only [Bool.and_eq_true, Bool.not_eq_true', decide_eq_true_eq] at h
  obtain ⟨h1, h2, h3, h4, h5, h6, h7, h8, h9, h10, h11, h12, h13⟩ := h
  have hb : env.blockKind = .function := by unfold Env.blockKind; rw [hk]; rfl
  have k1' : (env.kindOf x == some NameKind.local) = true := by show (List.lookup x env.scope.names == _) = true; rw [h1]; rfl
  have k2' : (env.kindOf y == some NameKind.local) = true := by show (List.lookup y env.scope.names == _) = true; rw [h2]; rfl
  have k3' : (env.kindOf z == some NameKind.local) = true := by show (List.lookup z env.scope.names == _) = true; rw [h3]; rfl
  have hst : ([a, b, c].any fun | .Starred .. => true | _ => false) = false := by
    rw [List.any_eq_false]
    intro e he
    have hn : nos e = true := by
      simp only [List.mem_cons, List.not_mem_nil, or_false] at he
      rcases he with rfl | rfl | rfl
      · exact h9
      · exact h10
      · exact h11
    cases e <;> first | (cases hn; done) | simp
  unfold swappedStores
  simp only [hb]
  simp only [List.length_cons, List.length_nil, hst, h12, h13, List.head?_cons, Option.map_some, Option.getD_some, Expr.pos, List.filterMap_cons, List.filterMap_nil, k1', k2', k3', h7, h8, beq_self_eq_true, Bool.and_self, if_true]
  have hd : [x, y, z].eraseDups.length = 3 := by
    have q1 : (y == x) = false := beq_eq_false_iff_ne.mpr (fun q => h4 q.symm)
    have q2 : (z == x) = false := beq_eq_false_iff_ne.mpr (fun q => h5 q.symm)
    have q3 : (z == y) = false := beq_eq_false_iff_ne.mpr (fun q => h6 q.symm)
    simp [List.eraseDups, List.eraseDupsBy, List.eraseDupsBy.loop, q1, q2, q3]
  simp [hd]
  intro hor
  rcases hor with q | q | q
  · cases a <;> first | (cases q; done) | (cases h9; done)
  · cases b <;> first | (cases q; done) | (cases h10; done)
  · cases c <;> first | (cases q; done) | (cases h11; done)
theorem swap_fold {env : PySem.Env} {ts vs : List Expr} {pt pt2 : Pos} {k1 k2 : Nat} (h : vs.all (foldedForSure 8) = true) : swappedStores [.Tuple ts k1 pt] (.Tuple vs k2 pt2) env = pure none := by
  unfold swappedStores
  simp only [h, if_true]
  split
  · rfl
  · split
    · rfl
    · split <;> rfl
theorem swap4_none {env : PySem.Env} {ts vs : List Expr} {pt pt2 : Pos} {k1 k2 : Nat} (h : 4 ≤ ts.length) : swappedStores [.Tuple ts k1 pt] (.Tuple vs k2 pt2) env = pure none := by
  unfold swappedStores
  have e : (!(ts.length == 2 || ts.length == 3)) = true := by
    have q1 : (ts.length == 2) = false := beq_eq_false_iff_ne.mpr (by omega)
    have q2 : (ts.length == 3) = false := beq_eq_false_iff_ne.mpr (by omega)
    rw [q1, q2]; rfl
  simp only [e, Bool.true_or, if_true]
end AW
set_option maxRecDepth 100000
set_option maxHeartbeats 4000000
namespace AW
open PySem L2
section
variable (N : List Str) (T : Tab)
def isLc : E → Bool
  | .lm _ (.lc _ _ _ _) => true
  | _ => false
def parOk (sc : Scope) (is : List Nat) (ts vs : List Expr) : Bool := match is, ts with
  | [i, j], [.Name x px, .Name y py] => (match vs with
    | [a, b] => nonLoc2 sc x y || [a, b].all (foldedForSure 8) || (swap2B sc x y px py a b && (decide (N[i]? = some x) && (decide (N[j]? = some y) && decide (i ≠ j))))
    | _ => nonLoc2 sc x y)
  | [i, j, l], [.Name x px, .Name y py, .Name z pz] => (match vs with
    | [a, b, c] => swap3B sc x y z px py pz a b c && (decide (N[i]? = some x) && (decide (N[j]? = some y) && (decide (N[l]? = some z) && (decide (i ≠ j) && (decide (i ≠ l) && decide (j ≠ l))))))
    | _ => false)
  | is, ts => decide (4 ≤ ts.length) && decide (is.length ≤ 9)
mutual
def chkS : S → Sc → Stmt → Bool
  | .asg i e, sc, st => (match st with
    | .Assign [.Name x px] v _ => decide (N[i]? = some x) && (isLoc sc x && (notSD v && ((!swapB sc x px v || isLc e) && chkE N T e sc v)))
    | _ => false)
  | .par is es, sc, st => (match st with
    | .Assign [.Tuple ts kk pp] (.Tuple vs _ _) _ => parOk N sc is ts vs && (tgOk N sc (.tup is) (.Tuple ts kk pp) && chkEs N T es sc vs)
    | _ => false)
  | .unp is e, sc, st => (match st with
    | .Assign [.Tuple ts kk pp] v _ => tgOk N sc (.tup is) (.Tuple ts kk pp) && (notTup v && (notLc v && chkE N T e sc v))
    | _ => false)
  | .unpS i r e, sc, st => (match st with
    | .Assign [.Tuple [.Name x _, .Starred (.Name y _) _] _ _] v _ => decide (N[i]? = some x) && (isLoc sc x && (decide (N[r]? = some y) && (isLoc sc y && (notTup v && (notLc v && chkE N T e sc v)))))
    | _ => false)
  | .mtch e cs, sc, st => (match st with
    | .Match x ms _ => chkE N T e sc x && chkCs cs sc ms
    | _ => false)
  | .setD a i e, sc, st => (match st with
    | .Assign [.Subscript o x _] v _ => notLc v && (chkE N T a sc o && (chkE N T i sc x && chkE N T e sc v))
    | _ => false)
  | .unpL is e, sc, st => (match st with
    | .Assign [.Tuple ts kk pp] v _ => tgOk N sc (.tup is) (.Tuple ts kk pp) && (notTup v && (notLc v && chkE N T e sc v))
    | _ => false)
  | .setIx a i e, sc, st => (match st with
    | .Assign [.Subscript o x _] v _ => notSlice x && (notLc v && (chkE N T a sc o && (chkE N T i sc x && chkE N T e sc v)))
    | _ => false)
  | .aug i op e, sc, st => (match st with
    | .AugAssign (.Name x _) o v _ => decide (op = o) && (decide (N[i]? = some x) && (isLoc sc x && chkE N T e sc v))
    | _ => false)
  | .ife c t f, sc, st => (match st with
    | .If x a b _ => okT c && (chkE N T c sc x && (chkSs t sc a && chkSs f sc b))
    | _ => false)
  | .forr it tg b, sc, st => (match st with
    | .For t i body [] _ => notSet i && (tgOk N sc tg t && (chkIt N T it sc t i && chkSs b sc body))
    | _ => false)
  | .whil c b, sc, st => (match st with
    | .While x body [] _ => okT c && (chkE N T c sc x && chkSs b sc body)
    | _ => false)
  | .ret e, sc, st => (match st with
    | .Return (some v) _ => chkE N T e sc v
    | _ => false)
  | .retN, _, st => (match st with
    | .Return none _ => true
    | _ => false)
  | .expr e, sc, st => (match st with
    | .Expr v _ => notLc v && chkE N T e sc v
    | _ => false)
  | .pass, _, st => (match st with
    | .Pass _ => true
    | _ => false)
  | .brk, _, st => (match st with
    | .Break _ => true
    | _ => false)
  | .cont, _, st => (match st with
    | .Continue _ => true
    | _ => false)
  | .never, _, _ => true
  | .rais c, sc, st => (match st with
    | .Raise (some (.Call (.Name x _) [.Constant (.str _) _ _] [] _)) none _ => decide (c = x) && (T.excs.contains c && (isGl sc c && plainN c))
    | _ => false)
def chkSs : Ss → Sc → List Stmt → Bool
  | .nil, _, [] => true
  | .cons s ss, sc, x :: xs => chkS s sc x && chkSs ss sc xs
  | .frz _ ss, sc, xs => chkSs ss sc xs
  | _, _, _ => false
def chkCs : Cs → Sc → List MatchCase → Bool
  | .nil, _, [] => true
  | .cons none b _, sc, ⟨.MatchAs none none _, none, body⟩ :: _ => chkSs b sc body
  | .cons (some z) b cs, sc, ⟨.MatchValue (.Constant (.str y) _ _) _, none, body⟩ :: ms => decide (z = y) && (chkSs b sc body && chkCs cs sc ms)
  | .seq is g b cs, sc, ⟨.MatchSequence ps _, gd, body⟩ :: ms => decide (is ≠ []) && (capB N (isLoc sc.s) is ps && (chkC N T g sc gd.toList && (chkSs b sc body && chkCs cs sc ms)))
  | _, _, _ => false
end
end
section
variable {T : Tab} {Φ : Fns} {k : Nat} {N : List Str} (P : Prims) {fuel : Nat}
theorem sub_assign {X : Cx} {o x : Expr} {p : Pos} (h : notSlice x = true) : ∀ v, assign (.Subscript o x p) X.env v = (do
      let ov ← holding [v] (eval o X.env)
      let iv ← holding [v, ov] (eval x X.env)
      standAt p
      holding [v, ov, iv] (setItem ov iv v)
      release [v, ov, iv] []) := by
  intro v
  cases x <;> first | rfl | cases h
include P
mutual
theorem sndS : ∀ (s : S) (Ξ : XK) (X : Cx) (sc : Sc) (st : Stmt), Cc T Φ k N Ξ X sc → (∀ x, X.fn x = true) → PassesOwn (model X.prog X.w) X.A X.env X.xe ∧ Takes X (fun cls d _ H => Ξ cls d H) → chkS N T s sc st = true → PS X st (rdS X.K (wsh X.K Ξ) (execS T.gvals Φ fuel s))
  | .asg i e, Ξ, X, sc, st, C, hf, hp, h => by
    simp only [chkS] at h
    split at h
    · rename_i x px v pos
      simp only [Bool.and_eq_true] at h
      obtain ⟨h1, h2, h3, h4, h5⟩ := h
      have hN : X.N.Nodup := by rw [C.hN]; exact C.nd
      have hi : X.N[i]? = some x := by rw [C.hN]; exact dec h1
      have hk : X.env.scope.kind = .function := by rw [C.hsc]; exact C.kind
      have hsw := swapB_ok (px := px) (x := x) (l := pos.line) hk h3
      rw [C.hsc] at hsw
      cases hb : swapB sc x px v with
      | false =>
        rw [hb] at hsw
        exact sns_asg hN hi (C.loc h2) (.inl (hf x)) hsw (sndE P e _ X sc v C h5).1
      | true =>
        rw [hb] at hsw h4
        have h4 : isLc e = true := by simpa using h4
        unfold isLc at h4
        split at h4
        · rename_i mt it tg c e' _
          simp only [chkE, chkL] at h5
          split at h5
          · rename_i x' t i' ifs scope p
            simp only [Bool.and_eq_true] at h5
            obtain ⟨g0, g1, g2, g3, g4, g5⟩ := h5
            unfold swapB at hb
            simp only [Bool.and_eq_true] at hb
            refine sns_asgLc C.calm hN hi (by rw [C.hsc]; exact dec hb.1) hsw (sndIt P it _ X sc t i' C g3) (by rw [C.hN, C.hsc]; exact blkOk_by g1) (own_slots tg) ?_ ?_ ?_ (notSet_ok g0)
            · exact fun s H Ca cl fp => tg_blk (C.blk g1 s H Ca cl fp) g2
            · exact fun s H Ca cl fp => PTsmono (sndC P c _ _ _ ifs (C.blk g1 s H Ca cl fp) g4) fun _ _ _ z => rd_wn z
            · exact fun s H Ca cl fp => PEmono (sndE P e' _ _ _ x' (C.blk g1 s H Ca cl fp) g5).1 fun _ _ _ z => rd_wn z
          · cases h5
        · cases h4
    · cases h
  | .par is es, Ξ, X, sc, st, C, hf, hp, h => by
    simp only [chkS] at h
    split at h
    · rename_i ts k1 px vs k2 py pos
      simp only [Bool.and_eq_true] at h
      obtain ⟨h1, h2, h3⟩ := h
      have hg := tg_ok C hf h2
      have ha := sndEs P es _ X sc vs C h3
      have hk : X.env.scope.kind = .function := by rw [C.hsc]; exact C.kind
      unfold parOk at h1
      split at h1
      · rename_i i j x px' y py'
        split at h1
        · rename_i a b
          simp only [Bool.or_eq_true, Bool.and_eq_true] at h1
          rcases h1 with (h1 | h1) | ⟨h1, h4, h5, h6⟩
          · exact sns_par (by simp) hg ha (swap2_none (by rw [C.hsc]; exact h1))
          · exact sns_par (by simp) hg ha (swap_fold h1)
          · have h1' := h1
            unfold swap2B at h1'
            simp only [Bool.and_eq_true] at h1'
            exact sns_par2 C.calm (by rw [C.hN]; exact C.nd) (by rw [C.hN]; exact dec h4) (by rw [C.hN]; exact dec h5) (dec h6) (by rw [C.hsc]; exact dec h1'.1) (by rw [C.hsc]; exact dec h1'.2.1) ha (swap2_ok hk (by rw [C.hsc]; exact h1))
        · exact sns_par (by simp) hg ha (swap2_none (by rw [C.hsc]; exact h1))
      · rename_i i j l x px' y py' z pz'
        split at h1
        · rename_i a b c
          simp only [Bool.and_eq_true] at h1
          obtain ⟨h1, h4, h5, h6, h7, h8, h9⟩ := h1
          have h1' := h1
          unfold swap3B at h1'
          simp only [Bool.and_eq_true] at h1'
          exact sns_par3 C.calm (by rw [C.hN]; exact C.nd) (by rw [C.hN]; exact dec h4) (by rw [C.hN]; exact dec h5) (by rw [C.hN]; exact dec h6) (dec h7) (dec h8) (dec h9) (by rw [C.hsc]; exact dec h1'.1) (by rw [C.hsc]; exact dec h1'.2.1) (by rw [C.hsc]; exact dec h1'.2.2.1) ha (swap3_ok hk (by rw [C.hsc]; exact h1))
        · cases h1
      · simp only [Bool.and_eq_true] at h1
        exact sns_par (dec h1.2) hg ha (swap4_none (dec h1.1))
    · cases h
  | .unp is e, Ξ, X, sc, st, C, hf, hp, h => by
    simp only [chkS] at h
    split at h
    · rename_i ts k1 px v pos
      simp only [Bool.and_eq_true] at h
      obtain ⟨h1, h2, h3, h4⟩ := h
      exact sns_unp (tg_ok C hf h1) (sndE P e _ X sc v C h4).1 h2 h3
    · cases h
  | .unpS i r e, Ξ, X, sc, st, C, hf, hp, h => by
    simp only [chkS] at h
    split at h
    · simp only [Bool.and_eq_true] at h
      obtain ⟨h1, h2, h3, h4, h5, h6, h7⟩ := h
      have nd : X.N.Nodup := by rw [C.hN]; exact C.nd
      exact sns_unpS C.calm (pg_name nd (by rw [C.hN]; exact dec h1) (C.loc h2) (.inl (hf _))) (pg_name nd (by rw [C.hN]; exact dec h3) (C.loc h4) (.inl (hf _))) (sndE P e _ X sc _ C h7).1 h6 h5
    · cases h
  | .mtch e cs, Ξ, X, sc, st, C, hf, hp, h => by
    simp only [chkS] at h
    split at h
    · simp only [Bool.and_eq_true] at h
      exact sns_mtch (sndE P e _ X sc _ C h.1).1 (sndCs cs _ X sc _ C hf hp h.2)
    · cases h
  | .setD a i e, Ξ, X, sc, st, C, hf, hp, h => by
    simp only [chkS] at h
    split at h
    · simp only [Bool.and_eq_true] at h
      obtain ⟨h2, h3, h4, h5⟩ := h
      exact sns_setD C.units (sndE P a _ X sc _ C h3).1 (sndE P i _ X sc _ C h4).1 (sndE P e _ X sc _ C h5).1 h2
    · cases h
  | .unpL is e, Ξ, X, sc, st, C, hf, hp, h => by
    simp only [chkS] at h
    split at h
    · rename_i ts k1 px v pos
      simp only [Bool.and_eq_true] at h
      obtain ⟨h1, h2, h3, h4⟩ := h
      exact sns_unpL (tg_unl C hf h1) (sndE P e _ X sc v C h4).1 h2 h3
    · cases h
  | .setIx a i e, Ξ, X, sc, st, C, hf, hp, h => by
    simp only [chkS] at h
    split at h
    · simp only [Bool.and_eq_true] at h
      obtain ⟨h1, h2, h3, h4, h5⟩ := h
      exact sns_setIx (sndE P a _ X sc _ C h3).1 (sndE P i _ X sc _ C h4).1 (sndE P e _ X sc _ C h5).1 h2 (sub_assign h1) rfl rfl
    · cases h
  | .aug i op e, Ξ, X, sc, st, C, hf, hp, h => by
    simp only [chkS] at h
    split at h
    · simp only [Bool.and_eq_true] at h
      obtain ⟨h1, h2, h3, h4⟩ := h
      have e1 := dec h1
      subst e1
      exact sns_aug (by rw [C.hN]; exact C.nd) (by rw [C.hN]; exact dec h2) (C.loc h3) (.inl (hf _)) (sndE P e _ X sc _ C h4).1
    · cases h
  | .ife c t f, Ξ, X, sc, st, C, hf, hp, h => by
    simp only [chkS] at h
    split at h
    · simp only [Bool.and_eq_true] at h
      obtain ⟨h1, h2, h3, h4⟩ := h
      exact sns_if ((sndE P c _ X sc _ C h2).2 h1) (sndSs t _ X sc _ C hf hp h3) (sndSs f _ X sc _ C hf hp h4)
    · cases h
  | .forr it tg b, Ξ, X, sc, st, C, hf, hp, h => by
    simp only [chkS] at h
    split at h
    · simp only [Bool.and_eq_true] at h
      obtain ⟨h1, h2, h3, h4⟩ := h
      exact sns_for hp.1 C.calm (sndIt P it _ X sc _ _ C h3) (tg_ok C hf h2) (sndSs b _ X sc _ C hf hp h4) (notSet_ok h1)
    · cases h
  | .whil c b, Ξ, X, sc, st, C, hf, hp, h => by
    simp only [chkS] at h
    split at h
    · simp only [Bool.and_eq_true] at h
      obtain ⟨h1, h2, h3⟩ := h
      exact sns_while hp.1 ((sndE P c _ X sc _ C h2).2 h1) (sndSs b _ X sc _ C hf hp h3)
    · cases h
  | .ret e, Ξ, X, sc, st, C, hf, hp, h => by
    simp only [chkS] at h
    split at h
    · exact sns_ret (sndE P e _ X sc _ C h).1
    · cases h
  | .retN, Ξ, X, sc, st, C, hf, hp, h => by
    simp only [chkS] at h
    split at h
    · refine PSmono ps_retN fun Dn σ H h => ?_
      obtain ⟨φ, F, ρ, m, R, E, L, h⟩ := h
      exact h φ F H .non (Stp.refl R) Rep.non
    · cases h
  | .expr e, Ξ, X, sc, st, C, hf, hp, h => by
    simp only [chkS] at h
    split at h
    · simp only [Bool.and_eq_true] at h
      exact sns_expr h.1 (sndE P e _ X sc _ C h.2).1
    · cases h
  | .pass, Ξ, X, sc, st, C, hf, hp, h => by
    simp only [chkS] at h
    split at h
    · exact sns_pass
    · cases h
  | .brk, Ξ, X, sc, st, C, hf, hp, h => by
    simp only [chkS] at h
    split at h
    · exact sns_brk
    · cases h
  | .cont, Ξ, X, sc, st, C, hf, hp, h => by
    simp only [chkS] at h
    split at h
    · exact sns_cont
    · cases h
  | .never, Ξ, X, sc, st, C, hf, hp, h => sns_never
  | .rais c, Ξ, X, sc, st, C, hf, hp, h => by
    simp only [chkS] at h
    split at h
    · simp only [Bool.and_eq_true] at h
      obtain ⟨h1, h2, h3, h4⟩ := h
      have e1 := dec h1
      subst e1
      obtain ⟨q1, q2, q3, q4, q5⟩ := C.tok.exc c (by simpa using h2)
      refine PSmono (ps_raise C.calm hp.2 (pmk_own PySem.F.excBase_ValueError q2 q1 q3 (raises_own q4 q5) (C.gl h3) (plain_ok h4).1)) fun Dn σ H z => ?_
      obtain ⟨φ, F, ρ, m, R, E, L, z⟩ := z
      exact z φ F H (Stp.refl R) _ _ ⟨rfl, rfl⟩
    · cases h
theorem sndSs : ∀ (s : Ss) (Ξ : XK) (X : Cx) (sc : Sc) (st : List Stmt), Cc T Φ k N Ξ X sc → (∀ x, X.fn x = true) → PassesOwn (model X.prog X.w) X.A X.env X.xe ∧ Takes X (fun cls d _ H => Ξ cls d H) → chkSs N T s sc st = true → PSs X st (rdS X.K (wsh X.K Ξ) (execSs T.gvals Φ fuel s))
  | .nil, Ξ, X, sc, [], C, hf, hp, h => snss_nil
  | .nil, Ξ, X, sc, _ :: _, C, hf, hp, h => by simp only [chkSs] at h; cases h
  | .cons _ _, Ξ, X, sc, [], C, hf, hp, h => by simp only [chkSs] at h; cases h
  | .cons s ss, Ξ, X, sc, x :: xs, C, hf, hp, h => by
    simp only [chkSs, Bool.and_eq_true] at h
    exact snss_cons (sndS s _ X sc x C hf hp h.1) (sndSs ss _ X sc xs C hf hp h.2)
  | .frz i ss, Ξ, X, sc, xs, C, hf, hp, h => by
    simp only [chkSs] at h
    exact snss_frz (sndSs ss _ X sc xs C hf hp h)
theorem sndCs : ∀ (cs : Cs) (Ξ : XK) (X : Cx) (sc : Sc) (ms : List MatchCase), Cc T Φ k N Ξ X sc → (∀ x, X.fn x = true) → PassesOwn (model X.prog X.w) X.A X.env X.xe ∧ Takes X (fun cls d _ H => Ξ cls d H) → chkCs N T cs sc ms = true → CsOk X (wsh X.K Ξ) ms (execCs T.gvals Φ fuel cs)
  | .nil, Ξ, X, sc, ms, C, hf, hp, h => by
    cases ms with
    | nil => exact cs_nil
    | cons _ _ => simp only [chkCs] at h; cases h
  | .seq is g b cs, Ξ, X, sc, ms, C, hf, hp, h => by
    unfold chkCs at h
    split at h
    · cases ‹Cs.seq _ _ _ _ = Cs.nil›
    · cases ‹Cs.seq _ _ _ _ = Cs.cons _ _ _›
    · cases ‹Cs.seq _ _ _ _ = Cs.cons _ _ _›
    · rename_i gd _ _ e1
      cases e1
      simp only [Bool.and_eq_true] at h
      obtain ⟨h1, h2, h3, h4, h5⟩ := h
      refine cs_seq C.calm (by rw [C.hN]; exact C.nd) (fun x hx => ⟨C.loc hx, .inl (hf x)⟩) (dec h1) (by rw [C.hN]; exact h2) ?_ (sndSs b _ X _ _ C hf hp h4) (sndCs cs _ X _ _ C hf hp h5)
      cases gd with
      | none =>
        cases g with
        | no => rfl
        | yes _ => simp only [Option.toList, chkC] at h3; cases h3
      | some e =>
        cases g with
        | no => simp only [Option.toList, chkC] at h3; cases h3
        | yes g =>
          simp only [Option.toList, chkC, Bool.and_eq_true] at h3
          exact (sndE P g _ X _ e C h3.2).2 h3.1
    · cases h
  | .cons none b cs, Ξ, X, sc, ms, C, hf, hp, h => by
    unfold chkCs at h
    split at h
    · cases ‹Cs.cons _ _ _ = Cs.nil›
    · rename_i e1
      cases e1
      exact cs_any (sndSs b _ X _ _ C hf hp h)
    · cases ‹Cs.cons none _ _ = Cs.cons (some _) _ _›
    · cases ‹Cs.cons _ _ _ = Cs.seq _ _ _ _›
    · cases h
  | .cons (some z) b cs, Ξ, X, sc, ms, C, hf, hp, h => by
    unfold chkCs at h
    split at h
    · cases ‹Cs.cons _ _ _ = Cs.nil›
    · cases ‹Cs.cons (some _) _ _ = Cs.cons none _ _›
    · rename_i e1
      cases e1
      rw [Bool.and_eq_true, Bool.and_eq_true] at h
      obtain ⟨h1, h2, h3⟩ := h
      have e2 := dec h1
      subst e2
      exact cs_str C.units (sndSs b _ X _ _ C hf hp h2) (sndCs cs _ X _ _ C hf hp h3)
    · cases ‹Cs.cons _ _ _ = Cs.seq _ _ _ _›
    · cases h
end
end
end AW
set_option maxRecDepth 100000
set_option maxHeartbeats 4000000
namespace AW
open PySem L2
section
variable {K : Frag} {φ φ' : Nat → Addr} {F F' : Hp} {m m' : Store} {H H' : Hp}
/-- the cells of a call that has ended are forgotten -/
theorem Stp.cut (s : Stp K φ F m H φ' F' m' H') : Stp K φ F m H φ' F' (m'.take m.length) H' where
  len := by rw [List.length_take]; have := s.len; omega
  ext := s.ext
  exF := s.exF
  fr := s.fr
  dead := fun n e => by
    have hn := (List.getElem?_eq_some_iff.mp e).1
    rw [List.getElem?_take_of_lt hn]; exact s.dead n e
  new := fun n h1 h2 => by rw [List.length_take] at h2; omega
  own := s.own
  rel := by
    refine ⟨s.rel.sub, s.rel.pln, s.rel.tabs, fun n c e => ?_, fun n n' h1 h2 => ?_⟩
    · have hn := (List.getElem?_eq_some_iff.mp e).1
      rw [List.length_take] at hn
      rw [List.getElem?_take_of_lt (by omega)] at e
      exact s.rel.cell n c e
    · rw [List.length_take] at h1 h2
      exact s.rel.inj n n' (by omega) (by omega)
end
/-- a cell goes over to the caller -/
theorem Stp.hand {K : Frag} {φ φ' : Nat → Addr} {F F' : Hp} {m m' : Store} {H H' : Hp} {n : Nat} {c : Cel} (s : Stp K φ F m H φ' F' m' H') (hn : m.length ≤ n) (e : m'[n]? = some c) :
    Stp K φ F m H (fun j => if j = m.length then φ' n else φ' j) F' (m'.take m.length ++ [c]) H' := by
  have hnl := (List.getElem?_eq_some_iff.mp e).1
  have hl : (m'.take m.length).length = m.length := by rw [List.length_take]; have := s.len; omega
  have hN : ∀ j, j < m.length → (if j = m.length then φ' n else φ' j) = φ' j := fun j h => if_neg (by omega)
  refine ⟨by rw [List.length_append, hl]; simp, fun j h => by show (if j = m.length then φ' n else φ' j) = _; rw [hN j h]; exact s.ext j h, s.exF, s.fr, fun j ej => ?_, fun j h1 h2 => ?_, s.own, ⟨s.rel.sub, s.rel.pln, s.rel.tabs, fun j c' ej => ?_, fun j j' h1 h2 ejj => ?_⟩⟩
  · have hj := (List.getElem?_eq_some_iff.mp ej).1
    rw [List.getElem?_append_left (by rw [hl]; exact hj), List.getElem?_take_of_lt hj]
    exact s.dead j ej
  · have : j = m.length := by rw [List.length_append, hl] at h2; simp at h2; omega
    subst this
    simp only [if_true]
    exact s.new n hn hnl
  · by_cases hj : j < m.length
    · rw [List.getElem?_append_left (by rw [hl]; exact hj), List.getElem?_take_of_lt hj] at ej
      simp only [hN j hj]
      exact s.rel.cell j c' ej
    · have hlt := (List.getElem?_eq_some_iff.mp ej).1
      have : j = m.length := by rw [List.length_append, hl] at hlt; simp at hlt; omega
      subst this
      rw [List.getElem?_append_right (by rw [hl]; exact Nat.le_refl _), hl] at ej
      simp at ej; subst ej
      simp only [if_true]
      exact s.rel.cell n _ e
  · rw [List.length_append, hl] at h1 h2
    simp at h1 h2
    have hm := s.len
    by_cases hj : j < m.length
    · by_cases hj' : j' < m.length
      · simp only [hN j hj, hN j' hj'] at ejj
        exact s.rel.inj j j' (by omega) (by omega) ejj
      · have : j' = m.length := by omega
        subst this
        simp only [hN j hj, if_true] at ejj
        have := s.rel.inj j n (by omega) hnl ejj
        omega
    · have : j = m.length := by omega
      subst this
      by_cases hj' : j' < m.length
      · simp only [hN j' hj', if_true] at ejj
        have := s.rel.inj n j' hnl (by omega) ejj
        omega
      · omega
theorem post_ret {K : Frag} {φ : Nat → Addr} {F : Hp} {m : Store} {H : Hp} {keep : Bool} {o : Out Fl} {Q : VK} (R : RelS K φ F m H) {Ξ : XK} (h : Post K (wsh K Ξ) (RVl K) φ F m H (finish keep m o) Q) : PostS K (wsh K Ξ) φ F m H o { nx := fun _ H' => Q .non H', rt := Q } := by
  cases o with
  | bad => exact h
  | exc x m' => exact fun φ' F' H' s => h φ' F' H' s.cut
  | ok r m' =>
    cases r with
    | nx ρ => exact fun φ' F' H' σ' s E L => h φ' F' H' _ s.cut Rep.non
    | bk ρ => exact h.elim
    | ct ρ => exact h.elim
    | ret v =>
      cases v with
      | d d => exact fun φ' F' H' u s r => h φ' F' H' u s.cut r
      | cell n =>
        have h : Post K (wsh K Ξ) (RVl K) φ F m H (retV keep m m' (.cell n)) Q := h
        unfold retV at h
        simp only at h
        split at h
        · rename_i hn
          split at h
          · rename_i ds ec
            intro φ' F' H' u s r
            obtain ⟨rfl, hlt⟩ := r
            obtain ⟨vs, e4, hro⟩ := cell_lst s.rel ec
            cases keep with
            | true =>
              simp only [if_true] at h
              have hl : (m'.take m.length).length = m.length := by rw [List.length_take]; have := s.len; omega
              exact h _ _ _ _ (s.hand hn ec) ⟨by simp, by rw [List.length_append, hl]; simp⟩
            | false =>
              simp only [Bool.false_eq_true, if_false] at h
              have s2 := Stp.kill s.rel ec rfl e4
              have s3 := (s.trans s2 R).cut
              have et : (m'.set n .dead).take m.length = m'.take m.length := by
                apply List.ext_getElem?
                intro i
                by_cases hi : i < m.length
                · rw [List.getElem?_take_of_lt hi, List.getElem?_take_of_lt hi, List.getElem?_set_ne (by omega)]
                · rw [List.getElem?_eq_none (by rw [List.length_take]; omega), List.getElem?_eq_none (by rw [List.length_take]; omega)]
              rw [et] at s3
              exact h _ _ _ _ s3 (Rep.lst (SqL.of upd_same) (hro.mono s2.exF))
          · exact h.elim
        · exact h.elim
def scopeB (N : List Str) (np : Nat) (sc : Scope) : Bool := (match sc.kind with | .function => true | _ => false) && (!sc.isCoroutine && (!sc.isGenerator && (decide N.Nodup && (decide (np ≤ N.length) && ((N.take np).all (isLoc sc) && sc.names.all fun y => match y.2 with | .free => false | _ => true)))))
theorem scope_ok {N : List Str} {np : Nat} {sc : Scope} (h : scopeB N np sc = true) : FnScope N (N.take np) sc := by
  unfold scopeB at h
  simp only [Bool.and_eq_true, Bool.not_eq_true', decide_eq_true_eq] at h
  obtain ⟨h1, h2, h3, h4, h5, h6, h7⟩ := h
  refine ⟨?_, h2, h3, h4, ?_, fun x hx => ?_, fun y hy => ?_⟩
  · split at h1
    · assumption
    · cases h1
  · rw [List.length_take, Nat.min_eq_left h5]
  · have := List.all_eq_true.mp h6 x hx
    unfold isLoc at this
    simp only [Bool.or_eq_true, decide_eq_true_eq] at this
    exact this
  · have := List.all_eq_true.mp h7 y hy
    intro q
    rw [q] at this; cases this
/-- how a def's names are bound -/
def BindsB (K : Frag) (f : Def) (fd : FuncData) : Prop := match f.star with
  | false => Binds K fd (f.N.take f.np) []
  | true => ∃ ps pv, f.N.take f.np = ps ++ [pv] ∧ ∀ us rest : List Value, us.length = ps.length → bindArgs fd ⟨us ++ rest, []⟩ = (newTuple rest >>= fun t => pure (ps.zip us ++ [(pv, t)]))
/-- where a def makes a lambda -/
def LamD (K : Frag) (mg : Str → Option Value) (base : Heap) (f : Def) (fd : FuncData) : Prop := f.lam = true → ∃ c P, fd.code = .ref c ∧ LamX.TabB base mg c P ∧ (P, f.name ++ ".<locals>." ++ "<lambda>") ∈ tabsK K ∧ ∀ p ∈ tabsK K, p.1 = P → p.2 = f.name ++ ".<locals>." ++ "<lambda>"
/-- what is known of a def -/
def DOk (K : Frag) (mg : Str → Option Value) (base : Heap) (T : Tab) (f : Def) : Prop := ∃ (fa : Addr) (fd : FuncData) (args : Arguments) (body : List Stmt) (scope : Scope),
  mg f.name = some (.ref fa) ∧ FunD K f.name f.name args body scope [] [] fa fd ∧ BindsB K f fd ∧ LamD K mg base f fd ∧ scopeB f.N f.np scope = true ∧ chkSs f.N T f.body ⟨scope, f.lam⟩ body = true
def DAll (K : Frag) (mg : Str → Option Value) (base : Heap) (T : Tab) : List Def → Prop
  | [] => True
  | f :: fs => DOk K mg base T f ∧ DAll K mg base T fs
theorem DAll.get {K : Frag} {mg : Str → Option Value} {base : Heap} {T : Tab} : ∀ {fs : List Def} {i : Nat} {f : Def}, DAll K mg base T fs → fs[i]? = some f → DOk K mg base T f
  | [], _, _, _, e => by simp at e
  | _ :: _, 0, _, h, e => by simp at e; subst e; exact h.1
  | _ :: _, _ + 1, _, h, e => DAll.get h.2 (by simpa using e)
theorem repVs_get {K : Frag} {φ : Nat → Addr} {F : Hp} {m : Store} : ∀ {vs : List V} {xs : List Val} {i : Nat} {x : Val}, RepVs K φ F m vs xs → xs[i]? = some x → ∃ v, vs[i]? = some v ∧ RepV K φ F m v x
  | _, _, _, _, .nil, e => by simp at e
  | _, _, 0, _, .cons h _, e => by simp at e; subst e; exact ⟨_, rfl, h⟩
  | _, _, i + 1, _, .cons _ r, e => by
    obtain ⟨v, h1, h2⟩ := repVs_get (i := i) r (by simpa using e)
    exact ⟨v, by simpa using h1, h2⟩
section
variable {P : Program} {w : World} {K : Frag} {mg : Str → Option Value} {base : Heap} (Pr : Prims)
/-- the table's facts -/
structure TOk (K : Frag) (mg : Str → Option Value) (base : Heap) (T : Tab) (fs : List Def) : Prop where
  free : ∀ x ∈ T.free, mg x = none
  glob : ∀ x i, (x, i) ∈ T.globs → ∃ u v, mg x = some u ∧ RelV v u ∧ ∀ F, Rep K F v (T.gvals.getD i .non)
  defs : T.defs = fs.map fun f => ⟨f.name, f.np⟩
  all : DAll K mg base T fs
  err : ErrOk K mg T
theorem datas_get : ∀ {vs : List Val} {ds : List D}, Val.datas vs = some ds → vs = ds.map .d
  | [], ds, e => by simp [Val.datas] at e; subst e; rfl
  | .cell _ :: vs, ds, e => by simp [Val.datas, Val.data] at e
  | .d d :: vs, ds, e => by
    simp [Val.datas, Val.data] at e
    obtain ⟨es, e1, rfl⟩ := e
    rw [datas_get e1]; rfl
theorem repVs_take {K : Frag} {φ : Nat → Addr} {F : Hp} {m : Store} : ∀ {vs : List V} {xs : List Val} (n : Nat), RepVs K φ F m vs xs → RepVs K φ F m (vs.take n) (xs.take n)
  | _, _, 0, _ => by simp; exact .nil
  | _, _, _ + 1, .nil => by simp; exact .nil
  | _, _, n + 1, .cons h r => .cons h (repVs_take n r)
theorem repVs_drop {K : Frag} {φ : Nat → Addr} {F : Hp} {m : Store} : ∀ {vs : List V} {xs : List Val} (n : Nat), RepVs K φ F m vs xs → RepVs K φ F m (vs.drop n) (xs.drop n)
  | _, _, 0, r => r
  | _, _, _ + 1, .nil => by simp; exact .nil
  | _, _, n + 1, .cons _ r => repVs_drop n r
theorem repVs_data {K : Frag} {φ : Nat → Addr} {F : Hp} {m : Store} : ∀ {vs : List V} {ds : List D}, RepVs K φ F m vs (ds.map .d) → Reps K F vs ds
  | _, [], .nil => .nil
  | _, _ :: _, .cons h r => .cons h (repVs_data r)
/-- a body at its first names -/
theorem body_go {T : Tab} {fs : List Def} {fuel k : Nat} {f : Def} {φ : Nat → Addr} {F : Hp} {m : Store} {H : Hp} {vs : List V} {xs : List Val} {Q : VK} {Ξ : XK} (R : RelS K φ F m H) (rv : RepVs K φ F m vs xs) (hlx : xs.length = f.np) (hle : f.np ≤ f.N.length)
    (hp : Post K (wsh K Ξ) (RVl K) φ F m H (finish f.keep m (execSs T.gvals (run T.gvals fs fuel k) fuel f.body (startE f xs) m)) Q) : rdS K (wsh K Ξ) (execSs T.gvals (run T.gvals fs fuel k) fuel f.body) { nx := fun _ H' => Q .non H', rt := Q } (L2.start f.N vs) H := by
  have hlv : vs.length = f.np := by rw [← hlx]; exact repVs_len rv
  refine ⟨φ, F, startE f xs, m, R, fun j v ej => ?_, ?_, post_ret R hp⟩
  · unfold startE at ej
    by_cases hj : j < xs.length
    · rw [List.getElem?_append_left (by simpa using hj), List.getElem?_map] at ej
      cases ex : xs[j]? with
      | none => rw [ex] at ej; cases ej
      | some x =>
        rw [ex] at ej; cases ej
        obtain ⟨u, e1, r1⟩ := repVs_get rv ex
        refine ⟨u, ?_, r1⟩
        unfold L2.start
        rw [List.getElem?_append_left (by simp; exact (List.getElem?_eq_some_iff.mp e1).1), List.getElem?_map, e1]; rfl
    · rw [List.getElem?_append_right (by simpa using hj), List.getElem?_replicate] at ej
      split at ej <;> cases ej
  · unfold L2.start startE
    simp only [List.length_append, List.length_map, List.length_replicate]
    rw [hlv, hlx]
include Pr
theorem fn_all {T : Tab} {fs : List Def} {fuel : Nat} (O : TOk K mg base T fs) : ∀ (k i : Nat) (f : Def), fs[i]? = some f → ∃ (fa : Addr), mg f.name = some (.ref fa) ∧ PySem.W.keepIn K (.ref fa) = true ∧ FnQ P w K mg base (L2.CX P w) (3 * k) fa (spQ K (run T.gvals fs fuel k i)) ∧
    ∃ fd, (f.star = false → FnG P w K mg base (L2.CX P w) (3 * k) fa fd (f.N.take f.np) (spD K f.np (run T.gvals fs fuel k i))) ∧ ∃ args body scope, FunD K f.name f.name args body scope [] [] fa fd := by
  intro k
  induction k with
  | zero =>
    intro i f e
    obtain ⟨fa, fd, args, body, scope, h1, h2, h3, hlm, h4, h5⟩ := O.all.get e
    refine ⟨fa, h1, h2.kp, ?_, fd, fun _ => ⟨fun vs H Q E h => ?_, fun A outer s H args us vs Q E hgd hr he hb hv h => ?_⟩, _, _, _, h2⟩
    · intro A outer s H us vs Q E hgd hr he hv h
      obtain ⟨φ, F, m, xs, _, _, hp⟩ := h; exact hp.elim
    · obtain ⟨_, φ, F, m, xs, _, _, hp⟩ := h; exact hp.elim
    · obtain ⟨_, φ, F, m, xs, _, _, hp⟩ := h; exact hp.elim
  | succ k ih =>
    intro i f e
    obtain ⟨fa, fd, args, body, scope, h1, h2, h3, hlm, h4, h5⟩ := O.all.get e
    have sc := scope_ok h4
    have hle : f.np ≤ f.N.length := by
      unfold scopeB at h4
      simp only [Bool.and_eq_true, decide_eq_true_eq] at h4
      exact h4.2.2.2.2.1
    have hnp : (f.N.take f.np).length = f.np := by rw [List.length_take]; omega
    have eqn : ∀ xs us m, f.args xs = some us → run T.gvals fs fuel (k + 1) i xs m = finish f.keep m (execSs T.gvals (run T.gvals fs fuel k) fuel f.body (startE f us) m) := fun xs us m ea => by
      show (match fs[i]? with | none => Out.bad | some f => _) = _
      rw [e]
      show (match f.args xs with | some us => _ | none => _) = _
      rw [ea]
    have ebad : ∀ xs m, f.args xs = none → run T.gvals fs fuel (k + 1) i xs m = .bad := fun xs m ea => by
      show (match fs[i]? with | none => Out.bad | some f => _) = _
      rw [e]
      show (match f.args xs with | some us => _ | none => _) = _
      rw [ea]
    have cc : ∀ {cdv : Value} {A : Around} {outer : List PySem.Env} {s : Shared} {H : Hp} {Ξ : XK}, fd.code = cdv → A.guards = some [] → Room (3 * k + 2) (A.deeper (PyProof.Rows.envOfC f.name scope s.heap.objs.size fa cdv)) → PSs (cxOf (L2.CX P w) P w K mg base f.N f.name scope fa cdv A outer s H Ξ) body (rdS K (wsh K Ξ) (execSs T.gvals (run T.gvals fs fuel k) fuel f.body)) := fun {cdv A outer s H Ξ} hcd hgd hr => by
      have tk := takes_of (X := cxOf (L2.CX P w) P w K mg base f.N f.name scope fa cdv A outer s H Ξ) (E := Ξ) rfl rfl rfl rfl
      refine sndSs (k := k) Pr f.body Ξ _ ⟨scope, f.lam⟩ body ?_ (fun _ => rfl) ⟨passes_of rfl, tk⟩ h5
      refine ⟨rfl, sc.nd, rfl, sc.kind, rfl, hr.mono (by omega), hgd, O.free, O.glob, fun i' g eg => ?_, passes_call tk fun _ _ _ _ z => z, fun hl => ⟨?_, hr⟩, O.err⟩
      case refine_2 =>
        obtain ⟨c, Pt, g1, g2, g3, g4⟩ := hlm hl
        exact ⟨c, Pt, hcd.symm.trans g1, g2, g3, g4⟩
      rw [O.defs, List.getElem?_map] at eg
      cases ef : fs[i']? with
      | none => rw [ef] at eg; cases eg
      | some g' =>
        rw [ef] at eg; cases eg
        obtain ⟨fa', q1, q2, q3, _⟩ := ih i' g' ef
        exact ⟨fa', q1, q2, q3⟩
    cases hs : f.star with
    | false =>
      have eargs : ∀ xs, f.args xs = if xs.length = f.np then some xs else none := fun xs => by unfold Def.args; rw [hs]
      have h3 : Binds K fd (f.N.take f.np) [] := by unfold BindsB at h3; rw [hs] at h3; exact h3
      have G : FnG P w K mg base (L2.CX P w) (3 * k + 2 + 1) fa fd (f.N.take f.np) (spD K f.np (run T.gvals fs fuel (k + 1) i)) := by
        refine fnG_of h2 sc (fun vs H Q E h => by rw [hnp]; exact h.1) (fun cdv A outer s H vs Q E hcd hgd hr h => ?_)
        obtain ⟨hlv, φ, F, m, xs, R, rv, hp⟩ := h
        have hlx : xs.length = f.np := by rw [← repVs_len rv]; exact hlv
        rw [eqn xs xs m (by rw [eargs, if_pos hlx])] at hp
        exact ⟨_, cc hcd hgd hr, body_go R rv hlx hle hp⟩
      refine ⟨fa, h1, h2.kp, ?_, fd, fun _ => G, _, _, _, h2⟩
      have GQ := G.q h3
      intro A outer s H us vs Q E hgd hr e0 r h
      refine GQ A outer s H us vs Q E hgd hr e0 r ?_
      obtain ⟨φ, F, m, xs, R, rv, hp⟩ := h
      refine ⟨?_, φ, F, m, xs, R, rv, hp⟩
      rw [repVs_len rv]
      by_cases hl : xs.length = f.np
      · exact hl
      · rw [ebad xs m (by rw [eargs, if_neg hl])] at hp; exact hp.elim
    | true =>
      have h3 : ∃ ps pv, f.N.take f.np = ps ++ [pv] ∧ ∀ us rest : List Value, us.length = ps.length → bindArgs fd ⟨us ++ rest, []⟩ = (newTuple rest >>= fun t => pure (ps.zip us ++ [(pv, t)])) := by unfold BindsB at h3; rw [hs] at h3; exact h3
      obtain ⟨ps, pv, ep, hb⟩ := h3
      have hnp1 : ps.length + 1 = f.np := by rw [← hnp, ep]; simp
      refine ⟨fa, h1, h2.kp, ?_, fd, (fun z => nomatch z), _, _, _, h2⟩
      have GQ := fnQ_star (P := P) (w := w) (mg := mg) (base := base) (CX := L2.CX P w) (k := 3 * k + 2) (sp := fun vs H Q Ξ => ∃ φ F m xs, RelS K φ F m H ∧ RepVs K φ F m vs xs ∧ xs.length = f.np ∧ Post K (wsh K Ξ) (RVl K) φ F m H (finish f.keep m (execSs T.gvals (run T.gvals fs fuel k) fuel f.body (startE f xs) m)) Q) h2 (by rw [← ep]; exact sc) StX.cxUp hb
        (fun cdv A outer s H vs Q E hcd hgd hr h => by
          obtain ⟨φ, F, m, xs, R, rv, hlx, hp⟩ := h
          exact ⟨_, cc hcd hgd hr, body_go R rv hlx hle hp⟩)
      intro A outer s H us vs Q E hgd hr e0 r h
      refine GQ A outer s H us vs Q E hgd hr e0 r ?_
      obtain ⟨φ, F, m, xs, R, rv, hp⟩ := h
      cases ea : f.args xs with
      | none => rw [ebad xs m ea] at hp; exact hp.elim
      | some ys =>
        rw [eqn xs ys m ea] at hp
        unfold Def.args at ea
        rw [hs] at ea
        simp only at ea
        split at ea
        · rename_i hge
          cases ed : Val.datas (xs.drop (f.np - 1)) with
          | none => rw [ed] at ea; cases ea
          | some ds =>
            rw [ed] at ea
            simp only [Option.bind_some] at ea
            split at ea
            · rename_i hsm
              cases ea
              have e1 := datas_get ed
              have rr := repVs_drop (f.np - 1) rv
              rw [e1] at rr
              have rd := repVs_data rr
              have hlv := repVs_len rv
              refine ⟨vs.take (f.np - 1), vs.drop (f.np - 1), (List.take_append_drop _ _).symm, ?_, ?_, fun p hpn => ?_⟩
              · rw [List.length_take]; omega
              · rw [rd.length]; exact of_decide_eq_true hsm
              · have s := Stp.newF (o := .tup (vs.drop (f.np - 1))) R hpn
                refine ⟨φ, _, m, _, s.rel, repVs_app (RepVs.step s (repVs_take (f.np - 1) rv)) (.cons ?_ .nil), ?_, Post.step R hp s⟩
                · exact Rep.tup (SqT.of upd_same) (rd.mono s.exF)
                · rw [List.length_append, List.length_take]; simp; omega
            · cases ea
        · cases ea
omit Pr in
def plainPart (H : Hp) : Hp := fun a => match H a with
  | some (.tbl _) => none
  | some (.ext _) => none
  | o => o
omit Pr in
theorem plainPart_of {H : Hp} {a : Addr} {o : HO} (h : H a = some o) (p : Plain o) : plainPart H a = some o := by
  unfold plainPart
  rw [h]
  cases o <;> first | rfl | exact absurd rfl (p.1 _) | exact absurd rfl (p.2 _)
omit Pr in
theorem plainPart_sub {H : Hp} {a : Addr} {o : HO} (h : plainPart H a = some o) : H a = some o ∧ Plain o := by
  unfold plainPart at h
  cases e : H a with
  | none => rw [e] at h; cases h
  | some u =>
    rw [e] at h
    cases u <;> first | (cases h; done) | (cases h; exact ⟨rfl, fun _ q => (nomatch q), fun _ q => (nomatch q)⟩)
omit Pr in
/-- what the law's head asks: the promise at the script -/
theorem law_sp {f : List Val → Store → Out Val} {H : Hp} {a : Addr} {ns : List Int} (hT : TabsH K H) (hS : SqL K H a (ns.map V.int)) (h : ∃ m', f [.d (.lst (ns.map D.int))] [] = .ok (.d (.bl true)) m') {Ξ : XK} : spD K 1 f [.ref a] H (fun v _ => v = .bl true) Ξ := by
  obtain ⟨m', e⟩ := h
  have rs : ∀ ns : List Int, Reps K (plainPart H) (ns.map V.int) (ns.map D.int) := by
    intro ns
    induction ns with
    | nil => exact .nil
    | cons n ns ih => exact .cons (.int n) ih
  have hS' : SqL K (plainPart H) a (ns.map V.int) := by
    rcases hS with (h | ⟨o, h⟩) | h
    · exact .inl (.inl (plainPart_of h ⟨fun _ q => (nomatch q), fun _ q => (nomatch q)⟩))
    · exact .inl (.inr ⟨o, plainPart_of h ⟨fun _ q => (nomatch q), fun _ q => (nomatch q)⟩⟩)
    · exact .inr h
  refine ⟨rfl, fun _ => 0, plainPart H, [], [.d (.lst (ns.map D.int))], ⟨fun a o e => (plainPart_sub e).1, fun a o e => (plainPart_sub e).2, hT, fun n o e => by simp at e, fun n n' h => by simp at h⟩, .cons (Rep.lst hS' (rs ns)) .nil, ?_⟩
  rw [e]
  intro φ' F' H' b s r
  cases (show Rep K F' b (.bl true) from r)
  rfl
end
end AW
set_option maxRecDepth 100000
set_option maxHeartbeats 4000000
namespace AW
open PySem PySem.Spec PyProof.Rows L2
/-- one texts' set: what its table holds -/
def keyS (e : Int × Value) : Str := match e.2 with
  | .str x _ => x
  | _ => Str.empty
structure TabS (w : World) (ys : List Str) (es : Array (Int × Value)) (t : SetTable) : Prop where
  good : ∀ e ∈ es.toList, ∃ x k, e.2 = Value.str x k ∧ e.1 = hashStr w x
  pm : (es.toList.map keyS).Perm ys
  nd : ys.Nodup
  few : es.size < scanBound
  fit : t.fits es.size = true
  ris : Ris t.place.toList
  led : w.params.followText "set-order" = true ∨ t.led = true
def SetS (w : World) (h : Heap) (a : Addr) (ys : List Str) : Prop := ∃ o es ep t, h.get? a = some o ∧ o.ExactSet ∧ o.data = .set es ep t ∧ TabS w ys es t
def addS (x : Str) (ys : List Str) : List Str := if x ∈ ys then ys else x :: ys
def addAll : List Str → List Str → List Str
  | ys, [] => ys
  | ys, x :: xs => addAll (addS x ys) xs
section
variable {P : Program} {w : World} {A : Around} {E : Value → Shared → Prop} {s : Shared} {a : Addr} {ys : List Str}
variable {es : Array (Int × Value)} {t : SetTable}
theorem TabS.elems (T : TabS w ys es t) : ElemsOf (PySem.strKind P w) es.toList := fun e he => by
  obtain ⟨x, k, q1, q2⟩ := T.good e he
  exact ⟨⟨x, by rw [q1]; exact strKind_is P w x k, q2⟩, by rw [q1]; rfl⟩
theorem TabS.mem (P : Program) (T : TabS w ys es t) (x : Str) : x ∈ ys ↔ ∃ e ∈ es.toList, (PySem.strKind P w).is x e.2 = true := by
  rw [← T.pm.mem_iff, List.mem_map]
  refine exists_congr fun e => and_congr_right fun he => ?_
  obtain ⟨y, k, q1, _⟩ := T.good e he
  unfold keyS
  rw [q1]
  show y = x ↔ (y == x) = true
  exact beq_iff_eq.symm
theorem TabS.size (T : TabS w ys es t) : es.size = ys.length := by rw [← T.pm.length_eq, List.length_map, Array.length_toList]
theorem TabS.shift {es' : Array (Int × Value)} {t' : SetTable} (T : TabS w ys es t) (pm : es'.toList.Perm es.toList) (hf : t'.fits es'.size = true) (hr : Ris t'.place.toList) (hl : t'.led = t.led) : TabS w ys es' t' where
  good := fun e he => T.good e (pm.mem_iff.mp he)
  pm := (pm.map keyS).trans T.pm
  nd := T.nd
  few := by
    have : es'.size = es.size := by rw [← Array.length_toList, pm.length_eq, Array.length_toList]
    rw [this]; exact T.few
  fit := hf
  ris := hr
  led := T.led.imp id fun z => by rw [hl]; exact z
theorem SetS.at {h h' : Heap} (R : SetS w h a ys) (k : ∀ o, h.get? a = some o → h'.get? a = some o) : SetS w h' a ys := by
  obtain ⟨o, es, ep, t, q, r⟩ := R
  exact ⟨o, es, ep, t, k o q, r⟩
theorem sadd_tail {gw : Bool → Sem Unit} (hgw : ∀ (b : Bool) (z : Shared) (Z : Unit → Shared → Prop), Z () z → wpAny (model P w) A (gw b) Z E z)
    {o : Obj} {es0 : Array (Int × Value)} {ep : Nat} {t0 : SetTable} (go : s.heap.get? a = some o) (gx : o.ExactSet) (gd : o.data = .set es0 ep t0) (T : TabS w ys es t) {wd : Bool} {Z : Option Bool → Shared → Prop}
    (fin : ∀ h', Heap.SameBut a s.heap h' → SetS w h' a ys → Z (some true) { s with heap := h' }) :
    wpAny (model P w) A (do
      storeSet a es t
      if (!wd && t.tooFull) = true then do
        gw (relayAll t es (SetTable.grown es.size)).2.2
        storeSet a (relayAll t es (SetTable.grown es.size)).1 (relayAll t es (SetTable.grown es.size)).2.1
        pure (some true)
      else pure (some true)) Z E s := by
  refine wpAny_bind (wpAny_storeSet_of go gd ?_ (fits_of_scanBound T.few))
  have go1 := store_at (es' := es) (t' := t) go gd
  have same1 := Heap.SameBut.update s.heap a (Obj.putSet es t)
  by_cases c : (!wd && t.tooFull) = true
  · rw [if_pos c]
    have T2 : TabS w ys (relayAll t es (SetTable.grown es.size)).1 (relayAll t es (SetTable.grown es.size)).2.1 :=
      T.shift (relayAll_perm t es _) (relayAll_fits t es _) (relayAll_ris t es _) (relayAll_led t es _)
    refine wpAny_bind (hgw _ _ _ (wpAny_bind (wpAny_storeSet_of go1 rfl ?_ (fits_of_scanBound T2.few))))
    exact wpAny_pure (fin _ (same1.trans (Heap.SameBut.update _ a _)) ⟨_, _, _, _, store_at go1 rfl, gx, rfl, T2⟩)
  · rw [if_neg c]
    exact wpAny_pure (fin _ same1 ⟨_, _, _, _, go1, gx, rfl, T⟩)
theorem sadd {x : Str} {k : Tok} {Z : Bool → Shared → Prop} (R : SetS w s.heap a ys) (room : ys.length + 1 < scanBound)
    (fin : ∀ h', Heap.SameBut a s.heap h' → SetS w h' a (addS x ys) → ∀ b, Z b { s with heap := h' }) : wpAny (model P w) A (setAddHashed a (.str x k) ((PySem.strKind P w).hash x)) Z E s := by
  obtain ⟨o, es, ep, t, go, gx, gd, T⟩ := R
  have sc : (Value.str x k).scannable = true := rfl
  unfold setAddHashed setAddHashedIn
  refine wpAny_holding (wpAny_bind (wpAny_setState_of go gd T.fit ?_))
  dsimp only
  rw [byScan_of sc T.few (T.elems (P := P))]
  simp only [↓reduceIte]
  unfold setAddByScan
  refine wpAny_bind (wpAny_bind (wpAny_rule (wpAny_bind (wpAny_setScan_of (strKind_is P w x k) go gd T.fit (T.elems (P := P)) ?_))))
  cases found : List.findIdx? (fun e => (PySem.strKind P w).is x e.2) es.toList with
  | some j =>
    dsimp only
    obtain ⟨hj, pj, _⟩ := List.findIdx?_eq_some_iff_getElem.mp found
    have hx : x ∈ ys := (T.mem P x).2 ⟨es.toList[j], List.getElem_mem hj, pj⟩
    refine wpAny_pure (wpAny_pure (fin s.heap (Heap.SameBut.refl a s.heap) ⟨o, es, ep, t, go, gx, gd, ?_⟩ _))
    unfold addS
    rw [if_pos hx]; exact T
  | none =>
    dsimp only
    have hx : x ∉ ys := fun z => by
      obtain ⟨e, he, q⟩ := (T.mem P x).1 z
      have c := List.findIdx?_eq_none_iff.mp found e he
      rw [q] at c; cases c
    have pl := (layNew_perm t es ((PySem.strKind P w).hash x) (.str x k))
    have fl := layNew_fits t es ((PySem.strKind P w).hash x) (.str x k)
    have rl := layNew_ris t es ((PySem.strKind P w).hash x) (.str x k) T.ris
    have ll := layNew_led t es ((PySem.strKind P w).hash x) (.str x k)
    generalize layNew t es ((PySem.strKind P w).hash x) (.str x k) = Y at pl fl rl ll ⊢
    obtain ⟨es1, t1, wd, gave⟩ := Y
    dsimp only at pl fl rl ll ⊢
    rw [Array.toList_push] at pl
    have pc := pl.trans (List.perm_append_singleton _ _)
    have T1 : TabS w (addS x ys) es1 t1 := {
      good := fun e he => by
        rcases List.mem_cons.mp (pc.mem_iff.mp he) with z | z
        · rw [z]; exact ⟨x, k, rfl, rfl⟩
        · exact T.good e z
      pm := by
        unfold addS
        rw [if_neg hx]
        exact (pc.map keyS).trans (List.Perm.cons x T.pm)
      nd := by
        unfold addS
        rw [if_neg hx]
        exact List.nodup_cons.mpr ⟨hx, T.nd⟩
      few := by
        have : es1.size = ys.length + 1 := by rw [← Array.length_toList, pc.length_eq, List.length_cons, Array.length_toList, T.size]
        rw [this]; exact room
      fit := fl
      ris := rl
      led := T.led.imp id fun z => by rw [ll]; exact z }
    have gw : ∀ (b : Bool) (z : Shared) (Z : Unit → Shared → Prop), Z () z → wpAny (model P w) A (match b with | true => rule "set.scan.the-table-gave-way" | false => pure ()) Z E z :=
      fun b z Z q => by cases b <;> first | exact wpAny_pure q | exact wpAny_rule q
    refine wpAny_bind (gw _ _ _ ?_)
    split
    · refine wpAny_bind ?_
      rw [hashByValue_scannable 8 sc]
      refine wpAny_pure ?_
      refine sadd_tail gw go gx gd ?_ fun h' sb r => by dsimp only; exact wpAny_pure (fin h' sb r _)
      first
        | (split <;> first | exact T1 | exact T1.shift .rfl (SetTable.fits_plain_off fl) rl rfl)
        | exact T1
    · refine wpAny_bind (wpAny_pure ?_)
      simp only [↓reduceIte]
      exact sadd_tail gw go gx gd T1 fun h' sb r => by dsimp only; exact wpAny_pure (fin h' sb r _)
end
end AW
set_option maxRecDepth 100000
set_option maxHeartbeats 4000000
namespace AW
open PySem PySem.Spec PyProof.Rows L2
abbrev newS (w : World) : Obj := { cls := .type "set", dict := none, data := .set #[] 0 (.fresh 0 0 (!w.params.followText "set-order")) }
theorem addS_len (x : Str) (ys : List Str) : (addS x ys).length ≤ ys.length + 1 := by
  unfold addS
  split
  · exact Nat.le_succ _
  · exact Nat.le_refl _
section
variable {P : Program} {w : World} {A : Around} {Z : Result → Shared → Prop} {I : Addr} {fp wr : List Addr} {G : Array GenState → Array GenState → Prop} {n : Nat} {Pv : Nat → Value → Prop} {St : Nat → Shared → Prop}
theorem sloop (W : WalksS P w A.in1 I fp wr G n Pv St) (a : Addr) (ha : a ∉ fp) (xs : List Str) (hn : xs.length = n) (h64 : n < 64) (hv : ∀ i v, Pv i v → ∃ t, v = .str (xs.getD i Str.empty) t) :
    ∀ (k i : Nat) (s : Shared) (ys : List Str), n - i = k → i ≤ n → ys.length ≤ i → St i s → SetS w s.heap a ys →
      (∀ s', Moved (a :: wr) G s s' → SetS w s'.heap a (addAll ys (xs.drop i)) → Z (.ok (.ret .none)) s') →
      codeAny (model P w) A (.builtin "set.update.loop" ⟨[.ref a, .ref I], []⟩) Z s := by
  have haw : a ∉ wr := fun q => ha (W.sub _ q)
  have sub : ∀ b ∈ wr, b ∈ a :: wr := fun b q => List.mem_cons_of_mem _ q
  intro k
  induction k with
  | zero =>
    intro i s ys hk hi hl hst R fin
    obtain rfl : i = n := by omega
    refine codeAny_builtin PyProof.Rows.F.entry_set_update_loop ?_
    rw [Around.under_plainId PyProof.Rows.F.plain_set_update_loop _]
    show wpAny _ A.in1 (pyNext (.ref I) >>= _) _ _ s
    refine wpAny_bind (W.done s _ _ hst fun s' mv => ?_)
    show wpAny _ A.in1 (ret Value.none) _ _ s'
    refine wpAny_pure (fin s' (mv.mono sub) ?_)
    rw [List.drop_of_length_le (Nat.le_of_eq hn)]
    exact R.at fun o q => mv.heap a _ haw q
  | succ k ih =>
    intro i s ys hk hi hl hst R fin
    have hlt : i < n := by omega
    refine codeAny_builtin PyProof.Rows.F.entry_set_update_loop ?_
    rw [Around.under_plainId PyProof.Rows.F.plain_set_update_loop _]
    show wpAny _ A.in1 (pyNext (.ref I) >>= _) _ _ s
    refine wpAny_bind (W.item i s _ _ hlt hst fun v s' pv st' mv => ?_)
    obtain ⟨tk, rfl⟩ := hv i v pv
    have hd : xs.drop i = xs.getD i Str.empty :: xs.drop (i + 1) := by
      rw [List.drop_eq_getElem_cons (by omega), show xs.getD i Str.empty = xs[i]'(by omega) from by simp [List.getD, List.getElem?_eq_getElem (show i < xs.length by omega)]]
    generalize xs.getD i Str.empty = x at hd ⊢
    show wpAny _ A.in1 (holding [Value.str x tk] (setAdd a (.str x tk)) >>= _) _ _ s'
    refine wpAny_bind (wpAny_holding ?_)
    unfold setAdd
    refine wpAny_holding (wpAny_bind ((PySem.strKind P w).pyHash (k := x) (strKind_is _ _ _ _) ?_))
    refine sadd (s := { s' with toks := s'.toks + 1 }) (R.at fun o q => mv.heap a _ haw q) (by unfold scanBound; omega) fun h' sb R2 b => ?_
    refine wpAny_pure ⟨plainId_quiet PyProof.Rows.F.plain_set_update_loop _, ih (i + 1) _ (addS x ys) (by omega) hlt (Nat.le_trans (addS_len x ys) (by omega)) (W.frame _ s' _ _ st' (Nat.le_succ _) fun b hb o e => ?_) R2 fun s2 mv2 R3 => ?_⟩
    · exact (sb.2 b fun q => ha (q ▸ hb)).trans e
    · refine fin s2 (Moved.trans W.gtrans ((mv.mono sub).then_heap (Nat.le_succ _) fun b o hb e => (sb.2 b fun q => hb (q ▸ List.mem_cons_self)).trans e) mv2) ?_
      rw [hd]; exact R3
end
section
variable {P : Program} {w : World} {A : Around} {E : Value → Shared → Prop} {s : Shared}
theorem setS_fresh {h : Heap} (w : World) : SetS w (h.push (newS w)) h.objs.size [] :=
  ⟨_, #[], 0, _, Heap.get?_push_size _ rfl, ⟨rfl, rfl, rfl⟩, rfl, {
    good := fun e he => by simp at he
    pm := by simp
    nd := by simp
    few := by decide
    fit := by rfl
    ris := List.Pairwise.nil
    led := by
      show _ ∨ (!w.params.followText "set-order") = true
      cases w.params.followText "set-order"
      · exact .inr rfl
      · exact .inl rfl }⟩
theorem code_new1 (v : Value) {Z : Value → Shared → Prop} (h : Z (.ref s.heap.objs.size) { s with heap := s.heap.push (newS w) }) :
    codeAny (model P w) A (.call (.builtin "set.__new__") ⟨[.type "set", v], []⟩) (wants Z E) s := by
  refine codeAny_of_tree ?_
  show wpAny _ A.in1 (do
    checkBuiltinCall "set.__new__" ⟨[.type "set", v], []⟩
    again (.builtin "set.__new__" ⟨[.type "set", v], []⟩)) _ _ s
  refine wpAny_bind (wpAny_of_eq (PySem.F.newCall_set_1 v) (wpAny_pure ⟨plainId_quiet PySem.F.plain_set_new _, codeAny_builtin PySem.F.entry_set_new ?_⟩))
  rw [Around.under_plainId PySem.F.plain_set_new _]
  unfold Builtin.«set.__new__» Builtin.Frozenset.newClass
  have self := sub_set_self
  obtain ⟨hp, g, d, tk, os⟩ := s
  dsimp only
  wp_walk
  refine wpAny_askSetting (wpAny_pure ?_)
  dsimp only
  simp only [newObj]
  exact wpAny_bind (wpAny_alloc (wpAny_pure (wpAny_pure h)))
theorem call_setS {l : Addr} {items : Array Value} {xs : List Str} {Z : Value → Shared → Prop} (hh : A.handled = none) (hl : s.heap.IsList l items ∨ s.heap.IsTuple l items)
    (hi : StrsAre items.toList xs) (h64 : xs.length < 64)
    (h : ∀ (h' : Heap) (tk : Nat), SetS w h' s.heap.objs.size (addAll [] xs) → (∀ b o, s.heap.get? b = some o → h'.get? b = some o) → Z (.ref s.heap.objs.size) { s with heap := h', toks := tk }) :
    wpAny (model P w) A (call (.type "set") [.ref l]) Z E s := by
  obtain ⟨c, tl, hmro⟩ := PySem.F.called_set.mro
  have made := PySem.F.called_set.made
  have sub := PySem.F.called_set.sub
  refine wpAny_call (codeAny_of_tree ?_)
  show wpAny _ _ (callAny (.type "set") _) _ _ _
  refine wpAny_pure ⟨Code.quiet_builtin _ (by decide +kernel), codeAny_builtin PySem.F.entry_type_call ?_⟩
  rw [Around.under_plain (weight_type_call_type "set" [.ref l] []) rfl]
  have q1 := PySem.F.called_set.notType
  have q2 := PySem.F.called_set.canCreate
  have q3 := PySem.F.typeCall_set_1 (.ref l)
  repeat (any_goals (first | assumption | wp_step))
  refine codeAny_mono (code_new1 (.ref l) (E := E) (Z := fun v s1 => v = .ref s.heap.objs.size ∧ s1 = { s with heap := s.heap.push (newS w) }) ⟨rfl, rfl⟩) fun r s1 hr => ?_
  cases r with
  | error e => exact hr
  | ok fl =>
    cases fl with
    | ret v =>
      obtain ⟨rfl, rfl⟩ := hr
      have hS : (s.heap.push (newS w)).get? s.heap.objs.size = some (newS w) := Heap.get?_push_size _ rfl
      have hT : Shared.TypeIs { s with heap := s.heap.push (newS w) } (.ref s.heap.objs.size) "set" := ⟨_, hS, rfl⟩
      have q4 := PySem.F.called_set.init.lookup
      have q5 := PySem.F.called_set.init.bind (.ref s.heap.objs.size)
      repeat (any_goals (first | assumption | wp_step))
      refine codeAny_mono (codeAny_call_builtin (R := wants (fun r s2 => r = .none ∧ ∃ h' tk, s2 = { s with heap := h', toks := tk } ∧ SetS w h' s.heap.objs.size (addAll [] xs) ∧ ∀ b o, s.heap.get? b = some o → h'.get? b = some o) E)
        PySem.F.called_set.init.plain PySem.F.entry_set_init (check_set_init_1 hT ?_)) fun r2 s2 hr2 => ?_
      · have hsz : xs.length = items.size := by rw [← StrsAre.len_eq hi, Array.length_toList]
        have hv : ∀ (i : Nat) (v : Value), items[i]? = some v → ∃ t, v = .str (xs.getD i Str.empty) t := fun i v q => SS.strs_at hi i v (by rw [Array.getElem?_toList]; exact q)
        have e3 : A.in1.in1.in1.handled = none := by simp [hh]
        rcases hl with hl | hl <;>
        · have hl1 := hl
          obtain ⟨⟨oc, od, ot, os⟩, go, hc, nl, hd⟩ := hl
          simp only at hc hd
          subst hc; subst hd
          have hlS : l < s.heap.objs.size := Heap.lt_size go
          have go1 := Heap.get?_push_of_some (newS w) go
          have d1 := PySem.F.sub_list_set
          have d2 := PySem.F.sub_list_frozenset
          have d3 := PySem.F.sub_tuple_set
          have d4 := PySem.F.sub_tuple_frozenset
          have d5 : (Value.type "list" == Value.type "dict") = false := by decide
          have d6 : (Value.type "tuple" == Value.type "dict") = false := by decide
          have hl2 := hl1.push (newS w)
          unfold Builtin.«set.__init__» noKeywords Builtin.Frozenset.updateFrom
          generalize pin : pyIter = PI
          wp_walk
          subst pin
          have far : l ≠ (s.heap.push (newS w)).objs.size := by rw [Heap.size_push]; exact Nat.ne_of_lt (Nat.lt_succ_of_lt hlS)
          have off : s.heap.objs.size ∉ [(s.heap.push (newS w)).objs.size, l] := by
            rw [Heap.size_push]
            simp only [List.mem_cons, List.not_mem_nil, or_false, not_or]
            exact ⟨Nat.ne_of_lt (Nat.lt_succ_self _), Nat.ne_of_gt hlS⟩
          first
            | refine wpAny_pyIter_list hl2 (wpAny_bind (wpAny_runValue (sloop ((Walks.list e3 _ l far items).toS) s.heap.objs.size off xs hsz (by omega) hv (items.size - 0) 0 _ [] (by omega) (Nat.zero_le _) (Nat.zero_le _) ⟨⟨_, Heap.get?_push_size _ rfl, rfl, rfl⟩, hl2.push _⟩ ((setS_fresh w).at fun o q => Heap.get?_push_of_some _ q) fun s' mv R => ?_)))
            | refine wpAny_pyIter_tuple hl2 (wpAny_bind (wpAny_runValue (sloop ((Walks.tuple e3 _ l far items).toS) s.heap.objs.size off xs hsz (by omega) hv (items.size - 0) 0 _ [] (by omega) (Nat.zero_le _) (Nat.zero_le _) ⟨⟨_, Heap.get?_push_size _ rfl, rfl, rfl⟩, hl2.push _⟩ ((setS_fresh w).at fun o q => Heap.get?_push_of_some _ q) fun s' mv R => ?_)))
          obtain ⟨h', g', d', tk', os'⟩ := s'
          obtain rfl : g' = s.gens := mv.gens
          obtain rfl : d' = s.drawn := mv.drawn
          obtain rfl : os' = s.os := mv.os
          show wpAny _ _ _ _ _ _
          refine wpAny_pure ?_
          show wpAny _ _ (ret Value.none) _ _ _
          refine wpAny_pure ⟨rfl, h', tk', rfl, R, fun b o e => ?_⟩
          have hb := Heap.lt_size e
          refine mv.heap b o ?_ (Heap.get?_push_of_some _ (Heap.get?_push_of_some _ e))
          rw [Heap.size_push]
          simp only [List.mem_cons, List.not_mem_nil, or_false, not_or]
          exact ⟨Nat.ne_of_lt hb, Nat.ne_of_lt (Nat.lt_succ_of_lt hb)⟩
      · cases r2 with
        | error e => exact hr2
        | ok f2 =>
          cases f2 with
          | ret r =>
            obtain ⟨rfl, h', tk, rfl, R, kk⟩ := hr2
            repeat (any_goals (first | assumption | wp_step))
            exact h _ _ R kk
          | _ => exact hr2.elim
    | _ => exact hr.elim
end
end AW
set_option maxRecDepth 100000
set_option maxHeartbeats 4000000
namespace AW
open PySem L2
section
variable {X : Cx} {W : Wsh}
theorem c_repr (hc : X.calm = true) (hg : X.A.guards = some []) (hu : X.A.units + 150 < cLine) : CallR X (.builtin "repr") (r1c X.K W (b1D .repr)) := by
  intro pins s σ H xs us Q I r h
  obtain ⟨x, φ, F, m, dx, z, rfl, R, px, e, h⟩ := h
  have e : (reprD dx).map D.str = some z := e
  unfold reprD at e
  cases ep : dx.py with
  | none => rw [ep] at e; cases e
  | some p =>
    rw [ep] at e
    simp only [Option.bind_some] at e
    split at e
    · rename_i hs
      cases e
      simp only [Bool.and_eq_true, Bool.not_eq_true', decide_eq_true_eq] at hs
      obtain ⟨⟨⟨h1, h2⟩, h3⟩, h4⟩ := hs
      have h4 : p.shown.length ≤ sizeLine := of_decide_eq_true h4
      obtain ⟨u, rfl, rx⟩ := vals1 r
      have dp := px.dp R.sub ep
      have hq : Q (.str p.shown) H := h.at R (.str _)
      have fin : ∀ tk, EP X pins σ Q (.str p.shown tk) { s with toks := s.toks + 1 } := fun tk => ⟨.str p.shown, H, I.tok _, ⟨_, rfl⟩, hq⟩
      have seqs : ∀ a, u = .ref a → wpAny (model X.prog X.w) X.A (call (.builtin "repr") [u]) (EP X pins σ Q) X.xe s := by
        rintro a rfl
        obtain ⟨as, rds⟩ := Dp.reads I p x _ dp rx
        exact repr_of_reads' rds h1 (PyData.noDict_hsm h2) hg (by omega) (fun _ _ e => e) (fun h' u' tk hk => ⟨.str p.shown, H, I.kept (t' := tk) hk, ⟨_, rfl⟩, hq⟩) h4
      cases dp with
      | non => cases rx; exact P.repr_of_none (fin _)
      | bl b => cases rx; exact P.repr_of_bool (fin _)
      | int i =>
        obtain ⟨t, rfl⟩ := rx
        exact P.repr_of_int (by simpa [PyData.showable] using h1) (fin _)
      | str y =>
        obtain ⟨t, rfl⟩ := rx
        exact P.repr_of_str (fin _) h4
      | lst hl _ => exact seqs _ rx
      | tup hl _ => exact seqs _ rx
    · cases e
theorem vals_signs {s : Str} {acc : Array Value} (h : ItemsOf (SignAt s) acc s.cps.size) : Vals (s.cps.toList.map fun c => V.str ⟨#[c]⟩) acc.toList := by
  have key : ∀ (cs : List Nat) (vs : List Value), vs.length = cs.length → (∀ (j : Nat) (v : Value), vs[j]? = some v → ∃ c u, cs[j]? = some c ∧ v = .str ⟨#[c]⟩ u) → Vals (cs.map fun c => V.str ⟨#[c]⟩) vs := by
    intro cs
    induction cs with
    | nil => intro vs hl _; cases vs with | nil => exact .nil | cons _ _ => cases hl
    | cons c cs ih =>
      intro vs hl hh
      cases vs with
      | nil => cases hl
      | cons v vs =>
        obtain ⟨c', u, e1, e2⟩ := hh 0 v rfl
        cases e1
        refine .cons ⟨u, e2⟩ (ih vs (by simpa using hl) fun j w hw => ?_)
        exact hh (j + 1) w (by simpa using hw)
  refine key _ _ (by rw [Array.length_toList, h.1, Array.length_toList]) fun j v hv => ?_
  obtain ⟨c, u, hc, e⟩ := h.2 j v (by simpa using hv)
  exact ⟨c, u, by simpa using hc, e⟩
theorem c_list (hc : X.calm = true) : CallR X (.type "list") (rLb X.K (lbD .list)) := by
  intro pins s σ H xs us Q I r h
  obtain ⟨x, φ, F, m, dx, ds, rfl, R, px, e, h⟩ := h
  have e : seqD dx = some ds := e
  cases dx <;> simp only [seqD] at e <;> try (cases e; done)
  · rename_i t _
    split at e
    · rename_i hs; cases e
      obtain ⟨u, rfl, rx⟩ := vals1 r
      rw [px.str] at rx
      obtain ⟨tk, rfl⟩ := rx
      have hs : t.cps.size ≤ sizeLine := of_decide_eq_true hs
      refine call_list_str (I.ok.hd hc) t tk (hn := hs) fun h' tk' acc c hk hS hacc => ?_
      have hv := vals_signs hacc
      have hlen : (t.cps.toList.map fun c => V.str ⟨#[c]⟩).length ≤ sizeLine := by simpa using hs
      refine ⟨.ref s.heap.objs.size, _, I.laid (o := .lst (t.cps.toList.map fun c => V.str ⟨#[c]⟩)) (t' := tk') hk (Nat.le_refl _) ⟨hlen, acc.toList, c, hv, by simpa using hS⟩, rfl, ?_⟩
      refine h φ F H _ _ (Stp.refl R) ?_ I.fresh
      have all : ∀ cs : List Nat, Reps X.K F (cs.map fun c => V.str ⟨#[c]⟩) (cs.map fun c => D.str ⟨#[c]⟩) := by
        intro cs
        induction cs with
        | nil => exact .nil
        | cons c cs ih => exact .cons (.str _) ih
      exact all _
    · cases e
  · cases e
    obtain ⟨q, vs, rfl, h1, r1⟩ := px.tup
    exact call_list_of pins s σ H _ us Q I r ⟨q, vs, rfl, .inr (R.sub.t h1), fun l hl => h φ F H vs l (Stp.refl R) r1 hl⟩
  · cases e
    obtain ⟨q, vs, rfl, h1, r1⟩ := px.lst R.sub
    exact call_list_of pins s σ H _ us Q I r ⟨q, vs, rfl, .inl h1, fun l hl => h φ F H vs l (Stp.refl R) r1 hl⟩
theorem kV_rep {K : Frag} {F : Hp} {u : V} {d : D} {k : Key} (r : Rep K F u d) (e : keyOfD d = some k) : u = kV k ∧ d = keyD k := by
  cases d <;> simp only [keyOfD] at e <;> try (cases e; done)
  · cases e; cases r; exact ⟨rfl, rfl⟩
  · cases e; cases r; exact ⟨rfl, rfl⟩
theorem pairs_rep {K : Frag} {F : Hp} : ∀ {vs : List V} {ds : List D} {ps : List (Key × D)}, Reps K F vs ds → pairsD ds = some ps →
    ∃ (as : List Addr) (kvs : List (Key × V)), vs = as.map V.ref ∧ Paired (fun p kv => SqT K F p [kV kv.1, kv.2]) as kvs ∧ kvs.map (·.1) = ps.map (·.1) ∧ Reps K F (kvs.map (·.2)) (ps.map (·.2))
  | _, _, _, .nil, e => by cases e; exact ⟨[], [], rfl, .nil, rfl, .nil⟩
  | _, _, ps, .cons (d := d) (ds := ds) h r, e => by
    cases d <;> try (simp only [pairsD] at e; cases e; done)
    rename_i ts
    match ts, h, e with
    | [k, v], h, e =>
      have e : ((keyOfD k).bind fun k => (pairsD ds).map fun r => (k, v) :: r) = some ps := e
      cases ek : keyOfD k with
      | none => rw [ek] at e; cases e
      | some k' =>
        cases er : pairsD ds with
        | none => rw [ek, er] at e; cases e
        | some rr =>
          rw [ek, er] at e; cases e
          obtain ⟨as, kvs, e1, e2, e3, e4⟩ := pairs_rep r er
          cases h with
          | tup h1 r1 =>
            cases r1 with
            | cons q1 q2 =>
              cases q2 with
              | cons q2 q3 =>
                cases q3
                obtain ⟨rfl, _⟩ := kV_rep q1 ek
                exact ⟨_ :: as, (k', _) :: kvs, by rw [e1]; rfl, .cons h1 e2, by simp [e3], .cons q2 e4⟩
    | [], h, e => simp only [pairsD] at e; cases e
    | [_], h, e => simp only [pairsD] at e; cases e
    | _ :: _ :: _ :: _, h, e => simp only [pairsD] at e; cases e
theorem c_dict (hc : X.calm = true) : CallR X (.type "dict") (r1c X.K W (b1D .dict)) := by
  intro pins s σ H xs us Q I r h
  obtain ⟨x, φ, F, m, dx, z, rfl, R, px, e, h⟩ := h
  cases dx <;> simp only [b1D] at e <;> try (cases e; done)
  rename_i ds
  cases ep : pairsD ds with
  | none => rw [ep] at e; cases e
  | some ps =>
    rw [ep] at e
    simp only [Option.bind_some] at e
    split at e
    · rename_i hs; cases e
      obtain ⟨q, vs, rfl, h1, r1⟩ := px.lst R.sub
      obtain ⟨as, kvs, rfl, e2, e3, e4⟩ := pairs_rep r1 ep
      have e5 : mergeK [] kvs = kvs := by rw [merge_new kvs [] (by rw [List.nil_append, e3]; exact hs.1)]; rfl
      refine cr_frz (call_dictP hc) pins s σ H _ us Q I r ⟨q, as, kvs, rfl, h1, Paired.mapP e2 fun _ _ z => R.sub.t z, fun l hl => ?_⟩
      rw [e5]
      refine ⟨l, .dK kvs, rfl, upd_same, trivial, fun od => ?_⟩
      rw [upd_upd]
      refine h.new R hl (.dct upd_same ?_ (e4.mono (Ext.new (R.fresh hl))))
      have : ∀ (a : List (Key × V)) (b : List (Key × D)), a.map (·.1) = b.map (·.1) → a.map (fun p => keyD p.1) = b.map (fun p => keyD p.1) := by
        intro a b hab
        have : a.map (fun p => keyD p.1) = (a.map (·.1)).map keyD := by rw [List.map_map]; rfl
        rw [this, hab, List.map_map]; rfl
      exact this kvs ps e3
    · cases e
end
end AW
set_option maxRecDepth 100000
set_option maxHeartbeats 4000000
/-! list(zip(a, b)), a and b lists -/
namespace AW
open PySem
theorem zip_no_len : typeLookup (.type "zip") "__len__" = pure none := am_miss_of_fast (by decide +kernel)
theorem zip_no_hint : typeLookup (.type "zip") "__length_hint__" = pure none := am_miss_of_fast (by decide +kernel)
/-- a zip on its way, its tuples kept -/
def ZSt (z TI TO i1 i2 l1 l2 S : Addr) (xs ys : Array Value) (i : Nat) (h : Heap) : Prop :=
  IsPair h TI (.ref i1) (.ref i2) ∧ h.IsListIter i1 l1 i ∧ h.IsListIter i2 l2 i ∧ h.IsList l1 xs ∧ h.IsList l2 ys ∧
    ((IsZip h z TI TO .none ∧ ∃ a b, IsPair h TO a b) ∨ ∃ T f oT, IsZipHeld h z TI TO T f ∧ h.get? T = some oT ∧ T ≠ z ∧ T ≠ i1 ∧ T ≠ i2 ∧ T ≠ S)
/-- the list lies apart from the zip -/
structure Off (z TI TO i1 i2 l1 l2 S : Addr) : Prop where
  z : z ≠ S
  TI : TI ≠ S
  TO : TO ≠ S
  i1 : i1 ≠ S
  i2 : i2 ≠ S
  l1 : l1 ≠ S
  l2 : l2 ≠ S
section
variable {z TI TO i1 i2 l1 l2 S : Addr} {xs ys : Array Value} {i : Nat} {h h' : Heap}
theorem ZSt.keep (st : ZSt z TI TO i1 i2 l1 l2 S xs ys i h) (O : Off z TI TO i1 i2 l1 l2 S) (hk : ∀ b o, b ≠ S → h.get? b = some o → h'.get? b = some o) : ZSt z TI TO i1 i2 l1 l2 S xs ys i h' := by
  obtain ⟨hTI, h1, h2, hl1, hl2, hz⟩ := st
  refine ⟨hk _ _ O.TI hTI, h1.at fun o e => hk _ o O.i1 e, h2.at fun o e => hk _ o O.i2 e, hl1.at fun o e => hk _ o O.l1 e, hl2.at fun o e => hk _ o O.l2 e, ?_⟩
  rcases hz with ⟨hz, a, b, hTO⟩ | ⟨T, f, oT, hz, hT, r1, r2, r3, r4⟩
  · exact .inl ⟨hk _ _ O.z hz, a, b, hk _ _ O.TO hTO⟩
  · exact .inr ⟨T, f, oT, hk _ _ O.z hz, hk _ _ r4 hT, r1, r2, r3, r4⟩
end
section
variable {prog : Program} {w : World} {A : Around} {E : Value → Shared → Prop} {s : Shared} {z TI TO i1 i2 l1 l2 S : Addr} {xs ys : Array Value} {i : Nat}
theorem nxtZ (D : ZipApart z TI TO i1 i2 l1 l2) (st : ZSt z TI TO i1 i2 l1 l2 S xs ys i s.heap) (hS : S < s.heap.objs.size) {x y : Value} (ex : xs[i]? = some x) (ey : ys[i]? = some y) {Q : Option Value → Shared → Prop}
    (hQ : ∀ h', ZSt z TI TO i1 i2 l1 l2 S xs ys (i + 1) h' → IsPair h' s.heap.objs.size x y → (∀ c o, c ≠ z → c ≠ TO → c ≠ i1 → c ≠ i2 → s.heap.get? c = some o → h'.get? c = some o) → Q (some (.ref s.heap.objs.size)) { s with heap := h' }) :
    wpAny (model prog w) A (pyNext (.ref z)) Q E s := by
  obtain ⟨hTI, h1, h2, hl1, hl2, hz⟩ := st
  have lt : ∀ {c o}, s.heap.get? c = some o → s.heap.objs.size ≠ c := fun e => Nat.ne_of_gt (Heap.lt_size e)
  have n1 : s.heap.objs.size ≠ i1 := let ⟨_, e, _⟩ := h1; lt e
  have n2 : s.heap.objs.size ≠ i2 := let ⟨_, e, _⟩ := h2; lt e
  rcases hz with ⟨hz, a, b, hTO⟩ | ⟨T, f, oT, hz, hT, r1, r2, r3, r4⟩
  · refine wpAny_pyNext_zip_item D hz hTI hTO h1 h2 hl1 hl2 ex ey fun h' a1 a2 a3 a4 a5 a6 hk => ?_
    exact hQ h' ⟨hk _ _ D.TIz D.TITO D.TIi1 D.TIi2 hTI, a3, a4, hl1.at fun o e => hk _ o D.l1z D.l1TO D.l1i1 D.l1i2 e, hl2.at fun o e => hk _ o D.l2z D.l2TO D.l2i1 D.l2i2 e,
      .inr ⟨s.heap.objs.size, false, _, a1, a5, lt hz, n1, n2, Nat.ne_of_gt hS⟩⟩ a5 hk
  · refine wpAny_pyNext_zip_item_held D hz hT hTI h1 h2 hl1 hl2 ex ey fun h' a1 a3 a4 a5 a6 hk => ?_
    exact hQ h' ⟨hk _ _ D.TIz D.TIi1 D.TIi2 hTI, a3, a4, hl1.at fun o e => hk _ o D.l1z D.l1i1 D.l1i2 e, hl2.at fun o e => hk _ o D.l2z D.l2i1 D.l2i2 e,
      .inr ⟨T, true, oT, a1, hk _ _ r1 r2 r3 hT, r1, r2, r3, r4⟩⟩ a5 fun c o c1 _ c3 c4 e => hk c o c1 c3 c4 e
theorem finZ (hA : A.handled = none) (D : ZipApart z TI TO i1 i2 l1 l2) (st : ZSt z TI TO i1 i2 l1 l2 S xs ys i s.heap) (hend : xs[i]? = none ∨ ys[i]? = none) {Q : Option Value → Shared → Prop}
    (hQ : ∀ h', (∀ c o, c ≠ z → c ≠ TO → c ≠ i1 → c ≠ i2 → s.heap.get? c = some o → h'.get? c = some o) → Q none { s with heap := h' }) :
    wpAny (model prog w) A (pyNext (.ref z)) Q E s := by
  obtain ⟨hTI, h1, h2, hl1, hl2, hz⟩ := st
  rcases hz with ⟨hz, a, b, hTO⟩ | ⟨T, f, oT, hz, hT, r1, r2, r3, r4⟩
  · exact wpAny_pyNext_zip_end hA D hz hTI hTO h1 h2 hl1 hl2 hend fun h' hk => hQ h' fun c o c1 c2 c3 c4 e => hk c o c1 c2 c3 c4 e
  · exact wpAny_pyNext_zip_end_held hA D hz hT hTI h1 h2 hl1 hl2 hend fun h' hk => hQ h' fun c o c1 _ c3 c4 e => hk c o c1 c3 c4 e
end
/-- the pairs made so far, all behind lo -/
structure MadeZ (xs ys : Array Value) (lo : Addr) (h : Heap) (as : List Addr) : Prop where
  nd : as.Nodup
  above : ∀ a ∈ as, lo < a
  pairs : ∀ (j : Nat) (a : Addr), as[j]? = some a → ∃ x y, xs[j]? = some x ∧ ys[j]? = some y ∧ IsPair h a x y
theorem MadeZ.there {xs ys : Array Value} {lo : Addr} {h : Heap} {as : List Addr} (g : MadeZ xs ys lo h as) {a : Addr} (ha : a ∈ as) : a < h.objs.size := by
  obtain ⟨j, hj⟩ := List.mem_iff_getElem?.mp ha
  obtain ⟨_, _, _, _, e⟩ := g.pairs j a hj
  exact Heap.lt_size e
section
variable {prog : Program} {w : World} {A : Around} {s : Shared} {R : Result → Shared → Prop} {z TI TO i1 i2 l1 l2 S : Addr} {xs ys : Array Value}
/-- all of the zip lies below the list -/
structure Low (z TI TO i1 i2 l1 l2 S : Addr) : Prop where
  z : z < S
  TI : TI < S
  TO : TO < S
  i1 : i1 < S
  i2 : i2 < S
  l1 : l1 < S
  l2 : l2 < S
theorem Low.off (L : Low z TI TO i1 i2 l1 l2 S) : Off z TI TO i1 i2 l1 l2 S := ⟨Nat.ne_of_lt L.z, Nat.ne_of_lt L.TI, Nat.ne_of_lt L.TO, Nat.ne_of_lt L.i1, Nat.ne_of_lt L.i2, Nat.ne_of_lt L.l1, Nat.ne_of_lt L.l2⟩
theorem loopZ (hh : A.handled = none) (D : ZipApart z TI TO i1 i2 l1 l2) (L : Low z TI TO i1 i2 l1 l2 S) {n : Nat} (hx : n ≤ xs.size) (hy : n ≤ ys.size) (hend : xs[n]? = none ∨ ys[n]? = none) (hz : n ≤ sizeLine) (res : Value) {h₁ : Heap}
    (hR : ∀ h' tk acc c as, (∀ b o, b ≠ S → b ≠ z → b ≠ TO → b ≠ i1 → b ≠ i2 → h₁.get? b = some o → h'.get? b = some o) → h'.get? S = some { cls := .type "list", dict := none, data := .seq acc c, slots := #[] } → as.length = n → MadeZ xs ys S h' as →
      acc.toList = as.map Value.ref → R (.ok (.ret res)) { s with heap := h', toks := tk }) :
    ∀ (k i : Nat) (h : Heap) (tk c : Nat) (acc : Array Value) (as : List Addr), n - i = k → i ≤ n → ZSt z TI TO i1 i2 l1 l2 S xs ys i h → (∀ b o, b ≠ S → b ≠ z → b ≠ TO → b ≠ i1 → b ≠ i2 → h₁.get? b = some o → h.get? b = some o) →
      h.get? S = some { cls := .type "list", dict := none, data := .seq acc c, slots := #[] } → acc.toList = as.map Value.ref → as.length = i → MadeZ xs ys S h as →
      codeAny (model prog w) A (.builtin "list.extend.loop" ⟨[.ref S, .ref z, res], []⟩) R { s with heap := h, toks := tk } := by
  have gt : ∀ {a b : Addr}, b < S → S < a → a ≠ b := fun p q => Nat.ne_of_gt (Nat.lt_trans p q)
  intro k
  induction k with
  | zero =>
    intro i h tk c acc as hk hi hst hkeep hS hacc hal hG
    refine codeAny_builtin PySem.F.entry_extend_loop ?_
    rw [Around.under_plainId PySem.F.plain_extend_loop _]
    show wpAny _ A.in1 (pyNext (.ref z) >>= _) _ _ _
    refine wpAny_bind (finZ (s := { s with heap := h, toks := tk }) (A := A.in1) hh D hst ((show i = n by omega) ▸ hend) fun h' he => ?_)
    have hS' := he S _ (Ne.symm L.off.z) (Ne.symm L.off.TO) (Ne.symm L.off.i1) (Ne.symm L.off.i2) hS
    refine wpAny_pure (hR h' tk acc c as (fun b o b0 b1 b2 b3 b4 e => he b o b1 b2 b3 b4 (hkeep b o b0 b1 b2 b3 b4 e)) hS' (by omega) ⟨hG.nd, hG.above, fun j a hj => ?_⟩ hacc)
    obtain ⟨x, y, e1, e2, e3⟩ := hG.pairs j a hj
    have ha := hG.above a (List.mem_of_getElem? hj)
    exact ⟨x, y, e1, e2, he a _ (gt L.z ha) (gt L.TO ha) (gt L.i1 ha) (gt L.i2 ha) e3⟩
  | succ k ih =>
    intro i h tk c acc as hk hi hst hkeep hS hacc hal hG
    have hlt0 : i < n := by omega
    have hlt : i < xs.size := by omega
    have hlt2 : i < ys.size := by omega
    have ex := Array.getElem?_eq_getElem hlt
    have ey := Array.getElem?_eq_getElem hlt2
    have hsz : acc.size = i := by rw [← Array.length_toList, hacc, List.length_map, hal]
    have hSl : S < h.objs.size := Heap.lt_size hS
    refine codeAny_builtin PySem.F.entry_extend_loop ?_
    rw [Around.under_plainId PySem.F.plain_extend_loop _]
    show wpAny _ A.in1 (pyNext (.ref z) >>= _) _ _ _
    refine wpAny_bind (nxtZ (s := { s with heap := h, toks := tk }) D hst hSl ex ey fun h' hst' hT hkp => ?_)
    dsimp only at hT hkp ⊢
    have hS' := hkp S _ (Ne.symm L.off.z) (Ne.symm L.off.TO) (Ne.symm L.off.i1) (Ne.symm L.off.i2) hS
    have up : ∀ b o, b ≠ S → h'.get? b = some o → (h'.update S (Obj.mapSeq (·.push (Value.ref h.objs.size)))).get? b = some o := fun b o hb e => (Heap.get?_update_other _ _ (Ne.symm hb)).trans e
    show wpAny _ A.in1 (updateSeq S (·.push (Value.ref h.objs.size)) >>= _) _ _ _
    refine wpAny_bind ?_
    refine wpAny_updateSeq hS' rfl (wpAny_pure ⟨plainId_quiet PySem.F.plain_extend_loop _, ih (i + 1) _ tk _ (acc.push (Value.ref h.objs.size)) (as ++ [h.objs.size]) (by omega) hlt0 (hst'.keep L.off up)
      (fun b o b0 b1 b2 b3 b4 e => up b o b0 (hkp b o b1 b2 b3 b4 (hkeep b o b0 b1 b2 b3 b4 e))) (Heap.get?_update_self _ hS' rfl) (by rw [Array.toList_push, hacc, List.map_append]; rfl) (by rw [List.length_append, hal]; rfl) ⟨?_, ?_, ?_⟩⟩) (by rw [hsz]; omega) (by show (acc.push (Value.ref h.objs.size)).size ≤ sizeLine + 1; rw [Array.size_push, hsz]; omega)
    · refine List.nodup_append.mpr ⟨hG.nd, (by simp), fun a ha b hb => ?_⟩
      rw [List.mem_singleton.mp hb]
      exact Nat.ne_of_lt (hG.there ha)
    · intro a ha
      rcases List.mem_append.mp ha with ha | ha
      · exact hG.above a ha
      · rw [List.mem_singleton.mp ha]; exact hSl
    · intro j b hj
      rcases Nat.lt_trichotomy j as.length with q | q | q
      · rw [List.getElem?_append_left q] at hj
        obtain ⟨x, y, e1, e2, e3⟩ := hG.pairs j b hj
        have hb := hG.above b (List.mem_of_getElem? hj)
        exact ⟨x, y, e1, e2, up b _ (Nat.ne_of_gt hb) (hkp b _ (gt L.z hb) (gt L.TO hb) (gt L.i1 hb) (gt L.i2 hb) e3)⟩
      · subst q
        have hb : h.objs.size = b := by simpa using hj
        subst hb
        subst hal
        exact ⟨_, _, ex, ey, up _ _ (Nat.ne_of_gt hSl) hT⟩
      · have hnone : (as ++ [h.objs.size])[j]? = none := List.getElem?_eq_none (by rw [List.length_append, List.length_singleton]; omega)
        rw [hnone] at hj; cases hj
end
section
variable {prog : Program} {w : World} {A : Around} {s : Shared} {R : Result → Shared → Prop} {z TI TO i1 i2 l1 l2 S : Addr} {xs ys : Array Value}
theorem extZ (hh : A.handled = none) (D : ZipApart z TI TO i1 i2 l1 l2) (L : Low z TI TO i1 i2 l1 l2 S) {n : Nat} (hx : n ≤ xs.size) (hy : n ≤ ys.size) (hend : xs[n]? = none ∨ ys[n]? = none) (hz : n ≤ sizeLine) (hZ : IsZip s.heap z TI TO .none) (st : ZSt z TI TO i1 i2 l1 l2 S xs ys 0 s.heap) (res : Value) (c₀ : Nat)
    (hS : s.heap.get? S = some { cls := .type "list", data := .seq #[] c₀ })
    (hR : ∀ h' tk acc c as, (∀ b o, b ≠ S → b ≠ z → b ≠ TO → b ≠ i1 → b ≠ i2 → s.heap.get? b = some o → h'.get? b = some o) → h'.get? S = some { cls := .type "list", dict := none, data := .seq acc c, slots := #[] } → as.length = n → MadeZ xs ys S h' as →
      acc.toList = as.map Value.ref → R (.ok (.ret res)) { s with heap := h', toks := tk }) :
    wpAny (model prog w) A.in1 (Builtin.List.listExtendWith (.ref S) (.ref z) res)
      (fun fin s' => match fin with | .done f => R (.ok f) s' | .again c' => c'.quiet = true ∧ codeAny (model prog w) A c' R s') (fun e s' => R (.error e) s') s := by
  have hT : s.TypeIs (.ref z) "zip" := ⟨_, hZ, rfl⟩
  unfold Builtin.List.listExtendWith
  refine wpAny_bind (wpAny_typeOf hT ?_)
  have h1 : Builtin.List.listSameRef (.ref S) (.ref z) = false := by simp [Builtin.List.listSameRef, Ne.symm L.off.z]
  have h2 : (Value.type "zip" == Value.type "list") = false := by decide
  have h3 : (Value.type "zip" == Value.type "tuple") = false := by decide
  simp only [h1, h2, h3, Bool.or_false, Bool.false_eq_true, if_false]
  refine wpAny_bind (wpAny_pyIter_zip hZ ?_)
  refine wpAny_bind (wpAny_holding ?_)
  unfold Builtin.List.listLengthHint
  refine wpAny_bind (wpAny_specialOf hT zip_no_len ?_)
  show wpAny _ A.in1 (specialOf (Value.ref z) (Str.ofString "__length_hint__") >>= _) _ _ _
  refine wpAny_bind (wpAny_specialOf hT zip_no_hint ?_)
  refine wpAny_pure ?_
  show wpAny _ A.in1 (rule "list.extend.makes-room" >>= fun _ => Builtin.List.listTouch (.ref S) >>= fun _ =>
    again (.builtin "list.extend.loop" ⟨[.ref S, .ref z, res], []⟩)) _ _ _
  refine wpAny_bind (wpAny_rule ?_)
  refine wpAny_bind ?_
  show wpAny _ A.in1 (updateSeq S (·.push .none) >>= fun _ => updateSeq S (·.pop)) _ _ _
  refine wpAny_bind (wpAny_updateSeq hS rfl ?_)
  have hS₂ := Heap.get?_update_self (Obj.mapSeq (·.push Value.none)) hS rfl
  refine wpAny_updateSeq (hz := by seq_fits) hS₂ rfl ?_
  have hS₃ := Heap.get?_update_self (Obj.mapSeq (·.pop)) hS₂ rfl
  have oth : ∀ b o, b ≠ S → s.heap.get? b = some o → ((s.heap.update S (Obj.mapSeq (·.push Value.none))).update S (Obj.mapSeq (·.pop))).get? b = some o :=
    fun b o hb e => (Heap.get?_update_other _ _ (Ne.symm hb)).trans ((Heap.get?_update_other _ _ (Ne.symm hb)).trans e)
  exact wpAny_pure ⟨plainId_quiet PySem.F.plain_extend_loop _, loopZ (s := s) (h₁ := s.heap) hh D L hx hy hend hz res hR n 0 _ s.toks _ #[] [] (Nat.sub_zero _) (Nat.zero_le _) (st.keep L.off oth)
    (fun b o b0 _ _ _ _ e => oth b o b0 e) hS₃ rfl rfl ⟨List.nodup_nil, (fun _ ha => nomatch ha), (fun j a hj => by simp at hj)⟩⟩
end
section
variable {prog : Program} {w : World} {A : Around} {E : Value → Shared → Prop} {s : Shared} {z TI TO i1 i2 l1 l2 : Addr} {xs ys : Array Value}
theorem call_listZ {Q : Value → Shared → Prop} (hh : A.handled = none) (D : ZipApart z TI TO i1 i2 l1 l2) {n : Nat} (hx : n ≤ xs.size) (hy : n ≤ ys.size) (hend : xs[n]? = none ∨ ys[n]? = none) (hz : n ≤ sizeLine) (hZ : IsZip s.heap z TI TO .none)
    (hTI : IsPair s.heap TI (.ref i1) (.ref i2)) {a b : Value} (hTO : IsPair s.heap TO a b) (h1 : s.heap.IsListIter i1 l1 0) (h2 : s.heap.IsListIter i2 l2 0) (hl1 : s.heap.IsList l1 xs) (hl2 : s.heap.IsList l2 ys)
    (hQ : ∀ h' tk acc c as, (∀ b o, b ≠ z → b ≠ TO → b ≠ i1 → b ≠ i2 → s.heap.get? b = some o → h'.get? b = some o) → h'.get? s.heap.objs.size = some { cls := .type "list", dict := none, data := .seq acc c, slots := #[] } → as.length = n → MadeZ xs ys s.heap.objs.size h' as →
      acc.toList = as.map Value.ref → Q (.ref s.heap.objs.size) { s with heap := h', toks := tk }) :
    wpAny (model prog w) A (call (.type "list") [.ref z]) Q E s := by
  have lt : ∀ {c o}, s.heap.get? c = some o → c < s.heap.objs.size := fun e => Heap.lt_size e
  have L : Low z TI TO i1 i2 l1 l2 s.heap.objs.size := ⟨lt hZ, lt hTI, lt hTO, (let ⟨_, e, _⟩ := h1; lt e), (let ⟨_, e, _⟩ := h2; lt e), (let ⟨_, e, _⟩ := hl1; lt e), (let ⟨_, e, _⟩ := hl2; lt e)⟩
  refine callType_codes (Q₁ := fun obj s₁ => obj = .ref s.heap.objs.size ∧ s₁ = { s with heap := s.heap.push { cls := .type "list", data := .seq #[] } }) F.called_list (F.typeCall_list_1 _) F.entry_list_init
    (code_list_new _ ⟨rfl, rfl⟩) fun obj s₁ h₁ => ?_
  obtain ⟨rfl, rfl⟩ := h₁
  have hS : (s.heap.push { cls := .type "list", data := .seq #[] }).get? s.heap.objs.size = some { cls := .type "list", data := .seq #[] } := Heap.get?_push_size _ rfl
  refine ⟨⟨_, hS, rfl⟩, F.args_list_init_2 _ _, ?_⟩
  show wpAny _ A.in1.in1 (do let old ← Builtin.List.listItems (.ref s.heap.objs.size); Builtin.List.listUpdate (.ref s.heap.objs.size) (fun _ => #[]); letGo old.toList.reverse; Builtin.List.listExtendWith (.ref s.heap.objs.size) (.ref z) .none) _ _ _
  refine wpAny_bind ?_
  unfold Builtin.List.listItems
  refine wpAny_bind (wpAny_seqItems hS rfl (wpAny_pure ?_))
  show wpAny _ A.in1.in1 (updateSeq s.heap.objs.size (fun _ => #[]) >>= fun _ => letGo (#[] : Array Value).toList.reverse >>= fun _ => Builtin.List.listExtendWith (.ref s.heap.objs.size) (.ref z) .none) _ _ _
  refine wpAny_bind (wpAny_updateSeq hS rfl ?_)
  have hS₂ := Heap.get?_update_self (Obj.mapSeq (fun _ => (#[] : Array Value))) hS rfl
  have k0 : ∀ b o, s.heap.get? b = some o → ((s.heap.push { cls := .type "list", data := .seq #[] }).update s.heap.objs.size (Obj.mapSeq (fun _ => (#[] : Array Value)))).get? b = some o :=
    fun b o e => (Heap.get?_update_other _ _ (Ne.symm (Nat.ne_of_lt (lt e)))).trans (Heap.get?_push_of_some _ e)
  refine wpAny_bind (wpAny_letGo ?_)
  refine extZ (A := A.in1) hh D L hx hy hend hz (k0 _ _ hZ) ⟨k0 _ _ hTI, h1.at fun o e => k0 _ o e, h2.at fun o e => k0 _ o e, hl1.at fun o e => k0 _ o e, hl2.at fun o e => k0 _ o e, .inl ⟨k0 _ _ hZ, a, b, k0 _ _ hTO⟩⟩ .none _ hS₂ fun h' tk acc c as hk hS' hl hG hacc => ?_
  exact ⟨rfl, hQ h' tk acc c as (fun b o b1 b2 b3 b4 e => hk b o (Nat.ne_of_lt (lt e)) b1 b2 b3 b4 (k0 b o e)) hS' hl hG hacc⟩
end
end AW
set_option maxRecDepth 100000
set_option maxHeartbeats 4000000
namespace AW
open PySem PySem.Spec PyProof.Rows L2
/-! list(zip(a, b)) in HandS -/
def layT : Hp → List (Addr × V × V) → Hp
  | H, [] => H
  | H, t :: r => layT (upd H t.1 (.tup [t.2.1, t.2.2])) r
section
variable {X : Cx} {W : Wsh}
theorem takeL {pins : List (Addr × Obj)} {σ : L2.St} {H0 : Hp} {s : Shared} {h' : Heap} {tk : Nat} (I0 : Inv X pins σ H0 s) : ∀ (L : List (Addr × V × V)) (H1 : Hp), Inv X pins σ H1 { s with heap := h', toks := tk } → (L.map (·.1)).Nodup →
    (∀ t ∈ L, s.heap.objs.size ≤ t.1 ∧ H1 t.1 = none ∧ ∀ H2, ObjOk X.prog X.w H2 h' t.1 (.tup [t.2.1, t.2.2])) → Inv X pins σ (layT H1 L) { s with heap := h', toks := tk }
  | [], H1, I1, _, _ => I1
  | t :: L, H1, I1, hn, h => by
    obtain ⟨hb, hnone, ok⟩ := h t (List.mem_cons_self ..)
    have I2 : Inv X pins σ (upd H1 t.1 (.tup [t.2.1, t.2.2])) { s with heap := h', toks := tk } := I1.take (h' := h') (t' := tk) (fun b ob _ e => e) (I0.fpOk hb hnone) (ok _)
    rw [List.map_cons, List.nodup_cons] at hn
    refine takeL I0 L _ I2 hn.2 fun c hc => ?_
    obtain ⟨c1, c2, c3⟩ := h c (List.mem_cons_of_mem _ hc)
    exact ⟨c1, by rw [upd_ne (fun z => hn.1 (by rw [← z]; exact List.mem_map_of_mem hc))]; exact c2, c3⟩
end
theorem layR {K : Frag} {φ : Nat → Addr} {m : Store} : ∀ (as : List Addr) (xs ys : List V) (ds es : List D) (F H : Hp), as.length = min xs.length ys.length → Reps K F xs ds → Reps K F ys es → RelS K φ F m H → (∀ a ∈ as, H a = none) → as.Nodup →
    Stp K φ F m H φ (layT F (as.zip (xs.zip ys))) m (layT H (as.zip (xs.zip ys))) ∧ Reps K (layT F (as.zip (xs.zip ys))) (as.map V.ref) (zipD ds es) ∧ ∀ b, H b = none → b ∉ as → layT H (as.zip (xs.zip ys)) b = none
  | [], xs, ys, ds, es, F, H, hl, rx, ry, R, _, _ => by
    refine ⟨Stp.refl R, ?_, fun b hb _ => hb⟩
    have hz : zipD ds es = [] := by
      have l1 := rx.length
      have l2 := ry.length
      have l3 := zipD_len ds es
      apply List.length_eq_zero_iff.mp
      rw [l3]
      simp at hl
      omega
    rw [hz]; exact .nil
  | a :: as, x :: xs, y :: ys, d :: ds, e :: es, F, H, hl, .cons rx rxs, .cons ry rys, R, hf, hn => by
    have ha := hf a List.mem_cons_self
    obtain ⟨n1, n2⟩ := List.nodup_cons.mp hn
    have s1 : Stp K φ F m H φ (upd F a (.tup [x, y])) m (upd H a (.tup [x, y])) := Stp.newF R ha
    have ex : Ext F (upd F a (.tup [x, y])) := Ext.new (R.fresh ha)
    obtain ⟨s2, r2, f2⟩ := layR as xs ys ds es (upd F a (.tup [x, y])) (upd H a (.tup [x, y])) (by simp only [List.length_cons] at hl; omega) (rxs.mono ex) (rys.mono ex) s1.rel
      (fun b hb => by rw [upd_ne (fun z : b = a => n1 (by rw [← z]; exact hb))]; exact hf b (List.mem_cons_of_mem _ hb)) n2
    refine ⟨s1.trans s2 R, .cons ?_ r2, fun b hb hm => ?_⟩
    · have r0 : Rep K (upd F a (.tup [x, y])) (.ref a) (.tup [d, e]) := .tup (SqT.of upd_same) (.cons (rx.mono ex) (.cons (ry.mono ex) .nil))
      exact r0.mono s2.exF
    · refine f2 b ?_ fun z => hm (List.mem_cons_of_mem _ z)
      rw [upd_ne (fun z : b = a => hm (by rw [z]; exact List.mem_cons_self))]; exact hb
  | _ :: _, [], _, _, _, _, _, hl, _, _, _, _, _ => by simp at hl
  | _ :: _, _ :: _, [], _, _, _, _, hl, _, _, _, _, _ => by simp at hl
section
variable {X : Cx} {W : Wsh} {a b : Expr} {oa ob : Ex} {p p2 q pos : Pos}
/-- the two lists -/
theorem rd_zipl {σ : L2.St} {H : Hp} {Q : VK} (h : rdL X.K W (itZip oa ob) σ H Q) : tCons (rdE X.K W oa) (tCons (rdE X.K W ob) tNil) σ H fun vs H1 => ∃ φ F m l1 l2 xs ys ds es, vs = [.ref l1, .ref l2] ∧ RelS X.K φ F m H1 ∧ SqL X.K F l1 xs ∧ Reps X.K F xs ds ∧ SqL X.K F l2 ys ∧ Reps X.K F ys es ∧
    ∀ φ' F' H' vs p, Stp X.K φ F m H1 φ' F' m H' → Reps X.K F' vs (zipD ds es) → H' p = none → Q (.ref p) (upd H' p (.lst vs)) := by
  obtain ⟨φ, F, ρ, m, R0, E, L, h⟩ := h
  refine ⟨φ, F, ρ, m, R0, E, L, ?_⟩
  unfold itZip at h
  cases ho : oa ρ m with
  | bad => simp only [ho, Out.bind_bad] at h
  | exc x m' => simp only [ho, Out.bind_exc] at h; exact h
  | ok v m1 =>
    simp only [ho, Out.bind_ok] at h
    intro φ1 F1 H1 u s r
    refine ⟨φ1, F1, ρ, m1, s.rel, E.step s, L, ?_⟩
    cases ho2 : ob ρ m1 with
    | bad => simp only [ho2, Out.bind_bad] at h
    | exc x m' => simp only [ho2, Out.bind_exc] at h; exact fun φ' F' H' s' => h φ' F' H' (s.trans s' R0)
    | ok v2 m2 =>
      simp only [ho2, Out.bind_ok] at h
      intro φ2 F2 H2 u2 s2 r2
      have r1' := RepV.step s2 r
      cases v with
      | cell n => exact h.elim
      | d d =>
        cases v2 with
        | cell n => cases d <;> exact h.elim
        | d d2 =>
          cases d <;> try exact h.elim
          cases d2 <;> try exact h.elim
          cases (show Rep X.K F2 u (.lst _) from r1') with
          | lst h1 q1 =>
            cases (show Rep X.K F2 u2 (.lst _) from r2) with
            | lst h2 q2 => exact ⟨φ2, F2, m2, _, _, _, _, _, _, rfl, s2.rel, h1, q1, h2, q2, fun φ' F' H' vs p s' rv hp => h φ' F' H' vs p ((s.trans s2 R0).trans s' R0) rv hp⟩
theorem p_zipl (hc : X.calm = true) (hg : Gl X "list") (hm : X.mg "list" = none) (hg2 : Gl X "zip") (hm2 : X.mg "zip" = none) (na : nos a = true) (nb : nos b = true) (ha : PE X a (rdE X.K W oa)) (hb : PE X b (rdE X.K W ob)) :
    PE X (.Call (.Name "list" p) [.Call (.Name "zip" p2) [a, b] [] q] [] pos) (rdL X.K W (itZip oa ob)) := by
  refine ⟨fun pins s σ H Q I h => ?_⟩
  have h := rd_zipl h
  refine Call_ (ld_blt I hg hm boot_list (callWith_type1 (args_cons ?_ rfl) rfl rfl))
  refine Call_ (ld_blt I hg2 hm2 boot_zip (callWith_type1 (thn ((pa_cons ha (pa_cons hb pa_nil (star_nos nb)) (star_nos na)).run q pins s σ H _ I h) fun us s1 ⟨vs, H1, I1, r1, q1⟩ => ?_) (star_nos na) (star_any (by rw [List.all_cons, nb]; rfl))))
  obtain ⟨φ, F, m, l1, l2, xs, ys, ds, es, rfl, R, hqx, rx, hqy, ry, fin⟩ := q1
  cases r1 with
  | cons r rr =>
    cases rr with
    | cons r' rr =>
      cases rr
      cases r
      cases r'
      obtain ⟨its, rv, p1, z1⟩ := I1.list (R.sub.l hqx)
      obtain ⟨its2, rv2, p2, z2⟩ := I1.list (R.sub.l hqy)
      have la : l1 < s1.heap.objs.size := p1.lt
      have lb : l2 < s1.heap.objs.size := p2.lt
      have e1 := rv.length
      have e2 := rv2.length
      refine call_zip_2 p1.isList p2.isList fun h' hz hTI hTO h1 h2 hsz hk => args_nil ?_
      have I2 : Inv X pins σ H1 { s1 with heap := h' } := I1.kept (t' := s1.toks) hk
      have D := PySem.W.ktu_apart s1.heap.objs.size l1 l2 la lb
      refine call_listZ (s := { s1 with heap := h' }) (n := min xs.length ys.length) (I1.ok.hd hc) D (by simp; omega) (by simp; omega) ?_ (by omega) hz hTI hTO h1 h2 (p1.isList.at fun o e => hk _ o e) (p2.isList.at fun o e => hk _ o e) fun h'' tk acc c as hk2 hS hl hG hacc => ?_
      · rcases Nat.le_total xs.length ys.length with z | z
        · exact .inl (by simp; omega)
        · exact .inr (by simp; omega)
      dsimp only at hk2 hS hG ⊢
      have hle : ∀ c, s1.heap.objs.size ≤ c → FpOk X pins H1 c := fun c hc => I1.fpOk hc (I1.hok.fresh hc)
      have I3 : Inv X pins σ H1 { s1 with heap := h'', toks := tk } := Inv.turnedL (s := { s1 with heap := h' }) I2 (t' := tk) (ch := [s1.heap.objs.size + 4, s1.heap.objs.size + 3, s1.heap.objs.size, s1.heap.objs.size + 1]) (fun c o hb q => hk2 c o (fun q' => hb (by simp [q'])) (fun q' => hb (by simp [q'])) (fun q' => hb (by simp [q'])) (fun q' => hb (by simp [q'])) q) (fun c hcm => hle c (by
        have e' : c = s1.heap.objs.size + 4 ∨ c = s1.heap.objs.size + 3 ∨ c = s1.heap.objs.size ∨ c = s1.heap.objs.size + 1 := by simpa using hcm
        rcases e' with z | z | z | z
        · rw [z]; exact Nat.le_add_right _ _
        · rw [z]; exact Nat.le_add_right _ _
        · rw [z]; exact Nat.le_refl _
        · rw [z]; exact Nat.le_add_right _ _))
      have hb5 : s1.heap.objs.size ≤ h'.objs.size := by rw [hsz]; exact Nat.le_add_right _ _
      have fresh : ∀ a ∈ as, s1.heap.objs.size ≤ a ∧ H1 a = none := fun a ha => by
        have hle : s1.heap.objs.size ≤ a := Nat.le_of_lt (Nat.lt_of_le_of_lt hb5 (hG.above a ha))
        exact ⟨hle, I1.hok.fresh hle⟩
      have zl : (as.zip (xs.zip ys)).map (·.1) = as := by
        rw [List.map_fst_zip]
        rw [List.length_zip]; omega
      have I4 := takeL (tk := tk) (h' := h'') I1 (as.zip (xs.zip ys)) H1 I3 (by rw [zl]; exact hG.nd) fun t ht => by
        have ht1 : t.1 ∈ as := by
          rw [← zl]; exact List.mem_map_of_mem ht
        refine ⟨(fresh _ ht1).1, (fresh _ ht1).2, fun H2 => ?_⟩
        obtain ⟨j, hj⟩ := List.mem_iff_getElem?.mp ht
        obtain ⟨a', x, y⟩ := t
        rw [List.getElem?_zip_eq_some, List.getElem?_zip_eq_some] at hj
        obtain ⟨j1, j2, j3⟩ := hj
        obtain ⟨u, w, g1, g2, g3⟩ := hG.pairs j _ j1
        obtain ⟨u', hu, ru⟩ := rv.get j2
        obtain ⟨w', hw, rw'⟩ := rv2.get j3
        have eu : u = u' := by
          have : its.toArray[j]? = some u := g1
          rw [List.getElem?_toArray] at this
          exact Option.some.inj (this.symm.trans hu)
        have ew : w = w' := by
          have : its2.toArray[j]? = some w := g2
          rw [List.getElem?_toArray] at this
          exact Option.some.inj (this.symm.trans hw)
        subst eu ew
        exact ⟨by show 2 ≤ sizeLine; decide, [u, w], .cons ru (.cons rw' .nil), ⟨_, g3, rfl, _, rfl⟩⟩
      obtain ⟨st, rp, ff⟩ := layR as xs ys ds es F H1 hl rx ry R (fun a ha => (fresh a ha).2) hG.nd
      have hS0 : layT H1 (as.zip (xs.zip ys)) h'.objs.size = none := ff _ (I2.hok.fresh (Nat.le_refl _)) fun z => Nat.lt_irrefl _ (hG.above _ z)
      have hb : s1.heap.objs.size ≤ h'.objs.size := by rw [hsz]; omega
      have J : Inv X pins σ (upd (layT H1 (as.zip (xs.zip ys))) h'.objs.size (.lst (as.map V.ref))) { s1 with heap := h'', toks := tk } := I4.take (h' := h'') (t' := tk) (fun b ob _ e => e) (I1.fpOk hb hS0) ⟨by rw [List.length_map]; omega, as.map Value.ref, c, (by
        have : ∀ as : List Addr, Vals (as.map V.ref) (as.map Value.ref) := by
          intro as
          induction as with
          | nil => exact .nil
          | cons a as ih => exact .cons rfl ih
        exact this as), by rw [← hacc]; exact hS⟩
      exact ⟨.ref _, _, J, rfl, fin φ _ _ _ _ st rp hS0⟩
end
end AW
set_option maxRecDepth 100000
set_option maxHeartbeats 4000000
namespace AW
open PySem PySem.Spec PyProof.Rows L2
theorem mem_addS {x y : Str} {ys : List Str} : y ∈ addS x ys ↔ y = x ∨ y ∈ ys := by
  unfold addS
  split
  · rename_i q
    exact ⟨.inr, fun z => z.elim (fun e => e ▸ q) id⟩
  · exact List.mem_cons
theorem mem_addAll {y : Str} : ∀ {xs ys : List Str}, y ∈ addAll ys xs ↔ y ∈ ys ∨ y ∈ xs
  | [], ys => by simp [addAll]
  | x :: xs, ys => by
    show y ∈ addAll (addS x ys) xs ↔ _
    rw [mem_addAll, mem_addS, List.mem_cons]
    exact ⟨fun z => z.elim (fun z => z.elim (fun e => .inr (.inl e)) .inl) fun e => .inr (.inr e), fun z => z.elim (fun e => .inl (.inr e)) fun z => z.elim (fun e => .inl (.inl e)) .inr⟩
theorem nd_addAll : ∀ {xs ys : List Str}, ys.Nodup → (addAll ys xs).Nodup
  | [], _, h => h
  | x :: xs, ys, h => nd_addAll (xs := xs) (ys := addS x ys) (by
    unfold addS
    split
    · exact h
    · rename_i q; exact List.nodup_cons.mpr ⟨q, h⟩)
theorem mem_dedupS {y : Str} : ∀ {xs : List Str}, y ∈ dedupS xs ↔ y ∈ xs
  | [] => by simp [dedupS]
  | x :: xs => by
    unfold dedupS
    split
    · rename_i q
      rw [mem_dedupS, List.mem_cons]
      exact ⟨.inr, fun z => z.elim (fun e => e ▸ q) id⟩
    · rw [List.mem_cons, List.mem_cons, mem_dedupS]
theorem nd_dedupS : ∀ xs : List Str, (dedupS xs).Nodup
  | [] => by simp [dedupS]
  | x :: xs => by
    unfold dedupS
    split
    · exact nd_dedupS xs
    · rename_i q
      exact List.nodup_cons.mpr ⟨fun z => q (mem_dedupS.mp z), nd_dedupS xs⟩
theorem dedupS_len : ∀ xs : List Str, (dedupS xs).length ≤ xs.length
  | [] => Nat.le_refl _
  | x :: xs => by
    unfold dedupS
    split
    · exact Nat.le_trans (dedupS_len xs) (Nat.le_succ _)
    · exact Nat.succ_le_succ (dedupS_len xs)
theorem addAll_dedup (xs : List Str) : (addAll [] xs).Perm (dedupS xs) := (List.perm_ext_iff_of_nodup (nd_addAll List.nodup_nil) (nd_dedupS xs)).mpr fun y => by
  rw [mem_addAll, mem_dedupS]; simp
theorem leS_iff {a b : Str} : leS a b = true ↔ a.cps.toList ≤ b.cps.toList := by
  unfold leS
  rw [Bool.not_eq_true', decide_eq_false_iff_not]
  exact List.not_lt
theorem leS_trans (a b c : Str) (h1 : leS a b = true) (h2 : leS b c = true) : leS a c = true := leS_iff.mpr (List.le_trans (leS_iff.mp h1) (leS_iff.mp h2))
theorem leS_anti {a b : Str} (h1 : leS a b = true) (h2 : leS b a = true) : a = b := by
  have e := List.le_antisymm (leS_iff.mp h1) (leS_iff.mp h2)
  cases a; cases b
  simp only [Str.mk.injEq]
  exact Array.toList_inj.mp e
theorem leS_total (a b : Str) : (leS a b || leS b a) = true := by
  rw [Bool.or_eq_true, leS_iff, leS_iff]
  exact List.le_total _ _
theorem insS_perm (x : Str) : ∀ ys : List Str, (insS x ys).Perm (x :: ys)
  | [] => .rfl
  | y :: ys => by
    unfold insS
    split
    · exact .rfl
    · exact ((insS_perm x ys).cons y).trans (.swap x y ys)
theorem sort_perm : ∀ xs : List Str, (sortS xs).Perm xs
  | [] => .rfl
  | x :: xs => (insS_perm x _).trans ((sort_perm xs).cons x)
theorem sortS_len (xs : List Str) : (sortS xs).length = xs.length := (sort_perm xs).length_eq
theorem insS_pw (x : Str) : ∀ ys : List Str, (ys.Pairwise fun a b => leS a b = true) → (insS x ys).Pairwise fun a b => leS a b = true
  | [], _ => by simp [insS]
  | y :: ys, h => by
    obtain ⟨h1, h2⟩ := List.pairwise_cons.mp h
    unfold insS
    split
    · rename_i q
      refine List.pairwise_cons.mpr ⟨fun z hz => ?_, h⟩
      rcases List.mem_cons.mp hz with e | e
      · rw [e]; exact q
      · exact leS_trans _ _ _ q (h1 z e)
    · rename_i q
      have t := leS_total x y
      rw [Bool.or_eq_true] at t
      refine List.pairwise_cons.mpr ⟨fun z hz => ?_, insS_pw x ys h2⟩
      rcases List.mem_cons.mp ((insS_perm x ys).mem_iff.mp hz) with e | e
      · rw [e]; exact t.resolve_left q
      · exact h1 z e
theorem sort_pw : ∀ xs : List Str, (sortS xs).Pairwise fun a b => leS a b = true
  | [] => .nil
  | x :: xs => insS_pw x _ (sort_pw xs)
theorem risingS_pw : ∀ (l : List Str) (p : Str), risingS p l = true → (p :: l).Pairwise fun a b => leS a b = true
  | [], p, _ => by simp
  | x :: l, p, h => by
    have h : (!ltCps x.cps.toList p.cps.toList && risingS x l) = true := h
    rw [Bool.and_eq_true] at h
    have r := risingS_pw l x h.2
    have px : leS p x = true := by unfold leS; rw [← ltCps_eq]; exact h.1
    refine List.pairwise_cons.mpr ⟨fun y hy => ?_, r⟩
    rcases List.mem_cons.mp hy with e | e
    · rw [e]; exact px
    · exact leS_trans _ _ _ px ((List.pairwise_cons.mp r).1 y e)
theorem sortedS_pw : ∀ (l : List Str), sortedS l = true → l.Pairwise fun a b => leS a b = true
  | [], _ => .nil
  | x :: l, h => risingS_pw l x h
theorem sortS_eq {xs ys : List Str} (h : ys.Perm xs) (hs : sortedS ys = true) : ys = sortS xs :=
  List.Perm.eq_of_pairwise (le := fun a b => leS a b = true) (fun _ _ _ _ => leS_anti) (sortedS_pw ys hs) (sort_pw xs) (h.trans (sort_perm xs).symm)
theorem sortS_perm {xs ys : List Str} (h : xs.Perm ys) : sortS xs = sortS ys :=
  List.Perm.eq_of_pairwise (le := fun a b => leS a b = true) (fun _ _ _ _ => leS_anti) (sort_pw xs) (sort_pw ys) ((sort_perm xs).trans (h.trans (sort_perm ys).symm))
section
variable {X : Cx} {W : Wsh}
theorem seq_strs {pins : List (Addr × Obj)} {s : Shared} {σ : L2.St} {φ : Nat → Addr} {F H : Hp} {m : Store} {x : V} {u : Value} {dx : D} {ds : List D} {xs : List Str} (I : Inv X pins σ H s) (R : RelS X.K φ F m H) (px : PV X.K F H x dx) (hd : dx = .lst ds ∨ dx = .tup ds) (hs : strsD ds = some xs)
    (rx : RelV x u) : ∃ l items, u = .ref l ∧ (s.heap.IsList l items ∨ s.heap.IsTuple l items) ∧ StrsAre items.toList xs := by
  rcases hd with rfl | rfl
  · obtain ⟨q, vs, rfl, h1, r1⟩ := px.lst R.sub
    obtain rfl := r1.strs hs
    obtain ⟨its, rv, pl, _⟩ := I.list h1
    cases rx
    exact ⟨_, _, rfl, .inl pl.isList, by simpa using rv.strs⟩
  · obtain ⟨q, vs, rfl, h1, r1⟩ := px.tup
    obtain rfl := r1.strs hs
    obtain ⟨its, rv, pl, _⟩ := I.tuple (R.sub.t h1)
    cases rx
    exact ⟨_, _, rfl, .inr pl, by simpa using rv.strs⟩
theorem lenset_seq {dx z : D} (e : b1D .lenset dx = some z) : ∃ ds xs, (dx = .lst ds ∨ dx = .tup ds) ∧ strsD ds = some xs ∧ xs.length < 64 ∧ z = .int ((dedupS xs).length : Int) := by
  cases dx <;> simp only [b1D] at e <;> try (cases e; done)
  all_goals
    rename_i ds
    cases es : strsD ds with
    | none => rw [es] at e; cases e
    | some xs =>
      rw [es] at e
      simp only [Option.bind_some] at e
      split at e
      · rename_i c; cases e
        first | exact ⟨ds, xs, .inr rfl, es, c, rfl⟩ | exact ⟨ds, xs, .inl rfl, es, c, rfl⟩
      · cases e
theorem sset_seq {dx : D} {zs : List D} (e : lbD .sset dx = some zs) : ∃ ds xs, (dx = .lst ds ∨ dx = .tup ds) ∧ strsD ds = some xs ∧ xs.length < 64 ∧ zs = (sortS (dedupS xs)).map .str := by
  cases dx <;> simp only [lbD] at e <;> try (cases e; done)
  all_goals
    rename_i ds
    unfold ssetD at e
    cases es : strsD ds with
    | none => rw [es] at e; cases e
    | some xs =>
      rw [es] at e
      simp only [Option.bind_some] at e
      split at e
      · rename_i c; cases e
        first | exact ⟨ds, xs, .inr rfl, es, c, rfl⟩ | exact ⟨ds, xs, .inl rfl, es, c, rfl⟩
      · cases e
theorem p_lenset {a : Expr} {oa : Ex} {p p2 q pos : Pos} (hc : X.calm = true) (hg : Gl X "len") (hm : X.mg "len" = none) (hg2 : Gl X "set") (hm2 : X.mg "set" = none) (na : nos a = true) (ha : PE X a (rdE X.K W oa)) :
    PE X (.Call (.Name "len" p) [.Call (.Name "set" p2) [a] [] q] [] pos) (rdE X.K W (ev1 (b1D .lenset) oa)) := by
  refine ⟨fun pins s σ H Q I h => ?_⟩
  have h := rd_c1 h
  refine Call_ (ld_blt I hg hm boot_len (callWith_builtin1 (args_cons ?_ rfl) rfl rfl))
  refine Call_ (ld_blt I hg2 hm2 boot_set ?_)
  refine callWith_type1 (args_cons (thn (ha.run pins s σ H _ I h) fun v s1 ⟨x, H1, I1, r1, q1⟩ => args_nil ?_) (star_nos na)) (star_nos na) rfl
  obtain ⟨x', φ, F, m, dx, z, ex, R, px, e, fin⟩ := q1
  cases ex
  obtain ⟨ds, xs, hd, hs, h64, rfl⟩ := lenset_seq e
  obtain ⟨l, items, rfl, hl, hi⟩ := seq_strs I1 R px hd hs r1
  refine call_setS (I1.ok.hd hc) hl hi h64 fun h' tk S kk => args_nil ?_
  obtain ⟨o, es, ep, t, go, gx, gd, T⟩ := S
  have I2 : Inv X pins σ H1 { s1 with heap := h', toks := tk } := I1.kept fun b o e => kk b o e
  have hn : es.size = (dedupS xs).length := by rw [T.size, (addAll_dedup xs).length_eq]
  have hb := T.few
  refine call_len_set go gx gd T.fit (by unfold scanBound at hb; omega) ⟨.int (dedupS xs).length, H1, I2.tok _, ⟨_, by rw [hn]⟩, fin.at R (.int _)⟩
theorem sorted_setS {s : Shared} {A : Around} {E : Value → Shared → Prop} {P : Program} {w : World} {a : Addr} {ys : List Str} {Z : Value → Shared → Prop} (R : SetS w s.heap a ys) (hh : A.handled = none) (h64 : ys.length < 64)
    (fin : ∀ s' p (out : Array Value) (c : Nat), (∀ b o, s.heap.get? b = some o → s'.heap.get? b = some o) → s'.gens = s.gens → s'.os = s.os → s.heap.objs.size ≤ p →
      s'.heap.get? p = some (seqObj "list" out c) → StrsAre out.toList (sortS ys) → Z (.ref p) s') : wpAny (model P w) A (call (.builtin "sorted") [.ref a]) Z E s := by
  obtain ⟨o, es, ep, t, go, gx, gd, T⟩ := R
  refine Calls.call_function_entry kind_sorted plain_sorted entry_sorted (args_sorted1 _) ?_
  unfold Builtin.«sorted»
  refine wpAny_bind (m := checkCount "sorted" 1 1 _) (wpAny_pure (wpAny_bind (collect_set (A := A.in1) hh ⟨o, go, gx.1, gd⟩ T.fit T.few T.ris T.led fun s1 vs k1 hz g1 o1 pm => ?_)))
  have hv : vs.length = ys.length := by rw [pm.length_eq, List.length_map, Array.length_toList, T.size]
  have hS : StrsAre vs (vs.map strOf) := strsAre_map vs fun v hv => by
    obtain ⟨e, he, q⟩ := List.mem_map.mp (pm.mem_iff.mp hv)
    obtain ⟨x, k, h1, _⟩ := T.good e he
    exact ⟨x, k, by rw [← q]; exact h1⟩
  have pk : (vs.map strOf).Perm ys := by
    have q := pm.map strOf
    rw [List.map_map] at q
    have e : es.toList.map (strOf ∘ fun x => x.2) = es.toList.map keyS := List.map_congr_left fun e he => by
      obtain ⟨x, k, h1, _⟩ := T.good e he
      unfold keyS
      simp only [Function.comp]
      rw [h1]; rfl
    rw [e] at q
    exact q.trans T.pm
  refine wpAny_bind (wpAny_newList ?_ (by rw [hv, sizeLine_eq]; omega))
  have gL : (s1.heap.push (seqObj "list" vs.toArray 0)).get? s1.heap.objs.size = some (seqObj "list" vs.toArray 0) := Heap.get?_push_size _ rfl
  refine wpAny_bind (wpAny_holding (wpAny_call_entry slot_list_sort ⟨_, gL, rfl⟩ entry_list_sort (list_sort_treeK strKind_oneLt gL hS.keysOf (fun v1 v2 rest e => keyKind_strs (by rw [← e]; exact hS)) (by omega) fun st a1 a2 => ⟨_, rfl, ?_⟩) (args_list_sort _)))
  obtain ⟨zs, z1, z2, z3⟩ := sorted_out_str hS a1 a2
  obtain ⟨c, hc⟩ := sortedHeap_at (vs := vs) (out := (arrOf st).map (·.2)) gL
  refine wpAny_pure ⟨_, rfl, fin _ s1.heap.objs.size _ c (fun b u e => ?_) g1 o1 hz hc (by rw [← sortS_eq (z2.trans pk) z3]; exact z1)⟩
  have hlt := Heap.lt_size (k1 b u e)
  show (sortedHeap (s1.heap.push (seqObj "list" vs.toArray 0)) s1.heap.objs.size vs _).get? b = some u
  rw [sortedHeap_old (Nat.ne_of_lt hlt) (by rw [size_push']; exact Nat.lt_succ_of_lt hlt)]
  exact Heap.get?_push_of_some _ (k1 b u e)
theorem p_sset {a : Expr} {oa : Ex} {p p2 q pos : Pos} (hc : X.calm = true) (hg : Gl X "sorted") (hm : X.mg "sorted" = none) (hg2 : Gl X "set") (hm2 : X.mg "set" = none) (na : nos a = true) (ha : PE X a (rdE X.K W oa)) :
    PE X (.Call (.Name "sorted" p) [.Call (.Name "set" p2) [a] [] q] [] pos) (rdL X.K W (evLb .sset oa)) := by
  refine ⟨fun pins s σ H Q I h => ?_⟩
  have h := rd_rLb h
  refine Call_ (ld_blt I hg hm boot_sorted (callWith_builtin1 (args_cons ?_ rfl) rfl rfl))
  refine Call_ (ld_blt I hg2 hm2 boot_set ?_)
  refine callWith_type1 (args_cons (thn (ha.run pins s σ H _ I h) fun v s1 ⟨x, H1, I1, r1, q1⟩ => args_nil ?_) (star_nos na)) (star_nos na) rfl
  obtain ⟨x', φ, F, m, dx, z, ex, R, px, e, fin⟩ := q1
  cases ex
  obtain ⟨ds, xs, hd, hs, h64, rfl⟩ := sset_seq e
  obtain ⟨l, items, rfl, hl, hi⟩ := seq_strs I1 R px hd hs r1
  refine call_setS (I1.ok.hd hc) hl hi h64 fun h' tk S kk => args_nil ?_
  have I2 : Inv X pins σ H1 { s1 with heap := h', toks := tk } := I1.kept fun b o e => kk b o e
  have few := dedupS_len xs
  have hn := (addAll_dedup xs).length_eq
  refine sorted_setS S (I1.ok.hd hc) (by omega) fun s2 b out c k g o hp hb hi => ?_
  rw [sortS_perm (addAll_dedup xs)] at hi
  have hlen : ((sortS (dedupS xs)).map V.str).length ≤ sizeLine := by
    rw [List.length_map, sortS_len, sizeLine_eq]
    omega
  have hf : H1 b = none := I2.hok.fresh hp
  have J : Inv X pins σ (upd H1 b (.lst ((sortS (dedupS xs)).map V.str))) { { s1 with heap := h', toks := tk } with heap := s2.heap, gens := s2.gens, drawn := s2.drawn, toks := s2.toks } :=
    I2.call (ch := []) (Un.laid k hp hf) (I2.hok.laid k hp ⟨hlen, out.toList, c, vals_of_strs hi, hb⟩) (by rw [g]; exact I2.bare) (fun _ z => nomatch z)
  have es : s2 = { { s1 with heap := h', toks := tk } with heap := s2.heap, gens := s2.gens, drawn := s2.drawn, toks := s2.toks } := by
    cases s2; cases s1; cases o; rfl
  rw [es]
  exact ⟨.ref b, _, J, rfl, fin φ F H1 _ b (Stp.refl R) (Reps.ofStrs _) hf⟩
theorem collect_tup {prog : Program} {w : World} {A : Around} {E : Value → Shared → Prop} {s : Shared} {l : Addr} {vs : List Value} {Q : List Value → Shared → Prop} (hl : IsTup s.heap l vs.toArray)
    (h : Q vs { s with heap := (s.heap.push (seqObj "list" #[] 0)).update s.heap.objs.size (Obj.mapSeq (· ++ vs.toArray)) }) (hsz : vs.length ≤ sizeLine) :
    wpAny (model prog w) A (collect (.ref l)) Q E s := by
  obtain ⟨o, ho, hc, n, hd⟩ := id hl
  unfold collect
  refine wpAny_bind (wpAny_runValue (codeAny_builtin entry_proto_collect' ?_))
  show wpAny _ _ (do again (.builtin "list.__iadd__" ⟨[← newList [], .ref l], []⟩)) _ _ s
  refine wpAny_bind (wpAny_newList (wpAny_pure ⟨Code.quiet_builtin _ (by decide +kernel), codeAny_builtin entry_list_iadd' ?_⟩))
  show wpAny _ _ (Builtin.List.listExtendWith (.ref s.heap.objs.size) (.ref l) (.ref s.heap.objs.size)) _ _ { s with heap := s.heap.push (seqObj "list" #[] 0) }
  unfold Builtin.List.listExtendWith
  have ho' : (s.heap.push (seqObj "list" #[] 0)).get? l = some o := Heap.get?_push_of_some _ ho
  refine wpAny_bind (wpAny_typeOf (T := "tuple") ⟨o, ho', hc⟩ ?_)
  have ht : (Value.type "tuple" == Value.type "tuple") = true := by rfl
  rw [if_pos (by rw [ht]; simp)]
  refine wpAny_bind (listItems_at ho' hd ?_)
  refine wpAny_bind (listItems_at (xs := #[]) (n := 0) (Heap.get?_push_size _ rfl) rfl ?_)
  rw [if_neg (by simp)]
  refine wpAny_bind (listUpdate_at (xs := #[]) (n := 0) (Heap.get?_push_size _ rfl) rfl ?_ (Nat.zero_le _) (by show (#[] ++ vs.toArray).size ≤ sizeLine + 1; simp only [Array.size_append, List.size_toArray, List.length_nil]; omega))
  refine wpAny_pure ?_
  show wpAny (model prog w) A (do
      let o ← load s.heap.objs.size
      match o.data with
      | .seq xs _ => pure xs.toList
      | _ => unsupported "internal:collect") Q E { s with heap := (s.heap.push (seqObj "list" #[] 0)).update s.heap.objs.size (Obj.mapSeq (· ++ vs.toArray)) }
  refine wpAny_bind (wpAny_load (get?_update_seq (Heap.get?_push_size _ rfl) _) ?_)
  show wpAny _ _ (pure ((#[] : Array Value) ++ vs.toArray).toList) Q E _
  rw [show ((#[] : Array Value) ++ vs.toArray).toList = vs by simp]
  exact wpAny_pure h
theorem sorted_tupS {s : Shared} {A : Around} {E : Value → Shared → Prop} {P : Program} {w : World} {a : Addr} {vs : List Value} {xs : List Str} {Z : Value → Shared → Prop} (ht : IsTup s.heap a vs.toArray) (hS : StrsAre vs xs) (h64 : vs.length < 64)
    (h : ∀ (out : Array Value), StrsAre out.toList (sortS xs) → Z (.ref (s.heap.objs.size + 1)) { s with heap := sortedAll s.heap vs out }) : wpAny (model P w) A (call (.builtin "sorted") [.ref a]) Z E s := by
  refine Calls.call_function_entry kind_sorted plain_sorted entry_sorted (args_sorted1 _) ?_
  unfold Builtin.«sorted»
  refine wpAny_bind (m := checkCount "sorted" 1 1 _) (wpAny_pure ?_)
  refine wpAny_bind (collect_tup ht ?_ (by rw [sizeLine_eq]; omega))
  refine wpAny_bind (wpAny_newList ?_ (by rw [sizeLine_eq]; omega))
  have hsz : ((s.heap.push (seqObj "list" #[] 0)).update s.heap.objs.size (Obj.mapSeq (· ++ vs.toArray))).objs.size = s.heap.objs.size + 1 := by
    rw [Heap.size_update, size_push']
  have hoL : (((s.heap.push (seqObj "list" #[] 0)).update s.heap.objs.size (Obj.mapSeq (· ++ vs.toArray))).push (seqObj "list" vs.toArray 0)).get? (s.heap.objs.size + 1) = some (seqObj "list" vs.toArray 0) := by
    rw [← hsz]; exact Heap.get?_push_size _ rfl
  show wpAny _ _ _ _ _ { s with heap := ((s.heap.push (seqObj "list" #[] 0)).update s.heap.objs.size (Obj.mapSeq (· ++ vs.toArray))).push (seqObj "list" vs.toArray 0) }
  rw [hsz]
  refine wpAny_bind (wpAny_holding (wpAny_call_entry slot_list_sort ⟨_, hoL, rfl⟩ entry_list_sort (list_sort_treeK strKind_oneLt hoL hS.keysOf (fun v1 v2 rest e => keyKind_strs (by rw [← e]; exact hS)) h64 fun st a1 a2 => ⟨_, rfl, ?_⟩) (args_list_sort _)))
  obtain ⟨zs, z1, z2, z3⟩ := sorted_out_str hS a1 a2
  exact wpAny_pure ⟨_, rfl, h _ (by rw [← sortS_eq z2 z3]; exact z1)⟩
theorem c_sorted (hc : X.calm = true) : CallR X (.builtin "sorted") (rLb X.K (lbD .sorted)) := by
  intro pins s σ H xs us Q I r h
  obtain ⟨x, φ, F, m, dx, zs, rfl, R, px, e, fin⟩ := h
  cases dx <;> simp only [lbD] at e <;> try (cases e; done)
  · rename_i ds
    cases es : strsD ds with
    | none => rw [es] at e; cases e
    | some xs =>
      rw [es] at e
      simp only [Option.bind_some] at e
      split at e
      · rename_i c; cases e
        obtain ⟨q, vs, rfl, h1, r1⟩ := px.tup
        obtain rfl := r1.strs es
        obtain ⟨its, rv, ht, hz⟩ := I.tuple (R.sub.t h1)
        rw [Vals.ref1 r]
        have hl0 := rv.length
        rw [List.length_map] at hl0
        refine sorted_tupS ht rv.strs (by rw [← hl0]; exact c) fun out h1 => ?_
        obtain ⟨ep, he'⟩ := PyProof.Rows.sortedAll_at s.heap its out
        have hlen : ((sortS xs).map V.str).length ≤ sizeLine := by rw [List.length_map, sortS_len, sizeLine_eq]; omega
        have hn : H (s.heap.objs.size + 1) = none := I.hok.fresh (Nat.le_succ _)
        exact ⟨.ref _, upd H (s.heap.objs.size + 1) (.lst ((sortS xs).map V.str)), I.laid (t' := s.toks) (fun _ _ => PyProof.Rows.sortedAll_old) (Nat.le_succ _) ⟨hlen, out.toList, ep, vals_of_strs h1, he'⟩, rfl, fin φ F H _ _ (Stp.refl R) (Reps.ofStrs _) hn⟩
      · cases e
  · rename_i ds
    cases es : strsD ds with
    | none => rw [es] at e; cases e
    | some xs =>
      rw [es] at e
      simp only [Option.bind_some] at e
      split at e
      · rename_i c; cases e
        obtain ⟨q, vs, rfl, h1, r1⟩ := px.lst R.sub
        obtain rfl := r1.strs es
        refine cr_sortedS pins s σ H _ us Q I r ⟨q, xs, rfl, h1, c, fun ys p hp hs hn => ?_⟩
        rw [sortS_eq hp hs]
        exact fin φ F H _ p (Stp.refl R) (Reps.ofStrs _) hn
      · cases e
  · rename_i ds vs0
    cases es : strsD ds with
    | none => rw [es] at e; cases e
    | some xs =>
      rw [es] at e
      simp only [Option.bind_some] at e
      split at e
      · rename_i c; cases e
        obtain ⟨q, kvs, rfl, h1, e1, r1⟩ := px.dct R.sub
        have hk : kvs.map (·.1) = xs.map Sum.inr := by
          rw [← e1] at es
          clear e1 h1 r1 c fin R px
          induction kvs generalizing xs with
          | nil => simp [strsD] at es; subst es; rfl
          | cons p kvs ih =>
            obtain ⟨k, v⟩ := p
            cases k with
            | inl i => simp [strsD, keyD] at es
            | inr z =>
              simp only [List.map_cons, keyD, strsD, Option.map_eq_some_iff] at es
              obtain ⟨l, e2, rfl⟩ := es
              simp only [List.map_cons]
              rw [ih l e2]
        refine call_sortedD hc pins s σ H _ us Q I r ⟨q, kvs, xs, rfl, h1, hk, c, fun ys p hp hs hn => ?_⟩
        rw [sortS_eq hp hs]
        exact fin φ F H _ p (Stp.refl R) (Reps.ofStrs _) hn
      · cases e
end
theorem prims : Prims where
  repr := fun W X h1 h2 h3 => c_repr h1 h2 h3
  lenset := fun X a oa p p2 q pos h1 h2 h3 h4 h5 h6 h7 => p_lenset h1 h2 h3 h4 h5 h6 h7
  list := fun X h => c_list h
  dict := fun W X h => c_dict h
  sset := fun X a oa p p2 q pos h1 _ h2 h3 h4 h5 h6 h7 => p_sset h1 h2 h3 h4 h5 h6 h7
  zipl := fun X a b oa ob p p2 q pos h1 h2 h3 h4 h5 h6 h7 h8 h9 => p_zipl h1 h2 h3 h4 h5 h6 h7 h8 h9
  sorted := fun X h1 _ => c_sorted h1
end AW
set_option maxRecDepth 100000
set_option maxHeartbeats 4000000
namespace AW
open PySem PySem.Spec PyProof.Rows L2
/-! the head: the constants, read off the kept objects -/
def vBs (f : Value → D → Bool) : List Value → List D → Bool
  | [], [] => true
  | u :: us, d :: ds => f u d && vBs f us ds
  | _, _ => false
def vB (K : Frag) : Nat → Value → D → Bool
  | _, .none, .non => true
  | _, .bool b, .bl c => b == c
  | _, .int i _, .int j => decide (i = j)
  | _, .str x _, .str y => decide (x = y)
  | n + 1, .ref a, .tup ds => match K.lookup a with
    | some ⟨.type c, _, .seq its _, _⟩ => decide (c = "tuple") && (decide (its.size ≤ sizeLine) && vBs (vB K n) its.toList ds)
    | _ => false
  | n + 1, .ref a, .lst ds => match K.lookup a with
    | some ⟨.type c, none, .seq its _, _⟩ => decide (c = "list") && (decide (its.size ≤ sizeLine) && vBs (vB K n) its.toList ds)
    | _ => false
  | _, _, _ => false
theorem vBs_ok {K : Frag} {f : Value → D → Bool} (hf : ∀ u d, f u d = true → ∃ v, RelV v u ∧ ∀ F, Rep K F v d) : ∀ (us : List Value) (ds : List D), vBs f us ds = true → ∃ vs, Vals vs us ∧ ∀ F, Reps K F vs ds
  | [], [], _ => ⟨[], .nil, fun _ => .nil⟩
  | [], _ :: _, h => by cases h
  | _ :: _, [], h => by cases h
  | u :: us, d :: ds, h => by
    obtain ⟨h1, h2⟩ := Bool.and_eq_true_iff.mp (show (f u d && vBs f us ds) = true from h)
    obtain ⟨v, r, q⟩ := hf u d h1
    obtain ⟨vs, rs, qs⟩ := vBs_ok hf us ds h2
    exact ⟨v :: vs, .cons r rs, fun F => .cons (q F) (qs F)⟩
theorem vB_ok {K : Frag} : ∀ (n : Nat) (u : Value) (d : D), vB K n u d = true → ∃ v, RelV v u ∧ ∀ F, Rep K F v d := by
  have flat : ∀ (n : Nat) (u : Value) (d : D), (∀ a, u ≠ .ref a) → vB K n u d = true → ∃ v, RelV v u ∧ ∀ F, Rep K F v d := by
    intro n u d hr h
    cases u <;> cases d <;> first
      | exact ⟨.non, rfl, fun _ => .non⟩
      | (rename_i b c; obtain rfl : b = c := by cases n <;> exact eq_of_beq h
         exact ⟨.bl b, rfl, fun _ => .bl b⟩)
      | (rename_i i t j; obtain rfl : i = j := by cases n <;> exact of_decide_eq_true h
         exact ⟨.int i, ⟨t, rfl⟩, fun _ => .int i⟩)
      | (rename_i i t j; obtain rfl : i = j := by cases n <;> exact of_decide_eq_true h
         exact ⟨.str i, ⟨t, rfl⟩, fun _ => .str i⟩)
      | exact absurd rfl (hr _)
      | (cases n <;> cases h)
  intro n
  induction n with
  | zero =>
    intro u d h
    refine flat 0 u d (fun a e => ?_) h
    subst e
    cases d <;> cases h
  | succ n ih =>
    intro u d h
    by_cases hr : ∃ a, u = .ref a
    · obtain ⟨a, rfl⟩ := hr
      cases d <;> try (cases h; done)
      · rename_i ds
        have h : (match K.lookup a with
          | some ⟨.type c, _, .seq its _, _⟩ => decide (c = "tuple") && (decide (its.size ≤ sizeLine) && vBs (vB K n) its.toList ds)
          | _ => false) = true := h
        split at h
        · rename_i c od its nn sl q
          obtain ⟨h1, h2⟩ := Bool.and_eq_true_iff.mp h
          obtain ⟨h3, h4⟩ := Bool.and_eq_true_iff.mp h2
          obtain ⟨vs, r, rs⟩ := vBs_ok ih _ _ h4
          exact ⟨.ref a, rfl, fun F => .tup (.inr ⟨_, its, nn, q, congrArg Value.type (of_decide_eq_true h1), rfl, of_decide_eq_true h3, r⟩) (rs F)⟩
        · cases h
      · rename_i ds
        have h : (match K.lookup a with
          | some ⟨.type c, none, .seq its _, _⟩ => decide (c = "list") && (decide (its.size ≤ sizeLine) && vBs (vB K n) its.toList ds)
          | _ => false) = true := h
        split at h
        · rename_i c its nn sl q
          obtain ⟨h1, h2⟩ := Bool.and_eq_true_iff.mp h
          obtain ⟨h3, h4⟩ := Bool.and_eq_true_iff.mp h2
          obtain ⟨vs, r, rs⟩ := vBs_ok ih _ _ h4
          exact ⟨.ref a, rfl, fun F => .lst (.inr ⟨_, its, nn, q, congrArg Value.type (of_decide_eq_true h1), rfl, rfl, of_decide_eq_true h3, r⟩) (rs F)⟩
        · cases h
    · exact flat (n + 1) u d (fun a e => hr ⟨a, e⟩) h
def gB (T : Tab) (K : Frag) : Bool := T.globs.all fun p => match PySem.W.nsIn K mainGlobals p.1 with
  | some (some u) => vB K 9 u (T.gvals.getD p.2 .non)
  | _ => false
theorem gB_ok {T : Tab} {K : Frag} {h : Heap} {mg : Str → Option Value} (X : K.In h) (G : h.Ns mainGlobals mg) (c : gB T K = true) (x : Str) (i : Nat) (hx : (x, i) ∈ T.globs) : ∃ u v, mg x = some u ∧ RelV v u ∧ ∀ F, Rep K F v (T.gvals.getD i .non) := by
  have c := List.all_eq_true.mp c (x, i) hx
  have c : (match PySem.W.nsIn K mainGlobals x with
    | some (some u) => vB K 9 u (T.gvals.getD i .non)
    | _ => false) = true := c
  split at c
  · rename_i u q
    obtain ⟨v, r, rs⟩ := vB_ok 9 u _ c
    exact ⟨u, v, PySem.W.mg_of X G q, r, rs⟩
  · cases c
def mkD (f : Def) (st : Stmt) : He.DefD := ⟨(f.name, none), f.name, f.name, defArgs st, defBody st, defScope st, [], []⟩
def mkT (t : Told) (st : Stmt) : He.DefD := ⟨(t.name, none), t.name, t.name, defArgs st, defBody st, defScope st, [], []⟩
def errFa (T : Tab) : List He.Fa := T.excs.map He.Fa.glo ++ (T.excs.map He.Fa.exc ++ (T.exm.map (fun q => He.Fa.exm q.1 q.2.1 q.2.2) ++ (T.tolds.map (fun t => He.Fa.glo t.name) ++ (T.tolds.flatMap fun t => t.hs.map fun y => He.Fa.glo y.1))))
def faOf (T : Tab) : List He.Fa := T.free.map He.Fa.free ++ (T.defs.map (fun f => He.Fa.glo f.name) ++ errFa T)
/-- the defs whose tables are told -/
def tfOf (T : Tab) : List He.Defn := ((T.defs.map (·.name) ++ T.tolds.map (·.name)).filter lawName).map fun x => (x, none)
def lamQ (x : Str) : Str := x ++ ".<locals>." ++ "<lambda>"
def tabB (T : Tab) (K : Frag) : Bool := (tabsK K).all (fun p => (tfOf T).any fun d => decide (p.1 = (He.cT K d).2)) &&
  ((tabsK K).all (fun p => (tabsK K).all fun q => !decide (p.1 = q.1) || decide (p.2 = q.2)) && (tfOf T).all fun d => (tabsK K).contains ((He.cT K d).2, lamQ d.1))
def exB (T : Tab) (K : Frag) : Bool := gB T K && tabB T K
abbrev hkOf (T : Tab) (fn : List He.DefD) : PySem.W.Hook := He.hookX 4 (faOf T) fn [] (tfOf T) (exB T)
section
variable {T : Tab} {fn : List He.DefD} {w : World} {h : Heap} {K : Frag} {mg : Str → Option Value}
abbrev SaysT (T : Tab) (fn : List He.DefD) (w : World) (h : Heap) (K : Frag) : Prop := He.SaysX (faOf T) fn [] (tfOf T) (exB T) w h K
theorem fact_of (c : SaysT T fn w h K) {f : He.Fa} (hf : f ∈ errFa T) : f.ok K = true := c.t.d.facts (List.mem_append_right _ (List.mem_append_right _ hf))
theorem free_of (X : K.In h) (G : h.Ns mainGlobals mg) (c : SaysT T fn w h K) : ∀ x ∈ T.free, mg x = none := fun x hx =>
  He.free_ok X G (c.t.d.facts (f := .free x) (List.mem_append_left _ (List.mem_map_of_mem hx)))
theorem glo_of (X : K.In h) (G : h.Ns mainGlobals mg) (c : SaysT T fn w h K) (i : Nat) {f : DefI} (e : T.defs[i]? = some f) : mg f.name = some (.ref (He.ga K f.name)) :=
  He.glo_ok X G (c.t.d.facts (f := .glo f.name) (List.mem_append_right _ (List.mem_append_left _ (List.mem_map.mpr ⟨f, List.mem_of_getElem? e, rfl⟩))))
theorem gBs (c : SaysT T fn w h K) : gB T K = true := (Bool.and_eq_true_iff.mp (show (gB T K && tabB T K) = true from c.more)).1
theorem tBs (c : SaysT T fn w h K) : tabB T K = true := (Bool.and_eq_true_iff.mp (show (gB T K && tabB T K) = true from c.more)).2
theorem fun_of (c : SaysT T fn w h K) (i : Nat) {f : Def} {st : Stmt} (e : fn[i]? = some (mkD f st)) : ∃ fd, FunD K f.name f.name (defArgs st) (defBody st) (defScope st) [] [] (He.ga K f.name) fd := c.t.d.def_ i e
theorem tld_of (c : SaysT T fn w h K) (i : Nat) {f : Told} {st : Stmt} (e : fn[i]? = some (mkT f st)) : ∃ fd, FunD K f.name f.name (defArgs st) (defBody st) (defScope st) [] [] (He.ga K f.name) fd := c.t.d.def_ i e
/-- the classes of errors -/
theorem err_of (X : K.In h) (G : h.Ns mainGlobals mg) (c : SaysT T fn w h K)
    (ht : ∀ t ∈ T.tolds, ∃ fd pg bg sg, FunD K t.name t.name pg bg sg [] [] (He.ga K t.name) fd ∧ L2.Binds K fd [t.a] [] ∧ scopeB t.N 1 sg = true ∧ t.N.take 1 = [t.a] ∧ bodyB sg t.a t.hs t.fin bg = true ∧ plainN t.a = true) : ErrOk K mg T where
  exm := fun x y b hq => He.exm_ok (fact_of c (f := .exm x y b) (List.mem_append_right _ (List.mem_append_right _ (List.mem_append_left _ (List.mem_map.mpr ⟨(x, y, b), hq, rfl⟩)))))
  exc := fun x hx => by
    have h1 := He.glo_ok X G (fact_of c (f := .glo x) (List.mem_append_left _ (List.mem_map_of_mem hx)))
    obtain ⟨h2, h3, h4, h5⟩ := He.exc_ok (fact_of c (f := .exc x) (List.mem_append_right _ (List.mem_append_left _ (List.mem_map_of_mem hx))))
    exact ⟨h1, h2, h3, h4, h5⟩
  tld := fun t hq => by
    obtain ⟨fd, pg, bg, sg, F, hb, hs, ha, hB, hp⟩ := ht t hq
    have h1 := He.glo_ok X G (fact_of c (f := .glo t.name) (List.mem_append_right _ (List.mem_append_right _ (List.mem_append_right _ (List.mem_append_left _ (List.mem_map.mpr ⟨t, hq, rfl⟩))))))
    have S := scope_ok hs
    rw [ha] at S
    have h0 : t.N[0]? = some t.a := by
      cases e : t.N with
      | nil => rw [e] at ha; cases ha
      | cons x l => rw [e] at ha; simp at ha; rw [ha]; rfl
    have v : Vis sg t.a := by
      rcases S.par t.a List.mem_cons_self with q | q
      · exact .inl q
      · exact .inr (.inl q)
    exact ⟨_, fd, pg, bg, sg, h1, F, hb, S, h0, v, hB, fun y hy => He.glo_ok X G (fact_of c (f := .glo y.1) (List.mem_append_right _ (List.mem_append_right _ (List.mem_append_right _ (List.mem_append_right _ (List.mem_flatMap.mpr ⟨t, hq, List.mem_map.mpr ⟨y, hy, rfl⟩⟩)))))), (plain_ok hp).1, (plain_ok hp).2.1⟩
/-- the tables at the law's call -/
theorem tabs_of (c : SaysT T fn w h K) {H : Hp} (hH : ∀ p ∈ (tfOf T).map (He.cT K), H p.2 = some (.tbl #[])) : TabsH K H := fun p hp => by
  have t := (Bool.and_eq_true_iff.mp (show (_ && _) = true from tBs c)).1
  obtain ⟨d, hd, e⟩ := List.any_eq_true.mp (List.all_eq_true.mp t p hp)
  have e := of_decide_eq_true e
  exact LamX.TabS.nil (by rw [e]; exact hH _ (List.mem_map_of_mem hd))
theorem lam_of (c : SaysT T fn w h K) {base : Heap} (TB : ∀ p ∈ (tfOf T).map (He.cT K), LamX.TabB base mg p.1 p.2) {f : Def} {pg : Arguments} {bg : List Stmt} {sg : Scope} {fd : FuncData} (F : FunD K f.name f.name pg bg sg [] [] (He.ga K f.name) fd)
    (hin : f.lam = true → (tfOf T).contains (f.name, none) = true) : LamD K mg base f fd := fun hl => by
  have hd : (f.name, none) ∈ tfOf T := by simpa using hin hl
  obtain ⟨oc, od, dV, kV, doc, pm, an, cdv, ct, osl, rfl, lk, hcd, _⟩ := F.ex
  obtain ⟨ca, rfl⟩ := He.codeIn_ref hcd
  have e0 : (He.cT K (f.name, none)).1 = ca := He.codeOf_eq (p := (f.name, none)) lk rfl
  obtain ⟨t1, t2⟩ := Bool.and_eq_true_iff.mp (show (_ && (_ && _)) = true from tBs c)
  obtain ⟨t2, t3⟩ := Bool.and_eq_true_iff.mp t2
  have hm : ((He.cT K (f.name, none)).2, lamQ f.name) ∈ tabsK K := by simpa using List.all_eq_true.mp t3 _ hd
  refine ⟨ca, (He.cT K (f.name, none)).2, rfl, ?_, hm, fun p hp e => ?_⟩
  · have := TB _ (List.mem_map_of_mem hd)
    rw [e0] at this; exact this
  · have := List.all_eq_true.mp (List.all_eq_true.mp t2 p hp) _ hm
    simp only [Bool.or_eq_true, Bool.not_eq_true', decide_eq_false_iff_not, decide_eq_true_eq] at this
    rcases this with z | z
    · exact absurd e z
    · exact z
theorem plain_binds {x q : Str} {p : Arguments} {b : List Stmt} {s : Scope} {a : Addr} {fd : FuncData} {f : Def} (F : FunD K x q p b s [] [] a fd) (hs : f.star = false)
    (h : ∀ (kV doc pm : Value) (an : Option Addr) (cdv ct : Value) (us : List Value), us.length = (f.N.take f.np).length → bindArgs (PySem.W.fnOf x q p b s .none kV doc pm an cdv ct) ⟨us, []⟩ = pure ((f.N.take f.np).zip us)) : BindsB K f fd := by
  unfold BindsB
  rw [hs]
  exact F.bindsN h
theorem star_binds {x q : Str} {p : Arguments} {b : List Stmt} {s : Scope} {a : Addr} {fd : FuncData} {f : Def} (F : FunD K x q p b s [] [] a fd) (hs : f.star = true) {ps : List Str} {pv : Str} (e : f.N.take f.np = ps ++ [pv])
    (h : ∀ (kV doc pm : Value) (an : Option Addr) (cdv ct : Value) (us rest : List Value), us.length = ps.length → bindArgs (PySem.W.fnOf x q p b s .none kV doc pm an cdv ct) ⟨us ++ rest, []⟩ = (newTuple rest >>= fun t => pure (ps.zip us ++ [(pv, t)]))) : BindsB K f fd := by
  unfold BindsB
  rw [hs]
  obtain ⟨oc, od, dV, kV, doc, pm, an, cdv, ct, osl, rfl, lk, hcd, hD, hK⟩ := F.ex
  rcases hD with ⟨_, rfl⟩ | ⟨z, _⟩
  · exact ⟨ps, pv, e, h kV doc pm an cdv ct⟩
  · exact absurd rfl z
theorem fun_same {x q x' q' : Str} {p p' : Arguments} {b b' : List Stmt} {s s' : Scope} {f : Addr} {fd fd' : FuncData} (F : FunD K x q p b s [] [] f fd) (F' : FunD K x' q' p' b' s' [] [] f fd') : fd' = fd := by
  obtain ⟨oc, od, dV, kV, doc, pm, an, cdv, ct, osl, rfl, lk, _⟩ := F.ex
  obtain ⟨oc', od', dV', kV', doc', pm', an', cdv', ct', osl', rfl, lk', _⟩ := F'.ex
  rw [lk] at lk'
  cases lk'
  rfl
end
end AW
set_option maxRecDepth 100000
set_option maxHeartbeats 4000000
namespace LK
open PySem L2 AW
/-! the defs: 0 is_integer, 1 is_integer_within, 2 is_name, 3 is_node, 4 arity_of, 5 operands_of, 6 is_body, 7 _law_dice, 8 _law_roll, 9 _law_pick, 10 _law_some, 11 _law_words, 12 _law_leaf, 13 _law_expression, 14 _law_is_word, 15 _law_is_node, 16 _law_is_body, 17 _law_node, 18 _law_odd, 19 _law_spoiled, 20 _law_bent, 21 _law_right, 22 law -/
def f0 : Def := ⟨"is_integer", 1, ["value"], false, false, false,
  (.cons (.ife (.bop false (.cons (.isi (.var 0) .bool) (.cons (.not (.isi (.var 0) .int)) .nil))) (.cons (.ret (.con (.bl false)))
  .nil) .nil)
  (.cons (.ret (.cmp .Lt (.b1 .abs (.var 0)) (.bin .Pow (.con (.int 10)) (.con (.int 60)))))
  .nil))⟩
def f1 : Def := ⟨"is_integer_within", 3, ["value", "least", "most"], false, false, false,
  (.cons (.ret (.bop true (.cons (.call 0 (.cons (.var 0) .nil)) (.cons (.cmp2 .LtE .LtE (.var 1) (.var 0) (.var 2)) .nil))))
  .nil)⟩
def f2 : Def := ⟨"is_name", 1, ["value", "sign"], false, false, false,
  (.cons (.ife (.bop false (.cons (.not (.isi (.var 0) .str)) (.cons (.not (.cmp2 .LtE .LtE (.con (.int 1)) (.b1 .len (.var 0)) (.glob "MAX_LETTERS" 0))) (.cons (.cmp .In (.var 0) (.glob "KEYWORDS" 1)) .nil)))) (.cons (.ret (.con (.bl false)))
  .nil) .nil)
  (.cons (.ret (.b1 .all (.lm false (.lc (.seq (.var 0)) (.name 1) .no (.cmp2 .LtE .LtE (.con (.str "a")) (.var 1) (.con (.str "z")))))))
  .nil))⟩
def f3 : Def := ⟨"is_node", 1, ["value", "kind", "name", "more", "way"], false, false, false,
  (.cons (.ife (.bop false (.cons (.not (.isi (.var 0) .tuple)) (.cons (.cmp .Eq (.var 0) (.tup .nil)) (.cons (.not (.isi (.idx (.var 0) (.con (.int 0))) .str)) .nil)))) (.cons (.ret (.con (.bl false)))
  .nil) .nil)
  (.cons (.mtch (.var 0) (.seq [1] .no (.cons (.ret (.cmp .In (.var 1) (.tup (.star (.glob "LEAVES" 7) (.cons (.con (.str "test")) .nil)))))
  .nil) (.seq [1, 2] .no (.cons (.ret (.bop true (.cons (.cmp .Eq (.var 1) (.con (.str "use"))) (.cons (.call 2 (.cons (.var 2) .nil)) .nil))))
  .nil) (.seq [1, 2, 3] (.yes (.cmp .Eq (.var 1) (.con (.str "do")))) (.cons (.ret (.bop true (.cons (.call 2 (.cons (.var 2) .nil)) (.cons (.call 1 (.cons (.var 3) (.cons (.con (.int 0)) (.cons (.glob "MAX_OPERANDS" 3) .nil)))) .nil))))
  .nil) (.seq [1, 2, 3] (.yes (.cmp .Eq (.var 1) (.con (.str "call")))) (.cons (.ife (.bop false (.cons (.not (.call 2 (.cons (.var 2) .nil))) (.cons (.not (.isi (.var 3) .tuple)) (.cons (.cmp .Gt (.b1 .len (.var 3)) (.glob "MAX_OPERANDS" 3)) .nil)))) (.cons (.ret (.con (.bl false)))
  .nil) .nil)
  (.cons (.ret (.b1 .all (.lm false (.lc (.seq (.var 3)) (.name 4) .no (.cmp .In (.var 4) (.tup (.cons (.glob "LAZY" 5) (.cons (.glob "STRICT" 6) .nil))))))))
  .nil)) .nil)))))
  (.cons (.ret (.con (.bl false)))
  .nil)))⟩
def f4 : Def := ⟨"arity_of", 1, ["node"], false, false, false,
  (.cons (.ife (.cmp .Eq (.idx (.var 0) (.con (.int 0))) (.con (.str "do"))) (.cons (.ret (.idx (.var 0) (.con (.int 2))))
  .nil) .nil)
  (.cons (.ife (.cmp .Eq (.idx (.var 0) (.con (.int 0))) (.con (.str "call"))) (.cons (.ret (.b1 .len (.idx (.var 0) (.con (.int 2)))))
  .nil) .nil)
  (.cons (.ret (.ite (.cmp .Eq (.idx (.var 0) (.con (.int 0))) (.con (.str "test"))) (.glob "MAX_OPERANDS" 3) (.con (.int 0))))
  .nil)))⟩
def f5 : Def := ⟨"operands_of", 1, ["nodes", "found", "waiting", "index", "node", "first"], false, false, false,
  (.cons (.par [1, 2] (.cons (.lm true (.disp .nil)) (.cons (.lm false (.disp .nil)) .nil)))
  (.cons (.forr (.enumT (.var 0)) (.tup [3, 4]) (.cons (.asg 5 (.bin .Sub (.b1 .len (.var 2)) (.call 4 (.cons (.var 4) .nil))))
  (.cons (.ife (.cmp .Lt (.var 5) (.con (.int 0))) (.cons (.ret (.con .non))
  .nil) .nil)
  (.cons (.expr (.app (.var 1) (.b1 .tuple (.sli (.var 2) (.yes (.var 5)) .no))))
  (.cons (.asg 2 (.lm false (.disp (.star (.sli (.var 2) .no (.yes (.var 5))) (.cons (.var 3) .nil)))))
  .nil)))))
  (.cons (.ret (.ite (.cmp .Eq (.b1 .len (.var 2)) (.con (.int 1))) (.b1 .tuple (.var 1)) (.con .non)))
  .nil)))⟩
def f6 : Def := ⟨"is_body", 1, ["value", "node"], false, false, false,
  (.cons (.ife (.bop false (.cons (.not (.isi (.var 0) .tuple)) (.cons (.not (.cmp2 .LtE .LtE (.con (.int 1)) (.b1 .len (.var 0)) (.glob "MAX_NODES" 4))) (.cons (.not (.b1 .all (.lm false (.lc (.seq (.var 0)) (.name 1) .no (.call 3 (.cons (.var 1) .nil)))))) .nil)))) (.cons (.ret (.con (.bl false)))
  .nil) .nil)
  (.cons (.ret (.cmp .IsNot (.call 5 (.cons (.var 0) .nil)) (.con .non)))
  .nil))⟩
def f7 : Def := ⟨"_law_dice", 2, ["_law_script", "_law_spot", "_law_cell", "_law_whole"], true, false, false,
  (.cons (.asg 2 (.ite (.cmp .Lt (.var 1) (.b1 .len (.var 0))) (.idx (.var 0) (.var 1)) (.bin .Add (.bin .Mult (.con (.int 37)) (.var 1)) (.con (.int 11)))))
  (.cons (.asg 3 (.bin .Mod (.b1 .int (.b1 .abs (.var 2))) (.bin .Pow (.bin .Pow (.con (.int 10)) (.con (.int 57))) (.con (.int 11)))))
  (.cons (.ret (.lm true (.disp (.cons (.ite (.cmp .GtE (.var 3) (.bin .Pow (.con (.int 10)) (.con (.int 18)))) (.var 3) (.con (.int 0))) (.cons (.bin .Add (.bin .Add (.bin .Add (.bin .Mult (.con (.int 2)) (.var 3)) (.b1 .int (.cmp .Lt (.var 2) (.con (.int 0))))) (.bin .Mult (.con (.int 131071)) (.var 1))) (.con (.int 3))) (.cons (.con (.int 0)) .nil))))))
  .nil)))⟩
def f8 : Def := ⟨"_law_roll", 2, ["_law_dice_here", "_law_upto", "_law_one", "_law_two", "_law_found"], false, false, false,
  (.cons (.ife (.cmp .Gt (.idx (.var 0) (.con (.int 0))) (.con (.int 0))) (.cons (.asg 4 (.bin .Mod (.b1 .int (.idx (.var 0) (.con (.int 0)))) (.var 1)))
  (.cons (.setIx (.var 0) (.con (.int 0)) (.bin .FloorDiv (.idx (.var 0) (.con (.int 0))) (.var 1)))
  (.cons (.ret (.var 4))
  .nil))) .nil)
  (.cons (.setIx (.var 0) (.con (.int 2)) (.bin .Add (.idx (.var 0) (.con (.int 2))) (.con (.int 1))))
  (.cons (.asg 2 (.bin .Mod (.b1 .int (.bin .Add (.bin .Mult (.idx (.var 0) (.con (.int 1))) (.con (.int 25214903917))) (.bin .Mult (.idx (.var 0) (.con (.int 2))) (.con (.int 40692))))) (.con (.int 2305843009213693951))))
  (.cons (.asg 3 (.bin .Mod (.b1 .int (.bin .Add (.bin .Mult (.var 2) (.var 2)) (.bin .Mult (.idx (.var 0) (.con (.int 2))) (.con (.int 69621))))) (.con (.int 1152921504606846883))))
  (.cons (.ret (.bin .Mod (.b1 .int (.bin .FloorDiv (.bin .Mod (.b1 .int (.bin .Add (.bin .Mult (.var 3) (.var 3)) (.var 2))) (.con (.int 4398046511093))) (.con (.int 128)))) (.var 1)))
  .nil)))))⟩
def f9 : Def := ⟨"_law_pick", 2, ["_law_dice_here", "_law_items"], false, false, false,
  (.cons (.ret (.idx (.var 1) (.call 8 (.cons (.var 0) (.cons (.b1 .len (.var 1)) .nil)))))
  .nil)⟩
def f10 : Def := ⟨"_law_some", 3, ["_law_dice_here", "_law_items", "_law_many", "_law_turn", "_law_left", "_law_found"], false, false, false,
  (.cons (.par [4, 5] (.cons (.lm true (.blt .list (.var 1))) (.cons (.lm true (.disp .nil)) .nil)))
  (.cons (.forr (.rng1 (.b2 .min (.var 2) (.b1 .len (.var 4)))) (.name 3) (.cons (.expr (.app (.var 5) (.pop1 (.var 4) (.call 8 (.cons (.var 0) (.cons (.b1 .len (.var 4)) .nil))))))
  .nil))
  (.cons (.ret (.var 5))
  .nil)))⟩
def f11 : Def := ⟨"_law_words", 2, ["_law_dice_here", "_law_many", "_law_letter", "_law_found", "_law_letters", "_law_more", "_law_word", "_law_turn"], false, false, false,
  (.cons (.par [3, 4] (.cons (.lm true (.disp .nil)) (.cons (.con (.str "abcdefghijklmnopqrstuvwxyz")) .nil)))
  (.cons (.forr (.seq (.call 10 (.cons (.var 0) (.cons (.var 4) (.cons (.var 1) .nil))))) (.name 2) (.cons (.asg 5 (.call 9 (.cons (.var 0) (.cons (.lm false (.disp (.cons (.con (.int 0)) (.cons (.con (.int 0)) (.cons (.con (.int 0)) (.cons (.con (.int 0)) (.cons (.con (.int 1)) (.cons (.con (.int 2)) (.cons (.con (.int 4)) (.cons (.con (.int 7)) .nil)))))))))) .nil))))
  (.cons (.asg 6 (.bin .Add (.var 2) (.m1 .join (.con (.str "")) (.lm false (.lc (.rng1 (.var 5)) (.name 7) .no (.call 9 (.cons (.var 0) (.cons (.var 4) .nil))))))))
  (.cons (.expr (.app (.var 3) (.ite (.cmp .In (.var 6) (.tup (.cons (.con (.str "do")) (.cons (.con (.str "test")) (.cons (.con (.str "value")) (.cons (.con (.str "fail")) .nil)))))) (.var 2) (.var 6))))
  .nil))))
  (.cons (.ret (.var 3))
  .nil)))⟩
def f12 : Def := ⟨"_law_leaf", 2, ["_law_dice_here", "_law_names", "_law_name"], false, false, false,
  (.cons (.ret (.lm false (.disp (.cons (.call 9 (.cons (.var 0) (.cons (.bin .Add (.lm false (.rep (.lc (.seq (.var 1)) (.name 2) .no (.tup (.cons (.con (.str "use")) (.cons (.var 2) .nil)))) 2)) (.lm false (.disp (.cons (.tup (.cons (.con (.str "value")) .nil)) (.cons (.tup (.cons (.con (.str "value")) .nil)) (.cons (.tup (.cons (.con (.str "fail")) .nil)) .nil)))))) .nil))) .nil))))
  .nil)⟩
def f13 : Def := ⟨"_law_expression", 4, ["_law_dice_here", "_law_arities", "_law_names", "_law_depth", "_law_way", "_law_nodes", "_law_turn", "_law_node_here", "_law_many", "_law_other"], false, false, false,
  (.cons (.asg 4 (.ite (.cmp .Gt (.var 3) (.con (.int 0))) (.call 8 (.cons (.var 0) (.cons (.con (.int 8)) .nil))) (.con (.int 0))))
  (.cons (.ife (.bop false (.cons (.cmp .Lt (.var 4) (.con (.int 2))) (.cons (.bop true (.cons (.cmp .Gt (.var 4) (.con (.int 4))) (.cons (.cmp .Eq (.var 1) .dict0) .nil))) .nil))) (.cons (.ret (.call 12 (.cons (.var 0) (.cons (.var 2) .nil))))
  .nil) .nil)
  (.cons (.par [7, 8] (.cons (.tup (.cons (.con (.str "test")) .nil)) (.cons (.con (.int 3)) .nil)))
  (.cons (.ife (.cmp .Lt (.var 4) (.con (.int 4))) (.cons (.asg 8 (.call 9 (.cons (.var 0) (.cons (.lm false (.disp (.cons (.con (.int 0)) (.cons (.con (.int 1)) (.cons (.con (.int 1)) (.cons (.con (.int 2)) (.cons (.con (.int 2)) (.cons (.con (.int 3)) .nil)))))))) .nil))))
  (.cons (.asg 7 (.tup (.cons (.con (.str "do")) (.cons (.call 9 (.cons (.var 0) (.cons (.lm false (.disp (.cons (.con (.str "s")) (.cons (.con (.str "t")) (.cons (.con (.str "dec")) (.cons (.con (.str "addition")) (.cons (.con (.str "s")) .nil))))))) .nil))) (.cons (.var 8) .nil)))))
  .nil)) .nil)
  (.cons (.ife (.cmp .Gt (.var 4) (.con (.int 4))) (.cons (.asg 9 (.call 9 (.cons (.var 0) (.cons (.lm false (.blt .sorted (.var 1))) .nil))))
  (.cons (.asg 8 (.dget (.var 1) (.var 9)))
  (.cons (.asg 7 (.tup (.cons (.con (.str "call")) (.cons (.var 9) (.cons (.b1 .tuple (.lm false (.lc (.rng1 (.var 8)) (.name 6) .no (.call 9 (.cons (.var 0) (.cons (.lm false (.disp (.cons (.con (.str "lazy")) (.cons (.con (.str "lazy")) (.cons (.con (.str "strict")) .nil))))) .nil)))))) .nil)))))
  .nil))) .nil)
  (.cons (.asg 5 (.lm false (.disp .nil)))
  (.cons (.forr (.rng1 (.var 8)) (.name 6) (.cons (.asg 5 (.bin .Add (.var 5) (.call 13 (.cons (.var 0) (.cons (.var 1) (.cons (.var 2) (.cons (.bin .Sub (.var 3) (.con (.int 1))) .nil)))))))
  .nil))
  (.cons (.ret (.ite (.cmp .Lt (.b1 .len (.var 5)) (.con (.int 40))) (.bin .Add (.var 5) (.lm false (.disp (.cons (.var 7) .nil)))) (.call 12 (.cons (.var 0) (.cons (.var 2) .nil)))))
  .nil))))))))⟩
def f14 : Def := ⟨"_law_is_word", 1, ["_law_value", "_law_sign"], false, false, false,
  (.cons (.ife (.bop false (.cons (.not (.isi (.var 0) .str)) (.cons (.not (.cmp2 .LtE .LtE (.con (.int 1)) (.b1 .len (.var 0)) (.con (.int 8)))) (.cons (.cmp .In (.var 0) (.tup (.cons (.con (.str "do")) (.cons (.con (.str "test")) (.cons (.con (.str "value")) (.cons (.con (.str "fail")) .nil)))))) .nil)))) (.cons (.ret (.con (.bl false)))
  .nil) .nil)
  (.cons (.ret (.cmp .Eq (.lm false (.lc (.seq (.var 0)) (.name 1) (.yes (.cmp .NotIn (.var 1) (.con (.str "abcdefghijklmnopqrstuvwxyz")))) (.var 1))) (.lm false (.disp .nil))))
  .nil))⟩
def f15 : Def := ⟨"_law_is_node", 1, ["_law_value", "_law_way"], false, false, false,
  (.cons (.ife (.bop false (.cons (.not (.isi (.var 0) .tuple)) (.cons (.cmp .Eq (.b1 .len (.var 0)) (.con (.int 0))) (.cons (.not (.isi (.idx (.var 0) (.con (.int 0))) .str)) .nil)))) (.cons (.ret (.con (.bl false)))
  .nil) .nil)
  (.cons (.ife (.cmp .Eq (.b1 .len (.var 0)) (.con (.int 1))) (.cons (.ret (.cmp .In (.idx (.var 0) (.con (.int 0))) (.tup (.cons (.con (.str "value")) (.cons (.con (.str "fail")) (.cons (.con (.str "test")) .nil))))))
  .nil) .nil)
  (.cons (.ife (.not (.call 14 (.cons (.idx (.var 0) (.con (.int 1))) .nil))) (.cons (.ret (.con (.bl false)))
  .nil) .nil)
  (.cons (.ife (.cmp .Eq (.b1 .len (.var 0)) (.con (.int 2))) (.cons (.ret (.cmp .Eq (.idx (.var 0) (.con (.int 0))) (.con (.str "use"))))
  .nil) .nil)
  (.cons (.ife (.bop true (.cons (.cmp .Eq (.idx (.var 0) (.con (.int 0))) (.con (.str "do"))) (.cons (.cmp .Eq (.b1 .len (.var 0)) (.con (.int 3))) .nil))) (.cons (.ret (.bop true (.cons (.isi (.idx (.var 0) (.con (.int 2))) .int) (.cons (.not (.isi (.idx (.var 0) (.con (.int 2))) .bool)) (.cons (.cmp2 .LtE .LtE (.con (.int 0)) (.idx (.var 0) (.con (.int 2))) (.con (.int 3))) .nil)))))
  .nil) .nil)
  (.cons (.ife (.bop false (.cons (.cmp .NotEq (.idx (.var 0) (.con (.int 0))) (.con (.str "call"))) (.cons (.cmp .NotEq (.b1 .len (.var 0)) (.con (.int 3))) (.cons (.not (.isi (.idx (.var 0) (.con (.int 2))) .tuple)) (.cons (.cmp .Gt (.b1 .len (.idx (.var 0) (.con (.int 2)))) (.con (.int 3))) .nil))))) (.cons (.ret (.con (.bl false)))
  .nil) .nil)
  (.cons (.ret (.cmp .Eq (.lm false (.lc (.seq (.idx (.var 0) (.con (.int 2)))) (.name 1) (.yes (.bop false (.cons (.not (.isi (.var 1) .str)) (.cons (.cmp .NotIn (.var 1) (.tup (.cons (.con (.str "lazy")) (.cons (.con (.str "strict")) .nil)))) .nil)))) (.var 1))) (.lm false (.disp .nil))))
  .nil)))))))⟩
def f16 : Def := ⟨"_law_is_body", 1, ["_law_value", "_law_high", "_law_node_here", "_law_less"], false, false, false,
  (.cons (.ife (.bop false (.cons (.not (.isi (.var 0) .tuple)) (.cons (.not (.cmp2 .LtE .LtE (.con (.int 1)) (.b1 .len (.var 0)) (.con (.int 40)))) .nil))) (.cons (.ret (.con (.bl false)))
  .nil) .nil)
  (.cons (.asg 1 (.con (.int 0)))
  (.cons (.forr (.seq (.var 0)) (.name 2) (.cons (.ife (.not (.call 15 (.cons (.var 2) .nil))) (.cons (.ret (.con (.bl false)))
  .nil) .nil)
  (.cons (.asg 3 (.ite (.cmp .Eq (.idx (.var 2) (.con (.int 0))) (.con (.str "test"))) (.con (.int 3)) (.con (.int 0))))
  (.cons (.ife (.cmp .Eq (.idx (.var 2) (.con (.int 0))) (.con (.str "do"))) (.cons (.asg 3 (.idx (.var 2) (.con (.int 2))))
  .nil) .nil)
  (.cons (.ife (.cmp .Eq (.idx (.var 2) (.con (.int 0))) (.con (.str "call"))) (.cons (.asg 3 (.b1 .len (.idx (.var 2) (.con (.int 2)))))
  .nil) .nil)
  (.cons (.ife (.cmp .Gt (.var 3) (.var 1)) (.cons (.ret (.con (.bl false)))
  .nil) .nil)
  (.cons (.asg 1 (.bin .Add (.bin .Sub (.var 1) (.var 3)) (.con (.int 1))))
  .nil)))))))
  (.cons (.ret (.cmp .Eq (.var 1) (.con (.int 1))))
  .nil))))⟩
def f17 : Def := ⟨"_law_node", 2, ["_law_dice_here", "_law_words_here", "_law_ways", "_law_some_here", "_law_turn"], false, false, false,
  (.cons (.asg 2 (.b1 .tuple (.lm false (.lc (.rng1 (.call 8 (.cons (.var 0) (.cons (.con (.int 4)) .nil)))) (.name 4) .no (.call 9 (.cons (.var 0) (.cons (.lm false (.disp (.cons (.con (.str "lazy")) (.cons (.con (.str "strict")) .nil)))) .nil)))))))
  (.cons (.asg 3 (.lm false (.disp (.cons (.tup (.cons (.con (.str "use")) (.cons (.idx (.var 1) (.con (.int 0))) .nil))) (.cons (.tup (.cons (.con (.str "value")) .nil)) (.cons (.tup (.cons (.con (.str "fail")) .nil)) (.cons (.tup (.cons (.con (.str "test")) .nil)) (.cons (.tup (.cons (.con (.str "do")) (.cons (.idx (.var 1) (.con (.int 1))) (.cons (.call 8 (.cons (.var 0) (.cons (.con (.int 4)) .nil))) .nil)))) .nil))))))))
  (.cons (.ret (.call 9 (.cons (.var 0) (.cons (.bin .Add (.var 3) (.lm false (.disp (.cons (.tup (.cons (.con (.str "call")) (.cons (.idx (.var 1) (.con (.int 2))) (.cons (.var 2) .nil)))) (.cons (.tup (.cons (.con (.str "call")) (.cons (.idx (.var 1) (.con (.int 0))) (.cons (.var 2) .nil)))) (.cons (.tup (.cons (.con (.str "do")) (.cons (.idx (.var 1) (.con (.int 0))) (.cons (.con (.int 0)) .nil)))) .nil)))))) .nil))))
  .nil)))⟩
def f18 : Def := ⟨"_law_odd", 1, ["_law_dice_here", "_law_some_here"], false, false, false,
  (.cons (.asg 1 (.lm false (.disp (.cons (.con .non) (.cons (.con (.int 0)) (.cons (.con (.int 1)) (.cons (.con (.int 3)) (.cons (.con (.int 4)) (.cons (.neg (.con (.int 1))) (.cons (.con (.bl true)) (.cons (.con (.bl false)) (.cons (.con (.str "")) (.cons (.con (.str "use")) (.cons (.con (.str "value")) (.cons (.con (.str "do")) (.cons (.con (.str "lazy")) (.cons (.con (.str "early")) (.cons (.con (.str "a")) (.cons (.con (.str "abcdefghi")) (.cons (.tup .nil) (.cons (.lm false (.disp .nil)) .nil)))))))))))))))))))))
  (.cons (.asg 1 (.bin .Add (.var 1) (.lm false (.disp (.cons .dict0 (.cons (.tup (.cons (.con (.str "lazy")) .nil)) (.cons (.lm false (.disp (.cons (.con (.str "lazy")) .nil))) (.cons (.tup (.cons (.con (.str "lazy")) (.cons (.con .non) .nil))) (.cons (.bin .Mult (.tup (.cons (.con (.str "strict")) .nil)) (.con (.int 4))) (.cons (.tup (.cons (.con (.str "lazy")) (.cons (.lm false (.disp .nil)) .nil))) (.cons (.tup (.cons .dict0 .nil)) (.cons (.bin .Pow (.con (.int 10)) (.con (.int 60))) .nil))))))))))))
  (.cons (.ret (.call 9 (.cons (.var 0) (.cons (.bin .Add (.var 1) (.lm false (.disp (.cons (.tup (.cons (.con (.str "value")) .nil)) (.cons (.tup (.cons (.con (.str "test")) .nil)) (.cons (.tup (.cons (.con (.str "use")) (.cons (.con (.str "a")) .nil))) (.cons (.tup (.cons (.con (.str "a")) .nil)) (.cons (.con (.int 2)) .nil)))))))) .nil))))
  .nil)))⟩
def f19 : Def := ⟨"_law_spoiled", 2, ["_law_dice_here", "_law_node_here", "_law_at", "_law_way"], false, false, false,
  (.cons (.par [2, 3] (.cons (.call 8 (.cons (.var 0) (.cons (.b1 .len (.var 1)) .nil))) (.cons (.call 8 (.cons (.var 0) (.cons (.con (.int 5)) .nil))) .nil)))
  (.cons (.ife (.cmp .Lt (.var 3) (.con (.int 2))) (.cons (.ret (.bin .Add (.bin .Add (.sli (.var 1) .no (.yes (.var 2))) (.tup (.cons (.call 18 (.cons (.var 0) .nil)) .nil))) (.sli (.var 1) (.yes (.bin .Add (.var 2) (.con (.int 1)))) .no)))
  .nil) .nil)
  (.cons (.ife (.cmp .Eq (.var 3) (.con (.int 2))) (.cons (.ret (.bin .Add (.var 1) (.tup (.cons (.call 18 (.cons (.var 0) .nil)) .nil))))
  .nil) .nil)
  (.cons (.ife (.cmp .Eq (.var 3) (.con (.int 3))) (.cons (.ret (.bin .Add (.sli (.var 1) .no (.yes (.var 2))) (.sli (.var 1) (.yes (.bin .Add (.var 2) (.con (.int 1)))) .no)))
  .nil) .nil)
  (.cons (.ret (.call 9 (.cons (.var 0) (.cons (.lm false (.disp (.cons (.lm false (.blt .list (.var 1))) (.cons (.tup (.cons (.var 1) .nil)) (.cons (.idx (.var 1) (.con (.int 0))) (.cons (.revT (.var 1)) .nil)))))) .nil))))
  .nil)))))⟩
def f20 : Def := ⟨"_law_bent", 3, ["_law_dice_here", "_law_words_here", "_law_body", "_law_some_here", "_law_at", "_law_node_here"], false, false, false,
  (.cons (.par [4, 5] (.cons (.call 8 (.cons (.var 0) (.cons (.b1 .len (.var 2)) .nil))) (.cons (.call 17 (.cons (.var 0) (.cons (.var 1) .nil))) .nil)))
  (.cons (.asg 3 (.lm true (.disp (.cons (.bin .Add (.bin .Add (.sli (.var 2) .no (.yes (.var 4))) (.tup (.cons (.var 5) .nil))) (.sli (.var 2) (.yes (.var 4)) .no)) (.cons (.bin .Add (.sli (.var 2) .no (.yes (.var 4))) (.sli (.var 2) (.yes (.bin .Add (.var 4) (.con (.int 1)))) .no)) (.cons (.bin .Add (.bin .Add (.sli (.var 2) .no (.yes (.var 4))) (.tup (.cons (.var 5) .nil))) (.sli (.var 2) (.yes (.bin .Add (.var 4) (.con (.int 1)))) .no)) .nil))))))
  (.cons (.asg 3 (.lm true (.cat (.var 3) (.lm false (.disp (.cons (.revT (.var 2)) (.cons (.bin .Add (.var 2) (.var 2)) (.cons (.sli (.var 2) .no (.yes (.var 4))) (.cons (.sli (.var 2) (.yes (.var 4)) .no) (.cons (.bin .Add (.var 2) (.tup (.cons (.var 5) .nil))) (.cons (.lm false (.blt .list (.var 2))) (.cons (.tup (.cons (.var 2) .nil)) (.cons (.idx (.var 2) (.con (.int 0))) .nil)))))))))))))
  (.cons (.asg 3 (.lm true (.cat (.var 3) (.lm false (.disp (.cons (.bin .Add (.bin .Add (.var 2) (.var 2)) (.tup (.cons (.tup (.cons (.con (.str "do")) (.cons (.con (.str "s")) (.cons (.con (.int 2)) .nil)))) .nil))) (.cons (.bin .Add (.var 2) (.tup (.cons (.tup (.cons (.con (.str "call")) (.cons (.con (.str "f")) (.cons (.tup (.cons (.con (.str "lazy")) .nil)) .nil)))) .nil))) (.cons (.bin .Add (.var 2) (.bin .Mult (.tup (.cons (.tup (.cons (.con (.str "do")) (.cons (.con (.str "s")) (.cons (.con (.int 1)) .nil)))) .nil)) (.con (.int 9)))) .nil))))))))
  (.cons (.expr (.app (.var 3) (.bin .Add (.bin .Mult (.var 2) (.con (.int 3))) (.tup (.cons (.tup (.cons (.con (.str "test")) .nil)) .nil)))))
  (.cons (.ret (.call 9 (.cons (.var 0) (.cons (.bin .Add (.var 3) (.lm false (.disp (.cons (.bin .Add (.bin .Add (.sli (.var 2) .no (.yes (.var 4))) (.tup (.cons (.call 19 (.cons (.var 0) (.cons (.idx (.var 2) (.var 4)) .nil))) .nil))) (.sli (.var 2) (.yes (.bin .Add (.var 4) (.con (.int 1)))) .no)) .nil)))) .nil))))
  .nil))))))⟩
def f21 : Def := ⟨"_law_right", 1, ["_law_dice_here", "_law_words_here", "_law_turn", "_law_arities", "_law_body", "_law_node_here", "_law_told", "_law_near", "_law_odd_here"], false, false, false,
  (.cons (.asg 1 (.call 11 (.cons (.var 0) (.cons (.con (.int 4)) .nil))))
  (.cons (.forr (.rng1 (.con (.int 4))) (.name 2) (.cons (.asg 5 (.call 17 (.cons (.var 0) (.cons (.var 1) .nil))))
  (.cons (.par [7, 8] (.cons (.call 19 (.cons (.var 0) (.cons (.var 5) .nil))) (.cons (.call 18 (.cons (.var 0) .nil)) .nil)))
  (.cons (.asg 6 (.lm false (.disp (.cons (.call 3 (.cons (.var 5) .nil)) (.cons (.call 3 (.cons (.var 7) .nil)) (.cons (.call 3 (.cons (.var 8) .nil)) (.cons (.call 6 (.cons (.var 8) .nil)) (.cons (.call 6 (.cons (.var 5) .nil)) .nil))))))))
  (.cons (.ife (.cmp .NotEq (.b1 .repr (.var 6)) (.b1 .repr (.lm false (.disp (.cons (.con (.bl true)) (.cons (.call 15 (.cons (.var 7) .nil)) (.cons (.call 15 (.cons (.var 8) .nil)) (.cons (.call 16 (.cons (.var 8) .nil)) (.cons (.call 16 (.cons (.var 5) .nil)) .nil))))))))) (.cons (.ret (.con (.bl false)))
  .nil) .nil)
  .nil)))))
  (.cons (.asg 3 (.dspE (.cons (.idx (.var 1) (.con (.int 2))) (.cons (.call 8 (.cons (.var 0) (.cons (.con (.int 4)) .nil))) (.cons (.idx (.var 1) (.con (.int 3))) (.cons (.con (.int 1)) .nil))))))
  (.cons (.asg 4 (.b1 .tuple (.call 13 (.cons (.var 0) (.cons (.var 3) (.cons (.var 1) (.cons (.con (.int 3)) .nil)))))))
  (.cons (.ife (.bop false (.cons (.cmp .IsNot (.call 6 (.cons (.var 4) .nil)) (.con (.bl true))) (.cons (.not (.call 16 (.cons (.var 4) .nil))) .nil))) (.cons (.ret (.con (.bl false)))
  .nil) .nil)
  (.cons (.forr (.rng1 (.con (.int 6))) (.name 2) (.cons (.asg 7 (.call 20 (.cons (.var 0) (.cons (.var 1) (.cons (.var 4) .nil)))))
  (.cons (.ife (.cmp .NotEq (.b1 .repr (.call 6 (.cons (.var 7) .nil))) (.b1 .repr (.call 16 (.cons (.var 7) .nil)))) (.cons (.ret (.con (.bl false)))
  .nil) .nil)
  .nil)))
  (.cons (.ret (.con (.bl true)))
  .nil)))))))⟩
def f22 : Def := ⟨"law", 1, ["_law_script", "_law_spot", "_law_row", "_law_told", "_law_wide", "_law_sign"], false, false, false,
  (.cons (.forr (.rng1 (.b2 .max (.con (.int 1)) (.b2 .min (.con (.int 8)) (.b1 .len (.var 0))))) (.name 1) (.cons (.ife (.not (.call 21 (.cons (.call 7 (.cons (.var 0) (.cons (.var 1) .nil))) .nil))) (.cons (.ret (.con (.bl false)))
  .nil) .nil)
  .nil))
  (.cons (.asg 2 (.bin .Add (.tup (.cons (.tup (.cons (.con (.str "value")) .nil)) .nil)) (.bin .Mult (.tup (.cons (.tup (.cons (.con (.str "do")) (.cons (.con (.str "s")) (.cons (.con (.int 1)) .nil)))) .nil)) (.con (.int 39)))))
  (.cons (.asg 3 (.lm false (.disp (.cons (.call 6 (.cons (.var 2) .nil)) (.cons (.call 6 (.cons (.bin .Add (.var 2) (.tup (.cons (.tup (.cons (.con (.str "do")) (.cons (.con (.str "s")) (.cons (.con (.int 1)) .nil)))) .nil))) .nil)) (.cons (.call 6 (.cons (.sli (.var 2) .no (.yes (.con (.int 1)))) .nil)) (.cons (.call 6 (.cons (.tup .nil) .nil)) (.cons (.call 6 (.cons (.tup (.cons (.tup (.cons (.con (.str "test")) .nil)) .nil)) .nil)) .nil))))))))
  (.cons (.asg 4 (.bin .Add (.bin .Mult (.tup (.cons (.tup (.cons (.con (.str "use")) (.cons (.con (.str "a")) .nil))) .nil)) (.con (.int 3))) (.tup (.cons (.tup (.cons (.con (.str "test")) .nil)) .nil))))
  (.cons (.asg 3 (.bin .Add (.var 3) (.lm false (.disp (.cons (.call 6 (.cons (.var 4) .nil)) (.cons (.call 6 (.cons (.sli (.var 4) (.yes (.con (.int 1))) .no) .nil)) (.cons (.call 6 (.cons (.bin .Add (.tup (.cons (.tup (.cons (.con (.str "use")) (.cons (.con (.str "a")) .nil))) .nil)) (.var 4)) .nil)) (.cons (.call 6 (.cons (.tup (.cons (.tup (.cons (.con (.str "do")) (.cons (.con (.str "s")) (.cons (.con (.int 0)) .nil)))) .nil)) .nil)) .nil))))))))
  (.cons (.asg 3 (.bin .Add (.var 3) (.lm false (.disp (.cons (.call 3 (.cons (.tup (.cons (.con (.str "do")) (.cons (.con (.str "s")) (.cons (.con (.bl true)) .nil)))) .nil)) (.cons (.call 3 (.cons (.tup (.cons (.con (.str "call")) (.cons (.con (.str "f")) (.cons (.lm false (.disp (.cons (.con (.str "lazy")) .nil))) .nil)))) .nil)) (.cons (.call 3 (.cons (.lm false (.disp (.cons (.con (.str "value")) .nil))) .nil)) .nil)))))))
  (.cons (.asg 3 (.bin .Add (.var 3) (.lm false (.disp (.cons (.call 3 (.cons (.tup (.cons (.lm false (.disp (.cons (.con (.str "use")) .nil))) (.cons (.con (.str "a")) .nil))) .nil)) .nil)))))
  (.cons (.ife (.cmp .NotEq (.var 3) (.lm false (.disp (.cons (.con (.bl true)) (.cons (.con (.bl false)) (.cons (.con (.bl true)) (.cons (.con (.bl false)) (.cons (.con (.bl false)) (.cons (.con (.bl true)) (.cons (.con (.bl false)) (.cons (.con (.bl false)) (.cons (.con (.bl true)) (.cons (.con (.bl false)) (.cons (.con (.bl false)) (.cons (.con (.bl false)) (.cons (.con (.bl false)) .nil)))))))))))))))) (.cons (.ret (.con (.bl false)))
  .nil) .nil)
  (.cons (.asg 2 (.bin .Add (.b1 .tuple (.lm false (.lc (.seq (.con (.str "abcdef"))) (.name 5) .no (.tup (.cons (.con (.str "use")) (.cons (.var 5) .nil)))))) (.tup (.cons (.tup (.cons (.con (.str "do")) (.cons (.con (.str "s")) (.cons (.con (.int 3)) .nil)))) (.cons (.tup (.cons (.con (.str "do")) (.cons (.con (.str "s")) (.cons (.con (.int 2)) .nil)))) (.cons (.tup (.cons (.con (.str "test")) .nil)) .nil))))))
  (.cons (.ife (.cmp .NotEq (.lm false (.disp (.cons (.call 6 (.cons (.var 2) .nil)) (.cons (.call 6 (.cons (.bin .Add (.sli (.var 2) .no (.yes (.con (.int 4)))) (.tup (.cons (.tup (.cons (.con (.str "do")) (.cons (.con (.str "s")) (.cons (.con (.int 2)) .nil)))) (.cons (.tup (.cons (.con (.str "test")) .nil)) .nil)))) .nil)) (.cons (.call 6 (.cons (.sli (.var 2) (.yes (.con (.int 1))) .no) .nil)) .nil))))) (.lm false (.disp (.cons (.con (.bl true)) (.cons (.con (.bl true)) (.cons (.con (.bl false)) .nil)))))) (.cons (.ret (.con (.bl false)))
  .nil) .nil)
  (.cons (.asg 3 (.lm false (.disp (.cons (.call 3 (.cons (.tup (.cons (.con (.str "call")) (.cons (.con (.str "f")) (.cons (.tup (.cons (.con (.str "early")) .nil)) .nil)))) .nil)) (.cons (.call 3 (.cons (.tup (.cons (.con (.str "call")) (.cons (.con (.str "f")) (.cons (.tup (.cons (.con (.str "lazy")) (.cons (.con (.str "strict")) .nil))) .nil)))) .nil)) (.cons (.call 3 (.cons (.tup (.cons (.con (.str "do")) (.cons (.con (.str "s")) (.cons (.con (.int 4)) .nil)))) .nil)) .nil))))))
  (.cons (.ife (.cmp .NotEq (.var 3) (.lm false (.disp (.cons (.con (.bl false)) (.cons (.con (.bl true)) (.cons (.con (.bl false)) .nil)))))) (.cons (.ret (.con (.bl false)))
  .nil) .nil)
  (.cons (.ret (.cmp .Eq (.lm false (.disp (.cons (.glob "MAX_PARAMETERS" 2) (.cons (.glob "MAX_OPERANDS" 3) (.cons (.glob "MAX_NODES" 4) .nil))))) (.lm false (.disp (.cons (.con (.int 3)) (.cons (.con (.int 3)) (.cons (.con (.int 40)) .nil)))))))
  .nil)))))))))))))⟩
def fs : List Def := [f0, f1, f2, f3, f4, f5, f6, f7, f8, f9, f10, f11, f12, f13, f14, f15, f16, f17, f18, f19, f20, f21, f22]
def tab : Tab := ⟨["abs", "all", "bool", "enumerate", "int", "isinstance", "len", "list", "max", "min", "range", "repr", "sorted", "str", "tuple"], [("MAX_LETTERS", 0), ("KEYWORDS", 1), ("MAX_PARAMETERS", 2), ("MAX_OPERANDS", 3), ("MAX_NODES", 4), ("LAZY", 5), ("STRICT", 6), ("LEAVES", 7)], [(.int 8), (.tup [(.str "do"), (.str "fail"), (.str "test"), (.str "value")]), (.int 3), (.int 3), (.int 40), (.str "lazy"), (.str "strict"), (.tup [(.str "fail"), (.str "value")])], [⟨"is_integer", 1⟩, ⟨"is_integer_within", 3⟩, ⟨"is_name", 1⟩, ⟨"is_node", 1⟩, ⟨"arity_of", 1⟩, ⟨"operands_of", 1⟩, ⟨"is_body", 1⟩, ⟨"_law_dice", 2⟩, ⟨"_law_roll", 2⟩, ⟨"_law_pick", 2⟩, ⟨"_law_some", 3⟩, ⟨"_law_words", 2⟩, ⟨"_law_leaf", 2⟩, ⟨"_law_expression", 4⟩, ⟨"_law_is_word", 1⟩, ⟨"_law_is_node", 1⟩, ⟨"_law_is_body", 1⟩, ⟨"_law_node", 2⟩, ⟨"_law_odd", 1⟩, ⟨"_law_spoiled", 2⟩, ⟨"_law_bent", 3⟩, ⟨"_law_right", 1⟩, ⟨"law", 1⟩], [], [], []⟩
-- tolds: 
-- classes: 
-- names: {"is_integer": 0, "is_integer_within": 1, "is_name": 2, "is_node": 3, "arity_of": 4, "operands_of": 5, "is_body": 6, "_law_dice": 7, "_law_roll": 8, "_law_pick": 9, "_law_some": 10, "_law_words": 11, "_law_leaf": 12, "_law_expression": 13, "_law_is_word": 14, "_law_is_node": 15, "_law_is_body": 16, "_law_node": 17, "_law_odd": 18, "_law_spoiled": 19, "_law_bent": 20, "_law_right": 21, "law": 22}
-- places: is_integer 3, is_integer_within 4, is_name 5, is_node 13, arity_of 14, operands_of 15, is_body 16, _law_dice 18, _law_roll 19, _law_pick 20, _law_some 21, _law_words 22, _law_leaf 23, _law_expression 24, _law_is_word 25, _law_is_node 26, _law_is_body 27, _law_node 28, _law_odd 29, _law_spoiled 30, _law_bent 31, _law_right 32, law 33
theorem gv_MAX_LETTERS : (tab.gvals[0]?).getD .non = (.int 8) := rfl
theorem gv_KEYWORDS : (tab.gvals[1]?).getD .non = (.tup [(.str "do"), (.str "fail"), (.str "test"), (.str "value")]) := rfl
theorem gv_MAX_PARAMETERS : (tab.gvals[2]?).getD .non = (.int 3) := rfl
theorem gv_MAX_OPERANDS : (tab.gvals[3]?).getD .non = (.int 3) := rfl
theorem gv_MAX_NODES : (tab.gvals[4]?).getD .non = (.int 40) := rfl
theorem gv_LAZY : (tab.gvals[5]?).getD .non = (.str "lazy") := rfl
theorem gv_STRICT : (tab.gvals[6]?).getD .non = (.str "strict") := rfl
theorem gv_LEAVES : (tab.gvals[7]?).getD .non = (.tup [(.str "fail"), (.str "value")]) := rfl
end LK
set_option maxRecDepth 100000
set_option maxHeartbeats 4000000
namespace LK
open PySem L2 AW
def top (i : Nat) : Stmt := PySem.Challenge.pw_askwords_k03_nodes_and_bodies.main.body.getD i (.Pass ⟨0, 0, 0, 0⟩)
theorem sc0 : scopeB f0.N f0.np (defScope (top 3)) = true := by decide +kernel
theorem ck0 : chkSs f0.N tab f0.body ⟨defScope (top 3), f0.lam⟩ (defBody (top 3)) = true := by decide +kernel
theorem sc1 : scopeB f1.N f1.np (defScope (top 4)) = true := by decide +kernel
theorem ck1 : chkSs f1.N tab f1.body ⟨defScope (top 4), f1.lam⟩ (defBody (top 4)) = true := by decide +kernel
theorem sc2 : scopeB f2.N f2.np (defScope (top 5)) = true := by decide +kernel
theorem ck2 : chkSs f2.N tab f2.body ⟨defScope (top 5), f2.lam⟩ (defBody (top 5)) = true := by decide +kernel
theorem sc3 : scopeB f3.N f3.np (defScope (top 13)) = true := by decide +kernel
theorem ck3 : chkSs f3.N tab f3.body ⟨defScope (top 13), f3.lam⟩ (defBody (top 13)) = true := by decide +kernel
theorem sc4 : scopeB f4.N f4.np (defScope (top 14)) = true := by decide +kernel
theorem ck4 : chkSs f4.N tab f4.body ⟨defScope (top 14), f4.lam⟩ (defBody (top 14)) = true := by decide +kernel
theorem sc5 : scopeB f5.N f5.np (defScope (top 15)) = true := by decide +kernel
theorem ck5 : chkSs f5.N tab f5.body ⟨defScope (top 15), f5.lam⟩ (defBody (top 15)) = true := by decide +kernel
theorem sc6 : scopeB f6.N f6.np (defScope (top 16)) = true := by decide +kernel
theorem ck6 : chkSs f6.N tab f6.body ⟨defScope (top 16), f6.lam⟩ (defBody (top 16)) = true := by decide +kernel
theorem sc7 : scopeB f7.N f7.np (defScope (top 18)) = true := by decide +kernel
theorem ck7 : chkSs f7.N tab f7.body ⟨defScope (top 18), f7.lam⟩ (defBody (top 18)) = true := by decide +kernel
theorem sc8 : scopeB f8.N f8.np (defScope (top 19)) = true := by decide +kernel
theorem ck8 : chkSs f8.N tab f8.body ⟨defScope (top 19), f8.lam⟩ (defBody (top 19)) = true := by decide +kernel
theorem sc9 : scopeB f9.N f9.np (defScope (top 20)) = true := by decide +kernel
theorem ck9 : chkSs f9.N tab f9.body ⟨defScope (top 20), f9.lam⟩ (defBody (top 20)) = true := by decide +kernel
theorem sc10 : scopeB f10.N f10.np (defScope (top 21)) = true := by decide +kernel
theorem ck10 : chkSs f10.N tab f10.body ⟨defScope (top 21), f10.lam⟩ (defBody (top 21)) = true := by decide +kernel
theorem sc11 : scopeB f11.N f11.np (defScope (top 22)) = true := by decide +kernel
theorem ck11 : chkSs f11.N tab f11.body ⟨defScope (top 22), f11.lam⟩ (defBody (top 22)) = true := by decide +kernel
theorem sc12 : scopeB f12.N f12.np (defScope (top 23)) = true := by decide +kernel
theorem ck12 : chkSs f12.N tab f12.body ⟨defScope (top 23), f12.lam⟩ (defBody (top 23)) = true := by decide +kernel
theorem sc13 : scopeB f13.N f13.np (defScope (top 24)) = true := by decide +kernel
theorem ck13 : chkSs f13.N tab f13.body ⟨defScope (top 24), f13.lam⟩ (defBody (top 24)) = true := by decide +kernel
theorem sc14 : scopeB f14.N f14.np (defScope (top 25)) = true := by decide +kernel
theorem ck14 : chkSs f14.N tab f14.body ⟨defScope (top 25), f14.lam⟩ (defBody (top 25)) = true := by decide +kernel
theorem sc15 : scopeB f15.N f15.np (defScope (top 26)) = true := by decide +kernel
theorem ck15 : chkSs f15.N tab f15.body ⟨defScope (top 26), f15.lam⟩ (defBody (top 26)) = true := by decide +kernel
theorem sc16 : scopeB f16.N f16.np (defScope (top 27)) = true := by decide +kernel
theorem ck16 : chkSs f16.N tab f16.body ⟨defScope (top 27), f16.lam⟩ (defBody (top 27)) = true := by decide +kernel
theorem sc17 : scopeB f17.N f17.np (defScope (top 28)) = true := by decide +kernel
theorem ck17 : chkSs f17.N tab f17.body ⟨defScope (top 28), f17.lam⟩ (defBody (top 28)) = true := by decide +kernel
theorem sc18 : scopeB f18.N f18.np (defScope (top 29)) = true := by decide +kernel
theorem ck18 : chkSs f18.N tab f18.body ⟨defScope (top 29), f18.lam⟩ (defBody (top 29)) = true := by decide +kernel
theorem sc19 : scopeB f19.N f19.np (defScope (top 30)) = true := by decide +kernel
theorem ck19 : chkSs f19.N tab f19.body ⟨defScope (top 30), f19.lam⟩ (defBody (top 30)) = true := by decide +kernel
theorem sc20 : scopeB f20.N f20.np (defScope (top 31)) = true := by decide +kernel
theorem ck20 : chkSs f20.N tab f20.body ⟨defScope (top 31), f20.lam⟩ (defBody (top 31)) = true := by decide +kernel
theorem sc21 : scopeB f21.N f21.np (defScope (top 32)) = true := by decide +kernel
theorem ck21 : chkSs f21.N tab f21.body ⟨defScope (top 32), f21.lam⟩ (defBody (top 32)) = true := by decide +kernel
theorem sc22 : scopeB f22.N f22.np (defScope (top 33)) = true := by decide +kernel
theorem ck22 : chkSs f22.N tab f22.body ⟨defScope (top 33), f22.lam⟩ (defBody (top 33)) = true := by decide +kernel
end LK
set_option maxRecDepth 100000
set_option maxHeartbeats 0
namespace LK
open PySem PySem.Spec PyProof.Rows L2 AW
def fn : List He.DefD := [mkD f0 (top 3), mkD f1 (top 4), mkD f2 (top 5), mkD f3 (top 13), mkD f4 (top 14), mkD f5 (top 15), mkD f6 (top 16), mkD f7 (top 18), mkD f8 (top 19), mkD f9 (top 20), mkD f10 (top 21), mkD f11 (top 22), mkD f12 (top 23), mkD f13 (top 24), mkD f14 (top 25), mkD f15 (top 26), mkD f16 (top 27), mkD f17 (top 28), mkD f18 (top 29), mkD f19 (top 30), mkD f20 (top 31), mkD f21 (top 32), mkD f22 (top 33)]
abbrev hk : PySem.W.Hook := hkOf tab fn
def ob (s : PySem.W.SharedT) : He.AlX := He.obsX 4 (faOf tab) fn [] (tfOf tab) (exB tab) (HandSHeadRun.getT s)
theorem ob_eq (s : PySem.W.SharedT) : ob s = hk.obs s.abs := He.obsX_eq (HandSHeadRun.getT_eq s)
def loose : List Str := ["MAX_LETTERS", "KEYWORDS", "MAX_PARAMETERS", "MAX_OPERANDS", "MAX_NODES", "LAZY", "STRICT", "LEAVES", "is_integer", "is_integer_within", "is_name", "is_node", "arity_of", "operands_of", "is_body", "_law_dice", "_law_roll", "_law_pick", "_law_some", "_law_words", "_law_leaf", "_law_expression", "_law_is_word", "_law_is_node", "_law_is_body", "_law_node", "_law_odd", "_law_spoiled", "_law_bent", "_law_right"]
theorem runs (w : World) : HandSHeadRun.RunEq (PySem.W.OpenLaw.row PySem.Challenge.rw_askwords_k03_nodes_and_bodies) (PySem.W.view (PySem.W.OpenLaw.row PySem.Challenge.rw_askwords_k03_nodes_and_bodies).prog [33]) hk ob 4000 loose w := by
  intro os
  kernel_rfl
theorem tok {w : World} {h base : Heap} {K : Frag} {mg : Str → Option Value} (X : K.In h) (G : h.Ns mainGlobals mg) (c : SaysT tab fn w h K) (TB : ∀ p ∈ (tfOf tab).map (He.cT K), LamX.TabB base mg p.1 p.2) : TOk K mg base tab fs := by
  obtain ⟨fd0, F0⟩ := fun_of c 0 (f := f0) (st := top 3) rfl
  obtain ⟨fd1, F1⟩ := fun_of c 1 (f := f1) (st := top 4) rfl
  obtain ⟨fd2, F2⟩ := fun_of c 2 (f := f2) (st := top 5) rfl
  obtain ⟨fd3, F3⟩ := fun_of c 3 (f := f3) (st := top 13) rfl
  obtain ⟨fd4, F4⟩ := fun_of c 4 (f := f4) (st := top 14) rfl
  obtain ⟨fd5, F5⟩ := fun_of c 5 (f := f5) (st := top 15) rfl
  obtain ⟨fd6, F6⟩ := fun_of c 6 (f := f6) (st := top 16) rfl
  obtain ⟨fd7, F7⟩ := fun_of c 7 (f := f7) (st := top 18) rfl
  obtain ⟨fd8, F8⟩ := fun_of c 8 (f := f8) (st := top 19) rfl
  obtain ⟨fd9, F9⟩ := fun_of c 9 (f := f9) (st := top 20) rfl
  obtain ⟨fd10, F10⟩ := fun_of c 10 (f := f10) (st := top 21) rfl
  obtain ⟨fd11, F11⟩ := fun_of c 11 (f := f11) (st := top 22) rfl
  obtain ⟨fd12, F12⟩ := fun_of c 12 (f := f12) (st := top 23) rfl
  obtain ⟨fd13, F13⟩ := fun_of c 13 (f := f13) (st := top 24) rfl
  obtain ⟨fd14, F14⟩ := fun_of c 14 (f := f14) (st := top 25) rfl
  obtain ⟨fd15, F15⟩ := fun_of c 15 (f := f15) (st := top 26) rfl
  obtain ⟨fd16, F16⟩ := fun_of c 16 (f := f16) (st := top 27) rfl
  obtain ⟨fd17, F17⟩ := fun_of c 17 (f := f17) (st := top 28) rfl
  obtain ⟨fd18, F18⟩ := fun_of c 18 (f := f18) (st := top 29) rfl
  obtain ⟨fd19, F19⟩ := fun_of c 19 (f := f19) (st := top 30) rfl
  obtain ⟨fd20, F20⟩ := fun_of c 20 (f := f20) (st := top 31) rfl
  obtain ⟨fd21, F21⟩ := fun_of c 21 (f := f21) (st := top 32) rfl
  obtain ⟨fd22, F22⟩ := fun_of c 22 (f := f22) (st := top 33) rfl
  refine ⟨free_of X G c, gB_ok X G (gBs c), rfl, ⟨?d0, ?d1, ?d2, ?d3, ?d4, ?d5, ?d6, ?d7, ?d8, ?d9, ?d10, ?d11, ?d12, ?d13, ?d14, ?d15, ?d16, ?d17, ?d18, ?d19, ?d20, ?d21, ?d22, trivial⟩, err_of X G c fun t ht => ?e⟩
  case e => exact absurd ht List.not_mem_nil
  case d0 => exact ⟨_, fd0, _, _, _, glo_of X G c 0 rfl, F0, plain_binds F0 (f := f0) rfl (fun _ _ _ _ _ _ us hl => match us, hl with | [_], _ => rfl), lam_of c TB F0 (by decide +kernel), sc0, ck0⟩
  case d1 => exact ⟨_, fd1, _, _, _, glo_of X G c 1 rfl, F1, plain_binds F1 (f := f1) rfl (fun _ _ _ _ _ _ us hl => match us, hl with | [_, _, _], _ => rfl), lam_of c TB F1 (by decide +kernel), sc1, ck1⟩
  case d2 => exact ⟨_, fd2, _, _, _, glo_of X G c 2 rfl, F2, plain_binds F2 (f := f2) rfl (fun _ _ _ _ _ _ us hl => match us, hl with | [_], _ => rfl), lam_of c TB F2 (by decide +kernel), sc2, ck2⟩
  case d3 => exact ⟨_, fd3, _, _, _, glo_of X G c 3 rfl, F3, plain_binds F3 (f := f3) rfl (fun _ _ _ _ _ _ us hl => match us, hl with | [_], _ => rfl), lam_of c TB F3 (by decide +kernel), sc3, ck3⟩
  case d4 => exact ⟨_, fd4, _, _, _, glo_of X G c 4 rfl, F4, plain_binds F4 (f := f4) rfl (fun _ _ _ _ _ _ us hl => match us, hl with | [_], _ => rfl), lam_of c TB F4 (by decide +kernel), sc4, ck4⟩
  case d5 => exact ⟨_, fd5, _, _, _, glo_of X G c 5 rfl, F5, plain_binds F5 (f := f5) rfl (fun _ _ _ _ _ _ us hl => match us, hl with | [_], _ => rfl), lam_of c TB F5 (by decide +kernel), sc5, ck5⟩
  case d6 => exact ⟨_, fd6, _, _, _, glo_of X G c 6 rfl, F6, plain_binds F6 (f := f6) rfl (fun _ _ _ _ _ _ us hl => match us, hl with | [_], _ => rfl), lam_of c TB F6 (by decide +kernel), sc6, ck6⟩
  case d7 => exact ⟨_, fd7, _, _, _, glo_of X G c 7 rfl, F7, plain_binds F7 (f := f7) rfl (fun _ _ _ _ _ _ us hl => match us, hl with | [_, _], _ => rfl), lam_of c TB F7 (by decide +kernel), sc7, ck7⟩
  case d8 => exact ⟨_, fd8, _, _, _, glo_of X G c 8 rfl, F8, plain_binds F8 (f := f8) rfl (fun _ _ _ _ _ _ us hl => match us, hl with | [_, _], _ => rfl), lam_of c TB F8 (by decide +kernel), sc8, ck8⟩
  case d9 => exact ⟨_, fd9, _, _, _, glo_of X G c 9 rfl, F9, plain_binds F9 (f := f9) rfl (fun _ _ _ _ _ _ us hl => match us, hl with | [_, _], _ => rfl), lam_of c TB F9 (by decide +kernel), sc9, ck9⟩
  case d10 => exact ⟨_, fd10, _, _, _, glo_of X G c 10 rfl, F10, plain_binds F10 (f := f10) rfl (fun _ _ _ _ _ _ us hl => match us, hl with | [_, _, _], _ => rfl), lam_of c TB F10 (by decide +kernel), sc10, ck10⟩
  case d11 => exact ⟨_, fd11, _, _, _, glo_of X G c 11 rfl, F11, plain_binds F11 (f := f11) rfl (fun _ _ _ _ _ _ us hl => match us, hl with | [_, _], _ => rfl), lam_of c TB F11 (by decide +kernel), sc11, ck11⟩
  case d12 => exact ⟨_, fd12, _, _, _, glo_of X G c 12 rfl, F12, plain_binds F12 (f := f12) rfl (fun _ _ _ _ _ _ us hl => match us, hl with | [_, _], _ => rfl), lam_of c TB F12 (by decide +kernel), sc12, ck12⟩
  case d13 => exact ⟨_, fd13, _, _, _, glo_of X G c 13 rfl, F13, plain_binds F13 (f := f13) rfl (fun _ _ _ _ _ _ us hl => match us, hl with | [_, _, _, _], _ => rfl), lam_of c TB F13 (by decide +kernel), sc13, ck13⟩
  case d14 => exact ⟨_, fd14, _, _, _, glo_of X G c 14 rfl, F14, plain_binds F14 (f := f14) rfl (fun _ _ _ _ _ _ us hl => match us, hl with | [_], _ => rfl), lam_of c TB F14 (by decide +kernel), sc14, ck14⟩
  case d15 => exact ⟨_, fd15, _, _, _, glo_of X G c 15 rfl, F15, plain_binds F15 (f := f15) rfl (fun _ _ _ _ _ _ us hl => match us, hl with | [_], _ => rfl), lam_of c TB F15 (by decide +kernel), sc15, ck15⟩
  case d16 => exact ⟨_, fd16, _, _, _, glo_of X G c 16 rfl, F16, plain_binds F16 (f := f16) rfl (fun _ _ _ _ _ _ us hl => match us, hl with | [_], _ => rfl), lam_of c TB F16 (by decide +kernel), sc16, ck16⟩
  case d17 => exact ⟨_, fd17, _, _, _, glo_of X G c 17 rfl, F17, plain_binds F17 (f := f17) rfl (fun _ _ _ _ _ _ us hl => match us, hl with | [_, _], _ => rfl), lam_of c TB F17 (by decide +kernel), sc17, ck17⟩
  case d18 => exact ⟨_, fd18, _, _, _, glo_of X G c 18 rfl, F18, plain_binds F18 (f := f18) rfl (fun _ _ _ _ _ _ us hl => match us, hl with | [_], _ => rfl), lam_of c TB F18 (by decide +kernel), sc18, ck18⟩
  case d19 => exact ⟨_, fd19, _, _, _, glo_of X G c 19 rfl, F19, plain_binds F19 (f := f19) rfl (fun _ _ _ _ _ _ us hl => match us, hl with | [_, _], _ => rfl), lam_of c TB F19 (by decide +kernel), sc19, ck19⟩
  case d20 => exact ⟨_, fd20, _, _, _, glo_of X G c 20 rfl, F20, plain_binds F20 (f := f20) rfl (fun _ _ _ _ _ _ us hl => match us, hl with | [_, _, _], _ => rfl), lam_of c TB F20 (by decide +kernel), sc20, ck20⟩
  case d21 => exact ⟨_, fd21, _, _, _, glo_of X G c 21 rfl, F21, plain_binds F21 (f := f21) rfl (fun _ _ _ _ _ _ us hl => match us, hl with | [_], _ => rfl), lam_of c TB F21 (by decide +kernel), sc21, ck21⟩
  case d22 => exact ⟨_, fd22, _, _, _, glo_of X G c 22 rfl, F22, plain_binds F22 (f := f22) rfl (fun _ _ _ _ _ _ us hl => match us, hl with | [_], _ => rfl), lam_of c TB F22 (by decide +kernel), sc22, ck22⟩
def Goal0 : Prop := ∀ ns : List Int, ns.length ≤ 63 → ∃ m', run tab.gvals fs 100 12 22 [.d (.lst (ns.map D.int))] [] = .ok (.d (.bl true)) m'
theorem hold (good : Goal0) : PySem.Challenge.rw_askwords_k03_nodes_and_bodies.Holds := by
  w_on; o_law
  refine HandSHeadRun.head_any (r := (PySem.W.OpenLaw.row PySem.Challenge.rw_askwords_k03_nodes_and_bodies)) (q := PySem.W.view (PySem.W.OpenLaw.row PySem.Challenge.rw_askwords_k03_nodes_and_bodies).prog [33]) (H := hk) (ob := ob) (M := 4000) (loose := loose) (d := HandSHeadRun.topDef (PySem.W.OpenLaw.row PySem.Challenge.rw_askwords_k03_nodes_and_bodies).prog 33) (kwd := []) ob_eq
    (by kernel_rfl) (fun s => by kernel_rfl) runs (by kernel_rfl) (by kernel_rfl) (by kernel_rfl) (by rfl) (by first | assumption | decide +kernel) (by decide +kernel) ⟨rfl, rfl, rfl, rfl, rfl, by decide +kernel⟩ ?hw ?hc
  case hw => w_witness2
  case hc =>
    refine walk_G (l := PySem.Challenge.rw_askwords_k03_nodes_and_bodies) (n := 63) (k := 3 * 12) (x := f22.N.headD "") rfl (by decide) (by kernel_rfl) ⟨rfl, by decide, by decide⟩ ?F
    intro w mg fa h Y G hmg0
    obtain ⟨K, KX, c⟩ := Y
    have hmg : mg f22.name = some (.ref fa) := by
      have e : (HandSHeadRun.topDef (PySem.W.OpenLaw.row PySem.Challenge.rw_askwords_k03_nodes_and_bodies).prog 33).name = f22.name := by kernel_rfl
      rw [← e]
      exact hmg0
    obtain ⟨fd, F⟩ := fun_of c 22 (f := f22) (st := top 33) rfl
    have hga := glo_of KX G c 22 (f := ⟨f22.name, f22.np⟩) rfl
    have e := hmg.symm.trans hga
    cases e
    have b := FunD.bindsA (ps := [f22.N.headD ""]) F fun _ _ _ _ _ _ us hl => match us, hl with | [_], _ => rfl
    refine ⟨K, fd, (tfOf tab).map (He.cT K), spD K 1 (run tab.gvals fs 100 12 22), KX, fun p hp => ?_, fun p hp => ?_, fun p hp => ?_, fun s v => b s [v] rfl, fun H a ns hl hT hS => law_sp (tabs_of c hT) hS (good ns hl), fun base kb nb TB => ?_⟩
    · obtain ⟨d, hd, rfl⟩ := List.mem_map.mp hp
      exact c.empty d hd
    · obtain ⟨d, hd, rfl⟩ := List.mem_map.mp hp
      exact c.out d hd
    · obtain ⟨d, hd, rfl⟩ := List.mem_map.mp hp
      exact PySem.W.codeHd_of_K KX (c.hd d hd)
    have O := tok KX G c TB
    obtain ⟨fa', h1, h2, _, fd', h4, _, _, _, F'⟩ := fn_all (P := (PySem.Challenge.rw_askwords_k03_nodes_and_bodies).prog) (w := w) (base := base) prims (fuel := 100) O 12 22 f22 rfl
    have e := h1.symm.trans hga
    cases e
    cases fun_same F F'
    exact h4 rfl
end LK
set_option maxRecDepth 100000
set_option maxHeartbeats 4000000
namespace AW
open PySem
/-! what an evaluation comes to -/
@[irreducible] def wp {α : Type} (o : Out α) (Q : α → Store → Prop) : Prop := match o with
  | .ok a m => Q a m
  | .exc _ _ => False
  | .bad => False
section
variable {α β : Type} {o : Out α} {Q Q' : α → Store → Prop} {a : α} {m : Store}
@[simp] theorem wp_ok : wp (.ok a m) Q = Q a m := by unfold wp; rfl
theorem wp_exc {x : Exc} : wp (.exc x m) Q = False := by unfold wp; rfl
theorem wp_bad : wp (.bad) Q = False := by unfold wp; rfl
theorem wp_bind {f : α → Store → Out β} {Q : β → Store → Prop} : wp (o.bind f) Q = wp o fun a m => wp (f a m) Q := by
  cases o
  · rw [wp_ok]; rfl
  · rw [wp_exc]; exact wp_exc
  · rw [wp_bad]; exact wp_bad
theorem wp_ite {c : Prop} [Decidable c] {x y : Out α} : wp (if c then x else y) Q = if c then wp x Q else wp y Q := by split <;> rfl
theorem wp_eq (h : wp o Q) : ∃ a m, o = .ok a m ∧ Q a m := by
  cases o with
  | ok a m => rw [wp_ok] at h; exact ⟨a, m, rfl, h⟩
  | exc _ _ => rw [wp_exc] at h; exact h.elim
  | bad => rw [wp_bad] at h; exact h.elim
theorem wp_mono (h : wp o Q) (i : ∀ a m, Q a m → Q' a m) : wp o Q' := by
  obtain ⟨a, m, rfl, q⟩ := wp_eq h
  rw [wp_ok]; exact i a m q
theorem wp_is (h : o = .ok a m) (q : Q a m) : wp o Q := by rw [h, wp_ok]; exact q
theorem eq_of_wp {v : α} {m' : Store} (h : wp o fun a m => a = v ∧ m = m') : o = .ok v m' := by
  obtain ⟨a, m, rfl, rfl, rfl⟩ := wp_eq h
  rfl
theorem wp_in (q : Q a m) : wp (.ok a m) Q := by rw [wp_ok]; exact q
end
/-- how a def ends -/
def fin (keep : Bool) (m0 : Store) (r : Fl) (m : Store) : Out Val := finish keep m0 (.ok r m)
section
variable {G : List D} {Φ : Fns} {fuel : Nat} {s : S} {ss : Ss} {ρ : Ev} {m : Store} {Q : Fl → Store → Prop} {i : Nat} {e : E}
theorem wp_fin {keep : Bool} {m0 : Store} {o : Out Fl} {Q : Val → Store → Prop} (h : wp o fun r m => wp (fin keep m0 r m) Q) : wp (finish keep m0 o) Q := by
  obtain ⟨a, m, rfl, q⟩ := wp_eq h
  exact q
theorem fin_ret {keep : Bool} {m0 m : Store} {d : D} {Q : Val → Store → Prop} (h : Q (.d d) (m.take m0.length)) : wp (fin keep m0 (.ret (.d d)) m) Q := wp_in h
theorem fin_eq {keep : Bool} {m : Store} {d : D} : wp (fin keep m (.ret (.d d)) m) fun v m' => v = .d d ∧ m' = m := fin_ret ⟨rfl, List.take_of_length_le (Nat.le_refl _)⟩
theorem fin_nx {keep : Bool} {m0 m : Store} {ρ : Ev} {Q : Val → Store → Prop} (h : Q (.d .non) (m.take m0.length)) : wp (fin keep m0 (.nx ρ) m) Q := wp_in h
theorem fin_cell {m0 m : Store} {n : Nat} {ds : List D} {Q : Val → Store → Prop} (hn : m0.length ≤ n) (e : m[n]? = some (.lst ds)) (h : Q (.d (.lst ds)) (m.take m0.length)) : wp (fin false m0 (.ret (.cell n)) m) Q := by
  show wp (retV false m0 m (.cell n)) Q
  unfold retV
  simp only [if_pos hn, e]
  exact wp_in h
theorem fin_keep {m0 m : Store} {n : Nat} {ds : List D} {Q : Val → Store → Prop} (hn : m0.length ≤ n) (e : m[n]? = some (.lst ds)) (h : Q (.cell m0.length) (m.take m0.length ++ [.lst ds])) : wp (fin true m0 (.ret (.cell n)) m) Q := by
  show wp (retV true m0 m (.cell n)) Q
  unfold retV
  simp only [if_pos hn, e]
  exact wp_in h
theorem run_eq {G : List D} {fs : List Def} {fuel k i : Nat} {f : Def} {vs us : List Val} {m : Store} (ρ : Ev) (e : fs[i]? = some f) (a : f.args vs = some us) (hr : startE f us = ρ) : run G fs fuel (k + 1) i vs m = finish f.keep m (execSs G (run G fs fuel k) fuel f.body ρ m) := by
  show (match fs[i]? with | none => Out.bad | some f => _) = _
  rw [e]
  show (match f.args vs with | some us => _ | none => _) = _
  rw [a, ← hr]
theorem wp_run {G : List D} {fs : List Def} {fuel k i : Nat} {f : Def} {vs us : List Val} {m : Store} {Q : Val → Store → Prop} (ρ : Ev) (e : fs[i]? = some f) (a : f.args vs = some us) (hr : startE f us = ρ) (h : wp (execSs G (run G fs fuel k) fuel f.body ρ m) fun r m' => wp (fin f.keep m r m') Q) : wp (run G fs fuel (k + 1) i vs m) Q := by
  rw [run_eq ρ e a hr]
  exact wp_fin h
/-- the rest behind a statement -/
def kont (G : List D) (Φ : Fns) (fuel : Nat) (ss : Ss) (Q : Fl → Store → Prop) : Fl → Store → Prop := fun r m => match r with
  | .nx ρ => wp (execSs G Φ fuel ss ρ m) Q
  | .ret v => Q (.ret v) m
  | .bk ρ => Q (.bk ρ) m
  | .ct ρ => Q (.ct ρ) m
theorem x_cons (h : wp (execS G Φ fuel s ρ m) (kont G Φ fuel ss Q)) : wp (execSs G Φ fuel (.cons s ss) ρ m) Q := by
  show wp ((execS G Φ fuel s ρ m).bind _) Q
  rw [wp_bind]
  refine wp_mono h fun r m h => ?_
  cases r with
  | nx ρ => exact h
  | ret v => exact wp_in h
  | bk ρ => exact wp_in h
  | ct ρ => exact wp_in h
theorem x_nil (h : Q (.nx ρ) m) : wp (execSs G Φ fuel .nil ρ m) Q := wp_in h
theorem x_asg (h : wp (evalE G Φ e ρ m) fun v m => wp (execSs G Φ fuel ss (ρ.set i (some v)) m) Q) : wp (execSs G Φ fuel (.cons (.asg i e) ss) ρ m) Q := by
  refine x_cons ?_
  show wp ((evalE G Φ e ρ m).bind _) _
  rw [wp_bind]
  exact wp_mono h fun v m h => wp_in h
theorem x_asgE {v : Val} {m' : Store} (h : evalE G Φ e ρ m = .ok v m') (k : wp (execSs G Φ fuel ss (ρ.set i (some v)) m') Q) : wp (execSs G Φ fuel (.cons (.asg i e) ss) ρ m) Q := x_asg (wp_is h k)
theorem x_expr (h : wp (evalE G Φ e ρ m) fun v m => wp (execSs G Φ fuel ss ρ m) Q) : wp (execSs G Φ fuel (.cons (.expr e) ss) ρ m) Q := by
  refine x_cons ?_
  show wp ((evalE G Φ e ρ m).bind _) _
  rw [wp_bind]
  exact wp_mono h fun v m h => wp_in h
theorem x_ret (h : wp (evalE G Φ e ρ m) fun v m => Q (.ret v) m) : wp (execSs G Φ fuel (.cons (.ret e) ss) ρ m) Q := by
  refine x_cons ?_
  show wp ((evalE G Φ e ρ m).bind _) _
  rw [wp_bind]
  exact wp_mono h fun v m h => wp_in h
theorem x_if {t f : Ss} (h : wp (evT (evalE G Φ e) ρ m) fun b m => if b = true then wp (execSs G Φ fuel t ρ m) (kont G Φ fuel ss Q) else wp (execSs G Φ fuel f ρ m) (kont G Φ fuel ss Q)) : wp (execSs G Φ fuel (.cons (.ife e t f) ss) ρ m) Q := by
  refine x_cons ?_
  show wp ((evT (evalE G Φ e) ρ m).bind _) _
  rw [wp_bind]
  refine wp_mono h fun b m h => ?_
  cases b <;> exact h
/-- a test that says no -/
theorem x_no {t : Ss} (h : wp (evT (evalE G Φ e) ρ m) fun b m => b = false ∧ wp (execSs G Φ fuel ss ρ m) Q) : wp (execSs G Φ fuel (.cons (.ife e t .nil) ss) ρ m) Q := x_if (wp_mono h fun b m h => by
  obtain ⟨rfl, h⟩ := h
  rw [if_neg (by simp)]
  exact x_nil h)
theorem x_noE {t : Ss} {m' : Store} (h : evT (evalE G Φ e) ρ m = .ok false m') (k : wp (execSs G Φ fuel ss ρ m') Q) : wp (execSs G Φ fuel (.cons (.ife e t .nil) ss) ρ m) Q := x_no (wp_is h ⟨rfl, k⟩)
theorem x_par {is : List Nat} {es : Es} (h : wp (evalEs G Φ es ρ m) fun vs m => ∃ ρ', setVs is vs ρ = some ρ' ∧ wp (execSs G Φ fuel ss ρ' m) Q) : wp (execSs G Φ fuel (.cons (.par is es) ss) ρ m) Q := by
  refine x_cons ?_
  show wp ((evalEs G Φ es ρ m).bind _) _
  rw [wp_bind]
  refine wp_mono h fun vs m h => ?_
  obtain ⟨ρ', e1, h⟩ := h
  rw [e1]
  exact wp_in h
theorem x_unp {is : List Nat} (h : wp (evalE G Φ e ρ m) fun v m => ∃ d ρ', v = .d d ∧ bindT (.tup is) d ρ = some ρ' ∧ wp (execSs G Φ fuel ss ρ' m) Q) : wp (execSs G Φ fuel (.cons (.unp is e) ss) ρ m) Q := by
  refine x_cons ?_
  show wp ((evalE G Φ e ρ m).bind _) _
  rw [wp_bind]
  refine wp_mono h fun v m h => ?_
  obtain ⟨d, ρ', rfl, e1, h⟩ := h
  show wp ((lift m (bindT (.tup is) d ρ)).bind _) _
  rw [e1]
  exact wp_in h
theorem x_unpS {r : Nat} (h : wp (evalE G Φ e ρ m) fun v m => ∃ d ds, v = .d (.tup (d :: ds)) ∧ wp (execSs G Φ fuel ss ((ρ.set i (some (.d d))).set r (some (.d (.lst ds)))) m) Q) : wp (execSs G Φ fuel (.cons (.unpS i r e) ss) ρ m) Q := by
  refine x_cons ?_
  show wp ((evalE G Φ e ρ m).bind _) _
  rw [wp_bind]
  refine wp_mono h fun v m h => ?_
  obtain ⟨d, ds, rfl, h⟩ := h
  exact wp_in h
theorem x_unpL {is : List Nat} (h : wp (evalE G Φ e ρ m) fun v m => ∃ ds ρ', v = .d (.lst ds) ∧ setAll is ds ρ = some ρ' ∧ wp (execSs G Φ fuel ss ρ' m) Q) : wp (execSs G Φ fuel (.cons (.unpL is e) ss) ρ m) Q := by
  refine x_cons ?_
  show wp ((evalE G Φ e ρ m).bind _) _
  rw [wp_bind]
  refine wp_mono h fun v m h => ?_
  obtain ⟨ds, ρ', rfl, e1, h⟩ := h
  show wp ((lift m (setAll is ds ρ)).bind _) _
  rw [e1]
  exact wp_in h
theorem x_mtch {cs : Cs} (h : wp (evalE G Φ e ρ m) fun v m => wp (execCs G Φ fuel cs v ρ m) (kont G Φ fuel ss Q)) : wp (execSs G Φ fuel (.cons (.mtch e cs) ss) ρ m) Q := by
  refine x_cons ?_
  show wp ((evalE G Φ e ρ m).bind _) _
  rw [wp_bind]
  exact h
theorem x_setD {a k : E} (h : wp (evalE G Φ e ρ m) fun v m => wp (evalE G Φ a ρ m) fun x m => wp (evalE G Φ k ρ m) fun y m => ∃ n kd d kk m', x = .cell n ∧ y = .d kd ∧ v = .d d ∧ keyOfD kd = some kk ∧ putC n kk d m = some m' ∧ wp (execSs G Φ fuel ss ρ m') Q) : wp (execSs G Φ fuel (.cons (.setD a k e) ss) ρ m) Q := by
  refine x_cons ?_
  show wp ((evalE G Φ e ρ m).bind _) _
  rw [wp_bind]
  refine wp_mono h fun v m h => ?_
  rw [wp_bind]
  refine wp_mono h fun x m h => ?_
  rw [wp_bind]
  refine wp_mono h fun y m h => ?_
  obtain ⟨n, kd, d, kk, m', rfl, rfl, rfl, e1, e2, h⟩ := h
  simp only [e1, Option.bind_some, e2]
  exact wp_in h
theorem x_frz {n : Nat} {ds : List D} (e1 : ρ[i]? = some (some (.cell n))) (e2 : m[n]? = some (.lst ds)) (h : wp (execSs G Φ fuel ss (ρ.set i (some (.d (.lst ds)))) (m.set n .dead)) Q) : wp (execSs G Φ fuel (.frz i ss) ρ m) Q := by
  show wp (exFrz i _ ρ m) Q
  unfold exFrz
  simp only [e1, e2]
  exact h
theorem x_for {it : It} {tg : Tg} {b : Ss} (h : wp (evalIt G Φ it ρ m) fun ds m => wp (goFor (fun d ρ m => (lift m (bindT tg d ρ)).bind fun ρ m => execSs G Φ fuel b ρ m) ds ρ m) (kont G Φ fuel ss Q)) : wp (execSs G Φ fuel (.cons (.forr it tg b) ss) ρ m) Q := by
  refine x_cons ?_
  show wp ((evalIt G Φ it ρ m).bind _) _
  rw [wp_bind]
  exact h
/-- a loop by what holds between two turns -/
theorem for_inv {f : D → Ev → Store → Out Fl} {Q : Fl → Store → Prop} (I : List D → Ev → Store → Prop) (step : ∀ d ds ρ m, I (d :: ds) ρ m → wp (f d ρ m) fun r m => match r with
    | .nx ρ => I ds ρ m
    | .ct ρ => I ds ρ m
    | _ => False) (out : ∀ ρ m, I [] ρ m → Q (.nx ρ) m) : ∀ (ds : List D) (ρ : Ev) (m : Store), I ds ρ m → wp (goFor f ds ρ m) Q
  | [], ρ, m, h => wp_in (out ρ m h)
  | d :: ds, ρ, m, h => by
    show wp ((f d ρ m).bind _) Q
    rw [wp_bind]
    refine wp_mono (step d ds ρ m h) fun r m h => ?_
    cases r with
    | nx ρ => exact for_inv I step out ds ρ m h
    | ct ρ => exact for_inv I step out ds ρ m h
    | bk _ => exact h.elim
    | ret _ => exact h.elim
theorem x_forI {it : It} {tg : Tg} {b : Ss} {ds : List D} {m' : Store} (I : List D → Ev → Store → Prop) (hi : evalIt G Φ it ρ m = .ok ds m') (start : I ds ρ m')
    (step : ∀ d ds ρ m, I (d :: ds) ρ m → ∃ ρ', bindT tg d ρ = some ρ' ∧ wp (execSs G Φ fuel b ρ' m) fun r m => match r with
      | .nx ρ => I ds ρ m
      | .ct ρ => I ds ρ m
      | _ => False) (out : ∀ ρ m, I [] ρ m → wp (execSs G Φ fuel ss ρ m) Q) : wp (execSs G Φ fuel (.cons (.forr it tg b) ss) ρ m) Q := by
  refine x_for (wp_is hi (for_inv I (fun d ds ρ m h => ?_) out ds ρ m' start))
  obtain ⟨ρ', e, h⟩ := step d ds ρ m h
  rw [e]
  exact h
/-! ### comprehensions -/
theorem sl : sizeLine = 16777216 := by decide
theorem goLc_fm {f : D → Store → Out (Option D)} {g : D → Option D} {m : Store} : ∀ (ds acc : List D), (∀ d ∈ ds, f d m = .ok (g d) m) → acc.length + ds.length ≤ sizeLine → goLc f ds acc m = .ok (acc ++ ds.filterMap g) m
  | [], acc, _, _ => by simp [goLc]
  | d :: ds, acc, h, hl => by
    rw [List.length_cons] at hl
    unfold goLc
    rw [h d List.mem_cons_self]
    cases e : g d with
    | none =>
      show goLc f ds acc m = _
      rw [goLc_fm ds acc (fun e he => h e (List.mem_cons_of_mem _ he)) (by omega), List.filterMap_cons_none e]
    | some y =>
      show (if acc.length < sizeLine then goLc f ds (acc ++ [y]) m else .bad) = _
      rw [if_pos (by omega), goLc_fm ds _ (fun e he => h e (List.mem_cons_of_mem _ he)) (by simp; omega), List.filterMap_cons_some e]
      simp
theorem lc_eq {oi : Ev → Store → Out (List D)} {tg : Tg} {oc : Ev → Store → Out Bool} {oe : Ex} {ds : List D} (g : D → Option D) (hi : oi ρ m = .ok ds m) (h : ∀ d ∈ ds, lcTurn tg oc oe ρ d m = .ok (g d) m) (hl : ds.length ≤ 10000000) : evLc oi tg oc oe ρ m = .ok (ds.filterMap g) m := by
  unfold evLc
  rw [hi, Out.bind_ok, goLc_fm (g := g) ds [] h (by rw [sl]; simp; omega)]
  simp
theorem lc_filt {α : Type} {oi : Ev → Store → Out (List D)} {tg : Tg} {oc : Ev → Store → Out Bool} {oe : Ex} {xs : List α} (f g : α → D) (p : α → Bool) (hi : oi ρ m = .ok (xs.map f) m) (h : ∀ x ∈ xs, lcTurn tg oc oe ρ (f x) m = .ok (if p x = true then some (g x) else none) m) (hl : xs.length ≤ 10000000) : evLc oi tg oc oe ρ m = .ok ((xs.filter p).map g) m := by
  unfold evLc
  rw [hi, Out.bind_ok]
  have key : ∀ (ys : List α) (acc : List D), (∀ x ∈ ys, lcTurn tg oc oe ρ (f x) m = .ok (if p x = true then some (g x) else none) m) → acc.length + ys.length ≤ sizeLine → goLc (lcTurn tg oc oe ρ) (ys.map f) acc m = .ok (acc ++ (ys.filter p).map g) m := by
    intro ys
    induction ys with
    | nil => intro acc _ _; simp [goLc]
    | cons y ys ih =>
      intro acc hy hl
      rw [List.length_cons] at hl
      rw [List.map_cons]
      unfold goLc
      rw [hy y List.mem_cons_self]
      by_cases q : p y = true
      · rw [if_pos q, List.filter_cons_of_pos q]
        show (if acc.length < sizeLine then goLc _ (ys.map f) (acc ++ [g y]) m else .bad) = _
        rw [if_pos (by omega), ih _ (fun x hx => hy x (List.mem_cons_of_mem _ hx)) (by simp; omega)]
        simp
      · rw [if_neg q, List.filter_cons_of_neg q]
        show goLc _ (ys.map f) acc m = _
        exact ih _ (fun x hx => hy x (List.mem_cons_of_mem _ hx)) (by omega)
  rw [key xs [] h (by rw [sl]; simp; omega)]
  simp
theorem lc_map {α : Type} {oi : Ev → Store → Out (List D)} {tg : Tg} {oc : Ev → Store → Out Bool} {oe : Ex} {xs : List α} (f g : α → D) (hi : oi ρ m = .ok (xs.map f) m) (h : ∀ x ∈ xs, lcTurn tg oc oe ρ (f x) m = .ok (some (g x)) m) (hl : xs.length ≤ 10000000) : evLc oi tg oc oe ρ m = .ok (xs.map g) m := by
  have := lc_filt f g (fun _ => true) hi (fun x hx => by rw [h x hx]; rfl) hl
  rw [this, List.filter_eq_self.mpr (fun _ _ => rfl)]
/-- a comprehension whose turns change the store -/
theorem lc_wp {f : D → Store → Out (Option D)} (I : List D → List D → Store → Prop) (step : ∀ d ds acc m, I (d :: ds) acc m → acc.length < 10000000 ∧ wp (f d m) fun o m => match o with
    | some y => I ds (acc ++ [y]) m
    | none => I ds acc m) {Q : List D → Store → Prop} (out : ∀ acc m, I [] acc m → Q acc m) : ∀ (ds acc : List D) (m : Store), I ds acc m → wp (goLc f ds acc m) Q
  | [], acc, m, h => wp_in (out acc m h)
  | d :: ds, acc, m, h => by
    obtain ⟨hl, h⟩ := step d ds acc m h
    obtain ⟨o, m1, e, h⟩ := wp_eq h
    unfold goLc
    rw [e]
    cases o with
    | none => exact lc_wp I step out ds acc m1 h
    | some y =>
      show wp (if acc.length < sizeLine then goLc f ds (acc ++ [y]) m1 else .bad) Q
      rw [if_pos (by rw [sl]; omega)]
      exact lc_wp I step out ds _ m1 h
end
/-! ### data -/
theorem small_of {n : Nat} (h : n ≤ 10000000) : small n = true := by
  unfold small
  rw [sl]
  exact decide_eq_true (by omega)
theorem sm {n : Nat} (h : n ≤ 1000) : small n = true := small_of (by omega)
section
variable {b : Bool} {i : Int} {s : Str} {ds ks vs : List D} {m : Store} {x : D} {n : Nat}
theorem i_non_bool : isiD .non .bool = false := rfl
theorem i_non_int : isiD .non .int = false := rfl
theorem i_non_str : isiD .non .str = false := rfl
theorem i_non_tuple : isiD .non .tuple = false := rfl
theorem i_non_list : isiD .non .list = false := rfl
theorem i_non_dict : isiD .non .dict = false := rfl
theorem i_bl_bool : isiD (.bl b) .bool = true := rfl
theorem i_bl_int : isiD (.bl b) .int = true := rfl
theorem i_bl_str : isiD (.bl b) .str = false := rfl
theorem i_bl_tuple : isiD (.bl b) .tuple = false := rfl
theorem i_bl_list : isiD (.bl b) .list = false := rfl
theorem i_bl_dict : isiD (.bl b) .dict = false := rfl
theorem i_int_bool : isiD (.int i) .bool = false := rfl
theorem i_int_int : isiD (.int i) .int = true := rfl
theorem i_int_str : isiD (.int i) .str = false := rfl
theorem i_int_tuple : isiD (.int i) .tuple = false := rfl
theorem i_int_list : isiD (.int i) .list = false := rfl
theorem i_int_dict : isiD (.int i) .dict = false := rfl
theorem i_str_bool : isiD (.str s) .bool = false := rfl
theorem i_str_int : isiD (.str s) .int = false := rfl
theorem i_str_str : isiD (.str s) .str = true := rfl
theorem i_str_tuple : isiD (.str s) .tuple = false := rfl
theorem i_str_list : isiD (.str s) .list = false := rfl
theorem i_str_dict : isiD (.str s) .dict = false := rfl
theorem i_tup_bool : isiD (.tup ds) .bool = false := rfl
theorem i_tup_int : isiD (.tup ds) .int = false := rfl
theorem i_tup_str : isiD (.tup ds) .str = false := rfl
theorem i_tup_tuple : isiD (.tup ds) .tuple = true := rfl
theorem i_tup_list : isiD (.tup ds) .list = false := rfl
theorem i_tup_dict : isiD (.tup ds) .dict = false := rfl
theorem i_lst_bool : isiD (.lst ds) .bool = false := rfl
theorem i_lst_int : isiD (.lst ds) .int = false := rfl
theorem i_lst_str : isiD (.lst ds) .str = false := rfl
theorem i_lst_tuple : isiD (.lst ds) .tuple = false := rfl
theorem i_lst_list : isiD (.lst ds) .list = true := rfl
theorem i_lst_dict : isiD (.lst ds) .dict = false := rfl
theorem i_dct_bool : isiD (.dct ks vs) .bool = false := rfl
theorem i_dct_int : isiD (.dct ks vs) .int = false := rfl
theorem i_dct_str : isiD (.dct ks vs) .str = false := rfl
theorem i_dct_tuple : isiD (.dct ks vs) .tuple = false := rfl
theorem i_dct_list : isiD (.dct ks vs) .list = false := rfl
theorem i_dct_dict : isiD (.dct ks vs) .dict = true := rfl
theorem t_non : truD .non = some false := rfl
theorem t_bl : truD (.bl b) = some b := rfl
theorem t_int : truD (.int i) = some (i != 0) := rfl
theorem t_tup : truD (.tup ds) = some (!ds.isEmpty) := rfl
theorem t_lst : truD (.lst ds) = some (!ds.isEmpty) := rfl
theorem pk_d : peek m (.d x) = some x := rfl
theorem pk_c (h : m[n]? = some (.lst ds)) : peek m (.cell n) = some (.lst ds) := by simp [peek, h]
theorem tv_d : truV (.d x) m = lift m (truD x) := rfl
theorem ln_tup : lenD (.tup ds) = some ds.length := rfl
theorem ln_lst : lenD (.lst ds) = some ds.length := rfl
theorem ln_str (h : s.length ≤ 1000) : lenD (.str s) = some s.length := by show (if small s.length = true then some s.length else none) = _; rw [sm h]; rfl
theorem b_len : b1D .len (.tup ds) = some (.int (ds.length : Int)) := rfl
theorem b_len2 : b1D .len (.lst ds) = some (.int (ds.length : Int)) := rfl
theorem b_len3 (h : s.length ≤ 1000) : b1D .len (.str s) = some (.int (s.length : Int)) := by
  have e := ln_str h
  simp [b1D, e]
theorem b_dlen : b1D .dlen (.dct ks vs) = some (.int (ks.length : Int)) := rfl
theorem pk_k (h : m[n]? = some (.dct ks vs)) : peek m (.cell n) = some (.dct ks vs) := by simp [peek, h]
theorem b_abs : b1D .abs (.int i) = some (.int (if i < 0 then -i else i)) := rfl
theorem b_all : b1D .all (.lst ds) = (boolsD ds).map fun bs => .bl (bs.all id) := rfl
theorem b_any : b1D .any (.lst ds) = (boolsD ds).map fun bs => .bl (bs.any id) := rfl
theorem b_int : b1D .int (.int i) = some (.int i) := rfl
theorem b_intb : b1D .int (.bl b) = some (.int (if b then 1 else 0)) := rfl
theorem b_tupl : b1D .tuple (.lst ds) = some (.tup ds) := rfl
theorem b_tupt : b1D .tuple (.tup ds) = some (.tup ds) := rfl
theorem dt_d : Val.data (.d x) = some x := rfl
end
theorem sl_lst {ds : List D} {lo hi : Option Int} : sliD (.lst ds) lo hi = some (.lst (cutD ds lo hi)) := rfl
theorem sl_tup {ds : List D} {lo hi : Option Int} : sliD (.tup ds) lo hi = some (.tup (cutD ds lo hi)) := rfl
theorem ix_some {i : Int} : ixV (.d (.int i)) = some (some i) := rfl
theorem idxL_at {ds : List D} (n : Nat) {i : Int} {d : D} (hi : i = (n : Int)) (h : ds[n]? = some d) : idxD (.lst ds) (.int i) = some d := by
  have hl := (List.getElem?_eq_some_iff.mp h).1
  show L2.atI ds i = _
  unfold L2.atI L2.ixN
  subst hi
  rw [if_pos (by omega), if_pos (by omega)]
  simpa using h
theorem idxT_at {ds : List D} (n : Nat) {i : Int} {d : D} (hi : i = (n : Int)) (h : ds[n]? = some d) : idxD (.tup ds) (.int i) = some d := idxL_at n hi h
theorem idxL0 {a : D} {ds : List D} : idxD (.lst (a :: ds)) (.int 0) = some a := idxL_at 0 rfl rfl
theorem idxL1 {a b : D} {ds : List D} : idxD (.lst (a :: b :: ds)) (.int 1) = some b := idxL_at 1 rfl rfl
theorem idxL2 {a b c : D} {ds : List D} : idxD (.lst (a :: b :: c :: ds)) (.int 2) = some c := idxL_at 2 rfl rfl
theorem idxL3 {a b c d : D} {ds : List D} : idxD (.lst (a :: b :: c :: d :: ds)) (.int 3) = some d := idxL_at 3 rfl rfl
theorem idxL4 {a b c d e : D} {ds : List D} : idxD (.lst (a :: b :: c :: d :: e :: ds)) (.int 4) = some e := idxL_at 4 rfl rfl
theorem idxD_0 {d : D} {ds : List D} : idxD (.tup (d :: ds)) (.int 0) = some d := by simp [idxD, L2.atI, L2.ixN]
theorem idxD_1 {d e : D} {ds : List D} : idxD (.tup (d :: e :: ds)) (.int 1) = some e := by
  have q : L2.ixN (d :: e :: ds).length 1 = some 1 := by
    unfold L2.ixN
    rw [if_pos (by omega), if_pos (by simp; omega)]; rfl
  show L2.atI (d :: e :: ds) 1 = _
  unfold L2.atI
  rw [q]; rfl
mutual
def shD : Nat → D → Bool
  | _, .non => true
  | _, .bl _ => true
  | _, .int _ => true
  | _, .str s => PyData.strOk s
  | 0, .tup _ => false
  | 0, .lst _ => false
  | n + 1, .tup ds => shDs n ds
  | n + 1, .lst ds => shDs n ds
  | _, .dct _ _ => false
def shDs : Nat → List D → Bool
  | _, [] => true
  | n, d :: ds => shD n d && shDs n ds
end
mutual
theorem shD_py : ∀ (n : Nat) (d : D), shD n d = true → ∃ p, d.py = some p ∧ p.canLay0 = true ∧ p.depth ≤ n + 1
  | n, .non, _ => ⟨_, rfl, rfl, by simp [PyData.depth]⟩
  | n, .bl _, _ => ⟨_, rfl, rfl, by simp [PyData.depth]⟩
  | n, .int _, _ => ⟨_, rfl, rfl, by simp [PyData.depth]⟩
  | n, .str s, h => ⟨_, rfl, by simpa [PyData.canLay0, shD] using h, by simp [PyData.depth]⟩
  | 0, .tup _, h => by simp [shD] at h
  | 0, .lst _, h => by simp [shD] at h
  | n + 1, .tup ds, h => by
    obtain ⟨ps, e1, e2, e3⟩ := shDs_py n ds (by simpa [shD] using h)
    exact ⟨.tuple ps, by simp [D.py, e1], by simpa [PyData.canLay0] using e2, by simp [PyData.depth]; omega⟩
  | n + 1, .lst ds, h => by
    obtain ⟨ps, e1, e2, e3⟩ := shDs_py n ds (by simpa [shD] using h)
    exact ⟨.list ps, by simp [D.py, e1], by simpa [PyData.canLay0] using e2, by simp [PyData.depth]; omega⟩
  | n, .dct _ _, h => by cases n <;> simp [shD] at h
theorem shDs_py : ∀ (n : Nat) (ds : List D), shDs n ds = true → ∃ ps, D.pys ds = some ps ∧ PyData.canLayAll0 ps = true ∧ PyData.depthAll ps ≤ n + 1
  | n, [], _ => ⟨[], rfl, rfl, by simp [PyData.depthAll]⟩
  | n, d :: ds, h => by
    have h : (shD n d && shDs n ds) = true := h
    rw [Bool.and_eq_true] at h
    obtain ⟨p, e1, e2, e3⟩ := shD_py n d h.1
    obtain ⟨ps, f1, f2, f3⟩ := shDs_py n ds h.2
    exact ⟨p :: ps, by simp [D.pys, e1, f1], by simp [PyData.canLayAll0, e2, f2], by simp [PyData.depthAll]; omega⟩
end
theorem eqN_sh {a b : D} {n : Nat} (hn : n ≤ 60) (ha : shD n a = true) (hb : shD n b = true) : ∃ p q, a.py = some p ∧ b.py = some q ∧ p.canLay0 = true ∧ eqN a b = some (PyData.eqv p q) := by
  obtain ⟨p, e1, e2, e3⟩ := shD_py n a ha
  obtain ⟨q, f1, f2, f3⟩ := shD_py n b hb
  refine ⟨p, q, e1, f1, e2, ?_⟩
  have s1 : SeqAt.shaped p = true := by unfold SeqAt.shaped; rw [e2, decide_eq_true (by omega)]; rfl
  have s2 : SeqAt.shaped q = true := by unfold SeqAt.shaped; rw [f2, decide_eq_true (by omega)]; rfl
  have h : eqPy a b = some (PyData.eqv p q) := by
    unfold eqPy
    rw [e1, f1]
    simp only [s1, s2, Bool.and_self, if_true]
  unfold eqN
  split
  · cases e1; cases f1; rfl
  · exact h
theorem eqD_of {a b : D} {k : Bool} (h : eqN a b = some k) : eqD a b = some k := by unfold eqD; rw [h]
theorem eqD_sh {a b : D} {n : Nat} (hn : n ≤ 60) (ha : shD n a = true) (hb : shD n b = true) : ∃ p q, a.py = some p ∧ b.py = some q ∧ p.canLay0 = true ∧ eqD a b = some (PyData.eqv p q) := by
  obtain ⟨p, q, h1, h2, h3, h4⟩ := eqN_sh hn ha hb
  exact ⟨p, q, h1, h2, h3, eqD_of h4⟩
theorem eqN_self {a : D} {n : Nat} (hn : n ≤ 60) (ha : shD n a = true) : eqN a a = some true := by
  obtain ⟨p, q, e1, e2, e3, e⟩ := eqN_sh hn ha ha
  rw [e1] at e2; cases e2
  rw [e, SeqAt.eqv_refl p e3]
theorem eqD_self {a : D} {n : Nat} (hn : n ≤ 60) (ha : shD n a = true) : eqD a a = some true := by
  obtain ⟨p, q, e1, e2, e3, e⟩ := eqD_sh hn ha ha
  rw [e1] at e2; cases e2
  rw [e, SeqAt.eqv_refl p e3]
end AW
set_option maxRecDepth 100000
set_option maxHeartbeats 4000000
namespace LK
open PySem AW
abbrev R (k : Nat) : Fns := run tab.gvals fs 100 k
theorem cLt (i j : Int) : cmpD .Lt (.int i) (.int j) = some (decide (i < j)) := rfl
theorem cLe (i j : Int) : cmpD .LtE (.int i) (.int j) = some (decide (i ≤ j)) := rfl
theorem cGt (i j : Int) : cmpD .Gt (.int i) (.int j) = some (decide (j < i)) := rfl
theorem cGe (i j : Int) : cmpD .GtE (.int i) (.int j) = some (decide (j ≤ i)) := rfl
theorem add_i (i j : Int) : binD .Add (.int i) (.int j) = some (.int (i + j)) := rfl
theorem sub_i (i j : Int) : binD .Sub (.int i) (.int j) = some (.int (i - j)) := rfl
theorem eqI (i j : Int) : cmpD .Eq (.int i) (.int j) = some (decide (i = j)) := by
  show (if (SeqAt.shaped (.int i) && SeqAt.shaped (.int j)) = true then some (PyData.eqv (.int i) (.int j)) else none) = _
  have e : ∀ i : Int, SeqAt.shaped (.int i) = true := fun i => by rfl
  rw [e, e]
  simp [PyData.eqv]
  rw [Bool.eq_iff_iff]; simp
theorem neI (i j : Int) : cmpD .NotEq (.int i) (.int j) = some (!decide (i = j)) := by
  show (cmpD .Eq (.int i) (.int j)).map not = _
  rw [eqI]; rfl
theorem eqSelf {a : D} {n : Nat} (hn : n ≤ 60) (h : shD n a = true) : cmpD .Eq a a = some true := eqD_self hn h
theorem neSelf {a : D} {n : Nat} (hn : n ≤ 60) (h : shD n a = true) : cmpD .NotEq a a = some false := by
  show (eqN a a).map not = _
  rw [eqN_self hn h]; rfl
def kws : List Str := ["do", "fail", "test", "value"]
def low (c : Nat) : Bool := decide (97 ≤ c) && decide (c ≤ 122)
def nameS (s : Str) : Bool := decide (1 ≤ s.length) && decide (s.length ≤ 8) && !decide (s ∈ kws) && s.cps.toList.all low
def isName : D → Bool
  | .str s => nameS s
  | _ => false
def okS : D → Prop
  | .str s => s.length ≤ 10000
  | _ => True
theorem nameS_len {s : Str} (h : nameS s = true) : s.length ≤ 8 := by
  unfold nameS at h
  simp only [Bool.and_eq_true, decide_eq_true_eq] at h
  omega
theorem nameS_ok {s : Str} (h : nameS s = true) : PyData.strOk s = true := by
  unfold nameS at h
  simp only [Bool.and_eq_true, List.all_eq_true] at h
  unfold PyData.strOk
  rw [Array.all_eq_true_iff_forall_mem]
  intro c hc
  have := h.2 c (by simpa using hc)
  unfold low at this
  simp only [Bool.and_eq_true, decide_eq_true_eq] at this ⊢
  omega
theorem goLc_map {f : D → Store → Out (Option D)} {g : D → D} {m : Store} : ∀ (ds acc : List D), (∀ d ∈ ds, f d m = .ok (some (g d)) m) → acc.length + ds.length ≤ sizeLine → goLc f ds acc m = .ok (acc ++ ds.map g) m := fun ds acc h hl => by
  rw [goLc_fm (g := fun d => some (g d)) ds acc h hl]
  simp
theorem bools_map {α : Type} (p : α → Bool) : ∀ xs : List α, boolsD (xs.map fun x => D.bl (p x)) = some (xs.map p)
  | [] => rfl
  | x :: xs => by simp [boolsD, bools_map p xs]
theorem lex1 (a b : Nat) : (([a] : List Nat) < [b]) ↔ a < b := by
  constructor
  · intro h
    cases h with
    | rel h => exact h
    | cons h => cases h
  · intro h; exact .rel h
theorem cmp_a (c : Nat) : cmpD .LtE (.str "a") (.str ⟨#[c]⟩) = some (decide (97 ≤ c)) := by
  have e : (Str.ofString "a").cps.toList = [97] := by decide
  show some (!decide (([c] : List Nat) < (Str.ofString "a").cps.toList)) = _
  rw [e]
  by_cases h : c < 97
  · rw [decide_eq_true ((lex1 c 97).mpr h), decide_eq_false (by omega : ¬ 97 ≤ c)]; rfl
  · rw [decide_eq_false (fun q => h ((lex1 c 97).mp q)), decide_eq_true (by omega : 97 ≤ c)]; rfl
theorem cmp_z (c : Nat) : cmpD .LtE (.str ⟨#[c]⟩) (.str "z") = some (decide (c ≤ 122)) := by
  have e : (Str.ofString "z").cps.toList = [122] := by decide
  show some (!decide ((Str.ofString "z").cps.toList < ([c] : List Nat))) = _
  rw [e]
  by_cases h : 122 < c
  · rw [decide_eq_true ((lex1 122 c).mpr h), decide_eq_false (by omega : ¬ c ≤ 122)]; rfl
  · rw [decide_eq_false (fun q => h ((lex1 122 c).mp q)), decide_eq_true (by omega : c ≤ 122)]; rfl
theorem chr_low (c : Nat) (d : D) (m : Store) : evChain .LtE .LtE (evCon (.str "a")) (evVar 1) (evCon (.str "z")) [some (.d d), some (.d (.str ⟨#[c]⟩))] m = .ok (.d (.bl (low c))) m := by
  simp only [evChain, evCon, evVar, peek, cmpV, Out.bind_ok, lift_some, List.getElem?_cons_succ, List.getElem?_cons_zero, cmp_a, cmp_z, Option.map_some, low]
  by_cases h : 97 ≤ c
  · simp [h]
  · simp [h]
theorem any_kws (s : Str) : (([D.str "do", .str "fail", .str "test", .str "value"] : List D).any fun z => eqS z (.str s)) = decide (s ∈ kws) := by
  have e : ∀ x : Str, (x == s) = decide (s = x) := fun x => by
    by_cases h : s = x
    · subst h; simp
    · have : ¬ (x = s) := fun q => h q.symm
      simp [h, this]
  simp [eqS, kws, e]
theorem in_kws (s : Str) : cmpD .In (.str s) (.tup [.str "do", .str "fail", .str "test", .str "value"]) = some (decide (s ∈ kws)) := by
  rw [← any_kws]; rfl
theorem s_is_name {k : Nat} (hk : 1 ≤ k) {d : D} {m : Store} (h : okS d) : R k 2 [.d d] m = .ok (.d (.bl (isName d))) m := by
  obtain ⟨k, rfl⟩ : ∃ j, k = j + 1 := ⟨k - 1, by omega⟩
  show AW.finish false m (execSs tab.gvals (R k) 100 f2.body [some (.d d), none] m) = _
  cases d with
  | str s =>
    have h : s.length ≤ 10000 := h
    have hs : small s.length = true := small_of (by omega)
    have hk := in_kws s
    have lc : evLc (itSeq (evVar 0)) (.name 1) evYes (evChain .LtE .LtE (evCon (.str "a")) (evVar 1) (evCon (.str "z"))) [some (.d (.str s)), none] m = .ok ((s.cps.toList.map fun c => D.bl (low c))) m := by
      simp only [evLc, itSeq, evVar, List.getElem?_cons_zero, Out.bind_ok, Val.data, lift_some, seqD, hs, if_true]
      rw [goLc_map (g := fun d => match d with | .str x => .bl (x.cps.toList.all low) | d => d)]
      · simp
      · intro d hd
        obtain ⟨c, _, rfl⟩ := List.mem_map.mp hd
        simp [lcTurn, bindT, evYes, chr_low, Val.data]
      · rw [sl]; simp; exact Nat.le_trans h (by omega)
    by_cases h1 : 1 ≤ s.length
    · have i1 : (1 : Int) ≤ (s.length : Int) := by omega
      by_cases h8 : s.length ≤ 8
      · have i8 : (s.length : Int) ≤ 8 := by omega
        by_cases hkw : s ∈ kws
        · simp [f2, AW.execSs, AW.execS, AW.exSeq, AW.exIf, AW.exNext, AW.exRet, AW.exAsg, AW.exDrop, AW.exSetIx, AW.evT, AW.evalE, AW.evalB, AW.evalEs, AW.evalO, AW.evalC, AW.evalL, AW.evalIt, AW.evOr, AW.evAnd, AW.evNot, AW.evIte, AW.evTup, AW.evLm, AW.evDisp, AW.evCall, AW.evCons, AW.evStar, AW.evNil, AW.evNoPart, AW.evDsp, AW.evPart, AW.evYes, AW.evSli, AW.ixV, AW.ev1, AW.ev2, AW.evVar, AW.evCon, AW.peek, AW.truV, AW.truD, AW.isiD, AW.cmpV, LK.cLt, LK.cLe, LK.cGt, LK.cGe, AW.b1D, AW.finish, AW.retV, AW.Val.data, AW.Val.datas, AW.allocL, AW.wp_bind, AW.wp_ok, AW.wp_ite, AW.evChain, AW.lenD, AW.Tg.slots, hs, tab, scalD, hk, i1, i8, hkw, isName, nameS]
        · simp [f2, AW.execSs, AW.execS, AW.exSeq, AW.exIf, AW.exNext, AW.exRet, AW.exAsg, AW.exDrop, AW.exSetIx, AW.evT, AW.evalE, AW.evalB, AW.evalEs, AW.evalO, AW.evalC, AW.evalL, AW.evalIt, AW.evOr, AW.evAnd, AW.evNot, AW.evIte, AW.evTup, AW.evLm, AW.evDisp, AW.evCall, AW.evCons, AW.evStar, AW.evNil, AW.evNoPart, AW.evDsp, AW.evPart, AW.evYes, AW.evSli, AW.ixV, AW.ev1, AW.ev2, AW.evVar, AW.evCon, AW.peek, AW.truV, AW.truD, AW.isiD, AW.cmpV, LK.cLt, LK.cLe, LK.cGt, LK.cGe, AW.b1D, AW.finish, AW.retV, AW.Val.data, AW.Val.datas, AW.allocL, AW.wp_bind, AW.wp_ok, AW.wp_ite, AW.evChain, AW.lenD, AW.Tg.slots, hs, tab, scalD, hk, i1, i8, hkw, isName, nameS, lc, bools_map, h1, h8]
      · have i8 : ¬ (s.length : Int) ≤ 8 := by omega
        simp [f2, AW.execSs, AW.execS, AW.exSeq, AW.exIf, AW.exNext, AW.exRet, AW.exAsg, AW.exDrop, AW.exSetIx, AW.evT, AW.evalE, AW.evalB, AW.evalEs, AW.evalO, AW.evalC, AW.evalL, AW.evalIt, AW.evOr, AW.evAnd, AW.evNot, AW.evIte, AW.evTup, AW.evLm, AW.evDisp, AW.evCall, AW.evCons, AW.evStar, AW.evNil, AW.evNoPart, AW.evDsp, AW.evPart, AW.evYes, AW.evSli, AW.ixV, AW.ev1, AW.ev2, AW.evVar, AW.evCon, AW.peek, AW.truV, AW.truD, AW.isiD, AW.cmpV, LK.cLt, LK.cLe, LK.cGt, LK.cGe, AW.b1D, AW.finish, AW.retV, AW.Val.data, AW.Val.datas, AW.allocL, AW.wp_bind, AW.wp_ok, AW.wp_ite, AW.evChain, AW.lenD, AW.Tg.slots, hs, tab, scalD, hk, i1, i8, h8, isName, nameS]
    · have i1 : ¬ (1 : Int) ≤ (s.length : Int) := by omega
      simp [f2, AW.execSs, AW.execS, AW.exSeq, AW.exIf, AW.exNext, AW.exRet, AW.exAsg, AW.exDrop, AW.exSetIx, AW.evT, AW.evalE, AW.evalB, AW.evalEs, AW.evalO, AW.evalC, AW.evalL, AW.evalIt, AW.evOr, AW.evAnd, AW.evNot, AW.evIte, AW.evTup, AW.evLm, AW.evDisp, AW.evCall, AW.evCons, AW.evStar, AW.evNil, AW.evNoPart, AW.evDsp, AW.evPart, AW.evYes, AW.evSli, AW.ixV, AW.ev1, AW.ev2, AW.evVar, AW.evCon, AW.peek, AW.truV, AW.truD, AW.isiD, AW.cmpV, LK.cLt, LK.cLe, LK.cGt, LK.cGe, AW.b1D, AW.finish, AW.retV, AW.Val.data, AW.Val.datas, AW.allocL, AW.wp_bind, AW.wp_ok, AW.wp_ite, AW.evChain, AW.lenD, AW.Tg.slots, hs, tab, scalD, hk, i1, h1, isName, nameS]
  | _ => simp [f2, AW.execSs, AW.execS, AW.exSeq, AW.exIf, AW.exNext, AW.exRet, AW.exAsg, AW.exDrop, AW.exSetIx, AW.evT, AW.evalE, AW.evalB, AW.evalEs, AW.evalO, AW.evalC, AW.evalL, AW.evalIt, AW.evOr, AW.evAnd, AW.evNot, AW.evIte, AW.evTup, AW.evLm, AW.evDisp, AW.evCall, AW.evCons, AW.evStar, AW.evNil, AW.evNoPart, AW.evDsp, AW.evPart, AW.evYes, AW.evSli, AW.ixV, AW.ev1, AW.ev2, AW.evVar, AW.evCon, AW.peek, AW.truV, AW.truD, AW.isiD, AW.cmpV, LK.cLt, LK.cLe, LK.cGt, LK.cGe, AW.b1D, AW.finish, AW.retV, AW.Val.data, AW.Val.datas, AW.allocL, AW.wp_bind, AW.wp_ok, AW.wp_ite, AW.evChain, AW.lenD, AW.Tg.slots, isName]
end LK
set_option maxRecDepth 100000
set_option maxHeartbeats 4000000
namespace AW
open PySem
/-! the laws' dice: a cell of three ints -/
def die (a b e : Int) : Cel := .lst [.int a, .int b, .int e]
def Dc (m0 : Store) (c : Nat) (m : Store) : Prop := c < m0.length ∧ ∃ a b e : Int, 0 ≤ a ∧ m = m0.set c (die a b e)
section
variable {m0 m m1 M l : Store} {c : Nat}
theorem Dc.len (h : Dc m0 c m) : m.length = m0.length := by
  obtain ⟨_, a, b, e, _, rfl⟩ := h; simp
theorem Dc.lt (h : Dc m0 c m) : c < m.length := by rw [h.len]; exact h.1
theorem Dc.get (h : Dc m0 c m) : ∃ a b e : Int, 0 ≤ a ∧ m[c]? = some (die a b e) := by
  obtain ⟨hc, a, b, e, p, rfl⟩ := h
  exact ⟨a, b, e, p, List.getElem?_set_self hc⟩
theorem Dc.put (h : Dc m0 c m) {a b e : Int} (ha : 0 ≤ a) : Dc m0 c (m.set c (die a b e)) := by
  obtain ⟨hc, a', b', e', p, rfl⟩ := h
  exact ⟨hc, a, b, e, ha, by rw [List.set_set]⟩
theorem Dc.refl {a b e : Int} (hc : m[c]? = some (die a b e)) (ha : 0 ≤ a) : Dc m c m := by
  obtain ⟨hl, he⟩ := List.getElem?_eq_some_iff.mp hc
  refine ⟨hl, a, b, e, ha, ?_⟩
  rw [← he, List.set_getElem_self]
theorem Dc.self (h : Dc m0 c m) : Dc m c m := by
  obtain ⟨a, b, e, p, q⟩ := h.get
  exact .refl q p
theorem Dc.trans (h : Dc m0 c m) (s : Dc m c M) : Dc m0 c M := by
  obtain ⟨hc, a, b, e, p, rfl⟩ := h
  obtain ⟨_, a', b', e', p', rfl⟩ := s
  exact ⟨hc, a', b', e', p', by rw [List.set_set]⟩
theorem Dc.app (h : Dc m0 c m) : Dc (m0 ++ l) c (m ++ l) := by
  obtain ⟨hc, a, b, e, p, rfl⟩ := h
  exact ⟨by rw [List.length_append]; omega, a, b, e, p, by rw [List.set_append_left _ _ hc]⟩
theorem Dc.unapp (h : Dc m0 c m) (s : Dc (m ++ l) c M) : ∃ m1, M = m1 ++ l ∧ Dc m0 c m1 := by
  obtain ⟨_, a, b, e, p, rfl⟩ := s
  exact ⟨m.set c (die a b e), by rw [List.set_append_left _ _ h.lt], h.put p⟩
theorem Dc.old (h : Dc m0 c m) {j : Nat} (hj : j ≠ c) : m[j]? = m0[j]? := by
  obtain ⟨_, a, b, e, _, rfl⟩ := h
  exact List.getElem?_set_ne (Ne.symm hj)
theorem Dc.take (h : Dc m0 c m) : m.take m0.length = m := List.take_of_length_le (Nat.le_of_eq h.len)
theorem Dc.takeS (s : Dc m0 c M) (h : Dc m0 c m) : M.take m.length = M := List.take_of_length_le (by rw [s.len, h.len]; exact Nat.le_refl _)
theorem Dc.takeT (s : Dc m0 c M) (h : Dc m0 c m) : (M ++ l).take m.length = M := by rw [h.len, ← s.len]; simp
theorem Dc.takeA (h : Dc m0 c m) : (m ++ l).take m0.length = m := by
  rw [← h.len]; simp
end
/-- an evaluation that changes the dice alone -/
def Draws (f : Store → Out Val) (c : Nat) (P : Val → Prop) : Prop := ∀ (m0 m : Store) (Q : Val → Store → Prop), Dc m0 c m → (∀ v m', P v → Dc m0 c m' → Q v m') → wp (f m) Q
theorem Draws.tail {f : Store → Out Val} {c : Nat} {P : Val → Prop} (h : Draws f c P) {m0 m l : Store} {Q : Val → Store → Prop} (d : Dc m0 c m) (k : ∀ v m', P v → Dc m0 c m' → Q v (m' ++ l)) : wp (f (m ++ l)) Q := by
  refine h (m ++ l) (m ++ l) Q d.self.app fun v M p s => ?_
  obtain ⟨m1, rfl, s1⟩ := d.unapp s
  exact k v m1 p s1
theorem cmul_r {i j : Int} (h1 : -(2 ^ 64) < j) (h2 : j < 2 ^ 64) : cmul i j = true := by
  unfold cmul
  rw [decide_eq_true h1, decide_eq_true h2]
  simp
theorem cmul_l {i j : Int} (h1 : -(2 ^ 64) < i) (h2 : i < 2 ^ 64) : cmul i j = true := by
  unfold cmul
  rw [decide_eq_true h1, decide_eq_true h2]
  simp
theorem fmod_lt {i j : Int} (h : 0 < j) : 0 ≤ i.fmod j ∧ i.fmod j < j := ⟨Int.fmod_nonneg_of_pos i h, Int.fmod_lt_of_pos i h⟩
theorem ixN_nat {n : Nat} {r : Int} (h0 : 0 ≤ r) (h1 : r < n) : L2.ixN n r = some r.toNat := by
  unfold L2.ixN
  rw [if_pos h0, if_pos h1]
theorem atI_mem {α : Type} {xs : List α} {r : Int} (h0 : 0 ≤ r) (h1 : r < xs.length) : ∃ x, L2.atI xs r = some x ∧ x ∈ xs := by
  unfold L2.atI
  rw [ixN_nat h0 h1]
  have hl : r.toNat < xs.length := by omega
  exact ⟨xs[r.toNat], by rw [Option.bind_some, List.getElem?_eq_getElem hl], List.getElem_mem hl⟩
theorem er_perm {α : Type} : ∀ (l : List α) (i : Nat) (h : i < l.length), (l[i] :: l.eraseIdx i).Perm l
  | x :: l, 0, _ => .rfl
  | x :: l, i + 1, h => by
    have h : i < l.length := by simpa using h
    show (l[i] :: x :: l.eraseIdx i).Perm (x :: l)
    exact (List.Perm.swap _ _ _).trans ((er_perm l i h).cons x)
theorem if_both {α : Type} {p q : Prop} [Decidable p] [Decidable q] {x y : α} (hp : p) (hq : q) : (if (decide p && decide q) = true then x else y) = x := by
  rw [decide_eq_true hp, decide_eq_true hq]; rfl
theorem rng_int (n : Nat) (h1 : (-(2 ^ 62) : Int) ≤ (n : Int)) (h2 : (n : Int) < 2 ^ 62) (oa : Ex) (ρ : Ev) (m m' : Store) (e : oa ρ m = .ok (.d (.int (n : Int))) m') : itRng1 oa ρ m = .ok (rngD n) m' := by
  have hb := if_both (x := Out.ok (rngD n) m') (y := Out.bad) h1 h2
  generalize hc : (decide ((-(2 ^ 62) : Int) ≤ (n : Int)) && decide ((n : Int) < 2 ^ 62)) = b at hb
  have u : itRng1 oa ρ m = (oa ρ m).bind fun x m => match x with
    | .d (.int n) => if (decide ((-(2 ^ 62) : Int) ≤ n) && decide (n < 2 ^ 62)) = true then .ok (rngD n.toNat) m else .bad
    | _ => .bad := rfl
  rw [u, e, Out.bind_ok]
  dsimp only
  rw [hc, Int.toNat_natCast]
  exact hb
theorem rng_eq {G : List D} {Φ : Fns} {a : E} {ρ : Ev} {m m' : Store} {n : Nat} (hn : n ≤ 1000000) (e : evalE G Φ a ρ m = .ok (.d (.int (n : Int))) m') : evalIt G Φ (.rng1 a) ρ m = .ok (rngD n) m' := rng_int n (by omega) (by omega) _ _ _ _ e
theorem rng_wp {G : List D} {Φ : Fns} {a : E} {ρ : Ev} {m : Store} {Q : List D → Store → Prop} (h : wp (evalE G Φ a ρ m) fun v m => ∃ n : Nat, v = .d (.int (n : Int)) ∧ n ≤ 1000000 ∧ Q (rngD n) m) : wp (evalIt G Φ (.rng1 a) ρ m) Q := by
  obtain ⟨v, m', e, n, rfl, hn, q⟩ := wp_eq h
  rw [rng_eq hn e]
  exact wp_in q
/-- words of data -/
theorem strs_map : ∀ W : List Str, strsD (W.map D.str) = some W
  | [] => rfl
  | w :: W => by simp [strsD, strs_map W]
theorem datas_map : ∀ ds : List D, Val.datas (ds.map Val.d) = some ds
  | [] => rfl
  | d :: ds => by simp [Val.datas, Val.data, datas_map ds]
theorem dedup_nd : ∀ {xs : List Str}, xs.Nodup → dedupS xs = xs
  | [], _ => rfl
  | x :: xs, h => by
    obtain ⟨h1, h2⟩ := List.nodup_cons.mp h
    unfold dedupS
    rw [if_neg h1, dedup_nd h2]
theorem cut_take {α : Type} (xs : List α) {t : Int} (h : 0 ≤ t) : cutD xs none (some t) = xs.take t.toNat := by
  unfold cutD
  show (xs.drop 0).take ((if t < 0 then (t + (xs.length : Int)).toNat else min t.toNat xs.length) - 0) = _
  rw [if_neg (by omega), List.drop_zero, Nat.sub_zero]
  rcases Nat.le_total t.toNat xs.length with q | q
  · rw [Nat.min_eq_left q]
  · rw [Nat.min_eq_right q, List.take_of_length_le (Nat.le_refl _), List.take_of_length_le q]
theorem cut_drop {α : Type} (xs : List α) {t : Int} (h : 0 ≤ t) : cutD xs (some t) none = xs.drop t.toNat := by
  unfold cutD
  show (xs.drop (if t < 0 then (t + (xs.length : Int)).toNat else min t.toNat xs.length)).take (xs.length - (if t < 0 then (t + (xs.length : Int)).toNat else min t.toNat xs.length)) = _
  rw [if_neg (by omega)]
  rcases Nat.le_total t.toNat xs.length with q | q
  · rw [Nat.min_eq_left q, List.take_of_length_le (by simp)]
  · rw [Nat.min_eq_right q, List.drop_of_length_le (Nat.le_refl _), List.drop_of_length_le q]; simp
theorem scal_strs (W : List Str) : (W.map D.str).all scalD = true := by
  rw [List.all_map]; exact List.all_eq_true.mpr fun _ _ => rfl
theorem any_strs (s : Str) (W : List Str) : ((W.map D.str).any fun z => eqS z (.str s)) = decide (s ∈ W) := by
  induction W with
  | nil => simp
  | cons w W ih =>
    rw [List.map_cons, List.any_cons, ih]
    show ((w == s) || decide (s ∈ W)) = _
    rw [Bool.eq_iff_iff]
    simp only [Bool.or_eq_true, beq_iff_eq, decide_eq_true_eq, List.mem_cons]
    exact ⟨fun h => h.elim (fun q => .inl q.symm) .inr, fun h => h.elim (fun q => .inl q.symm) .inr⟩
theorem in_tup (s : Str) (W : List Str) : cmpD .In (.str s) (.tup (W.map D.str)) = some (decide (s ∈ W)) := by
  show (if (scalD (.str s) && (W.map D.str).all scalD) = true then some ((W.map D.str).any fun z => eqS z (.str s)) else none) = _
  rw [scal_strs, any_strs]; rfl
theorem in_lst (s : Str) (W : List Str) : cmpD .In (.str s) (.lst (W.map D.str)) = some (decide (s ∈ W)) := by
  show (if (scalD (.str s) && (W.map D.str).all scalD) = true then some ((W.map D.str).any fun z => eqS z (.str s)) else none) = _
  rw [scal_strs, any_strs]; rfl
theorem nin_tup (s : Str) (W : List Str) : cmpD .NotIn (.str s) (.tup (W.map D.str)) = some (!decide (s ∈ W)) := by
  show (if (scalD (.str s) && (W.map D.str).all scalD) = true then some (!((W.map D.str).any fun z => eqS z (.str s))) else none) = _
  rw [scal_strs, any_strs]; rfl
theorem nin_lst (s : Str) (W : List Str) : cmpD .NotIn (.str s) (.lst (W.map D.str)) = some (!decide (s ∈ W)) := by
  show (if (scalD (.str s) && (W.map D.str).all scalD) = true then some (!((W.map D.str).any fun z => eqS z (.str s))) else none) = _
  rw [scal_strs, any_strs]; rfl
def keepS (p : Str → Bool) : D → Option D
  | .str s => if p s = true then some (.str s) else none
  | _ => none
def tellS (p : Str → Bool) : D → Option D
  | .str s => some (.bl (p s))
  | _ => none
theorem keepS_yes {p : Str → Bool} {s : Str} (h : p s = true) : keepS p (.str s) = some (.str s) := if_pos h
theorem keepS_no {p : Str → Bool} {s : Str} (h : ¬ p s = true) : keepS p (.str s) = none := if_neg h
theorem fm_strs (p : Str → Bool) : ∀ W : List Str, (W.map D.str).filterMap (keepS p) = (W.filter p).map D.str
  | [] => rfl
  | w :: W => by
    rw [List.map_cons]
    by_cases h : p w = true
    · rw [List.filterMap_cons_some (b := D.str w) (keepS_yes h), fm_strs p W, List.filter_cons_of_pos h]; rfl
    · rw [List.filterMap_cons_none (keepS_no h), fm_strs p W, List.filter_cons_of_neg h]
theorem fm_all (p : Str → Bool) : ∀ W : List Str, (W.map D.str).filterMap (tellS p) = W.map fun w => D.bl (p w)
  | [] => rfl
  | w :: W => by rw [List.map_cons]; show _ :: _ = _; rw [fm_all p W]; rfl
theorem sorted_tup {W : List Str} (h : W.length < 64) : lbD .sorted (.tup (W.map D.str)) = some ((sortS W).map D.str) := by
  show (strsD (W.map D.str)).bind _ = _
  rw [strs_map]; simp [h]
theorem sorted_lst {W : List Str} (h : W.length < 64) : lbD .sorted (.lst (W.map D.str)) = some ((sortS W).map D.str) := by
  show (strsD (W.map D.str)).bind _ = _
  rw [strs_map]; simp [h]
theorem sset_lst {W : List Str} (h : W.length < 64) : lbD .sset (.lst (W.map D.str)) = some ((sortS (dedupS W)).map D.str) := by
  show ssetD (W.map D.str) = _
  unfold ssetD
  rw [strs_map]; simp [h]
end AW
set_option maxRecDepth 100000
set_option maxHeartbeats 4000000
namespace LK
open PySem AW
/-! nodes and bodies, plainly -/
def intB (d : D) : Bool := match d with
  | .int i => decide (0 ≤ i) && decide (i ≤ 3)
  | _ => false
def wayB : D → Bool
  | .str s => decide (s = "lazy") || decide (s = "strict")
  | _ => false
def waysB : D → Bool
  | .tup ws => decide (ws.length ≤ 3) && ws.all wayB
  | _ => false
def lvs : List Str := ["fail", "value", "test"]
def node3 (s : Str) (n m : D) : Bool := if s = "do" then isName n && intB m else if s = "call" then isName n && waysB m else false
def nodeB : D → Bool
  | .tup [.str s] => decide (s ∈ lvs)
  | .tup [.str s, n] => decide (s = "use") && isName n
  | .tup [.str s, n, m] => node3 s n m
  | _ => false
/-- texts in it are not too long -/
def okN1 : D → Prop
  | .tup ds => ∀ d ∈ ds, okS d
  | d => okS d
theorem eqStr (s t : Str) : cmpD .Eq (.str s) (.str t) = some (decide (s = t)) := by
  show some (s == t) = _
  by_cases h : s = t
  · subst h; simp
  · simp [h]
theorem neStr (s t : Str) : cmpD .NotEq (.str s) (.str t) = some (!decide (s = t)) := by
  show (some (s == t)).map not = _
  by_cases h : s = t
  · subst h; simp
  · simp [h]
theorem eqv_nil (ps : List PyData) : PyData.eqv (.tuple ps) (.tuple []) = ps.isEmpty := by cases ps <;> rfl
theorem eqv_nilL (ps : List PyData) : PyData.eqv (.list ps) (.list []) = ps.isEmpty := by cases ps <;> rfl
theorem pys_empty {ds : List D} {ps : List PyData} (h : D.pys ds = some ps) : ps.isEmpty = ds.isEmpty := by
  cases ds with
  | nil => simp [D.pys] at h; subst h; rfl
  | cons d ds =>
    simp only [D.pys, Option.bind_eq_some_iff, Option.map_eq_some_iff] at h
    obtain ⟨p, _, qs, _, rfl⟩ := h
    rfl
theorem eqTupNil (ds : List D) : cmpD .Eq (.tup ds) (.tup []) = some ds.isEmpty := by
  show eqD _ _ = _
  unfold eqD
  have e0 : eqN (.tup ds) (.tup []) = eqPy (.tup ds) (.tup []) := rfl
  rw [e0]
  unfold eqPy
  cases h : D.pys ds with
  | none => simp [D.py, h, eqO]
  | some ps =>
    simp only [D.py, h, Option.map_some, D.pys]
    by_cases hs : (SeqAt.shaped (.tuple ps) && SeqAt.shaped (.tuple [])) = true
    · rw [if_pos hs]; simp only [eqv_nil, pys_empty h]
    · rw [if_neg hs]; rfl
theorem eqLstNil (ds : List D) : cmpD .Eq (.lst ds) (.lst []) = some ds.isEmpty := by
  show eqD _ _ = _
  unfold eqD
  have e0 : eqN (.lst ds) (.lst []) = eqPy (.lst ds) (.lst []) := rfl
  rw [e0]
  unfold eqPy
  cases h : D.pys ds with
  | none => simp [D.py, h, eqO]
  | some ps =>
    simp only [D.py, h, Option.map_some, D.pys]
    by_cases hs : (SeqAt.shaped (.list ps) && SeqAt.shaped (.list [])) = true
    · rw [if_pos hs]; simp only [eqv_nilL, pys_empty h]
    · rw [if_neg hs]; rfl
theorem inLit (d : D) (ss : List Str) : cmpD .In d (.tup (ss.map D.str)) = some (match d with | .str s => decide (s ∈ ss) | _ => false) := by
  cases d with
  | str s => exact in_tup s ss
  | tup _ => show (if (ss.map D.str).all scalD = true then some false else none) = _; rw [scal_strs]; rfl
  | lst _ => show (if (ss.map D.str).all scalD = true then some false else none) = _; rw [scal_strs]; rfl
  | dct _ _ => show (if (ss.map D.str).all scalD = true then some false else none) = _; rw [scal_strs]; rfl
  | non =>
    show (if (ss.map D.str).all scalD = true then some (true && (ss.map D.str).any fun z => eqS z .non) else none) = _
    rw [scal_strs, if_pos rfl, Bool.true_and, List.any_map]
    exact congrArg some (List.any_eq_false.mpr fun x _ => by simp [eqS])
  | bl b =>
    show (if (ss.map D.str).all scalD = true then some (true && (ss.map D.str).any fun z => eqS z (.bl b)) else none) = _
    rw [scal_strs, if_pos rfl, Bool.true_and, List.any_map]
    exact congrArg some (List.any_eq_false.mpr fun x _ => by simp [eqS])
  | int b =>
    show (if (ss.map D.str).all scalD = true then some (true && (ss.map D.str).any fun z => eqS z (.int b)) else none) = _
    rw [scal_strs, if_pos rfl, Bool.true_and, List.any_map]
    exact congrArg some (List.any_eq_false.mpr fun x _ => by simp [eqS])
theorem in_ways (d : D) : cmpD .In d (.tup [.str "lazy", .str "strict"]) = some (wayB d) := by
  have := inLit d ["lazy", "strict"]
  rw [show ([.str "lazy", .str "strict"] : List D) = (["lazy", "strict"] : List Str).map D.str from rfl, this]
  cases d <;> simp [wayB]
theorem in_lvs (s : Str) : cmpD .In (.str s) (.tup [.str "fail", .str "value", .str "test"]) = some (decide (s ∈ lvs)) := by
  exact in_tup s ["fail", "value", "test"]
theorem in_lvs' (s : Str) : cmpD .In (.str s) (.tup [.str "value", .str "fail", .str "test"]) = some (decide (s ∈ lvs)) := by
  rw [show ([.str "value", .str "fail", .str "test"] : List D) = (["value", "fail", "test"] : List Str).map D.str from rfl, in_tup]
  congr 1
  simp only [lvs, List.mem_cons, List.not_mem_nil, or_false, decide_eq_decide]
  exact ⟨fun h => h.elim (fun h => .inr (.inl h)) fun h => h.elim .inl fun h => .inr (.inr h), fun h => h.elim (fun h => .inr (.inl h)) fun h => h.elim .inl fun h => .inr (.inr h)⟩
@[irreducible] def big60 : Int := 10 ^ 60
theorem big_pos : (3 : Int) < big60 := by unfold big60; decide +kernel
theorem hpow60 : binD .Pow (.int 10) (.int 60) = some (.int big60) := by unfold big60; rfl
theorem s_is_int {k : Nat} (hk : 1 ≤ k) {d : D} {m : Store} : R k 0 [.d d] m = .ok (.d (.bl (match d with | .int i => decide ((if i < 0 then -i else i) < big60) | _ => false))) m := by
  obtain ⟨k, rfl⟩ : ∃ j, k = j + 1 := ⟨k - 1, by omega⟩
  show AW.finish false m (execSs tab.gvals (R k) 100 f0.body [some (.d d)] m) = _
  cases d <;> simp [f0, AW.execSs, AW.execS, AW.exSeq, AW.exIf, AW.exNext, AW.exRet, AW.exAsg, AW.exDrop, AW.exSetIx, AW.evT, AW.evalE, AW.evalB, AW.evalEs, AW.evalO, AW.evalC, AW.evalL, AW.evalIt, AW.evOr, AW.evAnd, AW.evNot, AW.evIte, AW.evTup, AW.evLm, AW.evDisp, AW.evCall, AW.evCons, AW.evStar, AW.evNil, AW.evNoPart, AW.evDsp, AW.evPart, AW.evYes, AW.evSli, AW.ixV, AW.ev1, AW.ev2, AW.evVar, AW.evCon, AW.peek, AW.truV, AW.truD, AW.isiD, AW.cmpV, LK.cLt, LK.cLe, LK.cGt, LK.cGe, AW.b1D, AW.finish, AW.retV, AW.Val.data, AW.Val.datas, AW.allocL, AW.wp_bind, AW.wp_ok, AW.wp_ite, AW.evChain, AW.lenD, AW.Tg.slots, hpow60]
theorem s_within {k : Nat} (hk : 2 ≤ k) {d : D} {m : Store} : R k 1 [.d d, .d (.int 0), .d (.int 3)] m = .ok (.d (.bl (intB d))) m := by
  obtain ⟨k, rfl⟩ : ∃ j, k = j + 2 := ⟨k - 2, by omega⟩
  have hi := s_is_int (k := k + 1) (by omega) (d := d) (m := m)
  show AW.finish false m (execSs tab.gvals (R (k + 1)) 100 f1.body [some (.d d), some (.d (.int 0)), some (.d (.int 3))] m) = _
  cases d with
  | int i =>
    by_cases h1 : (if i < 0 then -i else i) < big60
    · have hi : R (k + 1) 0 [.d (.int i)] m = .ok (.d (.bl true)) m := by rw [hi]; simp [h1]
      by_cases h2 : 0 ≤ i
      · simp [f1, AW.execSs, AW.execS, AW.exSeq, AW.exIf, AW.exNext, AW.exRet, AW.exAsg, AW.exDrop, AW.exSetIx, AW.evT, AW.evalE, AW.evalB, AW.evalEs, AW.evalO, AW.evalC, AW.evalL, AW.evalIt, AW.evOr, AW.evAnd, AW.evNot, AW.evIte, AW.evTup, AW.evLm, AW.evDisp, AW.evCall, AW.evCons, AW.evStar, AW.evNil, AW.evNoPart, AW.evDsp, AW.evPart, AW.evYes, AW.evSli, AW.ixV, AW.ev1, AW.ev2, AW.evVar, AW.evCon, AW.peek, AW.truV, AW.truD, AW.isiD, AW.cmpV, LK.cLt, LK.cLe, LK.cGt, LK.cGe, AW.b1D, AW.finish, AW.retV, AW.Val.data, AW.Val.datas, AW.allocL, AW.wp_bind, AW.wp_ok, AW.wp_ite, AW.evChain, AW.lenD, AW.Tg.slots, hi, h2, intB]
      · simp [f1, AW.execSs, AW.execS, AW.exSeq, AW.exIf, AW.exNext, AW.exRet, AW.exAsg, AW.exDrop, AW.exSetIx, AW.evT, AW.evalE, AW.evalB, AW.evalEs, AW.evalO, AW.evalC, AW.evalL, AW.evalIt, AW.evOr, AW.evAnd, AW.evNot, AW.evIte, AW.evTup, AW.evLm, AW.evDisp, AW.evCall, AW.evCons, AW.evStar, AW.evNil, AW.evNoPart, AW.evDsp, AW.evPart, AW.evYes, AW.evSli, AW.ixV, AW.ev1, AW.ev2, AW.evVar, AW.evCon, AW.peek, AW.truV, AW.truD, AW.isiD, AW.cmpV, LK.cLt, LK.cLe, LK.cGt, LK.cGe, AW.b1D, AW.finish, AW.retV, AW.Val.data, AW.Val.datas, AW.allocL, AW.wp_bind, AW.wp_ok, AW.wp_ite, AW.evChain, AW.lenD, AW.Tg.slots, hi, h2, intB]
    · have hi : R (k + 1) 0 [.d (.int i)] m = .ok (.d (.bl false)) m := by rw [hi]; simp [h1]
      have h3 : ¬ (0 ≤ i ∧ i ≤ 3) := fun ⟨a, b⟩ => h1 (by rw [if_neg (by omega)]; exact Int.lt_of_le_of_lt b big_pos)
      have : (decide (0 ≤ i) && decide (i ≤ 3)) = false := by
        rw [Bool.and_eq_false_iff]
        by_cases a : 0 ≤ i
        · exact .inr (decide_eq_false fun b => h3 ⟨a, b⟩)
        · exact .inl (decide_eq_false a)
      simp [f1, AW.execSs, AW.execS, AW.exSeq, AW.exIf, AW.exNext, AW.exRet, AW.exAsg, AW.exDrop, AW.exSetIx, AW.evT, AW.evalE, AW.evalB, AW.evalEs, AW.evalO, AW.evalC, AW.evalL, AW.evalIt, AW.evOr, AW.evAnd, AW.evNot, AW.evIte, AW.evTup, AW.evLm, AW.evDisp, AW.evCall, AW.evCons, AW.evStar, AW.evNil, AW.evNoPart, AW.evDsp, AW.evPart, AW.evYes, AW.evSli, AW.ixV, AW.ev1, AW.ev2, AW.evVar, AW.evCon, AW.peek, AW.truV, AW.truD, AW.isiD, AW.cmpV, LK.cLt, LK.cLe, LK.cGt, LK.cGe, AW.b1D, AW.finish, AW.retV, AW.Val.data, AW.Val.datas, AW.allocL, AW.wp_bind, AW.wp_ok, AW.wp_ite, AW.evChain, AW.lenD, AW.Tg.slots, hi, intB, this]
  | _ => simp only at hi; simp [f1, AW.execSs, AW.execS, AW.exSeq, AW.exIf, AW.exNext, AW.exRet, AW.exAsg, AW.exDrop, AW.exSetIx, AW.evT, AW.evalE, AW.evalB, AW.evalEs, AW.evalO, AW.evalC, AW.evalL, AW.evalIt, AW.evOr, AW.evAnd, AW.evNot, AW.evIte, AW.evTup, AW.evLm, AW.evDisp, AW.evCall, AW.evCons, AW.evStar, AW.evNil, AW.evNoPart, AW.evDsp, AW.evPart, AW.evYes, AW.evSli, AW.ixV, AW.ev1, AW.ev2, AW.evVar, AW.evCon, AW.peek, AW.truV, AW.truD, AW.isiD, AW.cmpV, LK.cLt, LK.cLe, LK.cGt, LK.cGe, AW.b1D, AW.finish, AW.retV, AW.Val.data, AW.Val.datas, AW.allocL, AW.wp_bind, AW.wp_ok, AW.wp_ite, AW.evChain, AW.lenD, AW.Tg.slots, hi, intB]
/-! ### is_node -/
theorem leaves_eq : tab.gvals.getD 7 .non = .tup [.str "fail", .str "value"] := rfl
theorem s_is_node {k : Nat} (hk : 3 ≤ k) {d : D} {m : Store} (h : okN1 d) : R k 3 [.d d] m = .ok (.d (.bl (nodeB d))) m := by
  obtain ⟨k, rfl⟩ : ∃ j, k = j + 3 := ⟨k - 3, by omega⟩
  show AW.finish false m (execSs tab.gvals (R (k + 2)) 100 f3.body [some (.d d), none, none, none, none] m) = _
  obtain ⟨Φ, hΦ⟩ : ∃ Φ, Φ = R (k + 2) := ⟨_, rfl⟩
  rw [← hΦ]
  cases d with
  | tup ds =>
    have h : ∀ d ∈ ds, okS d := h
    have nm : ∀ d, okS d → Φ 2 [.d d] m = .ok (.d (.bl (isName d))) m := fun d hd => by rw [hΦ]; exact s_is_name (by omega) hd
    have wi : ∀ d, Φ 1 [.d d, .d (.int 0), .d (.int 3)] m = .ok (.d (.bl (intB d))) m := fun d => by rw [hΦ]; exact s_within (by omega)
    match ds, h with
    | [], _ => simp [f3, AW.execSs, AW.execS, AW.exSeq, AW.exIf, AW.exNext, AW.exRet, AW.exAsg, AW.exDrop, AW.exSetIx, AW.evT, AW.evalE, AW.evalB, AW.evalEs, AW.evalO, AW.evalC, AW.evalL, AW.evalIt, AW.evOr, AW.evAnd, AW.evNot, AW.evIte, AW.evTup, AW.evLm, AW.evDisp, AW.evCall, AW.evCons, AW.evStar, AW.evNil, AW.evNoPart, AW.evDsp, AW.evPart, AW.evYes, AW.evSli, AW.ixV, AW.ev1, AW.ev2, AW.evVar, AW.evCon, AW.peek, AW.truV, AW.truD, AW.isiD, AW.cmpV, LK.cLt, LK.cLe, LK.cGt, LK.cGe, AW.b1D, AW.finish, AW.retV, AW.Val.data, AW.Val.datas, AW.allocL, AW.wp_bind, AW.wp_ok, AW.wp_ite, AW.evChain, AW.lenD, AW.Tg.slots, eqTupNil, sm, nodeB]
    | [a], h =>
      cases a with
      | str s => simp [f3, AW.execSs, AW.execS, AW.exSeq, AW.exIf, AW.exNext, AW.exRet, AW.exAsg, AW.exDrop, AW.exSetIx, AW.evT, AW.evalE, AW.evalB, AW.evalEs, AW.evalO, AW.evalC, AW.evalL, AW.evalIt, AW.evOr, AW.evAnd, AW.evNot, AW.evIte, AW.evTup, AW.evLm, AW.evDisp, AW.evCall, AW.evCons, AW.evStar, AW.evNil, AW.evNoPart, AW.evDsp, AW.evPart, AW.evYes, AW.evSli, AW.ixV, AW.ev1, AW.ev2, AW.evVar, AW.evCon, AW.peek, AW.truV, AW.truD, AW.isiD, AW.cmpV, LK.cLt, LK.cLe, LK.cGt, LK.cGe, AW.b1D, AW.finish, AW.retV, AW.Val.data, AW.Val.datas, AW.allocL, AW.wp_bind, AW.wp_ok, AW.wp_ite, AW.evChain, AW.lenD, AW.Tg.slots, eqTupNil, idxD_0, execCs, csSeq, setAll, tab, itemsD, sm, in_lvs, nodeB, exMtch]
      | _ => simp [f3, AW.execSs, AW.execS, AW.exSeq, AW.exIf, AW.exNext, AW.exRet, AW.exAsg, AW.exDrop, AW.exSetIx, AW.evT, AW.evalE, AW.evalB, AW.evalEs, AW.evalO, AW.evalC, AW.evalL, AW.evalIt, AW.evOr, AW.evAnd, AW.evNot, AW.evIte, AW.evTup, AW.evLm, AW.evDisp, AW.evCall, AW.evCons, AW.evStar, AW.evNil, AW.evNoPart, AW.evDsp, AW.evPart, AW.evYes, AW.evSli, AW.ixV, AW.ev1, AW.ev2, AW.evVar, AW.evCon, AW.peek, AW.truV, AW.truD, AW.isiD, AW.cmpV, LK.cLt, LK.cLe, LK.cGt, LK.cGe, AW.b1D, AW.finish, AW.retV, AW.Val.data, AW.Val.datas, AW.allocL, AW.wp_bind, AW.wp_ok, AW.wp_ite, AW.evChain, AW.lenD, AW.Tg.slots, eqTupNil, idxD_0, nodeB, sm]
    | [a, b], h =>
      cases a with
      | str s =>
        by_cases hu : s = "use"
        · simp [f3, AW.execSs, AW.execS, AW.exSeq, AW.exIf, AW.exNext, AW.exRet, AW.exAsg, AW.exDrop, AW.exSetIx, AW.evT, AW.evalE, AW.evalB, AW.evalEs, AW.evalO, AW.evalC, AW.evalL, AW.evalIt, AW.evOr, AW.evAnd, AW.evNot, AW.evIte, AW.evTup, AW.evLm, AW.evDisp, AW.evCall, AW.evCons, AW.evStar, AW.evNil, AW.evNoPart, AW.evDsp, AW.evPart, AW.evYes, AW.evSli, AW.ixV, AW.ev1, AW.ev2, AW.evVar, AW.evCon, AW.peek, AW.truV, AW.truD, AW.isiD, AW.cmpV, LK.cLt, LK.cLe, LK.cGt, LK.cGe, AW.b1D, AW.finish, AW.retV, AW.Val.data, AW.Val.datas, AW.allocL, AW.wp_bind, AW.wp_ok, AW.wp_ite, AW.evChain, AW.lenD, AW.Tg.slots, eqTupNil, idxD_0, execCs, csSeq, setAll, tab, sm, nodeB, exMtch, eqStr, hu, nm b (h b (by simp))]
        · simp [f3, AW.execSs, AW.execS, AW.exSeq, AW.exIf, AW.exNext, AW.exRet, AW.exAsg, AW.exDrop, AW.exSetIx, AW.evT, AW.evalE, AW.evalB, AW.evalEs, AW.evalO, AW.evalC, AW.evalL, AW.evalIt, AW.evOr, AW.evAnd, AW.evNot, AW.evIte, AW.evTup, AW.evLm, AW.evDisp, AW.evCall, AW.evCons, AW.evStar, AW.evNil, AW.evNoPart, AW.evDsp, AW.evPart, AW.evYes, AW.evSli, AW.ixV, AW.ev1, AW.ev2, AW.evVar, AW.evCon, AW.peek, AW.truV, AW.truD, AW.isiD, AW.cmpV, LK.cLt, LK.cLe, LK.cGt, LK.cGe, AW.b1D, AW.finish, AW.retV, AW.Val.data, AW.Val.datas, AW.allocL, AW.wp_bind, AW.wp_ok, AW.wp_ite, AW.evChain, AW.lenD, AW.Tg.slots, eqTupNil, idxD_0, execCs, csSeq, setAll, tab, sm, nodeB, exMtch, eqStr, hu]
      | _ => simp [f3, AW.execSs, AW.execS, AW.exSeq, AW.exIf, AW.exNext, AW.exRet, AW.exAsg, AW.exDrop, AW.exSetIx, AW.evT, AW.evalE, AW.evalB, AW.evalEs, AW.evalO, AW.evalC, AW.evalL, AW.evalIt, AW.evOr, AW.evAnd, AW.evNot, AW.evIte, AW.evTup, AW.evLm, AW.evDisp, AW.evCall, AW.evCons, AW.evStar, AW.evNil, AW.evNoPart, AW.evDsp, AW.evPart, AW.evYes, AW.evSli, AW.ixV, AW.ev1, AW.ev2, AW.evVar, AW.evCon, AW.peek, AW.truV, AW.truD, AW.isiD, AW.cmpV, LK.cLt, LK.cLe, LK.cGt, LK.cGe, AW.b1D, AW.finish, AW.retV, AW.Val.data, AW.Val.datas, AW.allocL, AW.wp_bind, AW.wp_ok, AW.wp_ite, AW.evChain, AW.lenD, AW.Tg.slots, eqTupNil, idxD_0, nodeB, sm]
    | [a, b, c], h =>
      cases a with
      | str s =>
        have nb := nm b (h b (by simp))
        by_cases h1 : s = "do"
        · by_cases hb : isName b = true
          · simp [f3, AW.execSs, AW.execS, AW.exSeq, AW.exIf, AW.exNext, AW.exRet, AW.exAsg, AW.exDrop, AW.exSetIx, AW.evT, AW.evalE, AW.evalB, AW.evalEs, AW.evalO, AW.evalC, AW.evalL, AW.evalIt, AW.evOr, AW.evAnd, AW.evNot, AW.evIte, AW.evTup, AW.evLm, AW.evDisp, AW.evCall, AW.evCons, AW.evStar, AW.evNil, AW.evNoPart, AW.evDsp, AW.evPart, AW.evYes, AW.evSli, AW.ixV, AW.ev1, AW.ev2, AW.evVar, AW.evCon, AW.peek, AW.truV, AW.truD, AW.isiD, AW.cmpV, LK.cLt, LK.cLe, LK.cGt, LK.cGe, AW.b1D, AW.finish, AW.retV, AW.Val.data, AW.Val.datas, AW.allocL, AW.wp_bind, AW.wp_ok, AW.wp_ite, AW.evChain, AW.lenD, AW.Tg.slots, eqTupNil, idxD_0, execCs, csSeq, setAll, tab, sm, nodeB, exMtch, eqStr, h1, nb, hb, wi, node3]
          · simp [f3, AW.execSs, AW.execS, AW.exSeq, AW.exIf, AW.exNext, AW.exRet, AW.exAsg, AW.exDrop, AW.exSetIx, AW.evT, AW.evalE, AW.evalB, AW.evalEs, AW.evalO, AW.evalC, AW.evalL, AW.evalIt, AW.evOr, AW.evAnd, AW.evNot, AW.evIte, AW.evTup, AW.evLm, AW.evDisp, AW.evCall, AW.evCons, AW.evStar, AW.evNil, AW.evNoPart, AW.evDsp, AW.evPart, AW.evYes, AW.evSli, AW.ixV, AW.ev1, AW.ev2, AW.evVar, AW.evCon, AW.peek, AW.truV, AW.truD, AW.isiD, AW.cmpV, LK.cLt, LK.cLe, LK.cGt, LK.cGe, AW.b1D, AW.finish, AW.retV, AW.Val.data, AW.Val.datas, AW.allocL, AW.wp_bind, AW.wp_ok, AW.wp_ite, AW.evChain, AW.lenD, AW.Tg.slots, eqTupNil, idxD_0, execCs, csSeq, setAll, tab, sm, nodeB, exMtch, eqStr, h1, nb, hb, wi, node3]
        · by_cases h2 : s = "call"
          · have h3 : ¬ (Str.ofString "call" = Str.ofString "do") := by decide
            by_cases hb : isName b = true
            · cases c with
              | tup ws =>
                by_cases hl : ws.length ≤ 3
                · have il : ¬ (3 : Int) < (ws.length : Int) := by omega
                  have lc : evLc (itSeq (evVar 3)) (.name 4) evYes (ev2 (cmpV .In) (evVar 4) (evTup (evCons (evCon (.str "lazy")) (evCons (evCon (.str "strict")) evNil)))) [some (.d (.tup [.str "call", b, .tup ws])), some (.d (.str "call")), some (.d b), some (.d (.tup ws)), none] m = .ok (ws.map fun d => D.bl (wayB d)) m :=
                    lc_map id (fun d => .bl (wayB d)) (by simp [itSeq, evVar, Val.data, seqD]) (fun d _ => by simp [lcTurn, bindT, evYes, ev2, evVar, evTup, evCons, evCon, evNil, Val.datas, Val.data, sm, peek, cmpV, in_ways]) (by omega)
                  have hw : (ws.map wayB).all id = ws.all wayB := by rw [List.all_map]; rfl
                  simp [f3, AW.execSs, AW.execS, AW.exSeq, AW.exIf, AW.exNext, AW.exRet, AW.exAsg, AW.exDrop, AW.exSetIx, AW.evT, AW.evalE, AW.evalB, AW.evalEs, AW.evalO, AW.evalC, AW.evalL, AW.evalIt, AW.evOr, AW.evAnd, AW.evNot, AW.evIte, AW.evTup, AW.evLm, AW.evDisp, AW.evCall, AW.evCons, AW.evStar, AW.evNil, AW.evNoPart, AW.evDsp, AW.evPart, AW.evYes, AW.evSli, AW.ixV, AW.ev1, AW.ev2, AW.evVar, AW.evCon, AW.peek, AW.truV, AW.truD, AW.isiD, AW.cmpV, LK.cLt, LK.cLe, LK.cGt, LK.cGe, AW.b1D, AW.finish, AW.retV, AW.Val.data, AW.Val.datas, AW.allocL, AW.wp_bind, AW.wp_ok, AW.wp_ite, AW.evChain, AW.lenD, AW.Tg.slots, eqTupNil, idxD_0, execCs, csSeq, setAll, tab, sm, nodeB, exMtch, eqStr, h2, h3, nb, hb, node3, il, lc, bools_map, waysB, hl]
                · have il : (3 : Int) < (ws.length : Int) := by omega
                  simp [f3, AW.execSs, AW.execS, AW.exSeq, AW.exIf, AW.exNext, AW.exRet, AW.exAsg, AW.exDrop, AW.exSetIx, AW.evT, AW.evalE, AW.evalB, AW.evalEs, AW.evalO, AW.evalC, AW.evalL, AW.evalIt, AW.evOr, AW.evAnd, AW.evNot, AW.evIte, AW.evTup, AW.evLm, AW.evDisp, AW.evCall, AW.evCons, AW.evStar, AW.evNil, AW.evNoPart, AW.evDsp, AW.evPart, AW.evYes, AW.evSli, AW.ixV, AW.ev1, AW.ev2, AW.evVar, AW.evCon, AW.peek, AW.truV, AW.truD, AW.isiD, AW.cmpV, LK.cLt, LK.cLe, LK.cGt, LK.cGe, AW.b1D, AW.finish, AW.retV, AW.Val.data, AW.Val.datas, AW.allocL, AW.wp_bind, AW.wp_ok, AW.wp_ite, AW.evChain, AW.lenD, AW.Tg.slots, eqTupNil, idxD_0, execCs, csSeq, setAll, tab, sm, nodeB, exMtch, eqStr, h2, h3, nb, hb, node3, il, waysB, hl]
              | _ => simp [f3, AW.execSs, AW.execS, AW.exSeq, AW.exIf, AW.exNext, AW.exRet, AW.exAsg, AW.exDrop, AW.exSetIx, AW.evT, AW.evalE, AW.evalB, AW.evalEs, AW.evalO, AW.evalC, AW.evalL, AW.evalIt, AW.evOr, AW.evAnd, AW.evNot, AW.evIte, AW.evTup, AW.evLm, AW.evDisp, AW.evCall, AW.evCons, AW.evStar, AW.evNil, AW.evNoPart, AW.evDsp, AW.evPart, AW.evYes, AW.evSli, AW.ixV, AW.ev1, AW.ev2, AW.evVar, AW.evCon, AW.peek, AW.truV, AW.truD, AW.isiD, AW.cmpV, LK.cLt, LK.cLe, LK.cGt, LK.cGe, AW.b1D, AW.finish, AW.retV, AW.Val.data, AW.Val.datas, AW.allocL, AW.wp_bind, AW.wp_ok, AW.wp_ite, AW.evChain, AW.lenD, AW.Tg.slots, eqTupNil, idxD_0, execCs, csSeq, setAll, tab, sm, nodeB, exMtch, eqStr, h2, h3, nb, hb, node3, waysB]
            · simp [f3, AW.execSs, AW.execS, AW.exSeq, AW.exIf, AW.exNext, AW.exRet, AW.exAsg, AW.exDrop, AW.exSetIx, AW.evT, AW.evalE, AW.evalB, AW.evalEs, AW.evalO, AW.evalC, AW.evalL, AW.evalIt, AW.evOr, AW.evAnd, AW.evNot, AW.evIte, AW.evTup, AW.evLm, AW.evDisp, AW.evCall, AW.evCons, AW.evStar, AW.evNil, AW.evNoPart, AW.evDsp, AW.evPart, AW.evYes, AW.evSli, AW.ixV, AW.ev1, AW.ev2, AW.evVar, AW.evCon, AW.peek, AW.truV, AW.truD, AW.isiD, AW.cmpV, LK.cLt, LK.cLe, LK.cGt, LK.cGe, AW.b1D, AW.finish, AW.retV, AW.Val.data, AW.Val.datas, AW.allocL, AW.wp_bind, AW.wp_ok, AW.wp_ite, AW.evChain, AW.lenD, AW.Tg.slots, eqTupNil, idxD_0, execCs, csSeq, setAll, tab, sm, nodeB, exMtch, eqStr, h2, h3, nb, hb, node3]
          · simp [f3, AW.execSs, AW.execS, AW.exSeq, AW.exIf, AW.exNext, AW.exRet, AW.exAsg, AW.exDrop, AW.exSetIx, AW.evT, AW.evalE, AW.evalB, AW.evalEs, AW.evalO, AW.evalC, AW.evalL, AW.evalIt, AW.evOr, AW.evAnd, AW.evNot, AW.evIte, AW.evTup, AW.evLm, AW.evDisp, AW.evCall, AW.evCons, AW.evStar, AW.evNil, AW.evNoPart, AW.evDsp, AW.evPart, AW.evYes, AW.evSli, AW.ixV, AW.ev1, AW.ev2, AW.evVar, AW.evCon, AW.peek, AW.truV, AW.truD, AW.isiD, AW.cmpV, LK.cLt, LK.cLe, LK.cGt, LK.cGe, AW.b1D, AW.finish, AW.retV, AW.Val.data, AW.Val.datas, AW.allocL, AW.wp_bind, AW.wp_ok, AW.wp_ite, AW.evChain, AW.lenD, AW.Tg.slots, eqTupNil, idxD_0, execCs, csSeq, setAll, tab, sm, nodeB, exMtch, eqStr, h1, h2, node3, csNil]
      | _ => simp [f3, AW.execSs, AW.execS, AW.exSeq, AW.exIf, AW.exNext, AW.exRet, AW.exAsg, AW.exDrop, AW.exSetIx, AW.evT, AW.evalE, AW.evalB, AW.evalEs, AW.evalO, AW.evalC, AW.evalL, AW.evalIt, AW.evOr, AW.evAnd, AW.evNot, AW.evIte, AW.evTup, AW.evLm, AW.evDisp, AW.evCall, AW.evCons, AW.evStar, AW.evNil, AW.evNoPart, AW.evDsp, AW.evPart, AW.evYes, AW.evSli, AW.ixV, AW.ev1, AW.ev2, AW.evVar, AW.evCon, AW.peek, AW.truV, AW.truD, AW.isiD, AW.cmpV, LK.cLt, LK.cLe, LK.cGt, LK.cGe, AW.b1D, AW.finish, AW.retV, AW.Val.data, AW.Val.datas, AW.allocL, AW.wp_bind, AW.wp_ok, AW.wp_ite, AW.evChain, AW.lenD, AW.Tg.slots, eqTupNil, idxD_0, nodeB, sm]
    | a :: b :: c :: d :: ds, h =>
      cases a with
      | str s => simp [f3, AW.execSs, AW.execS, AW.exSeq, AW.exIf, AW.exNext, AW.exRet, AW.exAsg, AW.exDrop, AW.exSetIx, AW.evT, AW.evalE, AW.evalB, AW.evalEs, AW.evalO, AW.evalC, AW.evalL, AW.evalIt, AW.evOr, AW.evAnd, AW.evNot, AW.evIte, AW.evTup, AW.evLm, AW.evDisp, AW.evCall, AW.evCons, AW.evStar, AW.evNil, AW.evNoPart, AW.evDsp, AW.evPart, AW.evYes, AW.evSli, AW.ixV, AW.ev1, AW.ev2, AW.evVar, AW.evCon, AW.peek, AW.truV, AW.truD, AW.isiD, AW.cmpV, LK.cLt, LK.cLe, LK.cGt, LK.cGe, AW.b1D, AW.finish, AW.retV, AW.Val.data, AW.Val.datas, AW.allocL, AW.wp_bind, AW.wp_ok, AW.wp_ite, AW.evChain, AW.lenD, AW.Tg.slots, eqTupNil, idxD_0, execCs, csSeq, setAll, tab, sm, nodeB, exMtch, csNil]
      | _ => simp [f3, AW.execSs, AW.execS, AW.exSeq, AW.exIf, AW.exNext, AW.exRet, AW.exAsg, AW.exDrop, AW.exSetIx, AW.evT, AW.evalE, AW.evalB, AW.evalEs, AW.evalO, AW.evalC, AW.evalL, AW.evalIt, AW.evOr, AW.evAnd, AW.evNot, AW.evIte, AW.evTup, AW.evLm, AW.evDisp, AW.evCall, AW.evCons, AW.evStar, AW.evNil, AW.evNoPart, AW.evDsp, AW.evPart, AW.evYes, AW.evSli, AW.ixV, AW.ev1, AW.ev2, AW.evVar, AW.evCon, AW.peek, AW.truV, AW.truD, AW.isiD, AW.cmpV, LK.cLt, LK.cLe, LK.cGt, LK.cGe, AW.b1D, AW.finish, AW.retV, AW.Val.data, AW.Val.datas, AW.allocL, AW.wp_bind, AW.wp_ok, AW.wp_ite, AW.evChain, AW.lenD, AW.Tg.slots, eqTupNil, idxD_0, nodeB, sm]
  | _ => simp [f3, AW.execSs, AW.execS, AW.exSeq, AW.exIf, AW.exNext, AW.exRet, AW.exAsg, AW.exDrop, AW.exSetIx, AW.evT, AW.evalE, AW.evalB, AW.evalEs, AW.evalO, AW.evalC, AW.evalL, AW.evalIt, AW.evOr, AW.evAnd, AW.evNot, AW.evIte, AW.evTup, AW.evLm, AW.evDisp, AW.evCall, AW.evCons, AW.evStar, AW.evNil, AW.evNoPart, AW.evDsp, AW.evPart, AW.evYes, AW.evSli, AW.ixV, AW.ev1, AW.ev2, AW.evVar, AW.evCon, AW.peek, AW.truV, AW.truD, AW.isiD, AW.cmpV, LK.cLt, LK.cLe, LK.cGt, LK.cGe, AW.b1D, AW.finish, AW.retV, AW.Val.data, AW.Val.datas, AW.allocL, AW.wp_bind, AW.wp_ok, AW.wp_ite, AW.evChain, AW.lenD, AW.Tg.slots, nodeB]
end LK
set_option maxRecDepth 100000
set_option maxHeartbeats 4000000
namespace LK
open PySem AW
/-! ### what waits -/
def arity : D → Nat
  | .tup [.str s] => if s = "test" then 3 else 0
  | .tup [.str s, _, m] => if s = "do" then (match m with
    | .int i => i.toNat
    | _ => 0) else (match m with
    | .tup ws => ws.length
    | _ => 0)
  | _ => 0
def heights : List D → Nat → Option Nat
  | [], h => some h
  | d :: ds, h => if h < arity d then none else heights ds (h - arity d + 1)
def bodyB : D → Bool
  | .tup ds => decide (1 ≤ ds.length) && decide (ds.length ≤ 40) && ds.all nodeB && decide (heights ds 0 = some 1)
  | _ => false
def okB : D → Prop
  | .tup ds => ∀ d ∈ ds, okN1 d
  | _ => True
/-- the four kinds of nodes -/
theorem node_kinds {d : D} (h : nodeB d = true) : (∃ s, d = .tup [.str s] ∧ s ∈ lvs) ∨ (∃ n, d = .tup [.str "use", n] ∧ isName n = true) ∨ (∃ n i, d = .tup [.str "do", n, .int i] ∧ isName n = true ∧ 0 ≤ i ∧ i ≤ 3) ∨
    ∃ n ws, d = .tup [.str "call", n, .tup ws] ∧ isName n = true ∧ ws.length ≤ 3 ∧ ws.all wayB = true := by
  unfold nodeB at h
  split at h
  · rename_i s
    exact .inl ⟨s, rfl, by simpa using h⟩
  · rename_i s n
    simp only [Bool.and_eq_true, decide_eq_true_eq] at h
    exact .inr (.inl ⟨n, by rw [h.1], h.2⟩)
  · rename_i s n m
    unfold node3 at h
    split at h
    · rename_i hs
      simp only [Bool.and_eq_true] at h
      cases m <;> simp [intB] at h
      rename_i i
      exact .inr (.inr (.inl ⟨n, i, by rw [hs], h.1, h.2.1, h.2.2⟩))
    · split at h
      · rename_i hs
        simp only [Bool.and_eq_true] at h
        cases m with
        | tup ws =>
          have h2 := h.2
          simp only [waysB, Bool.and_eq_true, decide_eq_true_eq] at h2
          exact .inr (.inr (.inr ⟨n, ws, by rw [hs], h.1, h2.1, h2.2⟩))
        | _ => simp [waysB] at h
      · cases h
  · cases h
theorem arity_le {d : D} (h : nodeB d = true) : arity d ≤ 3 := by
  rcases node_kinds h with ⟨s, rfl, _⟩ | ⟨n, rfl, _⟩ | ⟨n, i, rfl, _, h0, h3⟩ | ⟨n, ws, rfl, _, hl, _⟩
  · simp only [arity]; split <;> omega
  · simp [arity]
  · simp only [arity, if_true]; omega
  · have : ¬ (Str.ofString "call" = Str.ofString "do") := by decide
    simp only [arity, if_neg this]; exact hl
theorem s_arity {k : Nat} (hk : 1 ≤ k) {d : D} {m : Store} (h : nodeB d = true) : R k 4 [.d d] m = .ok (.d (.int ((arity d : Nat) : Int))) m := by
  obtain ⟨k, rfl⟩ : ∃ j, k = j + 1 := ⟨k - 1, by omega⟩
  show AW.finish false m (execSs tab.gvals (R k) 100 f4.body [some (.d d)] m) = _
  have n1 : ¬ (Str.ofString "use" = Str.ofString "do") := by decide
  have n2 : ¬ (Str.ofString "use" = Str.ofString "call") := by decide
  have n3 : ¬ (Str.ofString "use" = Str.ofString "test") := by decide
  have n4 : ¬ (Str.ofString "call" = Str.ofString "do") := by decide
  rcases node_kinds h with ⟨s, rfl, hs⟩ | ⟨n, rfl, _⟩ | ⟨n, i, rfl, _, h0, h3⟩ | ⟨n, ws, rfl, _, hl, _⟩
  · have m1 : ¬ s = "do" := fun e => by subst e; revert hs; decide
    have m2 : ¬ s = "call" := fun e => by subst e; revert hs; decide
    by_cases ht : s = "test"
    · have n5 : ¬ (Str.ofString "test" = Str.ofString "do") := by decide
      have n6 : ¬ (Str.ofString "test" = Str.ofString "call") := by decide
      simp [f4, AW.execSs, AW.execS, AW.exSeq, AW.exIf, AW.exNext, AW.exRet, AW.exAsg, AW.exDrop, AW.exSetIx, AW.evT, AW.evalE, AW.evalB, AW.evalEs, AW.evalO, AW.evalC, AW.evalL, AW.evalIt, AW.evOr, AW.evAnd, AW.evNot, AW.evIte, AW.evTup, AW.evLm, AW.evDisp, AW.evCall, AW.evCons, AW.evStar, AW.evNil, AW.evNoPart, AW.evDsp, AW.evPart, AW.evYes, AW.evSli, AW.ixV, AW.ev1, AW.ev2, AW.evVar, AW.evCon, AW.peek, AW.truV, AW.truD, AW.isiD, AW.cmpV, LK.cLt, LK.cLe, LK.cGt, LK.cGe, AW.b1D, AW.finish, AW.retV, AW.Val.data, AW.Val.datas, AW.allocL, AW.wp_bind, AW.wp_ok, AW.wp_ite, AW.evChain, AW.lenD, AW.Tg.slots, idxD_0, eqStr, ht, n5, n6, tab, arity]
    · simp [f4, AW.execSs, AW.execS, AW.exSeq, AW.exIf, AW.exNext, AW.exRet, AW.exAsg, AW.exDrop, AW.exSetIx, AW.evT, AW.evalE, AW.evalB, AW.evalEs, AW.evalO, AW.evalC, AW.evalL, AW.evalIt, AW.evOr, AW.evAnd, AW.evNot, AW.evIte, AW.evTup, AW.evLm, AW.evDisp, AW.evCall, AW.evCons, AW.evStar, AW.evNil, AW.evNoPart, AW.evDsp, AW.evPart, AW.evYes, AW.evSli, AW.ixV, AW.ev1, AW.ev2, AW.evVar, AW.evCon, AW.peek, AW.truV, AW.truD, AW.isiD, AW.cmpV, LK.cLt, LK.cLe, LK.cGt, LK.cGe, AW.b1D, AW.finish, AW.retV, AW.Val.data, AW.Val.datas, AW.allocL, AW.wp_bind, AW.wp_ok, AW.wp_ite, AW.evChain, AW.lenD, AW.Tg.slots, idxD_0, eqStr, m1, m2, ht, tab, arity]
  · simp [f4, AW.execSs, AW.execS, AW.exSeq, AW.exIf, AW.exNext, AW.exRet, AW.exAsg, AW.exDrop, AW.exSetIx, AW.evT, AW.evalE, AW.evalB, AW.evalEs, AW.evalO, AW.evalC, AW.evalL, AW.evalIt, AW.evOr, AW.evAnd, AW.evNot, AW.evIte, AW.evTup, AW.evLm, AW.evDisp, AW.evCall, AW.evCons, AW.evStar, AW.evNil, AW.evNoPart, AW.evDsp, AW.evPart, AW.evYes, AW.evSli, AW.ixV, AW.ev1, AW.ev2, AW.evVar, AW.evCon, AW.peek, AW.truV, AW.truD, AW.isiD, AW.cmpV, LK.cLt, LK.cLe, LK.cGt, LK.cGe, AW.b1D, AW.finish, AW.retV, AW.Val.data, AW.Val.datas, AW.allocL, AW.wp_bind, AW.wp_ok, AW.wp_ite, AW.evChain, AW.lenD, AW.Tg.slots, idxD_0, eqStr, n1, n2, n3, tab, arity]
  · have i2 : idxD (.tup [.str "do", n, .int i]) (.int 2) = some (.int i) := idxT_at 2 rfl rfl
    have e : ((i.toNat : Nat) : Int) = i := by omega
    simp [f4, AW.execSs, AW.execS, AW.exSeq, AW.exIf, AW.exNext, AW.exRet, AW.exAsg, AW.exDrop, AW.exSetIx, AW.evT, AW.evalE, AW.evalB, AW.evalEs, AW.evalO, AW.evalC, AW.evalL, AW.evalIt, AW.evOr, AW.evAnd, AW.evNot, AW.evIte, AW.evTup, AW.evLm, AW.evDisp, AW.evCall, AW.evCons, AW.evStar, AW.evNil, AW.evNoPart, AW.evDsp, AW.evPart, AW.evYes, AW.evSli, AW.ixV, AW.ev1, AW.ev2, AW.evVar, AW.evCon, AW.peek, AW.truV, AW.truD, AW.isiD, AW.cmpV, LK.cLt, LK.cLe, LK.cGt, LK.cGe, AW.b1D, AW.finish, AW.retV, AW.Val.data, AW.Val.datas, AW.allocL, AW.wp_bind, AW.wp_ok, AW.wp_ite, AW.evChain, AW.lenD, AW.Tg.slots, idxD_0, eqStr, i2, arity, e]
  · have i2 : idxD (.tup [.str "call", n, .tup ws]) (.int 2) = some (.tup ws) := idxT_at 2 rfl rfl
    simp [f4, AW.execSs, AW.execS, AW.exSeq, AW.exIf, AW.exNext, AW.exRet, AW.exAsg, AW.exDrop, AW.exSetIx, AW.evT, AW.evalE, AW.evalB, AW.evalEs, AW.evalO, AW.evalC, AW.evalL, AW.evalIt, AW.evOr, AW.evAnd, AW.evNot, AW.evIte, AW.evTup, AW.evLm, AW.evDisp, AW.evCall, AW.evCons, AW.evStar, AW.evNil, AW.evNoPart, AW.evDsp, AW.evPart, AW.evYes, AW.evSli, AW.ixV, AW.ev1, AW.ev2, AW.evVar, AW.evCon, AW.peek, AW.truV, AW.truD, AW.isiD, AW.cmpV, LK.cLt, LK.cLe, LK.cGt, LK.cGe, AW.b1D, AW.finish, AW.retV, AW.Val.data, AW.Val.datas, AW.allocL, AW.wp_bind, AW.wp_ok, AW.wp_ite, AW.evChain, AW.lenD, AW.Tg.slots, idxD_0, eqStr, n4, i2, arity]
/-! ### operands_of -/
def opsBody : Ss := match f5.body with
  | .cons _ (.cons (.forr _ _ b) _) => b
  | _ => .nil
theorem ops_turn {k : Nat} (hk : 1 ≤ k) {v0 u5 : Option Val} {n : Nat} {w fs : List D} {i : Int} {d : D} {m : Store} (h : nodeB d = true) (hm : m[n]? = some (.lst fs)) (hf : fs.length < 1000) (hw : w.length ≤ 900) :
    execSs tab.gvals (R k) 100 opsBody [v0, some (.cell n), some (.d (.lst w)), some (.d (.int i)), some (.d d), u5] m =
      if w.length < arity d then .ok (.ret (.d .non)) m else .ok (.nx [v0, some (.cell n), some (.d (.lst (w.take (w.length - arity d) ++ [.int i]))), some (.d (.int i)), some (.d d), some (.d (.int ((w.length : Int) - (arity d : Int))))]) (m.set n (.lst (fs ++ [.tup (w.drop (w.length - arity d))]))) := by
  obtain ⟨Φ, hΦ⟩ : ∃ Φ, Φ = R k := ⟨_, rfl⟩
  have ha : Φ 4 [.d d] m = .ok (.d (.int ((arity d : Nat) : Int))) m := by rw [hΦ]; exact s_arity hk h
  rw [← hΦ]
  have hs : fs.length < sizeLine := by rw [sl]; omega
  by_cases hl : w.length < arity d
  · have hi : (w.length : Int) - (arity d : Int) < 0 := by omega
    rw [if_pos hl]
    simp [opsBody, f5, AW.execSs, AW.execS, AW.exSeq, AW.exIf, AW.exNext, AW.exRet, AW.exAsg, AW.exDrop, AW.exSetIx, AW.evT, AW.evalE, AW.evalB, AW.evalEs, AW.evalO, AW.evalC, AW.evalL, AW.evalIt, AW.evOr, AW.evAnd, AW.evNot, AW.evIte, AW.evTup, AW.evLm, AW.evDisp, AW.evCall, AW.evCons, AW.evStar, AW.evNil, AW.evNoPart, AW.evDsp, AW.evPart, AW.evYes, AW.evSli, AW.ixV, AW.ev1, AW.ev2, AW.evVar, AW.evCon, AW.peek, AW.truV, AW.truD, AW.isiD, AW.cmpV, LK.cLt, LK.cLe, LK.cGt, LK.cGe, AW.b1D, AW.finish, AW.retV, AW.Val.data, AW.Val.datas, AW.allocL, AW.wp_bind, AW.wp_ok, AW.wp_ite, AW.evChain, AW.lenD, AW.Tg.slots, ha, binD, hi]
  · have hi : ¬ (w.length : Int) - (arity d : Int) < 0 := by omega
    have c1 : cutD w (some ((w.length : Int) - (arity d : Int))) none = w.drop (w.length - arity d) := by
      rw [cut_drop w (by omega)]; congr 1; omega
    have c2 : cutD w none (some ((w.length : Int) - (arity d : Int))) = w.take (w.length - arity d) := by
      rw [cut_take w (by omega)]; congr 1; omega
    have hz : small ((w.take (w.length - arity d)).length + 1) = true := sm (by rw [List.length_take]; omega)
    rw [if_neg hl]
    have e5 : Val.datas ((w.take (w.length - arity d)).map Val.d ++ [.d (.int i)]) = some (w.take (w.length - arity d) ++ [.int i]) := by
      rw [show (w.take (w.length - arity d)).map Val.d ++ [.d (.int i)] = (w.take (w.length - arity d) ++ [D.int i]).map Val.d by simp, datas_map]
    have hz2 : small (w.take (w.length - arity d) ++ [D.int i]).length = true := sm (by rw [List.length_append, List.length_take]; simp; omega)
    simp only [opsBody, f5]
    simp [AW.execSs, AW.execS, AW.exSeq, AW.exIf, AW.exNext, AW.exRet, AW.exAsg, AW.exDrop, AW.exSetIx, AW.evT, AW.evalE, AW.evalB, AW.evalEs, AW.evalO, AW.evalC, AW.evalL, AW.evalIt, AW.evOr, AW.evAnd, AW.evNot, AW.evIte, AW.evTup, AW.evLm, AW.evDisp, AW.evCall, AW.evCons, AW.evStar, AW.evNil, AW.evNoPart, AW.evDsp, AW.evPart, AW.evYes, AW.evSli, AW.ixV, AW.ev1, AW.ev2, AW.evVar, AW.evCon, AW.peek, AW.truV, AW.truD, AW.isiD, AW.cmpV, LK.cLt, LK.cLe, LK.cGt, LK.cGe, AW.b1D, AW.finish, AW.retV, AW.Val.data, AW.Val.datas, AW.allocL, AW.wp_bind, AW.wp_ok, AW.wp_ite, AW.evChain, AW.lenD, AW.Tg.slots, ha, binD, hi, evApp, cellL, hm, sliD, c1, appC, hs, c2, itemsD, e5]
    simp at hz2
    rw [← List.map_take, e5]
    simp [hz2]
theorem ops_go {k : Nat} (hk : 1 ≤ k) {v0 : Option Val} {n : Nat} : ∀ (ds : List D) (i : Nat) (w fs : List D) (u3 u4 u5 : Option Val) (m : Store), ds.all nodeB = true → m[n]? = some (.lst fs) → fs.length + ds.length < 1000 → w.length + ds.length ≤ 900 →
    ∃ fs', match heights ds w.length with
      | none => goFor (fun d ρ m => (lift m (bindT (.tup [3, 4]) d ρ)).bind fun ρ m => execSs tab.gvals (R k) 100 opsBody ρ m) (enumD i ds) [v0, some (.cell n), some (.d (.lst w)), u3, u4, u5] m = .ok (.ret (.d .non)) (m.set n (.lst fs'))
      | some h => ∃ w' u3' u4' u5', goFor (fun d ρ m => (lift m (bindT (.tup [3, 4]) d ρ)).bind fun ρ m => execSs tab.gvals (R k) 100 opsBody ρ m) (enumD i ds) [v0, some (.cell n), some (.d (.lst w)), u3, u4, u5] m = .ok (.nx [v0, some (.cell n), some (.d (.lst w')), u3', u4', u5']) (m.set n (.lst fs')) ∧ w'.length = h
  | [], i, w, fs, u3, u4, u5, m, _, hm, _, _ => by
    have em : m.set n (.lst fs) = m := by
      obtain ⟨hl, e⟩ := List.getElem?_eq_some_iff.mp hm
      rw [← e, List.set_getElem_self]
    exact ⟨fs, w, u3, u4, u5, by rw [em]; rfl, rfl⟩
  | d :: ds, i, w, fs, u3, u4, u5, m, ha, hm, hf, hw => by
    rw [List.all_cons, Bool.and_eq_true] at ha
    simp only [List.length_cons] at hf hw
    have t := ops_turn hk (v0 := v0) (u5 := u5) (i := (i : Int)) ha.1 hm (by omega) (show w.length ≤ 900 by omega)
    have em : m.set n (.lst fs) = m := by
      obtain ⟨hl, e⟩ := List.getElem?_eq_some_iff.mp hm
      rw [← e, List.set_getElem_self]
    have hn : n < m.length := (List.getElem?_eq_some_iff.mp hm).1
    by_cases hl : w.length < arity d
    · refine ⟨fs, ?_⟩
      have hh : heights (d :: ds) w.length = none := by simp [heights, hl]
      rw [hh, em]
      rw [if_pos hl] at t
      simp only [enumD, goFor, bindT, setAll, List.set_cons_succ, List.set_cons_zero, lift_some, Out.bind_ok, t]
    · rw [if_neg hl] at t
      have a3 := arity_le ha.1
      have hw' : (w.take (w.length - arity d) ++ [D.int (i : Int)]).length = w.length - arity d + 1 := by
        rw [List.length_append, List.length_take, List.length_singleton]; omega
      obtain ⟨fs', q⟩ := ops_go hk (v0 := v0) ds (i + 1) (w.take (w.length - arity d) ++ [.int (i : Int)]) (fs ++ [.tup (w.drop (w.length - arity d))]) (some (.d (.int (i : Int)))) (some (.d d)) (some (.d (.int ((w.length : Int) - (arity d : Int))))) (m.set n (.lst (fs ++ [.tup (w.drop (w.length - arity d))]))) ha.2
        (List.getElem?_set_self hn) (by rw [List.length_append, List.length_singleton]; omega) (by rw [hw']; omega)
      refine ⟨fs', ?_⟩
      have hh : heights (d :: ds) w.length = heights ds (w.take (w.length - arity d) ++ [D.int (i : Int)]).length := by
        rw [hw']; simp only [heights, if_neg hl]
      rw [hh]
      rw [List.set_set] at q
      have step : ∀ o, goFor (fun d ρ m => (lift m (bindT (.tup [3, 4]) d ρ)).bind fun ρ m => execSs tab.gvals (R k) 100 opsBody ρ m) (enumD (i + 1) ds) [v0, some (.cell n), some (.d (.lst (w.take (w.length - arity d) ++ [.int (i : Int)]))), some (.d (.int (i : Int))), some (.d d), some (.d (.int ((w.length : Int) - (arity d : Int))))] (m.set n (.lst (fs ++ [.tup (w.drop (w.length - arity d))]))) = o →
          goFor (fun d ρ m => (lift m (bindT (.tup [3, 4]) d ρ)).bind fun ρ m => execSs tab.gvals (R k) 100 opsBody ρ m) (enumD i (d :: ds)) [v0, some (.cell n), some (.d (.lst w)), u3, u4, u5] m = o := fun o e => by
        show ((lift m (bindT (.tup [3, 4]) (.tup [.int (i : Int), d]) [v0, some (.cell n), some (.d (.lst w)), u3, u4, u5])).bind fun ρ m => execSs tab.gvals (R k) 100 opsBody ρ m).bind _ = _
        simp only [bindT, setAll, List.set_cons_succ, List.set_cons_zero, lift_some, Out.bind_ok, t]
        exact e
      cases hq : heights ds (w.take (w.length - arity d) ++ [D.int (i : Int)]).length with
      | none => rw [hq] at q; exact step _ q
      | some h =>
        rw [hq] at q
        obtain ⟨w', x3, x4, x5, e, el⟩ := q
        exact ⟨w', x3, x4, x5, step _ e, el⟩
theorem s_operands {k : Nat} (hk : 2 ≤ k) {ds : List D} {m : Store} (h : ds.all nodeB = true) (hl : ds.length ≤ 40) : ∃ z, R k 5 [.d (.tup ds)] m = .ok (.d z) m ∧ z.isNon = !decide (heights ds 0 = some 1) := by
  obtain ⟨k, rfl⟩ : ∃ j, k = j + 2 := ⟨k - 2, by omega⟩
  obtain ⟨fs', q⟩ := ops_go (k := k + 1) (by omega) (v0 := some (.d (.tup ds))) (n := m.length) ds 0 [] [] none none none (m ++ [.lst []]) h (by simp) (by simp; omega) (by simp; omega)
  have es : (m ++ [Cel.lst []]).set m.length (.lst fs') = m ++ [.lst fs'] := by simp [List.set_append]
  rw [es] at q
  have run : ∀ o, goFor (fun d ρ m => (lift m (bindT (.tup [3, 4]) d ρ)).bind fun ρ m => execSs tab.gvals (R (k + 1)) 100 opsBody ρ m) (enumD 0 ds) [some (.d (.tup ds)), some (.cell m.length), some (.d (.lst [])), none, none, none] (m ++ [.lst []]) = o →
      R (k + 2) 5 [.d (.tup ds)] m = AW.finish false m (o.bind fun r m => match r with
        | .nx ρ => execSs tab.gvals (R (k + 1)) 100 (.cons (.ret (.ite (.cmp .Eq (.b1 .len (.var 2)) (.con (.int 1))) (.b1 .tuple (.var 1)) (.con .non))) .nil) ρ m
        | r => .ok r m) := fun o e => by
    rw [← e]
    show AW.finish false m (execSs tab.gvals (R (k + 1)) 100 f5.body [some (.d (.tup ds)), none, none, none, none, none] m) = _
    obtain ⟨Φ, hΦ⟩ : ∃ Φ, Φ = R (k + 1) := ⟨_, rfl⟩
    rw [← hΦ]
    congr 1
  have hb : b1D .tuple (.lst fs') = some (.tup fs') := rfl
  cases hh : heights ds 0 with
  | none =>
    simp only [List.length_nil, hh] at q
    refine ⟨.non, ?_, by simp [D.isNon]⟩
    rw [run _ q]
    simp [AW.finish, retV]
  | some h1 =>
    simp only [List.length_nil, hh] at q
    obtain ⟨w', u3, u4, u5, e, el⟩ := q
    by_cases h2 : h1 = 1
    · refine ⟨.tup fs', ?_, by simp [D.isNon, h2]⟩
      rw [run _ e]
      have e1 : (w'.length : Int) = 1 := by omega
      simp [AW.execSs, AW.execS, AW.exSeq, AW.exIf, AW.exNext, AW.exRet, AW.exAsg, AW.exDrop, AW.exSetIx, AW.evT, AW.evalE, AW.evalB, AW.evalEs, AW.evalO, AW.evalC, AW.evalL, AW.evalIt, AW.evOr, AW.evAnd, AW.evNot, AW.evIte, AW.evTup, AW.evLm, AW.evDisp, AW.evCall, AW.evCons, AW.evStar, AW.evNil, AW.evNoPart, AW.evDsp, AW.evPart, AW.evYes, AW.evSli, AW.ixV, AW.ev1, AW.ev2, AW.evVar, AW.evCon, AW.peek, AW.truV, AW.truD, AW.isiD, AW.cmpV, LK.cLt, LK.cLe, LK.cGt, LK.cGe, AW.b1D, AW.finish, AW.retV, AW.Val.data, AW.Val.datas, AW.allocL, AW.wp_bind, AW.wp_ok, AW.wp_ite, AW.evChain, AW.lenD, AW.Tg.slots, eqI, e1]
    · refine ⟨.non, ?_, by simp [D.isNon, h2]⟩
      rw [run _ e]
      have e1 : ¬ (w'.length : Int) = 1 := by omega
      simp [AW.execSs, AW.execS, AW.exSeq, AW.exIf, AW.exNext, AW.exRet, AW.exAsg, AW.exDrop, AW.exSetIx, AW.evT, AW.evalE, AW.evalB, AW.evalEs, AW.evalO, AW.evalC, AW.evalL, AW.evalIt, AW.evOr, AW.evAnd, AW.evNot, AW.evIte, AW.evTup, AW.evLm, AW.evDisp, AW.evCall, AW.evCons, AW.evStar, AW.evNil, AW.evNoPart, AW.evDsp, AW.evPart, AW.evYes, AW.evSli, AW.ixV, AW.ev1, AW.ev2, AW.evVar, AW.evCon, AW.peek, AW.truV, AW.truD, AW.isiD, AW.cmpV, LK.cLt, LK.cLe, LK.cGt, LK.cGe, AW.b1D, AW.finish, AW.retV, AW.Val.data, AW.Val.datas, AW.allocL, AW.wp_bind, AW.wp_ok, AW.wp_ite, AW.evChain, AW.lenD, AW.Tg.slots, eqI, e1]
theorem s_is_body {k : Nat} (hk : 4 ≤ k) {d : D} {m : Store} (h : okB d) : R k 6 [.d d] m = .ok (.d (.bl (bodyB d))) m := by
  obtain ⟨k, rfl⟩ : ∃ j, k = j + 4 := ⟨k - 4, by omega⟩
  show AW.finish false m (execSs tab.gvals (R (k + 3)) 100 f6.body [some (.d d), none] m) = _
  obtain ⟨Φ, hΦ⟩ : ∃ Φ, Φ = R (k + 3) := ⟨_, rfl⟩
  rw [← hΦ]
  cases d with
  | tup ds =>
    have h : ∀ d ∈ ds, okN1 d := h
    by_cases h1 : 1 ≤ ds.length
    · have i1 : (1 : Int) ≤ (ds.length : Int) := by omega
      by_cases h4 : ds.length ≤ 40
      · have i4 : (ds.length : Int) ≤ 40 := by omega
        have lc : evLc (itSeq (evVar 0)) (.name 1) evYes (evCall (Φ 3) (evCons (evVar 1) evNil)) [some (.d (.tup ds)), none] m = .ok (ds.map fun d => D.bl (nodeB d)) m :=
          lc_map id (fun d => .bl (nodeB d)) (by simp [itSeq, evVar, Val.data, seqD]) (fun d hd => by
            have e : Φ 3 [.d d] m = .ok (.d (.bl (nodeB d))) m := by rw [hΦ]; exact s_is_node (by omega) (h d hd)
            simp [lcTurn, bindT, evYes, evCall, evCons, evVar, evNil, e, Val.data]) (by omega)
        by_cases ha : ds.all nodeB = true
        · have hb : ((ds.map nodeB).all id) = true := by rw [List.all_map]; exact ha
          obtain ⟨z, ez, en⟩ := s_operands (k := k + 3) (by omega) (m := m) ha h4
          rw [← hΦ] at ez
          have cn : cmpD .IsNot z .non = some (!z.isNon) := by cases z <;> rfl
          simp [f6, AW.execSs, AW.execS, AW.exSeq, AW.exIf, AW.exNext, AW.exRet, AW.exAsg, AW.exDrop, AW.exSetIx, AW.evT, AW.evalE, AW.evalB, AW.evalEs, AW.evalO, AW.evalC, AW.evalL, AW.evalIt, AW.evOr, AW.evAnd, AW.evNot, AW.evIte, AW.evTup, AW.evLm, AW.evDisp, AW.evCall, AW.evCons, AW.evStar, AW.evNil, AW.evNoPart, AW.evDsp, AW.evPart, AW.evYes, AW.evSli, AW.ixV, AW.ev1, AW.ev2, AW.evVar, AW.evCon, AW.peek, AW.truV, AW.truD, AW.isiD, AW.cmpV, LK.cLt, LK.cLe, LK.cGt, LK.cGe, AW.b1D, AW.finish, AW.retV, AW.Val.data, AW.Val.datas, AW.allocL, AW.wp_bind, AW.wp_ok, AW.wp_ite, AW.evChain, AW.lenD, AW.Tg.slots, tab, i1, i4, lc, bools_map, hb, ez, cn, en, bodyB, h1, h4, ha]
        · have hb : ((ds.map nodeB).all id) = false := by rw [List.all_map]; simpa using ha
          simp [f6, AW.execSs, AW.execS, AW.exSeq, AW.exIf, AW.exNext, AW.exRet, AW.exAsg, AW.exDrop, AW.exSetIx, AW.evT, AW.evalE, AW.evalB, AW.evalEs, AW.evalO, AW.evalC, AW.evalL, AW.evalIt, AW.evOr, AW.evAnd, AW.evNot, AW.evIte, AW.evTup, AW.evLm, AW.evDisp, AW.evCall, AW.evCons, AW.evStar, AW.evNil, AW.evNoPart, AW.evDsp, AW.evPart, AW.evYes, AW.evSli, AW.ixV, AW.ev1, AW.ev2, AW.evVar, AW.evCon, AW.peek, AW.truV, AW.truD, AW.isiD, AW.cmpV, LK.cLt, LK.cLe, LK.cGt, LK.cGe, AW.b1D, AW.finish, AW.retV, AW.Val.data, AW.Val.datas, AW.allocL, AW.wp_bind, AW.wp_ok, AW.wp_ite, AW.evChain, AW.lenD, AW.Tg.slots, tab, i1, i4, lc, bools_map, hb, bodyB, h1, h4, ha]
      · have i4 : ¬ (ds.length : Int) ≤ 40 := by omega
        simp [f6, AW.execSs, AW.execS, AW.exSeq, AW.exIf, AW.exNext, AW.exRet, AW.exAsg, AW.exDrop, AW.exSetIx, AW.evT, AW.evalE, AW.evalB, AW.evalEs, AW.evalO, AW.evalC, AW.evalL, AW.evalIt, AW.evOr, AW.evAnd, AW.evNot, AW.evIte, AW.evTup, AW.evLm, AW.evDisp, AW.evCall, AW.evCons, AW.evStar, AW.evNil, AW.evNoPart, AW.evDsp, AW.evPart, AW.evYes, AW.evSli, AW.ixV, AW.ev1, AW.ev2, AW.evVar, AW.evCon, AW.peek, AW.truV, AW.truD, AW.isiD, AW.cmpV, LK.cLt, LK.cLe, LK.cGt, LK.cGe, AW.b1D, AW.finish, AW.retV, AW.Val.data, AW.Val.datas, AW.allocL, AW.wp_bind, AW.wp_ok, AW.wp_ite, AW.evChain, AW.lenD, AW.Tg.slots, tab, i1, i4, bodyB, h1, h4]
    · have i1 : ¬ (1 : Int) ≤ (ds.length : Int) := by omega
      simp [f6, AW.execSs, AW.execS, AW.exSeq, AW.exIf, AW.exNext, AW.exRet, AW.exAsg, AW.exDrop, AW.exSetIx, AW.evT, AW.evalE, AW.evalB, AW.evalEs, AW.evalO, AW.evalC, AW.evalL, AW.evalIt, AW.evOr, AW.evAnd, AW.evNot, AW.evIte, AW.evTup, AW.evLm, AW.evDisp, AW.evCall, AW.evCons, AW.evStar, AW.evNil, AW.evNoPart, AW.evDsp, AW.evPart, AW.evYes, AW.evSli, AW.ixV, AW.ev1, AW.ev2, AW.evVar, AW.evCon, AW.peek, AW.truV, AW.truD, AW.isiD, AW.cmpV, LK.cLt, LK.cLe, LK.cGt, LK.cGe, AW.b1D, AW.finish, AW.retV, AW.Val.data, AW.Val.datas, AW.allocL, AW.wp_bind, AW.wp_ok, AW.wp_ite, AW.evChain, AW.lenD, AW.Tg.slots, tab, i1, bodyB, h1]
  | _ => simp [f6, AW.execSs, AW.execS, AW.exSeq, AW.exIf, AW.exNext, AW.exRet, AW.exAsg, AW.exDrop, AW.exSetIx, AW.evT, AW.evalE, AW.evalB, AW.evalEs, AW.evalO, AW.evalC, AW.evalL, AW.evalIt, AW.evOr, AW.evAnd, AW.evNot, AW.evIte, AW.evTup, AW.evLm, AW.evDisp, AW.evCall, AW.evCons, AW.evStar, AW.evNil, AW.evNoPart, AW.evDsp, AW.evPart, AW.evYes, AW.evSli, AW.ixV, AW.ev1, AW.ev2, AW.evVar, AW.evCon, AW.peek, AW.truV, AW.truD, AW.isiD, AW.cmpV, LK.cLt, LK.cLe, LK.cGt, LK.cGe, AW.b1D, AW.finish, AW.retV, AW.Val.data, AW.Val.datas, AW.allocL, AW.wp_bind, AW.wp_ok, AW.wp_ite, AW.evChain, AW.lenD, AW.Tg.slots, bodyB]
end LK
set_option maxRecDepth 100000
set_option maxHeartbeats 4000000
namespace LK
open PySem AW
section
variable {m : Store} {a b a' b' x : Cel} {L : Nat}
theorem g20 (h : m.length = L) : (m ++ [a, b])[L]? = some a := by subst h; simp
theorem g21 (h : m.length = L) : (m ++ [a, b])[L + 1]? = some b := by subst h; simp [List.getElem?_append_right]
theorem t20 (h : m.length = L) : (m ++ [a, b]).set L a' = m ++ [a', b] := by subst h; simp [List.set_append]
theorem t21 (h : m.length = L) : (m ++ [a, b]).set (L + 1) b' = m ++ [a, b'] := by subst h; simp [List.set_append]
theorem g10 (h : m.length = L) : (m ++ [a])[L]? = some a := by subst h; simp
theorem t10 (h : m.length = L) : (m ++ [a]).set L a' = m ++ [a'] := by subst h; simp [List.set_append]
end
/-! ### the dice -/
theorem d_roll {k : Nat} (hk : 1 ≤ k) {c : Nat} {n : Int} (h0 : 0 < n) (h1 : n < 1073741824) : Draws (fun m => R k 8 [.cell c, .d (.int n)] m) c fun v => ∃ r : Int, v = .d (.int r) ∧ 0 ≤ r ∧ r < n := by
  obtain ⟨k, rfl⟩ : ∃ j, k = j + 1 := ⟨k - 1, by omega⟩
  intro m0 m Q h q
  have lt := h.lt
  obtain ⟨a, b, e, pa, hm⟩ := h.get
  unfold die at hm
  have hn : n ≠ 0 := by omega
  have hna : n.natAbs < 1073741824 := by omega
  show wp (AW.finish false m (execSs tab.gvals (R k) 100 f8.body [some (.cell c), some (.d (.int n)), none, none, none] m)) Q
  by_cases ha : 0 < a
  · have key : AW.finish false m (execSs tab.gvals (R k) 100 f8.body [some (.cell c), some (.d (.int n)), none, none, none] m) = .ok (.d (.int (a.fmod n))) (m.set c (die (a.fdiv n) b e)) := by
      simp [f8, die, execSs, execS, exSeq, exIf, exAsg, exRet, exSetIx, evT, evalE, ev1, ev2, evVar, evCon, peek, hm, idxD, L2.atI, L2.ixN, cmpV, cmpD, truV, truD, ha, b1D, binD, hn, hna, setC, AW.finish, retV, List.take_of_length_le]
    rw [key, wp_ok]
    refine q _ _ ⟨_, rfl, fmod_lt h0⟩ (h.put ?_)
    rw [Int.fdiv_eq_ediv_of_nonneg _ (by omega)]
    exact Int.ediv_nonneg pa (by omega)
  · have h2 : ∀ x : Int, cmul x 25214903917 = true := fun x => cmul_r (by omega) (by omega)
    have h3 : ∀ x : Int, cmul x 40692 = true := fun x => cmul_r (by omega) (by omega)
    have h4 : ∀ x : Int, cmul x 69621 = true := fun x => cmul_r (by omega) (by omega)
    have h5 : ∀ x y : Int, cmul y (x.fmod 2305843009213693951) = true := fun x y => by
      have := fmod_lt (i := x) (j := 2305843009213693951) (by omega)
      exact cmul_r (by omega) (by omega)
    have h6 : ∀ x y : Int, cmul y (x.fmod 1152921504606846883) = true := fun x y => by
      have := fmod_lt (i := x) (j := 1152921504606846883) (by omega)
      exact cmul_r (by omega) (by omega)
    have key : ∃ x : Int, AW.finish false m (execSs tab.gvals (R k) 100 f8.body [some (.cell c), some (.d (.int n)), none, none, none] m) = .ok (.d (.int (x.fmod n))) (m.set c (die a b (e + 1))) := by
      simp [f8, die, execSs, execS, exSeq, exIf, exAsg, exRet, exNext, exSetIx, evT, evalE, ev1, ev2, evVar, evCon, peek, hm, idxD, L2.atI, L2.ixN, cmpV, cmpD, truV, truD, ha, b1D, binD, hn, hna, setC, AW.finish, retV, List.take_of_length_le, List.getElem?_set_self lt, h2, h3, h4, h5, h6]
      exact ⟨_, rfl⟩
    obtain ⟨x, key⟩ := key
    rw [key, wp_ok]
    exact q _ _ ⟨_, rfl, fmod_lt h0⟩ (h.put pa)
theorem d_pick {k : Nat} (hk : 2 ≤ k) {c : Nat} {ds : List D} (h0 : ds ≠ []) (h1 : ds.length < 1073741824) : Draws (fun m => R k 9 [.cell c, .d (.lst ds)] m) c fun v => ∃ d, v = .d d ∧ d ∈ ds := by
  obtain ⟨k, rfl⟩ : ∃ j, k = j + 2 := ⟨k - 2, by omega⟩
  intro m0 m Q h q
  have hp : 0 < ds.length := List.length_pos_iff.mpr h0
  show wp (AW.finish false m (execSs tab.gvals (R (k + 1)) 100 f9.body [some (.cell c), some (.d (.lst ds))] m)) Q
  refine wp_fin (x_ret ?_)
  simp [AW.execSs, AW.execS, AW.exSeq, AW.exIf, AW.exNext, AW.exRet, AW.exAsg, AW.exDrop, AW.exSetIx, AW.evT, AW.evalE, AW.evalB, AW.evalEs, AW.evalO, AW.evalC, AW.evalL, AW.evalIt, AW.evOr, AW.evAnd, AW.evNot, AW.evIte, AW.evTup, AW.evLm, AW.evDisp, AW.evCall, AW.evCons, AW.evStar, AW.evNil, AW.evNoPart, AW.evDsp, AW.evPart, AW.evYes, AW.evSli, AW.ixV, AW.ev1, AW.ev2, AW.evVar, AW.evCon, AW.peek, AW.truV, AW.truD, AW.isiD, AW.cmpV, LK.cLt, LK.cLe, LK.cGt, LK.cGe, AW.b1D, AW.finish, AW.retV, AW.Val.data, AW.Val.datas, AW.allocL, AW.wp_bind, AW.wp_ok, AW.wp_ite, AW.evChain, AW.lenD, AW.Tg.slots]
  refine d_roll (k := k + 1) (by omega) (by omega) (by omega) m0 m _ h fun v m' hv s => ?_
  obtain ⟨r, rfl, r0, r1⟩ := hv
  obtain ⟨x, ex, hx⟩ := atI_mem (xs := ds) r0 r1
  simp [AW.execSs, AW.execS, AW.exSeq, AW.exIf, AW.exNext, AW.exRet, AW.exAsg, AW.exDrop, AW.exSetIx, AW.evT, AW.evalE, AW.evalB, AW.evalEs, AW.evalO, AW.evalC, AW.evalL, AW.evalIt, AW.evOr, AW.evAnd, AW.evNot, AW.evIte, AW.evTup, AW.evLm, AW.evDisp, AW.evCall, AW.evCons, AW.evStar, AW.evNil, AW.evNoPart, AW.evDsp, AW.evPart, AW.evYes, AW.evSli, AW.ixV, AW.ev1, AW.ev2, AW.evVar, AW.evCon, AW.peek, AW.truV, AW.truD, AW.isiD, AW.cmpV, LK.cLt, LK.cLe, LK.cGt, LK.cGe, AW.b1D, AW.finish, AW.retV, AW.Val.data, AW.Val.datas, AW.allocL, AW.wp_bind, AW.wp_ok, AW.wp_ite, AW.evChain, AW.lenD, AW.Tg.slots, idxD, ex]
  refine fin_ret ?_
  rw [s.takeS h]
  exact q _ _ ⟨x, rfl, hx⟩ s
def sg (c : Nat) : Str := ⟨#[c]⟩
def abcS : Str := "abcdefghijklmnopqrstuvwxyz"
def abc : List Nat := [97, 98, 99, 100, 101, 102, 103, 104, 105, 106, 107, 108, 109, 110, 111, 112, 113, 114, 115, 116, 117, 118, 119, 120, 121, 122]
theorem abc_eq : abcS.cps.toList = abc := by decide +kernel
theorem abc_len : abcS.length = 26 := by decide +kernel
theorem abc_low : ∀ c ∈ abc, low c = true := by decide
theorem abc_nd : abc.Nodup := by decide
theorem d_pickS {k : Nat} (hk : 2 ≤ k) {c : Nat} : Draws (fun m => R k 9 [.cell c, .d (.str abcS)] m) c fun v => ∃ x, v = .d (.str (sg x)) ∧ low x = true := by
  obtain ⟨k, rfl⟩ : ∃ j, k = j + 2 := ⟨k - 2, by omega⟩
  intro m0 m Q h q
  show wp (AW.finish false m (execSs tab.gvals (R (k + 1)) 100 f9.body [some (.cell c), some (.d (.str abcS))] m)) Q
  refine wp_fin (x_ret ?_)
  have l26 : ((abcS.length : Nat) : Int) = 26 := by rw [abc_len]; rfl
  simp [AW.execSs, AW.execS, AW.exSeq, AW.exIf, AW.exNext, AW.exRet, AW.exAsg, AW.exDrop, AW.exSetIx, AW.evT, AW.evalE, AW.evalB, AW.evalEs, AW.evalO, AW.evalC, AW.evalL, AW.evalIt, AW.evOr, AW.evAnd, AW.evNot, AW.evIte, AW.evTup, AW.evLm, AW.evDisp, AW.evCall, AW.evCons, AW.evStar, AW.evNil, AW.evNoPart, AW.evDsp, AW.evPart, AW.evYes, AW.evSli, AW.ixV, AW.ev1, AW.ev2, AW.evVar, AW.evCon, AW.peek, AW.truV, AW.truD, AW.isiD, AW.cmpV, LK.cLt, LK.cLe, LK.cGt, LK.cGe, AW.b1D, AW.finish, AW.retV, AW.Val.data, AW.Val.datas, AW.allocL, AW.wp_bind, AW.wp_ok, AW.wp_ite, AW.evChain, AW.lenD, AW.Tg.slots, abc_len, sm]
  refine d_roll (k := k + 1) (by omega) (by omega) (by omega) m0 m _ h fun v m' hv s => ?_
  obtain ⟨r, rfl, r0, r1⟩ := hv
  obtain ⟨x, ex, hx⟩ := atI_mem (xs := abc) r0 (by simpa [abc] using r1)
  simp [AW.execSs, AW.execS, AW.exSeq, AW.exIf, AW.exNext, AW.exRet, AW.exAsg, AW.exDrop, AW.exSetIx, AW.evT, AW.evalE, AW.evalB, AW.evalEs, AW.evalO, AW.evalC, AW.evalL, AW.evalIt, AW.evOr, AW.evAnd, AW.evNot, AW.evIte, AW.evTup, AW.evLm, AW.evDisp, AW.evCall, AW.evCons, AW.evStar, AW.evNil, AW.evNoPart, AW.evDsp, AW.evPart, AW.evYes, AW.evSli, AW.ixV, AW.ev1, AW.ev2, AW.evVar, AW.evCon, AW.peek, AW.truV, AW.truD, AW.isiD, AW.cmpV, LK.cLt, LK.cLe, LK.cGt, LK.cGe, AW.b1D, AW.finish, AW.retV, AW.Val.data, AW.Val.datas, AW.allocL, AW.wp_bind, AW.wp_ok, AW.wp_ite, AW.evChain, AW.lenD, AW.Tg.slots, idxD, abc_eq, ex, abc_len, sm]
  refine fin_ret ?_
  rw [s.takeS h]
  exact q _ _ ⟨x, rfl, abc_low x hx⟩ s
/-! ### some letters -/
theorem er_map {α β : Type} (f : α → β) : ∀ (l : List α) (i : Nat), (l.map f).eraseIdx i = (l.eraseIdx i).map f
  | [], _ => rfl
  | _ :: _, 0 => rfl
  | x :: l, i + 1 => congrArg (f x :: ·) (er_map f l i)
def SomI (m0 m : Store) (c : Nat) (n : Nat) (rest : List D) (ρ : Ev) (M : Store) : Prop := ∃ (u : Option Val) (m1 : Store) (ls fs : List Nat), ρ = [some (.cell c), some (.d (.str abcS)), some (.d (.int 4)), u, some (.cell m.length), some (.cell (m.length + 1))] ∧ M = m1 ++ [.lst (ls.map fun x => D.str (sg x)), .lst (fs.map fun x => D.str (sg x))] ∧ Dc m0 c m1 ∧ rest.length + fs.length = 4 ∧ (fs ++ ls).Perm abc
theorem d_some {k : Nat} (hk : 2 ≤ k) {c : Nat} : Draws (fun m => R k 10 [.cell c, .d (.str abcS), .d (.int 4)] m) c fun v => ∃ xs : List Nat, v = .d (.lst (xs.map fun x => D.str (sg x))) ∧ xs.length = 4 ∧ xs.Nodup ∧ ∀ x ∈ xs, low x = true := by
  obtain ⟨k, rfl⟩ : ∃ j, k = j + 2 := ⟨k - 2, by omega⟩
  intro m0 m Q h q
  refine wp_run (f := f10) [some (.cell c), some (.d (.str abcS)), some (.d (.int 4)), none, none, none] rfl rfl rfl (x_par ?_)
  have e0 : lbD .list (.str abcS) = some (abc.map fun x => D.str (sg x)) := by
    show (if small abcS.length = true then some (abcS.cps.toList.map fun c => D.str ⟨#[c]⟩) else none) = _
    rw [abc_len, if_pos (sm (by omega)), abc_eq]; rfl
  simp [AW.evT, AW.lift_some, AW.Out.bind_ok, AW.evLb, AW.evalE, AW.evalB, AW.evalEs, AW.evalO, AW.evalC, AW.evalL, AW.evalIt, AW.evOr, AW.evAnd, AW.evNot, AW.evIte, AW.evTup, AW.evLm, AW.evDisp, AW.evCall, AW.evCons, AW.evStar, AW.evNil, AW.evNoPart, AW.evDsp, AW.evPart, AW.evYes, AW.evSli, AW.ev1, AW.ev2, AW.evVar, AW.evCon, AW.cmpV, LK.cLt, LK.cLe, LK.cGt, LK.cGe, AW.Val.datas, AW.allocL, AW.wp_bind, AW.wp_ok, AW.wp_ite, AW.evChain, AW.Tg.slots, LK.gv_MAX_LETTERS, LK.gv_KEYWORDS, LK.gv_MAX_PARAMETERS, LK.gv_MAX_OPERANDS, LK.gv_MAX_NODES, LK.gv_LAZY, LK.gv_STRICT, LK.gv_LEAVES, AW.idxL0, AW.idxL1, AW.idxL2, AW.idxL3, AW.idxL4, AW.idxD_0, AW.idxD_1, AW.sl_lst, AW.sl_tup, AW.ix_some, AW.i_non_bool, AW.i_non_int, AW.i_non_str, AW.i_non_tuple, AW.i_non_list, AW.i_non_dict, AW.i_bl_bool, AW.i_bl_int, AW.i_bl_str, AW.i_bl_tuple, AW.i_bl_list, AW.i_bl_dict, AW.i_int_bool, AW.i_int_int, AW.i_int_str, AW.i_int_tuple, AW.i_int_list, AW.i_int_dict, AW.i_str_bool, AW.i_str_int, AW.i_str_str, AW.i_str_tuple, AW.i_str_list, AW.i_str_dict, AW.i_tup_bool, AW.i_tup_int, AW.i_tup_str, AW.i_tup_tuple, AW.i_tup_list, AW.i_tup_dict, AW.i_lst_bool, AW.i_lst_int, AW.i_lst_str, AW.i_lst_tuple, AW.i_lst_list, AW.i_lst_dict, AW.i_dct_bool, AW.i_dct_int, AW.i_dct_str, AW.i_dct_tuple, AW.i_dct_list, AW.i_dct_dict, AW.t_non, AW.t_bl, AW.t_int, AW.t_tup, AW.t_lst, AW.pk_d, AW.pk_c, AW.tv_d, AW.ln_tup, AW.ln_lst, AW.ln_str, AW.b_len, AW.b_len2, AW.b_len3, AW.b_abs, AW.b_dlen, AW.b_all, AW.b_any, AW.b_int, AW.b_intb, AW.b_tupl, AW.b_tupt, AW.dt_d, evLb, e0, sm]
  refine ⟨_, rfl, ?_⟩
  have e1 : evalE tab.gvals (R (k + 1)) (.b2 .min (.var 2) (.b1 .len (.var 4))) [some (.cell c), some (.d (.str abcS)), some (.d (.int 4)), none, some (.cell m.length), some (.cell (m.length + 1))] (m ++ [.lst (abc.map fun x => D.str (sg x)), .lst []]) = .ok (.d (.int ((4 : Nat) : Int))) (m ++ [.lst (abc.map fun x => D.str (sg x)), .lst []]) := by
    have hl : (abc.length : Int) = 26 := rfl
    simp [AW.evT, AW.lift_some, AW.Out.bind_ok, AW.evLb, AW.evalE, AW.evalB, AW.evalEs, AW.evalO, AW.evalC, AW.evalL, AW.evalIt, AW.evOr, AW.evAnd, AW.evNot, AW.evIte, AW.evTup, AW.evLm, AW.evDisp, AW.evCall, AW.evCons, AW.evStar, AW.evNil, AW.evNoPart, AW.evDsp, AW.evPart, AW.evYes, AW.evSli, AW.ev1, AW.ev2, AW.evVar, AW.evCon, AW.cmpV, LK.cLt, LK.cLe, LK.cGt, LK.cGe, AW.Val.datas, AW.allocL, AW.wp_bind, AW.wp_ok, AW.wp_ite, AW.evChain, AW.Tg.slots, LK.gv_MAX_LETTERS, LK.gv_KEYWORDS, LK.gv_MAX_PARAMETERS, LK.gv_MAX_OPERANDS, LK.gv_MAX_NODES, LK.gv_LAZY, LK.gv_STRICT, LK.gv_LEAVES, AW.idxL0, AW.idxL1, AW.idxL2, AW.idxL3, AW.idxL4, AW.idxD_0, AW.idxD_1, AW.sl_lst, AW.sl_tup, AW.ix_some, AW.i_non_bool, AW.i_non_int, AW.i_non_str, AW.i_non_tuple, AW.i_non_list, AW.i_non_dict, AW.i_bl_bool, AW.i_bl_int, AW.i_bl_str, AW.i_bl_tuple, AW.i_bl_list, AW.i_bl_dict, AW.i_int_bool, AW.i_int_int, AW.i_int_str, AW.i_int_tuple, AW.i_int_list, AW.i_int_dict, AW.i_str_bool, AW.i_str_int, AW.i_str_str, AW.i_str_tuple, AW.i_str_list, AW.i_str_dict, AW.i_tup_bool, AW.i_tup_int, AW.i_tup_str, AW.i_tup_tuple, AW.i_tup_list, AW.i_tup_dict, AW.i_lst_bool, AW.i_lst_int, AW.i_lst_str, AW.i_lst_tuple, AW.i_lst_list, AW.i_lst_dict, AW.i_dct_bool, AW.i_dct_int, AW.i_dct_str, AW.i_dct_tuple, AW.i_dct_list, AW.i_dct_dict, AW.t_non, AW.t_bl, AW.t_int, AW.t_tup, AW.t_lst, AW.pk_d, AW.pk_c, AW.tv_d, AW.ln_tup, AW.ln_lst, AW.ln_str, AW.b_len, AW.b_len2, AW.b_len3, AW.b_abs, AW.b_dlen, AW.b_all, AW.b_any, AW.b_int, AW.b_intb, AW.b_tupl, AW.b_tupt, AW.dt_d, b2D, g20 (m := m) (L := m.length) rfl, peek, hl]
  refine x_forI (SomI m0 m c 4)
    (rng_eq (by omega) e1) ⟨none, m, abc, [], rfl, rfl, h, by simp [rngD], by simp⟩ ?_ ?_
  · rintro d rest ρ M ⟨u, m1, ls, fs, rfl, rfl, s, hl, hp⟩
    refine ⟨_, rfl, ?_⟩
    have lm : m1.length = m.length := by rw [s.len, h.len]
    have lp : ls.length + fs.length = 26 := by have := hp.length_eq; simp [abc] at this; omega
    simp only [List.length_cons] at hl
    refine x_expr ?_
    simp [AW.evT, AW.lift_some, AW.Out.bind_ok, AW.evLb, AW.evalE, AW.evalB, AW.evalEs, AW.evalO, AW.evalC, AW.evalL, AW.evalIt, AW.evOr, AW.evAnd, AW.evNot, AW.evIte, AW.evTup, AW.evLm, AW.evDisp, AW.evCall, AW.evCons, AW.evStar, AW.evNil, AW.evNoPart, AW.evDsp, AW.evPart, AW.evYes, AW.evSli, AW.ev1, AW.ev2, AW.evVar, AW.evCon, AW.cmpV, LK.cLt, LK.cLe, LK.cGt, LK.cGe, AW.Val.datas, AW.allocL, AW.wp_bind, AW.wp_ok, AW.wp_ite, AW.evChain, AW.Tg.slots, LK.gv_MAX_LETTERS, LK.gv_KEYWORDS, LK.gv_MAX_PARAMETERS, LK.gv_MAX_OPERANDS, LK.gv_MAX_NODES, LK.gv_LAZY, LK.gv_STRICT, LK.gv_LEAVES, AW.idxL0, AW.idxL1, AW.idxL2, AW.idxL3, AW.idxL4, AW.idxD_0, AW.idxD_1, AW.sl_lst, AW.sl_tup, AW.ix_some, AW.i_non_bool, AW.i_non_int, AW.i_non_str, AW.i_non_tuple, AW.i_non_list, AW.i_non_dict, AW.i_bl_bool, AW.i_bl_int, AW.i_bl_str, AW.i_bl_tuple, AW.i_bl_list, AW.i_bl_dict, AW.i_int_bool, AW.i_int_int, AW.i_int_str, AW.i_int_tuple, AW.i_int_list, AW.i_int_dict, AW.i_str_bool, AW.i_str_int, AW.i_str_str, AW.i_str_tuple, AW.i_str_list, AW.i_str_dict, AW.i_tup_bool, AW.i_tup_int, AW.i_tup_str, AW.i_tup_tuple, AW.i_tup_list, AW.i_tup_dict, AW.i_lst_bool, AW.i_lst_int, AW.i_lst_str, AW.i_lst_tuple, AW.i_lst_list, AW.i_lst_dict, AW.i_dct_bool, AW.i_dct_int, AW.i_dct_str, AW.i_dct_tuple, AW.i_dct_list, AW.i_dct_dict, AW.t_non, AW.t_bl, AW.t_int, AW.t_tup, AW.t_lst, AW.pk_d, AW.pk_c, AW.tv_d, AW.ln_tup, AW.ln_lst, AW.ln_str, AW.b_len, AW.b_len2, AW.b_len3, AW.b_abs, AW.b_dlen, AW.b_all, AW.b_any, AW.b_int, AW.b_intb, AW.b_tupl, AW.b_tupt, AW.dt_d, evApp, evPop1, cellL, g20 lm, g21 lm]
    refine (d_roll (k := k + 1) (by omega) (by omega) (by omega)).tail s fun v m' hv s' => ?_
    obtain ⟨r, rfl, r0, r1⟩ := hv
    have lm' : m'.length = m.length := by rw [s'.len, h.len]
    have hj : r.toNat < ls.length := by omega
    have hlt : fs.length < sizeLine := by rw [sl]; omega
    simp [intV, popC, g20 lm', g21 lm', ixN_nat r0 r1, List.getElem?_eq_getElem hj, t20 lm', t21 lm', appC, hlt, Val.data]
    refine x_nil ⟨_, m', ls.eraseIdx r.toNat, fs ++ [ls[r.toNat]], rfl, ?_, s', ?_, ?_⟩
    · rw [er_map, List.map_append]; rfl
    · simp; omega
    · refine List.Perm.trans ?_ hp
      rw [List.append_assoc]
      exact List.Perm.append_left _ (er_perm ls r.toNat hj)
  · rintro ρ M ⟨u, m1, ls, fs, rfl, rfl, s, hl, hp⟩
    have lm : m1.length = m.length := by rw [s.len, h.len]
    refine x_ret ?_
    simp [AW.evT, AW.lift_some, AW.Out.bind_ok, AW.evLb, AW.evalE, AW.evalB, AW.evalEs, AW.evalO, AW.evalC, AW.evalL, AW.evalIt, AW.evOr, AW.evAnd, AW.evNot, AW.evIte, AW.evTup, AW.evLm, AW.evDisp, AW.evCall, AW.evCons, AW.evStar, AW.evNil, AW.evNoPart, AW.evDsp, AW.evPart, AW.evYes, AW.evSli, AW.ev1, AW.ev2, AW.evVar, AW.evCon, AW.cmpV, LK.cLt, LK.cLe, LK.cGt, LK.cGe, AW.Val.datas, AW.allocL, AW.wp_bind, AW.wp_ok, AW.wp_ite, AW.evChain, AW.Tg.slots, LK.gv_MAX_LETTERS, LK.gv_KEYWORDS, LK.gv_MAX_PARAMETERS, LK.gv_MAX_OPERANDS, LK.gv_MAX_NODES, LK.gv_LAZY, LK.gv_STRICT, LK.gv_LEAVES, AW.idxL0, AW.idxL1, AW.idxL2, AW.idxL3, AW.idxL4, AW.idxD_0, AW.idxD_1, AW.sl_lst, AW.sl_tup, AW.ix_some, AW.i_non_bool, AW.i_non_int, AW.i_non_str, AW.i_non_tuple, AW.i_non_list, AW.i_non_dict, AW.i_bl_bool, AW.i_bl_int, AW.i_bl_str, AW.i_bl_tuple, AW.i_bl_list, AW.i_bl_dict, AW.i_int_bool, AW.i_int_int, AW.i_int_str, AW.i_int_tuple, AW.i_int_list, AW.i_int_dict, AW.i_str_bool, AW.i_str_int, AW.i_str_str, AW.i_str_tuple, AW.i_str_list, AW.i_str_dict, AW.i_tup_bool, AW.i_tup_int, AW.i_tup_str, AW.i_tup_tuple, AW.i_tup_list, AW.i_tup_dict, AW.i_lst_bool, AW.i_lst_int, AW.i_lst_str, AW.i_lst_tuple, AW.i_lst_list, AW.i_lst_dict, AW.i_dct_bool, AW.i_dct_int, AW.i_dct_str, AW.i_dct_tuple, AW.i_dct_list, AW.i_dct_dict, AW.t_non, AW.t_bl, AW.t_int, AW.t_tup, AW.t_lst, AW.pk_d, AW.pk_c, AW.tv_d, AW.ln_tup, AW.ln_lst, AW.ln_str, AW.b_len, AW.b_len2, AW.b_len3, AW.b_abs, AW.b_dlen, AW.b_all, AW.b_any, AW.b_int, AW.b_intb, AW.b_tupl, AW.b_tupt, AW.dt_d]
    refine fin_cell (by omega) (g21 lm) ?_
    rw [← lm, List.take_left' rfl]
    refine q _ _ ⟨fs, rfl, by simpa using hl, ?_, fun x hx => ?_⟩ s
    · exact ((hp.nodup_iff.mpr abc_nd).sublist (List.sublist_append_left _ _))
    · exact abc_low x (hp.mem_iff.mp (List.mem_append_left _ hx))
end LK
set_option maxRecDepth 100000
set_option maxHeartbeats 4000000
namespace LK
open PySem AW
theorem rollE {k : Nat} (hk : 1 ≤ k) {c : Nat} {n : Int} (h0 : 0 < n) (h1 : n < 1073741824) {m0 m : Store} (l : Store) (s : Dc m0 c m) : ∃ (r : Int) (m' : Store), R k 8 [.cell c, .d (.int n)] (m ++ l) = .ok (.d (.int r)) (m' ++ l) ∧ 0 ≤ r ∧ r < n ∧ Dc m0 c m' := by
  obtain ⟨v, M, e, r, m', rfl, rfl, h⟩ := wp_eq ((d_roll hk h0 h1).tail (l := l) s (Q := fun v M => ∃ (r : Int) (m' : Store), v = .d (.int r) ∧ M = m' ++ l ∧ 0 ≤ r ∧ r < n ∧ Dc m0 c m') fun v m' hv s' => by
    obtain ⟨r, rfl, h⟩ := hv
    exact ⟨r, m', rfl, rfl, h.1, h.2, s'⟩)
  exact ⟨r, m', e, h⟩
theorem rollE0 {k : Nat} (hk : 1 ≤ k) {c : Nat} {n : Int} (h0 : 0 < n) (h1 : n < 1073741824) {m0 m : Store} (s : Dc m0 c m) : ∃ (r : Int) (m' : Store), R k 8 [.cell c, .d (.int n)] m = .ok (.d (.int r)) m' ∧ 0 ≤ r ∧ r < n ∧ Dc m0 c m' := by
  have := rollE hk h0 h1 [] s
  simpa using this
theorem pickE {k : Nat} (hk : 2 ≤ k) {c : Nat} {ds : List D} (h0 : ds ≠ []) (h1 : ds.length < 1073741824) {m0 m : Store} (l : Store) (s : Dc m0 c m) : ∃ (d : D) (m' : Store), R k 9 [.cell c, .d (.lst ds)] (m ++ l) = .ok (.d d) (m' ++ l) ∧ d ∈ ds ∧ Dc m0 c m' := by
  obtain ⟨v, M, e, r, m', rfl, rfl, h⟩ := wp_eq ((d_pick hk h0 h1).tail (l := l) s (Q := fun v M => ∃ (r : D) (m' : Store), v = .d r ∧ M = m' ++ l ∧ r ∈ ds ∧ Dc m0 c m') fun v m' hv s' => by
    obtain ⟨r, rfl, h⟩ := hv
    exact ⟨r, m', rfl, rfl, h, s'⟩)
  exact ⟨r, m', e, h⟩
theorem pickE0 {k : Nat} (hk : 2 ≤ k) {c : Nat} {ds : List D} (h0 : ds ≠ []) (h1 : ds.length < 1073741824) {m0 m : Store} (s : Dc m0 c m) : ∃ (d : D) (m' : Store), R k 9 [.cell c, .d (.lst ds)] m = .ok (.d d) m' ∧ d ∈ ds ∧ Dc m0 c m' := by
  have := pickE hk h0 h1 [] s
  simpa using this
theorem pickSE {k : Nat} (hk : 2 ≤ k) {c : Nat} {m0 m : Store} (l : Store) (s : Dc m0 c m) : ∃ (x : Nat) (m' : Store), R k 9 [.cell c, .d (.str abcS)] (m ++ l) = .ok (.d (.str (sg x))) (m' ++ l) ∧ low x = true ∧ Dc m0 c m' := by
  obtain ⟨v, M, e, r, m', rfl, rfl, h⟩ := wp_eq ((d_pickS hk).tail (l := l) s (Q := fun v M => ∃ (r : Nat) (m' : Store), v = .d (.str (sg r)) ∧ M = m' ++ l ∧ low r = true ∧ Dc m0 c m') fun v m' hv s' => by
    obtain ⟨r, rfl, h⟩ := hv
    exact ⟨r, m', rfl, rfl, h, s'⟩)
  exact ⟨r, m', e, h⟩
theorem someE {k : Nat} (hk : 2 ≤ k) {c : Nat} {m0 m : Store} (l : Store) (s : Dc m0 c m) : ∃ (xs : List Nat) (m' : Store), R k 10 [.cell c, .d (.str abcS), .d (.int 4)] (m ++ l) = .ok (.d (.lst (xs.map fun x => D.str (sg x)))) (m' ++ l) ∧ xs.length = 4 ∧ xs.Nodup ∧ (∀ x ∈ xs, low x = true) ∧ Dc m0 c m' := by
  obtain ⟨v, M, e, r, m', rfl, rfl, h⟩ := wp_eq ((d_some hk).tail (l := l) s (Q := fun v M => ∃ (xs : List Nat) (m' : Store), v = .d (.lst (xs.map fun x => D.str (sg x))) ∧ M = m' ++ l ∧ xs.length = 4 ∧ xs.Nodup ∧ (∀ x ∈ xs, low x = true) ∧ Dc m0 c m') fun v m' hv s' => by
    obtain ⟨r, rfl, h1, h2, h3⟩ := hv
    exact ⟨r, m', rfl, rfl, h1, h2, h3, s'⟩)
  exact ⟨r, m', e, h⟩
/-- a comprehension that draws its items -/
def DrI (m0 : Store) (c : Nat) (P : D → Prop) (n : Nat) (l : Store) (rest acc : List D) (M : Store) : Prop := ∃ m' : Store, M = m' ++ l ∧ (∀ d ∈ acc, P d) ∧ acc.length + rest.length = n ∧ Dc m0 c m'
theorem lc_draw {P : D → Prop} {c q n : Nat} {m0 m' l M : Store} {ρ : Ev} {oi : Ev → Store → Out (List D)} {oe : Ex} (s : Dc m0 c m') (hn : n ≤ 1000) (hoi : oi ρ M = .ok (rngD n) (m' ++ l))
    (step : ∀ (m1 : Store) (d' : D), Dc m0 c m1 → ∃ d m2, oe (ρ.set q (some (.d d'))) (m1 ++ l) = .ok (.d d) (m2 ++ l) ∧ P d ∧ Dc m0 c m2) : ∃ (row : List D) (m6 : Store), evLc oi (.name q) evYes oe ρ M = .ok row (m6 ++ l) ∧ (∀ d ∈ row, P d) ∧ row.length = n ∧ Dc m0 c m6 := by
  have key : wp (evLc oi (.name q) evYes oe ρ M) fun ds M' => ∃ m6 : Store, M' = m6 ++ l ∧ (∀ d ∈ ds, P d) ∧ ds.length = n ∧ Dc m0 c m6 := by
    unfold evLc
    rw [hoi, Out.bind_ok]
    refine lc_wp (DrI m0 c P n l) ?_ ?_ _ _ _ ⟨m', rfl, by simp, by simp [rngD], s⟩
    · rintro d' rest' acc M ⟨m5, rfl, ho, hl', s5⟩
      simp only [List.length_cons] at hl'
      refine ⟨by omega, ?_⟩
      obtain ⟨d, m2, e, hd, s2⟩ := step m5 d' s5
      simp only [lcTurn, bindT, lift_some, Out.bind_ok, evYes, if_true, e, Val.data, wp_ok]
      refine ⟨m2, rfl, fun x hx => ?_, by simp; omega, s2⟩
      rcases List.mem_append.mp hx with hx | hx
      · exact ho x hx
      · rw [List.mem_singleton.mp hx]; exact hd
    · rintro acc M ⟨m5, rfl, ho, hl', s5⟩
      exact ⟨m5, rfl, ho, by simpa using hl', s5⟩
  obtain ⟨ds, M', e, m6, rfl, h⟩ := wp_eq key
  exact ⟨ds, m6, e, h⟩
/-! ### words -/
theorem glue_nil : ∀ (cs : List Nat) (acc : Array Nat), (cs.map sg).foldl (fun acc p => acc ++ (Str.ofString "").cps ++ p.cps) acc = acc ++ cs.toArray
  | [], acc => by simp
  | x :: cs, acc => by
    rw [List.map_cons, List.foldl_cons, glue_nil cs]
    have e : (Str.ofString "").cps = #[] := by decide
    rw [e]
    simp [sg]
theorem join_sg (cs : List Nat) : (Txt.join (Str.ofString "") (cs.map sg)).cps.toList = cs := by
  cases cs with
  | nil => decide
  | cons x cs =>
    show (((cs.map sg).foldl (fun acc p => acc ++ (Str.ofString "").cps ++ p.cps) (sg x).cps)).toList = _
    rw [glue_nil]
    simp [sg]
theorem strs_sg (cs : List Nat) : strsD (cs.map fun x => D.str (sg x)) = some (cs.map sg) := by
  have := strs_map (cs.map sg)
  rw [List.map_map] at this
  exact this
theorem sum_sg : ∀ cs : List Nat, ((cs.map sg).map (·.length)).sum = cs.length
  | [] => rfl
  | x :: cs => by
    rw [List.map_cons, List.map_cons, List.sum_cons, sum_sg cs]
    show 1 + _ = _
    simp; omega
theorem rows_sg : ∀ {ds : List D}, (∀ d ∈ ds, ∃ x, d = .str (sg x) ∧ low x = true) → ∃ cs : List Nat, ds = (cs.map fun x => D.str (sg x)) ∧ ∀ x ∈ cs, low x = true
  | [], _ => ⟨[], rfl, by simp⟩
  | d :: ds, h => by
    obtain ⟨x, rfl, hx⟩ := h d List.mem_cons_self
    obtain ⟨cs, rfl, hc⟩ := rows_sg fun d hd => h d (List.mem_cons_of_mem _ hd)
    exact ⟨x :: cs, rfl, fun y hy => by
      rcases List.mem_cons.mp hy with rfl | hy
      · exact hx
      · exact hc y hy⟩
/-- a word that begins with a letter -/
def Wd (x : Nat) (w : Str) : Prop := nameS w = true ∧ w.cps.toList.head? = some x
theorem wd_one {x : Nat} (h : low x = true) : Wd x (sg x) := by
  refine ⟨?_, rfl⟩
  have hk : ¬ sg x ∈ kws := fun hm => by
    have hl : (sg x).length = 1 := rfl
    have : ∀ w ∈ kws, w.length ≠ 1 := by decide
    exact this _ hm hl
  unfold nameS
  have hl : (sg x).length = 1 := rfl
  have he : (sg x).cps.toList = [x] := rfl
  rw [hl, he]
  simp [hk, h]
theorem wd_many {x : Nat} {w : Str} {cs : List Nat} (e : w.cps.toList = x :: cs) (hx : low x = true) (hc : ∀ y ∈ cs, low y = true) (hl : cs.length ≤ 7) (hk : ¬ w ∈ kws) : Wd x w := by
  refine ⟨?_, by rw [e]; rfl⟩
  have hw : w.length = cs.length + 1 := by
    show w.cps.size = _
    rw [← Array.length_toList, e]; rfl
  have ha : (x :: cs).all low = true := List.all_eq_true.mpr fun y hy => by
    rcases List.mem_cons.mp hy with rfl | hy
    · exact hx
    · exact hc y hy
  unfold nameS
  rw [e, ha, hw]
  simp [hk]
  omega
def kwl : List Str := ["do", "test", "value", "fail"]
theorem kwl_iff (w : Str) : w ∈ kwl ↔ w ∈ kws := by
  simp only [kwl, kws, List.mem_cons, List.not_mem_nil, or_false]
  constructor <;> (intro h; rcases h with h | h | h | h <;> simp [h])
def hd (w : Str) : Option Nat := w.cps.toList.head?
def WdI (m0 m : Store) (c : Nat) (xs : List Nat) (rest : List D) (ρ : Ev) (M : Store) : Prop := ∃ (u2 u5 u6 : Option Val) (m1 : Store) (done left : List Nat) (W : List Str), ρ = [some (.cell c), some (.d (.int 4)), u2, some (.cell m.length), some (.d (.str abcS)), u5, u6, none] ∧ M = m1 ++ [.lst (W.map D.str)] ∧ Dc m0 c m1 ∧ xs = done ++ left ∧ rest = (left.map fun x => D.str (sg x)) ∧ W.map hd = done.map some ∧ ∀ w ∈ W, nameS w = true
def Words (W : List Str) : Prop := W.length = 4 ∧ W.Nodup ∧ ∀ w ∈ W, nameS w = true
theorem nd_hd {W : List Str} {xs : List Nat} (h : W.map hd = xs.map some) (hx : xs.Nodup) : W.Nodup := by
  have h1 : (W.map hd).Nodup := by
    rw [h]
    exact List.Pairwise.map some (fun a b hab e => hab (Option.some.inj e)) hx
  exact (List.pairwise_map.mp h1).imp fun hab e => hab (by rw [e])
theorem add_s {a b : Str} (h : a.length + b.length ≤ 1000) : binD .Add (.str a) (.str b) = some (.str (a ++ b)) := by
  show (if small (a.length + b.length) = true then _ else _) = _
  rw [if_pos (sm h)]
theorem ev_join {G : List D} {Φ : Fns} {i : Nat} {ol : L} {ρ : Ev} {m m' : Store} {s w : Str} {ds : List D} (h1 : ρ[i]? = some (some (.d (.str s)))) (h2 : evalL G Φ ol ρ m = .ok ds m') (h3 : m1D .join (Str.ofString "") (.lst ds) = some (.str w)) (h4 : binD .Add (.str s) (.str w) = some (.str (s ++ w))) : evalE G Φ (.bin .Add (.var i) (.m1 .join (.con (.str "")) (.lm false ol))) ρ m = .ok (.d (.str (s ++ w))) m' := by
  simp [evalE, ev2, evM, evLm, evVar, evCon, strV, h1, h2, h3, h4, allocL, peek, Val.data]
theorem d_words {k : Nat} (hk : 3 ≤ k) {c : Nat} : Draws (fun m => R k 11 [.cell c, .d (.int 4)] m) c fun v => ∃ W : List Str, v = .d (.lst (W.map D.str)) ∧ Words W := by
  obtain ⟨k, rfl⟩ : ∃ j, k = j + 3 := ⟨k - 3, by omega⟩
  intro m0 m Q h q
  refine wp_run (f := f11) [some (.cell c), some (.d (.int 4)), none, none, none, none, none, none] rfl rfl rfl (x_par ?_)
  simp [AW.evT, AW.lift_some, AW.Out.bind_ok, AW.evLb, AW.evalE, AW.evalB, AW.evalEs, AW.evalO, AW.evalC, AW.evalL, AW.evalIt, AW.evOr, AW.evAnd, AW.evNot, AW.evIte, AW.evTup, AW.evLm, AW.evDisp, AW.evCall, AW.evCons, AW.evStar, AW.evNil, AW.evNoPart, AW.evDsp, AW.evPart, AW.evYes, AW.evSli, AW.ev1, AW.ev2, AW.evVar, AW.evCon, AW.cmpV, LK.cLt, LK.cLe, LK.cGt, LK.cGe, AW.Val.datas, AW.allocL, AW.wp_bind, AW.wp_ok, AW.wp_ite, AW.evChain, AW.Tg.slots, LK.gv_MAX_LETTERS, LK.gv_KEYWORDS, LK.gv_MAX_PARAMETERS, LK.gv_MAX_OPERANDS, LK.gv_MAX_NODES, LK.gv_LAZY, LK.gv_STRICT, LK.gv_LEAVES, AW.idxL0, AW.idxL1, AW.idxL2, AW.idxL3, AW.idxL4, AW.idxD_0, AW.idxD_1, AW.sl_lst, AW.sl_tup, AW.ix_some, AW.i_non_bool, AW.i_non_int, AW.i_non_str, AW.i_non_tuple, AW.i_non_list, AW.i_non_dict, AW.i_bl_bool, AW.i_bl_int, AW.i_bl_str, AW.i_bl_tuple, AW.i_bl_list, AW.i_bl_dict, AW.i_int_bool, AW.i_int_int, AW.i_int_str, AW.i_int_tuple, AW.i_int_list, AW.i_int_dict, AW.i_str_bool, AW.i_str_int, AW.i_str_str, AW.i_str_tuple, AW.i_str_list, AW.i_str_dict, AW.i_tup_bool, AW.i_tup_int, AW.i_tup_str, AW.i_tup_tuple, AW.i_tup_list, AW.i_tup_dict, AW.i_lst_bool, AW.i_lst_int, AW.i_lst_str, AW.i_lst_tuple, AW.i_lst_list, AW.i_lst_dict, AW.i_dct_bool, AW.i_dct_int, AW.i_dct_str, AW.i_dct_tuple, AW.i_dct_list, AW.i_dct_dict, AW.t_non, AW.t_bl, AW.t_int, AW.t_tup, AW.t_lst, AW.pk_d, AW.pk_c, AW.tv_d, AW.ln_tup, AW.ln_lst, AW.ln_str, AW.b_len, AW.b_len2, AW.b_len3, AW.b_abs, AW.b_dlen, AW.b_all, AW.b_any, AW.b_int, AW.b_intb, AW.b_tupl, AW.b_tupt, AW.dt_d, sm]
  refine ⟨_, rfl, ?_⟩
  obtain ⟨xs, m1, e1, x4, xn, xl, s1⟩ := someE (k := k + 2) (by omega) [.lst []] h
  have e2 : evalIt tab.gvals (R (k + 2)) (.seq (.call 10 (.cons (.var 0) (.cons (.var 4) (.cons (.var 1) .nil))))) [some (.cell c), some (.d (.int 4)), none, some (.cell m.length), some (.d (.str abcS)), none, none, none] (m ++ [.lst []]) = .ok (xs.map fun x => D.str (sg x)) (m1 ++ [.lst []]) := by
    simp [AW.evT, AW.lift_some, AW.Out.bind_ok, AW.evLb, AW.evalE, AW.evalB, AW.evalEs, AW.evalO, AW.evalC, AW.evalL, AW.evalIt, AW.evOr, AW.evAnd, AW.evNot, AW.evIte, AW.evTup, AW.evLm, AW.evDisp, AW.evCall, AW.evCons, AW.evStar, AW.evNil, AW.evNoPart, AW.evDsp, AW.evPart, AW.evYes, AW.evSli, AW.ev1, AW.ev2, AW.evVar, AW.evCon, AW.cmpV, LK.cLt, LK.cLe, LK.cGt, LK.cGe, AW.Val.datas, AW.allocL, AW.wp_bind, AW.wp_ok, AW.wp_ite, AW.evChain, AW.Tg.slots, LK.gv_MAX_LETTERS, LK.gv_KEYWORDS, LK.gv_MAX_PARAMETERS, LK.gv_MAX_OPERANDS, LK.gv_MAX_NODES, LK.gv_LAZY, LK.gv_STRICT, LK.gv_LEAVES, AW.idxL0, AW.idxL1, AW.idxL2, AW.idxL3, AW.idxL4, AW.idxD_0, AW.idxD_1, AW.sl_lst, AW.sl_tup, AW.ix_some, AW.i_non_bool, AW.i_non_int, AW.i_non_str, AW.i_non_tuple, AW.i_non_list, AW.i_non_dict, AW.i_bl_bool, AW.i_bl_int, AW.i_bl_str, AW.i_bl_tuple, AW.i_bl_list, AW.i_bl_dict, AW.i_int_bool, AW.i_int_int, AW.i_int_str, AW.i_int_tuple, AW.i_int_list, AW.i_int_dict, AW.i_str_bool, AW.i_str_int, AW.i_str_str, AW.i_str_tuple, AW.i_str_list, AW.i_str_dict, AW.i_tup_bool, AW.i_tup_int, AW.i_tup_str, AW.i_tup_tuple, AW.i_tup_list, AW.i_tup_dict, AW.i_lst_bool, AW.i_lst_int, AW.i_lst_str, AW.i_lst_tuple, AW.i_lst_list, AW.i_lst_dict, AW.i_dct_bool, AW.i_dct_int, AW.i_dct_str, AW.i_dct_tuple, AW.i_dct_list, AW.i_dct_dict, AW.t_non, AW.t_bl, AW.t_int, AW.t_tup, AW.t_lst, AW.pk_d, AW.pk_c, AW.tv_d, AW.ln_tup, AW.ln_lst, AW.ln_str, AW.b_len, AW.b_len2, AW.b_len3, AW.b_abs, AW.b_dlen, AW.b_all, AW.b_any, AW.b_int, AW.b_intb, AW.b_tupl, AW.b_tupt, AW.dt_d, itSeq, e1, seqD]
  refine x_forI (WdI m0 m c xs) e2 ⟨none, none, none, m1, [], xs, [], rfl, rfl, s1, rfl, rfl, rfl, by simp⟩ ?_ ?_
  · rintro d rest ρ M ⟨u2, u5, u6, m2, done, left, W, rfl, rfl, s2, hx, hr, hw, hn⟩
    cases left with
    | nil => cases hr
    | cons x left =>
      cases hr
      have hxl : low x = true := xl x (by rw [hx]; simp)
      have hdl : done.length ≤ 4 := by rw [← x4, hx]; simp
      have lm2 : m2.length = m.length := by rw [s2.len, h.len]
      refine ⟨_, rfl, x_asg ?_⟩
      obtain ⟨d3, m3, e3, hd3, s3⟩ := pickE (k := k + 2) (by omega) (ds := [.int 0, .int 0, .int 0, .int 0, .int 1, .int 2, .int 4, .int 7]) (by simp) (by simp) [.lst (W.map D.str)] s2
      obtain ⟨j, rfl, hj⟩ : ∃ j : Nat, d3 = .int (j : Int) ∧ j ≤ 7 := by
        simp only [List.mem_cons, List.not_mem_nil, or_false] at hd3
        rcases hd3 with rfl | rfl | rfl | rfl | rfl | rfl | rfl | rfl
        · exact ⟨0, rfl, by omega⟩
        · exact ⟨0, rfl, by omega⟩
        · exact ⟨0, rfl, by omega⟩
        · exact ⟨0, rfl, by omega⟩
        · exact ⟨1, rfl, by omega⟩
        · exact ⟨2, rfl, by omega⟩
        · exact ⟨4, rfl, by omega⟩
        · exact ⟨7, rfl, by omega⟩
      simp [AW.evT, AW.lift_some, AW.Out.bind_ok, AW.evLb, AW.evalE, AW.evalB, AW.evalEs, AW.evalO, AW.evalC, AW.evalL, AW.evalIt, AW.evOr, AW.evAnd, AW.evNot, AW.evIte, AW.evTup, AW.evLm, AW.evDisp, AW.evCall, AW.evCons, AW.evStar, AW.evNil, AW.evNoPart, AW.evDsp, AW.evPart, AW.evYes, AW.evSli, AW.ev1, AW.ev2, AW.evVar, AW.evCon, AW.cmpV, LK.cLt, LK.cLe, LK.cGt, LK.cGe, AW.Val.datas, AW.allocL, AW.wp_bind, AW.wp_ok, AW.wp_ite, AW.evChain, AW.Tg.slots, LK.gv_MAX_LETTERS, LK.gv_KEYWORDS, LK.gv_MAX_PARAMETERS, LK.gv_MAX_OPERANDS, LK.gv_MAX_NODES, LK.gv_LAZY, LK.gv_STRICT, LK.gv_LEAVES, AW.idxL0, AW.idxL1, AW.idxL2, AW.idxL3, AW.idxL4, AW.idxD_0, AW.idxD_1, AW.sl_lst, AW.sl_tup, AW.ix_some, AW.i_non_bool, AW.i_non_int, AW.i_non_str, AW.i_non_tuple, AW.i_non_list, AW.i_non_dict, AW.i_bl_bool, AW.i_bl_int, AW.i_bl_str, AW.i_bl_tuple, AW.i_bl_list, AW.i_bl_dict, AW.i_int_bool, AW.i_int_int, AW.i_int_str, AW.i_int_tuple, AW.i_int_list, AW.i_int_dict, AW.i_str_bool, AW.i_str_int, AW.i_str_str, AW.i_str_tuple, AW.i_str_list, AW.i_str_dict, AW.i_tup_bool, AW.i_tup_int, AW.i_tup_str, AW.i_tup_tuple, AW.i_tup_list, AW.i_tup_dict, AW.i_lst_bool, AW.i_lst_int, AW.i_lst_str, AW.i_lst_tuple, AW.i_lst_list, AW.i_lst_dict, AW.i_dct_bool, AW.i_dct_int, AW.i_dct_str, AW.i_dct_tuple, AW.i_dct_list, AW.i_dct_dict, AW.t_non, AW.t_bl, AW.t_int, AW.t_tup, AW.t_lst, AW.pk_d, AW.pk_c, AW.tv_d, AW.ln_tup, AW.ln_lst, AW.ln_str, AW.b_len, AW.b_len2, AW.b_len3, AW.b_abs, AW.b_dlen, AW.b_all, AW.b_any, AW.b_int, AW.b_intb, AW.b_tupl, AW.b_tupt, AW.dt_d, sm, e3]
      obtain ⟨row, m4, e4, hrow, hl4, s4⟩ := lc_draw (P := fun d => ∃ x, d = .str (sg x) ∧ low x = true) (q := 7) (n := j) (l := [.lst (W.map D.str)]) (oi := itRng1 (evVar 5)) (oe := evCall (R (k + 2) 9) (evCons (evVar 0) (evCons (evVar 4) evNil))) (ρ := [some (.cell c), some (.d (.int 4)), some (.d (.str (sg x))), some (.cell m.length), some (.d (.str abcS)), some (.d (.int (j : Int))), u6, none]) s3 (by omega) (rng_int j (by omega) (by omega) _ _ _ _ rfl) fun m5 d' s5 => by
        obtain ⟨y, m6, e6, hy, s6⟩ := pickSE (k := k + 2) (by omega) [.lst (W.map D.str)] s5
        exact ⟨_, m6, by simp [evCall, evCons, evVar, evNil, e6], ⟨y, rfl, hy⟩, s6⟩
      obtain ⟨cs, rfl, hcs⟩ := rows_sg hrow
      have hcl : cs.length = j := by simpa using hl4
      have ej : m1D .join (Str.ofString "") (.lst (cs.map fun x => D.str (sg x))) = some (.str (Txt.join (Str.ofString "") (cs.map sg))) := by
        show (strsD (cs.map fun x => D.str (sg x))).bind _ = _
        rw [strs_sg, Option.bind_some, sum_sg]
        have : (Str.ofString "").length = 0 := by decide
        rw [this, if_pos (by simp; omega)]
      have hjl := join_sg cs
      generalize Txt.join (Str.ofString "") (cs.map sg) = jw at ej hjl
      have hjw : jw.length = j := by
        show jw.cps.size = _
        rw [← Array.length_toList, hjl, hcl]
      have lw : (sg x).length = 1 := rfl
      have ea := add_s (a := sg x) (b := jw) (by rw [lw, hjw]; omega)
      refine x_asgE (ev_join rfl (by simp only [evalL, evalIt, evalC, evalE, evalEs]; exact e4) ej ea) ?_
      simp only [List.set_cons_succ, List.set_cons_zero]
      have hww : (sg x ++ jw).cps.toList = x :: cs := by
        show ((sg x).cps ++ jw.cps).toList = _
        rw [Array.toList_append, hjl]; rfl
      have lm4 : m4.length = m.length := by rw [s4.len, h.len]
      have hsz : W.length < sizeLine := by
        have : W.length = done.length := by simpa using congrArg List.length hw
        rw [sl]; omega
      have close : ∀ w : Str, Wd x w → WdI m0 m c xs (left.map fun x => D.str (sg x)) [some (.cell c), some (.d (.int 4)), some (.d (.str (sg x))), some (.cell m.length), some (.d (.str abcS)), some (.d (.int (j : Int))), some (.d (.str (sg x ++ jw))), none] (m4 ++ [.lst (W.map D.str ++ [.str w])]) := fun w hwd =>
        ⟨_, _, _, m4, done ++ [x], left, W ++ [w], rfl, by simp, s4, by simp [hx], rfl, by
          rw [List.map_append, List.map_append, hw]
          show _ ++ [hd w] = _
          rw [show hd w = some x from hwd.2]; rfl, fun y hy => by
          rcases List.mem_append.mp hy with hy | hy
          · exact hn y hy
          · rw [List.mem_singleton.mp hy]; exact hwd.1⟩
      have hin : cmpD .In (.str (sg x ++ jw)) (.tup [.str "do", .str "test", .str "value", .str "fail"]) = some (decide (sg x ++ jw ∈ kwl)) := in_tup (sg x ++ jw) kwl
      refine x_expr ?_
      by_cases hk' : (sg x ++ jw) ∈ kwl
      · rw [decide_eq_true hk'] at hin
        simp [AW.evT, AW.lift_some, AW.Out.bind_ok, AW.evLb, AW.evalE, AW.evalB, AW.evalEs, AW.evalO, AW.evalC, AW.evalL, AW.evalIt, AW.evOr, AW.evAnd, AW.evNot, AW.evIte, AW.evTup, AW.evLm, AW.evDisp, AW.evCall, AW.evCons, AW.evStar, AW.evNil, AW.evNoPart, AW.evDsp, AW.evPart, AW.evYes, AW.evSli, AW.ev1, AW.ev2, AW.evVar, AW.evCon, AW.cmpV, LK.cLt, LK.cLe, LK.cGt, LK.cGe, AW.Val.datas, AW.allocL, AW.wp_bind, AW.wp_ok, AW.wp_ite, AW.evChain, AW.Tg.slots, LK.gv_MAX_LETTERS, LK.gv_KEYWORDS, LK.gv_MAX_PARAMETERS, LK.gv_MAX_OPERANDS, LK.gv_MAX_NODES, LK.gv_LAZY, LK.gv_STRICT, LK.gv_LEAVES, AW.idxL0, AW.idxL1, AW.idxL2, AW.idxL3, AW.idxL4, AW.idxD_0, AW.idxD_1, AW.sl_lst, AW.sl_tup, AW.ix_some, AW.i_non_bool, AW.i_non_int, AW.i_non_str, AW.i_non_tuple, AW.i_non_list, AW.i_non_dict, AW.i_bl_bool, AW.i_bl_int, AW.i_bl_str, AW.i_bl_tuple, AW.i_bl_list, AW.i_bl_dict, AW.i_int_bool, AW.i_int_int, AW.i_int_str, AW.i_int_tuple, AW.i_int_list, AW.i_int_dict, AW.i_str_bool, AW.i_str_int, AW.i_str_str, AW.i_str_tuple, AW.i_str_list, AW.i_str_dict, AW.i_tup_bool, AW.i_tup_int, AW.i_tup_str, AW.i_tup_tuple, AW.i_tup_list, AW.i_tup_dict, AW.i_lst_bool, AW.i_lst_int, AW.i_lst_str, AW.i_lst_tuple, AW.i_lst_list, AW.i_lst_dict, AW.i_dct_bool, AW.i_dct_int, AW.i_dct_str, AW.i_dct_tuple, AW.i_dct_list, AW.i_dct_dict, AW.t_non, AW.t_bl, AW.t_int, AW.t_tup, AW.t_lst, AW.pk_d, AW.pk_c, AW.tv_d, AW.ln_tup, AW.ln_lst, AW.ln_str, AW.b_len, AW.b_len2, AW.b_len3, AW.b_abs, AW.b_dlen, AW.b_all, AW.b_any, AW.b_int, AW.b_intb, AW.b_tupl, AW.b_tupt, AW.dt_d, evApp, cellL, g10 lm4, sm, hin, appC, hsz, t10 lm4]
        exact x_nil (close _ (wd_one hxl))
      · rw [decide_eq_false hk'] at hin
        simp [AW.evT, AW.lift_some, AW.Out.bind_ok, AW.evLb, AW.evalE, AW.evalB, AW.evalEs, AW.evalO, AW.evalC, AW.evalL, AW.evalIt, AW.evOr, AW.evAnd, AW.evNot, AW.evIte, AW.evTup, AW.evLm, AW.evDisp, AW.evCall, AW.evCons, AW.evStar, AW.evNil, AW.evNoPart, AW.evDsp, AW.evPart, AW.evYes, AW.evSli, AW.ev1, AW.ev2, AW.evVar, AW.evCon, AW.cmpV, LK.cLt, LK.cLe, LK.cGt, LK.cGe, AW.Val.datas, AW.allocL, AW.wp_bind, AW.wp_ok, AW.wp_ite, AW.evChain, AW.Tg.slots, LK.gv_MAX_LETTERS, LK.gv_KEYWORDS, LK.gv_MAX_PARAMETERS, LK.gv_MAX_OPERANDS, LK.gv_MAX_NODES, LK.gv_LAZY, LK.gv_STRICT, LK.gv_LEAVES, AW.idxL0, AW.idxL1, AW.idxL2, AW.idxL3, AW.idxL4, AW.idxD_0, AW.idxD_1, AW.sl_lst, AW.sl_tup, AW.ix_some, AW.i_non_bool, AW.i_non_int, AW.i_non_str, AW.i_non_tuple, AW.i_non_list, AW.i_non_dict, AW.i_bl_bool, AW.i_bl_int, AW.i_bl_str, AW.i_bl_tuple, AW.i_bl_list, AW.i_bl_dict, AW.i_int_bool, AW.i_int_int, AW.i_int_str, AW.i_int_tuple, AW.i_int_list, AW.i_int_dict, AW.i_str_bool, AW.i_str_int, AW.i_str_str, AW.i_str_tuple, AW.i_str_list, AW.i_str_dict, AW.i_tup_bool, AW.i_tup_int, AW.i_tup_str, AW.i_tup_tuple, AW.i_tup_list, AW.i_tup_dict, AW.i_lst_bool, AW.i_lst_int, AW.i_lst_str, AW.i_lst_tuple, AW.i_lst_list, AW.i_lst_dict, AW.i_dct_bool, AW.i_dct_int, AW.i_dct_str, AW.i_dct_tuple, AW.i_dct_list, AW.i_dct_dict, AW.t_non, AW.t_bl, AW.t_int, AW.t_tup, AW.t_lst, AW.pk_d, AW.pk_c, AW.tv_d, AW.ln_tup, AW.ln_lst, AW.ln_str, AW.b_len, AW.b_len2, AW.b_len3, AW.b_abs, AW.b_dlen, AW.b_all, AW.b_any, AW.b_int, AW.b_intb, AW.b_tupl, AW.b_tupt, AW.dt_d, evApp, cellL, g10 lm4, sm, hin, appC, hsz, t10 lm4]
        exact x_nil (close _ (wd_many hww hxl hcs (by omega) fun q => hk' ((kwl_iff _).mpr q)))
  · rintro ρ M ⟨u2, u5, u6, m2, done, left, W, rfl, rfl, s2, hx, hr, hw, hn⟩
    have lm2 : m2.length = m.length := by rw [s2.len, h.len]
    have el : left = [] := by cases left <;> simp at hr; rfl
    subst el
    rw [List.append_nil] at hx
    subst hx
    refine x_ret ?_
    simp [AW.evT, AW.lift_some, AW.Out.bind_ok, AW.evLb, AW.evalE, AW.evalB, AW.evalEs, AW.evalO, AW.evalC, AW.evalL, AW.evalIt, AW.evOr, AW.evAnd, AW.evNot, AW.evIte, AW.evTup, AW.evLm, AW.evDisp, AW.evCall, AW.evCons, AW.evStar, AW.evNil, AW.evNoPart, AW.evDsp, AW.evPart, AW.evYes, AW.evSli, AW.ev1, AW.ev2, AW.evVar, AW.evCon, AW.cmpV, LK.cLt, LK.cLe, LK.cGt, LK.cGe, AW.Val.datas, AW.allocL, AW.wp_bind, AW.wp_ok, AW.wp_ite, AW.evChain, AW.Tg.slots, LK.gv_MAX_LETTERS, LK.gv_KEYWORDS, LK.gv_MAX_PARAMETERS, LK.gv_MAX_OPERANDS, LK.gv_MAX_NODES, LK.gv_LAZY, LK.gv_STRICT, LK.gv_LEAVES, AW.idxL0, AW.idxL1, AW.idxL2, AW.idxL3, AW.idxL4, AW.idxD_0, AW.idxD_1, AW.sl_lst, AW.sl_tup, AW.ix_some, AW.i_non_bool, AW.i_non_int, AW.i_non_str, AW.i_non_tuple, AW.i_non_list, AW.i_non_dict, AW.i_bl_bool, AW.i_bl_int, AW.i_bl_str, AW.i_bl_tuple, AW.i_bl_list, AW.i_bl_dict, AW.i_int_bool, AW.i_int_int, AW.i_int_str, AW.i_int_tuple, AW.i_int_list, AW.i_int_dict, AW.i_str_bool, AW.i_str_int, AW.i_str_str, AW.i_str_tuple, AW.i_str_list, AW.i_str_dict, AW.i_tup_bool, AW.i_tup_int, AW.i_tup_str, AW.i_tup_tuple, AW.i_tup_list, AW.i_tup_dict, AW.i_lst_bool, AW.i_lst_int, AW.i_lst_str, AW.i_lst_tuple, AW.i_lst_list, AW.i_lst_dict, AW.i_dct_bool, AW.i_dct_int, AW.i_dct_str, AW.i_dct_tuple, AW.i_dct_list, AW.i_dct_dict, AW.t_non, AW.t_bl, AW.t_int, AW.t_tup, AW.t_lst, AW.pk_d, AW.pk_c, AW.tv_d, AW.ln_tup, AW.ln_lst, AW.ln_str, AW.b_len, AW.b_len2, AW.b_len3, AW.b_abs, AW.b_dlen, AW.b_all, AW.b_any, AW.b_int, AW.b_intb, AW.b_tupl, AW.b_tupt, AW.dt_d]
    refine fin_cell (by omega) (g10 lm2) ?_
    rw [← lm2, List.take_left' rfl]
    refine q _ _ ⟨W, rfl, ?_, nd_hd hw xn, hn⟩ s2
    have : W.length = xs.length := by simpa using congrArg List.length hw
    omega
end LK
set_option maxRecDepth 100000
set_option maxHeartbeats 4000000
namespace LK
open PySem AW
theorem name_ok {n : D} (h : isName n = true) : okS n := by
  cases n with
  | str s => exact Nat.le_trans (nameS_len h) (by omega)
  | _ => trivial
theorem name_str {n : D} (h : isName n = true) : ∃ s, n = .str s ∧ nameS s = true := by
  cases n with
  | str s => exact ⟨s, rfl, h⟩
  | _ => cases h
theorem lvs_len {s : Str} (h : s ∈ lvs) : s.length ≤ 10000 := by
  have : ∀ s ∈ lvs, s.length ≤ 10 := by decide +kernel
  have := this s h
  omega
theorem way_ok {w : D} (h : wayB w = true) : okS w := by
  cases w with
  | str s =>
    simp only [wayB, Bool.or_eq_true, decide_eq_true_eq] at h
    rcases h with rfl | rfl
    · exact (by decide +kernel : (Str.ofString "lazy").length ≤ 10000)
    · exact (by decide +kernel : (Str.ofString "strict").length ≤ 10000)
  | _ => trivial
theorem l_use : okS (.str "use") := (by decide +kernel : (Str.ofString "use").length ≤ 10000)
theorem l_do : okS (.str "do") := (by decide +kernel : (Str.ofString "do").length ≤ 10000)
theorem l_call : okS (.str "call") := (by decide +kernel : (Str.ofString "call").length ≤ 10000)
theorem node_tup {d : D} (h : nodeB d = true) : ∃ ds, d = .tup ds ∧ ds ≠ [] ∧ ds.length ≤ 3 ∧ (∀ x ∈ ds, okS x) ∧ ∀ x ∈ ds, okN1 x := by
  rcases node_kinds h with ⟨s, rfl, hs⟩ | ⟨n, rfl, hn⟩ | ⟨n, i, rfl, hn, h0, h3⟩ | ⟨n, ws, rfl, hn, hl, hw⟩
  · refine ⟨_, rfl, by simp, by simp, fun x hx => ?_, fun x hx => ?_⟩ <;> (rw [List.mem_singleton.mp hx]; exact lvs_len hs)
  · obtain ⟨s, rfl, hs⟩ := name_str hn
    refine ⟨_, rfl, by simp, by simp, fun x hx => ?_, fun x hx => ?_⟩ <;> (simp only [List.mem_cons, List.not_mem_nil, or_false] at hx; rcases hx with rfl | rfl)
    · exact l_use
    · exact name_ok hn
    · exact l_use
    · exact name_ok hn
  · obtain ⟨s, rfl, hs⟩ := name_str hn
    refine ⟨_, rfl, by simp, by simp, fun x hx => ?_, fun x hx => ?_⟩ <;> (simp only [List.mem_cons, List.not_mem_nil, or_false] at hx; rcases hx with rfl | rfl | rfl)
    · exact l_do
    · exact name_ok hn
    · trivial
    · exact l_do
    · exact name_ok hn
    · trivial
  · obtain ⟨s, rfl, hs⟩ := name_str hn
    refine ⟨_, rfl, by simp, by simp, fun x hx => ?_, fun x hx => ?_⟩ <;> (simp only [List.mem_cons, List.not_mem_nil, or_false] at hx; rcases hx with rfl | rfl | rfl)
    · exact l_call
    · exact name_ok hn
    · trivial
    · exact l_call
    · exact name_ok hn
    · exact fun w hw' => way_ok (List.all_eq_true.mp hw w hw')
theorem node_ok {d : D} (h : nodeB d = true) : okN1 d := by
  obtain ⟨ds, rfl, _, _, h1, _⟩ := node_tup h; exact h1
theorem node_okB {d : D} (h : nodeB d = true) : okB d := by
  obtain ⟨ds, rfl, _, _, _, h2⟩ := node_tup h; exact h2
theorem node_okS {d : D} (h : nodeB d = true) : okS d := by
  obtain ⟨ds, rfl, _⟩ := node_tup h; trivial
theorem okS_N {d : D} (h : okN1 d) : okS d := by
  cases d with
  | tup _ => trivial
  | _ => exact h
theorem nb_use {w : Str} (h : nameS w = true) : nodeB (.tup [.str "use", .str w]) = true := by
  show (decide ((Str.ofString "use") = Str.ofString "use") && isName (.str w)) = true
  simp [isName, h]
theorem nb_do {w : Str} {i : Int} (h : nameS w = true) (h0 : 0 ≤ i) (h3 : i ≤ 3) : nodeB (.tup [.str "do", .str w, .int i]) = true := by
  show node3 _ _ _ = true
  simp [node3, isName, h, intB, h0, h3]
theorem nb_call {w : Str} {ws : List D} (h : nameS w = true) (hl : ws.length ≤ 3) (hw : ∀ x ∈ ws, wayB x = true) : nodeB (.tup [.str "call", .str w, .tup ws]) = true := by
  show node3 _ _ _ = true
  have n4 : ¬ (Str.ofString "call" = Str.ofString "do") := by decide
  have ha : ws.all wayB = true := List.all_eq_true.mpr hw
  simp only [node3, if_neg n4, if_true, isName, h, waysB, ha, Bool.and_true, Bool.true_and]
  simpa using hl
theorem nb_value : nodeB (.tup [.str "value"]) = true := by decide +kernel
theorem nb_fail : nodeB (.tup [.str "fail"]) = true := by decide +kernel
theorem nb_test : nodeB (.tup [.str "test"]) = true := by decide +kernel
theorem add_l {a b : List D} (h : a.length + b.length ≤ 1000) : binD .Add (.lst a) (.lst b) = some (.lst (a ++ b)) := by
  show (if small (a.length + b.length) = true then _ else _) = _
  rw [if_pos (sm h)]
theorem add_t {a b : List D} (h : a.length + b.length ≤ 1000) : binD .Add (.tup a) (.tup b) = some (.tup (a ++ b)) := by
  show (if small (a.length + b.length) = true then _ else _) = _
  rw [if_pos (sm h)]
theorem lc_draw0 {P : D → Prop} {c q n : Nat} {m0 m' M : Store} {ρ : Ev} {oi : Ev → Store → Out (List D)} {oe : Ex} (s : Dc m0 c m') (hn : n ≤ 1000) (hoi : oi ρ M = .ok (rngD n) m')
    (step : ∀ (m1 : Store) (d' : D), Dc m0 c m1 → ∃ d m2, oe (ρ.set q (some (.d d'))) m1 = .ok (.d d) m2 ∧ P d ∧ Dc m0 c m2) : ∃ (row : List D) (m6 : Store), evLc oi (.name q) evYes oe ρ M = .ok row m6 ∧ (∀ d ∈ row, P d) ∧ row.length = n ∧ Dc m0 c m6 := by
  have := lc_draw (l := []) (P := P) (q := q) (oe := oe) s hn (by rw [List.append_nil]; exact hoi) (fun m1 d' s => by
    obtain ⟨d, m2, e, h⟩ := step m1 d' s
    exact ⟨d, m2, by rw [List.append_nil, List.append_nil]; exact e, h⟩)
  simpa using this
theorem ev_tupL {G : List D} {Φ : Fns} {ol : L} {ρ : Ev} {m m' : Store} {ds : List D} (h : evalL G Φ ol ρ m = .ok ds m') : evalE G Φ (.b1 .tuple (.lm false ol)) ρ m = .ok (.d (.tup ds)) m' := by
  simp [evalE, ev1, evLm, h, allocL, peek, b1D]
theorem ev_pick {G : List D} {Φ : Fns} {i c : Nat} {X : E} {ρ : Ev} {m m1 m2 : Store} {xs : D} {v : Val} (h1 : ρ[0]? = some (some (.cell c))) (hx : evalE G Φ X ρ m = .ok (.d xs) m1) (hc : Φ i [.cell c, .d xs] m1 = .ok v m2) : evalE G Φ (.call i (.cons (.var 0) (.cons X .nil))) ρ m = .ok v m2 := by
  simp [evalE, evalEs, evCall, evCons, evNil, evVar, h1, hx, hc]
theorem ev_one {G : List D} {Φ : Fns} {e : E} {ρ : Ev} {m m1 : Store} {d : D} (h : evalE G Φ e ρ m = .ok (.d d) m1) : evalE G Φ (.lm false (.disp (.cons e .nil))) ρ m = .ok (.d (.lst [d])) m1 := by
  simp [evalE, evalEs, evalL, evLm, evDisp, evCons, evNil, h, Val.datas, Val.data, sm, allocL]
theorem ev_addv {G : List D} {Φ : Fns} {i : Nat} {X : E} {ρ : Ev} {m m1 : Store} {a b z : D} (h1 : ρ[i]? = some (some (.d a))) (hx : evalE G Φ X ρ m = .ok (.d b) m1) (hz : binD .Add a b = some z) : evalE G Φ (.bin .Add (.var i) X) ρ m = .ok (.d z) m1 := by
  simp [evalE, ev2, evVar, h1, hx, hz, peek]
/-! ### leaves -/
theorem d_leaf {k : Nat} (hk : 3 ≤ k) {c : Nat} {w0 w1 w2 w3 : Str} (hw : ∀ w ∈ [w0, w1, w2, w3], nameS w = true) : Draws (fun m => R k 12 [.cell c, .d (.lst [.str w0, .str w1, .str w2, .str w3])] m) c fun v => ∃ d, v = .d (.lst [d]) ∧ nodeB d = true ∧ arity d = 0 := by
  obtain ⟨k, rfl⟩ : ∃ j, k = j + 3 := ⟨k - 3, by omega⟩
  intro m0 m Q h q
  refine wp_run (f := f12) [some (.cell c), some (.d (.lst [.str w0, .str w1, .str w2, .str w3])), none] rfl rfl rfl (x_ret ?_)
  have lc : evLc (itSeq (evVar 1)) (.name 2) evYes (evTup (evCons (evCon (.str "use")) (evCons (evVar 2) evNil))) [some (.cell c), some (.d (.lst [.str w0, .str w1, .str w2, .str w3])), none] m = .ok ([w0, w1, w2, w3].map fun w => D.tup [.str "use", .str w]) m :=
    lc_map D.str (fun w => D.tup [.str "use", .str w]) (by simp [itSeq, evVar, Val.data, seqD]) (fun w _ => by simp [lcTurn, bindT, evYes, evTup, evCons, evCon, evVar, evNil, Val.datas, Val.data, sm]) (by simp)
  have er : (List.replicate 2 ([w0, w1, w2, w3].map fun w => D.tup [.str "use", .str w])).flatten = ([w0, w1, w2, w3] ++ [w0, w1, w2, w3]).map fun w => D.tup [.str "use", .str w] := rfl
  obtain ⟨d, m', e, hd, s⟩ := pickE0 (k := k + 2) (by omega) (ds := (([w0, w1, w2, w3] ++ [w0, w1, w2, w3]).map fun w => D.tup [.str "use", .str w]) ++ [.tup [.str "value"], .tup [.str "value"], .tup [.str "fail"]]) (by simp) (by simp) h
  have el : evalE tab.gvals (R (k + 2)) (.bin .Add (.lm false (.rep (.lc (.seq (.var 1)) (.name 2) .no (.tup (.cons (.con (.str "use")) (.cons (.var 2) .nil)))) 2)) (.lm false (.disp (.cons (.tup (.cons (.con (.str "value")) .nil)) (.cons (.tup (.cons (.con (.str "value")) .nil)) (.cons (.tup (.cons (.con (.str "fail")) .nil)) .nil)))))) [some (.cell c), some (.d (.lst [.str w0, .str w1, .str w2, .str w3])), none] m = .ok (.d (.lst ((([w0, w1, w2, w3] ++ [w0, w1, w2, w3]).map fun w => D.tup [.str "use", .str w]) ++ [.tup [.str "value"], .tup [.str "value"], .tup [.str "fail"]]))) m := by
    have ea := add_l (a := ([w0, w1, w2, w3] ++ [w0, w1, w2, w3]).map fun w => D.tup [.str "use", .str w]) (b := [.tup [.str "value"], .tup [.str "value"], .tup [.str "fail"]]) (by simp)
    have r1 : evRep 2 (evLc (itSeq (evVar 1)) (.name 2) evYes (evTup (evCons (evCon (.str "use")) (evCons (evVar 2) evNil)))) [some (.cell c), some (.d (.lst [.str w0, .str w1, .str w2, .str w3])), none] m = .ok (([w0, w1, w2, w3] ++ [w0, w1, w2, w3]).map fun w => D.tup [.str "use", .str w]) m := by
      unfold evRep
      rw [lc, Out.bind_ok, er]
      rfl
    simp only [evalE, evalEs, evalL, evalIt, evalC]
    generalize (([w0, w1, w2, w3] ++ [w0, w1, w2, w3]).map fun w => D.tup [.str "use", .str w]) = xs at r1 ea ⊢
    simp [AW.evT, AW.lift_some, AW.Out.bind_ok, AW.evLb, AW.evalE, AW.evalB, AW.evalEs, AW.evalO, AW.evalC, AW.evalL, AW.evalIt, AW.evOr, AW.evAnd, AW.evNot, AW.evIte, AW.evTup, AW.evLm, AW.evDisp, AW.evCall, AW.evCons, AW.evStar, AW.evNil, AW.evNoPart, AW.evDsp, AW.evPart, AW.evYes, AW.evSli, AW.ev1, AW.ev2, AW.evVar, AW.evCon, AW.cmpV, LK.cLt, LK.cLe, LK.cGt, LK.cGe, AW.Val.datas, AW.allocL, AW.wp_bind, AW.wp_ok, AW.wp_ite, AW.evChain, AW.Tg.slots, LK.gv_MAX_LETTERS, LK.gv_KEYWORDS, LK.gv_MAX_PARAMETERS, LK.gv_MAX_OPERANDS, LK.gv_MAX_NODES, LK.gv_LAZY, LK.gv_STRICT, LK.gv_LEAVES, AW.idxL0, AW.idxL1, AW.idxL2, AW.idxL3, AW.idxL4, AW.idxD_0, AW.idxD_1, AW.sl_lst, AW.sl_tup, AW.ix_some, AW.i_non_bool, AW.i_non_int, AW.i_non_str, AW.i_non_tuple, AW.i_non_list, AW.i_non_dict, AW.i_bl_bool, AW.i_bl_int, AW.i_bl_str, AW.i_bl_tuple, AW.i_bl_list, AW.i_bl_dict, AW.i_int_bool, AW.i_int_int, AW.i_int_str, AW.i_int_tuple, AW.i_int_list, AW.i_int_dict, AW.i_str_bool, AW.i_str_int, AW.i_str_str, AW.i_str_tuple, AW.i_str_list, AW.i_str_dict, AW.i_tup_bool, AW.i_tup_int, AW.i_tup_str, AW.i_tup_tuple, AW.i_tup_list, AW.i_tup_dict, AW.i_lst_bool, AW.i_lst_int, AW.i_lst_str, AW.i_lst_tuple, AW.i_lst_list, AW.i_lst_dict, AW.i_dct_bool, AW.i_dct_int, AW.i_dct_str, AW.i_dct_tuple, AW.i_dct_list, AW.i_dct_dict, AW.t_non, AW.t_bl, AW.t_int, AW.t_tup, AW.t_lst, AW.pk_d, AW.pk_c, AW.tv_d, AW.ln_tup, AW.ln_lst, AW.ln_str, AW.b_len, AW.b_len2, AW.b_len3, AW.b_abs, AW.b_dlen, AW.b_all, AW.b_any, AW.b_int, AW.b_intb, AW.b_tupl, AW.b_tupt, AW.dt_d, r1, sm, ea]
  have hn : nodeB d = true ∧ arity d = 0 := by
    rcases List.mem_append.mp hd with hd | hd
    · obtain ⟨w, hw', rfl⟩ := List.mem_map.mp hd
      have : w ∈ [w0, w1, w2, w3] := by
        rcases List.mem_append.mp hw' with z | z <;> exact z
      exact ⟨nb_use (hw w this), rfl⟩
    · simp only [List.mem_cons, List.not_mem_nil, or_false] at hd
      rcases hd with rfl | rfl | rfl
      · exact ⟨nb_value, by decide +kernel⟩
      · exact ⟨nb_value, by decide +kernel⟩
      · exact ⟨nb_fail, by decide +kernel⟩
  refine wp_is (ev_one (ev_pick rfl el e)) (fin_ret ?_)
  rw [s.takeS h]
  exact q _ _ ⟨d, rfl, hn⟩ s
end LK
set_option maxRecDepth 100000
set_option maxHeartbeats 4000000
namespace LK
open PySem AW
/-! ### nodes -/
theorem way_l : wayB (.str "lazy") = true := by decide +kernel
theorem way_s : wayB (.str "strict") = true := by decide +kernel
theorem d_node {k : Nat} (hk : 3 ≤ k) {c : Nat} {w0 w1 w2 w3 : Str} (hw : ∀ w ∈ [w0, w1, w2, w3], nameS w = true) : Draws (fun m => R k 17 [.cell c, .d (.lst [.str w0, .str w1, .str w2, .str w3])] m) c fun v => ∃ d, v = .d d ∧ nodeB d = true := by
  obtain ⟨k, rfl⟩ : ∃ j, k = j + 3 := ⟨k - 3, by omega⟩
  intro m0 m Q h q
  have hw0 := hw w0 (by simp)
  have hw1 := hw w1 (by simp)
  have hw2 := hw w2 (by simp)
  obtain ⟨r, m1, e1, r0, r1, s1⟩ := rollE0 (k := k + 2) (by omega) (n := 4) (by omega) (by omega) h
  obtain ⟨n, rfl⟩ : ∃ n : Nat, r = (n : Int) := ⟨r.toNat, by omega⟩
  obtain ⟨row, m2, e2, hrow, hl, s2⟩ := lc_draw0 (P := fun d => wayB d = true) (M := m) (q := 4) (n := n) (oi := itRng1 (evCall (R (k + 2) 8) (evCons (evVar 0) (evCons (evCon (.int 4)) evNil)))) (oe := evCall (R (k + 2) 9) (evCons (evVar 0) (evCons (evLm false (evDisp (evCons (evCon (.str "lazy")) (evCons (evCon (.str "strict")) evNil)))) evNil))) (ρ := [some (.cell c), some (.d (.lst [.str w0, .str w1, .str w2, .str w3])), none, none, none]) s1 (by omega) (rng_int n (by omega) (by omega) _ _ _ _ (by simp [evCall, evCons, evVar, evCon, evNil, e1])) fun m5 d' s5 => by
    obtain ⟨y, m6, e6, hy, s6⟩ := pickE0 (k := k + 2) (by omega) (ds := [.str "lazy", .str "strict"]) (by simp) (by simp) s5
    refine ⟨y, m6, by simp [evCall, evCons, evVar, evCon, evNil, evLm, evDisp, Val.datas, Val.data, sm, allocL, e6], ?_, s6⟩
    simp only [List.mem_cons, List.not_mem_nil, or_false] at hy
    rcases hy with rfl | rfl
    · exact way_l
    · exact way_s
  refine wp_run (f := f17) [some (.cell c), some (.d (.lst [.str w0, .str w1, .str w2, .str w3])), none, none, none] rfl rfl rfl (x_asgE (ev_tupL (by simp only [evalL, evalIt, evalC, evalE, evalEs]; exact e2)) ?_)
  simp only [List.set_cons_succ, List.set_cons_zero]
  obtain ⟨t, m3, e3, t0, t1, s3⟩ := rollE0 (k := k + 2) (by omega) (n := 4) (by omega) (by omega) s2
  refine x_asg ?_
  simp [AW.evT, AW.lift_some, AW.Out.bind_ok, AW.evLb, AW.evalE, AW.evalB, AW.evalEs, AW.evalO, AW.evalC, AW.evalL, AW.evalIt, AW.evOr, AW.evAnd, AW.evNot, AW.evIte, AW.evTup, AW.evLm, AW.evDisp, AW.evCall, AW.evCons, AW.evStar, AW.evNil, AW.evNoPart, AW.evDsp, AW.evPart, AW.evYes, AW.evSli, AW.ev1, AW.ev2, AW.evVar, AW.evCon, AW.cmpV, LK.cLt, LK.cLe, LK.cGt, LK.cGe, AW.Val.datas, AW.allocL, AW.wp_bind, AW.wp_ok, AW.wp_ite, AW.evChain, AW.Tg.slots, LK.gv_MAX_LETTERS, LK.gv_KEYWORDS, LK.gv_MAX_PARAMETERS, LK.gv_MAX_OPERANDS, LK.gv_MAX_NODES, LK.gv_LAZY, LK.gv_STRICT, LK.gv_LEAVES, AW.idxL0, AW.idxL1, AW.idxL2, AW.idxL3, AW.idxL4, AW.idxD_0, AW.idxD_1, AW.sl_lst, AW.sl_tup, AW.ix_some, AW.i_non_bool, AW.i_non_int, AW.i_non_str, AW.i_non_tuple, AW.i_non_list, AW.i_non_dict, AW.i_bl_bool, AW.i_bl_int, AW.i_bl_str, AW.i_bl_tuple, AW.i_bl_list, AW.i_bl_dict, AW.i_int_bool, AW.i_int_int, AW.i_int_str, AW.i_int_tuple, AW.i_int_list, AW.i_int_dict, AW.i_str_bool, AW.i_str_int, AW.i_str_str, AW.i_str_tuple, AW.i_str_list, AW.i_str_dict, AW.i_tup_bool, AW.i_tup_int, AW.i_tup_str, AW.i_tup_tuple, AW.i_tup_list, AW.i_tup_dict, AW.i_lst_bool, AW.i_lst_int, AW.i_lst_str, AW.i_lst_tuple, AW.i_lst_list, AW.i_lst_dict, AW.i_dct_bool, AW.i_dct_int, AW.i_dct_str, AW.i_dct_tuple, AW.i_dct_list, AW.i_dct_dict, AW.t_non, AW.t_bl, AW.t_int, AW.t_tup, AW.t_lst, AW.pk_d, AW.pk_c, AW.tv_d, AW.ln_tup, AW.ln_lst, AW.ln_str, AW.b_len, AW.b_len2, AW.b_len3, AW.b_abs, AW.b_dlen, AW.b_all, AW.b_any, AW.b_int, AW.b_intb, AW.b_tupl, AW.b_tupt, AW.dt_d, sm, e3]
  generalize hA : [D.tup [.str "use", .str w0], .tup [.str "value"], .tup [.str "fail"], .tup [.str "test"], .tup [.str "do", .str w1, .int t]] = A
  have hA5 : A.length = 5 := by rw [← hA]; rfl
  obtain ⟨d, m4, e4, hd, s4⟩ := pickE0 (k := k + 2) (by omega) (ds := A ++ [.tup [.str "call", .str w2, .tup row], .tup [.str "call", .str w0, .tup row], .tup [.str "do", .str w0, .int 0]]) (by simp) (by simp [hA5]) s3
  have e5 : evalE tab.gvals (R (k + 2)) (.lm false (.disp (.cons (.tup (.cons (.con (.str "call")) (.cons (.idx (.var 1) (.con (.int 2))) (.cons (.var 2) .nil)))) (.cons (.tup (.cons (.con (.str "call")) (.cons (.idx (.var 1) (.con (.int 0))) (.cons (.var 2) .nil)))) (.cons (.tup (.cons (.con (.str "do")) (.cons (.idx (.var 1) (.con (.int 0))) (.cons (.con (.int 0)) .nil)))) .nil))))) [some (.cell c), some (.d (.lst [.str w0, .str w1, .str w2, .str w3])), some (.d (.tup row)), some (.d (.lst A)), none] m3 = .ok (.d (.lst [.tup [.str "call", .str w2, .tup row], .tup [.str "call", .str w0, .tup row], .tup [.str "do", .str w0, .int 0]])) m3 := by simp [AW.evT, AW.lift_some, AW.Out.bind_ok, AW.evLb, AW.evalE, AW.evalB, AW.evalEs, AW.evalO, AW.evalC, AW.evalL, AW.evalIt, AW.evOr, AW.evAnd, AW.evNot, AW.evIte, AW.evTup, AW.evLm, AW.evDisp, AW.evCall, AW.evCons, AW.evStar, AW.evNil, AW.evNoPart, AW.evDsp, AW.evPart, AW.evYes, AW.evSli, AW.ev1, AW.ev2, AW.evVar, AW.evCon, AW.cmpV, LK.cLt, LK.cLe, LK.cGt, LK.cGe, AW.Val.datas, AW.allocL, AW.wp_bind, AW.wp_ok, AW.wp_ite, AW.evChain, AW.Tg.slots, LK.gv_MAX_LETTERS, LK.gv_KEYWORDS, LK.gv_MAX_PARAMETERS, LK.gv_MAX_OPERANDS, LK.gv_MAX_NODES, LK.gv_LAZY, LK.gv_STRICT, LK.gv_LEAVES, AW.idxL0, AW.idxL1, AW.idxL2, AW.idxL3, AW.idxL4, AW.idxD_0, AW.idxD_1, AW.sl_lst, AW.sl_tup, AW.ix_some, AW.i_non_bool, AW.i_non_int, AW.i_non_str, AW.i_non_tuple, AW.i_non_list, AW.i_non_dict, AW.i_bl_bool, AW.i_bl_int, AW.i_bl_str, AW.i_bl_tuple, AW.i_bl_list, AW.i_bl_dict, AW.i_int_bool, AW.i_int_int, AW.i_int_str, AW.i_int_tuple, AW.i_int_list, AW.i_int_dict, AW.i_str_bool, AW.i_str_int, AW.i_str_str, AW.i_str_tuple, AW.i_str_list, AW.i_str_dict, AW.i_tup_bool, AW.i_tup_int, AW.i_tup_str, AW.i_tup_tuple, AW.i_tup_list, AW.i_tup_dict, AW.i_lst_bool, AW.i_lst_int, AW.i_lst_str, AW.i_lst_tuple, AW.i_lst_list, AW.i_lst_dict, AW.i_dct_bool, AW.i_dct_int, AW.i_dct_str, AW.i_dct_tuple, AW.i_dct_list, AW.i_dct_dict, AW.t_non, AW.t_bl, AW.t_int, AW.t_tup, AW.t_lst, AW.pk_d, AW.pk_c, AW.tv_d, AW.ln_tup, AW.ln_lst, AW.ln_str, AW.b_len, AW.b_len2, AW.b_len3, AW.b_abs, AW.b_dlen, AW.b_all, AW.b_any, AW.b_int, AW.b_intb, AW.b_tupl, AW.b_tupt, AW.dt_d, sm]
  refine x_ret (wp_is (ev_pick rfl (ev_addv rfl e5 (add_l (by rw [hA5]; simp))) e4) (fin_ret ?_))
  subst hA
  rw [s4.takeS h]
  refine q _ _ ⟨d, rfl, ?_⟩ s4
  simp only [List.cons_append, List.nil_append, List.mem_cons, List.not_mem_nil, or_false] at hd
  have hl3 : row.length ≤ 3 := by omega
  rcases hd with rfl | rfl | rfl | rfl | rfl | rfl | rfl | rfl
  · exact nb_use hw0
  · exact nb_value
  · exact nb_fail
  · exact nb_test
  · exact nb_do hw1 t0 (by omega)
  · exact nb_call hw2 hl3 hrow
  · exact nb_call hw0 hl3 hrow
  · exact nb_do hw0 (by omega) (by omega)
end LK
set_option maxRecDepth 100000
set_option maxHeartbeats 4000000
namespace LK
open PySem AW
/-! ### odd values -/
def sB : D → Bool
  | .str s => decide (s.length ≤ 10000)
  | _ => true
def n1B : D → Bool
  | .tup ds => ds.all sB
  | d => sB d
def bB : D → Bool
  | .tup ds => ds.all n1B
  | _ => true
theorem sB_ok {d : D} (h : sB d = true) : okS d := by
  cases d with
  | str s => exact (of_decide_eq_true h : s.length ≤ 10000)
  | _ => trivial
theorem n1B_ok {d : D} (h : n1B d = true) : okN1 d := by
  cases d with
  | tup ds => exact fun x hx => sB_ok (List.all_eq_true.mp h x hx)
  | str s => exact sB_ok (d := .str s) h
  | _ => trivial
theorem bB_ok {d : D} (h : bB d = true) : okB d := by
  cases d with
  | tup ds => exact fun x hx => n1B_ok (List.all_eq_true.mp h x hx)
  | _ => trivial
def odds1 : List D := [.non, .int 0, .int 1, .int 3, .int 4, .int (-1), .bl true, .bl false, .str "", .str "use", .str "value", .str "do", .str "lazy", .str "early", .str "a", .str "abcdefghi", .tup [], .lst []]
def odds2 : List D := [.dct [] [], .tup [.str "lazy"], .lst [.str "lazy"], .tup [.str "lazy", .non], .tup [.str "strict", .str "strict", .str "strict", .str "strict"], .tup [.str "lazy", .lst []], .tup [.dct [] []], .int big60]
def odds3 : List D := [.tup [.str "value"], .tup [.str "test"], .tup [.str "use", .str "a"], .tup [.str "a"], .int 2]
theorem odds_ok : ∀ d ∈ odds1 ++ odds2 ++ odds3, n1B d = true ∧ bB d = true := by
  have h : (odds1 ++ odds2 ++ odds3).all (fun d => n1B d && bB d) = true := by decide +kernel
  intro d hd
  have := List.all_eq_true.mp h d hd
  simpa [Bool.and_eq_true] using this
theorem d_odd {k : Nat} (hk : 3 ≤ k) {c : Nat} : Draws (fun m => R k 18 [.cell c] m) c fun v => ∃ d, v = .d d ∧ okN1 d ∧ okB d := by
  obtain ⟨k, rfl⟩ : ∃ j, k = j + 3 := ⟨k - 3, by omega⟩
  intro m0 m Q h q
  refine wp_run (f := f18) [some (.cell c), none] rfl rfl rfl ?_
  refine x_asgE (v := .d (.lst odds1)) (m' := m) (by simp [AW.evT, AW.lift_some, AW.Out.bind_ok, AW.evLb, AW.evalE, AW.evalB, AW.evalEs, AW.evalO, AW.evalC, AW.evalL, AW.evalIt, AW.evOr, AW.evAnd, AW.evNot, AW.evIte, AW.evTup, AW.evLm, AW.evDisp, AW.evCall, AW.evCons, AW.evStar, AW.evNil, AW.evNoPart, AW.evDsp, AW.evPart, AW.evYes, AW.evSli, AW.ev1, AW.ev2, AW.evVar, AW.evCon, AW.cmpV, LK.cLt, LK.cLe, LK.cGt, LK.cGe, AW.Val.datas, AW.allocL, AW.wp_bind, AW.wp_ok, AW.wp_ite, AW.evChain, AW.Tg.slots, LK.gv_MAX_LETTERS, LK.gv_KEYWORDS, LK.gv_MAX_PARAMETERS, LK.gv_MAX_OPERANDS, LK.gv_MAX_NODES, LK.gv_LAZY, LK.gv_STRICT, LK.gv_LEAVES, AW.idxL0, AW.idxL1, AW.idxL2, AW.idxL3, AW.idxL4, AW.idxD_0, AW.idxD_1, AW.sl_lst, AW.sl_tup, AW.ix_some, AW.i_non_bool, AW.i_non_int, AW.i_non_str, AW.i_non_tuple, AW.i_non_list, AW.i_non_dict, AW.i_bl_bool, AW.i_bl_int, AW.i_bl_str, AW.i_bl_tuple, AW.i_bl_list, AW.i_bl_dict, AW.i_int_bool, AW.i_int_int, AW.i_int_str, AW.i_int_tuple, AW.i_int_list, AW.i_int_dict, AW.i_str_bool, AW.i_str_int, AW.i_str_str, AW.i_str_tuple, AW.i_str_list, AW.i_str_dict, AW.i_tup_bool, AW.i_tup_int, AW.i_tup_str, AW.i_tup_tuple, AW.i_tup_list, AW.i_tup_dict, AW.i_lst_bool, AW.i_lst_int, AW.i_lst_str, AW.i_lst_tuple, AW.i_lst_list, AW.i_lst_dict, AW.i_dct_bool, AW.i_dct_int, AW.i_dct_str, AW.i_dct_tuple, AW.i_dct_list, AW.i_dct_dict, AW.t_non, AW.t_bl, AW.t_int, AW.t_tup, AW.t_lst, AW.pk_d, AW.pk_c, AW.tv_d, AW.ln_tup, AW.ln_lst, AW.ln_str, AW.b_len, AW.b_len2, AW.b_len3, AW.b_abs, AW.b_dlen, AW.b_all, AW.b_any, AW.b_int, AW.b_intb, AW.b_tupl, AW.b_tupt, AW.dt_d, sm, negD, odds1]) ?_
  have e4 : binD .Mult (.tup [.str "strict"]) (.int 4) = some (.tup [.str "strict", .str "strict", .str "strict", .str "strict"]) := rfl
  have ea := add_l (a := odds1) (b := odds2) (by decide)
  have eb := add_l (a := odds1 ++ odds2) (b := odds3) (by decide)
  refine x_asgE (v := .d (.lst (odds1 ++ odds2))) (m' := m) (by
    have e2 : evalE tab.gvals (R (k + 2)) (.lm false (.disp (.cons .dict0 (.cons (.tup (.cons (.con (.str "lazy")) .nil)) (.cons (.lm false (.disp (.cons (.con (.str "lazy")) .nil))) (.cons (.tup (.cons (.con (.str "lazy")) (.cons (.con .non) .nil))) (.cons (.bin .Mult (.tup (.cons (.con (.str "strict")) .nil)) (.con (.int 4))) (.cons (.tup (.cons (.con (.str "lazy")) (.cons (.lm false (.disp .nil)) .nil))) (.cons (.tup (.cons .dict0 .nil)) (.cons (.bin .Pow (.con (.int 10)) (.con (.int 60))) .nil)))))))))) [some (.cell c), some (.d (.lst odds1))] m = .ok (.d (.lst odds2)) m := by simp [AW.evT, AW.lift_some, AW.Out.bind_ok, AW.evLb, AW.evalE, AW.evalB, AW.evalEs, AW.evalO, AW.evalC, AW.evalL, AW.evalIt, AW.evOr, AW.evAnd, AW.evNot, AW.evIte, AW.evTup, AW.evLm, AW.evDisp, AW.evCall, AW.evCons, AW.evStar, AW.evNil, AW.evNoPart, AW.evDsp, AW.evPart, AW.evYes, AW.evSli, AW.ev1, AW.ev2, AW.evVar, AW.evCon, AW.cmpV, LK.cLt, LK.cLe, LK.cGt, LK.cGe, AW.Val.datas, AW.allocL, AW.wp_bind, AW.wp_ok, AW.wp_ite, AW.evChain, AW.Tg.slots, LK.gv_MAX_LETTERS, LK.gv_KEYWORDS, LK.gv_MAX_PARAMETERS, LK.gv_MAX_OPERANDS, LK.gv_MAX_NODES, LK.gv_LAZY, LK.gv_STRICT, LK.gv_LEAVES, AW.idxL0, AW.idxL1, AW.idxL2, AW.idxL3, AW.idxL4, AW.idxD_0, AW.idxD_1, AW.sl_lst, AW.sl_tup, AW.ix_some, AW.i_non_bool, AW.i_non_int, AW.i_non_str, AW.i_non_tuple, AW.i_non_list, AW.i_non_dict, AW.i_bl_bool, AW.i_bl_int, AW.i_bl_str, AW.i_bl_tuple, AW.i_bl_list, AW.i_bl_dict, AW.i_int_bool, AW.i_int_int, AW.i_int_str, AW.i_int_tuple, AW.i_int_list, AW.i_int_dict, AW.i_str_bool, AW.i_str_int, AW.i_str_str, AW.i_str_tuple, AW.i_str_list, AW.i_str_dict, AW.i_tup_bool, AW.i_tup_int, AW.i_tup_str, AW.i_tup_tuple, AW.i_tup_list, AW.i_tup_dict, AW.i_lst_bool, AW.i_lst_int, AW.i_lst_str, AW.i_lst_tuple, AW.i_lst_list, AW.i_lst_dict, AW.i_dct_bool, AW.i_dct_int, AW.i_dct_str, AW.i_dct_tuple, AW.i_dct_list, AW.i_dct_dict, AW.t_non, AW.t_bl, AW.t_int, AW.t_tup, AW.t_lst, AW.pk_d, AW.pk_c, AW.tv_d, AW.ln_tup, AW.ln_lst, AW.ln_str, AW.b_len, AW.b_len2, AW.b_len3, AW.b_abs, AW.b_dlen, AW.b_all, AW.b_any, AW.b_int, AW.b_intb, AW.b_tupl, AW.b_tupt, AW.dt_d, sm, e4, hpow60, odds2]
    exact ev_addv rfl e2 ea) ?_
  obtain ⟨d, m4, e5, hd, s4⟩ := pickE0 (k := k + 2) (by omega) (ds := odds1 ++ odds2 ++ odds3) (by simp [odds1]) (by decide +kernel) h
  refine x_ret (wp_is (ev_pick (xs := .lst (odds1 ++ odds2 ++ odds3)) rfl (by
    have e3 : evalE tab.gvals (R (k + 2)) (.lm false (.disp (.cons (.tup (.cons (.con (.str "value")) .nil)) (.cons (.tup (.cons (.con (.str "test")) .nil)) (.cons (.tup (.cons (.con (.str "use")) (.cons (.con (.str "a")) .nil))) (.cons (.tup (.cons (.con (.str "a")) .nil)) (.cons (.con (.int 2)) .nil))))))) [some (.cell c), some (.d (.lst (odds1 ++ odds2)))] m = .ok (.d (.lst odds3)) m := by simp [AW.evT, AW.lift_some, AW.Out.bind_ok, AW.evLb, AW.evalE, AW.evalB, AW.evalEs, AW.evalO, AW.evalC, AW.evalL, AW.evalIt, AW.evOr, AW.evAnd, AW.evNot, AW.evIte, AW.evTup, AW.evLm, AW.evDisp, AW.evCall, AW.evCons, AW.evStar, AW.evNil, AW.evNoPart, AW.evDsp, AW.evPart, AW.evYes, AW.evSli, AW.ev1, AW.ev2, AW.evVar, AW.evCon, AW.cmpV, LK.cLt, LK.cLe, LK.cGt, LK.cGe, AW.Val.datas, AW.allocL, AW.wp_bind, AW.wp_ok, AW.wp_ite, AW.evChain, AW.Tg.slots, LK.gv_MAX_LETTERS, LK.gv_KEYWORDS, LK.gv_MAX_PARAMETERS, LK.gv_MAX_OPERANDS, LK.gv_MAX_NODES, LK.gv_LAZY, LK.gv_STRICT, LK.gv_LEAVES, AW.idxL0, AW.idxL1, AW.idxL2, AW.idxL3, AW.idxL4, AW.idxD_0, AW.idxD_1, AW.sl_lst, AW.sl_tup, AW.ix_some, AW.i_non_bool, AW.i_non_int, AW.i_non_str, AW.i_non_tuple, AW.i_non_list, AW.i_non_dict, AW.i_bl_bool, AW.i_bl_int, AW.i_bl_str, AW.i_bl_tuple, AW.i_bl_list, AW.i_bl_dict, AW.i_int_bool, AW.i_int_int, AW.i_int_str, AW.i_int_tuple, AW.i_int_list, AW.i_int_dict, AW.i_str_bool, AW.i_str_int, AW.i_str_str, AW.i_str_tuple, AW.i_str_list, AW.i_str_dict, AW.i_tup_bool, AW.i_tup_int, AW.i_tup_str, AW.i_tup_tuple, AW.i_tup_list, AW.i_tup_dict, AW.i_lst_bool, AW.i_lst_int, AW.i_lst_str, AW.i_lst_tuple, AW.i_lst_list, AW.i_lst_dict, AW.i_dct_bool, AW.i_dct_int, AW.i_dct_str, AW.i_dct_tuple, AW.i_dct_list, AW.i_dct_dict, AW.t_non, AW.t_bl, AW.t_int, AW.t_tup, AW.t_lst, AW.pk_d, AW.pk_c, AW.tv_d, AW.ln_tup, AW.ln_lst, AW.ln_str, AW.b_len, AW.b_len2, AW.b_len3, AW.b_abs, AW.b_dlen, AW.b_all, AW.b_any, AW.b_int, AW.b_intb, AW.b_tupl, AW.b_tupt, AW.dt_d, sm, odds3]
    exact ev_addv rfl e3 eb) e5) (fin_ret ?_))
  rw [s4.takeS h]
  exact q _ _ ⟨d, rfl, n1B_ok (odds_ok d hd).1, bB_ok (odds_ok d hd).2⟩ s4
end LK
set_option maxRecDepth 100000
set_option maxHeartbeats 4000000
namespace LK
open PySem AW
section
variable {G : List D} {Φ : Fns} {i j c : Nat} {X Y : E} {es : Es} {ρ : Ev} {m m1 m2 : Store} {ds : List D} {a b d z : D} {r : Int} {v : Val} {vs : List Val}
theorem ev_add2 (h1 : evalE G Φ X ρ m = .ok (.d a) m1) (h2 : evalE G Φ Y ρ m1 = .ok (.d b) m2) (hz : binD .Add a b = some z) : evalE G Φ (.bin .Add X Y) ρ m = .ok (.d z) m2 := by
  simp [evalE, ev2, h1, h2, hz, peek]
theorem ev_var (h : ρ[i]? = some (some v)) : evalE G Φ (.var i) ρ m = .ok v m := by simp [evalE, evVar, h]
theorem ev_con : evalE G Φ (.con d) ρ m = .ok (.d d) m := by simp [evalE, evCon]
theorem ev_take (h : ρ[i]? = some (some (.d (.tup ds)))) (hj : ρ[j]? = some (some (.d (.int r)))) (h0 : 0 ≤ r) : evalE G Φ (.sli (.var i) .no (.yes (.var j))) ρ m = .ok (.d (.tup (ds.take r.toNat))) m := by
  simp [evalE, evSli, evalO, evNoPart, evPart, evVar, h, hj, peek, intV, ixV, sliD, cut_take _ h0]
theorem ev_drop (h : ρ[i]? = some (some (.d (.tup ds)))) (hj : ρ[j]? = some (some (.d (.int r)))) (h0 : 0 ≤ r) : evalE G Φ (.sli (.var i) (.yes (.var j)) .no) ρ m = .ok (.d (.tup (ds.drop r.toNat))) m := by
  simp [evalE, evSli, evalO, evNoPart, evPart, evVar, h, hj, peek, intV, ixV, sliD, cut_drop _ h0]
theorem ev_drop1 (h : ρ[i]? = some (some (.d (.tup ds)))) (hj : ρ[j]? = some (some (.d (.int r)))) (h0 : 0 ≤ r) : evalE G Φ (.sli (.var i) (.yes (.bin .Add (.var j) (.con (.int 1)))) .no) ρ m = .ok (.d (.tup (ds.drop (r + 1).toNat))) m := by
  simp [evalE, evSli, evalO, evNoPart, evPart, evVar, evCon, ev2, add_i, h, hj, peek, intV, ixV, sliD, cut_drop _ (show 0 ≤ r + 1 by omega)]
theorem ev_tup1 (h : evalE G Φ X ρ m = .ok (.d d) m1) : evalE G Φ (.tup (.cons X .nil)) ρ m = .ok (.d (.tup [d])) m1 := by
  simp [evalE, evalEs, evTup, evCons, evNil, h, Val.datas, Val.data, sm]
theorem ev_call1 (h1 : ρ[0]? = some (some (.cell c))) (hc : Φ i [.cell c] m = .ok v m1) : evalE G Φ (.call i (.cons (.var 0) .nil)) ρ m = .ok v m1 := by
  simp [evalE, evalEs, evCall, evCons, evNil, evVar, h1, hc]
theorem ev_rev (h : ρ[i]? = some (some (.d (.tup ds)))) : evalE G Φ (.revT (.var i)) ρ m = .ok (.d (.tup ds.reverse)) m := by
  simp [evalE, ev1, evVar, h, peek, revTD]
theorem ev_list (h : ρ[i]? = some (some (.d (.tup ds)))) : evalE G Φ (.lm false (.blt .list (.var i))) ρ m = .ok (.d (.lst ds)) m := by
  simp [evalE, evalL, evLm, evLb, evVar, h, peek, lbD, seqD, allocL]
theorem ev_idxc (h : ρ[i]? = some (some (.d (.tup ds)))) (hz : ds ≠ []) : ∃ x, x ∈ ds ∧ evalE G Φ (.idx (.var i) (.con (.int 0))) ρ m = .ok (.d x) m := by
  cases ds with
  | nil => exact (hz rfl).elim
  | cons x ds => exact ⟨x, by simp, by simp [evalE, ev2, evVar, evCon, h, peek, idxD_0]⟩
theorem ev_idxj (h : ρ[i]? = some (some (.d (.tup ds)))) (hj : ρ[j]? = some (some (.d (.int r)))) (h0 : 0 ≤ r) (h1 : r < ds.length) : ∃ x, x ∈ ds ∧ evalE G Φ (.idx (.var i) (.var j)) ρ m = .ok (.d x) m := by
  obtain ⟨x, ex, hx⟩ := atI_mem (xs := ds) h0 h1
  exact ⟨x, hx, by simp [evalE, ev2, evVar, h, hj, peek, idxD, ex]⟩
theorem es_nil : evalEs G Φ .nil ρ m = .ok [] m := by simp [evalEs, evNil]
theorem es_cons (h : evalE G Φ X ρ m = .ok v m1) (h2 : evalEs G Φ es ρ m1 = .ok vs m2) : evalEs G Φ (.cons X es) ρ m = .ok (v :: vs) m2 := by
  simp [evalEs, evCons, h, h2]
theorem ev_dispF (h : evalEs G Φ es ρ m = .ok vs m1) (hv : Val.datas vs = some ds) (hl : ds.length ≤ 1000) : evalE G Φ (.lm false (.disp es)) ρ m = .ok (.d (.lst ds)) m1 := by
  simp [evalE, evalL, evLm, evDisp, h, hv, sm hl, allocL]
theorem ev_dispT (h : evalEs G Φ es ρ m = .ok vs m1) (hv : Val.datas vs = some ds) (hl : ds.length ≤ 1000) : evalE G Φ (.lm true (.disp es)) ρ m = .ok (.cell m1.length) (m1 ++ [.lst ds]) := by
  simp [evalE, evalL, evLm, evDisp, h, hv, sm hl, allocL]
theorem ev_cat {ds' : List D} (h1 : ρ[i]? = some (some (.cell j))) (h2 : evalE G Φ Y ρ m = .ok (.d (.lst ds')) m1) (hm : m1[j]? = some (.lst ds)) (hl : ds.length + ds'.length ≤ 1000) : evalE G Φ (.lm true (.cat (.var i) Y)) ρ m = .ok (.cell m1.length) (m1 ++ [.lst (ds ++ ds')]) := by
  simp [evalE, evalL, evLm, evCat, evVar, h1, h2, hm, peek, catD, sm hl, allocL]
theorem ev_addc {ds' : List D} (h1 : ρ[i]? = some (some (.cell j))) (h2 : evalE G Φ Y ρ m = .ok (.d (.lst ds')) m1) (hm : m1[j]? = some (.lst ds)) (hl : ds.length + ds'.length ≤ 1000) : evalE G Φ (.bin .Add (.var i) Y) ρ m = .ok (.d (.lst (ds ++ ds'))) m1 := by
  simp [evalE, ev2, evVar, h1, h2, hm, peek, add_l hl]
theorem ev_mul {n : Int} (h1 : evalE G Φ X ρ m = .ok (.d (.tup ds)) m1) (hd : ds ≠ []) (h2 : 2 ≤ n) (h3 : n ≤ 1000) (hl : ds.length ≤ 1000) : evalE G Φ (.bin .Mult X (.con (.int n))) ρ m = .ok (.d (.tup (List.replicate n.toNat ds).flatten)) m1 := by
  simp [evalE, ev2, evCon, h1, peek, binD, hd, h2, h3, hl]
end
theorem oddE {k : Nat} (hk : 3 ≤ k) {c : Nat} {m0 m : Store} (l : Store) (s : Dc m0 c m) : ∃ (d : D) (m' : Store), R k 18 [.cell c] (m ++ l) = .ok (.d d) (m' ++ l) ∧ okN1 d ∧ okB d ∧ Dc m0 c m' := by
  obtain ⟨v, M, e, r, m', rfl, rfl, h⟩ := wp_eq ((d_odd hk).tail (l := l) s (Q := fun v M => ∃ (r : D) (m' : Store), v = .d r ∧ M = m' ++ l ∧ okN1 r ∧ okB r ∧ Dc m0 c m') fun v m' hv s' => by
    obtain ⟨r, rfl, h1, h2⟩ := hv
    exact ⟨r, m', rfl, rfl, h1, h2, s'⟩)
  exact ⟨r, m', e, h⟩
theorem oddE0 {k : Nat} (hk : 3 ≤ k) {c : Nat} {m0 m : Store} (s : Dc m0 c m) : ∃ (d : D) (m' : Store), R k 18 [.cell c] m = .ok (.d d) m' ∧ okN1 d ∧ okB d ∧ Dc m0 c m' := by
  have := oddE hk [] s
  simpa using this
theorem d_spoiled {k : Nat} (hk : 4 ≤ k) {c : Nat} {ds : List D} (hz : ds ≠ []) (hl : ds.length ≤ 3) (ho : ∀ x ∈ ds, okS x) (ho2 : ∀ x ∈ ds, okN1 x) : Draws (fun m => R k 19 [.cell c, .d (.tup ds)] m) c fun v => ∃ d, v = .d d ∧ okN1 d := by
  obtain ⟨k, rfl⟩ : ∃ j, k = j + 4 := ⟨k - 4, by omega⟩
  intro m0 m Q h q
  have hp : 0 < ds.length := List.length_pos_iff.mpr hz
  obtain ⟨r, m1, e1, r0, r1, s1⟩ := rollE0 (k := k + 3) (by omega) (n := (ds.length : Int)) (by omega) (by omega) h
  obtain ⟨t, m2, e2, t0, t1, s2⟩ := rollE0 (k := k + 3) (by omega) (n := 5) (by omega) (by omega) s1
  obtain ⟨o, m3, e3, o1, _, s3⟩ := oddE0 (k := k + 3) (by omega) s2
  refine wp_run (f := f19) [some (.cell c), some (.d (.tup ds)), none, none] rfl rfl rfl (x_par (wp_is (a := [.d (.int r), .d (.int t)]) (m := m2) (by simp [AW.evT, AW.lift_some, AW.Out.bind_ok, AW.evLb, AW.evalE, AW.evalB, AW.evalEs, AW.evalO, AW.evalC, AW.evalL, AW.evalIt, AW.evOr, AW.evAnd, AW.evNot, AW.evIte, AW.evTup, AW.evLm, AW.evDisp, AW.evCall, AW.evCons, AW.evStar, AW.evNil, AW.evNoPart, AW.evDsp, AW.evPart, AW.evYes, AW.evSli, AW.ev1, AW.ev2, AW.evVar, AW.evCon, AW.cmpV, LK.cLt, LK.cLe, LK.cGt, LK.cGe, AW.Val.datas, AW.allocL, AW.wp_bind, AW.wp_ok, AW.wp_ite, AW.evChain, AW.Tg.slots, LK.gv_MAX_LETTERS, LK.gv_KEYWORDS, LK.gv_MAX_PARAMETERS, LK.gv_MAX_OPERANDS, LK.gv_MAX_NODES, LK.gv_LAZY, LK.gv_STRICT, LK.gv_LEAVES, AW.idxL0, AW.idxL1, AW.idxL2, AW.idxL3, AW.idxL4, AW.idxD_0, AW.idxD_1, AW.sl_lst, AW.sl_tup, AW.ix_some, AW.i_non_bool, AW.i_non_int, AW.i_non_str, AW.i_non_tuple, AW.i_non_list, AW.i_non_dict, AW.i_bl_bool, AW.i_bl_int, AW.i_bl_str, AW.i_bl_tuple, AW.i_bl_list, AW.i_bl_dict, AW.i_int_bool, AW.i_int_int, AW.i_int_str, AW.i_int_tuple, AW.i_int_list, AW.i_int_dict, AW.i_str_bool, AW.i_str_int, AW.i_str_str, AW.i_str_tuple, AW.i_str_list, AW.i_str_dict, AW.i_tup_bool, AW.i_tup_int, AW.i_tup_str, AW.i_tup_tuple, AW.i_tup_list, AW.i_tup_dict, AW.i_lst_bool, AW.i_lst_int, AW.i_lst_str, AW.i_lst_tuple, AW.i_lst_list, AW.i_lst_dict, AW.i_dct_bool, AW.i_dct_int, AW.i_dct_str, AW.i_dct_tuple, AW.i_dct_list, AW.i_dct_dict, AW.t_non, AW.t_bl, AW.t_int, AW.t_tup, AW.t_lst, AW.pk_d, AW.pk_c, AW.tv_d, AW.ln_tup, AW.ln_lst, AW.ln_str, AW.b_len, AW.b_len2, AW.b_len3, AW.b_abs, AW.b_dlen, AW.b_all, AW.b_any, AW.b_int, AW.b_intb, AW.b_tupl, AW.b_tupt, AW.dt_d, e1, e2]) ⟨_, rfl, ?_⟩))
  have tk : ∀ x ∈ ds.take r.toNat, okS x := fun x hx => ho x (List.mem_of_mem_take hx)
  have dk : ∀ x ∈ ds.drop (r + 1).toNat, okS x := fun x hx => ho x (List.mem_of_mem_drop hx)
  have lt : (ds.take r.toNat).length ≤ 3 := by rw [List.length_take]; omega
  have ld : (ds.drop (r + 1).toNat).length ≤ 3 := by rw [List.length_drop]; omega
  refine x_if ?_
  by_cases h2 : t < 2
  · refine wp_is (a := true) (m := m2) (by simp [AW.evT, AW.lift_some, AW.Out.bind_ok, AW.evLb, AW.evalE, AW.evalB, AW.evalEs, AW.evalO, AW.evalC, AW.evalL, AW.evalIt, AW.evOr, AW.evAnd, AW.evNot, AW.evIte, AW.evTup, AW.evLm, AW.evDisp, AW.evCall, AW.evCons, AW.evStar, AW.evNil, AW.evNoPart, AW.evDsp, AW.evPart, AW.evYes, AW.evSli, AW.ev1, AW.ev2, AW.evVar, AW.evCon, AW.cmpV, LK.cLt, LK.cLe, LK.cGt, LK.cGe, AW.Val.datas, AW.allocL, AW.wp_bind, AW.wp_ok, AW.wp_ite, AW.evChain, AW.Tg.slots, LK.gv_MAX_LETTERS, LK.gv_KEYWORDS, LK.gv_MAX_PARAMETERS, LK.gv_MAX_OPERANDS, LK.gv_MAX_NODES, LK.gv_LAZY, LK.gv_STRICT, LK.gv_LEAVES, AW.idxL0, AW.idxL1, AW.idxL2, AW.idxL3, AW.idxL4, AW.idxD_0, AW.idxD_1, AW.sl_lst, AW.sl_tup, AW.ix_some, AW.i_non_bool, AW.i_non_int, AW.i_non_str, AW.i_non_tuple, AW.i_non_list, AW.i_non_dict, AW.i_bl_bool, AW.i_bl_int, AW.i_bl_str, AW.i_bl_tuple, AW.i_bl_list, AW.i_bl_dict, AW.i_int_bool, AW.i_int_int, AW.i_int_str, AW.i_int_tuple, AW.i_int_list, AW.i_int_dict, AW.i_str_bool, AW.i_str_int, AW.i_str_str, AW.i_str_tuple, AW.i_str_list, AW.i_str_dict, AW.i_tup_bool, AW.i_tup_int, AW.i_tup_str, AW.i_tup_tuple, AW.i_tup_list, AW.i_tup_dict, AW.i_lst_bool, AW.i_lst_int, AW.i_lst_str, AW.i_lst_tuple, AW.i_lst_list, AW.i_lst_dict, AW.i_dct_bool, AW.i_dct_int, AW.i_dct_str, AW.i_dct_tuple, AW.i_dct_list, AW.i_dct_dict, AW.t_non, AW.t_bl, AW.t_int, AW.t_tup, AW.t_lst, AW.pk_d, AW.pk_c, AW.tv_d, AW.ln_tup, AW.ln_lst, AW.ln_str, AW.b_len, AW.b_len2, AW.b_len3, AW.b_abs, AW.b_dlen, AW.b_all, AW.b_any, AW.b_int, AW.b_intb, AW.b_tupl, AW.b_tupt, AW.dt_d, h2]) ?_
    rw [if_pos rfl]
    refine x_ret (wp_is (ev_add2 (ev_add2 (ev_take rfl rfl r0) (ev_tup1 (ev_call1 rfl e3)) (add_t (by simp; omega))) (ev_drop1 rfl rfl r0) (add_t (by simp; omega))) (fin_ret ?_))
    rw [s3.takeS h]
    refine q _ _ ⟨_, rfl, fun x hx => ?_⟩ s3
    rcases List.mem_append.mp hx with hx | hx
    · rcases List.mem_append.mp hx with hx | hx
      · exact tk x hx
      · rw [List.mem_singleton.mp hx]; exact okS_N o1
    · exact dk x hx
  · refine wp_is (a := false) (m := m2) (by simp [AW.evT, AW.lift_some, AW.Out.bind_ok, AW.evLb, AW.evalE, AW.evalB, AW.evalEs, AW.evalO, AW.evalC, AW.evalL, AW.evalIt, AW.evOr, AW.evAnd, AW.evNot, AW.evIte, AW.evTup, AW.evLm, AW.evDisp, AW.evCall, AW.evCons, AW.evStar, AW.evNil, AW.evNoPart, AW.evDsp, AW.evPart, AW.evYes, AW.evSli, AW.ev1, AW.ev2, AW.evVar, AW.evCon, AW.cmpV, LK.cLt, LK.cLe, LK.cGt, LK.cGe, AW.Val.datas, AW.allocL, AW.wp_bind, AW.wp_ok, AW.wp_ite, AW.evChain, AW.Tg.slots, LK.gv_MAX_LETTERS, LK.gv_KEYWORDS, LK.gv_MAX_PARAMETERS, LK.gv_MAX_OPERANDS, LK.gv_MAX_NODES, LK.gv_LAZY, LK.gv_STRICT, LK.gv_LEAVES, AW.idxL0, AW.idxL1, AW.idxL2, AW.idxL3, AW.idxL4, AW.idxD_0, AW.idxD_1, AW.sl_lst, AW.sl_tup, AW.ix_some, AW.i_non_bool, AW.i_non_int, AW.i_non_str, AW.i_non_tuple, AW.i_non_list, AW.i_non_dict, AW.i_bl_bool, AW.i_bl_int, AW.i_bl_str, AW.i_bl_tuple, AW.i_bl_list, AW.i_bl_dict, AW.i_int_bool, AW.i_int_int, AW.i_int_str, AW.i_int_tuple, AW.i_int_list, AW.i_int_dict, AW.i_str_bool, AW.i_str_int, AW.i_str_str, AW.i_str_tuple, AW.i_str_list, AW.i_str_dict, AW.i_tup_bool, AW.i_tup_int, AW.i_tup_str, AW.i_tup_tuple, AW.i_tup_list, AW.i_tup_dict, AW.i_lst_bool, AW.i_lst_int, AW.i_lst_str, AW.i_lst_tuple, AW.i_lst_list, AW.i_lst_dict, AW.i_dct_bool, AW.i_dct_int, AW.i_dct_str, AW.i_dct_tuple, AW.i_dct_list, AW.i_dct_dict, AW.t_non, AW.t_bl, AW.t_int, AW.t_tup, AW.t_lst, AW.pk_d, AW.pk_c, AW.tv_d, AW.ln_tup, AW.ln_lst, AW.ln_str, AW.b_len, AW.b_len2, AW.b_len3, AW.b_abs, AW.b_dlen, AW.b_all, AW.b_any, AW.b_int, AW.b_intb, AW.b_tupl, AW.b_tupt, AW.dt_d, h2]) ?_
    rw [if_neg (by simp)]
    refine x_nil (x_if ?_)
    by_cases h3 : t = 2
    · refine wp_is (a := true) (m := m2) (by simp [AW.evT, AW.lift_some, AW.Out.bind_ok, AW.evLb, AW.evalE, AW.evalB, AW.evalEs, AW.evalO, AW.evalC, AW.evalL, AW.evalIt, AW.evOr, AW.evAnd, AW.evNot, AW.evIte, AW.evTup, AW.evLm, AW.evDisp, AW.evCall, AW.evCons, AW.evStar, AW.evNil, AW.evNoPart, AW.evDsp, AW.evPart, AW.evYes, AW.evSli, AW.ev1, AW.ev2, AW.evVar, AW.evCon, AW.cmpV, LK.cLt, LK.cLe, LK.cGt, LK.cGe, AW.Val.datas, AW.allocL, AW.wp_bind, AW.wp_ok, AW.wp_ite, AW.evChain, AW.Tg.slots, LK.gv_MAX_LETTERS, LK.gv_KEYWORDS, LK.gv_MAX_PARAMETERS, LK.gv_MAX_OPERANDS, LK.gv_MAX_NODES, LK.gv_LAZY, LK.gv_STRICT, LK.gv_LEAVES, AW.idxL0, AW.idxL1, AW.idxL2, AW.idxL3, AW.idxL4, AW.idxD_0, AW.idxD_1, AW.sl_lst, AW.sl_tup, AW.ix_some, AW.i_non_bool, AW.i_non_int, AW.i_non_str, AW.i_non_tuple, AW.i_non_list, AW.i_non_dict, AW.i_bl_bool, AW.i_bl_int, AW.i_bl_str, AW.i_bl_tuple, AW.i_bl_list, AW.i_bl_dict, AW.i_int_bool, AW.i_int_int, AW.i_int_str, AW.i_int_tuple, AW.i_int_list, AW.i_int_dict, AW.i_str_bool, AW.i_str_int, AW.i_str_str, AW.i_str_tuple, AW.i_str_list, AW.i_str_dict, AW.i_tup_bool, AW.i_tup_int, AW.i_tup_str, AW.i_tup_tuple, AW.i_tup_list, AW.i_tup_dict, AW.i_lst_bool, AW.i_lst_int, AW.i_lst_str, AW.i_lst_tuple, AW.i_lst_list, AW.i_lst_dict, AW.i_dct_bool, AW.i_dct_int, AW.i_dct_str, AW.i_dct_tuple, AW.i_dct_list, AW.i_dct_dict, AW.t_non, AW.t_bl, AW.t_int, AW.t_tup, AW.t_lst, AW.pk_d, AW.pk_c, AW.tv_d, AW.ln_tup, AW.ln_lst, AW.ln_str, AW.b_len, AW.b_len2, AW.b_len3, AW.b_abs, AW.b_dlen, AW.b_all, AW.b_any, AW.b_int, AW.b_intb, AW.b_tupl, AW.b_tupt, AW.dt_d, eqI, h3]) ?_
      rw [if_pos rfl]
      refine x_ret (wp_is (ev_add2 (ev_var rfl) (ev_tup1 (ev_call1 rfl e3)) (add_t (by simp; omega))) (fin_ret ?_))
      rw [s3.takeS h]
      refine q _ _ ⟨_, rfl, fun x hx => ?_⟩ s3
      rcases List.mem_append.mp hx with hx | hx
      · exact ho x hx
      · rw [List.mem_singleton.mp hx]; exact okS_N o1
    · refine wp_is (a := false) (m := m2) (by simp [AW.evT, AW.lift_some, AW.Out.bind_ok, AW.evLb, AW.evalE, AW.evalB, AW.evalEs, AW.evalO, AW.evalC, AW.evalL, AW.evalIt, AW.evOr, AW.evAnd, AW.evNot, AW.evIte, AW.evTup, AW.evLm, AW.evDisp, AW.evCall, AW.evCons, AW.evStar, AW.evNil, AW.evNoPart, AW.evDsp, AW.evPart, AW.evYes, AW.evSli, AW.ev1, AW.ev2, AW.evVar, AW.evCon, AW.cmpV, LK.cLt, LK.cLe, LK.cGt, LK.cGe, AW.Val.datas, AW.allocL, AW.wp_bind, AW.wp_ok, AW.wp_ite, AW.evChain, AW.Tg.slots, LK.gv_MAX_LETTERS, LK.gv_KEYWORDS, LK.gv_MAX_PARAMETERS, LK.gv_MAX_OPERANDS, LK.gv_MAX_NODES, LK.gv_LAZY, LK.gv_STRICT, LK.gv_LEAVES, AW.idxL0, AW.idxL1, AW.idxL2, AW.idxL3, AW.idxL4, AW.idxD_0, AW.idxD_1, AW.sl_lst, AW.sl_tup, AW.ix_some, AW.i_non_bool, AW.i_non_int, AW.i_non_str, AW.i_non_tuple, AW.i_non_list, AW.i_non_dict, AW.i_bl_bool, AW.i_bl_int, AW.i_bl_str, AW.i_bl_tuple, AW.i_bl_list, AW.i_bl_dict, AW.i_int_bool, AW.i_int_int, AW.i_int_str, AW.i_int_tuple, AW.i_int_list, AW.i_int_dict, AW.i_str_bool, AW.i_str_int, AW.i_str_str, AW.i_str_tuple, AW.i_str_list, AW.i_str_dict, AW.i_tup_bool, AW.i_tup_int, AW.i_tup_str, AW.i_tup_tuple, AW.i_tup_list, AW.i_tup_dict, AW.i_lst_bool, AW.i_lst_int, AW.i_lst_str, AW.i_lst_tuple, AW.i_lst_list, AW.i_lst_dict, AW.i_dct_bool, AW.i_dct_int, AW.i_dct_str, AW.i_dct_tuple, AW.i_dct_list, AW.i_dct_dict, AW.t_non, AW.t_bl, AW.t_int, AW.t_tup, AW.t_lst, AW.pk_d, AW.pk_c, AW.tv_d, AW.ln_tup, AW.ln_lst, AW.ln_str, AW.b_len, AW.b_len2, AW.b_len3, AW.b_abs, AW.b_dlen, AW.b_all, AW.b_any, AW.b_int, AW.b_intb, AW.b_tupl, AW.b_tupt, AW.dt_d, eqI, h3]) ?_
      rw [if_neg (by simp)]
      refine x_nil (x_if ?_)
      by_cases h4 : t = 3
      · refine wp_is (a := true) (m := m2) (by simp [AW.evT, AW.lift_some, AW.Out.bind_ok, AW.evLb, AW.evalE, AW.evalB, AW.evalEs, AW.evalO, AW.evalC, AW.evalL, AW.evalIt, AW.evOr, AW.evAnd, AW.evNot, AW.evIte, AW.evTup, AW.evLm, AW.evDisp, AW.evCall, AW.evCons, AW.evStar, AW.evNil, AW.evNoPart, AW.evDsp, AW.evPart, AW.evYes, AW.evSli, AW.ev1, AW.ev2, AW.evVar, AW.evCon, AW.cmpV, LK.cLt, LK.cLe, LK.cGt, LK.cGe, AW.Val.datas, AW.allocL, AW.wp_bind, AW.wp_ok, AW.wp_ite, AW.evChain, AW.Tg.slots, LK.gv_MAX_LETTERS, LK.gv_KEYWORDS, LK.gv_MAX_PARAMETERS, LK.gv_MAX_OPERANDS, LK.gv_MAX_NODES, LK.gv_LAZY, LK.gv_STRICT, LK.gv_LEAVES, AW.idxL0, AW.idxL1, AW.idxL2, AW.idxL3, AW.idxL4, AW.idxD_0, AW.idxD_1, AW.sl_lst, AW.sl_tup, AW.ix_some, AW.i_non_bool, AW.i_non_int, AW.i_non_str, AW.i_non_tuple, AW.i_non_list, AW.i_non_dict, AW.i_bl_bool, AW.i_bl_int, AW.i_bl_str, AW.i_bl_tuple, AW.i_bl_list, AW.i_bl_dict, AW.i_int_bool, AW.i_int_int, AW.i_int_str, AW.i_int_tuple, AW.i_int_list, AW.i_int_dict, AW.i_str_bool, AW.i_str_int, AW.i_str_str, AW.i_str_tuple, AW.i_str_list, AW.i_str_dict, AW.i_tup_bool, AW.i_tup_int, AW.i_tup_str, AW.i_tup_tuple, AW.i_tup_list, AW.i_tup_dict, AW.i_lst_bool, AW.i_lst_int, AW.i_lst_str, AW.i_lst_tuple, AW.i_lst_list, AW.i_lst_dict, AW.i_dct_bool, AW.i_dct_int, AW.i_dct_str, AW.i_dct_tuple, AW.i_dct_list, AW.i_dct_dict, AW.t_non, AW.t_bl, AW.t_int, AW.t_tup, AW.t_lst, AW.pk_d, AW.pk_c, AW.tv_d, AW.ln_tup, AW.ln_lst, AW.ln_str, AW.b_len, AW.b_len2, AW.b_len3, AW.b_abs, AW.b_dlen, AW.b_all, AW.b_any, AW.b_int, AW.b_intb, AW.b_tupl, AW.b_tupt, AW.dt_d, eqI, h4]) ?_
        rw [if_pos rfl]
        refine x_ret (wp_is (ev_add2 (ev_take rfl rfl r0) (ev_drop1 rfl rfl r0) (add_t (by omega))) (fin_ret ?_))
        rw [s2.takeS h]
        refine q _ _ ⟨_, rfl, fun x hx => ?_⟩ s2
        rcases List.mem_append.mp hx with hx | hx
        · exact tk x hx
        · exact dk x hx
      · refine wp_is (a := false) (m := m2) (by simp [AW.evT, AW.lift_some, AW.Out.bind_ok, AW.evLb, AW.evalE, AW.evalB, AW.evalEs, AW.evalO, AW.evalC, AW.evalL, AW.evalIt, AW.evOr, AW.evAnd, AW.evNot, AW.evIte, AW.evTup, AW.evLm, AW.evDisp, AW.evCall, AW.evCons, AW.evStar, AW.evNil, AW.evNoPart, AW.evDsp, AW.evPart, AW.evYes, AW.evSli, AW.ev1, AW.ev2, AW.evVar, AW.evCon, AW.cmpV, LK.cLt, LK.cLe, LK.cGt, LK.cGe, AW.Val.datas, AW.allocL, AW.wp_bind, AW.wp_ok, AW.wp_ite, AW.evChain, AW.Tg.slots, LK.gv_MAX_LETTERS, LK.gv_KEYWORDS, LK.gv_MAX_PARAMETERS, LK.gv_MAX_OPERANDS, LK.gv_MAX_NODES, LK.gv_LAZY, LK.gv_STRICT, LK.gv_LEAVES, AW.idxL0, AW.idxL1, AW.idxL2, AW.idxL3, AW.idxL4, AW.idxD_0, AW.idxD_1, AW.sl_lst, AW.sl_tup, AW.ix_some, AW.i_non_bool, AW.i_non_int, AW.i_non_str, AW.i_non_tuple, AW.i_non_list, AW.i_non_dict, AW.i_bl_bool, AW.i_bl_int, AW.i_bl_str, AW.i_bl_tuple, AW.i_bl_list, AW.i_bl_dict, AW.i_int_bool, AW.i_int_int, AW.i_int_str, AW.i_int_tuple, AW.i_int_list, AW.i_int_dict, AW.i_str_bool, AW.i_str_int, AW.i_str_str, AW.i_str_tuple, AW.i_str_list, AW.i_str_dict, AW.i_tup_bool, AW.i_tup_int, AW.i_tup_str, AW.i_tup_tuple, AW.i_tup_list, AW.i_tup_dict, AW.i_lst_bool, AW.i_lst_int, AW.i_lst_str, AW.i_lst_tuple, AW.i_lst_list, AW.i_lst_dict, AW.i_dct_bool, AW.i_dct_int, AW.i_dct_str, AW.i_dct_tuple, AW.i_dct_list, AW.i_dct_dict, AW.t_non, AW.t_bl, AW.t_int, AW.t_tup, AW.t_lst, AW.pk_d, AW.pk_c, AW.tv_d, AW.ln_tup, AW.ln_lst, AW.ln_str, AW.b_len, AW.b_len2, AW.b_len3, AW.b_abs, AW.b_dlen, AW.b_all, AW.b_any, AW.b_int, AW.b_intb, AW.b_tupl, AW.b_tupt, AW.dt_d, eqI, h4]) ?_
        rw [if_neg (by simp)]
        refine x_nil ?_
        obtain ⟨x0, hx0, ex0⟩ := ev_idxc (G := tab.gvals) (Φ := R (k + 3)) (i := 1) (ds := ds) (ρ := [some (.cell c), some (.d (.tup ds)), some (.d (.int r)), some (.d (.int t))]) (m := m2) rfl hz
        obtain ⟨d, m4, e4, hd, s4⟩ := pickE0 (k := k + 3) (by omega) (ds := [.lst ds, .tup [.tup ds], x0, .tup ds.reverse]) (by simp) (by simp) s2
        refine x_ret (wp_is (ev_pick rfl (ev_dispF (es_cons (ev_list rfl) (es_cons (ev_tup1 (ev_var rfl)) (es_cons ex0 (es_cons (ev_rev rfl) es_nil)))) rfl (by simp)) e4) (fin_ret ?_))
        rw [s4.takeS h]
        refine q _ _ ⟨d, rfl, ?_⟩ s4
        simp only [List.mem_cons, List.not_mem_nil, or_false] at hd
        rcases hd with rfl | rfl | rfl | rfl
        · trivial
        · intro x hx; rw [List.mem_singleton.mp hx]; trivial
        · exact ho2 _ hx0
        · exact fun x hx => ho x (List.mem_reverse.mp hx)
end LK
set_option maxRecDepth 100000
set_option maxHeartbeats 4000000
namespace LK
open PySem AW
/-! ### drawn expressions -/
def bnd : Nat → Nat
  | 0 => 1
  | n + 1 => 3 * bnd n + 1
def Xp (ds : List D) : Prop := ds.all nodeB = true ∧ ∀ h, heights ds h = some (h + 1)
def Exq (b : Nat) (v : Val) : Prop := ∃ ds, v = .d (.lst ds) ∧ Xp ds ∧ ds.length ≤ b
theorem heights_app : ∀ (a b : List D) (h : Nat), heights (a ++ b) h = (heights a h).bind (heights b)
  | [], b, h => rfl
  | d :: a, b, h => by
    show (if h < arity d then none else heights (a ++ b) (h - arity d + 1)) = (if h < arity d then none else heights a (h - arity d + 1)).bind (heights b)
    split
    · rfl
    · exact heights_app a b _
theorem xp_one {d : D} (h : nodeB d = true) (ha : arity d = 0) : Xp [d] := by
  refine ⟨by simp [h], fun x => ?_⟩
  show (if x < arity d then none else some (x - arity d + 1)) = _
  rw [ha, if_neg (by omega)]; rfl
def exTail : Ss := match f13.body with
  | .cons _ (.cons _ (.cons _ (.cons _ (.cons _ t)))) => t
  | _ => .nil
section
variable {G : List D} {Φ : Fns} {i j c : Nat} {X Y C : E} {es : Es} {ρ : Ev} {m m1 m2 : Store} {ds : List D} {a b d z : D} {r : Int} {v : Val} {vs : List Val}
theorem ev_iteT (h : evT (evalE G Φ C) ρ m = .ok true m1) (h2 : evalE G Φ X ρ m1 = .ok v m2) : evalE G Φ (.ite C X Y) ρ m = .ok v m2 := by
  simp [evalE, evIte, h, h2]
theorem ev_tupN (h : evalEs G Φ es ρ m = .ok vs m1) (hv : Val.datas vs = some ds) (hl : ds.length ≤ 1000) : evalE G Φ (.tup es) ρ m = .ok (.d (.tup ds)) m1 := by
  simp [evalE, evTup, h, hv, sm hl]
theorem ev_rec {n : Nat} {v0 v1 v2 : Val} (h0 : ρ[0]? = some (some v0)) (h1 : ρ[1]? = some (some v1)) (h2 : ρ[2]? = some (some v2)) (h3 : ρ[3]? = some (some (.d (.int ((n + 1 : Nat) : Int))))) (hc : Φ i [v0, v1, v2, .d (.int (n : Int))] m = .ok v m1) : evalE G Φ (.call i (.cons (.var 0) (.cons (.var 1) (.cons (.var 2) (.cons (.bin .Sub (.var 3) (.con (.int 1))) .nil))))) ρ m = .ok v m1 := by
  have e : ((n + 1 : Nat) : Int) - 1 = (n : Int) := by omega
  simp only [evalE, evalEs, evCall, evCons, evNil, evVar, ev2, evCon, h0, h1, h2, h3, Out.bind_ok, pk_d, lift_some, sub_i, e, hc]
end
def ExI (m0 : Store) (c : Nat) (ar nm : D) (n : Nat) (u4 u9 : Option Val) (nd : D) (a : Nat) (rest : List D) (ρ : Ev) (M : Store) : Prop := ∃ (u6 : Option Val) (ds : List D), ρ = [some (.cell c), some (.d ar), some (.d nm), some (.d (.int ((n + 1 : Nat) : Int))), u4, some (.d (.lst ds)), u6, some (.d nd), some (.d (.int (a : Int))), u9] ∧ Dc m0 c M ∧ ds.all nodeB = true ∧ (∀ h, heights ds h = some (h + (a - rest.length))) ∧ ds.length ≤ (a - rest.length) * bnd n ∧ rest.length ≤ a
theorem expr_tail {k n c : Nat} {ar nm : D} (ih : Draws (fun m => R k 13 [.cell c, .d ar, .d nm, .d (.int (n : Int))] m) c (Exq (bnd n))) (hb : 3 * bnd n < 40) {u4 u5 u6 u9 : Option Val} {nd : D} {a : Nat} (hnd : nodeB nd = true) (ha : arity nd = a) (a3 : a ≤ 3) {m0 ms m : Store} {Q : Val → Store → Prop} (hs : Dc m0 c ms) (h : Dc m0 c m) (q : ∀ v m', Exq (bnd (n + 1)) v → Dc m0 c m' → Q v m') :
    wp (execSs tab.gvals (R k) 100 exTail [some (.cell c), some (.d ar), some (.d nm), some (.d (.int ((n + 1 : Nat) : Int))), u4, u5, u6, some (.d nd), some (.d (.int (a : Int))), u9] m) fun r m' => wp (fin false ms r m') Q := by
  have exprE : ∀ {M : Store}, Dc m0 c M → ∃ (ds : List D) (m' : Store), R k 13 [.cell c, .d ar, .d nm, .d (.int (n : Int))] M = .ok (.d (.lst ds)) m' ∧ Xp ds ∧ ds.length ≤ bnd n ∧ Dc m0 c m' := fun {M} s => by
    obtain ⟨v, m', e, ds, rfl, h⟩ := wp_eq (ih m0 M (fun v M => ∃ ds : List D, v = .d (.lst ds) ∧ Xp ds ∧ ds.length ≤ bnd n ∧ Dc m0 c M) s fun v m' hv s' => by
      obtain ⟨r, rfl, h1, h2⟩ := hv
      exact ⟨r, rfl, h1, h2, s'⟩)
    exact ⟨ds, m', e, h⟩
  show wp (execSs tab.gvals (R k) 100 (.cons (.asg 5 (.lm false (.disp .nil))) (.cons (.forr (.rng1 (.var 8)) (.name 6) (.cons (.asg 5 (.bin .Add (.var 5) (.call 13 (.cons (.var 0) (.cons (.var 1) (.cons (.var 2) (.cons (.bin .Sub (.var 3) (.con (.int 1))) .nil))))))) .nil)) (.cons (.ret (.ite (.cmp .Lt (.b1 .len (.var 5)) (.con (.int 40))) (.bin .Add (.var 5) (.lm false (.disp (.cons (.var 7) .nil)))) (.call 12 (.cons (.var 0) (.cons (.var 2) .nil))))) .nil))) _ _) _
  refine x_asgE (ev_dispF es_nil rfl (by simp)) ?_
  simp only [List.set_cons_succ, List.set_cons_zero]
  refine x_forI (ExI m0 c ar nm n u4 u9 nd a) (rng_eq (n := a) (by omega) (ev_var rfl)) ⟨u6, [], rfl, h, rfl, fun x => by simp [rngD, heights], by simp, by simp [rngD]⟩ ?_ ?_
  · rintro d rest ρ M ⟨x6, ds, rfl, s, hn, hh, hl, hr⟩
    simp only [List.length_cons] at hh hl hr
    refine ⟨_, rfl, ?_⟩
    obtain ⟨es, m', e, ⟨x1, x2⟩, xl, s'⟩ := exprE s
    have t1 : (a - (rest.length + 1)) + 1 = a - rest.length := by omega
    have hle : (a - (rest.length + 1)) * bnd n ≤ 3 * bnd n := Nat.mul_le_mul_right _ (by omega)
    have hsum : (a - rest.length) * bnd n = (a - (rest.length + 1)) * bnd n + bnd n := by rw [← t1, Nat.add_mul, Nat.one_mul]
    refine x_asgE (ev_add2 (ev_var rfl) (ev_rec (n := n) rfl rfl rfl rfl e) (add_l (by omega))) ?_
    refine x_nil ⟨_, ds ++ es, rfl, s', by rw [List.all_append, hn, x1]; rfl, fun x => ?_, ?_, by omega⟩
    · rw [heights_app, hh, Option.bind_some, x2]
      congr 1; omega
    · rw [List.length_append, hsum]; omega
  · rintro ρ M ⟨x6, ds, rfl, s, hn, hh, hl, hr⟩
    simp only [List.length_nil, Nat.sub_zero] at hh hl
    have hle : a * bnd n ≤ 3 * bnd n := Nat.mul_le_mul_right _ a3
    have hc : (ds.length : Int) < 40 := by omega
    refine x_ret (wp_is (ev_iteT (m1 := M) (by simp [AW.evT, AW.lift_some, AW.Out.bind_ok, AW.evLb, AW.evalE, AW.evalB, AW.evalEs, AW.evalO, AW.evalC, AW.evalL, AW.evalIt, AW.evOr, AW.evAnd, AW.evNot, AW.evIte, AW.evTup, AW.evLm, AW.evDisp, AW.evCall, AW.evCons, AW.evStar, AW.evNil, AW.evNoPart, AW.evDsp, AW.evPart, AW.evYes, AW.evSli, AW.ev1, AW.ev2, AW.evVar, AW.evCon, AW.cmpV, LK.cLt, LK.cLe, LK.cGt, LK.cGe, AW.Val.datas, AW.allocL, AW.wp_bind, AW.wp_ok, AW.wp_ite, AW.evChain, AW.Tg.slots, LK.gv_MAX_LETTERS, LK.gv_KEYWORDS, LK.gv_MAX_PARAMETERS, LK.gv_MAX_OPERANDS, LK.gv_MAX_NODES, LK.gv_LAZY, LK.gv_STRICT, LK.gv_LEAVES, AW.idxL0, AW.idxL1, AW.idxL2, AW.idxL3, AW.idxL4, AW.idxD_0, AW.idxD_1, AW.sl_lst, AW.sl_tup, AW.ix_some, AW.i_non_bool, AW.i_non_int, AW.i_non_str, AW.i_non_tuple, AW.i_non_list, AW.i_non_dict, AW.i_bl_bool, AW.i_bl_int, AW.i_bl_str, AW.i_bl_tuple, AW.i_bl_list, AW.i_bl_dict, AW.i_int_bool, AW.i_int_int, AW.i_int_str, AW.i_int_tuple, AW.i_int_list, AW.i_int_dict, AW.i_str_bool, AW.i_str_int, AW.i_str_str, AW.i_str_tuple, AW.i_str_list, AW.i_str_dict, AW.i_tup_bool, AW.i_tup_int, AW.i_tup_str, AW.i_tup_tuple, AW.i_tup_list, AW.i_tup_dict, AW.i_lst_bool, AW.i_lst_int, AW.i_lst_str, AW.i_lst_tuple, AW.i_lst_list, AW.i_lst_dict, AW.i_dct_bool, AW.i_dct_int, AW.i_dct_str, AW.i_dct_tuple, AW.i_dct_list, AW.i_dct_dict, AW.t_non, AW.t_bl, AW.t_int, AW.t_tup, AW.t_lst, AW.pk_d, AW.pk_c, AW.tv_d, AW.ln_tup, AW.ln_lst, AW.ln_str, AW.b_len, AW.b_len2, AW.b_len3, AW.b_abs, AW.b_dlen, AW.b_all, AW.b_any, AW.b_int, AW.b_intb, AW.b_tupl, AW.b_tupt, AW.dt_d, hc]) (ev_add2 (ev_var rfl) (ev_one (ev_var rfl)) (add_l (by simp; omega)))) (fin_ret ?_))
    rw [s.takeS hs]
    refine q _ _ ⟨ds ++ [nd], rfl, ⟨by rw [List.all_append, hn]; simp [hnd], fun x => ?_⟩, ?_⟩ s
    · rw [heights_app, hh, Option.bind_some]
      show (if x + a < arity nd then none else some (x + a - arity nd + 1)) = _
      rw [ha, if_neg (by omega)]
      congr 1; omega
    · rw [List.length_append]
      show _ ≤ 3 * bnd n + 1
      simp only [List.length_singleton]; omega
end LK
set_option maxRecDepth 100000
set_option maxHeartbeats 4000000
namespace LK
open PySem AW
def arD (w2 w3 : Str) (a : Int) : D := .dct [.str w2, .str w3] [.int a, .int 1]
theorem ar_ne (w2 w3 : Str) (a : Int) : cmpD .Eq (arD w2 w3 a) (.dct [] []) = some false := rfl
theorem sort2 (x y : Str) : ∃ u v, sortS [x, y] = [u, v] ∧ (u = x ∨ u = y) ∧ (v = x ∨ v = y) := by
  show ∃ u v, insS x [y] = [u, v] ∧ _
  unfold insS
  split
  · exact ⟨x, y, rfl, .inl rfl, .inr rfl⟩
  · exact ⟨y, x, rfl, .inr rfl, .inl rfl⟩
theorem ev_sorted {G : List D} {Φ : Fns} {ρ : Ev} {m : Store} {i : Nat} {x y : Str} {vs : List D} (h : ρ[i]? = some (some (.d (.dct [.str x, .str y] vs)))) : evalE G Φ (.lm false (.blt .sorted (.var i))) ρ m = .ok (.d (.lst ((sortS [x, y]).map D.str))) m := by
  have e : lbD .sorted (.dct [.str x, .str y] vs) = some ((sortS [x, y]).map D.str) := rfl
  simp only [evalE, evalL, evLm, evLb, evVar, h, Out.bind_ok, pk_d, lift_some, e, allocL, Bool.false_eq_true, if_false]
theorem ev_dget {G : List D} {Φ : Fns} {ρ : Ev} {m : Store} {i j : Nat} {a k z : D} (h : ρ[i]? = some (some (.d a))) (h2 : ρ[j]? = some (some (.d k))) (hz : dgetD a k = some z) : evalE G Φ (.dget (.var i) (.var j)) ρ m = .ok (.d z) m := by
  simp [evalE, ev2, evVar, h, h2, hz, peek]
theorem ar_get {w2 w3 : Str} (hne : w2 ≠ w3) {a : Int} (h0 : 0 ≤ a) (h3 : a ≤ 3) {w : Str} (h : w = w2 ∨ w = w3) : ∃ b : Nat, b ≤ 3 ∧ dgetD (arD w2 w3 a) (.str w) = some (.int (b : Int)) := by
  by_cases e : w = w2
  · subst e
    refine ⟨a.toNat, by omega, ?_⟩
    have : ((a.toNat : Nat) : Int) = a := by omega
    rw [this]
    show (if keyOfD (.str w) = some (.inr w) then some (D.int a) else _) = _
    exact if_pos rfl
  · rcases h with h | h
    · exact (e h).elim
    · subst h
      refine ⟨1, by omega, ?_⟩
      show (if keyOfD (.str w2) = some (.inr w) then some (D.int a) else (if keyOfD (.str w) = some (.inr w) then some (D.int 1) else _)) = _
      rw [if_neg (by intro z; cases z; exact e rfl)]; exact if_pos rfl
def stepW : List Str := ["s", "t", "dec", "addition", "s"]
theorem stepW_ok : ∀ w ∈ stepW, nameS w = true := by
  have : stepW.all nameS = true := by decide +kernel
  exact List.all_eq_true.mp this
theorem bnd_lt : ∀ n : Nat, n ≤ 2 → 3 * bnd n < 40
  | 0, _ => by decide
  | 1, _ => by decide
  | 2, _ => by decide
  | n + 3, h => by omega
theorem d_expr {c : Nat} {w0 w1 w2 w3 : Str} (hw : ∀ w ∈ [w0, w1, w2, w3], nameS w = true) (hne : w2 ≠ w3) {a : Int} (a0 : 0 ≤ a) (a3 : a ≤ 3) : ∀ (n : Nat), n ≤ 3 → ∀ (k : Nat), n + 4 ≤ k → Draws (fun m => R k 13 [.cell c, .d (arD w2 w3 a), .d (.lst [.str w0, .str w1, .str w2, .str w3]), .d (.int (n : Int))] m) c (Exq (bnd n)) := by
  intro n
  induction n with
  | zero =>
    intro _ k hk
    obtain ⟨k, rfl⟩ : ∃ j, k = j + 4 := ⟨k - 4, by omega⟩
    intro m0 m Q h q
    refine wp_run (f := f13) [some (.cell c), some (.d (arD w2 w3 a)), some (.d (.lst [.str w0, .str w1, .str w2, .str w3])), some (.d (.int ((0 : Nat) : Int))), none, none, none, none, none, none] rfl rfl rfl (x_asgE (v := .d (.int 0)) (m' := m) (by simp [AW.evT, AW.lift_some, AW.Out.bind_ok, AW.evLb, AW.evalE, AW.evalB, AW.evalEs, AW.evalO, AW.evalC, AW.evalL, AW.evalIt, AW.evOr, AW.evAnd, AW.evNot, AW.evIte, AW.evTup, AW.evLm, AW.evDisp, AW.evCall, AW.evCons, AW.evStar, AW.evNil, AW.evNoPart, AW.evDsp, AW.evPart, AW.evYes, AW.evSli, AW.ev1, AW.ev2, AW.evVar, AW.evCon, AW.cmpV, LK.cLt, LK.cLe, LK.cGt, LK.cGe, AW.Val.datas, AW.allocL, AW.wp_bind, AW.wp_ok, AW.wp_ite, AW.evChain, AW.Tg.slots, LK.gv_MAX_LETTERS, LK.gv_KEYWORDS, LK.gv_MAX_PARAMETERS, LK.gv_MAX_OPERANDS, LK.gv_MAX_NODES, LK.gv_LAZY, LK.gv_STRICT, LK.gv_LEAVES, AW.idxL0, AW.idxL1, AW.idxL2, AW.idxL3, AW.idxL4, AW.idxD_0, AW.idxD_1, AW.sl_lst, AW.sl_tup, AW.ix_some, AW.i_non_bool, AW.i_non_int, AW.i_non_str, AW.i_non_tuple, AW.i_non_list, AW.i_non_dict, AW.i_bl_bool, AW.i_bl_int, AW.i_bl_str, AW.i_bl_tuple, AW.i_bl_list, AW.i_bl_dict, AW.i_int_bool, AW.i_int_int, AW.i_int_str, AW.i_int_tuple, AW.i_int_list, AW.i_int_dict, AW.i_str_bool, AW.i_str_int, AW.i_str_str, AW.i_str_tuple, AW.i_str_list, AW.i_str_dict, AW.i_tup_bool, AW.i_tup_int, AW.i_tup_str, AW.i_tup_tuple, AW.i_tup_list, AW.i_tup_dict, AW.i_lst_bool, AW.i_lst_int, AW.i_lst_str, AW.i_lst_tuple, AW.i_lst_list, AW.i_lst_dict, AW.i_dct_bool, AW.i_dct_int, AW.i_dct_str, AW.i_dct_tuple, AW.i_dct_list, AW.i_dct_dict, AW.t_non, AW.t_bl, AW.t_int, AW.t_tup, AW.t_lst, AW.pk_d, AW.pk_c, AW.tv_d, AW.ln_tup, AW.ln_lst, AW.ln_str, AW.b_len, AW.b_len2, AW.b_len3, AW.b_abs, AW.b_dlen, AW.b_all, AW.b_any, AW.b_int, AW.b_intb, AW.b_tupl, AW.b_tupt, AW.dt_d]) (x_if ?_))
    refine wp_is (a := true) (m := m) (by simp [AW.evT, AW.lift_some, AW.Out.bind_ok, AW.evLb, AW.evalE, AW.evalB, AW.evalEs, AW.evalO, AW.evalC, AW.evalL, AW.evalIt, AW.evOr, AW.evAnd, AW.evNot, AW.evIte, AW.evTup, AW.evLm, AW.evDisp, AW.evCall, AW.evCons, AW.evStar, AW.evNil, AW.evNoPart, AW.evDsp, AW.evPart, AW.evYes, AW.evSli, AW.ev1, AW.ev2, AW.evVar, AW.evCon, AW.cmpV, LK.cLt, LK.cLe, LK.cGt, LK.cGe, AW.Val.datas, AW.allocL, AW.wp_bind, AW.wp_ok, AW.wp_ite, AW.evChain, AW.Tg.slots, LK.gv_MAX_LETTERS, LK.gv_KEYWORDS, LK.gv_MAX_PARAMETERS, LK.gv_MAX_OPERANDS, LK.gv_MAX_NODES, LK.gv_LAZY, LK.gv_STRICT, LK.gv_LEAVES, AW.idxL0, AW.idxL1, AW.idxL2, AW.idxL3, AW.idxL4, AW.idxD_0, AW.idxD_1, AW.sl_lst, AW.sl_tup, AW.ix_some, AW.i_non_bool, AW.i_non_int, AW.i_non_str, AW.i_non_tuple, AW.i_non_list, AW.i_non_dict, AW.i_bl_bool, AW.i_bl_int, AW.i_bl_str, AW.i_bl_tuple, AW.i_bl_list, AW.i_bl_dict, AW.i_int_bool, AW.i_int_int, AW.i_int_str, AW.i_int_tuple, AW.i_int_list, AW.i_int_dict, AW.i_str_bool, AW.i_str_int, AW.i_str_str, AW.i_str_tuple, AW.i_str_list, AW.i_str_dict, AW.i_tup_bool, AW.i_tup_int, AW.i_tup_str, AW.i_tup_tuple, AW.i_tup_list, AW.i_tup_dict, AW.i_lst_bool, AW.i_lst_int, AW.i_lst_str, AW.i_lst_tuple, AW.i_lst_list, AW.i_lst_dict, AW.i_dct_bool, AW.i_dct_int, AW.i_dct_str, AW.i_dct_tuple, AW.i_dct_list, AW.i_dct_dict, AW.t_non, AW.t_bl, AW.t_int, AW.t_tup, AW.t_lst, AW.pk_d, AW.pk_c, AW.tv_d, AW.ln_tup, AW.ln_lst, AW.ln_str, AW.b_len, AW.b_len2, AW.b_len3, AW.b_abs, AW.b_dlen, AW.b_all, AW.b_any, AW.b_int, AW.b_intb, AW.b_tupl, AW.b_tupt, AW.dt_d]) ?_
    rw [if_pos rfl]
    obtain ⟨v, m1, e, d, rfl, hd, ha, s⟩ := wp_eq (d_leaf (k := k + 3) (by omega) hw m0 m (fun v M => ∃ d, v = .d (.lst [d]) ∧ nodeB d = true ∧ arity d = 0 ∧ Dc m0 c M) h fun v m' hv s' => by
      obtain ⟨r, rfl, h1, h2⟩ := hv
      exact ⟨r, rfl, h1, h2, s'⟩)
    refine x_ret (wp_is (ev_pick rfl (ev_var rfl) e) (fin_ret ?_))
    rw [s.takeS h]
    exact q _ _ ⟨[d], rfl, xp_one hd ha, by simp [bnd]⟩ s
  | succ n ih =>
    intro hn k hk
    obtain ⟨k, rfl⟩ : ∃ j, k = j + 5 := ⟨k - 5, by omega⟩
    have ih := ih (by omega) (k + 4) (by omega)
    have hb := bnd_lt n (by omega)
    intro m0 m Q h q
    obtain ⟨r, m1, e1, r0, r1, s1⟩ := rollE0 (k := k + 4) (by omega) (n := 8) (by omega) (by omega) h
    have hpos : (0 : Int) < ((n + 1 : Nat) : Int) := by omega
    have hpos' : (0 : Int) < (n : Int) + 1 := by omega
    refine wp_run (f := f13) [some (.cell c), some (.d (arD w2 w3 a)), some (.d (.lst [.str w0, .str w1, .str w2, .str w3])), some (.d (.int ((n + 1 : Nat) : Int))), none, none, none, none, none, none] rfl rfl rfl (x_asgE (v := .d (.int r)) (m' := m1) (by simp [AW.evT, AW.lift_some, AW.Out.bind_ok, AW.evLb, AW.evalE, AW.evalB, AW.evalEs, AW.evalO, AW.evalC, AW.evalL, AW.evalIt, AW.evOr, AW.evAnd, AW.evNot, AW.evIte, AW.evTup, AW.evLm, AW.evDisp, AW.evCall, AW.evCons, AW.evStar, AW.evNil, AW.evNoPart, AW.evDsp, AW.evPart, AW.evYes, AW.evSli, AW.ev1, AW.ev2, AW.evVar, AW.evCon, AW.cmpV, LK.cLt, LK.cLe, LK.cGt, LK.cGe, AW.Val.datas, AW.allocL, AW.wp_bind, AW.wp_ok, AW.wp_ite, AW.evChain, AW.Tg.slots, LK.gv_MAX_LETTERS, LK.gv_KEYWORDS, LK.gv_MAX_PARAMETERS, LK.gv_MAX_OPERANDS, LK.gv_MAX_NODES, LK.gv_LAZY, LK.gv_STRICT, LK.gv_LEAVES, AW.idxL0, AW.idxL1, AW.idxL2, AW.idxL3, AW.idxL4, AW.idxD_0, AW.idxD_1, AW.sl_lst, AW.sl_tup, AW.ix_some, AW.i_non_bool, AW.i_non_int, AW.i_non_str, AW.i_non_tuple, AW.i_non_list, AW.i_non_dict, AW.i_bl_bool, AW.i_bl_int, AW.i_bl_str, AW.i_bl_tuple, AW.i_bl_list, AW.i_bl_dict, AW.i_int_bool, AW.i_int_int, AW.i_int_str, AW.i_int_tuple, AW.i_int_list, AW.i_int_dict, AW.i_str_bool, AW.i_str_int, AW.i_str_str, AW.i_str_tuple, AW.i_str_list, AW.i_str_dict, AW.i_tup_bool, AW.i_tup_int, AW.i_tup_str, AW.i_tup_tuple, AW.i_tup_list, AW.i_tup_dict, AW.i_lst_bool, AW.i_lst_int, AW.i_lst_str, AW.i_lst_tuple, AW.i_lst_list, AW.i_lst_dict, AW.i_dct_bool, AW.i_dct_int, AW.i_dct_str, AW.i_dct_tuple, AW.i_dct_list, AW.i_dct_dict, AW.t_non, AW.t_bl, AW.t_int, AW.t_tup, AW.t_lst, AW.pk_d, AW.pk_c, AW.tv_d, AW.ln_tup, AW.ln_lst, AW.ln_str, AW.b_len, AW.b_len2, AW.b_len3, AW.b_abs, AW.b_dlen, AW.b_all, AW.b_any, AW.b_int, AW.b_intb, AW.b_tupl, AW.b_tupt, AW.dt_d, hpos', e1]) (x_if ?_))
    simp only [List.set_cons_succ, List.set_cons_zero]
    by_cases h2 : r < 2
    · refine wp_is (a := true) (m := m1) (by simp [AW.evT, AW.lift_some, AW.Out.bind_ok, AW.evLb, AW.evalE, AW.evalB, AW.evalEs, AW.evalO, AW.evalC, AW.evalL, AW.evalIt, AW.evOr, AW.evAnd, AW.evNot, AW.evIte, AW.evTup, AW.evLm, AW.evDisp, AW.evCall, AW.evCons, AW.evStar, AW.evNil, AW.evNoPart, AW.evDsp, AW.evPart, AW.evYes, AW.evSli, AW.ev1, AW.ev2, AW.evVar, AW.evCon, AW.cmpV, LK.cLt, LK.cLe, LK.cGt, LK.cGe, AW.Val.datas, AW.allocL, AW.wp_bind, AW.wp_ok, AW.wp_ite, AW.evChain, AW.Tg.slots, LK.gv_MAX_LETTERS, LK.gv_KEYWORDS, LK.gv_MAX_PARAMETERS, LK.gv_MAX_OPERANDS, LK.gv_MAX_NODES, LK.gv_LAZY, LK.gv_STRICT, LK.gv_LEAVES, AW.idxL0, AW.idxL1, AW.idxL2, AW.idxL3, AW.idxL4, AW.idxD_0, AW.idxD_1, AW.sl_lst, AW.sl_tup, AW.ix_some, AW.i_non_bool, AW.i_non_int, AW.i_non_str, AW.i_non_tuple, AW.i_non_list, AW.i_non_dict, AW.i_bl_bool, AW.i_bl_int, AW.i_bl_str, AW.i_bl_tuple, AW.i_bl_list, AW.i_bl_dict, AW.i_int_bool, AW.i_int_int, AW.i_int_str, AW.i_int_tuple, AW.i_int_list, AW.i_int_dict, AW.i_str_bool, AW.i_str_int, AW.i_str_str, AW.i_str_tuple, AW.i_str_list, AW.i_str_dict, AW.i_tup_bool, AW.i_tup_int, AW.i_tup_str, AW.i_tup_tuple, AW.i_tup_list, AW.i_tup_dict, AW.i_lst_bool, AW.i_lst_int, AW.i_lst_str, AW.i_lst_tuple, AW.i_lst_list, AW.i_lst_dict, AW.i_dct_bool, AW.i_dct_int, AW.i_dct_str, AW.i_dct_tuple, AW.i_dct_list, AW.i_dct_dict, AW.t_non, AW.t_bl, AW.t_int, AW.t_tup, AW.t_lst, AW.pk_d, AW.pk_c, AW.tv_d, AW.ln_tup, AW.ln_lst, AW.ln_str, AW.b_len, AW.b_len2, AW.b_len3, AW.b_abs, AW.b_dlen, AW.b_all, AW.b_any, AW.b_int, AW.b_intb, AW.b_tupl, AW.b_tupt, AW.dt_d, h2]) ?_
      rw [if_pos rfl]
      obtain ⟨v, m2, e, d, rfl, hd, ha, s⟩ := wp_eq (d_leaf (k := k + 4) (by omega) hw m0 m1 (fun v M => ∃ d, v = .d (.lst [d]) ∧ nodeB d = true ∧ arity d = 0 ∧ Dc m0 c M) s1 fun v m' hv s' => by
        obtain ⟨r, rfl, h1, h2⟩ := hv
        exact ⟨r, rfl, h1, h2, s'⟩)
      refine x_ret (wp_is (ev_pick rfl (ev_var rfl) e) (fin_ret ?_))
      rw [s.takeS h]
      refine q _ _ ⟨[d], rfl, xp_one hd ha, ?_⟩ s
      simp [bnd]
    · have hc : evT (evalE tab.gvals (R (k + 4)) (.bop false (.cons (.cmp .Lt (.var 4) (.con (.int 2))) (.cons (.bop true (.cons (.cmp .Gt (.var 4) (.con (.int 4))) (.cons (.cmp .Eq (.var 1) .dict0) .nil))) .nil)))) [some (.cell c), some (.d (arD w2 w3 a)), some (.d (.lst [.str w0, .str w1, .str w2, .str w3])), some (.d (.int ((n + 1 : Nat) : Int))), some (.d (.int r)), none, none, none, none, none] m1 = .ok false m1 := by
        by_cases h4 : 4 < r
        · simp [AW.evT, AW.lift_some, AW.Out.bind_ok, AW.evLb, AW.evalE, AW.evalB, AW.evalEs, AW.evalO, AW.evalC, AW.evalL, AW.evalIt, AW.evOr, AW.evAnd, AW.evNot, AW.evIte, AW.evTup, AW.evLm, AW.evDisp, AW.evCall, AW.evCons, AW.evStar, AW.evNil, AW.evNoPart, AW.evDsp, AW.evPart, AW.evYes, AW.evSli, AW.ev1, AW.ev2, AW.evVar, AW.evCon, AW.cmpV, LK.cLt, LK.cLe, LK.cGt, LK.cGe, AW.Val.datas, AW.allocL, AW.wp_bind, AW.wp_ok, AW.wp_ite, AW.evChain, AW.Tg.slots, LK.gv_MAX_LETTERS, LK.gv_KEYWORDS, LK.gv_MAX_PARAMETERS, LK.gv_MAX_OPERANDS, LK.gv_MAX_NODES, LK.gv_LAZY, LK.gv_STRICT, LK.gv_LEAVES, AW.idxL0, AW.idxL1, AW.idxL2, AW.idxL3, AW.idxL4, AW.idxD_0, AW.idxD_1, AW.sl_lst, AW.sl_tup, AW.ix_some, AW.i_non_bool, AW.i_non_int, AW.i_non_str, AW.i_non_tuple, AW.i_non_list, AW.i_non_dict, AW.i_bl_bool, AW.i_bl_int, AW.i_bl_str, AW.i_bl_tuple, AW.i_bl_list, AW.i_bl_dict, AW.i_int_bool, AW.i_int_int, AW.i_int_str, AW.i_int_tuple, AW.i_int_list, AW.i_int_dict, AW.i_str_bool, AW.i_str_int, AW.i_str_str, AW.i_str_tuple, AW.i_str_list, AW.i_str_dict, AW.i_tup_bool, AW.i_tup_int, AW.i_tup_str, AW.i_tup_tuple, AW.i_tup_list, AW.i_tup_dict, AW.i_lst_bool, AW.i_lst_int, AW.i_lst_str, AW.i_lst_tuple, AW.i_lst_list, AW.i_lst_dict, AW.i_dct_bool, AW.i_dct_int, AW.i_dct_str, AW.i_dct_tuple, AW.i_dct_list, AW.i_dct_dict, AW.t_non, AW.t_bl, AW.t_int, AW.t_tup, AW.t_lst, AW.pk_d, AW.pk_c, AW.tv_d, AW.ln_tup, AW.ln_lst, AW.ln_str, AW.b_len, AW.b_len2, AW.b_len3, AW.b_abs, AW.b_dlen, AW.b_all, AW.b_any, AW.b_int, AW.b_intb, AW.b_tupl, AW.b_tupt, AW.dt_d, h2, h4, ar_ne]
        · simp [AW.evT, AW.lift_some, AW.Out.bind_ok, AW.evLb, AW.evalE, AW.evalB, AW.evalEs, AW.evalO, AW.evalC, AW.evalL, AW.evalIt, AW.evOr, AW.evAnd, AW.evNot, AW.evIte, AW.evTup, AW.evLm, AW.evDisp, AW.evCall, AW.evCons, AW.evStar, AW.evNil, AW.evNoPart, AW.evDsp, AW.evPart, AW.evYes, AW.evSli, AW.ev1, AW.ev2, AW.evVar, AW.evCon, AW.cmpV, LK.cLt, LK.cLe, LK.cGt, LK.cGe, AW.Val.datas, AW.allocL, AW.wp_bind, AW.wp_ok, AW.wp_ite, AW.evChain, AW.Tg.slots, LK.gv_MAX_LETTERS, LK.gv_KEYWORDS, LK.gv_MAX_PARAMETERS, LK.gv_MAX_OPERANDS, LK.gv_MAX_NODES, LK.gv_LAZY, LK.gv_STRICT, LK.gv_LEAVES, AW.idxL0, AW.idxL1, AW.idxL2, AW.idxL3, AW.idxL4, AW.idxD_0, AW.idxD_1, AW.sl_lst, AW.sl_tup, AW.ix_some, AW.i_non_bool, AW.i_non_int, AW.i_non_str, AW.i_non_tuple, AW.i_non_list, AW.i_non_dict, AW.i_bl_bool, AW.i_bl_int, AW.i_bl_str, AW.i_bl_tuple, AW.i_bl_list, AW.i_bl_dict, AW.i_int_bool, AW.i_int_int, AW.i_int_str, AW.i_int_tuple, AW.i_int_list, AW.i_int_dict, AW.i_str_bool, AW.i_str_int, AW.i_str_str, AW.i_str_tuple, AW.i_str_list, AW.i_str_dict, AW.i_tup_bool, AW.i_tup_int, AW.i_tup_str, AW.i_tup_tuple, AW.i_tup_list, AW.i_tup_dict, AW.i_lst_bool, AW.i_lst_int, AW.i_lst_str, AW.i_lst_tuple, AW.i_lst_list, AW.i_lst_dict, AW.i_dct_bool, AW.i_dct_int, AW.i_dct_str, AW.i_dct_tuple, AW.i_dct_list, AW.i_dct_dict, AW.t_non, AW.t_bl, AW.t_int, AW.t_tup, AW.t_lst, AW.pk_d, AW.pk_c, AW.tv_d, AW.ln_tup, AW.ln_lst, AW.ln_str, AW.b_len, AW.b_len2, AW.b_len3, AW.b_abs, AW.b_dlen, AW.b_all, AW.b_any, AW.b_int, AW.b_intb, AW.b_tupl, AW.b_tupt, AW.dt_d, h2, h4]
      refine wp_is hc ?_
      rw [if_neg (by simp)]
      refine x_nil (x_par (wp_is (a := [.d (.tup [.str "test"]), .d (.int 3)]) (m := m1) (by simp [AW.evT, AW.lift_some, AW.Out.bind_ok, AW.evLb, AW.evalE, AW.evalB, AW.evalEs, AW.evalO, AW.evalC, AW.evalL, AW.evalIt, AW.evOr, AW.evAnd, AW.evNot, AW.evIte, AW.evTup, AW.evLm, AW.evDisp, AW.evCall, AW.evCons, AW.evStar, AW.evNil, AW.evNoPart, AW.evDsp, AW.evPart, AW.evYes, AW.evSli, AW.ev1, AW.ev2, AW.evVar, AW.evCon, AW.cmpV, LK.cLt, LK.cLe, LK.cGt, LK.cGe, AW.Val.datas, AW.allocL, AW.wp_bind, AW.wp_ok, AW.wp_ite, AW.evChain, AW.Tg.slots, LK.gv_MAX_LETTERS, LK.gv_KEYWORDS, LK.gv_MAX_PARAMETERS, LK.gv_MAX_OPERANDS, LK.gv_MAX_NODES, LK.gv_LAZY, LK.gv_STRICT, LK.gv_LEAVES, AW.idxL0, AW.idxL1, AW.idxL2, AW.idxL3, AW.idxL4, AW.idxD_0, AW.idxD_1, AW.sl_lst, AW.sl_tup, AW.ix_some, AW.i_non_bool, AW.i_non_int, AW.i_non_str, AW.i_non_tuple, AW.i_non_list, AW.i_non_dict, AW.i_bl_bool, AW.i_bl_int, AW.i_bl_str, AW.i_bl_tuple, AW.i_bl_list, AW.i_bl_dict, AW.i_int_bool, AW.i_int_int, AW.i_int_str, AW.i_int_tuple, AW.i_int_list, AW.i_int_dict, AW.i_str_bool, AW.i_str_int, AW.i_str_str, AW.i_str_tuple, AW.i_str_list, AW.i_str_dict, AW.i_tup_bool, AW.i_tup_int, AW.i_tup_str, AW.i_tup_tuple, AW.i_tup_list, AW.i_tup_dict, AW.i_lst_bool, AW.i_lst_int, AW.i_lst_str, AW.i_lst_tuple, AW.i_lst_list, AW.i_lst_dict, AW.i_dct_bool, AW.i_dct_int, AW.i_dct_str, AW.i_dct_tuple, AW.i_dct_list, AW.i_dct_dict, AW.t_non, AW.t_bl, AW.t_int, AW.t_tup, AW.t_lst, AW.pk_d, AW.pk_c, AW.tv_d, AW.ln_tup, AW.ln_lst, AW.ln_str, AW.b_len, AW.b_len2, AW.b_len3, AW.b_abs, AW.b_dlen, AW.b_all, AW.b_any, AW.b_int, AW.b_intb, AW.b_tupl, AW.b_tupt, AW.dt_d, sm]) ⟨_, rfl, ?_⟩))
      refine x_if ?_
      by_cases h4 : r < 4
      · refine wp_is (a := true) (m := m1) (by simp [AW.evT, AW.lift_some, AW.Out.bind_ok, AW.evLb, AW.evalE, AW.evalB, AW.evalEs, AW.evalO, AW.evalC, AW.evalL, AW.evalIt, AW.evOr, AW.evAnd, AW.evNot, AW.evIte, AW.evTup, AW.evLm, AW.evDisp, AW.evCall, AW.evCons, AW.evStar, AW.evNil, AW.evNoPart, AW.evDsp, AW.evPart, AW.evYes, AW.evSli, AW.ev1, AW.ev2, AW.evVar, AW.evCon, AW.cmpV, LK.cLt, LK.cLe, LK.cGt, LK.cGe, AW.Val.datas, AW.allocL, AW.wp_bind, AW.wp_ok, AW.wp_ite, AW.evChain, AW.Tg.slots, LK.gv_MAX_LETTERS, LK.gv_KEYWORDS, LK.gv_MAX_PARAMETERS, LK.gv_MAX_OPERANDS, LK.gv_MAX_NODES, LK.gv_LAZY, LK.gv_STRICT, LK.gv_LEAVES, AW.idxL0, AW.idxL1, AW.idxL2, AW.idxL3, AW.idxL4, AW.idxD_0, AW.idxD_1, AW.sl_lst, AW.sl_tup, AW.ix_some, AW.i_non_bool, AW.i_non_int, AW.i_non_str, AW.i_non_tuple, AW.i_non_list, AW.i_non_dict, AW.i_bl_bool, AW.i_bl_int, AW.i_bl_str, AW.i_bl_tuple, AW.i_bl_list, AW.i_bl_dict, AW.i_int_bool, AW.i_int_int, AW.i_int_str, AW.i_int_tuple, AW.i_int_list, AW.i_int_dict, AW.i_str_bool, AW.i_str_int, AW.i_str_str, AW.i_str_tuple, AW.i_str_list, AW.i_str_dict, AW.i_tup_bool, AW.i_tup_int, AW.i_tup_str, AW.i_tup_tuple, AW.i_tup_list, AW.i_tup_dict, AW.i_lst_bool, AW.i_lst_int, AW.i_lst_str, AW.i_lst_tuple, AW.i_lst_list, AW.i_lst_dict, AW.i_dct_bool, AW.i_dct_int, AW.i_dct_str, AW.i_dct_tuple, AW.i_dct_list, AW.i_dct_dict, AW.t_non, AW.t_bl, AW.t_int, AW.t_tup, AW.t_lst, AW.pk_d, AW.pk_c, AW.tv_d, AW.ln_tup, AW.ln_lst, AW.ln_str, AW.b_len, AW.b_len2, AW.b_len3, AW.b_abs, AW.b_dlen, AW.b_all, AW.b_any, AW.b_int, AW.b_intb, AW.b_tupl, AW.b_tupt, AW.dt_d, h4]) ?_
        rw [if_pos rfl]
        obtain ⟨d2, m2, e2, hd2, s2⟩ := pickE0 (k := k + 4) (by omega) (ds := [.int 0, .int 1, .int 1, .int 2, .int 2, .int 3]) (by simp) (by simp) s1
        obtain ⟨j, rfl, hj⟩ : ∃ j : Nat, d2 = .int (j : Int) ∧ j ≤ 3 := by
          simp only [List.mem_cons, List.not_mem_nil, or_false] at hd2
          rcases hd2 with rfl | rfl | rfl | rfl | rfl | rfl
          · exact ⟨0, rfl, by omega⟩
          · exact ⟨1, rfl, by omega⟩
          · exact ⟨1, rfl, by omega⟩
          · exact ⟨2, rfl, by omega⟩
          · exact ⟨2, rfl, by omega⟩
          · exact ⟨3, rfl, by omega⟩
        obtain ⟨d3, m3, e3, hd3, s3⟩ := pickE0 (k := k + 4) (by omega) (ds := stepW.map D.str) (by simp [stepW]) (by simp [stepW]) s2
        obtain ⟨w, hw', rfl⟩ := List.mem_map.mp hd3
        refine x_asgE (ev_pick rfl (ev_dispF (es_cons ev_con (es_cons ev_con (es_cons ev_con (es_cons ev_con (es_cons ev_con (es_cons ev_con es_nil)))))) rfl (by simp)) e2) ?_
        refine x_asgE (ev_tupN (es_cons ev_con (es_cons (ev_pick rfl (ev_dispF (es_cons ev_con (es_cons ev_con (es_cons ev_con (es_cons ev_con (es_cons ev_con es_nil))))) rfl (by simp)) e3) (es_cons (ev_var rfl) es_nil))) rfl (by simp)) ?_
        refine x_nil (x_noE (m' := m3) (by simp [AW.evT, AW.lift_some, AW.Out.bind_ok, AW.evLb, AW.evalE, AW.evalB, AW.evalEs, AW.evalO, AW.evalC, AW.evalL, AW.evalIt, AW.evOr, AW.evAnd, AW.evNot, AW.evIte, AW.evTup, AW.evLm, AW.evDisp, AW.evCall, AW.evCons, AW.evStar, AW.evNil, AW.evNoPart, AW.evDsp, AW.evPart, AW.evYes, AW.evSli, AW.ev1, AW.ev2, AW.evVar, AW.evCon, AW.cmpV, LK.cLt, LK.cLe, LK.cGt, LK.cGe, AW.Val.datas, AW.allocL, AW.wp_bind, AW.wp_ok, AW.wp_ite, AW.evChain, AW.Tg.slots, LK.gv_MAX_LETTERS, LK.gv_KEYWORDS, LK.gv_MAX_PARAMETERS, LK.gv_MAX_OPERANDS, LK.gv_MAX_NODES, LK.gv_LAZY, LK.gv_STRICT, LK.gv_LEAVES, AW.idxL0, AW.idxL1, AW.idxL2, AW.idxL3, AW.idxL4, AW.idxD_0, AW.idxD_1, AW.sl_lst, AW.sl_tup, AW.ix_some, AW.i_non_bool, AW.i_non_int, AW.i_non_str, AW.i_non_tuple, AW.i_non_list, AW.i_non_dict, AW.i_bl_bool, AW.i_bl_int, AW.i_bl_str, AW.i_bl_tuple, AW.i_bl_list, AW.i_bl_dict, AW.i_int_bool, AW.i_int_int, AW.i_int_str, AW.i_int_tuple, AW.i_int_list, AW.i_int_dict, AW.i_str_bool, AW.i_str_int, AW.i_str_str, AW.i_str_tuple, AW.i_str_list, AW.i_str_dict, AW.i_tup_bool, AW.i_tup_int, AW.i_tup_str, AW.i_tup_tuple, AW.i_tup_list, AW.i_tup_dict, AW.i_lst_bool, AW.i_lst_int, AW.i_lst_str, AW.i_lst_tuple, AW.i_lst_list, AW.i_lst_dict, AW.i_dct_bool, AW.i_dct_int, AW.i_dct_str, AW.i_dct_tuple, AW.i_dct_list, AW.i_dct_dict, AW.t_non, AW.t_bl, AW.t_int, AW.t_tup, AW.t_lst, AW.pk_d, AW.pk_c, AW.tv_d, AW.ln_tup, AW.ln_lst, AW.ln_str, AW.b_len, AW.b_len2, AW.b_len3, AW.b_abs, AW.b_dlen, AW.b_all, AW.b_any, AW.b_int, AW.b_intb, AW.b_tupl, AW.b_tupt, AW.dt_d, show ¬ 4 < r by omega]) ?_)
        simp only [List.set_cons_succ, List.set_cons_zero]
        exact expr_tail ih hb (nd := .tup [.str "do", .str w, .int (j : Int)]) (a := j) (nb_do (stepW_ok w hw') (by omega) (by omega)) (by simp [arity]) hj h s3 q
      · refine wp_is (a := false) (m := m1) (by simp [AW.evT, AW.lift_some, AW.Out.bind_ok, AW.evLb, AW.evalE, AW.evalB, AW.evalEs, AW.evalO, AW.evalC, AW.evalL, AW.evalIt, AW.evOr, AW.evAnd, AW.evNot, AW.evIte, AW.evTup, AW.evLm, AW.evDisp, AW.evCall, AW.evCons, AW.evStar, AW.evNil, AW.evNoPart, AW.evDsp, AW.evPart, AW.evYes, AW.evSli, AW.ev1, AW.ev2, AW.evVar, AW.evCon, AW.cmpV, LK.cLt, LK.cLe, LK.cGt, LK.cGe, AW.Val.datas, AW.allocL, AW.wp_bind, AW.wp_ok, AW.wp_ite, AW.evChain, AW.Tg.slots, LK.gv_MAX_LETTERS, LK.gv_KEYWORDS, LK.gv_MAX_PARAMETERS, LK.gv_MAX_OPERANDS, LK.gv_MAX_NODES, LK.gv_LAZY, LK.gv_STRICT, LK.gv_LEAVES, AW.idxL0, AW.idxL1, AW.idxL2, AW.idxL3, AW.idxL4, AW.idxD_0, AW.idxD_1, AW.sl_lst, AW.sl_tup, AW.ix_some, AW.i_non_bool, AW.i_non_int, AW.i_non_str, AW.i_non_tuple, AW.i_non_list, AW.i_non_dict, AW.i_bl_bool, AW.i_bl_int, AW.i_bl_str, AW.i_bl_tuple, AW.i_bl_list, AW.i_bl_dict, AW.i_int_bool, AW.i_int_int, AW.i_int_str, AW.i_int_tuple, AW.i_int_list, AW.i_int_dict, AW.i_str_bool, AW.i_str_int, AW.i_str_str, AW.i_str_tuple, AW.i_str_list, AW.i_str_dict, AW.i_tup_bool, AW.i_tup_int, AW.i_tup_str, AW.i_tup_tuple, AW.i_tup_list, AW.i_tup_dict, AW.i_lst_bool, AW.i_lst_int, AW.i_lst_str, AW.i_lst_tuple, AW.i_lst_list, AW.i_lst_dict, AW.i_dct_bool, AW.i_dct_int, AW.i_dct_str, AW.i_dct_tuple, AW.i_dct_list, AW.i_dct_dict, AW.t_non, AW.t_bl, AW.t_int, AW.t_tup, AW.t_lst, AW.pk_d, AW.pk_c, AW.tv_d, AW.ln_tup, AW.ln_lst, AW.ln_str, AW.b_len, AW.b_len2, AW.b_len3, AW.b_abs, AW.b_dlen, AW.b_all, AW.b_any, AW.b_int, AW.b_intb, AW.b_tupl, AW.b_tupt, AW.dt_d, h4]) ?_
        rw [if_neg (by simp)]
        refine x_nil (x_if ?_)
        by_cases h5 : 4 < r
        · refine wp_is (a := true) (m := m1) (by simp [AW.evT, AW.lift_some, AW.Out.bind_ok, AW.evLb, AW.evalE, AW.evalB, AW.evalEs, AW.evalO, AW.evalC, AW.evalL, AW.evalIt, AW.evOr, AW.evAnd, AW.evNot, AW.evIte, AW.evTup, AW.evLm, AW.evDisp, AW.evCall, AW.evCons, AW.evStar, AW.evNil, AW.evNoPart, AW.evDsp, AW.evPart, AW.evYes, AW.evSli, AW.ev1, AW.ev2, AW.evVar, AW.evCon, AW.cmpV, LK.cLt, LK.cLe, LK.cGt, LK.cGe, AW.Val.datas, AW.allocL, AW.wp_bind, AW.wp_ok, AW.wp_ite, AW.evChain, AW.Tg.slots, LK.gv_MAX_LETTERS, LK.gv_KEYWORDS, LK.gv_MAX_PARAMETERS, LK.gv_MAX_OPERANDS, LK.gv_MAX_NODES, LK.gv_LAZY, LK.gv_STRICT, LK.gv_LEAVES, AW.idxL0, AW.idxL1, AW.idxL2, AW.idxL3, AW.idxL4, AW.idxD_0, AW.idxD_1, AW.sl_lst, AW.sl_tup, AW.ix_some, AW.i_non_bool, AW.i_non_int, AW.i_non_str, AW.i_non_tuple, AW.i_non_list, AW.i_non_dict, AW.i_bl_bool, AW.i_bl_int, AW.i_bl_str, AW.i_bl_tuple, AW.i_bl_list, AW.i_bl_dict, AW.i_int_bool, AW.i_int_int, AW.i_int_str, AW.i_int_tuple, AW.i_int_list, AW.i_int_dict, AW.i_str_bool, AW.i_str_int, AW.i_str_str, AW.i_str_tuple, AW.i_str_list, AW.i_str_dict, AW.i_tup_bool, AW.i_tup_int, AW.i_tup_str, AW.i_tup_tuple, AW.i_tup_list, AW.i_tup_dict, AW.i_lst_bool, AW.i_lst_int, AW.i_lst_str, AW.i_lst_tuple, AW.i_lst_list, AW.i_lst_dict, AW.i_dct_bool, AW.i_dct_int, AW.i_dct_str, AW.i_dct_tuple, AW.i_dct_list, AW.i_dct_dict, AW.t_non, AW.t_bl, AW.t_int, AW.t_tup, AW.t_lst, AW.pk_d, AW.pk_c, AW.tv_d, AW.ln_tup, AW.ln_lst, AW.ln_str, AW.b_len, AW.b_len2, AW.b_len3, AW.b_abs, AW.b_dlen, AW.b_all, AW.b_any, AW.b_int, AW.b_intb, AW.b_tupl, AW.b_tupt, AW.dt_d, h5]) ?_
          rw [if_pos rfl]
          obtain ⟨u, v, es, hu, hv⟩ := sort2 w2 w3
          obtain ⟨d2, m2, e2, hd2, s2⟩ := pickE0 (k := k + 4) (by omega) (ds := [.str u, .str v]) (by simp) (by simp) s1
          obtain ⟨w, rfl, hww⟩ : ∃ w, d2 = .str w ∧ (w = w2 ∨ w = w3) := by
            simp only [List.mem_cons, List.not_mem_nil, or_false] at hd2
            rcases hd2 with rfl | rfl
            · exact ⟨u, rfl, hu⟩
            · exact ⟨v, rfl, hv⟩
          have hnw : nameS w = true := by
            rcases hww with rfl | rfl
            · exact hw _ (by simp)
            · exact hw _ (by simp)
          obtain ⟨b, b3, eb⟩ := ar_get hne a0 a3 hww
          have hso : evalE tab.gvals (R (k + 4)) (.lm false (.blt .sorted (.var 1))) [some (.cell c), some (.d (arD w2 w3 a)), some (.d (.lst [.str w0, .str w1, .str w2, .str w3])), some (.d (.int ((n + 1 : Nat) : Int))), some (.d (.int r)), none, none, some (.d (.tup [.str "test"])), some (.d (.int 3)), none] m1 = .ok (.d (.lst [.str u, .str v])) m1 := by
            rw [ev_sorted (x := w2) (y := w3) rfl, es]; rfl
          refine x_asgE (ev_pick rfl hso e2) ?_
          refine x_asgE (ev_dget rfl rfl eb) ?_
          obtain ⟨row, m3, e3, hrow, hl, s3⟩ := lc_draw0 (P := fun d => wayB d = true) (M := m2) (q := 6) (n := b) (oi := itRng1 (evVar 8)) (oe := evCall (R (k + 4) 9) (evCons (evVar 0) (evCons (evLm false (evDisp (evCons (evCon (.str "lazy")) (evCons (evCon (.str "lazy")) (evCons (evCon (.str "strict")) evNil))))) evNil))) (ρ := [some (.cell c), some (.d (arD w2 w3 a)), some (.d (.lst [.str w0, .str w1, .str w2, .str w3])), some (.d (.int ((n + 1 : Nat) : Int))), some (.d (.int r)), none, none, some (.d (.tup [.str "test"])), some (.d (.int (b : Int))), some (.d (.str w))]) s2 (by omega) (rng_int b (by omega) (by omega) _ _ _ _ rfl) fun m5 d' s5 => by
            obtain ⟨y, m6, e6, hy, s6⟩ := pickE0 (k := k + 4) (by omega) (ds := [.str "lazy", .str "lazy", .str "strict"]) (by simp) (by simp) s5
            refine ⟨y, m6, by simp [evCall, evCons, evVar, evCon, evNil, evLm, evDisp, Val.datas, Val.data, sm, allocL, e6], ?_, s6⟩
            simp only [List.mem_cons, List.not_mem_nil, or_false] at hy
            rcases hy with rfl | rfl | rfl
            · exact way_l
            · exact way_l
            · exact way_s
          refine x_asgE (ev_tupN (es_cons ev_con (es_cons (ev_var rfl) (es_cons (ev_tupL (by simp only [evalL, evalIt, evalC, evalE, evalEs]; exact e3)) es_nil))) rfl (by simp)) ?_
          refine x_nil ?_
          simp only [List.set_cons_succ, List.set_cons_zero]
          refine expr_tail ih hb (nd := .tup [.str "call", .str w, .tup row]) (a := b) (nb_call hnw (by omega) hrow) ?_ b3 h s3 q
          have n4 : ¬ (Str.ofString "call" = Str.ofString "do") := by decide
          simp only [arity, if_neg n4]; exact hl
        · refine wp_is (a := false) (m := m1) (by simp [AW.evT, AW.lift_some, AW.Out.bind_ok, AW.evLb, AW.evalE, AW.evalB, AW.evalEs, AW.evalO, AW.evalC, AW.evalL, AW.evalIt, AW.evOr, AW.evAnd, AW.evNot, AW.evIte, AW.evTup, AW.evLm, AW.evDisp, AW.evCall, AW.evCons, AW.evStar, AW.evNil, AW.evNoPart, AW.evDsp, AW.evPart, AW.evYes, AW.evSli, AW.ev1, AW.ev2, AW.evVar, AW.evCon, AW.cmpV, LK.cLt, LK.cLe, LK.cGt, LK.cGe, AW.Val.datas, AW.allocL, AW.wp_bind, AW.wp_ok, AW.wp_ite, AW.evChain, AW.Tg.slots, LK.gv_MAX_LETTERS, LK.gv_KEYWORDS, LK.gv_MAX_PARAMETERS, LK.gv_MAX_OPERANDS, LK.gv_MAX_NODES, LK.gv_LAZY, LK.gv_STRICT, LK.gv_LEAVES, AW.idxL0, AW.idxL1, AW.idxL2, AW.idxL3, AW.idxL4, AW.idxD_0, AW.idxD_1, AW.sl_lst, AW.sl_tup, AW.ix_some, AW.i_non_bool, AW.i_non_int, AW.i_non_str, AW.i_non_tuple, AW.i_non_list, AW.i_non_dict, AW.i_bl_bool, AW.i_bl_int, AW.i_bl_str, AW.i_bl_tuple, AW.i_bl_list, AW.i_bl_dict, AW.i_int_bool, AW.i_int_int, AW.i_int_str, AW.i_int_tuple, AW.i_int_list, AW.i_int_dict, AW.i_str_bool, AW.i_str_int, AW.i_str_str, AW.i_str_tuple, AW.i_str_list, AW.i_str_dict, AW.i_tup_bool, AW.i_tup_int, AW.i_tup_str, AW.i_tup_tuple, AW.i_tup_list, AW.i_tup_dict, AW.i_lst_bool, AW.i_lst_int, AW.i_lst_str, AW.i_lst_tuple, AW.i_lst_list, AW.i_lst_dict, AW.i_dct_bool, AW.i_dct_int, AW.i_dct_str, AW.i_dct_tuple, AW.i_dct_list, AW.i_dct_dict, AW.t_non, AW.t_bl, AW.t_int, AW.t_tup, AW.t_lst, AW.pk_d, AW.pk_c, AW.tv_d, AW.ln_tup, AW.ln_lst, AW.ln_str, AW.b_len, AW.b_len2, AW.b_len3, AW.b_abs, AW.b_dlen, AW.b_all, AW.b_any, AW.b_int, AW.b_intb, AW.b_tupl, AW.b_tupt, AW.dt_d, h5]) ?_
          rw [if_neg (by simp)]
          refine x_nil ?_
          exact expr_tail ih hb (nd := .tup [.str "test"]) (a := 3) nb_test (by decide +kernel) (by omega) h s1 q
end LK
set_option maxRecDepth 100000
set_option maxHeartbeats 4000000
namespace LK
open PySem AW
theorem okB_app {a b : List D} (ha : okB (.tup a)) (hb : okB (.tup b)) : okB (.tup (a ++ b)) := fun x hx => (List.mem_append.mp hx).elim (ha x) (hb x)
theorem okB_take {a : List D} {n : Nat} (ha : okB (.tup a)) : okB (.tup (a.take n)) := fun x hx => ha x (List.mem_of_mem_take hx)
theorem okB_drop {a : List D} {n : Nat} (ha : okB (.tup a)) : okB (.tup (a.drop n)) := fun x hx => ha x (List.mem_of_mem_drop hx)
theorem okB_rev {a : List D} (ha : okB (.tup a)) : okB (.tup a.reverse) := fun x hx => ha x (List.mem_reverse.mp hx)
theorem okB_one {x : D} (h : okN1 x) : okB (.tup [x]) := fun y hy => by rw [List.mem_singleton.mp hy]; exact h
theorem okB_rep {a : List D} {n : Nat} (ha : okB (.tup a)) : okB (.tup (List.replicate n a).flatten) := fun x hx => by
  obtain ⟨l, hl, hx⟩ := List.mem_flatten.mp hx
  rw [List.eq_of_mem_replicate hl] at hx
  exact ha x hx
theorem ev_app {G : List D} {Φ : Fns} {i n : Nat} {Y : E} {ρ : Ev} {m : Store} {ds : List D} {d : D} (h1 : ρ[i]? = some (some (.cell n))) (h2 : evalE G Φ Y ρ m = .ok (.d d) m) (hm : m[n]? = some (.lst ds)) (hl : ds.length ≤ 1000) : evalE G Φ (.app (.var i) Y) ρ m = .ok (.d .non) (m.set n (.lst (ds ++ [d]))) := by
  have hs : ds.length < sizeLine := by rw [sl]; omega
  simp [evalE, evApp, evVar, h1, h2, cellL, hm, Val.data, appC, hs]
theorem nodeE0 {k : Nat} (hk : 3 ≤ k) {c : Nat} {w0 w1 w2 w3 : Str} (hw : ∀ w ∈ [w0, w1, w2, w3], nameS w = true) {m0 m : Store} (s : Dc m0 c m) : ∃ (d : D) (m' : Store), R k 17 [.cell c, .d (.lst [.str w0, .str w1, .str w2, .str w3])] m = .ok (.d d) m' ∧ nodeB d = true ∧ Dc m0 c m' := by
  obtain ⟨v, M, e, d, rfl, h⟩ := wp_eq (d_node hk hw m0 m (fun v M => ∃ d : D, v = .d d ∧ nodeB d = true ∧ Dc m0 c M) s fun v m' hv s' => by
    obtain ⟨r, rfl, h⟩ := hv
    exact ⟨r, rfl, h, s'⟩)
  exact ⟨d, M, e, h⟩
theorem spoiledE {k : Nat} (hk : 4 ≤ k) {c : Nat} {x : D} (hx : nodeB x = true) {m0 m : Store} (l : Store) (s : Dc m0 c m) : ∃ (d : D) (m' : Store), R k 19 [.cell c, .d x] (m ++ l) = .ok (.d d) (m' ++ l) ∧ okN1 d ∧ Dc m0 c m' := by
  obtain ⟨ds, rfl, h1, h2, h3, h4⟩ := node_tup hx
  obtain ⟨v, M, e, r, m', rfl, rfl, h⟩ := wp_eq ((d_spoiled hk h1 h2 h3 h4).tail (l := l) s (Q := fun v M => ∃ (r : D) (m' : Store), v = .d r ∧ M = m' ++ l ∧ okN1 r ∧ Dc m0 c m') fun v m' hv s' => by
    obtain ⟨r, rfl, h⟩ := hv
    exact ⟨r, m', rfl, rfl, h, s'⟩)
  exact ⟨r, m', e, h⟩
theorem sname : nameS "s" = true := by decide +kernel
theorem fname : nameS "f" = true := by decide +kernel
theorem d_bent {k : Nat} (hk : 5 ≤ k) {c : Nat} {w0 w1 w2 w3 : Str} (hw : ∀ w ∈ [w0, w1, w2, w3], nameS w = true) {bs : List D} (hz : bs ≠ []) (hl : bs.length ≤ 40) (hb : bs.all nodeB = true) : Draws (fun m => R k 20 [.cell c, .d (.lst [.str w0, .str w1, .str w2, .str w3]), .d (.tup bs)] m) c fun v => ∃ d, v = .d d ∧ okB d := by
  obtain ⟨k, rfl⟩ : ∃ j, k = j + 5 := ⟨k - 5, by omega⟩
  intro m0 m Q h q
  have hp : 0 < bs.length := List.length_pos_iff.mpr hz
  have nb : ∀ x ∈ bs, nodeB x = true := List.all_eq_true.mp hb
  have okb : okB (.tup bs) := fun x hx => node_ok (nb x hx)
  obtain ⟨r, m1, e1, r0, r1, s1⟩ := rollE0 (k := k + 4) (by omega) (n := (bs.length : Int)) (by omega) (by omega) h
  obtain ⟨nd, m2, e2, hnd, s2⟩ := nodeE0 (k := k + 4) (by omega) hw s1
  have oknd := node_ok hnd
  have lt : (bs.take r.toNat).length ≤ 40 := by rw [List.length_take]; omega
  have ld : (bs.drop r.toNat).length ≤ 40 := by rw [List.length_drop]; omega
  have ld1 : (bs.drop (r + 1).toNat).length ≤ 40 := by rw [List.length_drop]; omega
  refine wp_run (f := f20) [some (.cell c), some (.d (.lst [.str w0, .str w1, .str w2, .str w3])), some (.d (.tup bs)), none, none, none] rfl rfl rfl (x_par (wp_is (a := [.d (.int r), .d nd]) (m := m2) (by simp [AW.evT, AW.lift_some, AW.Out.bind_ok, AW.evLb, AW.evalE, AW.evalB, AW.evalEs, AW.evalO, AW.evalC, AW.evalL, AW.evalIt, AW.evOr, AW.evAnd, AW.evNot, AW.evIte, AW.evTup, AW.evLm, AW.evDisp, AW.evCall, AW.evCons, AW.evStar, AW.evNil, AW.evNoPart, AW.evDsp, AW.evPart, AW.evYes, AW.evSli, AW.ev1, AW.ev2, AW.evVar, AW.evCon, AW.cmpV, LK.cLt, LK.cLe, LK.cGt, LK.cGe, AW.Val.datas, AW.allocL, AW.wp_bind, AW.wp_ok, AW.wp_ite, AW.evChain, AW.Tg.slots, LK.gv_MAX_LETTERS, LK.gv_KEYWORDS, LK.gv_MAX_PARAMETERS, LK.gv_MAX_OPERANDS, LK.gv_MAX_NODES, LK.gv_LAZY, LK.gv_STRICT, LK.gv_LEAVES, AW.idxL0, AW.idxL1, AW.idxL2, AW.idxL3, AW.idxL4, AW.idxD_0, AW.idxD_1, AW.sl_lst, AW.sl_tup, AW.ix_some, AW.i_non_bool, AW.i_non_int, AW.i_non_str, AW.i_non_tuple, AW.i_non_list, AW.i_non_dict, AW.i_bl_bool, AW.i_bl_int, AW.i_bl_str, AW.i_bl_tuple, AW.i_bl_list, AW.i_bl_dict, AW.i_int_bool, AW.i_int_int, AW.i_int_str, AW.i_int_tuple, AW.i_int_list, AW.i_int_dict, AW.i_str_bool, AW.i_str_int, AW.i_str_str, AW.i_str_tuple, AW.i_str_list, AW.i_str_dict, AW.i_tup_bool, AW.i_tup_int, AW.i_tup_str, AW.i_tup_tuple, AW.i_tup_list, AW.i_tup_dict, AW.i_lst_bool, AW.i_lst_int, AW.i_lst_str, AW.i_lst_tuple, AW.i_lst_list, AW.i_lst_dict, AW.i_dct_bool, AW.i_dct_int, AW.i_dct_str, AW.i_dct_tuple, AW.i_dct_list, AW.i_dct_dict, AW.t_non, AW.t_bl, AW.t_int, AW.t_tup, AW.t_lst, AW.pk_d, AW.pk_c, AW.tv_d, AW.ln_tup, AW.ln_lst, AW.ln_str, AW.b_len, AW.b_len2, AW.b_len3, AW.b_abs, AW.b_dlen, AW.b_all, AW.b_any, AW.b_int, AW.b_intb, AW.b_tupl, AW.b_tupt, AW.dt_d, e1, e2]) ⟨_, rfl, ?_⟩))
  refine x_asgE (ev_dispT (es_cons (ev_add2 (ev_add2 (ev_take rfl rfl r0) (ev_tup1 (ev_var rfl)) (add_t (by simp; omega))) (ev_drop rfl rfl r0) (add_t (by simp; omega))) (es_cons (ev_add2 (ev_take rfl rfl r0) (ev_drop1 rfl rfl r0) (add_t (by omega))) (es_cons (ev_add2 (ev_add2 (ev_take rfl rfl r0) (ev_tup1 (ev_var rfl)) (add_t (by simp; omega))) (ev_drop1 rfl rfl r0) (add_t (by simp; omega))) es_nil))) rfl (by simp)) ?_
  simp only [List.set_cons_succ, List.set_cons_zero]
  generalize hL1 : [D.tup (bs.take r.toNat ++ [nd] ++ bs.drop r.toNat), .tup (bs.take r.toNat ++ bs.drop (r + 1).toNat), .tup (bs.take r.toNat ++ [nd] ++ bs.drop (r + 1).toNat)] = L1
  have l1 : L1.length = 3 := by rw [← hL1]; rfl
  have p1 : ∀ x ∈ L1, okB x := by
    intro x hx
    rw [← hL1] at hx
    simp only [List.mem_cons, List.not_mem_nil, or_false] at hx
    rcases hx with rfl | rfl | rfl
    · exact okB_app (okB_app (okB_take okb) (okB_one oknd)) (okB_drop okb)
    · exact okB_app (okB_take okb) (okB_drop okb)
    · exact okB_app (okB_app (okB_take okb) (okB_one oknd)) (okB_drop okb)
  obtain ⟨x0, hx0, ex0⟩ := ev_idxc (G := tab.gvals) (Φ := R (k + 4)) (i := 2) (ds := bs) (ρ := [some (.cell c), some (.d (.lst [.str w0, .str w1, .str w2, .str w3])), some (.d (.tup bs)), some (.cell m2.length), some (.d (.int r)), some (.d nd)]) (m := m2 ++ [.lst L1]) rfl hz
  refine x_asgE (ev_cat rfl (ev_dispF (es_cons (ev_rev rfl) (es_cons (ev_add2 (ev_var rfl) (ev_var rfl) (add_t (by omega))) (es_cons (ev_take rfl rfl r0) (es_cons (ev_drop rfl rfl r0) (es_cons (ev_add2 (ev_var rfl) (ev_tup1 (ev_var rfl)) (add_t (by simp; omega))) (es_cons (ev_list rfl) (es_cons (ev_tup1 (ev_var rfl)) (es_cons ex0 es_nil)))))))) rfl (by simp)) (g10 rfl) (by simp [l1])) ?_
  simp only [List.set_cons_succ, List.set_cons_zero]
  generalize hL2 : [D.tup bs.reverse, .tup (bs ++ bs), .tup (bs.take r.toNat), .tup (bs.drop r.toNat), .tup (bs ++ [nd]), .lst bs, .tup [.tup bs], x0] = L2
  have l2 : L2.length = 8 := by rw [← hL2]; rfl
  have p2 : ∀ x ∈ L2, okB x := by
    intro x hx
    rw [← hL2] at hx
    simp only [List.mem_cons, List.not_mem_nil, or_false] at hx
    rcases hx with rfl | rfl | rfl | rfl | rfl | rfl | rfl | rfl
    · exact okB_rev okb
    · exact okB_app okb okb
    · exact okB_take okb
    · exact okB_drop okb
    · exact okB_app okb (okB_one oknd)
    · trivial
    · exact okB_one fun x hx => node_okS (nb x hx)
    · exact node_okB (nb _ hx0)
  have c1 : evalE tab.gvals (R (k + 4)) (.tup (.cons (.tup (.cons (.con (.str "do")) (.cons (.con (.str "s")) (.cons (.con (.int 2)) .nil)))) .nil)) [some (.cell c), some (.d (.lst [.str w0, .str w1, .str w2, .str w3])), some (.d (.tup bs)), some (.cell (m2 ++ [Cel.lst L1]).length), some (.d (.int r)), some (.d nd)] (m2 ++ [.lst L1] ++ [.lst (L1 ++ L2)]) = .ok (.d (.tup [.tup [.str "do", .str "s", .int 2]])) (m2 ++ [.lst L1] ++ [.lst (L1 ++ L2)]) := by simp [evalE, evalEs, evTup, evCons, evCon, evNil, Val.datas, Val.data, sm]
  have c2 : evalE tab.gvals (R (k + 4)) (.tup (.cons (.tup (.cons (.con (.str "call")) (.cons (.con (.str "f")) (.cons (.tup (.cons (.con (.str "lazy")) .nil)) .nil)))) .nil)) [some (.cell c), some (.d (.lst [.str w0, .str w1, .str w2, .str w3])), some (.d (.tup bs)), some (.cell (m2 ++ [Cel.lst L1]).length), some (.d (.int r)), some (.d nd)] (m2 ++ [.lst L1] ++ [.lst (L1 ++ L2)]) = .ok (.d (.tup [.tup [.str "call", .str "f", .tup [.str "lazy"]]])) (m2 ++ [.lst L1] ++ [.lst (L1 ++ L2)]) := by simp [evalE, evalEs, evTup, evCons, evCon, evNil, Val.datas, Val.data, sm]
  have c3 : evalE tab.gvals (R (k + 4)) (.tup (.cons (.tup (.cons (.con (.str "do")) (.cons (.con (.str "s")) (.cons (.con (.int 1)) .nil)))) .nil)) [some (.cell c), some (.d (.lst [.str w0, .str w1, .str w2, .str w3])), some (.d (.tup bs)), some (.cell (m2 ++ [Cel.lst L1]).length), some (.d (.int r)), some (.d nd)] (m2 ++ [.lst L1] ++ [.lst (L1 ++ L2)]) = .ok (.d (.tup [.tup [.str "do", .str "s", .int 1]])) (m2 ++ [.lst L1] ++ [.lst (L1 ++ L2)]) := by simp [evalE, evalEs, evTup, evCons, evCon, evNil, Val.datas, Val.data, sm]
  refine x_asgE (ev_cat rfl (ev_dispF (es_cons (ev_add2 (ev_add2 (ev_var rfl) (ev_var rfl) (add_t (by omega))) c1 (add_t (by simp; omega))) (es_cons (ev_add2 (ev_var rfl) c2 (add_t (by simp; omega))) (es_cons (ev_add2 (ev_var rfl) (ev_mul c3 (by simp) (by omega) (by omega) (by simp)) (add_t (by simp; omega))) es_nil))) rfl (by simp)) (g10 rfl) (by simp [l1, l2])) ?_
  simp only [List.set_cons_succ, List.set_cons_zero]
  generalize hL3 : [D.tup (bs ++ bs ++ [.tup [.str "do", .str "s", .int 2]]), .tup (bs ++ [.tup [.str "call", .str "f", .tup [.str "lazy"]]]), .tup (bs ++ (List.replicate (9 : Int).toNat [D.tup [.str "do", .str "s", .int 1]]).flatten)] = L3
  have l3 : L3.length = 3 := by rw [← hL3]; rfl
  have p3 : ∀ x ∈ L3, okB x := by
    intro x hx
    rw [← hL3] at hx
    simp only [List.mem_cons, List.not_mem_nil, or_false] at hx
    rcases hx with rfl | rfl | rfl
    · exact okB_app (okB_app okb okb) (okB_one (node_ok (nb_do sname (by omega) (by omega))))
    · exact okB_app okb (okB_one (node_ok (nb_call fname (by simp) fun x hx => by rw [List.mem_singleton.mp hx]; exact way_l)))
    · exact okB_app okb (okB_rep (okB_one (node_ok (nb_do sname (by omega) (by omega)))))
  have c4 : ∀ ρ M, evalE tab.gvals (R (k + 4)) (.tup (.cons (.tup (.cons (.con (.str "test")) .nil)) .nil)) ρ M = .ok (.d (.tup [.tup [.str "test"]])) M := fun ρ M => by simp [evalE, evalEs, evTup, evCons, evCon, evNil, Val.datas, Val.data, sm]
  refine x_expr (wp_is (ev_app rfl (ev_add2 (ev_mul (ev_var rfl) hz (by omega) (by omega) (by omega)) (c4 _ _) (add_t (by simp; omega))) (g10 rfl) (by simp [l1, l2, l3])) ?_)
  rw [t10 rfl]
  generalize hy : D.tup ((List.replicate (3 : Int).toNat bs).flatten ++ [.tup [.str "test"]]) = y
  have py : okB y := by rw [← hy]; exact okB_app (okB_rep okb) (okB_one (node_ok nb_test))
  obtain ⟨xj, hxj, exj⟩ := ev_idxj (G := tab.gvals) (Φ := R (k + 4)) (i := 2) (j := 4) (ds := bs) (r := r) (ρ := [some (.cell c), some (.d (.lst [.str w0, .str w1, .str w2, .str w3])), some (.d (.tup bs)), some (.cell (m2 ++ [Cel.lst L1] ++ [Cel.lst (L1 ++ L2)]).length), some (.d (.int r)), some (.d nd)]) (m := m2 ++ [.lst L1] ++ [.lst (L1 ++ L2)] ++ [.lst (L1 ++ L2 ++ L3 ++ [y])]) rfl rfl r0 r1
  obtain ⟨z, m4, e4, oz, s4⟩ := spoiledE (k := k + 4) (by omega) (nb xj hxj) ([.lst L1] ++ [.lst (L1 ++ L2)] ++ [.lst (L1 ++ L2 ++ L3 ++ [y])]) s2
  have lm4 : m4.length = m2.length := by rw [s4.len, s2.len]
  obtain ⟨d, m5, e5, hd, s5⟩ := pickE (k := k + 4) (by omega) (ds := (L1 ++ L2 ++ L3 ++ [y]) ++ [.tup (bs.take r.toNat ++ [z] ++ bs.drop (r + 1).toNat)]) (by simp) (by simp [l1, l2, l3]) ([.lst L1] ++ [.lst (L1 ++ L2)] ++ [.lst (L1 ++ L2 ++ L3 ++ [y])]) s4
  have as : ∀ (M : Store) (a b c : Cel), M ++ ([a] ++ [b] ++ [c]) = M ++ [a] ++ [b] ++ [c] := fun M a b c => by simp
  rw [as, as] at e4 e5
  refine x_ret (wp_is (ev_pick rfl (ev_addc rfl (ev_dispF (es_cons (ev_add2 (ev_add2 (ev_take rfl rfl r0) (ev_tup1 (ev_pick rfl exj e4)) (add_t (by simp; omega))) (ev_drop1 rfl rfl r0) (add_t (by simp; omega))) es_nil) rfl (by simp)) (g10 (by simp [lm4])) (by simp [l1, l2, l3])) e5) (fin_ret ?_))
  have lm5 : m5.length = m.length := by rw [s5.len, h.len]
  have tk : (m5 ++ [Cel.lst L1] ++ [Cel.lst (L1 ++ L2)] ++ [Cel.lst (L1 ++ L2 ++ L3 ++ [y])]).take m.length = m5 := by
    rw [← lm5]; simp
  rw [tk]
  refine q _ _ ⟨d, rfl, ?_⟩ s5
  rcases List.mem_append.mp hd with hd | hd
  · rcases List.mem_append.mp hd with hd | hd
    · rcases List.mem_append.mp hd with hd | hd
      · rcases List.mem_append.mp hd with hd | hd
        · exact p1 d hd
        · exact p2 d hd
      · exact p3 d hd
    · rw [List.mem_singleton.mp hd]; exact py
  · rw [List.mem_singleton.mp hd]; exact okB_app (okB_app (okB_take okb) (okB_one oz)) (okB_drop okb)
end LK
set_option maxRecDepth 100000
set_option maxHeartbeats 4000000
namespace LK
open PySem AW
/-! ### the law's own look -/
def lets : Str := "abcdefghijklmnopqrstuvwxyz"
theorem lets_low (c : Nat) : decide (c ∈ lets.cps.toList) = low c := by
  have e : lets.cps.toList = (List.range 26).map (· + 97) := by decide +kernel
  rw [e, Bool.eq_iff_iff]
  unfold low
  simp only [decide_eq_true_eq, Bool.and_eq_true, List.mem_map, List.mem_range]
  constructor
  · rintro ⟨a, ha, rfl⟩; omega
  · rintro ⟨h1, h2⟩; exact ⟨c - 97, by omega, by omega⟩
theorem kws_in (s : Str) : cmpD .In (.str s) (.tup [.str "do", .str "test", .str "value", .str "fail"]) = some (decide (s ∈ kws)) := by
  rw [show ([.str "do", .str "test", .str "value", .str "fail"] : List D) = (["do", "test", "value", "fail"] : List Str).map D.str from rfl, in_tup]
  congr 1
  simp only [kws, List.mem_cons, List.not_mem_nil, or_false, decide_eq_decide]
  constructor
  · rintro (h | h | h | h)
    · exact .inl h
    · exact .inr (.inr (.inl h))
    · exact .inr (.inr (.inr h))
    · exact .inr (.inl h)
  · rintro (h | h | h | h)
    · exact .inl h
    · exact .inr (.inr (.inr h))
    · exact .inr (.inl h)
    · exact .inr (.inr (.inl h))
theorem nin_lets (c : Nat) : cmpD .NotIn (.str ⟨#[c]⟩) (.str lets) = some (!low c) := by
  rw [← lets_low]; rfl
theorem s_is_word {k : Nat} (hk : 1 ≤ k) {d : D} {m : Store} (h : okS d) : R k 14 [.d d] m = .ok (.d (.bl (isName d))) m := by
  obtain ⟨k, rfl⟩ : ∃ j, k = j + 1 := ⟨k - 1, by omega⟩
  show AW.finish false m (execSs tab.gvals (R k) 100 f14.body [some (.d d), none] m) = _
  cases d with
  | str s =>
    have h : s.length ≤ 10000 := h
    have hs : small s.length = true := small_of (by omega)
    have lc : evLc (itSeq (evVar 0)) (.name 1) (evT (ev2 (cmpV .NotIn) (evVar 1) (evCon (.str lets)))) (evVar 1) [some (.d (.str s)), none] m = .ok ((s.cps.toList.filter fun c => !low c).map fun c => D.str ⟨#[c]⟩) m :=
      lc_filt (fun c => D.str ⟨#[c]⟩) (fun c => D.str ⟨#[c]⟩) (fun c => !low c) (by simp [itSeq, evVar, Val.data, seqD, hs]) (fun c _ => by
        cases hc : low c <;> simp [lcTurn, bindT, evT, ev2, evVar, evCon, peek, cmpV, nin_lets, truV, truD, hc, Val.data]) (by
          have : s.cps.toList.length = s.length := by simp [Str.length]
          omega)
    have he : ((s.cps.toList.filter fun c => !low c).map fun c => D.str ⟨#[c]⟩).isEmpty = s.cps.toList.all low := by
      rw [List.isEmpty_map, Bool.eq_iff_iff, List.isEmpty_iff, List.filter_eq_nil_iff, List.all_eq_true]
      exact ⟨fun h c hc => by simpa using h c hc, fun h c hc => by simpa using h c hc⟩
    have hlets : (D.str "abcdefghijklmnopqrstuvwxyz") = .str lets := rfl
    by_cases h1 : 1 ≤ s.length
    · have i1 : (1 : Int) ≤ (s.length : Int) := by omega
      by_cases h8 : s.length ≤ 8
      · have i8 : (s.length : Int) ≤ 8 := by omega
        by_cases hkw : s ∈ kws
        · simp [f14, AW.execSs, AW.execS, AW.exSeq, AW.exIf, AW.exNext, AW.exRet, AW.exAsg, AW.exDrop, AW.exSetIx, AW.evT, AW.evalE, AW.evalB, AW.evalEs, AW.evalO, AW.evalC, AW.evalL, AW.evalIt, AW.evOr, AW.evAnd, AW.evNot, AW.evIte, AW.evTup, AW.evLm, AW.evDisp, AW.evCall, AW.evCons, AW.evStar, AW.evNil, AW.evNoPart, AW.evDsp, AW.evPart, AW.evYes, AW.evSli, AW.ixV, AW.ev1, AW.ev2, AW.evVar, AW.evCon, AW.peek, AW.truV, AW.truD, AW.isiD, AW.cmpV, LK.cLt, LK.cLe, LK.cGt, LK.cGe, AW.b1D, AW.finish, AW.retV, AW.Val.data, AW.Val.datas, AW.allocL, AW.wp_bind, AW.wp_ok, AW.wp_ite, AW.evChain, AW.lenD, AW.Tg.slots, hs, kws_in, i1, i8, hkw, isName, nameS, sm]
        · simp only [f14, hlets]
          simp [AW.execSs, AW.execS, AW.exSeq, AW.exIf, AW.exNext, AW.exRet, AW.exAsg, AW.exDrop, AW.exSetIx, AW.evT, AW.evalE, AW.evalB, AW.evalEs, AW.evalO, AW.evalC, AW.evalL, AW.evalIt, AW.evOr, AW.evAnd, AW.evNot, AW.evIte, AW.evTup, AW.evLm, AW.evDisp, AW.evCall, AW.evCons, AW.evStar, AW.evNil, AW.evNoPart, AW.evDsp, AW.evPart, AW.evYes, AW.evSli, AW.ixV, AW.ev1, AW.ev2, AW.evVar, AW.evCon, AW.peek, AW.truV, AW.truD, AW.isiD, AW.cmpV, LK.cLt, LK.cLe, LK.cGt, LK.cGe, AW.b1D, AW.finish, AW.retV, AW.Val.data, AW.Val.datas, AW.allocL, AW.wp_bind, AW.wp_ok, AW.wp_ite, AW.evChain, AW.lenD, AW.Tg.slots, hs, kws_in, i1, i8, hkw, isName, nameS, sm, lc, eqLstNil, he, h1, h8]
      · have i8 : ¬ (s.length : Int) ≤ 8 := by omega
        simp [f14, AW.execSs, AW.execS, AW.exSeq, AW.exIf, AW.exNext, AW.exRet, AW.exAsg, AW.exDrop, AW.exSetIx, AW.evT, AW.evalE, AW.evalB, AW.evalEs, AW.evalO, AW.evalC, AW.evalL, AW.evalIt, AW.evOr, AW.evAnd, AW.evNot, AW.evIte, AW.evTup, AW.evLm, AW.evDisp, AW.evCall, AW.evCons, AW.evStar, AW.evNil, AW.evNoPart, AW.evDsp, AW.evPart, AW.evYes, AW.evSli, AW.ixV, AW.ev1, AW.ev2, AW.evVar, AW.evCon, AW.peek, AW.truV, AW.truD, AW.isiD, AW.cmpV, LK.cLt, LK.cLe, LK.cGt, LK.cGe, AW.b1D, AW.finish, AW.retV, AW.Val.data, AW.Val.datas, AW.allocL, AW.wp_bind, AW.wp_ok, AW.wp_ite, AW.evChain, AW.lenD, AW.Tg.slots, hs, i1, i8, h8, isName, nameS]
    · have i1 : ¬ (1 : Int) ≤ (s.length : Int) := by omega
      simp [f14, AW.execSs, AW.execS, AW.exSeq, AW.exIf, AW.exNext, AW.exRet, AW.exAsg, AW.exDrop, AW.exSetIx, AW.evT, AW.evalE, AW.evalB, AW.evalEs, AW.evalO, AW.evalC, AW.evalL, AW.evalIt, AW.evOr, AW.evAnd, AW.evNot, AW.evIte, AW.evTup, AW.evLm, AW.evDisp, AW.evCall, AW.evCons, AW.evStar, AW.evNil, AW.evNoPart, AW.evDsp, AW.evPart, AW.evYes, AW.evSli, AW.ixV, AW.ev1, AW.ev2, AW.evVar, AW.evCon, AW.peek, AW.truV, AW.truD, AW.isiD, AW.cmpV, LK.cLt, LK.cLe, LK.cGt, LK.cGe, AW.b1D, AW.finish, AW.retV, AW.Val.data, AW.Val.datas, AW.allocL, AW.wp_bind, AW.wp_ok, AW.wp_ite, AW.evChain, AW.lenD, AW.Tg.slots, hs, i1, h1, isName, nameS]
  | _ => simp [f14, AW.execSs, AW.execS, AW.exSeq, AW.exIf, AW.exNext, AW.exRet, AW.exAsg, AW.exDrop, AW.exSetIx, AW.evT, AW.evalE, AW.evalB, AW.evalEs, AW.evalO, AW.evalC, AW.evalL, AW.evalIt, AW.evOr, AW.evAnd, AW.evNot, AW.evIte, AW.evTup, AW.evLm, AW.evDisp, AW.evCall, AW.evCons, AW.evStar, AW.evNil, AW.evNoPart, AW.evDsp, AW.evPart, AW.evYes, AW.evSli, AW.ixV, AW.ev1, AW.ev2, AW.evVar, AW.evCon, AW.peek, AW.truV, AW.truD, AW.isiD, AW.cmpV, LK.cLt, LK.cLe, LK.cGt, LK.cGe, AW.b1D, AW.finish, AW.retV, AW.Val.data, AW.Val.datas, AW.allocL, AW.wp_bind, AW.wp_ok, AW.wp_ite, AW.evChain, AW.lenD, AW.Tg.slots, isName]
theorem s_law_node {k : Nat} (hk : 2 ≤ k) {d : D} {m : Store} (h : okN1 d) : R k 15 [.d d] m = .ok (.d (.bl (nodeB d))) m := by
  obtain ⟨k, rfl⟩ : ∃ j, k = j + 2 := ⟨k - 2, by omega⟩
  show AW.finish false m (execSs tab.gvals (R (k + 1)) 100 f15.body [some (.d d), none] m) = _
  obtain ⟨Φ, hΦ⟩ : ∃ Φ, Φ = R (k + 1) := ⟨_, rfl⟩
  rw [← hΦ]
  cases d with
  | tup ds =>
    have h : ∀ d ∈ ds, okS d := h
    have nm : ∀ d, okS d → Φ 14 [.d d] m = .ok (.d (.bl (isName d))) m := fun d hd => by rw [hΦ]; exact s_is_word (by omega) hd
    match ds, h with
    | [], _ => simp [f15, AW.execSs, AW.execS, AW.exSeq, AW.exIf, AW.exNext, AW.exRet, AW.exAsg, AW.exDrop, AW.exSetIx, AW.evT, AW.evalE, AW.evalB, AW.evalEs, AW.evalO, AW.evalC, AW.evalL, AW.evalIt, AW.evOr, AW.evAnd, AW.evNot, AW.evIte, AW.evTup, AW.evLm, AW.evDisp, AW.evCall, AW.evCons, AW.evStar, AW.evNil, AW.evNoPart, AW.evDsp, AW.evPart, AW.evYes, AW.evSli, AW.ixV, AW.ev1, AW.ev2, AW.evVar, AW.evCon, AW.peek, AW.truV, AW.truD, AW.isiD, AW.cmpV, LK.cLt, LK.cLe, LK.cGt, LK.cGe, AW.b1D, AW.finish, AW.retV, AW.Val.data, AW.Val.datas, AW.allocL, AW.wp_bind, AW.wp_ok, AW.wp_ite, AW.evChain, AW.lenD, AW.Tg.slots, eqI, nodeB]
    | [a], h =>
      cases a with
      | str s => simp [f15, AW.execSs, AW.execS, AW.exSeq, AW.exIf, AW.exNext, AW.exRet, AW.exAsg, AW.exDrop, AW.exSetIx, AW.evT, AW.evalE, AW.evalB, AW.evalEs, AW.evalO, AW.evalC, AW.evalL, AW.evalIt, AW.evOr, AW.evAnd, AW.evNot, AW.evIte, AW.evTup, AW.evLm, AW.evDisp, AW.evCall, AW.evCons, AW.evStar, AW.evNil, AW.evNoPart, AW.evDsp, AW.evPart, AW.evYes, AW.evSli, AW.ixV, AW.ev1, AW.ev2, AW.evVar, AW.evCon, AW.peek, AW.truV, AW.truD, AW.isiD, AW.cmpV, LK.cLt, LK.cLe, LK.cGt, LK.cGe, AW.b1D, AW.finish, AW.retV, AW.Val.data, AW.Val.datas, AW.allocL, AW.wp_bind, AW.wp_ok, AW.wp_ite, AW.evChain, AW.lenD, AW.Tg.slots, eqI, idxD_0, sm, in_lvs', nodeB]
      | _ => simp [f15, AW.execSs, AW.execS, AW.exSeq, AW.exIf, AW.exNext, AW.exRet, AW.exAsg, AW.exDrop, AW.exSetIx, AW.evT, AW.evalE, AW.evalB, AW.evalEs, AW.evalO, AW.evalC, AW.evalL, AW.evalIt, AW.evOr, AW.evAnd, AW.evNot, AW.evIte, AW.evTup, AW.evLm, AW.evDisp, AW.evCall, AW.evCons, AW.evStar, AW.evNil, AW.evNoPart, AW.evDsp, AW.evPart, AW.evYes, AW.evSli, AW.ixV, AW.ev1, AW.ev2, AW.evVar, AW.evCon, AW.peek, AW.truV, AW.truD, AW.isiD, AW.cmpV, LK.cLt, LK.cLe, LK.cGt, LK.cGe, AW.b1D, AW.finish, AW.retV, AW.Val.data, AW.Val.datas, AW.allocL, AW.wp_bind, AW.wp_ok, AW.wp_ite, AW.evChain, AW.lenD, AW.Tg.slots, eqI, idxD_0, nodeB]
    | [a, b], h =>
      cases a with
      | str s =>
        have nb := nm b (h b (by simp))
        by_cases hb : isName b = true
        · simp [f15, AW.execSs, AW.execS, AW.exSeq, AW.exIf, AW.exNext, AW.exRet, AW.exAsg, AW.exDrop, AW.exSetIx, AW.evT, AW.evalE, AW.evalB, AW.evalEs, AW.evalO, AW.evalC, AW.evalL, AW.evalIt, AW.evOr, AW.evAnd, AW.evNot, AW.evIte, AW.evTup, AW.evLm, AW.evDisp, AW.evCall, AW.evCons, AW.evStar, AW.evNil, AW.evNoPart, AW.evDsp, AW.evPart, AW.evYes, AW.evSli, AW.ixV, AW.ev1, AW.ev2, AW.evVar, AW.evCon, AW.peek, AW.truV, AW.truD, AW.isiD, AW.cmpV, LK.cLt, LK.cLe, LK.cGt, LK.cGe, AW.b1D, AW.finish, AW.retV, AW.Val.data, AW.Val.datas, AW.allocL, AW.wp_bind, AW.wp_ok, AW.wp_ite, AW.evChain, AW.lenD, AW.Tg.slots, eqI, idxD_0, idxD_1, nb, hb, eqStr, nodeB]
        · simp [f15, AW.execSs, AW.execS, AW.exSeq, AW.exIf, AW.exNext, AW.exRet, AW.exAsg, AW.exDrop, AW.exSetIx, AW.evT, AW.evalE, AW.evalB, AW.evalEs, AW.evalO, AW.evalC, AW.evalL, AW.evalIt, AW.evOr, AW.evAnd, AW.evNot, AW.evIte, AW.evTup, AW.evLm, AW.evDisp, AW.evCall, AW.evCons, AW.evStar, AW.evNil, AW.evNoPart, AW.evDsp, AW.evPart, AW.evYes, AW.evSli, AW.ixV, AW.ev1, AW.ev2, AW.evVar, AW.evCon, AW.peek, AW.truV, AW.truD, AW.isiD, AW.cmpV, LK.cLt, LK.cLe, LK.cGt, LK.cGe, AW.b1D, AW.finish, AW.retV, AW.Val.data, AW.Val.datas, AW.allocL, AW.wp_bind, AW.wp_ok, AW.wp_ite, AW.evChain, AW.lenD, AW.Tg.slots, eqI, idxD_0, idxD_1, nb, hb, nodeB]
      | _ => simp [f15, AW.execSs, AW.execS, AW.exSeq, AW.exIf, AW.exNext, AW.exRet, AW.exAsg, AW.exDrop, AW.exSetIx, AW.evT, AW.evalE, AW.evalB, AW.evalEs, AW.evalO, AW.evalC, AW.evalL, AW.evalIt, AW.evOr, AW.evAnd, AW.evNot, AW.evIte, AW.evTup, AW.evLm, AW.evDisp, AW.evCall, AW.evCons, AW.evStar, AW.evNil, AW.evNoPart, AW.evDsp, AW.evPart, AW.evYes, AW.evSli, AW.ixV, AW.ev1, AW.ev2, AW.evVar, AW.evCon, AW.peek, AW.truV, AW.truD, AW.isiD, AW.cmpV, LK.cLt, LK.cLe, LK.cGt, LK.cGe, AW.b1D, AW.finish, AW.retV, AW.Val.data, AW.Val.datas, AW.allocL, AW.wp_bind, AW.wp_ok, AW.wp_ite, AW.evChain, AW.lenD, AW.Tg.slots, eqI, idxD_0, nodeB]
    | [a, b, c], h =>
      cases a with
      | str s =>
        have nb := nm b (h b (by simp))
        have i2 : idxD (.tup [.str s, b, c]) (.int 2) = some c := idxT_at 2 rfl rfl
        by_cases hb : isName b = true
        · by_cases h1 : s = "do"
          · have i2 : idxD (.tup [.str "do", b, c]) (.int 2) = some c := idxT_at 2 rfl rfl
            cases c with
            | int i =>
              by_cases h0 : 0 ≤ i
              · simp [f15, AW.execSs, AW.execS, AW.exSeq, AW.exIf, AW.exNext, AW.exRet, AW.exAsg, AW.exDrop, AW.exSetIx, AW.evT, AW.evalE, AW.evalB, AW.evalEs, AW.evalO, AW.evalC, AW.evalL, AW.evalIt, AW.evOr, AW.evAnd, AW.evNot, AW.evIte, AW.evTup, AW.evLm, AW.evDisp, AW.evCall, AW.evCons, AW.evStar, AW.evNil, AW.evNoPart, AW.evDsp, AW.evPart, AW.evYes, AW.evSli, AW.ixV, AW.ev1, AW.ev2, AW.evVar, AW.evCon, AW.peek, AW.truV, AW.truD, AW.isiD, AW.cmpV, LK.cLt, LK.cLe, LK.cGt, LK.cGe, AW.b1D, AW.finish, AW.retV, AW.Val.data, AW.Val.datas, AW.allocL, AW.wp_bind, AW.wp_ok, AW.wp_ite, AW.evChain, AW.lenD, AW.Tg.slots, eqI, idxD_0, idxD_1, nb, hb, eqStr, nodeB, h1, i2, node3, intB, h0]
              · simp [f15, AW.execSs, AW.execS, AW.exSeq, AW.exIf, AW.exNext, AW.exRet, AW.exAsg, AW.exDrop, AW.exSetIx, AW.evT, AW.evalE, AW.evalB, AW.evalEs, AW.evalO, AW.evalC, AW.evalL, AW.evalIt, AW.evOr, AW.evAnd, AW.evNot, AW.evIte, AW.evTup, AW.evLm, AW.evDisp, AW.evCall, AW.evCons, AW.evStar, AW.evNil, AW.evNoPart, AW.evDsp, AW.evPart, AW.evYes, AW.evSli, AW.ixV, AW.ev1, AW.ev2, AW.evVar, AW.evCon, AW.peek, AW.truV, AW.truD, AW.isiD, AW.cmpV, LK.cLt, LK.cLe, LK.cGt, LK.cGe, AW.b1D, AW.finish, AW.retV, AW.Val.data, AW.Val.datas, AW.allocL, AW.wp_bind, AW.wp_ok, AW.wp_ite, AW.evChain, AW.lenD, AW.Tg.slots, eqI, idxD_0, idxD_1, nb, hb, eqStr, nodeB, h1, i2, node3, intB, h0]
            | _ => simp [f15, AW.execSs, AW.execS, AW.exSeq, AW.exIf, AW.exNext, AW.exRet, AW.exAsg, AW.exDrop, AW.exSetIx, AW.evT, AW.evalE, AW.evalB, AW.evalEs, AW.evalO, AW.evalC, AW.evalL, AW.evalIt, AW.evOr, AW.evAnd, AW.evNot, AW.evIte, AW.evTup, AW.evLm, AW.evDisp, AW.evCall, AW.evCons, AW.evStar, AW.evNil, AW.evNoPart, AW.evDsp, AW.evPart, AW.evYes, AW.evSli, AW.ixV, AW.ev1, AW.ev2, AW.evVar, AW.evCon, AW.peek, AW.truV, AW.truD, AW.isiD, AW.cmpV, LK.cLt, LK.cLe, LK.cGt, LK.cGe, AW.b1D, AW.finish, AW.retV, AW.Val.data, AW.Val.datas, AW.allocL, AW.wp_bind, AW.wp_ok, AW.wp_ite, AW.evChain, AW.lenD, AW.Tg.slots, eqI, idxD_0, idxD_1, nb, hb, eqStr, nodeB, h1, i2, node3, intB]
          · by_cases h2 : s = "call"
            · have h3 : ¬ (Str.ofString "call" = Str.ofString "do") := by decide
              have i2 : idxD (.tup [.str "call", b, c]) (.int 2) = some c := idxT_at 2 rfl rfl
              cases c with
              | tup ws =>
                by_cases hl : ws.length ≤ 3
                · have il : ¬ (3 : Int) < (ws.length : Int) := by omega
                  have lc : evLc (itSeq (ev2 idxD (evVar 0) (evCon (.int 2)))) (.name 1) (evT (evOr (evNot (ev1 (fun d => some (.bl (isiD d .str))) (evVar 1))) (ev2 (cmpV .NotIn) (evVar 1) (evTup (evCons (evCon (.str "lazy")) (evCons (evCon (.str "strict")) evNil)))))) (evVar 1) [some (.d (.tup [.str "call", b, .tup ws])), none] m = .ok ((ws.filter fun d => !wayB d).map id) m :=
                    lc_filt id id (fun d => !wayB d) (by simp [itSeq, ev2, evVar, evCon, peek, i2, Val.data, seqD]) (fun d _ => by
                      have nw : cmpD .NotIn d (.tup [.str "lazy", .str "strict"]) = some (!wayB d) := by
                        have q := in_ways d
                        cases d <;> simp [cmpD, scalD] at q ⊢ <;> first | exact q | rw [← q, Bool.not_or]
                      cases d with
                      | str s => cases hw : wayB (.str s) <;> simp [lcTurn, bindT, evT, evOr, evNot, ev1, ev2, evVar, evCon, evTup, evCons, evNil, Val.datas, sm, peek, cmpV, nw, hw, truV, truD, isiD, Val.data]
                      | _ => simp [lcTurn, bindT, evT, evOr, evNot, ev1, ev2, evVar, peek, truV, truD, isiD, Val.data, wayB]) (by omega)
                  have he : ((ws.filter fun d => !wayB d).map id).isEmpty = ws.all wayB := by
                    rw [List.isEmpty_map, Bool.eq_iff_iff, List.isEmpty_iff, List.filter_eq_nil_iff, List.all_eq_true]
                    exact ⟨fun h c hc => by simpa using h c hc, fun h c hc => by simpa using h c hc⟩
                  simp only [isiD] at lc
                  simp [f15, AW.execSs, AW.execS, AW.exSeq, AW.exIf, AW.exNext, AW.exRet, AW.exAsg, AW.exDrop, AW.exSetIx, AW.evT, AW.evalE, AW.evalB, AW.evalEs, AW.evalO, AW.evalC, AW.evalL, AW.evalIt, AW.evOr, AW.evAnd, AW.evNot, AW.evIte, AW.evTup, AW.evLm, AW.evDisp, AW.evCall, AW.evCons, AW.evStar, AW.evNil, AW.evNoPart, AW.evDsp, AW.evPart, AW.evYes, AW.evSli, AW.ixV, AW.ev1, AW.ev2, AW.evVar, AW.evCon, AW.peek, AW.truV, AW.truD, AW.isiD, AW.cmpV, LK.cLt, LK.cLe, LK.cGt, LK.cGe, AW.b1D, AW.finish, AW.retV, AW.Val.data, AW.Val.datas, AW.allocL, AW.wp_bind, AW.wp_ok, AW.wp_ite, AW.evChain, AW.lenD, AW.Tg.slots, eqI, neI, idxD_0, idxD_1, nb, hb, eqStr, neStr, nodeB, h2, h3, i2, node3, waysB, il, hl, lc, eqLstNil, sm]
                  simpa using he
                · have il : (3 : Int) < (ws.length : Int) := by omega
                  simp [f15, AW.execSs, AW.execS, AW.exSeq, AW.exIf, AW.exNext, AW.exRet, AW.exAsg, AW.exDrop, AW.exSetIx, AW.evT, AW.evalE, AW.evalB, AW.evalEs, AW.evalO, AW.evalC, AW.evalL, AW.evalIt, AW.evOr, AW.evAnd, AW.evNot, AW.evIte, AW.evTup, AW.evLm, AW.evDisp, AW.evCall, AW.evCons, AW.evStar, AW.evNil, AW.evNoPart, AW.evDsp, AW.evPart, AW.evYes, AW.evSli, AW.ixV, AW.ev1, AW.ev2, AW.evVar, AW.evCon, AW.peek, AW.truV, AW.truD, AW.isiD, AW.cmpV, LK.cLt, LK.cLe, LK.cGt, LK.cGe, AW.b1D, AW.finish, AW.retV, AW.Val.data, AW.Val.datas, AW.allocL, AW.wp_bind, AW.wp_ok, AW.wp_ite, AW.evChain, AW.lenD, AW.Tg.slots, eqI, neI, idxD_0, idxD_1, nb, hb, eqStr, neStr, nodeB, h2, h3, i2, node3, waysB, il, hl]
              | _ => simp [f15, AW.execSs, AW.execS, AW.exSeq, AW.exIf, AW.exNext, AW.exRet, AW.exAsg, AW.exDrop, AW.exSetIx, AW.evT, AW.evalE, AW.evalB, AW.evalEs, AW.evalO, AW.evalC, AW.evalL, AW.evalIt, AW.evOr, AW.evAnd, AW.evNot, AW.evIte, AW.evTup, AW.evLm, AW.evDisp, AW.evCall, AW.evCons, AW.evStar, AW.evNil, AW.evNoPart, AW.evDsp, AW.evPart, AW.evYes, AW.evSli, AW.ixV, AW.ev1, AW.ev2, AW.evVar, AW.evCon, AW.peek, AW.truV, AW.truD, AW.isiD, AW.cmpV, LK.cLt, LK.cLe, LK.cGt, LK.cGe, AW.b1D, AW.finish, AW.retV, AW.Val.data, AW.Val.datas, AW.allocL, AW.wp_bind, AW.wp_ok, AW.wp_ite, AW.evChain, AW.lenD, AW.Tg.slots, eqI, neI, idxD_0, idxD_1, nb, hb, eqStr, neStr, nodeB, h2, h3, i2, node3, waysB]
            · simp [f15, AW.execSs, AW.execS, AW.exSeq, AW.exIf, AW.exNext, AW.exRet, AW.exAsg, AW.exDrop, AW.exSetIx, AW.evT, AW.evalE, AW.evalB, AW.evalEs, AW.evalO, AW.evalC, AW.evalL, AW.evalIt, AW.evOr, AW.evAnd, AW.evNot, AW.evIte, AW.evTup, AW.evLm, AW.evDisp, AW.evCall, AW.evCons, AW.evStar, AW.evNil, AW.evNoPart, AW.evDsp, AW.evPart, AW.evYes, AW.evSli, AW.ixV, AW.ev1, AW.ev2, AW.evVar, AW.evCon, AW.peek, AW.truV, AW.truD, AW.isiD, AW.cmpV, LK.cLt, LK.cLe, LK.cGt, LK.cGe, AW.b1D, AW.finish, AW.retV, AW.Val.data, AW.Val.datas, AW.allocL, AW.wp_bind, AW.wp_ok, AW.wp_ite, AW.evChain, AW.lenD, AW.Tg.slots, eqI, neI, idxD_0, idxD_1, nb, hb, eqStr, neStr, nodeB, h1, h2, node3]
        · simp [f15, AW.execSs, AW.execS, AW.exSeq, AW.exIf, AW.exNext, AW.exRet, AW.exAsg, AW.exDrop, AW.exSetIx, AW.evT, AW.evalE, AW.evalB, AW.evalEs, AW.evalO, AW.evalC, AW.evalL, AW.evalIt, AW.evOr, AW.evAnd, AW.evNot, AW.evIte, AW.evTup, AW.evLm, AW.evDisp, AW.evCall, AW.evCons, AW.evStar, AW.evNil, AW.evNoPart, AW.evDsp, AW.evPart, AW.evYes, AW.evSli, AW.ixV, AW.ev1, AW.ev2, AW.evVar, AW.evCon, AW.peek, AW.truV, AW.truD, AW.isiD, AW.cmpV, LK.cLt, LK.cLe, LK.cGt, LK.cGe, AW.b1D, AW.finish, AW.retV, AW.Val.data, AW.Val.datas, AW.allocL, AW.wp_bind, AW.wp_ok, AW.wp_ite, AW.evChain, AW.lenD, AW.Tg.slots, eqI, idxD_0, idxD_1, nb, hb, nodeB, node3]
      | _ => simp [f15, AW.execSs, AW.execS, AW.exSeq, AW.exIf, AW.exNext, AW.exRet, AW.exAsg, AW.exDrop, AW.exSetIx, AW.evT, AW.evalE, AW.evalB, AW.evalEs, AW.evalO, AW.evalC, AW.evalL, AW.evalIt, AW.evOr, AW.evAnd, AW.evNot, AW.evIte, AW.evTup, AW.evLm, AW.evDisp, AW.evCall, AW.evCons, AW.evStar, AW.evNil, AW.evNoPart, AW.evDsp, AW.evPart, AW.evYes, AW.evSli, AW.ixV, AW.ev1, AW.ev2, AW.evVar, AW.evCon, AW.peek, AW.truV, AW.truD, AW.isiD, AW.cmpV, LK.cLt, LK.cLe, LK.cGt, LK.cGe, AW.b1D, AW.finish, AW.retV, AW.Val.data, AW.Val.datas, AW.allocL, AW.wp_bind, AW.wp_ok, AW.wp_ite, AW.evChain, AW.lenD, AW.Tg.slots, eqI, idxD_0, nodeB]
    | a :: b :: c :: d :: ds, h =>
      cases a with
      | str s =>
        have nb := nm b (h b (by simp))
        have e1 : ¬ ((ds.length : Int) + 1 + 1 + 1 + 1 = 0) := by omega
        have e2 : ¬ ((ds.length : Int) + 1 + 1 + 1 + 1 = 1) := by omega
        have e3 : ¬ ((ds.length : Int) + 1 + 1 + 1 + 1 = 2) := by omega
        have e4 : ¬ ((ds.length : Int) + 1 + 1 + 1 + 1 = 3) := by omega
        by_cases hb : isName b = true
        · by_cases h1 : s = "do"
          · have h3 : ¬ (Str.ofString "do" = Str.ofString "call") := by decide
            simp [f15, AW.execSs, AW.execS, AW.exSeq, AW.exIf, AW.exNext, AW.exRet, AW.exAsg, AW.exDrop, AW.exSetIx, AW.evT, AW.evalE, AW.evalB, AW.evalEs, AW.evalO, AW.evalC, AW.evalL, AW.evalIt, AW.evOr, AW.evAnd, AW.evNot, AW.evIte, AW.evTup, AW.evLm, AW.evDisp, AW.evCall, AW.evCons, AW.evStar, AW.evNil, AW.evNoPart, AW.evDsp, AW.evPart, AW.evYes, AW.evSli, AW.ixV, AW.ev1, AW.ev2, AW.evVar, AW.evCon, AW.peek, AW.truV, AW.truD, AW.isiD, AW.cmpV, LK.cLt, LK.cLe, LK.cGt, LK.cGe, AW.b1D, AW.finish, AW.retV, AW.Val.data, AW.Val.datas, AW.allocL, AW.wp_bind, AW.wp_ok, AW.wp_ite, AW.evChain, AW.lenD, AW.Tg.slots, eqI, neI, idxD_0, idxD_1, nb, hb, eqStr, neStr, nodeB, h1, h3, e1, e2, e3, e4]
          · by_cases h2 : s = "call"
            · have h3 : ¬ (Str.ofString "call" = Str.ofString "do") := by decide
              simp [f15, AW.execSs, AW.execS, AW.exSeq, AW.exIf, AW.exNext, AW.exRet, AW.exAsg, AW.exDrop, AW.exSetIx, AW.evT, AW.evalE, AW.evalB, AW.evalEs, AW.evalO, AW.evalC, AW.evalL, AW.evalIt, AW.evOr, AW.evAnd, AW.evNot, AW.evIte, AW.evTup, AW.evLm, AW.evDisp, AW.evCall, AW.evCons, AW.evStar, AW.evNil, AW.evNoPart, AW.evDsp, AW.evPart, AW.evYes, AW.evSli, AW.ixV, AW.ev1, AW.ev2, AW.evVar, AW.evCon, AW.peek, AW.truV, AW.truD, AW.isiD, AW.cmpV, LK.cLt, LK.cLe, LK.cGt, LK.cGe, AW.b1D, AW.finish, AW.retV, AW.Val.data, AW.Val.datas, AW.allocL, AW.wp_bind, AW.wp_ok, AW.wp_ite, AW.evChain, AW.lenD, AW.Tg.slots, eqI, neI, idxD_0, idxD_1, nb, hb, eqStr, neStr, nodeB, h2, h3, e1, e2, e3, e4]
            · simp [f15, AW.execSs, AW.execS, AW.exSeq, AW.exIf, AW.exNext, AW.exRet, AW.exAsg, AW.exDrop, AW.exSetIx, AW.evT, AW.evalE, AW.evalB, AW.evalEs, AW.evalO, AW.evalC, AW.evalL, AW.evalIt, AW.evOr, AW.evAnd, AW.evNot, AW.evIte, AW.evTup, AW.evLm, AW.evDisp, AW.evCall, AW.evCons, AW.evStar, AW.evNil, AW.evNoPart, AW.evDsp, AW.evPart, AW.evYes, AW.evSli, AW.ixV, AW.ev1, AW.ev2, AW.evVar, AW.evCon, AW.peek, AW.truV, AW.truD, AW.isiD, AW.cmpV, LK.cLt, LK.cLe, LK.cGt, LK.cGe, AW.b1D, AW.finish, AW.retV, AW.Val.data, AW.Val.datas, AW.allocL, AW.wp_bind, AW.wp_ok, AW.wp_ite, AW.evChain, AW.lenD, AW.Tg.slots, eqI, neI, idxD_0, idxD_1, nb, hb, eqStr, neStr, nodeB, h1, h2, e1, e2, e3, e4]
        · simp [f15, AW.execSs, AW.execS, AW.exSeq, AW.exIf, AW.exNext, AW.exRet, AW.exAsg, AW.exDrop, AW.exSetIx, AW.evT, AW.evalE, AW.evalB, AW.evalEs, AW.evalO, AW.evalC, AW.evalL, AW.evalIt, AW.evOr, AW.evAnd, AW.evNot, AW.evIte, AW.evTup, AW.evLm, AW.evDisp, AW.evCall, AW.evCons, AW.evStar, AW.evNil, AW.evNoPart, AW.evDsp, AW.evPart, AW.evYes, AW.evSli, AW.ixV, AW.ev1, AW.ev2, AW.evVar, AW.evCon, AW.peek, AW.truV, AW.truD, AW.isiD, AW.cmpV, LK.cLt, LK.cLe, LK.cGt, LK.cGe, AW.b1D, AW.finish, AW.retV, AW.Val.data, AW.Val.datas, AW.allocL, AW.wp_bind, AW.wp_ok, AW.wp_ite, AW.evChain, AW.lenD, AW.Tg.slots, eqI, idxD_0, idxD_1, nb, hb, nodeB, e1, e2]
      | _ =>
        have e1 : ¬ ((ds.length : Int) + 1 + 1 + 1 + 1 = 0) := by omega
        simp [f15, AW.execSs, AW.execS, AW.exSeq, AW.exIf, AW.exNext, AW.exRet, AW.exAsg, AW.exDrop, AW.exSetIx, AW.evT, AW.evalE, AW.evalB, AW.evalEs, AW.evalO, AW.evalC, AW.evalL, AW.evalIt, AW.evOr, AW.evAnd, AW.evNot, AW.evIte, AW.evTup, AW.evLm, AW.evDisp, AW.evCall, AW.evCons, AW.evStar, AW.evNil, AW.evNoPart, AW.evDsp, AW.evPart, AW.evYes, AW.evSli, AW.ixV, AW.ev1, AW.ev2, AW.evVar, AW.evCon, AW.peek, AW.truV, AW.truD, AW.isiD, AW.cmpV, LK.cLt, LK.cLe, LK.cGt, LK.cGe, AW.b1D, AW.finish, AW.retV, AW.Val.data, AW.Val.datas, AW.allocL, AW.wp_bind, AW.wp_ok, AW.wp_ite, AW.evChain, AW.lenD, AW.Tg.slots, eqI, idxD_0, nodeB, e1]
  | _ => simp [f15, AW.execSs, AW.execS, AW.exSeq, AW.exIf, AW.exNext, AW.exRet, AW.exAsg, AW.exDrop, AW.exSetIx, AW.evT, AW.evalE, AW.evalB, AW.evalEs, AW.evalO, AW.evalC, AW.evalL, AW.evalIt, AW.evOr, AW.evAnd, AW.evNot, AW.evIte, AW.evTup, AW.evLm, AW.evDisp, AW.evCall, AW.evCons, AW.evStar, AW.evNil, AW.evNoPart, AW.evDsp, AW.evPart, AW.evYes, AW.evSli, AW.ixV, AW.ev1, AW.ev2, AW.evVar, AW.evCon, AW.peek, AW.truV, AW.truD, AW.isiD, AW.cmpV, LK.cLt, LK.cLe, LK.cGt, LK.cGe, AW.b1D, AW.finish, AW.retV, AW.Val.data, AW.Val.datas, AW.allocL, AW.wp_bind, AW.wp_ok, AW.wp_ite, AW.evChain, AW.lenD, AW.Tg.slots, nodeB]
end LK
set_option maxRecDepth 100000
set_option maxHeartbeats 4000000
namespace LK
open PySem AW
/-! ### the law's own count -/
def lbBody : Ss := match f16.body with
  | .cons _ (.cons _ (.cons (.forr _ _ b) _)) => b
  | _ => .nil
theorem lb_turn {k : Nat} (hk : 2 ≤ k) {v0 u3 : Option Val} {h : Nat} {d : D} {m : Store} (ho : okN1 d) :
    ∃ u3', execSs tab.gvals (R k) 100 lbBody [v0, some (.d (.int (h : Int))), some (.d d), u3] m =
      if nodeB d = true ∧ ¬ h < arity d then .ok (.nx [v0, some (.d (.int ((h - arity d + 1 : Nat) : Int))), some (.d d), u3']) m else .ok (.ret (.d (.bl false))) m := by
  obtain ⟨Φ, hΦ⟩ : ∃ Φ, Φ = R k := ⟨_, rfl⟩
  have hn : Φ 15 [.d d] m = .ok (.d (.bl (nodeB d))) m := by rw [hΦ]; exact s_law_node hk ho
  rw [← hΦ]
  by_cases hb : nodeB d = true
  · have n1 : ¬ (Str.ofString "use" = Str.ofString "do") := by decide
    have n2 : ¬ (Str.ofString "use" = Str.ofString "call") := by decide
    have n3 : ¬ (Str.ofString "use" = Str.ofString "test") := by decide
    have n4 : ¬ (Str.ofString "call" = Str.ofString "do") := by decide
    have n5 : ¬ (Str.ofString "test" = Str.ofString "do") := by decide
    have n6 : ¬ (Str.ofString "test" = Str.ofString "call") := by decide
    have n7 : ¬ (Str.ofString "do" = Str.ofString "test") := by decide
    have n8 : ¬ (Str.ofString "do" = Str.ofString "call") := by decide
    have n9 : ¬ (Str.ofString "call" = Str.ofString "test") := by decide
    have fin : ∀ {a : Nat} (u : Option Val) (o : Out Fl), arity d = a → o = (if (h : Int) < (a : Int) then .ok (.ret (.d (.bl false))) m else .ok (.nx [v0, some (.d (.int ((h : Int) - (a : Int) + 1))), some (.d d), u]) m) →
        ∃ u3', o = if nodeB d = true ∧ ¬ h < arity d then .ok (.nx [v0, some (.d (.int ((h - arity d + 1 : Nat) : Int))), some (.d d), u3']) m else .ok (.ret (.d (.bl false))) m := by
      intro a u o ea eo
      refine ⟨u, ?_⟩
      rw [eo, ea]
      by_cases hl : h < a
      · rw [if_pos (by omega), if_neg (fun q => q.2 hl)]
      · rw [if_neg (by omega), if_pos ⟨hb, hl⟩]
        have : (h : Int) - (a : Int) + 1 = ((h - a + 1 : Nat) : Int) := by omega
        rw [this]
    rcases node_kinds hb with ⟨s, rfl, hs⟩ | ⟨n, rfl, _⟩ | ⟨n, i, rfl, _, h0, h3⟩ | ⟨n, ws, rfl, _, hl, _⟩
    · have m1 : ¬ s = "do" := fun e => by subst e; revert hs; decide
      have m2 : ¬ s = "call" := fun e => by subst e; revert hs; decide
      by_cases ht : s = "test"
      · subst ht
        refine fin (a := 3) (some (.d (.int 3))) _ (by simp [arity]) ?_
        by_cases hl : (h : Int) < 3
        · simp [lbBody, f16, AW.execSs, AW.execS, AW.exSeq, AW.exIf, AW.exNext, AW.exRet, AW.exAsg, AW.exDrop, AW.exSetIx, AW.evT, AW.evalE, AW.evalB, AW.evalEs, AW.evalO, AW.evalC, AW.evalL, AW.evalIt, AW.evOr, AW.evAnd, AW.evNot, AW.evIte, AW.evTup, AW.evLm, AW.evDisp, AW.evCall, AW.evCons, AW.evStar, AW.evNil, AW.evNoPart, AW.evDsp, AW.evPart, AW.evYes, AW.evSli, AW.ixV, AW.ev1, AW.ev2, AW.evVar, AW.evCon, AW.peek, AW.truV, AW.truD, AW.isiD, AW.cmpV, LK.cLt, LK.cLe, LK.cGt, LK.cGe, AW.b1D, AW.finish, AW.retV, AW.Val.data, AW.Val.datas, AW.allocL, AW.wp_bind, AW.wp_ok, AW.wp_ite, AW.evChain, AW.lenD, AW.Tg.slots, hn, hb, idxD_0, eqStr, n5, n6, hl]
        · simp [lbBody, f16, AW.execSs, AW.execS, AW.exSeq, AW.exIf, AW.exNext, AW.exRet, AW.exAsg, AW.exDrop, AW.exSetIx, AW.evT, AW.evalE, AW.evalB, AW.evalEs, AW.evalO, AW.evalC, AW.evalL, AW.evalIt, AW.evOr, AW.evAnd, AW.evNot, AW.evIte, AW.evTup, AW.evLm, AW.evDisp, AW.evCall, AW.evCons, AW.evStar, AW.evNil, AW.evNoPart, AW.evDsp, AW.evPart, AW.evYes, AW.evSli, AW.ixV, AW.ev1, AW.ev2, AW.evVar, AW.evCon, AW.peek, AW.truV, AW.truD, AW.isiD, AW.cmpV, LK.cLt, LK.cLe, LK.cGt, LK.cGe, AW.b1D, AW.finish, AW.retV, AW.Val.data, AW.Val.datas, AW.allocL, AW.wp_bind, AW.wp_ok, AW.wp_ite, AW.evChain, AW.lenD, AW.Tg.slots, hn, hb, idxD_0, eqStr, n5, n6, hl, binD]
      · refine fin (a := 0) (some (.d (.int 0))) _ (by simp [arity, ht]) ?_
        have hl : ¬ (h : Int) < 0 := by omega
        simp [lbBody, f16, AW.execSs, AW.execS, AW.exSeq, AW.exIf, AW.exNext, AW.exRet, AW.exAsg, AW.exDrop, AW.exSetIx, AW.evT, AW.evalE, AW.evalB, AW.evalEs, AW.evalO, AW.evalC, AW.evalL, AW.evalIt, AW.evOr, AW.evAnd, AW.evNot, AW.evIte, AW.evTup, AW.evLm, AW.evDisp, AW.evCall, AW.evCons, AW.evStar, AW.evNil, AW.evNoPart, AW.evDsp, AW.evPart, AW.evYes, AW.evSli, AW.ixV, AW.ev1, AW.ev2, AW.evVar, AW.evCon, AW.peek, AW.truV, AW.truD, AW.isiD, AW.cmpV, LK.cLt, LK.cLe, LK.cGt, LK.cGe, AW.b1D, AW.finish, AW.retV, AW.Val.data, AW.Val.datas, AW.allocL, AW.wp_bind, AW.wp_ok, AW.wp_ite, AW.evChain, AW.lenD, AW.Tg.slots, hn, hb, idxD_0, eqStr, m1, m2, ht, hl, binD]
    · refine fin (a := 0) (some (.d (.int 0))) _ (by simp [arity]) ?_
      have hl : ¬ (h : Int) < 0 := by omega
      simp [lbBody, f16, AW.execSs, AW.execS, AW.exSeq, AW.exIf, AW.exNext, AW.exRet, AW.exAsg, AW.exDrop, AW.exSetIx, AW.evT, AW.evalE, AW.evalB, AW.evalEs, AW.evalO, AW.evalC, AW.evalL, AW.evalIt, AW.evOr, AW.evAnd, AW.evNot, AW.evIte, AW.evTup, AW.evLm, AW.evDisp, AW.evCall, AW.evCons, AW.evStar, AW.evNil, AW.evNoPart, AW.evDsp, AW.evPart, AW.evYes, AW.evSli, AW.ixV, AW.ev1, AW.ev2, AW.evVar, AW.evCon, AW.peek, AW.truV, AW.truD, AW.isiD, AW.cmpV, LK.cLt, LK.cLe, LK.cGt, LK.cGe, AW.b1D, AW.finish, AW.retV, AW.Val.data, AW.Val.datas, AW.allocL, AW.wp_bind, AW.wp_ok, AW.wp_ite, AW.evChain, AW.lenD, AW.Tg.slots, hn, hb, idxD_0, eqStr, n1, n2, n3, hl, binD]
    · have i2 : idxD (.tup [.str "do", n, .int i]) (.int 2) = some (.int i) := idxT_at 2 rfl rfl
      obtain ⟨a, rfl⟩ : ∃ a : Nat, i = (a : Int) := ⟨i.toNat, by omega⟩
      refine fin (a := a) (some (.d (.int (a : Int)))) _ (by simp [arity]) ?_
      by_cases hl : (h : Int) < (a : Int)
      · simp only [if_pos hl]
        simp [lbBody, f16, AW.execSs, AW.execS, AW.exSeq, AW.exIf, AW.exNext, AW.exRet, AW.exAsg, AW.exDrop, AW.exSetIx, AW.evT, AW.evalE, AW.evalB, AW.evalEs, AW.evalO, AW.evalC, AW.evalL, AW.evalIt, AW.evOr, AW.evAnd, AW.evNot, AW.evIte, AW.evTup, AW.evLm, AW.evDisp, AW.evCall, AW.evCons, AW.evStar, AW.evNil, AW.evNoPart, AW.evDsp, AW.evPart, AW.evYes, AW.evSli, AW.ixV, AW.ev1, AW.ev2, AW.evVar, AW.evCon, AW.peek, AW.truV, AW.truD, AW.isiD, AW.cmpV, LK.cLt, LK.cLe, LK.cGt, LK.cGe, AW.b1D, AW.finish, AW.retV, AW.Val.data, AW.Val.datas, AW.allocL, AW.wp_bind, AW.wp_ok, AW.wp_ite, AW.evChain, AW.lenD, AW.Tg.slots, hn, hb, idxD_0, eqStr, n7, n8, i2, hl]
      · simp only [if_neg hl]
        have hl' : ¬ h < a := by omega
        simp [lbBody, f16, AW.execSs, AW.execS, AW.exSeq, AW.exIf, AW.exNext, AW.exRet, AW.exAsg, AW.exDrop, AW.exSetIx, AW.evT, AW.evalE, AW.evalB, AW.evalEs, AW.evalO, AW.evalC, AW.evalL, AW.evalIt, AW.evOr, AW.evAnd, AW.evNot, AW.evIte, AW.evTup, AW.evLm, AW.evDisp, AW.evCall, AW.evCons, AW.evStar, AW.evNil, AW.evNoPart, AW.evDsp, AW.evPart, AW.evYes, AW.evSli, AW.ixV, AW.ev1, AW.ev2, AW.evVar, AW.evCon, AW.peek, AW.truV, AW.truD, AW.isiD, AW.cmpV, LK.cLt, LK.cLe, LK.cGt, LK.cGe, AW.b1D, AW.finish, AW.retV, AW.Val.data, AW.Val.datas, AW.allocL, AW.wp_bind, AW.wp_ok, AW.wp_ite, AW.evChain, AW.lenD, AW.Tg.slots, hn, hb, idxD_0, eqStr, n7, n8, i2, hl', binD]
    · have i2 : idxD (.tup [.str "call", n, .tup ws]) (.int 2) = some (.tup ws) := idxT_at 2 rfl rfl
      refine fin (a := ws.length) (some (.d (.int (ws.length : Int)))) _ (by simp only [arity, if_neg n4]) ?_
      by_cases hl : h < ws.length
      · rw [if_pos (by omega)]
        simp [lbBody, f16, AW.execSs, AW.execS, AW.exSeq, AW.exIf, AW.exNext, AW.exRet, AW.exAsg, AW.exDrop, AW.exSetIx, AW.evT, AW.evalE, AW.evalB, AW.evalEs, AW.evalO, AW.evalC, AW.evalL, AW.evalIt, AW.evOr, AW.evAnd, AW.evNot, AW.evIte, AW.evTup, AW.evLm, AW.evDisp, AW.evCall, AW.evCons, AW.evStar, AW.evNil, AW.evNoPart, AW.evDsp, AW.evPart, AW.evYes, AW.evSli, AW.ixV, AW.ev1, AW.ev2, AW.evVar, AW.evCon, AW.peek, AW.truV, AW.truD, AW.isiD, AW.cmpV, LK.cLt, LK.cLe, LK.cGt, LK.cGe, AW.b1D, AW.finish, AW.retV, AW.Val.data, AW.Val.datas, AW.allocL, AW.wp_bind, AW.wp_ok, AW.wp_ite, AW.evChain, AW.lenD, AW.Tg.slots, hn, hb, idxD_0, eqStr, n4, n9, i2, hl]
      · rw [if_neg (by omega)]
        simp [lbBody, f16, AW.execSs, AW.execS, AW.exSeq, AW.exIf, AW.exNext, AW.exRet, AW.exAsg, AW.exDrop, AW.exSetIx, AW.evT, AW.evalE, AW.evalB, AW.evalEs, AW.evalO, AW.evalC, AW.evalL, AW.evalIt, AW.evOr, AW.evAnd, AW.evNot, AW.evIte, AW.evTup, AW.evLm, AW.evDisp, AW.evCall, AW.evCons, AW.evStar, AW.evNil, AW.evNoPart, AW.evDsp, AW.evPart, AW.evYes, AW.evSli, AW.ixV, AW.ev1, AW.ev2, AW.evVar, AW.evCon, AW.peek, AW.truV, AW.truD, AW.isiD, AW.cmpV, LK.cLt, LK.cLe, LK.cGt, LK.cGe, AW.b1D, AW.finish, AW.retV, AW.Val.data, AW.Val.datas, AW.allocL, AW.wp_bind, AW.wp_ok, AW.wp_ite, AW.evChain, AW.lenD, AW.Tg.slots, hn, hb, idxD_0, eqStr, n4, n9, i2, hl, binD]
  · have hb' : nodeB d = false := by simpa using hb
    refine ⟨none, ?_⟩
    rw [if_neg (fun q => hb q.1)]
    simp [lbBody, f16, AW.execSs, AW.execS, AW.exSeq, AW.exIf, AW.exNext, AW.exRet, AW.exAsg, AW.exDrop, AW.exSetIx, AW.evT, AW.evalE, AW.evalB, AW.evalEs, AW.evalO, AW.evalC, AW.evalL, AW.evalIt, AW.evOr, AW.evAnd, AW.evNot, AW.evIte, AW.evTup, AW.evLm, AW.evDisp, AW.evCall, AW.evCons, AW.evStar, AW.evNil, AW.evNoPart, AW.evDsp, AW.evPart, AW.evYes, AW.evSli, AW.ixV, AW.ev1, AW.ev2, AW.evVar, AW.evCon, AW.peek, AW.truV, AW.truD, AW.isiD, AW.cmpV, LK.cLt, LK.cLe, LK.cGt, LK.cGe, AW.b1D, AW.finish, AW.retV, AW.Val.data, AW.Val.datas, AW.allocL, AW.wp_bind, AW.wp_ok, AW.wp_ite, AW.evChain, AW.lenD, AW.Tg.slots, hn, hb']
theorem lb_go {k : Nat} (hk : 2 ≤ k) {v0 : Option Val} {m : Store} : ∀ (ds : List D) (h : Nat) (u2 u3 : Option Val), (∀ d ∈ ds, okN1 d) →
    (ds.all nodeB = true ∧ ∃ h' u2' u3', heights ds h = some h' ∧ goFor (fun d ρ m => (lift m (bindT (.name 2) d ρ)).bind fun ρ m => execSs tab.gvals (R k) 100 lbBody ρ m) ds [v0, some (.d (.int (h : Int))), u2, u3] m = .ok (.nx [v0, some (.d (.int (h' : Int))), u2', u3']) m) ∨
    (¬ (ds.all nodeB = true ∧ ∃ h', heights ds h = some h') ∧ goFor (fun d ρ m => (lift m (bindT (.name 2) d ρ)).bind fun ρ m => execSs tab.gvals (R k) 100 lbBody ρ m) ds [v0, some (.d (.int (h : Int))), u2, u3] m = .ok (.ret (.d (.bl false))) m)
  | [], h, u2, u3, _ => .inl ⟨rfl, h, u2, u3, rfl, rfl⟩
  | d :: ds, h, u2, u3, ho => by
    obtain ⟨x3, t⟩ := lb_turn hk (v0 := v0) (u3 := u3) (h := h) (m := m) (ho d List.mem_cons_self)
    have st : ∀ (o : Out Fl), execSs tab.gvals (R k) 100 lbBody [v0, some (.d (.int (h : Int))), some (.d d), u3] m = o → goFor (fun d ρ m => (lift m (bindT (.name 2) d ρ)).bind fun ρ m => execSs tab.gvals (R k) 100 lbBody ρ m) (d :: ds) [v0, some (.d (.int (h : Int))), u2, u3] m = o.bind fun r m => match r with
        | .nx ρ => goFor (fun d ρ m => (lift m (bindT (.name 2) d ρ)).bind fun ρ m => execSs tab.gvals (R k) 100 lbBody ρ m) ds ρ m
        | .ct ρ => goFor (fun d ρ m => (lift m (bindT (.name 2) d ρ)).bind fun ρ m => execSs tab.gvals (R k) 100 lbBody ρ m) ds ρ m
        | .bk ρ => .ok (.nx ρ) m
        | .ret v => .ok (.ret v) m := fun o e => by rw [← e]; rfl
    by_cases hq : nodeB d = true ∧ ¬ h < arity d
    · rw [if_pos hq] at t
      rw [st _ t]
      have hh : heights (d :: ds) h = heights ds (h - arity d + 1) := by simp only [heights, if_neg hq.2]
      rw [hh, List.all_cons, hq.1, Bool.true_and]
      exact lb_go hk ds (h - arity d + 1) (some (.d d)) x3 fun x hx => ho x (List.mem_cons_of_mem _ hx)
    · rw [if_neg hq] at t
      rw [st _ t]
      refine .inr ⟨fun q => hq ⟨?_, fun hl => ?_⟩, rfl⟩
      · rw [List.all_cons, Bool.and_eq_true] at q; exact q.1.1
      · obtain ⟨_, h', e⟩ := q
        simp [heights, hl] at e
theorem s_law_body {k : Nat} (hk : 3 ≤ k) {d : D} {m : Store} (h : okB d) : R k 16 [.d d] m = .ok (.d (.bl (bodyB d))) m := by
  obtain ⟨k, rfl⟩ : ∃ j, k = j + 3 := ⟨k - 3, by omega⟩
  show AW.finish false m (execSs tab.gvals (R (k + 2)) 100 f16.body [some (.d d), none, none, none] m) = _
  cases d with
  | tup ds =>
    have h : ∀ d ∈ ds, okN1 d := h
    by_cases h1 : 1 ≤ ds.length
    · have i1 : (1 : Int) ≤ (ds.length : Int) := by omega
      by_cases h4 : ds.length ≤ 40
      · have i4 : (ds.length : Int) ≤ 40 := by omega
        have run : ∀ o, goFor (fun d ρ m => (lift m (bindT (.name 2) d ρ)).bind fun ρ m => execSs tab.gvals (R (k + 2)) 100 lbBody ρ m) ds [some (.d (.tup ds)), some (.d (.int ((0 : Nat) : Int))), none, none] m = o →
            execSs tab.gvals (R (k + 2)) 100 f16.body [some (.d (.tup ds)), none, none, none] m = o.bind fun r m => match r with
              | .nx ρ => execSs tab.gvals (R (k + 2)) 100 (.cons (.ret (.cmp .Eq (.var 1) (.con (.int 1)))) .nil) ρ m
              | r => .ok r m := fun o e => by
          rw [← e]
          have g : evT (evalE tab.gvals (R (k + 2)) (.bop false (.cons (.not (.isi (.var 0) .tuple)) (.cons (.not (.cmp2 .LtE .LtE (.con (.int 1)) (.b1 .len (.var 0)) (.con (.int 40)))) .nil)))) [some (.d (.tup ds)), none, none, none] m = .ok false m := by
            simp [AW.execSs, AW.execS, AW.exSeq, AW.exIf, AW.exNext, AW.exRet, AW.exAsg, AW.exDrop, AW.exSetIx, AW.evT, AW.evalE, AW.evalB, AW.evalEs, AW.evalO, AW.evalC, AW.evalL, AW.evalIt, AW.evOr, AW.evAnd, AW.evNot, AW.evIte, AW.evTup, AW.evLm, AW.evDisp, AW.evCall, AW.evCons, AW.evStar, AW.evNil, AW.evNoPart, AW.evDsp, AW.evPart, AW.evYes, AW.evSli, AW.ixV, AW.ev1, AW.ev2, AW.evVar, AW.evCon, AW.peek, AW.truV, AW.truD, AW.isiD, AW.cmpV, LK.cLt, LK.cLe, LK.cGt, LK.cGe, AW.b1D, AW.finish, AW.retV, AW.Val.data, AW.Val.datas, AW.allocL, AW.wp_bind, AW.wp_ok, AW.wp_ite, AW.evChain, AW.lenD, AW.Tg.slots, i1, i4]
          show ((exIf _ _ _ _ _).bind _) = _
          unfold exIf
          rw [g]
          rfl
        rcases lb_go (k := k + 2) (by omega) (v0 := some (.d (.tup ds))) (m := m) ds 0 none none h with ⟨ha, h', u2, u3, hh, e⟩ | ⟨hn, e⟩
        · rw [run _ e]
          by_cases h2 : h' = 1
          · subst h2
            simp [AW.execSs, AW.execS, AW.exSeq, AW.exIf, AW.exNext, AW.exRet, AW.exAsg, AW.exDrop, AW.exSetIx, AW.evT, AW.evalE, AW.evalB, AW.evalEs, AW.evalO, AW.evalC, AW.evalL, AW.evalIt, AW.evOr, AW.evAnd, AW.evNot, AW.evIte, AW.evTup, AW.evLm, AW.evDisp, AW.evCall, AW.evCons, AW.evStar, AW.evNil, AW.evNoPart, AW.evDsp, AW.evPart, AW.evYes, AW.evSli, AW.ixV, AW.ev1, AW.ev2, AW.evVar, AW.evCon, AW.peek, AW.truV, AW.truD, AW.isiD, AW.cmpV, LK.cLt, LK.cLe, LK.cGt, LK.cGe, AW.b1D, AW.finish, AW.retV, AW.Val.data, AW.Val.datas, AW.allocL, AW.wp_bind, AW.wp_ok, AW.wp_ite, AW.evChain, AW.lenD, AW.Tg.slots, eqI, bodyB, h1, h4, ha, hh]
          · have i2 : ¬ (h' : Int) = 1 := by omega
            simp [AW.execSs, AW.execS, AW.exSeq, AW.exIf, AW.exNext, AW.exRet, AW.exAsg, AW.exDrop, AW.exSetIx, AW.evT, AW.evalE, AW.evalB, AW.evalEs, AW.evalO, AW.evalC, AW.evalL, AW.evalIt, AW.evOr, AW.evAnd, AW.evNot, AW.evIte, AW.evTup, AW.evLm, AW.evDisp, AW.evCall, AW.evCons, AW.evStar, AW.evNil, AW.evNoPart, AW.evDsp, AW.evPart, AW.evYes, AW.evSli, AW.ixV, AW.ev1, AW.ev2, AW.evVar, AW.evCon, AW.peek, AW.truV, AW.truD, AW.isiD, AW.cmpV, LK.cLt, LK.cLe, LK.cGt, LK.cGe, AW.b1D, AW.finish, AW.retV, AW.Val.data, AW.Val.datas, AW.allocL, AW.wp_bind, AW.wp_ok, AW.wp_ite, AW.evChain, AW.lenD, AW.Tg.slots, eqI, bodyB, h1, h4, ha, hh, h2, i2]
        · rw [run _ e]
          have : (ds.all nodeB && decide (heights ds 0 = some 1)) = false := by
            rw [Bool.and_eq_false_iff]
            by_cases ha : ds.all nodeB = true
            · exact .inr (decide_eq_false fun e => hn ⟨ha, 1, e⟩)
            · exact .inl (by simpa using ha)
          have e2 : bodyB (.tup ds) = false := by
            show (decide (1 ≤ ds.length) && decide (ds.length ≤ 40) && ds.all nodeB && decide (heights ds 0 = some 1)) = false
            rw [Bool.and_assoc, this, Bool.and_false]
          rw [e2]
          simp [AW.finish, retV]
      · have i4 : ¬ (ds.length : Int) ≤ 40 := by omega
        simp [f16, AW.execSs, AW.execS, AW.exSeq, AW.exIf, AW.exNext, AW.exRet, AW.exAsg, AW.exDrop, AW.exSetIx, AW.evT, AW.evalE, AW.evalB, AW.evalEs, AW.evalO, AW.evalC, AW.evalL, AW.evalIt, AW.evOr, AW.evAnd, AW.evNot, AW.evIte, AW.evTup, AW.evLm, AW.evDisp, AW.evCall, AW.evCons, AW.evStar, AW.evNil, AW.evNoPart, AW.evDsp, AW.evPart, AW.evYes, AW.evSli, AW.ixV, AW.ev1, AW.ev2, AW.evVar, AW.evCon, AW.peek, AW.truV, AW.truD, AW.isiD, AW.cmpV, LK.cLt, LK.cLe, LK.cGt, LK.cGe, AW.b1D, AW.finish, AW.retV, AW.Val.data, AW.Val.datas, AW.allocL, AW.wp_bind, AW.wp_ok, AW.wp_ite, AW.evChain, AW.lenD, AW.Tg.slots, i1, i4, bodyB, h1, h4]
    · have i1 : ¬ (1 : Int) ≤ (ds.length : Int) := by omega
      simp [f16, AW.execSs, AW.execS, AW.exSeq, AW.exIf, AW.exNext, AW.exRet, AW.exAsg, AW.exDrop, AW.exSetIx, AW.evT, AW.evalE, AW.evalB, AW.evalEs, AW.evalO, AW.evalC, AW.evalL, AW.evalIt, AW.evOr, AW.evAnd, AW.evNot, AW.evIte, AW.evTup, AW.evLm, AW.evDisp, AW.evCall, AW.evCons, AW.evStar, AW.evNil, AW.evNoPart, AW.evDsp, AW.evPart, AW.evYes, AW.evSli, AW.ixV, AW.ev1, AW.ev2, AW.evVar, AW.evCon, AW.peek, AW.truV, AW.truD, AW.isiD, AW.cmpV, LK.cLt, LK.cLe, LK.cGt, LK.cGe, AW.b1D, AW.finish, AW.retV, AW.Val.data, AW.Val.datas, AW.allocL, AW.wp_bind, AW.wp_ok, AW.wp_ite, AW.evChain, AW.lenD, AW.Tg.slots, i1, bodyB, h1]
  | _ => simp [f16, AW.execSs, AW.execS, AW.exSeq, AW.exIf, AW.exNext, AW.exRet, AW.exAsg, AW.exDrop, AW.exSetIx, AW.evT, AW.evalE, AW.evalB, AW.evalEs, AW.evalO, AW.evalC, AW.evalL, AW.evalIt, AW.evOr, AW.evAnd, AW.evNot, AW.evIte, AW.evTup, AW.evLm, AW.evDisp, AW.evCall, AW.evCons, AW.evStar, AW.evNil, AW.evNoPart, AW.evDsp, AW.evPart, AW.evYes, AW.evSli, AW.ixV, AW.ev1, AW.ev2, AW.evVar, AW.evCon, AW.peek, AW.truV, AW.truD, AW.isiD, AW.cmpV, LK.cLt, LK.cLe, LK.cGt, LK.cGe, AW.b1D, AW.finish, AW.retV, AW.Val.data, AW.Val.datas, AW.allocL, AW.wp_bind, AW.wp_ok, AW.wp_ite, AW.evChain, AW.lenD, AW.Tg.slots, bodyB]
end LK
set_option maxRecDepth 100000
set_option maxHeartbeats 4000000
namespace LK
open PySem AW
theorem repr5 : ∀ b0 b1 b2 b3 b4 : Bool, ∃ s, b1D .repr (.lst [.bl b0, .bl b1, .bl b2, .bl b3, .bl b4]) = some (.str s) := by
  intro b0 b1 b2 b3 b4
  have h : (reprD (.lst [.bl b0, .bl b1, .bl b2, .bl b3, .bl b4])).isSome = true := by
    cases b0 <;> cases b1 <;> cases b2 <;> cases b3 <;> cases b4 <;> decide +kernel
  obtain ⟨s, e⟩ := Option.isSome_iff_exists.mp h
  exact ⟨s, by show (reprD _).map D.str = _; rw [e]; rfl⟩
theorem repr1 : ∀ b : Bool, ∃ s, b1D .repr (.bl b) = some (.str s) := by
  intro b
  have h : (reprD (.bl b)).isSome = true := by cases b <;> decide +kernel
  obtain ⟨s, e⟩ := Option.isSome_iff_exists.mp h
  exact ⟨s, by show (reprD _).map D.str = _; rw [e]; rfl⟩
section
variable {G : List D} {Φ : Fns} {i j c : Nat} {X Y C : E} {es : Es} {ρ : Ev} {m m1 m2 : Store} {ds : List D} {a b d z : D} {r : Int} {v x : Val} {vs : List Val} {s : Str}
theorem ev_callv (h : ρ[j]? = some (some x)) (hc : Φ i [x] m = .ok v m1) : evalE G Φ (.call i (.cons (.var j) .nil)) ρ m = .ok v m1 := by
  simp [evalE, evalEs, evCall, evCons, evNil, evVar, h, hc]
theorem ne_repr (h1 : evalE G Φ X ρ m = .ok (.d a) m) (h2 : evalE G Φ Y ρ m = .ok (.d a) m) (hs : b1D .repr a = some (.str s)) : evT (evalE G Φ (.cmp .NotEq (.b1 .repr X) (.b1 .repr Y))) ρ m = .ok false m := by
  simp [evalE, evT, ev1, ev2, h1, h2, hs, peek, cmpV, neStr, truV, truD]
theorem ev_call3 {v0 v1 v2 : Val} {p q l : Nat} (h0 : ρ[p]? = some (some v0)) (h1 : ρ[q]? = some (some v1)) (h2 : ρ[l]? = some (some v2)) (hc : Φ i [v0, v1, v2] m = .ok v m1) : evalE G Φ (.call i (.cons (.var p) (.cons (.var q) (.cons (.var l) .nil)))) ρ m = .ok v m1 := by
  simp [evalE, evalEs, evCall, evCons, evNil, evVar, h0, h1, h2, hc]
theorem ev_ex {v0 v1 v2 : Val} {p q l : Nat} (h0 : ρ[p]? = some (some v0)) (h1 : ρ[q]? = some (some v1)) (h2 : ρ[l]? = some (some v2)) (hc : Φ i [v0, v1, v2, .d d] m = .ok (.d (.lst ds)) m1) : evalE G Φ (.b1 .tuple (.call i (.cons (.var p) (.cons (.var q) (.cons (.var l) (.cons (.con d) .nil)))))) ρ m = .ok (.d (.tup ds)) m1 := by
  simp [evalE, evalEs, evCall, evCons, evNil, evVar, evCon, h0, h1, h2, hc, ev1, peek, b1D]
end
theorem spoiledE0 {k : Nat} (hk : 4 ≤ k) {c : Nat} {x : D} (hx : nodeB x = true) {m0 m : Store} (s : Dc m0 c m) : ∃ (d : D) (m' : Store), R k 19 [.cell c, .d x] m = .ok (.d d) m' ∧ okN1 d ∧ Dc m0 c m' := by
  have := spoiledE hk hx [] s
  simpa using this
def RtI (m0 : Store) (c : Nat) (ws : D) (v3 v4 : Option Val) (rest : List D) (ρ : Ev) (M : Store) : Prop := ∃ u2 u5 u6 u7 u8 : Option Val, ρ = [some (.cell c), some (.d ws), u2, v3, v4, u5, u6, u7, u8] ∧ Dc m0 c M
theorem d_right {k : Nat} (hk : 8 ≤ k) {c : Nat} : Draws (fun m => R k 21 [.cell c] m) c fun v => v = .d (.bl true) := by
  obtain ⟨k, rfl⟩ : ∃ j, k = j + 8 := ⟨k - 8, by omega⟩
  intro m0 m Q h q
  obtain ⟨v, m1, e1, W, rfl, ⟨W4, Wn, Wo⟩, s1⟩ := wp_eq (d_words (k := k + 7) (by omega) m0 m (fun v M => ∃ W : List Str, v = .d (.lst (W.map D.str)) ∧ Words W ∧ Dc m0 c M) h fun v m' hv s' => by
    obtain ⟨W, rfl, h1⟩ := hv
    exact ⟨W, rfl, h1, s'⟩)
  obtain ⟨w0, w1, w2, w3, rfl⟩ : ∃ w0 w1 w2 w3, W = [w0, w1, w2, w3] := by
    match W, W4 with
    | [a, b, c, d], _ => exact ⟨a, b, c, d, rfl⟩
  have hne : w2 ≠ w3 := fun e => by subst e; simp at Wn
  refine wp_run (f := f21) [some (.cell c), none, none, none, none, none, none, none, none] rfl rfl rfl (x_asgE (ev_pick rfl ev_con e1) ?_)
  refine x_forI (RtI m0 c (.lst [.str w0, .str w1, .str w2, .str w3]) none none) (rng_eq (n := 4) (by omega) ev_con) ⟨_, _, _, _, _, rfl, s1⟩ ?_ ?_
  · rintro d rest ρ M ⟨u2, u5, u6, u7, u8, rfl, s⟩
    refine ⟨_, rfl, ?_⟩
    obtain ⟨nd, m2, e2, hnd, s2⟩ := nodeE0 (k := k + 7) (by omega) Wo s
    obtain ⟨sp, m3, e3, osp, s3⟩ := spoiledE0 (k := k + 7) (by omega) hnd s2
    obtain ⟨od, m4, e4, o1, o2, s4⟩ := oddE0 (k := k + 7) (by omega) s3
    refine x_asgE (ev_pick rfl (ev_var rfl) e2) ?_
    refine x_par (wp_is (es_cons (ev_pick rfl (ev_var rfl) e3) (es_cons (ev_call1 rfl e4) es_nil)) ⟨_, rfl, ?_⟩)
    have n1 := s_is_node (k := k + 7) (by omega) (m := m4) (node_ok hnd)
    rw [hnd] at n1
    have n2 := s_is_node (k := k + 7) (by omega) (m := m4) osp
    have n3 := s_is_node (k := k + 7) (by omega) (m := m4) o1
    have b1 := s_is_body (k := k + 7) (by omega) (m := m4) o2
    have b2 := s_is_body (k := k + 7) (by omega) (m := m4) (node_okB hnd)
    have l2 := s_law_node (k := k + 7) (by omega) (m := m4) osp
    have l3 := s_law_node (k := k + 7) (by omega) (m := m4) o1
    have c1 := s_law_body (k := k + 7) (by omega) (m := m4) o2
    have c2 := s_law_body (k := k + 7) (by omega) (m := m4) (node_okB hnd)
    obtain ⟨rs, ers⟩ := repr5 true (nodeB sp) (nodeB od) (bodyB od) (bodyB nd)
    refine x_asgE (ev_dispF (es_cons (ev_callv rfl n1) (es_cons (ev_callv rfl n2) (es_cons (ev_callv rfl n3) (es_cons (ev_callv rfl b1) (es_cons (ev_callv rfl b2) es_nil))))) rfl (by simp)) ?_
    refine x_noE (ne_repr (ev_var rfl) (ev_dispF (es_cons ev_con (es_cons (ev_callv rfl l2) (es_cons (ev_callv rfl l3) (es_cons (ev_callv rfl c1) (es_cons (ev_callv rfl c2) es_nil))))) rfl (by simp)) ers) ?_
    exact x_nil ⟨_, _, _, _, _, rfl, s4⟩
  · rintro ρ M ⟨u2, u5, u6, u7, u8, rfl, s⟩
    obtain ⟨r, m2, e2, r0, r1, s2⟩ := rollE0 (k := k + 7) (by omega) (n := 4) (by omega) (by omega) s
    refine x_asgE (v := .d (arD w2 w3 r)) (m' := m2) (by simp [AW.evT, AW.lift_some, AW.Out.bind_ok, AW.evLb, AW.evalE, AW.evalB, AW.evalEs, AW.evalO, AW.evalC, AW.evalL, AW.evalIt, AW.evOr, AW.evAnd, AW.evNot, AW.evIte, AW.evTup, AW.evLm, AW.evDisp, AW.evCall, AW.evCons, AW.evStar, AW.evNil, AW.evNoPart, AW.evDsp, AW.evPart, AW.evYes, AW.evSli, AW.ev1, AW.ev2, AW.evVar, AW.evCon, AW.cmpV, LK.cLt, LK.cLe, LK.cGt, LK.cGe, AW.Val.datas, AW.allocL, AW.wp_bind, AW.wp_ok, AW.wp_ite, AW.evChain, AW.Tg.slots, LK.gv_MAX_LETTERS, LK.gv_KEYWORDS, LK.gv_MAX_PARAMETERS, LK.gv_MAX_OPERANDS, LK.gv_MAX_NODES, LK.gv_LAZY, LK.gv_STRICT, LK.gv_LEAVES, AW.idxL0, AW.idxL1, AW.idxL2, AW.idxL3, AW.idxL4, AW.idxD_0, AW.idxD_1, AW.sl_lst, AW.sl_tup, AW.ix_some, AW.i_non_bool, AW.i_non_int, AW.i_non_str, AW.i_non_tuple, AW.i_non_list, AW.i_non_dict, AW.i_bl_bool, AW.i_bl_int, AW.i_bl_str, AW.i_bl_tuple, AW.i_bl_list, AW.i_bl_dict, AW.i_int_bool, AW.i_int_int, AW.i_int_str, AW.i_int_tuple, AW.i_int_list, AW.i_int_dict, AW.i_str_bool, AW.i_str_int, AW.i_str_str, AW.i_str_tuple, AW.i_str_list, AW.i_str_dict, AW.i_tup_bool, AW.i_tup_int, AW.i_tup_str, AW.i_tup_tuple, AW.i_tup_list, AW.i_tup_dict, AW.i_lst_bool, AW.i_lst_int, AW.i_lst_str, AW.i_lst_tuple, AW.i_lst_list, AW.i_lst_dict, AW.i_dct_bool, AW.i_dct_int, AW.i_dct_str, AW.i_dct_tuple, AW.i_dct_list, AW.i_dct_dict, AW.t_non, AW.t_bl, AW.t_int, AW.t_tup, AW.t_lst, AW.pk_d, AW.pk_c, AW.tv_d, AW.ln_tup, AW.ln_lst, AW.ln_str, AW.b_len, AW.b_len2, AW.b_len3, AW.b_abs, AW.b_dlen, AW.b_all, AW.b_any, AW.b_int, AW.b_intb, AW.b_tupl, AW.b_tupt, AW.dt_d, evDspE, pairUp, strsD, e2, hne, arD]) ?_
    obtain ⟨v, m3, e3, ds, rfl, ⟨x1, x2⟩, xl, s3⟩ := wp_eq (d_expr (a := r) Wo hne r0 (by omega) 3 (by omega) (k + 7) (by omega) m0 m2 (fun v M => ∃ ds : List D, v = .d (.lst ds) ∧ Xp ds ∧ ds.length ≤ bnd 3 ∧ Dc m0 c M) s2 fun v m' hv s' => by
      obtain ⟨r, rfl, h1, h2⟩ := hv
      exact ⟨r, rfl, h1, h2, s'⟩)
    refine x_asgE (ev_ex rfl rfl rfl e3) ?_
    have l40 : ds.length ≤ 40 := xl
    have hz : ds ≠ [] := fun e => by subst e; have := x2 0; simp [heights] at this
    have hp : 1 ≤ ds.length := List.length_pos_iff.mpr hz
    have ob : okB (.tup ds) := fun x hx => node_ok (List.all_eq_true.mp x1 x hx)
    have hbb : bodyB (.tup ds) = true := by
      show (decide (1 ≤ ds.length) && decide (ds.length ≤ 40) && ds.all nodeB && decide (heights ds 0 = some 1)) = true
      rw [decide_eq_true hp, decide_eq_true l40, x1, x2 0]; rfl
    have b1 := s_is_body (k := k + 7) (by omega) (m := m3) ob
    have c1 := s_law_body (k := k + 7) (by omega) (m := m3) ob
    rw [hbb] at b1 c1
    have tt : cmpD .IsNot (.bl true) (.bl true) = some false := rfl
    refine x_noE (m' := m3) (by simp [AW.evT, AW.lift_some, AW.Out.bind_ok, AW.evLb, AW.evalE, AW.evalB, AW.evalEs, AW.evalO, AW.evalC, AW.evalL, AW.evalIt, AW.evOr, AW.evAnd, AW.evNot, AW.evIte, AW.evTup, AW.evLm, AW.evDisp, AW.evCall, AW.evCons, AW.evStar, AW.evNil, AW.evNoPart, AW.evDsp, AW.evPart, AW.evYes, AW.evSli, AW.ev1, AW.ev2, AW.evVar, AW.evCon, AW.cmpV, LK.cLt, LK.cLe, LK.cGt, LK.cGe, AW.Val.datas, AW.allocL, AW.wp_bind, AW.wp_ok, AW.wp_ite, AW.evChain, AW.Tg.slots, LK.gv_MAX_LETTERS, LK.gv_KEYWORDS, LK.gv_MAX_PARAMETERS, LK.gv_MAX_OPERANDS, LK.gv_MAX_NODES, LK.gv_LAZY, LK.gv_STRICT, LK.gv_LEAVES, AW.idxL0, AW.idxL1, AW.idxL2, AW.idxL3, AW.idxL4, AW.idxD_0, AW.idxD_1, AW.sl_lst, AW.sl_tup, AW.ix_some, AW.i_non_bool, AW.i_non_int, AW.i_non_str, AW.i_non_tuple, AW.i_non_list, AW.i_non_dict, AW.i_bl_bool, AW.i_bl_int, AW.i_bl_str, AW.i_bl_tuple, AW.i_bl_list, AW.i_bl_dict, AW.i_int_bool, AW.i_int_int, AW.i_int_str, AW.i_int_tuple, AW.i_int_list, AW.i_int_dict, AW.i_str_bool, AW.i_str_int, AW.i_str_str, AW.i_str_tuple, AW.i_str_list, AW.i_str_dict, AW.i_tup_bool, AW.i_tup_int, AW.i_tup_str, AW.i_tup_tuple, AW.i_tup_list, AW.i_tup_dict, AW.i_lst_bool, AW.i_lst_int, AW.i_lst_str, AW.i_lst_tuple, AW.i_lst_list, AW.i_lst_dict, AW.i_dct_bool, AW.i_dct_int, AW.i_dct_str, AW.i_dct_tuple, AW.i_dct_list, AW.i_dct_dict, AW.t_non, AW.t_bl, AW.t_int, AW.t_tup, AW.t_lst, AW.pk_d, AW.pk_c, AW.tv_d, AW.ln_tup, AW.ln_lst, AW.ln_str, AW.b_len, AW.b_len2, AW.b_len3, AW.b_abs, AW.b_dlen, AW.b_all, AW.b_any, AW.b_int, AW.b_intb, AW.b_tupl, AW.b_tupt, AW.dt_d, b1, c1, tt]) ?_
    simp only [List.set_cons_succ, List.set_cons_zero]
    refine x_forI (RtI m0 c (.lst [.str w0, .str w1, .str w2, .str w3]) (some (.d (arD w2 w3 r))) (some (.d (.tup ds)))) (rng_eq (n := 6) (by omega) ev_con) ⟨_, _, _, _, _, rfl, s3⟩ ?_ ?_
    · rintro d rest ρ M ⟨u2, u5, u6, u7, u8, rfl, s⟩
      refine ⟨_, rfl, ?_⟩
      obtain ⟨v, m4, e4, y, rfl, oy, s4⟩ := wp_eq (d_bent (k := k + 7) (by omega) Wo hz l40 x1 m0 M (fun v M => ∃ d : D, v = .d d ∧ okB d ∧ Dc m0 c M) s fun v m' hv s' => by
        obtain ⟨r, rfl, h1⟩ := hv
        exact ⟨r, rfl, h1, s'⟩)
      refine x_asgE (ev_call3 rfl rfl rfl e4) ?_
      obtain ⟨rs, ers⟩ := repr1 (bodyB y)
      refine x_noE (ne_repr (ev_callv rfl (s_is_body (k := k + 7) (by omega) (m := m4) oy)) (ev_callv rfl (s_law_body (k := k + 7) (by omega) (m := m4) oy)) ers) ?_
      exact x_nil ⟨_, _, _, _, _, rfl, s4⟩
    · rintro ρ M ⟨u2, u5, u6, u7, u8, rfl, s⟩
      refine x_ret (wp_is ev_con (fin_ret ?_))
      rw [s.takeS h]
      exact q _ _ rfl s
end LK
set_option maxRecDepth 100000
set_option maxHeartbeats 4000000
namespace LK
open PySem AW
/-! ### the dice of a cell -/
theorem pw57 : binD .Pow (.int 10) (.int 57) = some (.int (10 ^ 57)) := by kernel_rfl
theorem pw11 : binD .Pow (.int (10 ^ 57)) (.int 11) = some (.int ((10 ^ 57) ^ 11)) := by kernel_rfl
theorem pw18 : binD .Pow (.int 10) (.int 18) = some (.int 1000000000000000000) := by kernel_rfl
theorem mod_i {i j : Int} (h : j ≠ 0) : binD .Mod (.int i) (.int j) = some (.int (i.fmod j)) := by
  show (if j ≠ 0 then some (D.int (i.fmod j)) else none) = _
  rw [if_pos h]
theorem mul_l {i j : Int} (h1 : -(2 ^ 64) < i) (h2 : i < 2 ^ 64) : binD .Mult (.int i) (.int j) = some (.int (i * j)) := by
  show (if cmul i j = true then some (D.int (i * j)) else none) = _
  rw [cmul_l h1 h2]; rfl
theorem s_dice {k : Nat} (hk : 1 ≤ k) (m : Store) (ns : List Int) (p : Nat) : ∃ a b : Int, 0 ≤ a ∧ R k 7 [.d (.lst (ns.map .int)), .d (.int (p : Int))] m = .ok (.cell m.length) (m ++ [die a b 0]) := by
  obtain ⟨k, rfl⟩ : ∃ j, k = j + 1 := ⟨k - 1, by omega⟩
  have cellv : ∃ v : Int, evalE tab.gvals (R k) (.ite (.cmp .Lt (.var 1) (.b1 .len (.var 0))) (.idx (.var 0) (.var 1)) (.bin .Add (.bin .Mult (.con (.int 37)) (.var 1)) (.con (.int 11)))) [some (.d (.lst (ns.map .int))), some (.d (.int (p : Int))), none, none] m = .ok (.d (.int v)) m := by
    by_cases hp : p < ns.length
    · have hp' : (p : Int) < (ns.length : Int) := by omega
      exact ⟨ns[p], by simp [AW.evT, AW.lift_some, AW.Out.bind_ok, AW.evLb, AW.evalE, AW.evalB, AW.evalEs, AW.evalO, AW.evalC, AW.evalL, AW.evalIt, AW.evOr, AW.evAnd, AW.evNot, AW.evIte, AW.evTup, AW.evLm, AW.evDisp, AW.evCall, AW.evCons, AW.evStar, AW.evNil, AW.evNoPart, AW.evDsp, AW.evPart, AW.evYes, AW.evSli, AW.ev1, AW.ev2, AW.evVar, AW.evCon, AW.cmpV, LK.cLt, LK.cLe, LK.cGt, LK.cGe, AW.Val.datas, AW.allocL, AW.wp_bind, AW.wp_ok, AW.wp_ite, AW.evChain, AW.Tg.slots, LK.gv_MAX_LETTERS, LK.gv_KEYWORDS, LK.gv_MAX_PARAMETERS, LK.gv_MAX_OPERANDS, LK.gv_MAX_NODES, LK.gv_LAZY, LK.gv_STRICT, LK.gv_LEAVES, AW.idxL0, AW.idxL1, AW.idxL2, AW.idxL3, AW.idxL4, AW.idxD_0, AW.idxD_1, AW.sl_lst, AW.sl_tup, AW.ix_some, AW.i_non_bool, AW.i_non_int, AW.i_non_str, AW.i_non_tuple, AW.i_non_list, AW.i_non_dict, AW.i_bl_bool, AW.i_bl_int, AW.i_bl_str, AW.i_bl_tuple, AW.i_bl_list, AW.i_bl_dict, AW.i_int_bool, AW.i_int_int, AW.i_int_str, AW.i_int_tuple, AW.i_int_list, AW.i_int_dict, AW.i_str_bool, AW.i_str_int, AW.i_str_str, AW.i_str_tuple, AW.i_str_list, AW.i_str_dict, AW.i_tup_bool, AW.i_tup_int, AW.i_tup_str, AW.i_tup_tuple, AW.i_tup_list, AW.i_tup_dict, AW.i_lst_bool, AW.i_lst_int, AW.i_lst_str, AW.i_lst_tuple, AW.i_lst_list, AW.i_lst_dict, AW.i_dct_bool, AW.i_dct_int, AW.i_dct_str, AW.i_dct_tuple, AW.i_dct_list, AW.i_dct_dict, AW.t_non, AW.t_bl, AW.t_int, AW.t_tup, AW.t_lst, AW.pk_d, AW.pk_c, AW.tv_d, AW.ln_tup, AW.ln_lst, AW.ln_str, AW.b_len, AW.b_len2, AW.b_len3, AW.b_abs, AW.b_dlen, AW.b_all, AW.b_any, AW.b_int, AW.b_intb, AW.b_tupl, AW.b_tupt, AW.dt_d, hp, idxL_at p (i := (p : Int)) (ds := ns.map D.int) (d := .int ns[p]) rfl (by simp [hp])]⟩
    · have hp' : ¬ (p : Int) < (ns.length : Int) := by omega
      exact ⟨37 * p + 11, by simp [AW.evT, AW.lift_some, AW.Out.bind_ok, AW.evLb, AW.evalE, AW.evalB, AW.evalEs, AW.evalO, AW.evalC, AW.evalL, AW.evalIt, AW.evOr, AW.evAnd, AW.evNot, AW.evIte, AW.evTup, AW.evLm, AW.evDisp, AW.evCall, AW.evCons, AW.evStar, AW.evNil, AW.evNoPart, AW.evDsp, AW.evPart, AW.evYes, AW.evSli, AW.ev1, AW.ev2, AW.evVar, AW.evCon, AW.cmpV, LK.cLt, LK.cLe, LK.cGt, LK.cGe, AW.Val.datas, AW.allocL, AW.wp_bind, AW.wp_ok, AW.wp_ite, AW.evChain, AW.Tg.slots, LK.gv_MAX_LETTERS, LK.gv_KEYWORDS, LK.gv_MAX_PARAMETERS, LK.gv_MAX_OPERANDS, LK.gv_MAX_NODES, LK.gv_LAZY, LK.gv_STRICT, LK.gv_LEAVES, AW.idxL0, AW.idxL1, AW.idxL2, AW.idxL3, AW.idxL4, AW.idxD_0, AW.idxD_1, AW.sl_lst, AW.sl_tup, AW.ix_some, AW.i_non_bool, AW.i_non_int, AW.i_non_str, AW.i_non_tuple, AW.i_non_list, AW.i_non_dict, AW.i_bl_bool, AW.i_bl_int, AW.i_bl_str, AW.i_bl_tuple, AW.i_bl_list, AW.i_bl_dict, AW.i_int_bool, AW.i_int_int, AW.i_int_str, AW.i_int_tuple, AW.i_int_list, AW.i_int_dict, AW.i_str_bool, AW.i_str_int, AW.i_str_str, AW.i_str_tuple, AW.i_str_list, AW.i_str_dict, AW.i_tup_bool, AW.i_tup_int, AW.i_tup_str, AW.i_tup_tuple, AW.i_tup_list, AW.i_tup_dict, AW.i_lst_bool, AW.i_lst_int, AW.i_lst_str, AW.i_lst_tuple, AW.i_lst_list, AW.i_lst_dict, AW.i_dct_bool, AW.i_dct_int, AW.i_dct_str, AW.i_dct_tuple, AW.i_dct_list, AW.i_dct_dict, AW.t_non, AW.t_bl, AW.t_int, AW.t_tup, AW.t_lst, AW.pk_d, AW.pk_c, AW.tv_d, AW.ln_tup, AW.ln_lst, AW.ln_str, AW.b_len, AW.b_len2, AW.b_len3, AW.b_abs, AW.b_dlen, AW.b_all, AW.b_any, AW.b_int, AW.b_intb, AW.b_tupl, AW.b_tupt, AW.dt_d, hp, add_i, mul_l (i := 37) (by omega) (by omega)]⟩
  obtain ⟨v, ev⟩ := cellv
  generalize hN : ((10 : Int) ^ 57) ^ 11 = N
  have hN0 : 0 < N := by rw [← hN]; exact Int.pow_pos (Int.pow_pos (by omega))
  have p11 := pw11
  rw [hN] at p11
  have hNn : N ≠ 0 := by omega
  generalize hwd : (if v < 0 then -v else v).fmod N = wh
  have hw0 : 0 ≤ wh := by rw [← hwd]; exact (fmod_lt hN0).1
  have key : ∃ a b : Int, 0 ≤ a ∧ evalE tab.gvals (R k) (.lm true (.disp (.cons (.ite (.cmp .GtE (.var 3) (.bin .Pow (.con (.int 10)) (.con (.int 18)))) (.var 3) (.con (.int 0))) (.cons (.bin .Add (.bin .Add (.bin .Add (.bin .Mult (.con (.int 2)) (.var 3)) (.b1 .int (.cmp .Lt (.var 2) (.con (.int 0))))) (.bin .Mult (.con (.int 131071)) (.var 1))) (.con (.int 3))) (.cons (.con (.int 0)) .nil))))) [some (.d (.lst (ns.map .int))), some (.d (.int (p : Int))), some (.d (.int v)), some (.d (.int wh))] m = .ok (.cell m.length) (m ++ [die a b 0]) := by
    by_cases hg : (1000000000000000000 : Int) ≤ wh
    · by_cases hv : v < 0
      · exact ⟨wh, 2 * wh + 1 + 131071 * p + 3, hw0, by simp [AW.evT, AW.lift_some, AW.Out.bind_ok, AW.evLb, AW.evalE, AW.evalB, AW.evalEs, AW.evalO, AW.evalC, AW.evalL, AW.evalIt, AW.evOr, AW.evAnd, AW.evNot, AW.evIte, AW.evTup, AW.evLm, AW.evDisp, AW.evCall, AW.evCons, AW.evStar, AW.evNil, AW.evNoPart, AW.evDsp, AW.evPart, AW.evYes, AW.evSli, AW.ev1, AW.ev2, AW.evVar, AW.evCon, AW.cmpV, LK.cLt, LK.cLe, LK.cGt, LK.cGe, AW.Val.datas, AW.allocL, AW.wp_bind, AW.wp_ok, AW.wp_ite, AW.evChain, AW.Tg.slots, LK.gv_MAX_LETTERS, LK.gv_KEYWORDS, LK.gv_MAX_PARAMETERS, LK.gv_MAX_OPERANDS, LK.gv_MAX_NODES, LK.gv_LAZY, LK.gv_STRICT, LK.gv_LEAVES, AW.idxL0, AW.idxL1, AW.idxL2, AW.idxL3, AW.idxL4, AW.idxD_0, AW.idxD_1, AW.sl_lst, AW.sl_tup, AW.ix_some, AW.i_non_bool, AW.i_non_int, AW.i_non_str, AW.i_non_tuple, AW.i_non_list, AW.i_non_dict, AW.i_bl_bool, AW.i_bl_int, AW.i_bl_str, AW.i_bl_tuple, AW.i_bl_list, AW.i_bl_dict, AW.i_int_bool, AW.i_int_int, AW.i_int_str, AW.i_int_tuple, AW.i_int_list, AW.i_int_dict, AW.i_str_bool, AW.i_str_int, AW.i_str_str, AW.i_str_tuple, AW.i_str_list, AW.i_str_dict, AW.i_tup_bool, AW.i_tup_int, AW.i_tup_str, AW.i_tup_tuple, AW.i_tup_list, AW.i_tup_dict, AW.i_lst_bool, AW.i_lst_int, AW.i_lst_str, AW.i_lst_tuple, AW.i_lst_list, AW.i_lst_dict, AW.i_dct_bool, AW.i_dct_int, AW.i_dct_str, AW.i_dct_tuple, AW.i_dct_list, AW.i_dct_dict, AW.t_non, AW.t_bl, AW.t_int, AW.t_tup, AW.t_lst, AW.pk_d, AW.pk_c, AW.tv_d, AW.ln_tup, AW.ln_lst, AW.ln_str, AW.b_len, AW.b_len2, AW.b_len3, AW.b_abs, AW.b_dlen, AW.b_all, AW.b_any, AW.b_int, AW.b_intb, AW.b_tupl, AW.b_tupt, AW.dt_d, pw18, hg, hv, add_i, mul_l (i := 2) (by omega) (by omega), mul_l (i := 131071) (by omega) (by omega), sm, die]⟩
      · exact ⟨wh, 2 * wh + 0 + 131071 * p + 3, hw0, by simp [AW.evT, AW.lift_some, AW.Out.bind_ok, AW.evLb, AW.evalE, AW.evalB, AW.evalEs, AW.evalO, AW.evalC, AW.evalL, AW.evalIt, AW.evOr, AW.evAnd, AW.evNot, AW.evIte, AW.evTup, AW.evLm, AW.evDisp, AW.evCall, AW.evCons, AW.evStar, AW.evNil, AW.evNoPart, AW.evDsp, AW.evPart, AW.evYes, AW.evSli, AW.ev1, AW.ev2, AW.evVar, AW.evCon, AW.cmpV, LK.cLt, LK.cLe, LK.cGt, LK.cGe, AW.Val.datas, AW.allocL, AW.wp_bind, AW.wp_ok, AW.wp_ite, AW.evChain, AW.Tg.slots, LK.gv_MAX_LETTERS, LK.gv_KEYWORDS, LK.gv_MAX_PARAMETERS, LK.gv_MAX_OPERANDS, LK.gv_MAX_NODES, LK.gv_LAZY, LK.gv_STRICT, LK.gv_LEAVES, AW.idxL0, AW.idxL1, AW.idxL2, AW.idxL3, AW.idxL4, AW.idxD_0, AW.idxD_1, AW.sl_lst, AW.sl_tup, AW.ix_some, AW.i_non_bool, AW.i_non_int, AW.i_non_str, AW.i_non_tuple, AW.i_non_list, AW.i_non_dict, AW.i_bl_bool, AW.i_bl_int, AW.i_bl_str, AW.i_bl_tuple, AW.i_bl_list, AW.i_bl_dict, AW.i_int_bool, AW.i_int_int, AW.i_int_str, AW.i_int_tuple, AW.i_int_list, AW.i_int_dict, AW.i_str_bool, AW.i_str_int, AW.i_str_str, AW.i_str_tuple, AW.i_str_list, AW.i_str_dict, AW.i_tup_bool, AW.i_tup_int, AW.i_tup_str, AW.i_tup_tuple, AW.i_tup_list, AW.i_tup_dict, AW.i_lst_bool, AW.i_lst_int, AW.i_lst_str, AW.i_lst_tuple, AW.i_lst_list, AW.i_lst_dict, AW.i_dct_bool, AW.i_dct_int, AW.i_dct_str, AW.i_dct_tuple, AW.i_dct_list, AW.i_dct_dict, AW.t_non, AW.t_bl, AW.t_int, AW.t_tup, AW.t_lst, AW.pk_d, AW.pk_c, AW.tv_d, AW.ln_tup, AW.ln_lst, AW.ln_str, AW.b_len, AW.b_len2, AW.b_len3, AW.b_abs, AW.b_dlen, AW.b_all, AW.b_any, AW.b_int, AW.b_intb, AW.b_tupl, AW.b_tupt, AW.dt_d, pw18, hg, hv, add_i, mul_l (i := 2) (by omega) (by omega), mul_l (i := 131071) (by omega) (by omega), sm, die]⟩
    · by_cases hv : v < 0
      · exact ⟨0, 2 * wh + 1 + 131071 * p + 3, by omega, by simp [AW.evT, AW.lift_some, AW.Out.bind_ok, AW.evLb, AW.evalE, AW.evalB, AW.evalEs, AW.evalO, AW.evalC, AW.evalL, AW.evalIt, AW.evOr, AW.evAnd, AW.evNot, AW.evIte, AW.evTup, AW.evLm, AW.evDisp, AW.evCall, AW.evCons, AW.evStar, AW.evNil, AW.evNoPart, AW.evDsp, AW.evPart, AW.evYes, AW.evSli, AW.ev1, AW.ev2, AW.evVar, AW.evCon, AW.cmpV, LK.cLt, LK.cLe, LK.cGt, LK.cGe, AW.Val.datas, AW.allocL, AW.wp_bind, AW.wp_ok, AW.wp_ite, AW.evChain, AW.Tg.slots, LK.gv_MAX_LETTERS, LK.gv_KEYWORDS, LK.gv_MAX_PARAMETERS, LK.gv_MAX_OPERANDS, LK.gv_MAX_NODES, LK.gv_LAZY, LK.gv_STRICT, LK.gv_LEAVES, AW.idxL0, AW.idxL1, AW.idxL2, AW.idxL3, AW.idxL4, AW.idxD_0, AW.idxD_1, AW.sl_lst, AW.sl_tup, AW.ix_some, AW.i_non_bool, AW.i_non_int, AW.i_non_str, AW.i_non_tuple, AW.i_non_list, AW.i_non_dict, AW.i_bl_bool, AW.i_bl_int, AW.i_bl_str, AW.i_bl_tuple, AW.i_bl_list, AW.i_bl_dict, AW.i_int_bool, AW.i_int_int, AW.i_int_str, AW.i_int_tuple, AW.i_int_list, AW.i_int_dict, AW.i_str_bool, AW.i_str_int, AW.i_str_str, AW.i_str_tuple, AW.i_str_list, AW.i_str_dict, AW.i_tup_bool, AW.i_tup_int, AW.i_tup_str, AW.i_tup_tuple, AW.i_tup_list, AW.i_tup_dict, AW.i_lst_bool, AW.i_lst_int, AW.i_lst_str, AW.i_lst_tuple, AW.i_lst_list, AW.i_lst_dict, AW.i_dct_bool, AW.i_dct_int, AW.i_dct_str, AW.i_dct_tuple, AW.i_dct_list, AW.i_dct_dict, AW.t_non, AW.t_bl, AW.t_int, AW.t_tup, AW.t_lst, AW.pk_d, AW.pk_c, AW.tv_d, AW.ln_tup, AW.ln_lst, AW.ln_str, AW.b_len, AW.b_len2, AW.b_len3, AW.b_abs, AW.b_dlen, AW.b_all, AW.b_any, AW.b_int, AW.b_intb, AW.b_tupl, AW.b_tupt, AW.dt_d, pw18, hg, hv, add_i, mul_l (i := 2) (by omega) (by omega), mul_l (i := 131071) (by omega) (by omega), sm, die]⟩
      · exact ⟨0, 2 * wh + 0 + 131071 * p + 3, by omega, by simp [AW.evT, AW.lift_some, AW.Out.bind_ok, AW.evLb, AW.evalE, AW.evalB, AW.evalEs, AW.evalO, AW.evalC, AW.evalL, AW.evalIt, AW.evOr, AW.evAnd, AW.evNot, AW.evIte, AW.evTup, AW.evLm, AW.evDisp, AW.evCall, AW.evCons, AW.evStar, AW.evNil, AW.evNoPart, AW.evDsp, AW.evPart, AW.evYes, AW.evSli, AW.ev1, AW.ev2, AW.evVar, AW.evCon, AW.cmpV, LK.cLt, LK.cLe, LK.cGt, LK.cGe, AW.Val.datas, AW.allocL, AW.wp_bind, AW.wp_ok, AW.wp_ite, AW.evChain, AW.Tg.slots, LK.gv_MAX_LETTERS, LK.gv_KEYWORDS, LK.gv_MAX_PARAMETERS, LK.gv_MAX_OPERANDS, LK.gv_MAX_NODES, LK.gv_LAZY, LK.gv_STRICT, LK.gv_LEAVES, AW.idxL0, AW.idxL1, AW.idxL2, AW.idxL3, AW.idxL4, AW.idxD_0, AW.idxD_1, AW.sl_lst, AW.sl_tup, AW.ix_some, AW.i_non_bool, AW.i_non_int, AW.i_non_str, AW.i_non_tuple, AW.i_non_list, AW.i_non_dict, AW.i_bl_bool, AW.i_bl_int, AW.i_bl_str, AW.i_bl_tuple, AW.i_bl_list, AW.i_bl_dict, AW.i_int_bool, AW.i_int_int, AW.i_int_str, AW.i_int_tuple, AW.i_int_list, AW.i_int_dict, AW.i_str_bool, AW.i_str_int, AW.i_str_str, AW.i_str_tuple, AW.i_str_list, AW.i_str_dict, AW.i_tup_bool, AW.i_tup_int, AW.i_tup_str, AW.i_tup_tuple, AW.i_tup_list, AW.i_tup_dict, AW.i_lst_bool, AW.i_lst_int, AW.i_lst_str, AW.i_lst_tuple, AW.i_lst_list, AW.i_lst_dict, AW.i_dct_bool, AW.i_dct_int, AW.i_dct_str, AW.i_dct_tuple, AW.i_dct_list, AW.i_dct_dict, AW.t_non, AW.t_bl, AW.t_int, AW.t_tup, AW.t_lst, AW.pk_d, AW.pk_c, AW.tv_d, AW.ln_tup, AW.ln_lst, AW.ln_str, AW.b_len, AW.b_len2, AW.b_len3, AW.b_abs, AW.b_dlen, AW.b_all, AW.b_any, AW.b_int, AW.b_intb, AW.b_tupl, AW.b_tupt, AW.dt_d, pw18, hg, hv, add_i, mul_l (i := 2) (by omega) (by omega), mul_l (i := 131071) (by omega) (by omega), sm, die]⟩
  obtain ⟨a, b, ha, ek⟩ := key
  refine ⟨a, b, ha, ?_⟩
  refine eq_of_wp (wp_run (f := f7) [some (.d (.lst (ns.map .int))), some (.d (.int (p : Int))), none, none] rfl rfl rfl (x_asgE ev ?_))
  refine x_asgE (v := .d (.int wh)) (m' := m) ?_ ?_
  · simp only [AW.evT, AW.lift_some, AW.Out.bind_ok, AW.evLb, AW.evalE, AW.evalB, AW.evalEs, AW.evalO, AW.evalC, AW.evalL, AW.evalIt, AW.evOr, AW.evAnd, AW.evNot, AW.evIte, AW.evTup, AW.evLm, AW.evDisp, AW.evCall, AW.evCons, AW.evStar, AW.evNil, AW.evNoPart, AW.evDsp, AW.evPart, AW.evYes, AW.evSli, AW.ev1, AW.ev2, AW.evVar, AW.evCon, AW.cmpV, LK.cLt, LK.cLe, LK.cGt, LK.cGe, AW.Val.datas, AW.allocL, AW.wp_bind, AW.wp_ok, AW.wp_ite, AW.evChain, AW.Tg.slots, LK.gv_MAX_LETTERS, LK.gv_KEYWORDS, LK.gv_MAX_PARAMETERS, LK.gv_MAX_OPERANDS, LK.gv_MAX_NODES, LK.gv_LAZY, LK.gv_STRICT, LK.gv_LEAVES, AW.idxL0, AW.idxL1, AW.idxL2, AW.idxL3, AW.idxL4, AW.idxD_0, AW.idxD_1, AW.sl_lst, AW.sl_tup, AW.ix_some, AW.i_non_bool, AW.i_non_int, AW.i_non_str, AW.i_non_tuple, AW.i_non_list, AW.i_non_dict, AW.i_bl_bool, AW.i_bl_int, AW.i_bl_str, AW.i_bl_tuple, AW.i_bl_list, AW.i_bl_dict, AW.i_int_bool, AW.i_int_int, AW.i_int_str, AW.i_int_tuple, AW.i_int_list, AW.i_int_dict, AW.i_str_bool, AW.i_str_int, AW.i_str_str, AW.i_str_tuple, AW.i_str_list, AW.i_str_dict, AW.i_tup_bool, AW.i_tup_int, AW.i_tup_str, AW.i_tup_tuple, AW.i_tup_list, AW.i_tup_dict, AW.i_lst_bool, AW.i_lst_int, AW.i_lst_str, AW.i_lst_tuple, AW.i_lst_list, AW.i_lst_dict, AW.i_dct_bool, AW.i_dct_int, AW.i_dct_str, AW.i_dct_tuple, AW.i_dct_list, AW.i_dct_dict, AW.t_non, AW.t_bl, AW.t_int, AW.t_tup, AW.t_lst, AW.pk_d, AW.pk_c, AW.tv_d, AW.ln_tup, AW.ln_lst, AW.ln_str, AW.b_len, AW.b_len2, AW.b_len3, AW.b_abs, AW.b_dlen, AW.b_all, AW.b_any, AW.b_int, AW.b_intb, AW.b_tupl, AW.b_tupt, AW.dt_d, List.getElem?_cons_zero, List.getElem?_cons_succ, List.set_cons_zero, List.set_cons_succ, pw57, p11, mod_i hNn, hwd]
  refine x_ret (wp_is ek ?_)
  refine fin_keep (Nat.le_refl _) (g10 rfl) ⟨rfl, ?_⟩
  simp [die]
/-! ### what is written out -/
theorem isB {k : Nat} (hk : 4 ≤ k) {d : D} {b : Bool} {m : Store} (h1 : bB d = true) (h2 : bodyB d = b) : R k 6 [.d d] m = .ok (.d (.bl b)) m := by
  rw [s_is_body hk (bB_ok h1), h2]
theorem isN {k : Nat} (hk : 3 ≤ k) {d : D} {b : Bool} {m : Store} (h1 : n1B d = true) (h2 : nodeB d = b) : R k 3 [.d d] m = .ok (.d (.bl b)) m := by
  rw [s_is_node hk (n1B_ok h1), h2]
section
variable {G : List D} {Φ : Fns} {i : Nat} {X Y : E} {ρ : Ev} {m m1 : Store} {a b : D} {v : Val}
theorem ev_callE (d : D) (h : evalE G Φ X ρ m = .ok (.d d) m) (hc : Φ i [.d d] m = .ok v m1) : evalE G Φ (.call i (.cons X .nil)) ρ m = .ok v m1 := by
  simp [evalE, evalEs, evCall, evCons, evNil, h, hc]
theorem ne_no (h1 : evalE G Φ X ρ m = .ok (.d a) m) (h2 : evalE G Φ Y ρ m = .ok (.d b) m) (hs : cmpD .NotEq a b = some false) : evT (evalE G Φ (.cmp .NotEq X Y)) ρ m = .ok false m := by
  simp [evalE, evT, ev2, h1, h2, hs, peek, cmpV, truV, truD]
end
def dN (i : Int) : D := .tup [.str "do", .str "s", .int i]
def useN (s : Str) : D := .tup [.str "use", .str s]
def tstN : D := .tup [.str "test"]
def row40 : List D := .tup [.str "value"] :: List.replicate 39 (dN 1)
def wide : List D := [useN "a", useN "a", useN "a", tstN]
def row9 : List D := [useN "a", useN "b", useN "c", useN "d", useN "e", useN "f", dN 3, dN 2, tstN]
def LawI (ns : List Int) (rest : List D) (ρ : Ev) (M : Store) : Prop := (∃ u, ρ = [some (.d (.lst (ns.map .int))), u, none, none, none, none]) ∧ ∃ ps : List Nat, rest = ps.map fun p : Nat => D.int (p : Int)
theorem bools13 : cmpD .NotEq (.lst [.bl true, .bl false, .bl true, .bl false, .bl false, .bl true, .bl false, .bl false, .bl true, .bl false, .bl false, .bl false, .bl false]) (.lst [.bl true, .bl false, .bl true, .bl false, .bl false, .bl true, .bl false, .bl false, .bl true, .bl false, .bl false, .bl false, .bl false]) = some false := by kernel_rfl
theorem bools3a : cmpD .NotEq (.lst [.bl true, .bl true, .bl false]) (.lst [.bl true, .bl true, .bl false]) = some false := by kernel_rfl
theorem bools3b : cmpD .NotEq (.lst [.bl false, .bl true, .bl false]) (.lst [.bl false, .bl true, .bl false]) = some false := by kernel_rfl
theorem good : ∀ ns : List Int, ns.length ≤ 63 → ∃ m', run tab.gvals fs 100 12 22 [.d (.lst (ns.map D.int))] [] = .ok (.d (.bl true)) m' := by
  intro ns hn
  have cnt : ∃ n : Nat, n ≤ 8 ∧ evalE tab.gvals (R 11) (.b2 .max (.con (.int 1)) (.b2 .min (.con (.int 8)) (.b1 .len (.var 0)))) [some (.d (.lst (ns.map .int))), none, none, none, none, none] [] = .ok (.d (.int (n : Int))) [] := by
    by_cases h8 : ns.length < 8
    · by_cases h1 : 1 < ns.length
      · exact ⟨ns.length, by omega, by simp [AW.evT, AW.lift_some, AW.Out.bind_ok, AW.evLb, AW.evalE, AW.evalB, AW.evalEs, AW.evalO, AW.evalC, AW.evalL, AW.evalIt, AW.evOr, AW.evAnd, AW.evNot, AW.evIte, AW.evTup, AW.evLm, AW.evDisp, AW.evCall, AW.evCons, AW.evStar, AW.evNil, AW.evNoPart, AW.evDsp, AW.evPart, AW.evYes, AW.evSli, AW.ev1, AW.ev2, AW.evVar, AW.evCon, AW.cmpV, LK.cLt, LK.cLe, LK.cGt, LK.cGe, AW.Val.datas, AW.allocL, AW.wp_bind, AW.wp_ok, AW.wp_ite, AW.evChain, AW.Tg.slots, LK.gv_MAX_LETTERS, LK.gv_KEYWORDS, LK.gv_MAX_PARAMETERS, LK.gv_MAX_OPERANDS, LK.gv_MAX_NODES, LK.gv_LAZY, LK.gv_STRICT, LK.gv_LEAVES, AW.idxL0, AW.idxL1, AW.idxL2, AW.idxL3, AW.idxL4, AW.idxD_0, AW.idxD_1, AW.sl_lst, AW.sl_tup, AW.ix_some, AW.i_non_bool, AW.i_non_int, AW.i_non_str, AW.i_non_tuple, AW.i_non_list, AW.i_non_dict, AW.i_bl_bool, AW.i_bl_int, AW.i_bl_str, AW.i_bl_tuple, AW.i_bl_list, AW.i_bl_dict, AW.i_int_bool, AW.i_int_int, AW.i_int_str, AW.i_int_tuple, AW.i_int_list, AW.i_int_dict, AW.i_str_bool, AW.i_str_int, AW.i_str_str, AW.i_str_tuple, AW.i_str_list, AW.i_str_dict, AW.i_tup_bool, AW.i_tup_int, AW.i_tup_str, AW.i_tup_tuple, AW.i_tup_list, AW.i_tup_dict, AW.i_lst_bool, AW.i_lst_int, AW.i_lst_str, AW.i_lst_tuple, AW.i_lst_list, AW.i_lst_dict, AW.i_dct_bool, AW.i_dct_int, AW.i_dct_str, AW.i_dct_tuple, AW.i_dct_list, AW.i_dct_dict, AW.t_non, AW.t_bl, AW.t_int, AW.t_tup, AW.t_lst, AW.pk_d, AW.pk_c, AW.tv_d, AW.ln_tup, AW.ln_lst, AW.ln_str, AW.b_len, AW.b_len2, AW.b_len3, AW.b_abs, AW.b_dlen, AW.b_all, AW.b_any, AW.b_int, AW.b_intb, AW.b_tupl, AW.b_tupt, AW.dt_d, b2D, show (ns.length : Int) < 8 by omega, show (1 : Int) < (ns.length : Int) by omega]⟩
      · exact ⟨1, by omega, by simp [AW.evT, AW.lift_some, AW.Out.bind_ok, AW.evLb, AW.evalE, AW.evalB, AW.evalEs, AW.evalO, AW.evalC, AW.evalL, AW.evalIt, AW.evOr, AW.evAnd, AW.evNot, AW.evIte, AW.evTup, AW.evLm, AW.evDisp, AW.evCall, AW.evCons, AW.evStar, AW.evNil, AW.evNoPart, AW.evDsp, AW.evPart, AW.evYes, AW.evSli, AW.ev1, AW.ev2, AW.evVar, AW.evCon, AW.cmpV, LK.cLt, LK.cLe, LK.cGt, LK.cGe, AW.Val.datas, AW.allocL, AW.wp_bind, AW.wp_ok, AW.wp_ite, AW.evChain, AW.Tg.slots, LK.gv_MAX_LETTERS, LK.gv_KEYWORDS, LK.gv_MAX_PARAMETERS, LK.gv_MAX_OPERANDS, LK.gv_MAX_NODES, LK.gv_LAZY, LK.gv_STRICT, LK.gv_LEAVES, AW.idxL0, AW.idxL1, AW.idxL2, AW.idxL3, AW.idxL4, AW.idxD_0, AW.idxD_1, AW.sl_lst, AW.sl_tup, AW.ix_some, AW.i_non_bool, AW.i_non_int, AW.i_non_str, AW.i_non_tuple, AW.i_non_list, AW.i_non_dict, AW.i_bl_bool, AW.i_bl_int, AW.i_bl_str, AW.i_bl_tuple, AW.i_bl_list, AW.i_bl_dict, AW.i_int_bool, AW.i_int_int, AW.i_int_str, AW.i_int_tuple, AW.i_int_list, AW.i_int_dict, AW.i_str_bool, AW.i_str_int, AW.i_str_str, AW.i_str_tuple, AW.i_str_list, AW.i_str_dict, AW.i_tup_bool, AW.i_tup_int, AW.i_tup_str, AW.i_tup_tuple, AW.i_tup_list, AW.i_tup_dict, AW.i_lst_bool, AW.i_lst_int, AW.i_lst_str, AW.i_lst_tuple, AW.i_lst_list, AW.i_lst_dict, AW.i_dct_bool, AW.i_dct_int, AW.i_dct_str, AW.i_dct_tuple, AW.i_dct_list, AW.i_dct_dict, AW.t_non, AW.t_bl, AW.t_int, AW.t_tup, AW.t_lst, AW.pk_d, AW.pk_c, AW.tv_d, AW.ln_tup, AW.ln_lst, AW.ln_str, AW.b_len, AW.b_len2, AW.b_len3, AW.b_abs, AW.b_dlen, AW.b_all, AW.b_any, AW.b_int, AW.b_intb, AW.b_tupl, AW.b_tupt, AW.dt_d, b2D, show (ns.length : Int) < 8 by omega, show ¬ (1 : Int) < (ns.length : Int) by omega]⟩
    · exact ⟨8, by omega, by simp [AW.evT, AW.lift_some, AW.Out.bind_ok, AW.evLb, AW.evalE, AW.evalB, AW.evalEs, AW.evalO, AW.evalC, AW.evalL, AW.evalIt, AW.evOr, AW.evAnd, AW.evNot, AW.evIte, AW.evTup, AW.evLm, AW.evDisp, AW.evCall, AW.evCons, AW.evStar, AW.evNil, AW.evNoPart, AW.evDsp, AW.evPart, AW.evYes, AW.evSli, AW.ev1, AW.ev2, AW.evVar, AW.evCon, AW.cmpV, LK.cLt, LK.cLe, LK.cGt, LK.cGe, AW.Val.datas, AW.allocL, AW.wp_bind, AW.wp_ok, AW.wp_ite, AW.evChain, AW.Tg.slots, LK.gv_MAX_LETTERS, LK.gv_KEYWORDS, LK.gv_MAX_PARAMETERS, LK.gv_MAX_OPERANDS, LK.gv_MAX_NODES, LK.gv_LAZY, LK.gv_STRICT, LK.gv_LEAVES, AW.idxL0, AW.idxL1, AW.idxL2, AW.idxL3, AW.idxL4, AW.idxD_0, AW.idxD_1, AW.sl_lst, AW.sl_tup, AW.ix_some, AW.i_non_bool, AW.i_non_int, AW.i_non_str, AW.i_non_tuple, AW.i_non_list, AW.i_non_dict, AW.i_bl_bool, AW.i_bl_int, AW.i_bl_str, AW.i_bl_tuple, AW.i_bl_list, AW.i_bl_dict, AW.i_int_bool, AW.i_int_int, AW.i_int_str, AW.i_int_tuple, AW.i_int_list, AW.i_int_dict, AW.i_str_bool, AW.i_str_int, AW.i_str_str, AW.i_str_tuple, AW.i_str_list, AW.i_str_dict, AW.i_tup_bool, AW.i_tup_int, AW.i_tup_str, AW.i_tup_tuple, AW.i_tup_list, AW.i_tup_dict, AW.i_lst_bool, AW.i_lst_int, AW.i_lst_str, AW.i_lst_tuple, AW.i_lst_list, AW.i_lst_dict, AW.i_dct_bool, AW.i_dct_int, AW.i_dct_str, AW.i_dct_tuple, AW.i_dct_list, AW.i_dct_dict, AW.t_non, AW.t_bl, AW.t_int, AW.t_tup, AW.t_lst, AW.pk_d, AW.pk_c, AW.tv_d, AW.ln_tup, AW.ln_lst, AW.ln_str, AW.b_len, AW.b_len2, AW.b_len3, AW.b_abs, AW.b_dlen, AW.b_all, AW.b_any, AW.b_int, AW.b_intb, AW.b_tupl, AW.b_tupt, AW.dt_d, b2D, show ¬ (ns.length : Int) < 8 by omega]⟩
  obtain ⟨n, n8, ec⟩ := cnt
  have key : wp (R 12 22 [.d (.lst (ns.map .int))] []) fun v _ => v = .d (.bl true) := by
    refine wp_run (k := 11) (f := f22) [some (.d (.lst (ns.map .int))), none, none, none, none, none] rfl rfl rfl ?_
    refine x_forI (LawI ns) (rng_eq (by omega) ec) ⟨⟨none, rfl⟩, List.range n, rfl⟩ ?_ ?_
    · rintro d rest ρ M ⟨⟨u, rfl⟩, ps, eb⟩
      cases ps with
      | nil => cases eb
      | cons p ps =>
        cases eb
        refine ⟨_, rfl, x_no ?_⟩
        obtain ⟨a, b, ha, ed⟩ := s_dice (k := 11) (by omega) M ns p
        simp only [AW.evT, AW.lift_some, AW.Out.bind_ok, AW.evLb, AW.evalE, AW.evalB, AW.evalEs, AW.evalO, AW.evalC, AW.evalL, AW.evalIt, AW.evOr, AW.evAnd, AW.evNot, AW.evIte, AW.evTup, AW.evLm, AW.evDisp, AW.evCall, AW.evCons, AW.evStar, AW.evNil, AW.evNoPart, AW.evDsp, AW.evPart, AW.evYes, AW.evSli, AW.ev1, AW.ev2, AW.evVar, AW.evCon, AW.cmpV, LK.cLt, LK.cLe, LK.cGt, LK.cGe, AW.Val.datas, AW.allocL, AW.wp_bind, AW.wp_ok, AW.wp_ite, AW.evChain, AW.Tg.slots, LK.gv_MAX_LETTERS, LK.gv_KEYWORDS, LK.gv_MAX_PARAMETERS, LK.gv_MAX_OPERANDS, LK.gv_MAX_NODES, LK.gv_LAZY, LK.gv_STRICT, LK.gv_LEAVES, AW.idxL0, AW.idxL1, AW.idxL2, AW.idxL3, AW.idxL4, AW.idxD_0, AW.idxD_1, AW.sl_lst, AW.sl_tup, AW.ix_some, AW.i_non_bool, AW.i_non_int, AW.i_non_str, AW.i_non_tuple, AW.i_non_list, AW.i_non_dict, AW.i_bl_bool, AW.i_bl_int, AW.i_bl_str, AW.i_bl_tuple, AW.i_bl_list, AW.i_bl_dict, AW.i_int_bool, AW.i_int_int, AW.i_int_str, AW.i_int_tuple, AW.i_int_list, AW.i_int_dict, AW.i_str_bool, AW.i_str_int, AW.i_str_str, AW.i_str_tuple, AW.i_str_list, AW.i_str_dict, AW.i_tup_bool, AW.i_tup_int, AW.i_tup_str, AW.i_tup_tuple, AW.i_tup_list, AW.i_tup_dict, AW.i_lst_bool, AW.i_lst_int, AW.i_lst_str, AW.i_lst_tuple, AW.i_lst_list, AW.i_lst_dict, AW.i_dct_bool, AW.i_dct_int, AW.i_dct_str, AW.i_dct_tuple, AW.i_dct_list, AW.i_dct_dict, AW.t_non, AW.t_bl, AW.t_int, AW.t_tup, AW.t_lst, AW.pk_d, AW.pk_c, AW.tv_d, AW.ln_tup, AW.ln_lst, AW.ln_str, AW.b_len, AW.b_len2, AW.b_len3, AW.b_abs, AW.b_dlen, AW.b_all, AW.b_any, AW.b_int, AW.b_intb, AW.b_tupl, AW.b_tupt, AW.dt_d, List.getElem?_cons_zero, List.getElem?_cons_succ, List.set_cons_zero, List.set_cons_succ]
        refine wp_is ed ?_
        refine d_right (k := 11) (by omega) (M ++ [die a b 0]) _ _ (Dc.refl (g10 rfl) ha) fun v m' hv s => ?_
        subst hv
        simp only [AW.evT, AW.lift_some, AW.Out.bind_ok, AW.evLb, AW.evalE, AW.evalB, AW.evalEs, AW.evalO, AW.evalC, AW.evalL, AW.evalIt, AW.evOr, AW.evAnd, AW.evNot, AW.evIte, AW.evTup, AW.evLm, AW.evDisp, AW.evCall, AW.evCons, AW.evStar, AW.evNil, AW.evNoPart, AW.evDsp, AW.evPart, AW.evYes, AW.evSli, AW.ev1, AW.ev2, AW.evVar, AW.evCon, AW.cmpV, LK.cLt, LK.cLe, LK.cGt, LK.cGe, AW.Val.datas, AW.allocL, AW.wp_bind, AW.wp_ok, AW.wp_ite, AW.evChain, AW.Tg.slots, LK.gv_MAX_LETTERS, LK.gv_KEYWORDS, LK.gv_MAX_PARAMETERS, LK.gv_MAX_OPERANDS, LK.gv_MAX_NODES, LK.gv_LAZY, LK.gv_STRICT, LK.gv_LEAVES, AW.idxL0, AW.idxL1, AW.idxL2, AW.idxL3, AW.idxL4, AW.idxD_0, AW.idxD_1, AW.sl_lst, AW.sl_tup, AW.ix_some, AW.i_non_bool, AW.i_non_int, AW.i_non_str, AW.i_non_tuple, AW.i_non_list, AW.i_non_dict, AW.i_bl_bool, AW.i_bl_int, AW.i_bl_str, AW.i_bl_tuple, AW.i_bl_list, AW.i_bl_dict, AW.i_int_bool, AW.i_int_int, AW.i_int_str, AW.i_int_tuple, AW.i_int_list, AW.i_int_dict, AW.i_str_bool, AW.i_str_int, AW.i_str_str, AW.i_str_tuple, AW.i_str_list, AW.i_str_dict, AW.i_tup_bool, AW.i_tup_int, AW.i_tup_str, AW.i_tup_tuple, AW.i_tup_list, AW.i_tup_dict, AW.i_lst_bool, AW.i_lst_int, AW.i_lst_str, AW.i_lst_tuple, AW.i_lst_list, AW.i_lst_dict, AW.i_dct_bool, AW.i_dct_int, AW.i_dct_str, AW.i_dct_tuple, AW.i_dct_list, AW.i_dct_dict, AW.t_non, AW.t_bl, AW.t_int, AW.t_tup, AW.t_lst, AW.pk_d, AW.pk_c, AW.tv_d, AW.ln_tup, AW.ln_lst, AW.ln_str, AW.b_len, AW.b_len2, AW.b_len3, AW.b_abs, AW.b_dlen, AW.b_all, AW.b_any, AW.b_int, AW.b_intb, AW.b_tupl, AW.b_tupt, AW.dt_d]
        exact ⟨rfl, x_nil ⟨⟨_, rfl⟩, ps, rfl⟩⟩
    · rintro ρ M ⟨⟨u, rfl⟩, ps, eb⟩
      refine x_asgE (v := .d (.tup row40)) (m' := M) (by kernel_rfl) ?_
      simp only [List.set_cons_succ, List.set_cons_zero]
      have B : ∀ {d : D} {b : Bool}, bB d = true → bodyB d = b → R 11 6 [.d d] M = .ok (.d (.bl b)) M := fun h1 h2 => isB (by omega) h1 h2
      have N : ∀ {d : D} {b : Bool}, n1B d = true → nodeB d = b → R 11 3 [.d d] M = .ok (.d (.bl b)) M := fun h1 h2 => isN (by omega) h1 h2
      refine x_asgE (ev_dispF (es_cons (ev_callE (.tup row40) (by kernel_rfl) (B (b := true) (by decide +kernel) (by decide +kernel))) (es_cons (ev_callE (.tup (row40 ++ [dN 1])) (by kernel_rfl) (B (b := false) (by decide +kernel) (by decide +kernel))) (es_cons (ev_callE (.tup [.tup [.str "value"]]) (by kernel_rfl) (B (b := true) (by decide +kernel) (by decide +kernel))) (es_cons (ev_callE (.tup []) (by kernel_rfl) (B (b := false) (by decide +kernel) (by decide +kernel))) (es_cons (ev_callE (.tup [tstN]) (by kernel_rfl) (B (b := false) (by decide +kernel) (by decide +kernel))) es_nil))))) rfl (by simp)) ?_
      simp only [List.set_cons_succ, List.set_cons_zero]
      refine x_asgE (v := .d (.tup wide)) (m' := M) (by kernel_rfl) ?_
      simp only [List.set_cons_succ, List.set_cons_zero]
      refine x_asgE (ev_addv rfl (ev_dispF (es_cons (ev_callE (.tup wide) (by kernel_rfl) (B (b := true) (by decide +kernel) (by decide +kernel))) (es_cons (ev_callE (.tup [useN "a", useN "a", tstN]) (by kernel_rfl) (B (b := false) (by decide +kernel) (by decide +kernel))) (es_cons (ev_callE (.tup (useN "a" :: wide)) (by kernel_rfl) (B (b := false) (by decide +kernel) (by decide +kernel))) (es_cons (ev_callE (.tup [dN 0]) (by kernel_rfl) (B (b := true) (by decide +kernel) (by decide +kernel))) es_nil)))) rfl (by simp)) (add_l (by simp))) ?_
      simp only [List.set_cons_succ, List.set_cons_zero]
      refine x_asgE (ev_addv rfl (ev_dispF (es_cons (ev_callE (.tup [.str "do", .str "s", .bl true]) (by kernel_rfl) (N (b := false) (by decide +kernel) (by decide +kernel))) (es_cons (ev_callE (.tup [.str "call", .str "f", .lst [.str "lazy"]]) (by kernel_rfl) (N (b := false) (by decide +kernel) (by decide +kernel))) (es_cons (ev_callE (.lst [.str "value"]) (by kernel_rfl) (N (b := false) (by decide +kernel) (by decide +kernel))) es_nil))) rfl (by simp)) (add_l (by simp))) ?_
      simp only [List.set_cons_succ, List.set_cons_zero]
      refine x_asgE (ev_addv rfl (ev_dispF (es_cons (ev_callE (.tup [.lst [.str "use"], .str "a"]) (by kernel_rfl) (N (b := false) (by decide +kernel) (by decide +kernel))) es_nil) rfl (by simp)) (add_l (by simp))) ?_
      simp only [List.set_cons_succ, List.set_cons_zero]
      refine x_noE (m' := M) (ne_no (ev_var rfl) (by kernel_rfl) bools13) ?_
      refine x_asgE (v := .d (.tup row9)) (m' := M) (by kernel_rfl) ?_
      simp only [List.set_cons_succ, List.set_cons_zero]
      refine x_noE (m' := M) (ne_no (ev_dispF (es_cons (ev_callE (.tup row9) (by kernel_rfl) (B (b := true) (by decide +kernel) (by decide +kernel))) (es_cons (ev_callE (.tup [useN "a", useN "b", useN "c", useN "d", dN 2, tstN]) (by kernel_rfl) (B (b := true) (by decide +kernel) (by decide +kernel))) (es_cons (ev_callE (.tup row9.tail) (by kernel_rfl) (B (b := false) (by decide +kernel) (by decide +kernel))) es_nil))) rfl (by simp)) (by kernel_rfl) bools3a) ?_
      refine x_asgE (ev_dispF (es_cons (ev_callE (.tup [.str "call", .str "f", .tup [.str "early"]]) (by kernel_rfl) (N (b := false) (by decide +kernel) (by decide +kernel))) (es_cons (ev_callE (.tup [.str "call", .str "f", .tup [.str "lazy", .str "strict"]]) (by kernel_rfl) (N (b := true) (by decide +kernel) (by decide +kernel))) (es_cons (ev_callE (dN 4) (by kernel_rfl) (N (b := false) (by decide +kernel) (by decide +kernel))) es_nil))) rfl (by simp)) ?_
      simp only [List.set_cons_succ, List.set_cons_zero]
      refine x_noE (m' := M) (ne_no (ev_var rfl) (by kernel_rfl) bools3b) ?_
      refine x_ret (wp_is (a := .d (.bl true)) (m := M) (by kernel_rfl) (fin_ret ?_))
      rfl
  obtain ⟨v, m', e, rfl⟩ := wp_eq key
  exact ⟨m', e⟩
end LK
theorem PySem.Challenge.cw_askwords_k03_nodes_and_bodies_holds : PySem.Challenge.rw_askwords_k03_nodes_and_bodies.Holds := by
  exact LK.hold LK.good
