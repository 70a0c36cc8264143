import PyProof.Rows.All
import Wide.All
import OpenK.AllK
import Wide.FinOn
import HandS.ForMost
import HandS.TupAny
import HandS.TupMul
import HandS.Wide
import HandS.IsInst
import HandS.Zip
import HandS.Exc
import HandS.TryOnly
import HandS.ExcOwn
import HandS.WordsExc
import HandS.Style
import KE.GoesEnum
import HandS.Defaults
import HandS.Flow
import HandS.Deep
import HandS.TupLe
import HandS.Conv
import HandS.Lambda
import HandS.EndTab
import HandS.ExcIs
import KE.KDictZip
import HandS.Head0
import HandS.Head1
import HandS.Head2
import HandS.HeadEnd
import HandS.HeadHook1
import HandS.HeadHook2
import HandS.HeadHook4
import HandS.EndBits
import PySem.Challenge.RW_drawways_k40_maps
set_option Elab.async false
set_option linter.all false
set_option maxRecDepth 100000
set_option maxHeartbeats 4000000
namespace Rf
open PySem

/-- data -/
abbrev D := PyData

inductive Res (α : Type) where
  | no
  | ok (a : α)
  | er (x : Str)
namespace Res
def bind {α β : Type} : Res α → (α → Res β) → Res β
  | .no, _ => .no
  | .ok a, f => f a
  | .er x, _ => .er x
instance : Monad Res where
  pure := .ok
  bind := Res.bind
theorem nrf {α : Sort u} {a b : α} (h : a = b) : a = b := h
@[simp] theorem bind_ok {α β : Type} (a : α) (f : α → Res β) : (Res.ok a >>= f) = f a := nrf rfl
@[simp] theorem bind_no {α β : Type} (f : α → Res β) : ((Res.no : Res α) >>= f) = .no := nrf rfl
@[simp] theorem bind_er {α β : Type} (x : Str) (f : α → Res β) : ((Res.er x : Res α) >>= f) = .er x := nrf rfl
@[simp] theorem pure_ok {α : Type} (a : α) : (pure a : Res α) = .ok a := nrf rfl
end Res

/-- a slot of a def: unknown, a thing that is never written, a list of one's own -/
inductive Cell where
  | un
  | im (d : D)
  | ow (ds : List D)
abbrev Env := List Cell

/-- the greatest sizes: of factors, of divisors -/
@[irreducible] def BIG : Nat := 2 ^ 400000
@[irreducible] def DBIG : Nat := 2 ^ 8990
@[irreducible] def FUEL : Nat := 2 ^ 9000
/-- of a list's length -/
def LIM : Nat := 16777216

/-- whatever is called by its global name -/
abbrev Fn := List D → Res D

mutual
inductive IT where
  | nm (i : Nat)
  | tu (ts : ITs)
inductive ITs where
  | nil
  | cons (t : IT) (r : ITs)
end
mutual
def asT : IT → D → Env → Res Env
  | .nm i, d, ρ => .ok (ρ.set i (.im d))
  | .tu ts, .tuple ds, ρ => asTs ts ds ρ
  | .tu ts, .list ds, ρ => asTs ts ds ρ
  | .tu _, _, _ => .no
def asTs : ITs → List D → Env → Res Env
  | .nil, [], ρ => .ok ρ
  | .cons t r, d :: ds, ρ => asT t d ρ >>= fun ρ' => asTs r ds ρ'
  | _, _, _ => .no
end
mutual
def slT : IT → List Nat
  | .nm i => [i]
  | .tu ts => slTs ts
def slTs : ITs → List Nat
  | .nil => []
  | .cons t r => slT t ++ slTs r
end

/-- built-in functions -/
inductive Bi where
  | len | abs | int | list | tuple | max | min | all | str
  deriving DecidableEq

mutual
inductive IE where
  | var (i : Nat)
  | int (n : Int)
  | str (s : Str)
  | bl (b : Bool)
  | non
  | glo (x : Str) (d : D)
  | tup (es : IEs)
  | lst (es : IEs)
  | bin (op : Operator) (a b : IE)
  | neg (a : IE)
  | cmp (op : CmpOp) (a b : IE)
  | chn (o1 o2 : CmpOp) (a b c : IE)
  | and (a b : IE)
  | or (a b : IE)
  | not (a : IE)
  | idx (a i : IE)
  | slc (a : IE) (lo hi : IO)
  | rev (a : IE)
  | alt (a : IE) (lo : IO)
  | call (x : Str) (m : Fn) (es : IEs)
  | bi (b : Bi) (es : IEs)
  | isi (T : String) (a : IE)
  | neO (i : Nat)
  | dix (ks : List (Int ⊕ Str)) (vs : IEs) (a : IE)
  | dgt (ks : List (Int ⊕ Str)) (vs : IEs) (a d : IE)
  | lc (own : List (Str × Nat)) (tg : IT) (it : II) (c : IO) (e : IE)
  | lenO (i : Nat)
  | idxO (i : Nat) (e : IE)
  | zipl (a b : IE)
  | lrg (a b : IE)
inductive IEs where
  | nil
  | cons (e : IE) (r : IEs)
inductive IO where
  | none
  | some (e : IE)
inductive II where
  | seq (e : IE)
  | rng1 (e : IE)
  | rng2 (a b : IE)
  | zip (a b : IE)
  | enu (a : IE)
end

/-- one factor is small, or both are not too great -/
def mulOk (i j : Int) : Bool := decide (i.natAbs < 9223372036854775808) || decide (j.natAbs < 9223372036854775808) || (decide (i.natAbs < BIG) && decide (j.natAbs < BIG))
def dBin : Operator → D → D → Res D
  | .Add, .int i, .int j => .ok (.int (i + j))
  | .Add, .tuple xs, .tuple ys => if xs.length + ys.length ≤ LIM then .ok (.tuple (xs ++ ys)) else .no
  | .Add, .list xs, .list ys => if xs.length + ys.length ≤ LIM then .ok (.list (xs ++ ys)) else .no
  | .Add, .str x, .str y => if x.length + y.length ≤ LIM then .ok (.str (x ++ y)) else .no
  | .Sub, .int i, .int j => .ok (.int (i - j))
  | .Mult, .int i, .int j => if mulOk i j then .ok (.int (i * j)) else .no
  | .FloorDiv, .int i, .int j => if j ≠ 0 ∧ j.natAbs < DBIG then .ok (.int (i.fdiv j)) else .no
  | .Mod, .int i, .int j => if j ≠ 0 then .ok (.int (i.fmod j)) else .no
  | .Mult, .tuple xs, .int k => if k = 1 then .ok (.tuple xs) else if k = 0 then .ok (.tuple []) else .no
  | _, _, _ => .no
def dNeg : D → Res D
  | .int i => .ok (.int (-i))
  | _ => .no
def flatD : D → Bool
  | .none => true
  | .bool _ => true
  | .int _ => true
  | .str _ => true
  | _ => false
def dIn (x : D) : D → Res Bool
  | .tuple xs => if flatD x && xs.all flatD then .ok (xs.any fun y => PyData.eqv y x) else if (SeqAt.shaped x && PyData.canLayAll0 xs) && decide (PyData.depth x ≤ 60) then .ok (xs.any fun y => PyData.eqv y x) else .no
  | .list xs => if flatD x && xs.all flatD then .ok (xs.any fun y => PyData.eqv y x) else if (SeqAt.shaped x && PyData.canLayAll0 xs) && decide (PyData.depth x ≤ 60) then .ok (xs.any fun y => PyData.eqv y x) else .no
  | _ => .no
def dCmp : CmpOp → D → D → Res D
  | .Eq, a, b => if SeqAt.shaped a && SeqAt.shaped b then .ok (.bool (PyData.eqv a b)) else .no
  | .NotEq, a, b => if SeqAt.shaped a && SeqAt.shaped b then .ok (.bool (!PyData.eqv a b)) else .no
  | .Lt, .int i, .int j => .ok (.bool (decide (i < j)))
  | .LtE, .int i, .int j => .ok (.bool (decide (i ≤ j)))
  | .Gt, .int i, .int j => .ok (.bool (decide (j < i)))
  | .GtE, .int i, .int j => .ok (.bool (decide (j ≤ i)))
  | .Is, .bool a, .bool b => .ok (.bool (decide (a = b)))
  | .IsNot, .bool a, .bool b => .ok (.bool (!decide (a = b)))
  | .Is, a, .none => .ok (.bool (match a with | .none => true | _ => false))
  | .IsNot, a, .none => .ok (.bool (match a with | .none => false | _ => true))
  | .In, a, b => dIn a b >>= fun k => .ok (.bool k)
  | .NotIn, a, b => dIn a b >>= fun k => .ok (.bool (!k))
  | _, _, _ => .no
def dTru : D → Res Bool
  | .bool b => .ok b
  | .int i => .ok (i != 0)
  | .none => .ok false
  | .list xs => .ok (!xs.isEmpty)
  | .tuple xs => .ok (!xs.isEmpty)
  | _ => .no
def dIdx : D → D → Res D
  | .tuple xs, .int i => match L2.atI xs i with
    | some d => .ok d
    | none => .no
  | .list xs, .int i => match L2.atI xs i with
    | some d => .ok d
    | none => .no
  | _, _ => .no
def cutD (xs : List D) (lo hi : Option Int) : List D := (xs.drop (HT.sIx xs.length 0 lo)).take (HT.sIx xs.length xs.length hi - HT.sIx xs.length 0 lo)
def dSlc : D → Option Int → Option Int → Res D
  | .tuple xs, lo, hi => .ok (.tuple (cutD xs lo hi))
  | .list xs, lo, hi => .ok (.list (cutD xs lo hi))
  | _, _, _ => .no
def dRev : D → Res D
  | .tuple xs => .ok (.tuple xs.reverse)
  | .list xs => .ok (.list xs.reverse)
  | _ => .no
/-- every other item -/
def alt2 : List D → List D
  | [] => []
  | [x] => [x]
  | x :: _ :: r => x :: alt2 r
def dAlt : D → Option Int → Res D
  | .list xs, none => .ok (.list (alt2 xs))
  | .list xs, some i => if i = 1 then .ok (.list (alt2 (xs.drop 1))) else .no
  | _, _ => .no
def isTy (T : String) : D → Res Bool
  | .none => .ok (T == "NoneType")
  | .bool _ => .ok (T == "bool" || T == "int")
  | .int _ => .ok (T == "int")
  | .str _ => .ok (T == "str")
  | .tuple _ => .ok (T == "tuple")
  | .list _ => .ok (T == "list")
  | .dict _ => .no
def bools : List D → Option (List Bool)
  | [] => some []
  | .bool b :: r => (bools r).map (b :: ·)
  | _ => none
def dBi : Bi → List D → Res D
  | .len, [.tuple xs] => .ok (.int xs.length)
  | .len, [.list xs] => .ok (.int xs.length)
  | .len, [.str x] => if x.length ≤ LIM then .ok (.int x.length) else .no
  | .abs, [.int i] => .ok (.int (if i < 0 then -i else i))
  | .int, [.int i] => .ok (.int i)
  | .int, [.bool b] => .ok (.int (if b then 1 else 0))
  | .list, [.tuple xs] => .ok (.list xs)
  | .list, [.list xs] => .ok (.list xs)
  | .tuple, [.tuple xs] => .ok (.tuple xs)
  | .tuple, [.list xs] => .ok (.tuple xs)
  | .max, [.int i, .int j] => .ok (.int (if j > i then j else i))
  | .min, [.int i, .int j] => .ok (.int (if j < i then j else i))
  | .all, [.list xs] => match bools xs with
    | some bs => .ok (.bool (bs.all id))
    | none => .no
  | .str, [.int i] => if i.natAbs.log2 < 1920 then .ok (.str (toString i)) else .no
  | _, _ => .no
def keyD : D → Option (Int ⊕ Str)
  | .int i => some (.inl i)
  | .str x => some (.inr x)
  | _ => none
def lookK : List (Int ⊕ Str) → List D → Int ⊕ Str → Option D
  | k :: ks, d :: ds, j => if k = j then some d else lookK ks ds j
  | _, _, _ => none
def dixK (ks : List (Int ⊕ Str)) (ys : List D) (x : D) : Res D := match keyD x with
  | some k => match lookK ks ys k with
    | some y => .ok y
    | none => .no
  | none => .no
def dgtK (ks : List (Int ⊕ Str)) (ys : List D) (x z : D) : Res D := match keyD x with
  | some k => match lookK ks ys k with
    | some y => .ok y
    | none => .ok z
  | none => .no
def dAnd (x : D) (r : Res D) : Res D := match dTru x with
  | .ok true => r
  | .ok false => .ok x
  | .er e => .er e
  | .no => .no
def dOr (x : D) (r : Res D) : Res D := match dTru x with
  | .ok true => .ok x
  | .ok false => r
  | .er e => .er e
  | .no => .no
def dNot (x : D) : Res D := match dTru x with
  | .ok b => .ok (.bool (!b))
  | .er e => .er e
  | .no => .no
def wipeR (ρ : Env) : List Nat → Env
  | [] => ρ
  | v :: vs => (wipeR ρ vs).set v .un

def lcGo (f : D → Res (Option D)) : List D → Res (List D)
  | [] => .ok []
  | d :: ds => match f d with
    | .ok o => lcGo f ds >>= fun r => .ok (o.toList ++ r)
    | _ => .no
def upto (n : Nat) (lo : Int) : List D := (List.range n).map fun (i : Nat) => PyData.int (lo + (i : Int))
def itemsOf : D → Res (List D)
  | .tuple xs => if xs.length ≤ LIM then .ok xs else .no
  | .list xs => if xs.length ≤ LIM then .ok xs else .no
  | _ => .no
def pairs : List D → List D → List D
  | x :: xs, y :: ys => .tuple [x, y] :: pairs xs ys
  | _, _ => []
def count (i : Int) : List D → List D
  | [] => []
  | x :: xs => .tuple [.int i, x] :: count (i + 1) xs

def dZip : D → D → Res (List D)
  | .tuple xs, .tuple ys => if xs.length ≤ LIM ∧ ys.length ≤ LIM then .ok (pairs xs ys) else .no
  | .list xs, .list ys => if xs.length ≤ LIM ∧ ys.length ≤ LIM then .ok (pairs xs ys) else .no
  | _, _ => .no
def dZipL : D → D → Res D
  | .tuple xs, .tuple ys => if xs.length ≤ LIM ∧ ys.length ≤ LIM then .ok (.list (pairs xs ys)) else .no
  | _, _ => .no
def dLrg : D → D → Res D
  | .int i, .int j => if (-(2 ^ 62) ≤ i ∧ i < 2 ^ 62) ∧ (-(2 ^ 62) ≤ j ∧ j < 2 ^ 62) ∧ (j - i).toNat ≤ 2 ^ 24 then .ok (.list (upto (j - i).toNat i)) else .no
  | _, _ => .no
mutual
def evE : IE → Env → Res D
  | .var i, ρ => match ρ[i]? with
    | some (.im d) => .ok d
    | _ => .no
  | .int n, _ => .ok (.int n)
  | .str s, _ => .ok (.str s)
  | .bl b, _ => .ok (.bool b)
  | .non, _ => .ok .none
  | .glo _ d, _ => .ok d
  | .tup es, ρ => evEs es ρ >>= fun ds => .ok (.tuple ds)
  | .lst es, ρ => evEs es ρ >>= fun ds => .ok (.list ds)
  | .bin op a b, ρ => evE a ρ >>= fun x => evE b ρ >>= fun y => dBin op x y
  | .neg a, ρ => evE a ρ >>= fun x => dNeg x
  | .cmp op a b, ρ => evE a ρ >>= fun x => evE b ρ >>= fun y => dCmp op x y
  | .chn o1 o2 a b c, ρ => evE a ρ >>= fun x => evE b ρ >>= fun y => dCmp o1 x y >>= fun k => dTru k >>= fun k => if k then evE c ρ >>= fun z => dCmp o2 y z else .ok (.bool false)
  | .and a b, ρ => evE a ρ >>= fun x => dAnd x (evE b ρ)
  | .or a b, ρ => evE a ρ >>= fun x => dOr x (evE b ρ)
  | .not a, ρ => evE a ρ >>= fun x => dNot x
  | .idx a i, ρ => evE a ρ >>= fun x => evE i ρ >>= fun y => dIdx x y
  | .slc a lo hi, ρ => evE a ρ >>= fun x => evO lo ρ >>= fun l => evO hi ρ >>= fun h => dSlc x l h
  | .rev a, ρ => evE a ρ >>= fun x => dRev x
  | .alt a lo, ρ => evE a ρ >>= fun x => evO lo ρ >>= fun l => dAlt x l
  | .call _ m es, ρ => evEs es ρ >>= fun ds => m ds
  | .bi b es, ρ => evEs es ρ >>= fun ds => dBi b ds
  | .isi T a, ρ => evE a ρ >>= fun d => isTy T d >>= fun k => .ok (.bool k)
  | .neO i, ρ => match ρ[i]? with
    | some (.ow ds) => dCmp .NotEq (.list ds) (.list [])
    | some (.im d) => dCmp .NotEq d (.list [])
    | _ => .no
  | .dix ks vs a, ρ => evEs vs ρ >>= fun ys => evE a ρ >>= fun x => dixK ks ys x
  | .dgt ks vs a d, ρ => evEs vs ρ >>= fun ys => evE a ρ >>= fun x => evE d ρ >>= fun z => dgtK ks ys x z
  | .lc own tg it c e, ρ => evI it ρ >>= fun ds => if ds.length ≤ LIM then (lcGo (fun d => asT tg d (wipeR ρ (own.map (·.2))) >>= fun ρ' => evC c ρ' >>= fun k => if k then evE e ρ' >>= fun y => .ok (some y) else .ok none) ds >>= fun r => .ok (.list r)) else .no
  | .lenO i, ρ => match ρ[i]? with
    | some (.ow ds) => .ok (.int ds.length)
    | some (.im (.list ds)) => .ok (.int ds.length)
    | _ => .no
  | .idxO i e, ρ => match ρ[i]? with
    | some (.ow ds) => evE e ρ >>= fun k => dIdx (.list ds) k
    | some (.im (.list ds)) => evE e ρ >>= fun k => dIdx (.list ds) k
    | _ => .no
  | .zipl a b, ρ => evE a ρ >>= fun x => evE b ρ >>= fun y => dZipL x y
  | .lrg a b, ρ => evE a ρ >>= fun x => evE b ρ >>= fun y => dLrg x y
def evEs : IEs → Env → Res (List D)
  | .nil, _ => .ok []
  | .cons e r, ρ => evE e ρ >>= fun d => evEs r ρ >>= fun ds => .ok (d :: ds)
/-- a part of a slice -/
def evO : IO → Env → Res (Option Int)
  | .none, _ => .ok none
  | .some e, ρ => evE e ρ >>= fun x => match x with
    | .int i => .ok (some i)
    | _ => .no
/-- a comprehension's test -/
def evC : IO → Env → Res Bool
  | .none, _ => .ok true
  | .some e, ρ => evE e ρ >>= fun x => dTru x
def evI : II → Env → Res (List D)
  | .seq e, ρ => evE e ρ >>= fun x => itemsOf x
  | .rng1 e, ρ => evE e ρ >>= fun x => match x with
    | .int j => if -(2 ^ 62) ≤ j ∧ j < 2 ^ 62 then .ok (upto j.toNat 0) else .no
    | _ => .no
  | .rng2 a b, ρ => evE a ρ >>= fun x => evE b ρ >>= fun y => match x, y with
    | .int i, .int j => if -(2 ^ 62) ≤ i ∧ i < 2 ^ 62 ∧ -(2 ^ 62) ≤ j ∧ j < 2 ^ 62 then .ok (upto (j - i).toNat i) else .no
    | _, _ => .no
  | .zip a b, ρ => evE a ρ >>= fun x => evE b ρ >>= fun y => dZip x y
  | .enu a, ρ => evE a ρ >>= fun x => itemsOf x >>= fun xs => .ok (count 0 xs)
end

inductive Out where
  | no
  | nx (ρ : Env)
  | rt (d : D)
  | bk (ρ : Env)
  | ct (ρ : Env)
  | er (x : Str)
def dExt (ds : List D) : D → Res (List D)
  | .list es => if ds.length + es.length ≤ LIM then .ok (ds ++ es) else .no
  | _ => .no
def dCat : D → D → Res (List D)
  | .list xs, .list ys => if xs.length + ys.length ≤ LIM then .ok (xs ++ ys) else .no
  | _, _ => .no
def dCut (x : D) (lo hi : Option Int) : Res (List D) := match x with
  | .list xs => .ok (cutD xs lo hi)
  | _ => .no
def dPut (ds : List D) : D → D → Res (List D)
  | .int k, d => match L2.ixN ds.length k with
    | some j => .ok (ds.set j d)
    | none => .no
  | _, _ => .no
mutual
inductive IS where
  | set (i : Nat) (e : IE)
  | new (i : Nat) (es : IEs)
  | tset (t : ITs) (e : IE)
  | par2 (i j : Nat) (a b : IE)
  | app (i : Nat) (e : IE)
  | ext (i : Nat) (e : IE)
  | pop (i : Nat)
  | owa (i : Nat) (a b : IE)
  | ows (i : Nat) (a : IE) (lo hi : IO)
  | put (i : Nat) (k e : IE)
  | frz (i : Nat)
  | kil (vs : List Nat)
  | ret (e : IE)
  | exp (e : IE)
  | ife (c : IE) (a b : ISs)
  | whl (c : IE) (b : ISs)
  | fr (tg : IT) (it : II) (b : ISs)
  | brk
  | cnt
  | pass
  | rse (x : Str)
  | tryb (i : Nat) (e : IE) (x : Str) (ys : List (Str × Bool)) (c : Bool)
  | tld (i : Nat) (e : IE)
  | tif (e d : IE) (a b : ISs)
  | par3 (i j k : Nat) (a b c : IE)
  | nev
inductive ISs where
  | nil
  | cons (s : IS) (r : ISs)
end
def Out.ofE (r : Res D) (f : D → Out) : Out := match r with
  | .no => .no
  | .er x => .er x
  | .ok d => f d
def Out.ofR {α : Type} (r : Res α) (f : α → Out) : Out := match r with
  | .no => .no
  | .er x => .er x
  | .ok d => f d
def Out.then (o : Out) (f : Env → Out) : Out := match o with
  | .nx ρ => f ρ
  | o => o
def forGo (f : D → Env → Out) : List D → Env → Out
  | [], ρ => .nx ρ
  | d :: ds, ρ => match f d ρ with
    | .nx ρ' => forGo f ds ρ'
    | .ct ρ' => forGo f ds ρ'
    | .bk ρ' => .nx ρ'
    | .rt v => .rt v
    | .er x => .er x
    | .no => .no
def whlGo (c : Env → Res Bool) (f : Env → Out) : Nat → Env → Out
  | 0, _ => .no
  | n + 1, ρ => match c ρ with
    | .no => .no
    | .er x => .er x
    | .ok false => .nx ρ
    | .ok true => match f ρ with
      | .nx ρ' => whlGo c f n ρ'
      | .ct ρ' => whlGo c f n ρ'
      | .bk ρ' => .nx ρ'
      | .rt v => .rt v
      | .er x => .er x
      | .no => .no
def excN : List Str := ["NoText", "NoNumber", "NoStroke", "NoMap", "NoPen", "NoDeed"]
/-- what told makes of a reckoning -/
def exIx (x : Str) : Option Nat := excN.idxOf? x
def tldR : Res D → Res D
  | .ok d => .ok (.tuple [.str "told", d])
  | .er x => match exIx x with
    | some i => .ok (.tuple [.str "refused", .int (i : Nat)])
    | none => .no
  | .no => .no
mutual
def evS : IS → Env → Out
  | .set i e, ρ => Out.ofR (evE e ρ) fun d => .nx (ρ.set i (.im d))
  | .new i es, ρ => Out.ofR (evEs es ρ) fun ds => .nx (ρ.set i (.ow ds))
  | .tset t e, ρ => Out.ofR (evE e ρ) fun d => Out.ofR (asT (.tu t) d ρ) fun ρ' => .nx ρ'
  | .par2 i j a b, ρ => Out.ofR (evE a ρ) fun x => Out.ofR (evE b ρ) fun y => .nx ((ρ.set i (.im x)).set j (.im y))
  | .app i e, ρ => match ρ[i]? with
    | some (.ow ds) => Out.ofR (evE e ρ) fun d => if ds.length < LIM then .nx (ρ.set i (.ow (ds ++ [d]))) else .no
    | _ => .no
  | .ext i e, ρ => match ρ[i]? with
    | some (.ow ds) => Out.ofR (evE e ρ) fun d => Out.ofR (dExt ds d) fun es => .nx (ρ.set i (.ow es))
    | _ => .no
  | .pop i, ρ => match ρ[i]? with
    | some (.ow ds) => if ds.isEmpty then .no else .nx (ρ.set i (.ow ds.dropLast))
    | _ => .no
  | .owa i a b, ρ => Out.ofR (evE a ρ) fun x => Out.ofR (evE b ρ) fun y => Out.ofR (dCat x y) fun ds => .nx (ρ.set i (.ow ds))
  | .ows i a lo hi, ρ => Out.ofR (evE a ρ) fun x => Out.ofR (evO lo ρ) fun l => Out.ofR (evO hi ρ) fun h => Out.ofR (dCut x l h) fun ds => .nx (ρ.set i (.ow ds))
  | .put i k e, ρ => match ρ[i]? with
    | some (.ow ds) => Out.ofR (evE e ρ) fun d => Out.ofR (evE k ρ) fun k => Out.ofR (dPut ds k d) fun es => .nx (ρ.set i (.ow es))
    | _ => .no
  | .frz i, ρ => match ρ[i]? with
    | some (.ow ds) => .nx (ρ.set i (.im (.list ds)))
    | _ => .nx ρ
  | .kil vs, ρ => .nx (wipeR ρ vs)
  | .ret e, ρ => Out.ofR (evE e ρ) fun d => .rt d
  | .exp e, ρ => Out.ofR (evE e ρ) fun _ => .nx ρ
  | .ife c a b, ρ => Out.ofR (evE c ρ >>= fun x => dTru x) fun k => if k then evSs a ρ else evSs b ρ
  | .whl c b, ρ => whlGo (fun ρ => evE c ρ >>= fun x => dTru x) (fun ρ => evSs b ρ) FUEL ρ
  | .fr tg it b, ρ => Out.ofR (evI it ρ) fun ds => forGo (fun d ρ => Out.ofR (asT tg d ρ) fun ρ' => evSs b ρ') ds ρ
  | .brk, ρ => .bk ρ
  | .cnt, ρ => .ct ρ
  | .pass, ρ => .nx ρ
  | .rse x, _ => .er x
  | .tryb i e _ ys c, ρ => match evE e ρ with
    | .ok d => .nx (ρ.set i (.im d))
    | .er y => (match ys.lookup y with
      | some true => .nx ((List.replicate ρ.length Cell.un).set i (.im (.bool c)))
      | some false => .er y
      | none => .no)
    | .no => .no
  | .tld i e, ρ => Out.ofR (tldR (evE e ρ)) fun d => .nx (ρ.set i (.im d))
  | .tif e d a b, ρ => Out.ofR (tldR (evE e ρ) >>= fun x => evE d ρ >>= fun y => dCmp .NotEq x y >>= fun z => dTru z) fun k => if k then evSs a ρ else evSs b ρ
  | .par3 i j k a b c, ρ => Out.ofR (evE a ρ) fun x => Out.ofR (evE b ρ) fun y => Out.ofR (evE c ρ) fun z => .nx (((ρ.set i (.im x)).set j (.im y)).set k (.im z))
  | .nev, _ => .no
def evSs : ISs → Env → Out
  | .nil, ρ => .nx ρ
  | .cons s r, ρ => match evS s ρ with
    | .nx ρ' => evSs r ρ'
    | .rt v => .rt v
    | .bk ρ' => .bk ρ'
    | .ct ρ' => .ct ρ'
    | .er x => .er x
    | .no => .no
end
/-- a def: how many parameters, how many slots, its body -/
def runFn (np n : Nat) (b : ISs) : Fn := fun ds =>
  if ds.length = np then
    match evSs b (ds.map Cell.im ++ List.replicate (n - np) .un) with
    | .rt d => .ok d
    | .nx _ => .ok .none
    | .er x => .er x
    | _ => .no
  else .no
end Rf
namespace Rf
open PySem
/-- what a loop asks, what it does: not opened by simp -/
def tE (c : IE) (ρ : Env) : Res Bool := evE c ρ >>= fun x => dTru x
def sE (b : ISs) (ρ : Env) : Out := evSs b ρ
def fE (tg : IT) (b : ISs) (d : D) (ρ : Env) : Out := Out.ofR (asT tg d ρ) fun ρ' => evSs b ρ'
def lE (own : List (Str × Nat)) (tg : IT) (c : IO) (e : IE) (ρ : Env) (d : D) : Res (Option D) := asT tg d (wipeR ρ (own.map (·.2))) >>= fun ρ' => evC c ρ' >>= fun k => if k then evE e ρ' >>= fun y => .ok (some y) else .ok none
def rngD (x : D) : Res (List D) := match x with | .int j => if -(2 ^ 62) ≤ j ∧ j < 2 ^ 62 then .ok (upto j.toNat 0) else .no | _ => .no
def rng2D (x y : D) : Res (List D) := match x, y with | .int i, .int j => if -(2 ^ 62) ≤ i ∧ i < 2 ^ 62 ∧ -(2 ^ 62) ≤ j ∧ j < 2 ^ 62 then .ok (upto (j - i).toNat i) else .no | _, _ => .no
theorem rngD_ok {j : Int} {n : Nat} (h : j = n) (g : n ≤ 1000000) : rngD (.int j) = .ok (upto n 0) := by
  subst h
  have h1 : -(2 ^ 62 : Int) ≤ (n : Int) ∧ (n : Int) < 2 ^ 62 := by omega
  simp only [rngD]
  rw [if_pos h1, Int.toNat_natCast]
theorem rng2D_ok {i j : Int} {n : Nat} (h : j - i = n) (g0 : -1000000 ≤ i) (g1 : i ≤ 1000000) (g : n ≤ 1000000) : rng2D (.int i) (.int j) = .ok (upto n i) := by
  have h1 : -(2 ^ 62 : Int) ≤ i ∧ i < 2 ^ 62 ∧ -(2 ^ 62 : Int) ≤ j ∧ j < 2 ^ 62 := by omega
  simp only [rng2D]
  rw [if_pos h1, h, Int.toNat_natCast]
section
variable {ρ : Env}
@[simp] theorem e_var {i : Nat} : evE (.var i) ρ = (match ρ[i]? with | some (.im d) => .ok d | _ => .no) := by simp only [evE] <;> rfl
@[simp] theorem e_int {n : Int} : evE (.int n) ρ = .ok (.int n) := by simp only [evE]
@[simp] theorem e_str {n : Str} : evE (.str n) ρ = .ok (.str n) := by simp only [evE]
@[simp] theorem e_bl {n : Bool} : evE (.bl n) ρ = .ok (.bool n) := by simp only [evE]
@[simp] theorem e_non : evE .non ρ = .ok .none := by simp only [evE]
@[simp] theorem e_glo {x : Str} {d : D} : evE (.glo x d) ρ = .ok d := by simp only [evE]
@[simp] theorem e_tup {es : IEs} : evE (.tup es) ρ = (evEs es ρ >>= fun ds => .ok (.tuple ds)) := by simp only [evE]
@[simp] theorem e_lst {es : IEs} : evE (.lst es) ρ = (evEs es ρ >>= fun ds => .ok (.list ds)) := by simp only [evE]
@[simp] theorem e_bin {op : Operator} {a b : IE} : evE (.bin op a b) ρ = (evE a ρ >>= fun x => evE b ρ >>= fun y => dBin op x y) := by simp only [evE]
@[simp] theorem e_neg {a : IE} : evE (.neg a) ρ = (evE a ρ >>= fun x => dNeg x) := by simp only [evE]
@[simp] theorem e_cmp {op : CmpOp} {a b : IE} : evE (.cmp op a b) ρ = (evE a ρ >>= fun x => evE b ρ >>= fun y => dCmp op x y) := by simp only [evE]
@[simp] theorem e_chn {o1 o2 : CmpOp} {a b c : IE} : evE (.chn o1 o2 a b c) ρ = (evE a ρ >>= fun x => evE b ρ >>= fun y => dCmp o1 x y >>= fun k => dTru k >>= fun k => if k then evE c ρ >>= fun z => dCmp o2 y z else .ok (.bool false)) := by simp only [evE]
@[simp] theorem e_and {a b : IE} : evE (.and a b) ρ = (evE a ρ >>= fun x => dAnd x (evE b ρ)) := by simp only [evE]
@[simp] theorem e_or {a b : IE} : evE (.or a b) ρ = (evE a ρ >>= fun x => dOr x (evE b ρ)) := by simp only [evE]
@[simp] theorem e_not {a : IE} : evE (.not a) ρ = (evE a ρ >>= fun x => dNot x) := by simp only [evE]
@[simp] theorem e_idx {a b : IE} : evE (.idx a b) ρ = (evE a ρ >>= fun x => evE b ρ >>= fun y => dIdx x y) := by simp only [evE]
@[simp] theorem e_slc {a : IE} {lo hi : IO} : evE (.slc a lo hi) ρ = (evE a ρ >>= fun x => evO lo ρ >>= fun l => evO hi ρ >>= fun h => dSlc x l h) := by simp only [evE]
@[simp] theorem e_rev {a : IE} : evE (.rev a) ρ = (evE a ρ >>= fun x => dRev x) := by simp only [evE]
@[simp] theorem e_alt {a : IE} {lo : IO} : evE (.alt a lo) ρ = (evE a ρ >>= fun x => evO lo ρ >>= fun l => dAlt x l) := by simp only [evE]
@[simp] theorem e_call {x : Str} {m : Fn} {es : IEs} : evE (.call x m es) ρ = (evEs es ρ >>= fun ds => m ds) := by simp only [evE]
@[simp] theorem e_bi {b : Bi} {es : IEs} : evE (.bi b es) ρ = (evEs es ρ >>= fun ds => dBi b ds) := by simp only [evE]
@[simp] theorem e_isi {T : String} {a : IE} : evE (.isi T a) ρ = (evE a ρ >>= fun d => isTy T d >>= fun k => .ok (.bool k)) := by simp only [evE]
@[simp] theorem e_lc {own : List (Str × Nat)} {tg : IT} {it : II} {c : IO} {e : IE} : evE (.lc own tg it c e) ρ = (evI it ρ >>= fun ds => if ds.length ≤ LIM then (lcGo (lE own tg c e ρ) ds >>= fun r => .ok (.list r)) else .no) := by simp only [evE] <;> rfl
@[simp] theorem e_dix {ks : List (Int ⊕ Str)} {vs : IEs} {a : IE} : evE (.dix ks vs a) ρ = (evEs vs ρ >>= fun ys => evE a ρ >>= fun x => dixK ks ys x) := by simp only [evE]
@[simp] theorem e_neO {i : Nat} : evE (.neO i) ρ = (match ρ[i]? with | some (.ow ds) => dCmp .NotEq (.list ds) (.list []) | some (.im d) => dCmp .NotEq d (.list []) | _ => .no) := by simp only [evE] <;> rfl
@[simp] theorem e_lrg {a b : IE} : evE (.lrg a b) ρ = (evE a ρ >>= fun x => evE b ρ >>= fun y => dLrg x y) := by simp only [evE]
@[simp] theorem e_lenO {i : Nat} : evE (.lenO i) ρ = (match ρ[i]? with | some (.ow ds) => .ok (.int ds.length) | some (.im (.list ds)) => .ok (.int ds.length) | _ => .no) := by simp only [evE] <;> rfl
@[simp] theorem e_idxO {i : Nat} {e : IE} : evE (.idxO i e) ρ = (match ρ[i]? with | some (.ow ds) => evE e ρ >>= fun k => dIdx (.list ds) k | some (.im (.list ds)) => evE e ρ >>= fun k => dIdx (.list ds) k | _ => .no) := by simp only [evE] <;> rfl
@[simp] theorem e_nil : evEs .nil ρ = .ok [] := by simp only [evEs]
@[simp] theorem e_cons {e : IE} {r : IEs} : evEs (.cons e r) ρ = (evE e ρ >>= fun d => evEs r ρ >>= fun ds => .ok (d :: ds)) := by simp only [evEs]
@[simp] theorem o_none : evO .none ρ = .ok none := by simp only [evO]
@[simp] theorem o_some {e : IE} : evO (.some e) ρ = (evE e ρ >>= fun x => match x with | .int i => .ok (some i) | _ => .no) := by simp only [evO] <;> rfl
@[simp] theorem c_none : evC .none ρ = .ok true := by simp only [evC]
@[simp] theorem c_some {e : IE} : evC (.some e) ρ = (evE e ρ >>= fun x => dTru x) := by simp only [evC]
@[simp] theorem i_seq {e : IE} : evI (.seq e) ρ = (evE e ρ >>= fun x => itemsOf x) := by simp only [evI]
@[simp] theorem i_rng1 {e : IE} : evI (.rng1 e) ρ = (evE e ρ >>= rngD) := by simp only [evI] <;> rfl
@[simp] theorem i_rng2 {a b : IE} : evI (.rng2 a b) ρ = (evE a ρ >>= fun x => evE b ρ >>= fun y => rng2D x y) := by simp only [evI] <;> rfl
@[simp] theorem i_zip {a b : IE} : evI (.zip a b) ρ = (evE a ρ >>= fun x => evE b ρ >>= fun y => dZip x y) := by simp only [evI]
@[simp] theorem i_enu {a : IE} : evI (.enu a) ρ = (evE a ρ >>= fun x => itemsOf x >>= fun xs => .ok (count 0 xs)) := by simp only [evI]
@[simp] theorem t_nm {i : Nat} {d : D} : asT (.nm i) d ρ = .ok (ρ.set i (.im d)) := by simp only [asT]
@[simp] theorem t_tup {ts : ITs} {ds : List D} : asT (.tu ts) (.tuple ds) ρ = asTs ts ds ρ := by simp only [asT]
@[simp] theorem t_lst {ts : ITs} {ds : List D} : asT (.tu ts) (.list ds) ρ = asTs ts ds ρ := by simp only [asT]
@[simp] theorem t_nil : asTs .nil [] ρ = .ok ρ := by simp only [asTs]
@[simp] theorem t_cons {t : IT} {r : ITs} {d : D} {ds : List D} : asTs (.cons t r) (d :: ds) ρ = (asT t d ρ >>= fun ρ' => asTs r ds ρ') := by simp only [asTs]
@[simp] theorem s_set {i : Nat} {e : IE} : evS (.set i e) ρ = Out.ofR (evE e ρ) fun d => .nx (ρ.set i (.im d)) := by simp only [evS]
@[simp] theorem s_new {i : Nat} {es : IEs} : evS (.new i es) ρ = Out.ofR (evEs es ρ) fun ds => .nx (ρ.set i (.ow ds)) := by simp only [evS]
@[simp] theorem s_tset {t : ITs} {e : IE} : evS (.tset t e) ρ = Out.ofR (evE e ρ) fun d => Out.ofR (asT (.tu t) d ρ) fun ρ' => .nx ρ' := by simp only [evS]
@[simp] theorem s_par2 {i j : Nat} {a b : IE} : evS (.par2 i j a b) ρ = Out.ofR (evE a ρ) fun x => Out.ofR (evE b ρ) fun y => .nx ((ρ.set i (.im x)).set j (.im y)) := by simp only [evS]
@[simp] theorem s_app {i : Nat} {e : IE} : evS (.app i e) ρ = (match ρ[i]? with | some (.ow ds) => Out.ofR (evE e ρ) fun d => if ds.length < LIM then .nx (ρ.set i (.ow (ds ++ [d]))) else .no | _ => .no) := by simp only [evS] <;> rfl
@[simp] theorem s_ext {i : Nat} {e : IE} : evS (.ext i e) ρ = (match ρ[i]? with | some (.ow ds) => Out.ofR (evE e ρ) fun d => Out.ofR (dExt ds d) fun es => .nx (ρ.set i (.ow es)) | _ => .no) := by simp only [evS] <;> rfl
@[simp] theorem s_owa {i : Nat} {a b : IE} : evS (.owa i a b) ρ = (Out.ofR (evE a ρ) fun x => Out.ofR (evE b ρ) fun y => Out.ofR (dCat x y) fun ds => .nx (ρ.set i (.ow ds))) := by simp only [evS]
@[simp] theorem s_ows {i : Nat} {a : IE} {lo hi : IO} : evS (.ows i a lo hi) ρ = (Out.ofR (evE a ρ) fun x => Out.ofR (evO lo ρ) fun l => Out.ofR (evO hi ρ) fun h => Out.ofR (dCut x l h) fun ds => .nx (ρ.set i (.ow ds))) := by simp only [evS]
@[simp] theorem s_pop {i : Nat} : evS (.pop i) ρ = (match ρ[i]? with | some (.ow ds) => if ds.isEmpty then .no else .nx (ρ.set i (.ow ds.dropLast)) | _ => .no) := by simp only [evS] <;> rfl
@[simp] theorem s_put {i : Nat} {k e : IE} : evS (.put i k e) ρ = (match ρ[i]? with | some (.ow ds) => Out.ofR (evE e ρ) fun d => Out.ofR (evE k ρ) fun k => Out.ofR (dPut ds k d) fun es => .nx (ρ.set i (.ow es)) | _ => .no) := by simp only [evS] <;> rfl
@[simp] theorem s_frz {i : Nat} : evS (.frz i) ρ = (match ρ[i]? with | some (.ow ds) => .nx (ρ.set i (.im (.list ds))) | _ => .nx ρ) := by simp only [evS] <;> rfl
@[simp] theorem s_kil {vs : List Nat} : evS (.kil vs) ρ = .nx (wipeR ρ vs) := by simp only [evS]
@[simp] theorem s_ret {e : IE} : evS (.ret e) ρ = Out.ofR (evE e ρ) fun d => .rt d := by simp only [evS]
@[simp] theorem s_exp {e : IE} : evS (.exp e) ρ = Out.ofR (evE e ρ) fun _ => .nx ρ := by simp only [evS]
@[simp] theorem s_ife {c : IE} {a b : ISs} : evS (.ife c a b) ρ = Out.ofR (evE c ρ >>= fun x => dTru x) fun k => if k then evSs a ρ else evSs b ρ := by simp only [evS]
@[simp] theorem s_whl {c : IE} {b : ISs} : evS (.whl c b) ρ = whlGo (tE c) (sE b) FUEL ρ := by simp only [evS] <;> rfl
@[simp] theorem s_fr {tg : IT} {it : II} {b : ISs} : evS (.fr tg it b) ρ = Out.ofR (evI it ρ) fun ds => forGo (fE tg b) ds ρ := by simp only [evS] <;> rfl
@[simp] theorem s_brk : evS .brk ρ = .bk ρ := by simp only [evS]
@[simp] theorem s_cnt : evS .cnt ρ = .ct ρ := by simp only [evS]
@[simp] theorem s_pass : evS .pass ρ = .nx ρ := by simp only [evS]
@[simp] theorem s_rse {x : Str} : evS (.rse x) ρ = .er x := by simp only [evS]
@[simp] theorem s_nev : evS .nev ρ = .no := by simp only [evS]
@[simp] theorem ss_nil : evSs .nil ρ = .nx ρ := by simp only [evSs]
/-- what a statement came to, then the rest -/
def Out.seq (o : Out) (f : Env → Out) : Out := match o with
  | .nx ρ' => f ρ'
  | .rt v => .rt v
  | .bk ρ' => .bk ρ'
  | .ct ρ' => .ct ρ'
  | .er x => .er x
  | .no => .no
@[simp] theorem seq_nx {ρ : Env} {b : ISs} : Out.seq (.nx ρ) (sE b) = evSs b ρ := Res.nrf rfl
@[simp] theorem seq_rt {d : D} {f : Env → Out} : Out.seq (.rt d) f = .rt d := Res.nrf rfl
@[simp] theorem seq_bk {ρ : Env} {f : Env → Out} : Out.seq (.bk ρ) f = .bk ρ := Res.nrf rfl
@[simp] theorem seq_ct {ρ : Env} {f : Env → Out} : Out.seq (.ct ρ) f = .ct ρ := Res.nrf rfl
@[simp] theorem seq_er {x : Str} {f : Env → Out} : Out.seq (.er x) f = .er x := Res.nrf rfl
@[simp] theorem seq_no {f : Env → Out} : Out.seq .no f = .no := Res.nrf rfl
@[simp] theorem ss_cons {s : IS} {r : ISs} : evSs (.cons s r) ρ = Out.seq (evS s ρ) (sE r) := by
  simp only [evSs]
  cases evS s ρ <;> rfl
@[simp] theorem ofR_ok {α : Type} {a : α} {f : α → Out} : Out.ofR (.ok a) f = f a := Res.nrf rfl
@[simp] theorem ofR_no {α : Type} {f : α → Out} : Out.ofR (.no : Res α) f = .no := Res.nrf rfl
@[simp] theorem ofR_er {α : Type} {x : Str} {f : α → Out} : Out.ofR (.er x : Res α) f = .er x := Res.nrf rfl
@[simp] theorem wipe_nil : wipeR ρ [] = ρ := Res.nrf rfl
@[simp] theorem wipe_cons {v : Nat} {vs : List Nat} : wipeR ρ (v :: vs) = (wipeR ρ vs).set v .un := Res.nrf rfl
@[simp] theorem tru_bl {b : Bool} : dTru (.bool b) = .ok b := Res.nrf rfl
@[simp] theorem tru_int {i : Int} : dTru (.int i) = .ok (i != 0) := Res.nrf rfl
@[simp] theorem and_t {r : Res D} : dAnd (.bool true) r = r := Res.nrf rfl
@[simp] theorem and_f {r : Res D} : dAnd (.bool false) r = .ok (.bool false) := Res.nrf rfl
@[simp] theorem or_t {r : Res D} : dOr (.bool true) r = .ok (.bool true) := Res.nrf rfl
@[simp] theorem or_f {r : Res D} : dOr (.bool false) r = r := Res.nrf rfl
@[simp] theorem not_b {b : Bool} : dNot (.bool b) = .ok (.bool (!b)) := Res.nrf rfl
@[simp] theorem b_addI {i j : Int} : dBin .Add (.int i) (.int j) = .ok (.int (i + j)) := Res.nrf rfl
@[simp] theorem b_subI {i j : Int} : dBin .Sub (.int i) (.int j) = .ok (.int (i - j)) := Res.nrf rfl
@[simp] theorem b_addT {xs ys : List D} : dBin .Add (.tuple xs) (.tuple ys) = if xs.length + ys.length ≤ LIM then .ok (.tuple (xs ++ ys)) else .no := Res.nrf rfl
@[simp] theorem b_addL {xs ys : List D} : dBin .Add (.list xs) (.list ys) = if xs.length + ys.length ≤ LIM then .ok (.list (xs ++ ys)) else .no := Res.nrf rfl
@[simp] theorem n_int {i : Int} : dNeg (.int i) = .ok (.int (-i)) := Res.nrf rfl
@[simp] theorem c_lt {i j : Int} : dCmp .Lt (.int i) (.int j) = .ok (.bool (decide (i < j))) := Res.nrf rfl
@[simp] theorem c_le {i j : Int} : dCmp .LtE (.int i) (.int j) = .ok (.bool (decide (i ≤ j))) := Res.nrf rfl
@[simp] theorem c_gt {i j : Int} : dCmp .Gt (.int i) (.int j) = .ok (.bool (decide (j < i))) := Res.nrf rfl
@[simp] theorem c_ge {i j : Int} : dCmp .GtE (.int i) (.int j) = .ok (.bool (decide (j ≤ i))) := Res.nrf rfl
theorem c_eq {a b : D} (h1 : SeqAt.shaped a = true) (h2 : SeqAt.shaped b = true) : dCmp .Eq a b = .ok (.bool (PyData.eqv a b)) := by
  show (if SeqAt.shaped a && SeqAt.shaped b then _ else _) = _
  rw [h1, h2]; rfl
theorem c_ne {a b : D} (h1 : SeqAt.shaped a = true) (h2 : SeqAt.shaped b = true) : dCmp .NotEq a b = .ok (.bool (!PyData.eqv a b)) := by
  show (if SeqAt.shaped a && SeqAt.shaped b then _ else _) = _
  rw [h1, h2]; rfl
@[simp] theorem sh_int {i : Int} : SeqAt.shaped (.int i) = true := Res.nrf rfl
@[simp] theorem c_eqI {i j : Int} : dCmp .Eq (.int i) (.int j) = .ok (.bool (decide (i = j))) := by
  rw [c_eq rfl rfl]
  simp only [PyData.eqv]
  by_cases h : i = j <;> simp [h]
@[simp] theorem c_neI {i j : Int} : dCmp .NotEq (.int i) (.int j) = .ok (.bool (!decide (i = j))) := by
  rw [c_ne rfl rfl]
  simp only [PyData.eqv]
  by_cases h : i = j <;> simp [h]
@[simp] theorem it_tup {xs : List D} : itemsOf (.tuple xs) = if xs.length ≤ LIM then .ok xs else .no := Res.nrf rfl
@[simp] theorem it_lst {xs : List D} : itemsOf (.list xs) = if xs.length ≤ LIM then .ok xs else .no := Res.nrf rfl
@[simp] theorem lim_le0 : 0 ≤ LIM := by decide
@[simp] theorem lim_lt0 : 0 < LIM := by decide
@[simp] theorem lim_le1 : 1 ≤ LIM := by decide
@[simp] theorem lim_lt1 : 1 < LIM := by decide
@[simp] theorem lim_le2 : 2 ≤ LIM := by decide
@[simp] theorem lim_lt2 : 2 < LIM := by decide
@[simp] theorem lim_le3 : 3 ≤ LIM := by decide
@[simp] theorem lim_lt3 : 3 < LIM := by decide
@[simp] theorem lim_le4 : 4 ≤ LIM := by decide
@[simp] theorem lim_lt4 : 4 < LIM := by decide
@[simp] theorem lim_le5 : 5 ≤ LIM := by decide
@[simp] theorem lim_lt5 : 5 < LIM := by decide
@[simp] theorem lim_le6 : 6 ≤ LIM := by decide
@[simp] theorem lim_lt6 : 6 < LIM := by decide
@[simp] theorem lim_le7 : 7 ≤ LIM := by decide
@[simp] theorem lim_lt7 : 7 < LIM := by decide
@[simp] theorem lim_le8 : 8 ≤ LIM := by decide
@[simp] theorem lim_lt8 : 8 < LIM := by decide
@[simp] theorem lim_le9 : 9 ≤ LIM := by decide
@[simp] theorem lim_lt9 : 9 < LIM := by decide
@[simp] theorem lim_le10 : 10 ≤ LIM := by decide
@[simp] theorem lim_lt10 : 10 < LIM := by decide
@[simp] theorem lim_le11 : 11 ≤ LIM := by decide
@[simp] theorem lim_lt11 : 11 < LIM := by decide
@[simp] theorem lim_le12 : 12 ≤ LIM := by decide
@[simp] theorem lim_lt12 : 12 < LIM := by decide
@[simp] theorem bi_lenT {xs : List D} : dBi .len [.tuple xs] = .ok (.int xs.length) := Res.nrf rfl
@[simp] theorem bi_lenL {xs : List D} : dBi .len [.list xs] = .ok (.int xs.length) := Res.nrf rfl
@[simp] theorem bi_abs {i : Int} : dBi .abs [.int i] = .ok (.int (if i < 0 then -i else i)) := Res.nrf rfl
@[simp] theorem bi_intI {i : Int} : dBi .int [.int i] = .ok (.int i) := Res.nrf rfl
@[simp] theorem bi_intB {b : Bool} : dBi .int [.bool b] = .ok (.int (if b then 1 else 0)) := Res.nrf rfl
@[simp] theorem bi_listT {xs : List D} : dBi .list [.tuple xs] = .ok (.list xs) := Res.nrf rfl
@[simp] theorem bi_listL {xs : List D} : dBi .list [.list xs] = .ok (.list xs) := Res.nrf rfl
@[simp] theorem bi_tupT {xs : List D} : dBi .tuple [.tuple xs] = .ok (.tuple xs) := Res.nrf rfl
@[simp] theorem bi_tupL {xs : List D} : dBi .tuple [.list xs] = .ok (.tuple xs) := Res.nrf rfl
@[simp] theorem ix_tup0 {x : D} {xs : List D} : dIdx (.tuple (x :: xs)) (.int 0) = .ok x := by
  simp [dIdx, L2.atI, L2.ixN]
end
/-- what a def gives -/
def fin (o : Out) : Res D := match o with
  | .rt d => .ok d
  | .nx _ => .ok .none
  | .er x => .er x
  | _ => .no
@[simp] theorem fin_rt {d : D} : fin (.rt d) = .ok d := Res.nrf rfl
@[simp] theorem fin_nx {ρ : Env} : fin (.nx ρ) = .ok .none := Res.nrf rfl
@[simp] theorem fin_er {x : Str} : fin (.er x) = .er x := Res.nrf rfl
theorem run_eq {np n : Nat} {b : ISs} {ds : List D} (h : ds.length = np) : runFn np n b ds = fin (evSs b (ds.map Cell.im ++ List.replicate (n - np) .un)) := by
  simp only [runFn, h, if_true]; rfl
theorem run1 {n : Nat} {b : ISs} {x : D} : runFn 1 n b [x] = fin (evSs b (.im x :: List.replicate (n - 1) .un)) := run_eq rfl
theorem run2 {n : Nat} {b : ISs} {x y : D} : runFn 2 n b [x, y] = fin (evSs b (.im x :: .im y :: List.replicate (n - 2) .un)) := run_eq rfl
theorem run3 {n : Nat} {b : ISs} {x y z : D} : runFn 3 n b [x, y, z] = fin (evSs b (.im x :: .im y :: .im z :: List.replicate (n - 3) .un)) := run_eq rfl
theorem run4 {n : Nat} {b : ISs} {x y z u : D} : runFn 4 n b [x, y, z, u] = fin (evSs b (.im x :: .im y :: .im z :: .im u :: List.replicate (n - 4) .un)) := run_eq rfl
theorem run5 {n : Nat} {b : ISs} {x y z u v : D} : runFn 5 n b [x, y, z, u, v] = fin (evSs b (.im x :: .im y :: .im z :: .im u :: .im v :: List.replicate (n - 5) .un)) := run_eq rfl
theorem run0 {n : Nat} {b : ISs} : runFn 0 n b [] = fin (evSs b (List.replicate n .un)) := run_eq rfl
theorem seq_ite {c : Prop} [Decidable c] {a b : Out} {k : Env → Out} : Out.seq (if c then a else b) k = if c then Out.seq a k else Out.seq b k := by split <;> rfl
theorem fin_ite {c : Prop} [Decidable c] {a b : Out} : fin (if c then a else b) = if c then fin a else fin b := by split <;> rfl
theorem ofR_ite {α : Type} {c : Prop} [Decidable c] {a b : Res α} {k : α → Out} : Out.ofR (if c then a else b) k = if c then Out.ofR a k else Out.ofR b k := by split <;> rfl
theorem bind_ite {α β : Type} {c : Prop} [Decidable c] {a b : Res α} {k : α → Res β} : ((if c then a else b) >>= k) = if c then a >>= k else b >>= k := by split <;> rfl
/-- a place that is a number -/
theorem ix_tup {xs : List D} {i : Nat} {d : D} (h : xs[i]? = some d) : dIdx (.tuple xs) (.int (i : Int)) = .ok d := by
  have hi := (List.getElem?_eq_some_iff.mp h).1
  simp [dIdx, L2.atI, L2.ixN, hi]
  exact (List.getElem?_eq_some_iff.mp h).2
theorem ix_lst {xs : List D} {i : Nat} {d : D} (h : xs[i]? = some d) : dIdx (.list xs) (.int (i : Int)) = .ok d := by
  have hi := (List.getElem?_eq_some_iff.mp h).1
  simp [dIdx, L2.atI, L2.ixN, hi]
  exact (List.getElem?_eq_some_iff.mp h).2
end Rf
namespace Rf
open PySem
mutual
/-- no truth value, no dict within -/
def pl : D → Bool
  | .none => true
  | .bool _ => false
  | .int _ => true
  | .str _ => true
  | .list xs => plA xs
  | .tuple xs => plA xs
  | .dict _ => false
def plA : List D → Bool
  | [] => true
  | x :: xs => pl x && plA xs
end
mutual
theorem eqv_pl : ∀ a b : D, pl a = true → pl b = true → (PyData.eqv a b = true ↔ a = b)
  | .none, b, _, hb => by cases b <;> simp_all [PyData.eqv, pl]
  | .bool _, b, ha, _ => by simp [pl] at ha
  | .int i, b, _, hb => by cases b <;> simp_all [PyData.eqv, pl]
  | .str x, b, _, hb => by cases b <;> simp_all [PyData.eqv, pl]
  | .list xs, .list ys, ha, hb => by simp only [PyData.eqv, PyData.list.injEq]; exact eqv_plA xs ys (by simpa [pl] using ha) (by simpa [pl] using hb)
  | .tuple xs, .tuple ys, ha, hb => by simp only [PyData.eqv, PyData.tuple.injEq]; exact eqv_plA xs ys (by simpa [pl] using ha) (by simpa [pl] using hb)
  | .list xs, .none, _, _ | .list xs, .bool _, _, _ | .list xs, .int _, _, _ | .list xs, .str _, _, _ | .list xs, .tuple _, _, _ | .list xs, .dict _, _, _ => by simp [PyData.eqv]
  | .tuple xs, .none, _, _ | .tuple xs, .bool _, _, _ | .tuple xs, .int _, _, _ | .tuple xs, .str _, _, _ | .tuple xs, .list _, _, _ | .tuple xs, .dict _, _, _ => by simp [PyData.eqv]
  | .dict _, _, ha, _ => by simp [pl] at ha
theorem eqv_plA : ∀ a b : List D, plA a = true → plA b = true → (PyData.eqvAll a b = true ↔ a = b)
  | [], [], _, _ => by simp [PyData.eqvAll]
  | [], _ :: _, _, _ => by simp [PyData.eqvAll]
  | _ :: _, [], _, _ => by simp [PyData.eqvAll]
  | x :: xs, y :: ys, ha, hb => by
    simp only [plA, Bool.and_eq_true] at ha hb
    simp only [PyData.eqvAll, Bool.and_eq_true, List.cons.injEq, eqv_pl x y ha.1 hb.1, eqv_plA xs ys ha.2 hb.2]
end
theorem plA_all : ∀ xs : List D, (∀ x ∈ xs, pl x = true) → plA xs = true
  | [], _ => rfl
  | x :: xs, h => by
    simp only [plA, Bool.and_eq_true]
    exact ⟨h x (List.mem_cons_self ..), plA_all xs fun y hy => h y (List.mem_cons_of_mem _ hy)⟩
theorem layA_all : ∀ xs : List D, (∀ x ∈ xs, PyData.canLay0 x = true) → PyData.canLayAll0 xs = true
  | [], _ => by simp [PyData.canLayAll0]
  | x :: xs, h => by
    simp only [PyData.canLayAll0, Bool.and_eq_true]
    exact ⟨h x (List.mem_cons_self ..), layA_all xs fun y hy => h y (List.mem_cons_of_mem _ hy)⟩
theorem depA_all (n : Nat) : ∀ xs : List D, (∀ x ∈ xs, PyData.depth x ≤ n) → PyData.depthAll xs ≤ n
  | [], _ => by simp [PyData.depthAll]
  | x :: xs, h => by
    simp only [PyData.depthAll]
    exact Nat.max_le.mpr ⟨h x (List.mem_cons_self ..), depA_all n xs fun y hy => h y (List.mem_cons_of_mem _ hy)⟩
structure Good (n : Nat) (d : D) : Prop where
  lay : PyData.canLay0 d = true
  dep : PyData.depth d ≤ n
  pln : pl d = true
theorem Good.mono {m n : Nat} {d : D} (g : Good m d) (h : m ≤ n) : Good n d := ⟨g.lay, Nat.le_trans g.dep h, g.pln⟩
theorem good_int (n : Nat) (i : Int) : Good n (.int i) := ⟨by simp [PyData.canLay0], by simp [PyData.depth], rfl⟩
theorem good_non (n : Nat) : Good n .none := ⟨by simp [PyData.canLay0], by simp [PyData.depth], rfl⟩
theorem good_str (n : Nat) (x : Str) (h : PyData.canLay0 (.str x) = true) : Good n (.str x) := ⟨h, by simp [PyData.depth], rfl⟩
theorem good_tuple {n : Nat} {xs : List D} (h : ∀ x ∈ xs, Good n x) : Good (n + 1) (.tuple xs) := by
  refine ⟨?_, ?_, ?_⟩
  · simp only [PyData.canLay0]; exact layA_all xs fun x hx => (h x hx).lay
  · simp only [PyData.depth]; exact Nat.succ_le_succ (depA_all n xs fun x hx => (h x hx).dep)
  · simp only [pl]; exact plA_all xs fun x hx => (h x hx).pln
theorem good_list {n : Nat} {xs : List D} (h : ∀ x ∈ xs, Good n x) : Good (n + 1) (.list xs) := by
  refine ⟨?_, ?_, ?_⟩
  · simp only [PyData.canLay0]; exact layA_all xs fun x hx => (h x hx).lay
  · simp only [PyData.depth]; exact Nat.succ_le_succ (depA_all n xs fun x hx => (h x hx).dep)
  · simp only [pl]; exact plA_all xs fun x hx => (h x hx).pln
theorem Good.sh {n : Nat} {d : D} (g : Good n d) (h : n ≤ 64) : SeqAt.shaped d = true := by
  simp only [SeqAt.shaped, g.lay, Bool.true_and, decide_eq_true_eq]
  exact Nat.le_trans g.dep h
theorem cEq {m n : Nat} {a b : D} (ga : Good m a) (gb : Good n b) (hm : m ≤ 64) (hn : n ≤ 64) {p : Prop} [Decidable p] (h : a = b ↔ p) : dCmp .Eq a b = .ok (.bool (decide p)) := by
  rw [c_eq (ga.sh hm) (gb.sh hn)]
  by_cases q : p
  · have := h.mpr q; simp [q, (eqv_pl a b ga.pln gb.pln).mpr this]
  · have : ¬ PyData.eqv a b = true := fun e => q (h.mp ((eqv_pl a b ga.pln gb.pln).mp e))
    simp only [Bool.not_eq_true] at this
    simp [q, this]
theorem cNe {m n : Nat} {a b : D} (ga : Good m a) (gb : Good n b) (hm : m ≤ 64) (hn : n ≤ 64) {p : Prop} [Decidable p] (h : a = b ↔ p) : dCmp .NotEq a b = .ok (.bool (!decide p)) := by
  rw [c_ne (ga.sh hm) (gb.sh hn)]
  by_cases q : p
  · have := h.mpr q; simp [q, (eqv_pl a b ga.pln gb.pln).mpr this]
  · have : ¬ PyData.eqv a b = true := fun e => q (h.mp ((eqv_pl a b ga.pln gb.pln).mp e))
    simp only [Bool.not_eq_true] at this
    simp [q, this]
/-- what data stands for -/
class Enc (α : Type) where
  enc : α → D
  dep : Nat
  inj : ∀ {a b}, enc a = enc b → a = b
  good : ∀ a, Good dep (enc a)
open Enc (enc)
class EncOk (α : Type) [Enc α] : Prop where
  le : Enc.dep α ≤ 64
theorem enc_inj {α : Type} [Enc α] {a b : α} : enc a = enc b ↔ a = b := ⟨Enc.inj, fun h => h ▸ rfl⟩
@[simp] theorem c_eqE {α : Type} [Enc α] [EncOk α] [DecidableEq α] {a b : α} : dCmp .Eq (enc a) (enc b) = .ok (.bool (decide (a = b))) :=
  cEq (Enc.good a) (Enc.good b) EncOk.le EncOk.le enc_inj
@[simp] theorem c_neE {α : Type} [Enc α] [EncOk α] [DecidableEq α] {a b : α} : dCmp .NotEq (enc a) (enc b) = .ok (.bool (!decide (a = b))) :=
  cNe (Enc.good a) (Enc.good b) EncOk.le EncOk.le enc_inj
instance : Enc Rat where
  enc q := .tuple [.int q.num, .int q.den]
  dep := 1
  inj h := by
    simp only [PyData.tuple.injEq, List.cons.injEq, PyData.int.injEq, and_true] at h
    exact Rat.ext h.1 (by omega)
  good q := good_tuple (by simp [good_int])
instance : EncOk Rat := ⟨by decide⟩
theorem enc_rat (q : Rat) : enc q = .tuple [.int q.num, .int q.den] := rfl
instance {α β : Type} [Enc α] [Enc β] : Enc (α × β) where
  enc p := .tuple [enc p.1, enc p.2]
  dep := max (Enc.dep α) (Enc.dep β) + 1
  inj h := by
    simp only [PyData.tuple.injEq, List.cons.injEq, and_true, enc_inj] at h
    exact Prod.ext h.1 h.2
  good p := good_tuple (by
    simp only [List.mem_cons, List.not_mem_nil, or_false, forall_eq_or_imp, forall_eq]
    exact ⟨(Enc.good p.1).mono (Nat.le_max_left ..), (Enc.good p.2).mono (Nat.le_max_right ..)⟩)
theorem enc_pair {α β : Type} [Enc α] [Enc β] (p : α × β) : enc p = .tuple [enc p.1, enc p.2] := rfl
/-- lists stand as tuples -/
instance {α : Type} [Enc α] : Enc (List α) where
  enc xs := .tuple (xs.map enc)
  dep := Enc.dep α + 1
  inj {a b} h := by
    simp only [PyData.tuple.injEq] at h
    exact (List.map_inj_right fun x y e => Enc.inj e).mp h
  good xs := good_tuple (by
    intro x hx
    obtain ⟨a, _, rfl⟩ := List.mem_map.mp hx
    exact Enc.good a)
theorem enc_list {α : Type} [Enc α] (p : List α) : enc p = .tuple (p.map enc) := rfl
/-- as python lists -/
def encL {α : Type} [Enc α] (xs : List α) : D := .list (xs.map enc)
theorem encL_inj {α : Type} [Enc α] {a b : List α} : encL a = encL b ↔ a = b := by
  simp only [encL, PyData.list.injEq]
  exact List.map_inj_right fun x y e => Enc.inj e
theorem encL_good {α : Type} [Enc α] (xs : List α) : Good (Enc.dep α + 1) (encL xs) := good_list (by
    intro x hx
    obtain ⟨a, _, rfl⟩ := List.mem_map.mp hx
    exact Enc.good a)
@[simp] theorem c_eqL {α : Type} [Enc α] [EncOk (List α)] [DecidableEq α] {a b : List α} : dCmp .Eq (encL a) (encL b) = .ok (.bool (decide (a = b))) :=
  cEq (encL_good a) (encL_good b) (EncOk.le (α := List α)) (EncOk.le (α := List α)) encL_inj
@[simp] theorem c_neL {α : Type} [Enc α] [EncOk (List α)] [DecidableEq α] {a b : List α} : dCmp .NotEq (encL a) (encL b) = .ok (.bool (!decide (a = b))) :=
  cNe (encL_good a) (encL_good b) (EncOk.le (α := List α)) (EncOk.le (α := List α)) encL_inj
abbrev P := Rat × Rat
instance : EncOk P := ⟨by decide⟩
/-- strokes -/
inductive Sk where
  | mv (p : P)
  | ln (p : P)
  | bw (c p : P)
  | wv (c d p : P)
  | sh
  deriving DecidableEq
def Sk.nam : Sk → Str
  | .mv _ => "move"
  | .ln _ => "line"
  | .bw _ _ => "bow"
  | .wv _ _ _ => "wave"
  | .sh => "shut"
def Sk.pts : Sk → List P
  | .mv p => [p]
  | .ln p => [p]
  | .bw c p => [c, p]
  | .wv c d p => [c, d, p]
  | .sh => []
theorem s_ne1 : ¬ ("move" : Str) = "line" := by decide +kernel
theorem s_ne2 : ¬ ("move" : Str) = "bow" := by decide +kernel
theorem s_ne3 : ¬ ("move" : Str) = "wave" := by decide +kernel
theorem s_ne4 : ¬ ("move" : Str) = "shut" := by decide +kernel
theorem s_ne5 : ¬ ("line" : Str) = "bow" := by decide +kernel
theorem s_ne6 : ¬ ("line" : Str) = "wave" := by decide +kernel
theorem s_ne7 : ¬ ("line" : Str) = "shut" := by decide +kernel
theorem s_ne8 : ¬ ("bow" : Str) = "wave" := by decide +kernel
theorem s_ne9 : ¬ ("bow" : Str) = "shut" := by decide +kernel
theorem s_ne0 : ¬ ("wave" : Str) = "shut" := by decide +kernel
theorem Sk.ext {a b : Sk} (h : a.nam = b.nam) (g : a.pts = b.pts) : a = b := by
  cases a <;> cases b <;> simp_all [Sk.nam, Sk.pts, s_ne1, s_ne2, s_ne3, s_ne4, s_ne5, s_ne6, s_ne7, s_ne8, s_ne9, s_ne0, Ne.symm s_ne1, Ne.symm s_ne2, Ne.symm s_ne3, Ne.symm s_ne4, Ne.symm s_ne5, Ne.symm s_ne6, Ne.symm s_ne7, Ne.symm s_ne8, Ne.symm s_ne9, Ne.symm s_ne0]
instance : Enc Sk where
  enc s := .tuple (.str s.nam :: s.pts.map enc)
  dep := 3
  inj h := by
    simp only [PyData.tuple.injEq, List.cons.injEq, PyData.str.injEq] at h
    exact Sk.ext h.1 ((List.map_inj_right fun x y e => Enc.inj e).mp h.2)
  good s := good_tuple (by
    intro x hx
    rcases List.mem_cons.mp hx with rfl | hx
    · refine good_str _ _ ?_
      cases s <;> (dsimp only [Sk.nam]; decide +kernel)
    · obtain ⟨a, _, rfl⟩ := List.mem_map.mp hx
      exact (Enc.good a).mono (by decide))
instance : EncOk Sk := ⟨by decide⟩
instance : EncOk (List Sk) := ⟨by decide⟩
instance : EncOk (List (List Sk)) := ⟨by decide⟩
instance : EncOk (List P) := ⟨by decide⟩
instance : EncOk (List (List P)) := ⟨by decide⟩
theorem enc_sk (s : Sk) : enc s = .tuple (.str s.nam :: s.pts.map enc) := rfl
end Rf
namespace Dp
open PySem Rf
def g_MOST_UPPER : D := (.int (9999))
def g_LOWERS : D := (.tuple [(.int (1)), (.int (2)), (.int (4)), (.int (5)), (.int (10)), (.int (20)), (.int (25)), (.int (50)), (.int (100))])
def g_BEGIN : D := (.tuple [(.tuple [(.int (0)), (.int (1))]), (.tuple [(.int (0)), (.int (1))])])
def g_MOVE : D := (.str "move")
def g_SHUT : D := (.str "shut")
def g_HUNDRED : D := (.int (100))
def g_BOUND : D := (.int (10000000))
def g_POINT : D := (.str ".")
def g_LINE : D := (.str "line")
def g_NONE : D := (.tuple [(.int (0)), (.int (1))])
def g_WAVE : D := (.str "wave")
def g_THREE : D := (.tuple [(.int (3)), (.int (1))])
def g_HALF : D := (.tuple [(.int (1)), (.int (2))])
def g_BOW : D := (.str "bow")
def b_divisor : ISs :=
 (.cons (.set 0 (.bi .abs (.cons (.var 0) .nil)))
 (.cons (.set 1 (.bi .abs (.cons (.var 1) .nil)))
 (.cons (.whl (.cmp .Gt (.var 1) (.int 0))
 (.cons (.par2 0 1 (.var 1) (.bin .Mod (.var 0) (.var 1)))
 .nil))
 (.cons (.kil [1])
 (.cons (.ret (.var 0))
 .nil)))))
def f_divisor : Fn := runFn 2 2 b_divisor
def b_is_whole : ISs :=
 (.cons (.ret (.and (.isi "int" (.var 0)) (.not (.isi "bool" (.var 0)))))
 .nil)
def f_is_whole : Fn := runFn 1 1 b_is_whole
def b_is_fraction : ISs :=
 (.cons (.ife (.or (.not (.isi "tuple" (.var 0))) (.or (.cmp .NotEq (.bi .len (.cons (.var 0) .nil)) (.int 2)) (.or (.not (.call "is_whole" f_is_whole (.cons (.idx (.var 0) (.int 0)) .nil))) (.not (.call "is_whole" f_is_whole (.cons (.idx (.var 0) (.int 1)) .nil))))))
 (.cons (.ret (.bl false))
 .nil)
 .nil)
 (.cons (.ret (.and (.cmp .Gt (.idx (.var 0) (.int 1)) (.int 0)) (.cmp .Eq (.call "divisor" f_divisor (.cons (.idx (.var 0) (.int 0)) (.cons (.idx (.var 0) (.int 1)) .nil))) (.int 1))))
 .nil))
def f_is_fraction : Fn := runFn 1 1 b_is_fraction
def b_is_small : ISs :=
 (.cons (.ret (.and (.call "is_fraction" f_is_fraction (.cons (.var 0) .nil)) (.and (.cmp .LtE (.bi .abs (.cons (.idx (.var 0) (.int 0)) .nil)) (.glo "MOST_UPPER" g_MOST_UPPER)) (.cmp .In (.idx (.var 0) (.int 1)) (.glo "LOWERS" g_LOWERS)))))
 .nil)
def f_is_small : Fn := runFn 1 1 b_is_small
def b_is_point : ISs :=
 (.cons (.ret (.and (.isi "tuple" (.var 0)) (.and (.cmp .Eq (.bi .len (.cons (.var 0) .nil)) (.int 2)) (.and (.call "is_small" f_is_small (.cons (.idx (.var 0) (.int 0)) .nil)) (.call "is_small" f_is_small (.cons (.idx (.var 0) (.int 1)) .nil))))))
 .nil)
def f_is_point : Fn := runFn 1 1 b_is_point
def b_fraction : ISs :=
 (.cons (.set 2 (.call "divisor" f_divisor (.cons (.var 0) (.cons (.var 1) .nil))))
 (.cons (.ife (.cmp .Lt (.var 1) (.int 0))
 (.cons (.set 2 (.bin .Sub (.int 0) (.var 2)))
 .nil)
 .nil)
 (.cons (.ret (.tup (.cons (.bin .FloorDiv (.var 0) (.var 2)) (.cons (.bin .FloorDiv (.var 1) (.var 2)) .nil))))
 .nil)))
def f_fraction : Fn := runFn 2 3 b_fraction
def b__law_cell_at : ISs :=
 (.cons (.ife (.cmp .Lt (.var 1) (.bi .len (.cons (.var 0) .nil)))
 (.cons (.ret (.idx (.var 0) (.var 1)))
 .nil)
 .nil)
 (.cons (.ret (.int 0))
 .nil))
def f__law_cell_at : Fn := runFn 2 2 b__law_cell_at
def b__law_mixed : ISs :=
 (.cons (.set 2 (.bin .Mod (.bin .Mult (.bin .Add (.bin .Add (.call "_law_cell_at" f__law_cell_at (.cons (.var 0) (.cons (.var 1) .nil))) (.bin .Mult (.int 7919) (.var 1))) (.int 1)) (.int 48271)) (.int 2147483647)))
 (.cons (.ret (.bin .Mod (.bin .Add (.bin .Add (.bin .Mult (.var 2) (.var 2)) (.bin .Mult (.int 7) (.var 2))) (.var 1)) (.int 2147483629)))
 .nil))
def f__law_mixed : Fn := runFn 2 3 b__law_mixed
def b__law_drawn : ISs :=
 (.cons (.set 2 (.bin .Mod (.bin .Mult (.bin .Add (.bin .Add (.var 0) (.bin .Mult (.int 104729) (.var 1))) (.int 17)) (.int 69621)) (.int 2147483647)))
 (.cons (.ret (.bin .Mod (.bin .Add (.bin .Add (.bin .Mult (.var 2) (.var 2)) (.bin .Mult (.int 3) (.var 2))) (.var 1)) (.int 2147483629)))
 .nil))
def f__law_drawn : Fn := runFn 2 3 b__law_drawn
def b__law_fr : ISs :=
 (.cons (.set 2 (.bi .abs (.cons (.var 0) .nil)))
 (.cons (.set 3 (.bi .abs (.cons (.var 1) .nil)))
 (.cons (.whl (.cmp .Gt (.var 3) (.int 0))
 (.cons (.par2 2 3 (.var 3) (.bin .Mod (.var 2) (.var 3)))
 .nil))
 (.cons (.kil [3])
 (.cons (.ife (.cmp .Lt (.var 1) (.int 0))
 (.cons (.set 2 (.bin .Sub (.int 0) (.var 2)))
 .nil)
 .nil)
 (.cons (.ret (.tup (.cons (.bin .FloorDiv (.var 0) (.var 2)) (.cons (.bin .FloorDiv (.var 1) (.var 2)) .nil))))
 .nil))))))
def f__law_fr : Fn := runFn 2 4 b__law_fr
def b__law_plus : ISs :=
 (.cons (.ret (.call "_law_fr" f__law_fr (.cons (.bin .Add (.bin .Mult (.idx (.var 0) (.int 0)) (.idx (.var 1) (.int 1))) (.bin .Mult (.idx (.var 1) (.int 0)) (.idx (.var 0) (.int 1)))) (.cons (.bin .Mult (.idx (.var 0) (.int 1)) (.idx (.var 1) (.int 1))) .nil))))
 .nil)
def f__law_plus : Fn := runFn 2 2 b__law_plus
def b__law_times : ISs :=
 (.cons (.ret (.call "_law_fr" f__law_fr (.cons (.bin .Mult (.idx (.var 0) (.int 0)) (.idx (.var 1) (.int 0))) (.cons (.bin .Mult (.idx (.var 0) (.int 1)) (.idx (.var 1) (.int 1))) .nil))))
 .nil)
def f__law_times : Fn := runFn 2 2 b__law_times
def b__law_minus : ISs :=
 (.cons (.ret (.call "_law_plus" f__law_plus (.cons (.var 0) (.cons (.tup (.cons (.bin .Sub (.int 0) (.idx (.var 1) (.int 0))) (.cons (.idx (.var 1) (.int 1)) .nil))) .nil))))
 .nil)
def f__law_minus : Fn := runFn 2 2 b__law_minus
def b__law_add : ISs :=
 (.cons (.ret (.tup (.cons (.call "_law_plus" f__law_plus (.cons (.idx (.var 0) (.int 0)) (.cons (.idx (.var 1) (.int 0)) .nil))) (.cons (.call "_law_plus" f__law_plus (.cons (.idx (.var 0) (.int 1)) (.cons (.idx (.var 1) (.int 1)) .nil))) .nil))))
 .nil)
def f__law_add : Fn := runFn 2 2 b__law_add
def b__law_sub : ISs :=
 (.cons (.ret (.tup (.cons (.call "_law_minus" f__law_minus (.cons (.idx (.var 0) (.int 0)) (.cons (.idx (.var 1) (.int 0)) .nil))) (.cons (.call "_law_minus" f__law_minus (.cons (.idx (.var 0) (.int 1)) (.cons (.idx (.var 1) (.int 1)) .nil))) .nil))))
 .nil)
def f__law_sub : Fn := runFn 2 2 b__law_sub
def b__law_scale : ISs :=
 (.cons (.ret (.tup (.cons (.call "_law_times" f__law_times (.cons (.var 0) (.cons (.idx (.var 1) (.int 0)) .nil))) (.cons (.call "_law_times" f__law_times (.cons (.var 0) (.cons (.idx (.var 1) (.int 1)) .nil))) .nil))))
 .nil)
def f__law_scale : Fn := runFn 2 2 b__law_scale
def b__law_number : ISs :=
 (.cons (.set 1 (.idx (.tup (.cons (.int 1) (.cons (.int 1) (.cons (.int 2) (.cons (.int 4) (.cons (.int 5) (.cons (.int 10) (.cons (.int 20) (.cons (.int 25) (.cons (.int 50) (.cons (.int 100) .nil))))))))))) (.bin .Mod (.var 0) (.idx (.tup (.cons (.int 2) (.cons (.int 10) .nil))) (.bin .Mod (.bin .FloorDiv (.var 0) (.int 16)) (.int 2))))))
 (.cons (.set 2 (.idx (.tup (.cons (.int 3) (.cons (.int 12) (.cons (.int 1500) .nil)))) (.bin .Mod (.bin .FloorDiv (.var 0) (.int 64)) (.int 3))))
 (.cons (.ret (.call "_law_fr" f__law_fr (.cons (.bin .Sub (.bin .Mod (.bin .FloorDiv (.var 0) (.int 256)) (.bin .Add (.bin .Mult (.int 2) (.var 2)) (.int 1))) (.var 2)) (.cons (.var 1) .nil))))
 .nil)))
def f__law_number : Fn := runFn 1 3 b__law_number
def b__law_point : ISs :=
 (.cons (.ret (.tup (.cons (.call "_law_number" f__law_number (.cons (.bin .FloorDiv (.call "_law_drawn" f__law_drawn (.cons (.var 0) (.cons (.int 1) .nil))) (.int 4)) .nil)) (.cons (.call "_law_number" f__law_number (.cons (.bin .FloorDiv (.call "_law_drawn" f__law_drawn (.cons (.var 0) (.cons (.int 2) .nil))) (.int 4)) .nil)) .nil))))
 .nil)
def f__law_point : Fn := runFn 1 1 b__law_point
def b__law_goal : ISs :=
 (.cons (.set 3 (.bin .Mod (.var 0) (.int 8)))
 (.cons (.ife (.cmp .Eq (.var 3) (.int 0))
 (.cons (.ret (.var 1))
 .nil)
 .nil)
 (.cons (.ife (.cmp .Eq (.var 3) (.int 1))
 (.cons (.ret (.var 2))
 .nil)
 .nil)
 (.cons (.set 4 (.call "_law_point" f__law_point (.cons (.bin .FloorDiv (.var 0) (.int 8)) .nil)))
 (.cons (.ife (.cmp .Eq (.var 3) (.int 2))
 (.cons (.ret (.tup (.cons (.idx (.var 1) (.int 0)) (.cons (.idx (.var 4) (.int 1)) .nil))))
 .nil)
 .nil)
 (.cons (.ife (.cmp .Eq (.var 3) (.int 3))
 (.cons (.ret (.tup (.cons (.idx (.var 4) (.int 0)) (.cons (.idx (.var 1) (.int 1)) .nil))))
 .nil)
 .nil)
 (.cons (.ret (.var 4))
 .nil)))))))
def f__law_goal : Fn := runFn 3 5 b__law_goal
def b__law_stroke : ISs :=
 (.cons (.set 4 (.bin .Mod (.var 0) (.int 8)))
 (.cons (.set 5 (.call "_law_goal" f__law_goal (.cons (.bin .FloorDiv (.var 0) (.int 8)) (.cons (.var 1) (.cons (.var 2) .nil)))))
 (.cons (.set 6 (.call "_law_point" f__law_point (.cons (.bin .FloorDiv (.var 0) (.int 64)) .nil)))
 (.cons (.set 7 (.call "_law_point" f__law_point (.cons (.bin .FloorDiv (.var 0) (.int 512)) .nil)))
 (.cons (.ife (.and (.cmp .In (.idx (.var 3) (.int 0)) (.tup (.cons (.str "bow") (.cons (.str "wave") .nil)))) (.cmp .Eq (.bin .Mod (.bin .FloorDiv (.var 0) (.int 4096)) (.int 3)) (.int 0)))
 (.cons (.set 6 (.call "_law_sub" f__law_sub (.cons (.call "_law_scale" f__law_scale (.cons (.tup (.cons (.int 2) (.cons (.int 1) .nil))) (.cons (.var 1) .nil))) (.cons (.idx (.var 3) (.neg (.int 2))) .nil))))
 .nil)
 .nil)
 (.cons (.ife (.cmp .Eq (.var 4) (.int 0))
 (.cons (.ret (.tup (.cons (.str "move") (.cons (.var 5) .nil))))
 .nil)
 .nil)
 (.cons (.ife (.cmp .Lt (.var 4) (.int 4))
 (.cons (.ret (.tup (.cons (.str "line") (.cons (.var 5) .nil))))
 .nil)
 .nil)
 (.cons (.ife (.cmp .Eq (.var 4) (.int 4))
 (.cons (.ret (.tup (.cons (.str "bow") (.cons (.var 6) (.cons (.var 5) .nil)))))
 .nil)
 .nil)
 (.cons (.ife (.cmp .Lt (.var 4) (.int 7))
 (.cons (.ret (.tup (.cons (.str "wave") (.cons (.var 6) (.cons (.var 7) (.cons (.var 5) .nil))))))
 .nil)
 .nil)
 (.cons (.ret (.tup (.cons (.str "shut") .nil)))
 .nil))))))))))
def f__law_stroke : Fn := runFn 4 8 b__law_stroke
def b__law_way : ISs :=
 (.cons (.set 2 (.tup .nil))
 (.cons (.set 3 (.tup (.cons (.tup (.cons (.int 0) (.cons (.int 1) .nil))) (.cons (.tup (.cons (.int 0) (.cons (.int 1) .nil))) .nil))))
 (.cons (.set 4 (.var 3))
 (.cons (.fr (.nm 5) (.rng1 (.bin .Mod (.var 0) (.bin .Add (.var 1) (.int 1))))
 (.cons (.set 6 (.bin .FloorDiv (.call "_law_drawn" f__law_drawn (.cons (.var 0) (.cons (.bin .Add (.int 10) (.var 5)) .nil))) (.int 4)))
 (.cons (.set 7 (.tup (.cons (.str "move") (.cons (.call "_law_point" f__law_point (.cons (.var 6) .nil)) .nil))))
 (.cons (.ife (.cmp .NotEq (.var 2) (.tup .nil))
 (.cons (.set 7 (.call "_law_stroke" f__law_stroke (.cons (.var 6) (.cons (.var 3) (.cons (.var 4) (.cons (.idx (.var 2) (.neg (.int 1))) .nil))))))
 .nil)
 .nil)
 (.cons (.set 2 (.bin .Add (.var 2) (.tup (.cons (.var 7) .nil))))
 (.cons (.ife (.cmp .Eq (.idx (.var 7) (.int 0)) (.str "move"))
 (.cons (.set 4 (.idx (.var 7) (.int 1)))
 .nil)
 .nil)
 (.cons (.set 3 (.var 4))
 (.cons (.ife (.cmp .NotEq (.idx (.var 7) (.int 0)) (.str "shut"))
 (.cons (.set 3 (.idx (.var 7) (.neg (.int 1))))
 .nil)
 .nil)
 (.cons (.kil [5, 6, 7])
 .nil)))))))))
 (.cons (.kil [3, 4, 5, 6, 7])
 (.cons (.ret (.var 2))
 .nil))))))
def f__law_way : Fn := runFn 2 8 b__law_way
def b__law_pens : ISs :=
 (.cons (.new 1 (.cons (.tup (.cons (.tup (.cons (.int 0) (.cons (.int 1) .nil))) (.cons (.tup (.cons (.int 0) (.cons (.int 1) .nil))) .nil))) .nil))
 (.cons (.set 2 (.idxO 1 (.int 0)))
 (.cons (.fr (.nm 3) (.seq (.var 0))
 (.cons (.ife (.cmp .Eq (.idx (.var 3) (.int 0)) (.str "move"))
 (.cons (.set 2 (.idx (.var 3) (.int 1)))
 .nil)
 .nil)
 (.cons (.app 1 (.idx (.bin .Add (.var 3) (.tup (.cons (.var 2) .nil))) (.bin .Sub (.bi .len (.cons (.var 3) .nil)) (.bi .int (.cons (.cmp .NotEq (.idx (.var 3) (.int 0)) (.str "shut")) .nil)))))
 (.cons (.kil [3])
 .nil))))
 (.cons (.kil [2, 3])
 (.cons (.frz 1)
 (.cons (.ret (.var 1))
 .nil))))))
def f__law_pens : Fn := runFn 1 4 b__law_pens
def b_pens : ISs :=
 (.cons (.new 1 .nil)
 (.cons (.set 2 (.glo "BEGIN" g_BEGIN))
 (.cons (.set 3 (.glo "BEGIN" g_BEGIN))
 (.cons (.fr (.nm 4) (.seq (.var 0))
 (.cons (.app 1 (.var 2))
 (.cons (.ife (.cmp .Eq (.idx (.var 4) (.int 0)) (.glo "MOVE" g_MOVE))
 (.cons (.set 3 (.idx (.var 4) (.int 1)))
 .nil)
 .nil)
 (.cons (.ife (.cmp .Eq (.idx (.var 4) (.int 0)) (.glo "SHUT" g_SHUT))
 (.cons (.set 2 (.var 3))
 .nil)
 (.cons (.set 2 (.idx (.var 4) (.neg (.int 1))))
 .nil))
 (.cons (.kil [4])
 .nil)))))
 (.cons (.kil [3, 4])
 (.cons (.app 1 (.var 2))
 (.cons (.frz 1)
 (.cons (.ret (.bi .tuple (.cons (.var 1) .nil)))
 .nil))))))))
def f_pens : Fn := runFn 1 5 b_pens
def b_begins : ISs :=
 (.cons (.new 1 .nil)
 (.cons (.set 2 (.glo "BEGIN" g_BEGIN))
 (.cons (.fr (.nm 3) (.seq (.var 0))
 (.cons (.ife (.cmp .Eq (.idx (.var 3) (.int 0)) (.glo "MOVE" g_MOVE))
 (.cons (.set 2 (.idx (.var 3) (.int 1)))
 .nil)
 .nil)
 (.cons (.app 1 (.var 2))
 (.cons (.kil [3])
 .nil))))
 (.cons (.kil [2, 3])
 (.cons (.frz 1)
 (.cons (.ret (.bi .tuple (.cons (.var 1) .nil)))
 .nil))))))
def f_begins : Fn := runFn 1 4 b_begins
def b_parts : ISs :=
 (.cons (.new 1 .nil)
 (.cons (.set 2 (.tup .nil))
 (.cons (.fr (.tu (.cons (.nm 3) (.cons (.nm 4) .nil))) (.zip (.var 0) (.call "begins" f_begins (.cons (.var 0) .nil)))
 (.cons (.ife (.cmp .Eq (.idx (.var 3) (.int 0)) (.glo "MOVE" g_MOVE))
 (.cons (.app 1 (.var 2))
 (.cons (.set 2 (.tup (.cons (.var 3) .nil)))
 .nil))
 (.cons (.ife (.cmp .Eq (.bi .len (.cons (.var 2) .nil)) (.int 0))
 (.cons (.set 2 (.tup (.cons (.tup (.cons (.glo "MOVE" g_MOVE) (.cons (.var 4) .nil))) .nil)))
 .nil)
 .nil)
 (.cons (.set 2 (.bin .Add (.var 2) (.tup (.cons (.var 3) .nil))))
 .nil)))
 (.cons (.ife (.cmp .Eq (.idx (.var 3) (.int 0)) (.glo "SHUT" g_SHUT))
 (.cons (.app 1 (.var 2))
 (.cons (.set 2 (.tup .nil))
 .nil))
 .nil)
 (.cons (.kil [3, 4])
 .nil))))
 (.cons (.kil [3, 4])
 (.cons (.app 1 (.var 2))
 (.cons (.frz 1)
 (.cons (.ret (.bi .tuple (.cons (.lc [("part", 5)] (.nm 5) (.seq (.var 1)) (.some (.cmp .Gt (.bi .len (.cons (.var 5) .nil)) (.int 1))) (.var 5)) .nil)))
 .nil)))))))
def f_parts : Fn := runFn 1 6 b_parts
def b_plus : ISs :=
 (.cons (.ret (.call "fraction" f_fraction (.cons (.bin .Add (.bin .Mult (.idx (.var 0) (.int 0)) (.idx (.var 1) (.int 1))) (.bin .Mult (.idx (.var 1) (.int 0)) (.idx (.var 0) (.int 1)))) (.cons (.bin .Mult (.idx (.var 0) (.int 1)) (.idx (.var 1) (.int 1))) .nil))))
 .nil)
def f_plus : Fn := runFn 2 2 b_plus
def b_minus : ISs :=
 (.cons (.ret (.call "fraction" f_fraction (.cons (.bin .Sub (.bin .Mult (.idx (.var 0) (.int 0)) (.idx (.var 1) (.int 1))) (.bin .Mult (.idx (.var 1) (.int 0)) (.idx (.var 0) (.int 1)))) (.cons (.bin .Mult (.idx (.var 0) (.int 1)) (.idx (.var 1) (.int 1))) .nil))))
 .nil)
def f_minus : Fn := runFn 2 2 b_minus
def b_moved : ISs :=
 (.cons (.ret (.tup (.cons (.call "plus" f_plus (.cons (.idx (.var 0) (.int 0)) (.cons (.idx (.var 1) (.int 0)) .nil))) (.cons (.call "plus" f_plus (.cons (.idx (.var 0) (.int 1)) (.cons (.idx (.var 1) (.int 1)) .nil))) .nil))))
 .nil)
def f_moved : Fn := runFn 2 2 b_moved
def b_apart : ISs :=
 (.cons (.ret (.tup (.cons (.call "minus" f_minus (.cons (.idx (.var 0) (.int 0)) (.cons (.idx (.var 1) (.int 0)) .nil))) (.cons (.call "minus" f_minus (.cons (.idx (.var 0) (.int 1)) (.cons (.idx (.var 1) (.int 1)) .nil))) .nil))))
 .nil)
def f_apart : Fn := runFn 2 2 b_apart
def b_need : ISs :=
 (.cons (.ife (.not (.var 0))
 (.cons (.rse "NoText")
 .nil)
 .nil)
 .nil)
def f_need : Fn := runFn 1 1 b_need
def b_mirrored : ISs :=
 (.cons (.ife (.cmp .NotEq (.idx (.var 1) (.int 0)) (.var 2))
 (.cons (.ret (.var 0))
 .nil)
 .nil)
 (.cons (.ret (.call "moved" f_moved (.cons (.var 0) (.cons (.call "apart" f_apart (.cons (.var 0) (.cons (.idx (.var 1) (.neg (.int 2))) .nil))) .nil))))
 .nil))
def f_mirrored : Fn := runFn 3 3 b_mirrored
def b_hundredths : ISs :=
 (.cons (.ife (.cmp .NotEq (.bin .Mod (.glo "HUNDRED" g_HUNDRED) (.idx (.var 0) (.int 1))) (.int 0))
 (.cons (.ret .non)
 .nil)
 .nil)
 (.cons (.set 1 (.bin .Mult (.idx (.var 0) (.int 0)) (.bin .FloorDiv (.glo "HUNDRED" g_HUNDRED) (.idx (.var 0) (.int 1)))))
 (.cons (.ife (.cmp .GtE (.bi .abs (.cons (.var 1) .nil)) (.glo "BOUND" g_BOUND))
 (.cons (.ret .non)
 .nil)
 .nil)
 (.cons (.ret (.var 1))
 .nil))))
def f_hundredths : Fn := runFn 1 2 b_hundredths
def b_plain_text : ISs :=
 (.cons (.set 1 (.bin .Mult (.str "-") (.bi .int (.cons (.cmp .Lt (.var 0) (.int 0)) .nil))))
 (.cons (.set 0 (.bi .abs (.cons (.var 0) .nil)))
 (.cons (.set 2 (.bin .Add (.var 1) (.bi .str (.cons (.bin .FloorDiv (.var 0) (.glo "HUNDRED" g_HUNDRED)) .nil))))
 (.cons (.set 3 (.bin .Mod (.var 0) (.glo "HUNDRED" g_HUNDRED)))
 (.cons (.ife (.cmp .Eq (.var 3) (.int 0))
 (.cons (.ret (.var 2))
 .nil)
 .nil)
 (.cons (.ife (.cmp .Eq (.bin .Mod (.var 3) (.int 10)) (.int 0))
 (.cons (.ret (.bin .Add (.bin .Add (.var 2) (.glo "POINT" g_POINT)) (.bi .str (.cons (.bin .FloorDiv (.var 3) (.int 10)) .nil))))
 .nil)
 .nil)
 (.cons (.ret (.bin .Add (.bin .Add (.bin .Add (.var 2) (.glo "POINT" g_POINT)) (.bi .str (.cons (.bin .FloorDiv (.var 3) (.int 10)) .nil))) (.bi .str (.cons (.bin .Mod (.var 3) (.int 10)) .nil))))
 .nil)))))))
def f_plain_text : Fn := runFn 1 4 b_plain_text
def b_number_text : ISs :=
 (.cons (.set 1 (.call "hundredths" f_hundredths (.cons (.var 0) .nil)))
 (.cons (.ife (.cmp .Is (.var 1) .non)
 (.cons (.rse "NoNumber")
 .nil)
 .nil)
 (.cons (.ret (.call "plain_text" f_plain_text (.cons (.var 1) .nil)))
 .nil)))
def f_number_text : Fn := runFn 1 2 b_number_text
def b_flat_numbers : ISs :=
 (.cons (.new 1 .nil)
 (.cons (.fr (.tu (.cons (.nm 2) (.cons (.nm 3) .nil))) (.seq (.var 0))
 (.cons (.ext 1 (.lst (.cons (.var 2) (.cons (.var 3) .nil))))
 (.cons (.kil [2, 3])
 .nil)))
 (.cons (.kil [2, 3])
 (.cons (.frz 1)
 (.cons (.ret (.var 1))
 .nil)))))
def f_flat_numbers : Fn := runFn 1 4 b_flat_numbers
def b_has_point : ISs :=
 (.cons (.ret (.cmp .In (.glo "POINT" g_POINT) (.var 0)))
 .nil)
def f_has_point : Fn := runFn 1 1 b_has_point
def b_keep : ISs :=
 (.cons (.set 3 (.tup (.cons (.cmp .Eq (.var 1) (.str "")) (.cons (.call "has_point" f_has_point (.cons (.var 1) .nil)) .nil))))
 (.cons (.frz 0)
 (.cons (.ife (.or (.cmp .NotIn (.var 3) (.var 0)) (.cmp .Lt (.bi .len (.cons (.var 2) .nil)) (.bi .len (.cons (.idx (.idxO 0 (.var 3)) (.int 1)) .nil))))
 (.cons (.put 0 (.var 3) (.tup (.cons (.var 1) (.cons (.var 2) .nil))))
 .nil)
 .nil)
 .nil)))
def f_keep : Fn := runFn 3 4 b_keep
def b_times : ISs :=
 (.cons (.ret (.call "fraction" f_fraction (.cons (.bin .Mult (.idx (.var 0) (.int 0)) (.idx (.var 1) (.int 0))) (.cons (.bin .Mult (.idx (.var 0) (.int 1)) (.idx (.var 1) (.int 1))) .nil))))
 .nil)
def f_times : Fn := runFn 2 2 b_times
def b_led : ISs :=
 (.cons (.tset (.cons (.nm 2) (.cons (.nm 3) (.cons (.nm 4) (.cons (.nm 5) (.cons (.nm 6) (.cons (.nm 7) .nil)))))) (.var 1))
 (.cons (.tset (.cons (.nm 8) (.cons (.nm 9) .nil)) (.var 0))
 (.cons (.set 10 (.call "plus" f_plus (.cons (.call "plus" f_plus (.cons (.call "times" f_times (.cons (.var 2) (.cons (.var 8) .nil))) (.cons (.call "times" f_times (.cons (.var 4) (.cons (.var 9) .nil))) .nil))) (.cons (.var 6) .nil))))
 (.cons (.ret (.tup (.cons (.var 10) (.cons (.call "plus" f_plus (.cons (.call "plus" f_plus (.cons (.call "times" f_times (.cons (.var 3) (.cons (.var 8) .nil))) (.cons (.call "times" f_times (.cons (.var 5) (.cons (.var 9) .nil))) .nil))) (.cons (.var 7) .nil))) .nil))))
 .nil))))
def f_led : Fn := runFn 2 11 b_led
def b_mapped : ISs :=
 (.cons (.ret (.bi .tuple (.cons (.lc [("stroke", 2)] (.nm 2) (.seq (.var 0)) .none (.bin .Add (.slc (.var 2) .none (.some (.int 1))) (.bi .tuple (.cons (.lc [("point", 3)] (.nm 3) (.seq (.slc (.var 2) (.some (.int 1)) .none)) .none (.call "led" f_led (.cons (.var 3) (.cons (.var 1) .nil)))) .nil)))) .nil)))
 .nil)
def f_mapped : Fn := runFn 2 4 b_mapped
def b_joined : ISs :=
 (.cons (.ret (.bin .Add (.var 0) (.var 1)))
 .nil)
def f_joined : Fn := runFn 2 2 b_joined
def b_scaled : ISs :=
 (.cons (.ret (.tup (.cons (.call "times" f_times (.cons (.var 0) (.cons (.idx (.var 1) (.int 0)) .nil))) (.cons (.call "times" f_times (.cons (.var 0) (.cons (.idx (.var 1) (.int 1)) .nil))) .nil))))
 .nil)
def f_scaled : Fn := runFn 2 2 b_scaled
def b_between : ISs :=
 (.cons (.ret (.call "moved" f_moved (.cons (.var 0) (.cons (.call "scaled" f_scaled (.cons (.var 2) (.cons (.call "apart" f_apart (.cons (.var 1) (.cons (.var 0) .nil))) .nil))) .nil))))
 .nil)
def f_between : Fn := runFn 3 3 b_between
def b_corner_points : ISs :=
 (.cons (.set 2 (.idx (.var 0) (.var 1)))
 (.cons (.ife (.cmp .Eq (.idx (.var 2) (.int 0)) (.glo "MOVE" g_MOVE))
 (.cons (.ret (.tup (.cons (.idx (.var 2) (.int 1)) .nil)))
 .nil)
 .nil)
 (.cons (.set 3 (.idx (.call "pens" f_pens (.cons (.var 0) .nil)) (.var 1)))
 (.cons (.ife (.cmp .Eq (.idx (.var 2) (.int 0)) (.glo "SHUT" g_SHUT))
 (.cons (.ret (.tup (.cons (.var 3) (.cons (.idx (.call "begins" f_begins (.cons (.var 0) .nil)) (.var 1)) .nil))))
 .nil)
 .nil)
 (.cons (.ret (.bin .Add (.tup (.cons (.var 3) .nil)) (.slc (.var 2) (.some (.int 1)) .none)))
 .nil)))))
def f_corner_points : Fn := runFn 2 4 b_corner_points
def b_halved : ISs :=
 (.cons (.ret (.bi .tuple (.cons (.lc [("one", 2), ("other", 3)] (.tu (.cons (.nm 2) (.cons (.nm 3) .nil))) (.zip (.slc (.var 0) .none (.some (.neg (.int 1)))) (.slc (.var 0) (.some (.int 1)) .none)) .none (.call "between" f_between (.cons (.var 2) (.cons (.var 3) (.cons (.var 1) .nil))))) .nil)))
 .nil)
def f_halved : Fn := runFn 2 4 b_halved
def b_point_of : ISs :=
 (.cons (.whl (.cmp .Gt (.bi .len (.cons (.var 0) .nil)) (.int 1))
 (.cons (.set 0 (.call "halved" f_halved (.cons (.var 0) (.cons (.var 1) .nil))))
 .nil))
 (.cons (.ret (.idx (.var 0) (.int 0)))
 .nil))
def f_point_of : Fn := runFn 2 2 b_point_of
def b_must_be : ISs :=
 (.cons (.ife (.not (.chn .LtE .Lt (.int 0) (.var 1) (.bi .len (.cons (.var 0) .nil))))
 (.cons (.rse "NoStroke")
 .nil)
 .nil)
 .nil)
def f_must_be : Fn := runFn 2 2 b_must_be
def b_spot : ISs :=
 (.cons (.exp (.call "must_be" f_must_be (.cons (.var 0) (.cons (.var 1) .nil))))
 (.cons (.ret (.call "point_of" f_point_of (.cons (.call "corner_points" f_corner_points (.cons (.var 0) (.cons (.var 1) .nil))) (.cons (.var 2) .nil))))
 .nil))
def f_spot : Fn := runFn 3 3 b_spot
def b_split : ISs :=
 (.cons (.exp (.call "must_be" f_must_be (.cons (.var 0) (.cons (.var 1) .nil))))
 (.cons (.set 3 (.idx (.var 0) (.var 1)))
 (.cons (.ife (.cmp .Eq (.idx (.var 3) (.int 0)) (.glo "MOVE" g_MOVE))
 (.cons (.rse "NoStroke")
 .nil)
 .nil)
 (.cons (.set 4 (.call "corner_points" f_corner_points (.cons (.var 0) (.cons (.var 1) .nil))))
 (.cons (.set 5 (.tup .nil))
 (.cons (.set 6 (.tup .nil))
 (.cons (.whl (.cmp .Gt (.bi .len (.cons (.var 4) .nil)) (.int 1))
 (.cons (.set 6 (.bin .Add (.slc (.var 4) (.some (.neg (.int 1))) .none) (.var 6)))
 (.cons (.set 4 (.call "halved" f_halved (.cons (.var 4) (.cons (.var 2) .nil))))
 (.cons (.set 5 (.bin .Add (.var 5) (.slc (.var 4) .none (.some (.int 1)))))
 .nil))))
 (.cons (.kil [4])
 (.cons (.ife (.cmp .Eq (.idx (.var 3) (.int 0)) (.glo "SHUT" g_SHUT))
 (.cons (.ret (.bin .Add (.bin .Add (.slc (.var 0) .none (.some (.var 1))) (.tup (.cons (.bin .Add (.tup (.cons (.glo "LINE" g_LINE) .nil)) (.var 5)) (.cons (.var 3) .nil)))) (.slc (.var 0) (.some (.bin .Add (.var 1) (.int 1))) .none)))
 .nil)
 .nil)
 (.cons (.ret (.bin .Add (.bin .Add (.slc (.var 0) .none (.some (.var 1))) (.tup (.cons (.bin .Add (.tup (.cons (.idx (.var 3) (.int 0)) .nil)) (.var 5)) (.cons (.bin .Add (.tup (.cons (.idx (.var 3) (.int 0)) .nil)) (.var 6)) .nil)))) (.slc (.var 0) (.some (.bin .Add (.var 1) (.int 1))) .none)))
 .nil))))))))))
def f_split : Fn := runFn 3 7 b_split
def b__law_spot : ISs :=
 (.cons (.set 3 (.idx (.var 0) (.var 1)))
 (.cons (.ife (.cmp .Eq (.idx (.var 3) (.int 0)) (.str "move"))
 (.cons (.ret (.idx (.var 3) (.int 1)))
 .nil)
 .nil)
 (.cons (.set 4 (.idx (.call "_law_pens" f__law_pens (.cons (.var 0) .nil)) (.var 1)))
 (.cons (.owa 5 (.lst (.cons (.var 4) .nil)) (.bi .list (.cons (.slc (.var 3) (.some (.int 1)) .none) .nil)))
 (.cons (.ife (.cmp .Eq (.idx (.var 3) (.int 0)) (.str "shut"))
 (.cons (.app 5 (.idx (.call "_law_pens" f__law_pens (.cons (.slc (.var 0) .none (.some (.bin .Add (.var 1) (.int 1)))) .nil)) (.neg (.int 1))))
 .nil)
 .nil)
 (.cons (.set 6 (.call "_law_minus" f__law_minus (.cons (.tup (.cons (.int 1) (.cons (.int 1) .nil))) (.cons (.var 2) .nil))))
 (.cons (.set 7 (.dix [.inl 2, .inl 3, .inl 4] (.cons (.tup (.cons (.int 1) (.cons (.int 1) .nil))) (.cons (.tup (.cons (.int 1) (.cons (.int 2) (.cons (.int 1) .nil)))) (.cons (.tup (.cons (.int 1) (.cons (.int 3) (.cons (.int 3) (.cons (.int 1) .nil))))) .nil))) (.lenO 5)))
 (.cons (.set 8 (.tup (.cons (.tup (.cons (.int 0) (.cons (.int 1) .nil))) (.cons (.tup (.cons (.int 0) (.cons (.int 1) .nil))) .nil))))
 (.cons (.frz 5)
 (.cons (.fr (.tu (.cons (.nm 9) (.cons (.nm 10) .nil))) (.enu (.var 5))
 (.cons (.set 11 (.tup (.cons (.idx (.var 7) (.var 9)) (.cons (.int 1) .nil))))
 (.cons (.fr (.nm 12) (.rng1 (.var 9))
 (.cons (.set 11 (.call "_law_times" f__law_times (.cons (.var 11) (.cons (.var 2) .nil))))
 (.cons (.kil [12])
 .nil)))
 (.cons (.kil [12])
 (.cons (.fr (.nm 12) (.rng1 (.bin .Sub (.bin .Sub (.lenO 5) (.int 1)) (.var 9)))
 (.cons (.set 11 (.call "_law_times" f__law_times (.cons (.var 11) (.cons (.var 6) .nil))))
 (.cons (.kil [12])
 .nil)))
 (.cons (.kil [12])
 (.cons (.set 8 (.call "_law_add" f__law_add (.cons (.var 8) (.cons (.call "_law_scale" f__law_scale (.cons (.var 11) (.cons (.var 10) .nil))) .nil))))
 (.cons (.kil [9, 10, 11, 12])
 .nil))))))))
 (.cons (.kil [9, 10, 11, 12])
 (.cons (.ret (.var 8))
 .nil))))))))))))
def f__law_spot : Fn := runFn 3 13 b__law_spot
def b_is_less : ISs :=
 (.cons (.ret (.cmp .Lt (.bin .Mult (.idx (.var 0) (.int 0)) (.idx (.var 1) (.int 1))) (.bin .Mult (.idx (.var 1) (.int 0)) (.idx (.var 0) (.int 1)))))
 .nil)
def f_is_less : Fn := runFn 2 2 b_is_less
def b_cross : ISs :=
 (.cons (.ret (.call "minus" f_minus (.cons (.call "times" f_times (.cons (.idx (.var 0) (.int 0)) (.cons (.idx (.var 1) (.int 1)) .nil))) (.cons (.call "times" f_times (.cons (.idx (.var 0) (.int 1)) (.cons (.idx (.var 1) (.int 0)) .nil))) .nil))))
 .nil)
def f_cross : Fn := runFn 2 2 b_cross
def b_least_of : ISs :=
 (.cons (.set 1 (.idx (.var 0) (.int 0)))
 (.cons (.fr (.nm 2) (.seq (.var 0))
 (.cons (.ife (.call "is_less" f_is_less (.cons (.var 2) (.cons (.var 1) .nil)))
 (.cons (.set 1 (.var 2))
 .nil)
 .nil)
 (.cons (.kil [2])
 .nil)))
 (.cons (.kil [2])
 (.cons (.ret (.var 1))
 .nil))))
def f_least_of : Fn := runFn 1 3 b_least_of
def b_greatest_of : ISs :=
 (.cons (.set 1 (.idx (.var 0) (.int 0)))
 (.cons (.fr (.nm 2) (.seq (.var 0))
 (.cons (.ife (.call "is_less" f_is_less (.cons (.var 1) (.cons (.var 2) .nil)))
 (.cons (.set 1 (.var 2))
 .nil)
 .nil)
 (.cons (.kil [2])
 .nil)))
 (.cons (.kil [2])
 (.cons (.ret (.var 1))
 .nil))))
def f_greatest_of : Fn := runFn 1 3 b_greatest_of
def b_box_of : ISs :=
 (.cons (.ife (.cmp .Eq (.bi .len (.cons (.var 0) .nil)) (.int 0))
 (.cons (.ret .non)
 .nil)
 .nil)
 (.cons (.set 1 (.lc [("point", 2)] (.nm 2) (.seq (.var 0)) .none (.idx (.var 2) (.int 0))))
 (.cons (.set 3 (.lc [("point", 2)] (.nm 2) (.seq (.var 0)) .none (.idx (.var 2) (.int 1))))
 (.cons (.ret (.tup (.cons (.tup (.cons (.call "least_of" f_least_of (.cons (.var 1) .nil)) (.cons (.call "least_of" f_least_of (.cons (.var 3) .nil)) .nil))) (.cons (.tup (.cons (.call "greatest_of" f_greatest_of (.cons (.var 1) .nil)) (.cons (.call "greatest_of" f_greatest_of (.cons (.var 3) .nil)) .nil))) .nil))))
 .nil))))
def f_box_of : Fn := runFn 1 4 b_box_of
def b_hull_box : ISs :=
 (.cons (.new 1 .nil)
 (.cons (.fr (.nm 2) (.seq (.var 0))
 (.cons (.ext 1 (.bi .list (.cons (.slc (.var 2) (.some (.int 1)) .none) .nil)))
 (.cons (.kil [2])
 .nil)))
 (.cons (.kil [2])
 (.cons (.frz 1)
 (.cons (.ret (.call "box_of" f_box_of (.cons (.var 1) .nil)))
 .nil)))))
def f_hull_box : Fn := runFn 1 3 b_hull_box
def b_swept : ISs :=
 (.cons (.set 1 (.idx (.var 0) (.int 0)))
 (.cons (.set 2 (.idx (.var 0) (.neg (.int 1))))
 (.cons (.ife (.cmp .Eq (.bi .len (.cons (.var 0) .nil)) (.int 3))
 (.cons (.set 3 (.call "plus" f_plus (.cons (.call "times" f_times (.cons (.tup (.cons (.int 2) (.cons (.int 1) .nil))) (.cons (.call "plus" f_plus (.cons (.call "cross" f_cross (.cons (.var 1) (.cons (.idx (.var 0) (.int 1)) .nil))) (.cons (.call "cross" f_cross (.cons (.idx (.var 0) (.int 1)) (.cons (.var 2) .nil))) .nil))) .nil))) (.cons (.call "cross" f_cross (.cons (.var 1) (.cons (.var 2) .nil))) .nil))))
 (.cons (.ret (.call "times" f_times (.cons (.var 3) (.cons (.tup (.cons (.int 1) (.cons (.int 6) .nil))) .nil))))
 .nil))
 .nil)
 (.cons (.ife (.cmp .Eq (.bi .len (.cons (.var 0) .nil)) (.int 4))
 (.cons (.tset (.cons (.nm 6) (.cons (.nm 7) .nil)) (.slc (.var 0) (.some (.int 1)) (.some (.int 3))))
 (.cons (.set 4 (.call "plus" f_plus (.cons (.call "cross" f_cross (.cons (.var 1) (.cons (.var 6) .nil))) (.cons (.call "cross" f_cross (.cons (.var 7) (.cons (.var 2) .nil))) .nil))))
 (.cons (.set 5 (.call "plus" f_plus (.cons (.call "plus" f_plus (.cons (.call "cross" f_cross (.cons (.var 1) (.cons (.var 7) .nil))) (.cons (.call "cross" f_cross (.cons (.var 6) (.cons (.var 7) .nil))) .nil))) (.cons (.call "cross" f_cross (.cons (.var 6) (.cons (.var 2) .nil))) .nil))))
 (.cons (.set 3 (.call "plus" f_plus (.cons (.call "plus" f_plus (.cons (.call "times" f_times (.cons (.tup (.cons (.int 6) (.cons (.int 1) .nil))) (.cons (.var 4) .nil))) (.cons (.call "times" f_times (.cons (.tup (.cons (.int 3) (.cons (.int 1) .nil))) (.cons (.var 5) .nil))) .nil))) (.cons (.call "cross" f_cross (.cons (.var 1) (.cons (.var 2) .nil))) .nil))))
 (.cons (.ret (.call "times" f_times (.cons (.var 3) (.cons (.tup (.cons (.int 1) (.cons (.int 20) .nil))) .nil))))
 .nil)))))
 .nil)
 (.cons (.ret (.call "times" f_times (.cons (.call "cross" f_cross (.cons (.var 1) (.cons (.var 2) .nil))) (.cons (.tup (.cons (.int 1) (.cons (.int 2) .nil))) .nil))))
 .nil)))))
def f_swept : Fn := runFn 1 8 b_swept
def b_closed_lines : ISs :=
 (.cons (.set 1 (.lc [("number", 2)] (.nm 2) (.rng2 (.int 1) (.bi .len (.cons (.var 0) .nil))) .none (.call "corner_points" f_corner_points (.cons (.var 0) (.cons (.var 2) .nil)))))
 (.cons (.ret (.bin .Add (.var 1) (.lst (.cons (.tup (.cons (.idx (.call "pens" f_pens (.cons (.var 0) .nil)) (.neg (.int 1))) (.cons (.idx (.idx (.var 0) (.int 0)) (.int 1)) .nil))) .nil))))
 .nil))
def f_closed_lines : Fn := runFn 1 3 b_closed_lines
def b_area : ISs :=
 (.cons (.set 1 (.glo "NONE" g_NONE))
 (.cons (.fr (.nm 2) (.seq (.call "parts" f_parts (.cons (.var 0) .nil)))
 (.cons (.fr (.nm 3) (.seq (.call "closed_lines" f_closed_lines (.cons (.var 2) .nil)))
 (.cons (.set 1 (.call "plus" f_plus (.cons (.var 1) (.cons (.call "swept" f_swept (.cons (.var 3) .nil)) .nil))))
 (.cons (.kil [3])
 .nil)))
 (.cons (.kil [3])
 (.cons (.kil [2, 3])
 .nil))))
 (.cons (.kil [2, 3])
 (.cons (.ret (.var 1))
 .nil))))
def f_area : Fn := runFn 1 4 b_area
def b_plainer : ISs :=
 (.cons (.ife (.cmp .Eq (.idx (.var 0) (.int 0)) (.glo "WAVE" g_WAVE))
 (.cons (.set 2 (.call "apart" f_apart (.cons (.call "scaled" f_scaled (.cons (.glo "THREE" g_THREE) (.cons (.idx (.var 0) (.int 1)) .nil))) (.cons (.var 1) .nil))))
 (.cons (.ife (.cmp .Eq (.var 2) (.call "apart" f_apart (.cons (.call "scaled" f_scaled (.cons (.glo "THREE" g_THREE) (.cons (.idx (.var 0) (.int 2)) .nil))) (.cons (.idx (.var 0) (.int 3)) .nil))))
 (.cons (.set 0 (.tup (.cons (.glo "BOW" g_BOW) (.cons (.call "scaled" f_scaled (.cons (.glo "HALF" g_HALF) (.cons (.var 2) .nil))) (.cons (.idx (.var 0) (.int 3)) .nil)))))
 .nil)
 .nil)
 .nil))
 .nil)
 (.cons (.ife (.and (.cmp .Eq (.idx (.var 0) (.int 0)) (.glo "BOW" g_BOW)) (.cmp .Eq (.idx (.var 0) (.int 1)) (.call "between" f_between (.cons (.var 1) (.cons (.idx (.var 0) (.int 2)) (.cons (.glo "HALF" g_HALF) .nil))))))
 (.cons (.set 0 (.tup (.cons (.glo "LINE" g_LINE) (.cons (.idx (.var 0) (.int 2)) .nil))))
 .nil)
 .nil)
 (.cons (.ret (.var 0))
 .nil)))
def f_plainer : Fn := runFn 2 3 b_plainer
def b_goes_on : ISs :=
 (.cons (.set 3 (.call "apart" f_apart (.cons (.var 1) (.cons (.var 0) .nil))))
 (.cons (.set 4 (.call "apart" f_apart (.cons (.var 2) (.cons (.var 1) .nil))))
 (.cons (.set 5 (.call "plus" f_plus (.cons (.call "times" f_times (.cons (.idx (.var 3) (.int 0)) (.cons (.idx (.var 4) (.int 0)) .nil))) (.cons (.call "times" f_times (.cons (.idx (.var 3) (.int 1)) (.cons (.idx (.var 4) (.int 1)) .nil))) .nil))))
 (.cons (.ret (.and (.cmp .Eq (.call "cross" f_cross (.cons (.var 3) (.cons (.var 4) .nil))) (.glo "NONE" g_NONE)) (.call "is_less" f_is_less (.cons (.glo "NONE" g_NONE) (.cons (.var 5) .nil)))))
 .nil))))
def f_goes_on : Fn := runFn 3 6 b_goes_on
def b_formed : ISs :=
 (.cons (.new 1 .nil)
 (.cons (.fr (.tu (.cons (.nm 2) (.cons (.nm 3) .nil))) (.seq (.slc (.zipl (.var 0) (.call "pens" f_pens (.cons (.var 0) .nil))) (.some (.int 1)) .none))
 (.cons (.set 2 (.call "plainer" f_plainer (.cons (.var 2) (.cons (.var 3) .nil))))
 (.cons (.ife (.cmp .NotEq (.var 2) (.tup (.cons (.glo "LINE" g_LINE) (.cons (.var 3) .nil))))
 (.cons (.set 4 (.tup (.cons .non (.cons .non .nil))))
 (.cons (.ife (.cmp .Gt (.lenO 1) (.int 0))
 (.cons (.set 4 (.idxO 1 (.neg (.int 1))))
 .nil)
 .nil)
 (.cons (.ife (.and (.cmp .Eq (.idx (.var 2) (.int 0)) (.glo "LINE" g_LINE)) (.and (.cmp .IsNot (.idx (.var 4) (.int 0)) .non) (.cmp .Eq (.idx (.idx (.var 4) (.int 0)) (.int 0)) (.glo "LINE" g_LINE))))
 (.cons (.ife (.call "goes_on" f_goes_on (.cons (.idx (.var 4) (.int 1)) (.cons (.var 3) (.cons (.idx (.var 2) (.int 1)) .nil))))
 (.cons (.set 3 (.idx (.var 4) (.int 1)))
 (.cons (.pop 1)
 .nil))
 .nil)
 .nil)
 .nil)
 (.cons (.app 1 (.tup (.cons (.var 2) (.cons (.var 3) .nil))))
 .nil))))
 .nil)
 (.cons (.kil [2, 3, 4])
 .nil))))
 (.cons (.kil [2, 3, 4])
 (.cons (.frz 1)
 (.cons (.ret (.lc [("stroke", 2), ("pen", 3)] (.tu (.cons (.nm 2) (.cons (.nm 3) .nil))) (.seq (.var 1)) .none (.var 2)))
 .nil)))))
def f_formed : Fn := runFn 1 5 b_formed
def b_is_closed_by_shut : ISs :=
 (.cons (.ife (.or (.cmp .NotEq (.idx (.idx (.var 0) (.neg (.int 1))) (.int 0)) (.glo "SHUT" g_SHUT)) (.cmp .NotEq (.idx (.idx (.var 0) (.neg (.int 2))) (.int 0)) (.glo "LINE" g_LINE)))
 (.cons (.ret (.bl false))
 .nil)
 .nil)
 (.cons (.set 1 (.idx (.idx (.var 0) (.int 0)) (.int 1)))
 (.cons (.set 2 (.idx (.idx (.var 0) (.neg (.int 2))) (.int 1)))
 (.cons (.ret (.or (.cmp .Eq (.var 2) (.var 1)) (.call "goes_on" f_goes_on (.cons (.idx (.call "pens" f_pens (.cons (.var 0) .nil)) (.neg (.int 3))) (.cons (.var 2) (.cons (.var 1) .nil))))))
 .nil))))
def f_is_closed_by_shut : Fn := runFn 1 3 b_is_closed_by_shut
def b_form_of_part : ISs :=
 (.cons (.set 1 (.call "formed" f_formed (.cons (.var 0) .nil)))
 (.cons (.whl (.call "is_closed_by_shut" f_is_closed_by_shut (.cons (.bin .Add (.slc (.var 0) .none (.some (.int 1))) (.bi .tuple (.cons (.var 1) .nil))) .nil))
 (.cons (.set 1 (.bin .Add (.slc (.var 1) .none (.some (.neg (.int 2)))) (.slc (.var 1) (.some (.neg (.int 1))) .none)))
 .nil))
 (.cons (.ife (.cmp .In (.var 1) (.tup (.cons (.lst .nil) (.cons (.lst (.cons (.tup (.cons (.glo "SHUT" g_SHUT) .nil)) .nil)) .nil))))
 (.cons (.ret (.tup .nil))
 .nil)
 .nil)
 (.cons (.ret (.bin .Add (.slc (.var 0) .none (.some (.int 1))) (.bi .tuple (.cons (.var 1) .nil))))
 .nil))))
def f_form_of_part : Fn := runFn 1 2 b_form_of_part
def b_form : ISs :=
 (.cons (.set 1 (.tup .nil))
 (.cons (.fr (.nm 2) (.seq (.call "parts" f_parts (.cons (.var 0) .nil)))
 (.cons (.set 1 (.bin .Add (.var 1) (.call "form_of_part" f_form_of_part (.cons (.var 2) .nil))))
 (.cons (.kil [2])
 .nil)))
 (.cons (.kil [2])
 (.cons (.ret (.var 1))
 .nil))))
def f_form : Fn := runFn 1 3 b_form
def b_alike : ISs :=
 (.cons (.ret (.cmp .Eq (.call "form" f_form (.cons (.var 0) .nil)) (.call "form" f_form (.cons (.var 1) .nil))))
 .nil)
def f_alike : Fn := runFn 2 2 b_alike
def b_backward_part : ISs :=
 (.cons (.set 1 (.call "pens" f_pens (.cons (.var 0) .nil)))
 (.cons (.set 2 (.cmp .Eq (.idx (.idx (.var 0) (.neg (.int 1))) (.int 0)) (.glo "SHUT" g_SHUT)))
 (.cons (.set 3 (.slc (.zipl (.var 0) (.var 1)) (.some (.int 1)) .none))
 (.cons (.set 4 (.idx (.var 1) (.neg (.int 1))))
 (.cons (.set 5 (.tup (.cons (.tup (.cons (.glo "MOVE" g_MOVE) (.cons (.var 4) .nil))) .nil)))
 (.cons (.ife (.var 2)
 (.cons (.set 5 (.bin .Add (.var 5) (.tup (.cons (.tup (.cons (.glo "LINE" g_LINE) (.cons (.idx (.var 1) (.neg (.int 2))) .nil))) .nil))))
 (.cons (.set 3 (.slc (.var 3) .none (.some (.neg (.int 1)))))
 .nil))
 .nil)
 (.cons (.fr (.tu (.cons (.nm 6) (.cons (.nm 7) .nil))) (.seq (.rev (.var 3)))
 (.cons (.set 5 (.bin .Add (.var 5) (.tup (.cons (.bin .Add (.bin .Add (.slc (.var 6) .none (.some (.int 1))) (.rev (.slc (.var 6) (.some (.int 1)) (.some (.neg (.int 1)))))) (.tup (.cons (.var 7) .nil))) .nil))))
 (.cons (.kil [6, 7])
 .nil)))
 (.cons (.kil [6, 7])
 (.cons (.ife (.var 2)
 (.cons (.set 5 (.bin .Add (.var 5) (.tup (.cons (.tup (.cons (.glo "SHUT" g_SHUT) .nil)) .nil))))
 .nil)
 .nil)
 (.cons (.ret (.var 5))
 .nil))))))))))
def f_backward_part : Fn := runFn 1 8 b_backward_part
def b_backward : ISs :=
 (.cons (.set 1 (.tup .nil))
 (.cons (.fr (.nm 2) (.seq (.rev (.call "parts" f_parts (.cons (.var 0) .nil))))
 (.cons (.set 1 (.bin .Add (.var 1) (.call "backward_part" f_backward_part (.cons (.var 2) .nil))))
 (.cons (.kil [2])
 .nil)))
 (.cons (.kil [2])
 (.cons (.ret (.var 1))
 .nil))))
def f_backward : Fn := runFn 1 3 b_backward
def b_raised : ISs :=
 (.cons (.set 1 (.tup .nil))
 (.cons (.fr (.tu (.cons (.nm 2) (.cons (.nm 3) .nil))) (.zip (.var 0) (.call "pens" f_pens (.cons (.var 0) .nil)))
 (.cons (.ife (.cmp .Eq (.idx (.var 2) (.int 0)) (.glo "BOW" g_BOW))
 (.cons (.set 4 (.call "between" f_between (.cons (.var 3) (.cons (.idx (.var 2) (.int 1)) (.cons (.call "fraction" f_fraction (.cons (.int 2) (.cons (.int 3) .nil))) .nil)))))
 (.cons (.set 2 (.tup (.cons (.glo "WAVE" g_WAVE) (.cons (.var 4) (.cons (.call "between" f_between (.cons (.idx (.var 2) (.int 2)) (.cons (.idx (.var 2) (.int 1)) (.cons (.call "fraction" f_fraction (.cons (.int 2) (.cons (.int 3) .nil))) .nil)))) (.cons (.idx (.var 2) (.int 2)) .nil))))))
 .nil))
 .nil)
 (.cons (.set 1 (.bin .Add (.var 1) (.tup (.cons (.var 2) .nil))))
 (.cons (.kil [2, 3, 4])
 .nil))))
 (.cons (.kil [2, 3, 4])
 (.cons (.ret (.var 1))
 .nil))))
def f_raised : Fn := runFn 1 5 b_raised
def b_flat : ISs :=
 (.cons (.set 2 (.tup .nil))
 (.cons (.fr (.tu (.cons (.nm 3) (.cons (.nm 4) .nil))) (.enu (.var 0))
 (.cons (.ife (.cmp .In (.idx (.var 4) (.int 0)) (.tup (.cons (.glo "BOW" g_BOW) (.cons (.glo "WAVE" g_WAVE) .nil))))
 (.cons (.set 5 (.call "corner_points" f_corner_points (.cons (.var 0) (.cons (.var 3) .nil))))
 (.cons (.set 2 (.bin .Add (.var 2) (.bi .tuple (.cons (.lc [("at", 6)] (.nm 6) (.rng2 (.int 1) (.bin .Add (.var 1) (.int 1))) .none (.tup (.cons (.glo "LINE" g_LINE) (.cons (.call "point_of" f_point_of (.cons (.var 5) (.cons (.call "fraction" f_fraction (.cons (.var 6) (.cons (.var 1) .nil))) .nil))) .nil)))) .nil))))
 .nil))
 (.cons (.set 2 (.bin .Add (.var 2) (.tup (.cons (.var 4) .nil))))
 .nil))
 (.cons (.kil [3, 4, 5])
 .nil)))
 (.cons (.kil [3, 4, 5])
 (.cons (.ret (.var 2))
 .nil))))
def f_flat : Fn := runFn 2 7 b_flat
def b_is_on : ISs :=
 (.cons (.tset (.cons (.nm 2) (.cons (.nm 3) .nil)) (.var 1))
 (.cons (.ife (.cmp .NotEq (.call "cross" f_cross (.cons (.call "apart" f_apart (.cons (.var 3) (.cons (.var 2) .nil))) (.cons (.call "apart" f_apart (.cons (.var 0) (.cons (.var 2) .nil))) .nil))) (.glo "NONE" g_NONE))
 (.cons (.ret (.bl false))
 .nil)
 .nil)
 (.cons (.tset (.cons (.tu (.cons (.nm 4) (.cons (.nm 5) .nil))) (.cons (.tu (.cons (.nm 6) (.cons (.nm 7) .nil))) .nil)) (.call "box_of" f_box_of (.cons (.bi .list (.cons (.var 1) .nil)) .nil)))
 (.cons (.ife (.or (.call "is_less" f_is_less (.cons (.idx (.var 0) (.int 0)) (.cons (.var 4) .nil))) (.call "is_less" f_is_less (.cons (.var 6) (.cons (.idx (.var 0) (.int 0)) .nil))))
 (.cons (.ret (.bl false))
 .nil)
 .nil)
 (.cons (.ret (.and (.not (.call "is_less" f_is_less (.cons (.idx (.var 0) (.int 1)) (.cons (.var 5) .nil)))) (.not (.call "is_less" f_is_less (.cons (.var 7) (.cons (.idx (.var 0) (.int 1)) .nil))))))
 .nil)))))
def f_is_on : Fn := runFn 2 8 b_is_on
def b_passes : ISs :=
 (.cons (.tset (.cons (.nm 2) (.cons (.nm 3) .nil)) (.var 1))
 (.cons (.set 4 (.call "cross" f_cross (.cons (.call "apart" f_apart (.cons (.var 3) (.cons (.var 2) .nil))) (.cons (.call "apart" f_apart (.cons (.var 0) (.cons (.var 2) .nil))) .nil))))
 (.cons (.set 5 (.not (.call "is_less" f_is_less (.cons (.idx (.var 0) (.int 1)) (.cons (.idx (.var 2) (.int 1)) .nil)))))
 (.cons (.ife (.and (.var 5) (.and (.call "is_less" f_is_less (.cons (.idx (.var 0) (.int 1)) (.cons (.idx (.var 3) (.int 1)) .nil))) (.call "is_less" f_is_less (.cons (.glo "NONE" g_NONE) (.cons (.var 4) .nil)))))
 (.cons (.ret (.int 1))
 .nil)
 .nil)
 (.cons (.ife (.and (.not (.var 5)) (.and (.not (.call "is_less" f_is_less (.cons (.idx (.var 0) (.int 1)) (.cons (.idx (.var 3) (.int 1)) .nil)))) (.call "is_less" f_is_less (.cons (.var 4) (.cons (.glo "NONE" g_NONE) .nil)))))
 (.cons (.ret (.bin .Sub (.int 0) (.int 1)))
 .nil)
 .nil)
 (.cons (.ret (.int 0))
 .nil))))))
def f_passes : Fn := runFn 2 6 b_passes
def b_rounds : ISs :=
 (.cons (.set 2 (.int 0))
 (.cons (.fr (.nm 3) (.seq (.call "parts" f_parts (.cons (.var 0) .nil)))
 (.cons (.fr (.nm 4) (.seq (.call "closed_lines" f_closed_lines (.cons (.var 3) .nil)))
 (.cons (.ife (.call "is_on" f_is_on (.cons (.var 1) (.cons (.var 4) .nil)))
 (.cons (.ret .non)
 .nil)
 .nil)
 (.cons (.set 2 (.bin .Add (.var 2) (.call "passes" f_passes (.cons (.var 1) (.cons (.var 4) .nil)))))
 (.cons (.kil [4])
 .nil))))
 (.cons (.kil [4])
 (.cons (.kil [3, 4])
 .nil))))
 (.cons (.kil [3, 4])
 (.cons (.ret (.var 2))
 .nil))))
def f_rounds : Fn := runFn 2 5 b_rounds
def b_over : ISs :=
 (.cons (.ret (.call "fraction" f_fraction (.cons (.bin .Mult (.idx (.var 0) (.int 0)) (.idx (.var 1) (.int 1))) (.cons (.bin .Mult (.idx (.var 0) (.int 1)) (.idx (.var 1) (.int 0))) .nil))))
 .nil)
def f_over : Fn := runFn 2 2 b_over
def b_turns : ISs :=
 (.cons (.new 1 .nil)
 (.cons (.fr (.nm 2) (.rng1 (.int 2))
 (.cons (.tset (.cons (.nm 4) (.cons (.nm 5) (.cons (.nm 6) .nil))) (.lc [("corner", 8)] (.nm 8) (.seq (.var 0)) .none (.idx (.var 8) (.var 2))))
 (.cons (.set 3 (.call "plus" f_plus (.cons (.call "minus" f_minus (.cons (.var 4) (.cons (.var 5) .nil))) (.cons (.call "minus" f_minus (.cons (.var 6) (.cons (.var 5) .nil))) .nil))))
 (.cons (.ife (.cmp .NotEq (.var 3) (.glo "NONE" g_NONE))
 (.cons (.set 7 (.call "over" f_over (.cons (.call "minus" f_minus (.cons (.var 4) (.cons (.var 5) .nil))) (.cons (.var 3) .nil))))
 (.cons (.ife (.and (.call "is_less" f_is_less (.cons (.glo "NONE" g_NONE) (.cons (.var 7) .nil))) (.call "is_less" f_is_less (.cons (.var 7) (.cons (.tup (.cons (.int 1) (.cons (.int 1) .nil))) .nil))))
 (.cons (.app 1 (.var 7))
 .nil)
 .nil)
 .nil))
 .nil)
 (.cons (.kil [2, 3, 4, 5, 6, 7])
 .nil)))))
 (.cons (.kil [2, 3, 4, 5, 6, 7])
 (.cons (.frz 1)
 (.cons (.ret (.var 1))
 .nil)))))
def f_turns : Fn := runFn 1 9 b_turns
def b_tight_box : ISs :=
 (.cons (.new 1 .nil)
 (.cons (.fr (.tu (.cons (.nm 2) (.cons (.nm 3) .nil))) (.enu (.var 0))
 (.cons (.ext 1 (.bi .list (.cons (.bin .Mult (.slc (.var 3) (.some (.neg (.int 1))) .none) (.bi .int (.cons (.cmp .NotEq (.idx (.var 3) (.int 0)) (.glo "SHUT" g_SHUT)) .nil))) .nil)))
 (.cons (.ife (.cmp .Eq (.idx (.var 3) (.int 0)) (.glo "BOW" g_BOW))
 (.cons (.set 4 (.call "corner_points" f_corner_points (.cons (.var 0) (.cons (.var 2) .nil))))
 (.cons (.ext 1 (.lc [("t", 5)] (.nm 5) (.seq (.call "turns" f_turns (.cons (.var 4) .nil))) .none (.call "point_of" f_point_of (.cons (.var 4) (.cons (.var 5) .nil)))))
 .nil))
 .nil)
 (.cons (.kil [2, 3, 4])
 .nil))))
 (.cons (.kil [2, 3, 4])
 (.cons (.frz 1)
 (.cons (.ret (.call "box_of" f_box_of (.cons (.var 1) .nil)))
 .nil)))))
def f_tight_box : Fn := runFn 1 6 b_tight_box
def b__law_is_less : ISs :=
 (.cons (.ret (.cmp .Lt (.bin .Mult (.idx (.var 0) (.int 0)) (.idx (.var 1) (.int 1))) (.bin .Mult (.idx (.var 1) (.int 0)) (.idx (.var 0) (.int 1)))))
 .nil)
def f__law_is_less : Fn := runFn 2 2 b__law_is_less
def b_behind : ISs :=
 (.cons (.set 2 (.bin .Add (.slc (.var 1) .none (.some (.int 4))) (.tup (.cons (.glo "NONE" g_NONE) (.cons (.glo "NONE" g_NONE) .nil)))))
 (.cons (.set 3 (.call "led" f_led (.cons (.slc (.var 0) .none (.some (.int 2))) (.cons (.var 2) .nil))))
 (.cons (.set 4 (.call "led" f_led (.cons (.slc (.var 0) (.some (.int 2)) (.some (.int 4))) (.cons (.var 2) .nil))))
 (.cons (.ret (.bin .Add (.bin .Add (.var 3) (.var 4)) (.call "led" f_led (.cons (.slc (.var 0) (.some (.int 4)) .none) (.cons (.var 1) .nil)))))
 .nil))))
def f_behind : Fn := runFn 2 5 b_behind
def b_spread : ISs :=
 (.cons (.ret (.call "minus" f_minus (.cons (.call "times" f_times (.cons (.idx (.var 0) (.int 0)) (.cons (.idx (.var 0) (.int 3)) .nil))) (.cons (.call "times" f_times (.cons (.idx (.var 0) (.int 1)) (.cons (.idx (.var 0) (.int 2)) .nil))) .nil))))
 .nil)
def f_spread : Fn := runFn 1 1 b_spread
def b_undone : ISs :=
 (.cons (.set 1 (.call "spread" f_spread (.cons (.var 0) .nil)))
 (.cons (.ife (.cmp .Eq (.var 1) (.glo "NONE" g_NONE))
 (.cons (.rse "NoMap")
 .nil)
 .nil)
 (.cons (.tset (.cons (.nm 2) (.cons (.nm 3) (.cons (.nm 4) (.cons (.nm 5) (.cons (.nm 6) (.cons (.nm 7) .nil)))))) (.var 0))
 (.cons (.set 8 (.tup (.cons (.call "over" f_over (.cons (.var 5) (.cons (.var 1) .nil))) (.cons (.call "minus" f_minus (.cons (.glo "NONE" g_NONE) (.cons (.call "over" f_over (.cons (.var 3) (.cons (.var 1) .nil))) .nil))) .nil))))
 (.cons (.set 9 (.tup (.cons (.call "minus" f_minus (.cons (.glo "NONE" g_NONE) (.cons (.call "over" f_over (.cons (.var 4) (.cons (.var 1) .nil))) .nil))) (.cons (.call "over" f_over (.cons (.var 2) (.cons (.var 1) .nil))) .nil))))
 (.cons (.set 10 (.call "led" f_led (.cons (.tup (.cons (.var 6) (.cons (.var 7) .nil))) (.cons (.bin .Add (.bin .Add (.var 8) (.var 9)) (.tup (.cons (.glo "NONE" g_NONE) (.cons (.glo "NONE" g_NONE) .nil)))) .nil))))
 (.cons (.ret (.bin .Add (.bin .Add (.var 8) (.var 9)) (.tup (.cons (.call "minus" f_minus (.cons (.glo "NONE" g_NONE) (.cons (.idx (.var 10) (.int 0)) .nil))) (.cons (.call "minus" f_minus (.cons (.glo "NONE" g_NONE) (.cons (.idx (.var 10) (.int 1)) .nil))) .nil)))))
 .nil)))))))
def f_undone : Fn := runFn 1 11 b_undone
def b_from_corner : ISs :=
 (.cons (.tset (.cons (.nm 1) (.cons (.nm 2) (.cons (.nm 3) .nil))) (.var 0))
 (.cons (.ret (.bin .Add (.bin .Add (.call "apart" f_apart (.cons (.var 2) (.cons (.var 1) .nil))) (.call "apart" f_apart (.cons (.var 3) (.cons (.var 1) .nil)))) (.var 1)))
 .nil))
def f_from_corner : Fn := runFn 1 4 b_from_corner
def b_map_from : ISs :=
 (.cons (.ret (.call "behind" f_behind (.cons (.call "undone" f_undone (.cons (.call "from_corner" f_from_corner (.cons (.var 0) .nil)) .nil)) (.cons (.call "from_corner" f_from_corner (.cons (.var 1) .nil)) .nil))))
 .nil)
def f_map_from : Fn := runFn 2 2 b_map_from
def b__law_map : ISs :=
 (.cons (.set 1 (.tup .nil))
 (.cons (.fr (.nm 2) (.rng1 (.int 6))
 (.cons (.set 1 (.bin .Add (.var 1) (.tup (.cons (.call "_law_number" f__law_number (.cons (.bin .FloorDiv (.call "_law_drawn" f__law_drawn (.cons (.var 0) (.cons (.bin .Add (.int 40) (.var 2)) .nil))) (.int 4)) .nil)) .nil))))
 (.cons (.kil [2])
 .nil)))
 (.cons (.kil [2])
 (.cons (.ife (.cmp .Eq (.bin .Mod (.var 0) (.int 4)) (.int 0))
 (.cons (.set 1 (.bin .Add (.tup (.cons (.tup (.cons (.int 0) (.cons (.int 1) .nil))) (.cons (.tup (.cons (.int 1) (.cons (.int 1) .nil))) (.cons (.tup (.cons (.neg (.int 1)) (.cons (.int 1) .nil))) (.cons (.tup (.cons (.int 0) (.cons (.int 1) .nil))) .nil))))) (.slc (.var 1) (.some (.int 4)) .none)))
 .nil)
 .nil)
 (.cons (.ife (.cmp .Eq (.bin .Mod (.var 0) (.int 4)) (.int 1))
 (.cons (.set 1 (.bin .Add (.bin .Add (.slc (.var 1) .none (.some (.int 2))) (.slc (.var 1) .none (.some (.int 2)))) (.slc (.var 1) (.some (.int 4)) .none)))
 .nil)
 .nil)
 (.cons (.ret (.var 1))
 .nil))))))
def f__law_map : Fn := runFn 1 3 b__law_map
def b__law_led : ISs :=
 (.cons (.set 2 (.call "_law_plus" f__law_plus (.cons (.call "_law_plus" f__law_plus (.cons (.call "_law_times" f__law_times (.cons (.idx (.var 1) (.int 0)) (.cons (.idx (.var 0) (.int 0)) .nil))) (.cons (.call "_law_times" f__law_times (.cons (.idx (.var 1) (.int 2)) (.cons (.idx (.var 0) (.int 1)) .nil))) .nil))) (.cons (.idx (.var 1) (.int 4)) .nil))))
 (.cons (.ret (.tup (.cons (.var 2) (.cons (.call "_law_plus" f__law_plus (.cons (.call "_law_plus" f__law_plus (.cons (.call "_law_times" f__law_times (.cons (.idx (.var 1) (.int 1)) (.cons (.idx (.var 0) (.int 0)) .nil))) (.cons (.call "_law_times" f__law_times (.cons (.idx (.var 1) (.int 3)) (.cons (.idx (.var 0) (.int 1)) .nil))) .nil))) (.cons (.idx (.var 1) (.int 5)) .nil))) .nil))))
 .nil))
def f__law_led : Fn := runFn 2 3 b__law_led
def b__law_poly : ISs :=
 (.cons (.set 1 (.dgt [.inl 2, .inl 3] (.cons (.tup (.cons (.tup (.cons (.int 1) (.cons (.neg (.int 1)) .nil))) (.cons (.tup (.cons (.int 0) (.cons (.int 1) .nil))) .nil))) (.cons (.tup (.cons (.tup (.cons (.int 1) (.cons (.neg (.int 2)) (.cons (.int 1) .nil)))) (.cons (.tup (.cons (.int 0) (.cons (.int 2) (.cons (.neg (.int 2)) .nil)))) (.cons (.tup (.cons (.int 0) (.cons (.int 0) (.cons (.int 1) .nil)))) .nil)))) .nil)) (.bi .len (.cons (.var 0) .nil)) .non))
 (.cons (.ife (.cmp .Is (.var 1) .non)
 (.cons (.set 1 (.tup (.cons (.tup (.cons (.int 1) (.cons (.neg (.int 3)) (.cons (.int 3) (.cons (.neg (.int 1)) .nil))))) (.cons (.tup (.cons (.int 0) (.cons (.int 3) (.cons (.neg (.int 6)) (.cons (.int 3) .nil))))) (.cons (.tup (.cons (.int 0) (.cons (.int 0) (.cons (.int 3) (.cons (.neg (.int 3)) .nil))))) (.cons (.tup (.cons (.int 0) (.cons (.int 0) (.cons (.int 0) (.cons (.int 1) .nil))))) .nil))))))
 .nil)
 .nil)
 (.cons (.new 2 .nil)
 (.cons (.fr (.nm 3) (.rng1 (.bi .len (.cons (.var 0) .nil)))
 (.cons (.set 4 (.tup (.cons (.tup (.cons (.int 0) (.cons (.int 1) .nil))) (.cons (.tup (.cons (.int 0) (.cons (.int 1) .nil))) .nil))))
 (.cons (.fr (.tu (.cons (.nm 5) (.cons (.nm 6) .nil))) (.zip (.var 1) (.var 0))
 (.cons (.set 4 (.call "_law_add" f__law_add (.cons (.var 4) (.cons (.call "_law_scale" f__law_scale (.cons (.tup (.cons (.idx (.var 5) (.var 3)) (.cons (.int 1) .nil))) (.cons (.var 6) .nil))) .nil))))
 (.cons (.kil [5, 6])
 .nil)))
 (.cons (.kil [5, 6])
 (.cons (.app 2 (.var 4))
 (.cons (.kil [3, 4, 5, 6])
 .nil))))))
 (.cons (.kil [3, 4, 5, 6])
 (.cons (.frz 2)
 (.cons (.ret (.var 2))
 .nil)))))))
def f__law_poly : Fn := runFn 1 7 b__law_poly
def b__law_swept : ISs :=
 (.cons (.set 1 (.call "_law_poly" f__law_poly (.cons (.var 0) .nil)))
 (.cons (.set 2 (.tup (.cons (.int 0) (.cons (.int 1) .nil))))
 (.cons (.fr (.tu (.cons (.nm 3) (.cons (.nm 4) .nil))) (.enu (.var 1))
 (.cons (.fr (.tu (.cons (.nm 5) (.cons (.nm 6) .nil))) (.enu (.var 1))
 (.cons (.ife (.cmp .Gt (.var 5) (.int 0))
 (.cons (.set 7 (.call "_law_minus" f__law_minus (.cons (.call "_law_times" f__law_times (.cons (.idx (.var 4) (.int 0)) (.cons (.idx (.var 6) (.int 1)) .nil))) (.cons (.call "_law_times" f__law_times (.cons (.idx (.var 4) (.int 1)) (.cons (.idx (.var 6) (.int 0)) .nil))) .nil))))
 (.cons (.set 2 (.call "_law_plus" f__law_plus (.cons (.var 2) (.cons (.call "_law_times" f__law_times (.cons (.var 7) (.cons (.call "_law_fr" f__law_fr (.cons (.var 5) (.cons (.bin .Add (.var 3) (.var 5)) .nil))) .nil))) .nil))))
 .nil))
 .nil)
 (.cons (.kil [5, 6, 7])
 .nil)))
 (.cons (.kil [5, 6, 7])
 (.cons (.kil [3, 4, 5, 6, 7])
 .nil))))
 (.cons (.kil [3, 4, 5, 6, 7])
 (.cons (.ret (.call "_law_times" f__law_times (.cons (.var 2) (.cons (.tup (.cons (.int 1) (.cons (.int 2) .nil))) .nil))))
 .nil)))))
def f__law_swept : Fn := runFn 1 8 b__law_swept
def b_why_not : ISs :=
 (.cons (.set 2 (.call "form" f_form (.cons (.var 0) .nil)))
 (.cons (.set 3 (.call "form" f_form (.cons (.var 1) .nil)))
 (.cons (.fr (.nm 4) (.rng1 (.bi .max (.cons (.bi .len (.cons (.var 2) .nil)) (.cons (.bi .len (.cons (.var 3) .nil)) .nil))))
 (.cons (.ife (.cmp .NotEq (.slc (.var 2) (.some (.var 4)) (.some (.bin .Add (.var 4) (.int 1)))) (.slc (.var 3) (.some (.var 4)) (.some (.bin .Add (.var 4) (.int 1)))))
 (.cons (.ret (.var 4))
 .nil)
 .nil)
 (.cons (.kil [4])
 .nil)))
 (.cons (.kil [4])
 (.cons (.ret .non)
 .nil)))))
def f_why_not : Fn := runFn 2 5 b_why_not
def b__law_again : ISs :=
 (.cons (.set 2 (.tup .nil))
 (.cons (.set 3 (.call "_law_pens" f__law_pens (.cons (.var 0) .nil)))
 (.cons (.set 4 (.idx (.var 3) (.int 0)))
 (.cons (.fr (.tu (.cons (.nm 5) (.cons (.nm 6) .nil))) (.enu (.var 0))
 (.cons (.set 7 (.bin .FloorDiv (.call "_law_drawn" f__law_drawn (.cons (.var 1) (.cons (.var 5) .nil))) (.int 4)))
 (.cons (.set 8 (.idx (.var 3) (.var 5)))
 (.cons (.ife (.cmp .Eq (.idx (.var 6) (.int 0)) (.str "move"))
 (.cons (.set 4 (.idx (.var 6) (.int 1)))
 (.cons (.set 2 (.bin .Add (.bin .Add (.var 2) (.bin .Mult (.tup (.cons (.tup (.cons (.str "move") (.cons (.call "_law_point" f__law_point (.cons (.var 7) .nil)) .nil))) .nil)) (.bin .Mod (.bin .FloorDiv (.var 7) (.int 64)) (.int 2)))) (.tup (.cons (.var 6) .nil))))
 .nil))
 (.cons (.ife (.and (.cmp .Eq (.idx (.var 6) (.int 0)) (.str "line")) (.cmp .Eq (.bin .Mod (.var 7) (.int 3)) (.int 0)))
 (.cons (.set 9 (.call "_law_add" f__law_add (.cons (.var 8) (.cons (.call "_law_scale" f__law_scale (.cons (.tup (.cons (.int 1) (.cons (.int 3) .nil))) (.cons (.call "_law_sub" f__law_sub (.cons (.idx (.var 6) (.int 1)) (.cons (.var 8) .nil))) .nil))) .nil))))
 (.cons (.set 2 (.bin .Add (.var 2) (.tup (.cons (.tup (.cons (.str "line") (.cons (.var 9) .nil))) (.cons (.var 6) .nil)))))
 .nil))
 (.cons (.ife (.and (.cmp .Eq (.idx (.var 6) (.int 0)) (.str "line")) (.cmp .Eq (.bin .Mod (.var 7) (.int 3)) (.int 1)))
 (.cons (.set 10 (.call "_law_scale" f__law_scale (.cons (.tup (.cons (.int 1) (.cons (.int 2) .nil))) (.cons (.call "_law_add" f__law_add (.cons (.var 8) (.cons (.idx (.var 6) (.int 1)) .nil))) .nil))))
 (.cons (.set 2 (.bin .Add (.var 2) (.tup (.cons (.tup (.cons (.str "line") (.cons (.var 8) .nil))) (.cons (.tup (.cons (.str "bow") (.cons (.var 10) (.cons (.idx (.var 6) (.int 1)) .nil)))) .nil)))))
 .nil))
 (.cons (.ife (.and (.cmp .Eq (.idx (.var 6) (.int 0)) (.str "bow")) (.cmp .Eq (.bin .Mod (.var 7) (.int 2)) (.int 0)))
 (.cons (.set 11 (.call "_law_add" f__law_add (.cons (.call "_law_scale" f__law_scale (.cons (.tup (.cons (.int 1) (.cons (.int 3) .nil))) (.cons (.var 8) .nil))) (.cons (.call "_law_scale" f__law_scale (.cons (.tup (.cons (.int 2) (.cons (.int 3) .nil))) (.cons (.idx (.var 6) (.int 1)) .nil))) .nil))))
 (.cons (.set 12 (.call "_law_add" f__law_add (.cons (.call "_law_scale" f__law_scale (.cons (.tup (.cons (.int 1) (.cons (.int 3) .nil))) (.cons (.idx (.var 6) (.int 2)) .nil))) (.cons (.call "_law_scale" f__law_scale (.cons (.tup (.cons (.int 2) (.cons (.int 3) .nil))) (.cons (.idx (.var 6) (.int 1)) .nil))) .nil))))
 (.cons (.set 2 (.bin .Add (.var 2) (.tup (.cons (.tup (.cons (.str "wave") (.cons (.var 11) (.cons (.var 12) (.cons (.idx (.var 6) (.int 2)) .nil))))) .nil))))
 .nil)))
 (.cons (.ife (.and (.cmp .Eq (.idx (.var 6) (.int 0)) (.str "shut")) (.cmp .Eq (.bin .Mod (.var 7) (.int 4)) (.int 1)))
 (.cons (.set 9 (.call "_law_add" f__law_add (.cons (.var 8) (.cons (.call "_law_scale" f__law_scale (.cons (.tup (.cons (.int 1) (.cons (.int 3) .nil))) (.cons (.call "_law_sub" f__law_sub (.cons (.var 4) (.cons (.var 8) .nil))) .nil))) .nil))))
 (.cons (.set 2 (.bin .Add (.var 2) (.tup (.cons (.tup (.cons (.str "line") (.cons (.var 9) .nil))) (.cons (.var 6) .nil)))))
 .nil))
 (.cons (.ife (.and (.cmp .Eq (.idx (.var 6) (.int 0)) (.str "shut")) (.cmp .Gt (.bin .Mod (.var 7) (.int 4)) (.int 1)))
 (.cons (.set 2 (.bin .Add (.var 2) (.tup (.cons (.tup (.cons (.str "line") (.cons (.var 4) .nil))) (.cons (.var 6) .nil)))))
 .nil)
 (.cons (.set 2 (.bin .Add (.var 2) (.tup (.cons (.var 6) .nil))))
 .nil))
 .nil))
 .nil))
 .nil))
 .nil))
 .nil))
 (.cons (.ife (.and (.cmp .Eq (.idx (.var 6) (.int 0)) (.str "shut")) (.and (.cmp .Lt (.bin .Add (.var 5) (.int 1)) (.bi .len (.cons (.var 0) .nil))) (.and (.cmp .NotEq (.idx (.idx (.var 0) (.bin .Add (.var 5) (.int 1))) (.int 0)) (.str "move")) (.cmp .Eq (.bin .Mod (.bin .FloorDiv (.var 7) (.int 8)) (.int 2)) (.int 0)))))
 (.cons (.set 2 (.bin .Add (.var 2) (.tup (.cons (.tup (.cons (.str "move") (.cons (.var 4) .nil))) .nil))))
 .nil)
 .nil)
 (.cons (.kil [5, 6, 7, 8, 9, 10, 11, 12])
 .nil))))))
 (.cons (.kil [4, 5, 6, 7, 8, 9, 10, 11, 12])
 (.cons (.ret (.bin .Add (.var 2) (.bin .Mult (.tup (.cons (.tup (.cons (.str "move") (.cons (.call "_law_point" f__law_point (.cons (.var 1) .nil)) .nil))) .nil)) (.bin .Mod (.var 1) (.int 2)))))
 .nil))))))
def f__law_again : Fn := runFn 2 13 b__law_again
end Dp
namespace Rf
open PySem Dp
open Enc (enc)
theorem whl_gcd {R : Int → Int → Env} {c : Env → Res Bool} {f : Env → Out} (hc : ∀ a b, c (R a b) = .ok (decide (0 < b))) (hf : ∀ a b, 0 < b → f (R a b) = .nx (R b (a.fmod b))) :
    ∀ (n a b : Nat), b < n → whlGo c f n (R a b) = .nx (R (Nat.gcd a b : Nat) 0) := by
  intro n
  induction n with
  | zero => intro a b h; omega
  | succ n ih =>
    intro a b h
    simp only [whlGo, hc]
    by_cases hb : b = 0
    · subst hb; simp
    · have h0 : (0 : Int) < b := by omega
      simp only [h0, decide_true, hf _ _ h0]
      have e : (a : Int).fmod b = ((a % b : Nat) : Int) := by rw [Int.fmod_eq_emod_of_nonneg _ (by omega)]; rfl
      have l : a % b < b := Nat.mod_lt _ (by omega)
      rw [e, ih b (a % b) (by omega)]
      rw [Nat.gcd_comm a b, Nat.gcd_rec b a, Nat.gcd_comm]
theorem dbig_lt : DBIG < FUEL := by
  unfold DBIG FUEL
  generalize hx : (8990 : Nat) = x
  generalize hy : (9000 : Nat) = y
  exact Nat.pow_lt_pow_right (by decide) (by omega)
theorem abs_nat (i : Int) : (if i < 0 then -i else i) = (i.natAbs : Int) := by split <;> omega
@[simp] theorem divisor_ok {a b : Int} (h : b.natAbs < DBIG) : f_divisor [.int a, .int b] = .ok (.int (Int.gcd a b)) := by
  rw [f_divisor, run2, b_divisor]
  simp only [Nat.reduceSub, List.replicate, ss_cons, s_set, s_whl, seq_nx, e_bi, e_cons, e_var, e_nil, List.getElem?_cons_zero, List.getElem?_cons_succ, Res.bind_ok, bi_abs, ofR_ok, List.set_cons_zero, List.set_cons_succ, abs_nat]
  rw [whl_gcd (R := fun x y => [.im (.int x), .im (.int y)]) (by intro a b; simp [tE]) (by intro a b h; simp [sE, dBin, Int.ne_of_gt h]) FUEL a.natAbs b.natAbs (Nat.lt_trans h dbig_lt)]
  simp [Int.gcd]
theorem b_div {i j : Int} (h : j ≠ 0) (g : j.natAbs < DBIG) : dBin .FloorDiv (.int i) (.int j) = .ok (.int (i.fdiv j)) := by
  simp only [dBin]; rw [if_pos ⟨h, g⟩]
theorem b_mod {i j : Int} (h : j ≠ 0) : dBin .Mod (.int i) (.int j) = .ok (.int (i.fmod j)) := by
  simp only [dBin]; rw [if_pos h]
theorem fdiv_gcd {a : Int} {g : Nat} (h : (g : Int) ∣ a) : a.fdiv g = a / g := Int.fdiv_eq_ediv_of_dvd h
theorem fdiv_gcd' {a : Int} {g : Nat} (h : (g : Int) ∣ a) : a.fdiv (-(g : Int)) = -(a / g) := by
  rw [Int.fdiv_eq_ediv_of_dvd (Int.neg_dvd.mpr h), Int.ediv_neg]
theorem frac_ok {a b : Int} (h : b ≠ 0) (hb : b.natAbs < DBIG) : f_fraction [.int a, .int b] = .ok (enc (Rat.divInt a b)) := by
  have g0 : (Int.gcd a b : Int) ≠ 0 := by
    have := Int.gcd_pos_of_ne_zero_right a h
    omega
  have gl : Int.gcd a b < DBIG := Nat.lt_of_le_of_lt (Nat.le_of_dvd (by omega) (by rw [Int.gcd]; exact Nat.gcd_dvd_right ..)) hb
  have d1 : (Int.gcd a b : Int) ∣ a := Int.gcd_dvd_left ..
  have d2 : (Int.gcd a b : Int) ∣ b := Int.gcd_dvd_right ..
  rw [f_fraction, run2, b_fraction]
  rw [enc_rat, Rat.num_divInt, Rat.den_divInt, Int.gcd_comm b a, if_neg h]
  rcases Int.lt_or_gt_of_ne h with hn | hp
  · have e1 (i : Int) : dBin .FloorDiv (.int i) (.int (-(Int.gcd a b : Int))) = .ok (.int (i.fdiv (-(Int.gcd a b : Int)))) := b_div (by omega) (by simpa using gl)
    simp [hb, hn, e1]
    rw [fdiv_gcd' d1, fdiv_gcd' d2, Int.sign_eq_neg_one_of_neg hn]
    refine ⟨?_, ?_⟩
    · rw [Int.neg_mul, Int.one_mul, Int.neg_ediv_of_dvd d1]
    · have e : (b.natAbs : Int) = -b := by omega
      rw [← Int.natCast_ediv, Int.natCast_ediv, e, Int.neg_ediv_of_dvd d2]
  · have e0 : ¬ b < 0 := by omega
    have e1 (i : Int) : dBin .FloorDiv (.int i) (.int (Int.gcd a b : Int)) = .ok (.int (i.fdiv (Int.gcd a b : Int))) := b_div g0 (by simpa using gl)
    simp [hb, e0, e1]
    rw [fdiv_gcd d1, fdiv_gcd d2, Int.sign_eq_one_of_pos hp, Int.one_mul]
    refine ⟨rfl, ?_⟩
    have e : (b.natAbs : Int) = b := by omega
    rw [e]
end Rf
namespace Rf
open PySem Dp
open Enc (enc)
@[irreducible] def SB : Nat := 2 ^ 4000
theorem sb_dbig {a b : Nat} (ha : a < SB) (hb : b < SB) : a * b < DBIG := by
  have h : SB * SB ≤ DBIG := by
    unfold SB DBIG
    rw [← Nat.pow_add]
    exact Nat.pow_le_pow_right (by decide) (by decide)
  have : a * b < SB * SB := Nat.mul_lt_mul_of_lt_of_lt ha hb
  omega
theorem sb_big : SB < BIG := by
  unfold SB BIG
  generalize hx : (4000 : Nat) = x
  generalize hy : (400000 : Nat) = y
  exact Nat.pow_lt_pow_right (by decide) (by omega)
theorem sb_db : SB < DBIG := by
  unfold SB DBIG
  generalize hx : (4000 : Nat) = x
  generalize hy : (8990 : Nat) = y
  exact Nat.pow_lt_pow_right (by decide) (by omega)
theorem b_mul {i j : Int} (hi : i.natAbs < SB) (hj : j.natAbs < SB) : dBin .Mult (.int i) (.int j) = .ok (.int (i * j)) := by
  have := sb_big
  simp only [dBin]; rw [if_pos]
  simp only [mulOk, Bool.or_eq_true, Bool.and_eq_true, decide_eq_true_eq]
  right; omega
/-- not too great -/
structure Ok (q : Rat) : Prop where
  n : q.num.natAbs < SB
  d : q.den < SB
theorem Ok.d' {q : Rat} (h : Ok q) : (q.den : Int).natAbs < SB := h.d
@[simp] theorem ix_r0 {q : Rat} : dIdx (enc q) (.int 0) = .ok (.int q.num) := by
  rw [enc_rat]; exact ix_tup (i := 0) rfl
@[simp] theorem ix_r1 {q : Rat} : dIdx (enc q) (.int 1) = .ok (.int q.den) := by
  rw [enc_rat]; exact ix_tup (i := 1) rfl
@[simp] theorem ix_p0 {α β : Type} [Enc α] [Enc β] {q : α × β} : dIdx (enc q) (.int 0) = .ok (enc q.1) := by
  rw [enc_pair]; exact ix_tup (i := 0) rfl
@[simp] theorem ix_p1 {α β : Type} [Enc α] [Enc β] {q : α × β} : dIdx (enc q) (.int 1) = .ok (enc q.2) := by
  rw [enc_pair]; exact ix_tup (i := 1) rfl
theorem mk_pair {α β : Type} [Enc α] [Enc β] (a : α) (b : β) : PyData.tuple [enc a, enc b] = enc (a, b) := rfl
theorem divInt_add (p q : Rat) : Rat.divInt (p.num * q.den + q.num * p.den) (p.den * q.den) = p + q := by
  rw [← Int.natCast_mul, Rat.divInt_ofNat, ← Rat.add_def']
theorem divInt_sub (p q : Rat) : Rat.divInt (p.num * q.den - q.num * p.den) (p.den * q.den) = p - q := by
  rw [← Int.natCast_mul, Rat.divInt_ofNat, ← Rat.sub_def']
theorem divInt_mul (p q : Rat) : Rat.divInt (p.num * q.num) (p.den * q.den) = p * q := by
  rw [← Int.natCast_mul, Rat.divInt_ofNat, ← Rat.mul_def']
theorem divInt_div (p q : Rat) : Rat.divInt (p.num * q.den) (p.den * q.num) = p / q := by
  rw [Rat.div_def, Rat.inv_def, ← Rat.divInt_mul_divInt, Rat.num_divInt_den]
section
variable {p q : Rat} (hp : Ok p) (hq : Ok q)
include hp hq
theorem den_ok : (p.den : Int) * q.den ≠ 0 ∧ ((p.den : Int) * q.den).natAbs < DBIG := by
  refine ⟨?_, ?_⟩
  · have := p.den_nz; have := q.den_nz
    exact Int.mul_ne_zero (by omega) (by omega)
  · rw [Int.natAbs_mul]; exact sb_dbig hp.d hq.d
theorem plus_ok : f_plus [enc p, enc q] = .ok (enc (p + q)) := by
  rw [f_plus, run2, b_plus]
  obtain ⟨h1, h2⟩ := den_ok hp hq
  simp [b_mul hp.n hq.d', b_mul hq.n hp.d', b_mul hp.d' hq.d', frac_ok h1 h2, divInt_add]
theorem minus_ok : f_minus [enc p, enc q] = .ok (enc (p - q)) := by
  rw [f_minus, run2, b_minus]
  obtain ⟨h1, h2⟩ := den_ok hp hq
  simp [b_mul hp.n hq.d', b_mul hq.n hp.d', b_mul hp.d' hq.d', frac_ok h1 h2, divInt_sub]
theorem times_ok : f_times [enc p, enc q] = .ok (enc (p * q)) := by
  rw [f_times, run2, b_times]
  obtain ⟨h1, h2⟩ := den_ok hp hq
  simp [b_mul hp.n hq.n, b_mul hp.d' hq.d', frac_ok h1 h2, divInt_mul]
theorem over_ok (h0 : q ≠ 0) : f_over [enc p, enc q] = .ok (enc (p / q)) := by
  rw [f_over, run2, b_over]
  have h1 : (p.den : Int) * q.num ≠ 0 := Int.mul_ne_zero (by have := p.den_nz; omega) (by rw [Ne, Rat.num_eq_zero]; exact h0)
  have h2 : ((p.den : Int) * q.num).natAbs < DBIG := by rw [Int.natAbs_mul]; exact sb_dbig hp.d hq.n
  simp [b_mul hp.n hq.d', b_mul hp.d' hq.n, frac_ok h1 h2, divInt_div]
theorem is_less_ok : f_is_less [enc p, enc q] = .ok (.bool (decide (p < q))) := by
  rw [f_is_less, run2, b_is_less]
  simp [b_mul hp.n hq.d', b_mul hq.n hp.d', Rat.lt_iff]
end
end Rf
namespace Rf
open PySem Dp
open Enc (enc)
@[simp] theorem sh_move : SeqAt.shaped (.str "move") = true := by decide +kernel
@[simp] theorem sh_line : SeqAt.shaped (.str "line") = true := by decide +kernel
@[simp] theorem sh_bow : SeqAt.shaped (.str "bow") = true := by decide +kernel
@[simp] theorem sh_wave : SeqAt.shaped (.str "wave") = true := by decide +kernel
@[simp] theorem sh_shut : SeqAt.shaped (.str "shut") = true := by decide +kernel
@[simp] theorem eq_move_move : dCmp .Eq (.str "move") (.str "move") = .ok (.bool true) := by
  have e : PyData.eqv (.str "move") (.str "move") = true := by decide +kernel
  rw [c_eq sh_move sh_move, e]
@[simp] theorem ne_move_move : dCmp .NotEq (.str "move") (.str "move") = .ok (.bool false) := by
  have e : PyData.eqv (.str "move") (.str "move") = true := by decide +kernel
  rw [c_ne sh_move sh_move, e]; rfl
@[simp] theorem eq_move_line : dCmp .Eq (.str "move") (.str "line") = .ok (.bool false) := by
  have e : PyData.eqv (.str "move") (.str "line") = false := by decide +kernel
  rw [c_eq sh_move sh_line, e]
@[simp] theorem ne_move_line : dCmp .NotEq (.str "move") (.str "line") = .ok (.bool true) := by
  have e : PyData.eqv (.str "move") (.str "line") = false := by decide +kernel
  rw [c_ne sh_move sh_line, e]; rfl
@[simp] theorem eq_move_bow : dCmp .Eq (.str "move") (.str "bow") = .ok (.bool false) := by
  have e : PyData.eqv (.str "move") (.str "bow") = false := by decide +kernel
  rw [c_eq sh_move sh_bow, e]
@[simp] theorem ne_move_bow : dCmp .NotEq (.str "move") (.str "bow") = .ok (.bool true) := by
  have e : PyData.eqv (.str "move") (.str "bow") = false := by decide +kernel
  rw [c_ne sh_move sh_bow, e]; rfl
@[simp] theorem eq_move_wave : dCmp .Eq (.str "move") (.str "wave") = .ok (.bool false) := by
  have e : PyData.eqv (.str "move") (.str "wave") = false := by decide +kernel
  rw [c_eq sh_move sh_wave, e]
@[simp] theorem ne_move_wave : dCmp .NotEq (.str "move") (.str "wave") = .ok (.bool true) := by
  have e : PyData.eqv (.str "move") (.str "wave") = false := by decide +kernel
  rw [c_ne sh_move sh_wave, e]; rfl
@[simp] theorem eq_move_shut : dCmp .Eq (.str "move") (.str "shut") = .ok (.bool false) := by
  have e : PyData.eqv (.str "move") (.str "shut") = false := by decide +kernel
  rw [c_eq sh_move sh_shut, e]
@[simp] theorem ne_move_shut : dCmp .NotEq (.str "move") (.str "shut") = .ok (.bool true) := by
  have e : PyData.eqv (.str "move") (.str "shut") = false := by decide +kernel
  rw [c_ne sh_move sh_shut, e]; rfl
@[simp] theorem in_move : dCmp .In (.str "move") (.tuple [.str "bow", .str "wave"]) = .ok (.bool false) := by
  have h : dIn (.str "move") (.tuple [.str "bow", .str "wave"]) = (if flatD (.str "move") && [PyData.str "bow", .str "wave"].all flatD then .ok ([PyData.str "bow", .str "wave"].any fun y => PyData.eqv y (.str "move")) else .no) := rfl
  have e : ([PyData.str "bow", .str "wave"].any fun y => PyData.eqv y (.str "move")) = false := by decide +kernel
  simp only [dCmp, h, e]; rfl
@[simp] theorem eq_line_move : dCmp .Eq (.str "line") (.str "move") = .ok (.bool false) := by
  have e : PyData.eqv (.str "line") (.str "move") = false := by decide +kernel
  rw [c_eq sh_line sh_move, e]
@[simp] theorem ne_line_move : dCmp .NotEq (.str "line") (.str "move") = .ok (.bool true) := by
  have e : PyData.eqv (.str "line") (.str "move") = false := by decide +kernel
  rw [c_ne sh_line sh_move, e]; rfl
@[simp] theorem eq_line_line : dCmp .Eq (.str "line") (.str "line") = .ok (.bool true) := by
  have e : PyData.eqv (.str "line") (.str "line") = true := by decide +kernel
  rw [c_eq sh_line sh_line, e]
@[simp] theorem ne_line_line : dCmp .NotEq (.str "line") (.str "line") = .ok (.bool false) := by
  have e : PyData.eqv (.str "line") (.str "line") = true := by decide +kernel
  rw [c_ne sh_line sh_line, e]; rfl
@[simp] theorem eq_line_bow : dCmp .Eq (.str "line") (.str "bow") = .ok (.bool false) := by
  have e : PyData.eqv (.str "line") (.str "bow") = false := by decide +kernel
  rw [c_eq sh_line sh_bow, e]
@[simp] theorem ne_line_bow : dCmp .NotEq (.str "line") (.str "bow") = .ok (.bool true) := by
  have e : PyData.eqv (.str "line") (.str "bow") = false := by decide +kernel
  rw [c_ne sh_line sh_bow, e]; rfl
@[simp] theorem eq_line_wave : dCmp .Eq (.str "line") (.str "wave") = .ok (.bool false) := by
  have e : PyData.eqv (.str "line") (.str "wave") = false := by decide +kernel
  rw [c_eq sh_line sh_wave, e]
@[simp] theorem ne_line_wave : dCmp .NotEq (.str "line") (.str "wave") = .ok (.bool true) := by
  have e : PyData.eqv (.str "line") (.str "wave") = false := by decide +kernel
  rw [c_ne sh_line sh_wave, e]; rfl
@[simp] theorem eq_line_shut : dCmp .Eq (.str "line") (.str "shut") = .ok (.bool false) := by
  have e : PyData.eqv (.str "line") (.str "shut") = false := by decide +kernel
  rw [c_eq sh_line sh_shut, e]
@[simp] theorem ne_line_shut : dCmp .NotEq (.str "line") (.str "shut") = .ok (.bool true) := by
  have e : PyData.eqv (.str "line") (.str "shut") = false := by decide +kernel
  rw [c_ne sh_line sh_shut, e]; rfl
@[simp] theorem in_line : dCmp .In (.str "line") (.tuple [.str "bow", .str "wave"]) = .ok (.bool false) := by
  have h : dIn (.str "line") (.tuple [.str "bow", .str "wave"]) = (if flatD (.str "line") && [PyData.str "bow", .str "wave"].all flatD then .ok ([PyData.str "bow", .str "wave"].any fun y => PyData.eqv y (.str "line")) else .no) := rfl
  have e : ([PyData.str "bow", .str "wave"].any fun y => PyData.eqv y (.str "line")) = false := by decide +kernel
  simp only [dCmp, h, e]; rfl
@[simp] theorem eq_bow_move : dCmp .Eq (.str "bow") (.str "move") = .ok (.bool false) := by
  have e : PyData.eqv (.str "bow") (.str "move") = false := by decide +kernel
  rw [c_eq sh_bow sh_move, e]
@[simp] theorem ne_bow_move : dCmp .NotEq (.str "bow") (.str "move") = .ok (.bool true) := by
  have e : PyData.eqv (.str "bow") (.str "move") = false := by decide +kernel
  rw [c_ne sh_bow sh_move, e]; rfl
@[simp] theorem eq_bow_line : dCmp .Eq (.str "bow") (.str "line") = .ok (.bool false) := by
  have e : PyData.eqv (.str "bow") (.str "line") = false := by decide +kernel
  rw [c_eq sh_bow sh_line, e]
@[simp] theorem ne_bow_line : dCmp .NotEq (.str "bow") (.str "line") = .ok (.bool true) := by
  have e : PyData.eqv (.str "bow") (.str "line") = false := by decide +kernel
  rw [c_ne sh_bow sh_line, e]; rfl
@[simp] theorem eq_bow_bow : dCmp .Eq (.str "bow") (.str "bow") = .ok (.bool true) := by
  have e : PyData.eqv (.str "bow") (.str "bow") = true := by decide +kernel
  rw [c_eq sh_bow sh_bow, e]
@[simp] theorem ne_bow_bow : dCmp .NotEq (.str "bow") (.str "bow") = .ok (.bool false) := by
  have e : PyData.eqv (.str "bow") (.str "bow") = true := by decide +kernel
  rw [c_ne sh_bow sh_bow, e]; rfl
@[simp] theorem eq_bow_wave : dCmp .Eq (.str "bow") (.str "wave") = .ok (.bool false) := by
  have e : PyData.eqv (.str "bow") (.str "wave") = false := by decide +kernel
  rw [c_eq sh_bow sh_wave, e]
@[simp] theorem ne_bow_wave : dCmp .NotEq (.str "bow") (.str "wave") = .ok (.bool true) := by
  have e : PyData.eqv (.str "bow") (.str "wave") = false := by decide +kernel
  rw [c_ne sh_bow sh_wave, e]; rfl
@[simp] theorem eq_bow_shut : dCmp .Eq (.str "bow") (.str "shut") = .ok (.bool false) := by
  have e : PyData.eqv (.str "bow") (.str "shut") = false := by decide +kernel
  rw [c_eq sh_bow sh_shut, e]
@[simp] theorem ne_bow_shut : dCmp .NotEq (.str "bow") (.str "shut") = .ok (.bool true) := by
  have e : PyData.eqv (.str "bow") (.str "shut") = false := by decide +kernel
  rw [c_ne sh_bow sh_shut, e]; rfl
@[simp] theorem in_bow : dCmp .In (.str "bow") (.tuple [.str "bow", .str "wave"]) = .ok (.bool true) := by
  have h : dIn (.str "bow") (.tuple [.str "bow", .str "wave"]) = (if flatD (.str "bow") && [PyData.str "bow", .str "wave"].all flatD then .ok ([PyData.str "bow", .str "wave"].any fun y => PyData.eqv y (.str "bow")) else .no) := rfl
  have e : ([PyData.str "bow", .str "wave"].any fun y => PyData.eqv y (.str "bow")) = true := by decide +kernel
  simp only [dCmp, h, e]; rfl
@[simp] theorem eq_wave_move : dCmp .Eq (.str "wave") (.str "move") = .ok (.bool false) := by
  have e : PyData.eqv (.str "wave") (.str "move") = false := by decide +kernel
  rw [c_eq sh_wave sh_move, e]
@[simp] theorem ne_wave_move : dCmp .NotEq (.str "wave") (.str "move") = .ok (.bool true) := by
  have e : PyData.eqv (.str "wave") (.str "move") = false := by decide +kernel
  rw [c_ne sh_wave sh_move, e]; rfl
@[simp] theorem eq_wave_line : dCmp .Eq (.str "wave") (.str "line") = .ok (.bool false) := by
  have e : PyData.eqv (.str "wave") (.str "line") = false := by decide +kernel
  rw [c_eq sh_wave sh_line, e]
@[simp] theorem ne_wave_line : dCmp .NotEq (.str "wave") (.str "line") = .ok (.bool true) := by
  have e : PyData.eqv (.str "wave") (.str "line") = false := by decide +kernel
  rw [c_ne sh_wave sh_line, e]; rfl
@[simp] theorem eq_wave_bow : dCmp .Eq (.str "wave") (.str "bow") = .ok (.bool false) := by
  have e : PyData.eqv (.str "wave") (.str "bow") = false := by decide +kernel
  rw [c_eq sh_wave sh_bow, e]
@[simp] theorem ne_wave_bow : dCmp .NotEq (.str "wave") (.str "bow") = .ok (.bool true) := by
  have e : PyData.eqv (.str "wave") (.str "bow") = false := by decide +kernel
  rw [c_ne sh_wave sh_bow, e]; rfl
@[simp] theorem eq_wave_wave : dCmp .Eq (.str "wave") (.str "wave") = .ok (.bool true) := by
  have e : PyData.eqv (.str "wave") (.str "wave") = true := by decide +kernel
  rw [c_eq sh_wave sh_wave, e]
@[simp] theorem ne_wave_wave : dCmp .NotEq (.str "wave") (.str "wave") = .ok (.bool false) := by
  have e : PyData.eqv (.str "wave") (.str "wave") = true := by decide +kernel
  rw [c_ne sh_wave sh_wave, e]; rfl
@[simp] theorem eq_wave_shut : dCmp .Eq (.str "wave") (.str "shut") = .ok (.bool false) := by
  have e : PyData.eqv (.str "wave") (.str "shut") = false := by decide +kernel
  rw [c_eq sh_wave sh_shut, e]
@[simp] theorem ne_wave_shut : dCmp .NotEq (.str "wave") (.str "shut") = .ok (.bool true) := by
  have e : PyData.eqv (.str "wave") (.str "shut") = false := by decide +kernel
  rw [c_ne sh_wave sh_shut, e]; rfl
@[simp] theorem in_wave : dCmp .In (.str "wave") (.tuple [.str "bow", .str "wave"]) = .ok (.bool true) := by
  have h : dIn (.str "wave") (.tuple [.str "bow", .str "wave"]) = (if flatD (.str "wave") && [PyData.str "bow", .str "wave"].all flatD then .ok ([PyData.str "bow", .str "wave"].any fun y => PyData.eqv y (.str "wave")) else .no) := rfl
  have e : ([PyData.str "bow", .str "wave"].any fun y => PyData.eqv y (.str "wave")) = true := by decide +kernel
  simp only [dCmp, h, e]; rfl
@[simp] theorem eq_shut_move : dCmp .Eq (.str "shut") (.str "move") = .ok (.bool false) := by
  have e : PyData.eqv (.str "shut") (.str "move") = false := by decide +kernel
  rw [c_eq sh_shut sh_move, e]
@[simp] theorem ne_shut_move : dCmp .NotEq (.str "shut") (.str "move") = .ok (.bool true) := by
  have e : PyData.eqv (.str "shut") (.str "move") = false := by decide +kernel
  rw [c_ne sh_shut sh_move, e]; rfl
@[simp] theorem eq_shut_line : dCmp .Eq (.str "shut") (.str "line") = .ok (.bool false) := by
  have e : PyData.eqv (.str "shut") (.str "line") = false := by decide +kernel
  rw [c_eq sh_shut sh_line, e]
@[simp] theorem ne_shut_line : dCmp .NotEq (.str "shut") (.str "line") = .ok (.bool true) := by
  have e : PyData.eqv (.str "shut") (.str "line") = false := by decide +kernel
  rw [c_ne sh_shut sh_line, e]; rfl
@[simp] theorem eq_shut_bow : dCmp .Eq (.str "shut") (.str "bow") = .ok (.bool false) := by
  have e : PyData.eqv (.str "shut") (.str "bow") = false := by decide +kernel
  rw [c_eq sh_shut sh_bow, e]
@[simp] theorem ne_shut_bow : dCmp .NotEq (.str "shut") (.str "bow") = .ok (.bool true) := by
  have e : PyData.eqv (.str "shut") (.str "bow") = false := by decide +kernel
  rw [c_ne sh_shut sh_bow, e]; rfl
@[simp] theorem eq_shut_wave : dCmp .Eq (.str "shut") (.str "wave") = .ok (.bool false) := by
  have e : PyData.eqv (.str "shut") (.str "wave") = false := by decide +kernel
  rw [c_eq sh_shut sh_wave, e]
@[simp] theorem ne_shut_wave : dCmp .NotEq (.str "shut") (.str "wave") = .ok (.bool true) := by
  have e : PyData.eqv (.str "shut") (.str "wave") = false := by decide +kernel
  rw [c_ne sh_shut sh_wave, e]; rfl
@[simp] theorem eq_shut_shut : dCmp .Eq (.str "shut") (.str "shut") = .ok (.bool true) := by
  have e : PyData.eqv (.str "shut") (.str "shut") = true := by decide +kernel
  rw [c_eq sh_shut sh_shut, e]
@[simp] theorem ne_shut_shut : dCmp .NotEq (.str "shut") (.str "shut") = .ok (.bool false) := by
  have e : PyData.eqv (.str "shut") (.str "shut") = true := by decide +kernel
  rw [c_ne sh_shut sh_shut, e]; rfl
@[simp] theorem in_shut : dCmp .In (.str "shut") (.tuple [.str "bow", .str "wave"]) = .ok (.bool false) := by
  have h : dIn (.str "shut") (.tuple [.str "bow", .str "wave"]) = (if flatD (.str "shut") && [PyData.str "bow", .str "wave"].all flatD then .ok ([PyData.str "bow", .str "wave"].any fun y => PyData.eqv y (.str "shut")) else .no) := rfl
  have e : ([PyData.str "bow", .str "wave"].any fun y => PyData.eqv y (.str "shut")) = false := by decide +kernel
  simp only [dCmp, h, e]; rfl
theorem enc_mv {p : P} : enc (Sk.mv p) = .tuple [.str "move", enc p] := rfl
theorem enc_ln {p : P} : enc (Sk.ln p) = .tuple [.str "line", enc p] := rfl
theorem enc_bw {c p : P} : enc (Sk.bw c p) = .tuple [.str "bow", enc c, enc p] := rfl
theorem enc_wv {c d p : P} : enc (Sk.wv c d p) = .tuple [.str "wave", enc c, enc d, enc p] := rfl
theorem enc_sh : enc Sk.sh = .tuple [.str "shut"] := rfl
theorem dbig9 : 1000000000 < DBIG := by
  unfold DBIG
  generalize hx : (8990 : Nat) = x
  have : 2 ^ 30 ≤ 2 ^ x := Nat.pow_le_pow_right (by decide) (by omega)
  omega
theorem b_divL {i j : Int} (h : 0 < j) (g : j < 1000000000) : dBin .FloorDiv (.int i) (.int j) = .ok (.int (i.fdiv j)) := b_div (by omega) (by have := dbig9; omega)
theorem b_modL {i j : Int} (h : 0 < j) : dBin .Mod (.int i) (.int j) = .ok (.int (i.fmod j)) := b_mod (by omega)
theorem b_mulR {i j : Int} (h : j.natAbs < 9223372036854775808) : dBin .Mult (.int i) (.int j) = .ok (.int (i * j)) := by
  simp only [dBin]; rw [if_pos]; simp [mulOk, h]
theorem b_mulL {i j : Int} (h : i.natAbs < 9223372036854775808) : dBin .Mult (.int i) (.int j) = .ok (.int (i * j)) := by
  simp only [dBin]; rw [if_pos]; simp [mulOk, h]
theorem fm {i j : Int} (h : 0 < j) : 0 ≤ i.fmod j ∧ i.fmod j < j := ⟨Int.fmod_nonneg_of_pos i h, Int.fmod_lt_of_pos i h⟩
theorem forGo_inv {f : D → Env → Out} {ds : List D} (I : Nat → Env → Prop) (h : ∀ i d ρ, ds[i]? = some d → I i ρ → ∃ ρ', f d ρ = .nx ρ' ∧ I (i + 1) ρ') : ∀ ρ, I 0 ρ → ∃ ρ', forGo f ds ρ = .nx ρ' ∧ I ds.length ρ' := by
  induction ds generalizing I with
  | nil => intro ρ h0; exact ⟨ρ, rfl, h0⟩
  | cons d ds ih =>
    intro ρ h0
    obtain ⟨ρ1, e1, h1⟩ := h 0 d ρ rfl h0
    obtain ⟨ρ2, e2, h2⟩ := ih (fun i => I (i + 1)) (fun i d ρ hd hi => h (i + 1) d ρ (by simpa using hd) hi) ρ1 h1
    refine ⟨ρ2, ?_, h2⟩
    simp only [forGo, e1, e2]
/-- a loop that folds -/
theorem forGo_fold {α β : Type} {f : D → Env → Out} (en : α → D) (R : β → Env) (st : β → α → β) (I : Nat → β → Prop) (xs : List α)
    (h : ∀ i a s, xs[i]? = some a → I i s → f (en a) (R s) = .nx (R (st s a)) ∧ I (i + 1) (st s a)) : ∀ s, I 0 s → forGo f (xs.map en) (R s) = .nx (R (xs.foldl st s)) ∧ I xs.length (xs.foldl st s) := by
  induction xs generalizing I with
  | nil => intro s h0; exact ⟨rfl, h0⟩
  | cons a xs ih =>
    intro s h0
    obtain ⟨e1, h1⟩ := h 0 a s rfl h0
    obtain ⟨e2, h2⟩ := ih (fun i => I (i + 1)) (fun i a s hd hi => h (i + 1) a s (by simpa using hd) hi) _ h1
    refine ⟨?_, h2⟩
    simp only [List.map_cons, forGo, e1, e2, List.foldl_cons]
theorem mupto_get {n : Nat} {lo : Int} {i : Nat} {d : D} (h : (upto n lo)[i]? = some d) : i < n ∧ d = .int (lo + i) := by
  obtain ⟨h1, h2⟩ := List.getElem?_eq_some_iff.mp h
  simp only [upto, List.length_map, List.length_range] at h1
  simp only [upto, List.getElem_map, List.getElem_range] at h2
  exact ⟨h1, h2.symm⟩
@[simp] theorem upto_len {n : Nat} {lo : Int} : (upto n lo).length = n := by simp [upto]
theorem ix_some {xs : List Int} {j : Int} (h0 : 0 ≤ j) (h1 : j < xs.length) : ∃ v ∈ xs, dIdx (.tuple (xs.map PyData.int)) (.int j) = .ok (.int v) := by
  obtain ⟨i, rfl⟩ := Int.eq_ofNat_of_zero_le h0
  have hi : i < xs.length := by omega
  exact ⟨xs[i], List.getElem_mem .., ix_tup (by simp [hi])⟩
end Rf
namespace Rf
open PySem Dp
open Enc (enc)
/-- a fraction of M-ths, at most N of them -/
def Sz (M N : Nat) (q : Rat) : Prop := ∃ k : Int, q * M = k ∧ k.natAbs ≤ N
theorem Sz.ok {M N : Nat} {q : Rat} (h : Sz M N q) (h0 : 0 < M) (hM : M < SB) (hN : N < SB) : Ok q := by
  obtain ⟨k, e, hk⟩ := h
  have m0 : (M : Rat) ≠ 0 := by
    have := (Rat.natCast_pos (a := M)).mpr h0
    exact Rat.ne_of_gt this
  have e2 : q = Rat.divInt k M := by
    rw [Rat.divInt_eq_div]
    rw [← e]
    show q = q * (M : Rat) / (M : Rat)
    rw [Rat.mul_div_cancel m0]
  rw [e2]
  refine ⟨?_, ?_⟩
  · rw [Rat.num_divInt, Int.sign_eq_one_of_pos (by omega), Int.one_mul, Int.natAbs_ediv_of_dvd (Int.gcd_dvd_right ..)]
    exact Nat.lt_of_le_of_lt (Nat.le_trans (Nat.div_le_self ..) hk) hN
  · rw [Rat.den_divInt, if_neg (by omega)]
    exact Nat.lt_of_le_of_lt (Nat.div_le_self ..) hM
theorem Sz.mono {M N N' : Nat} {q : Rat} (h : Sz M N q) (hN : N ≤ N') : Sz M N' q := by
  obtain ⟨k, e, hk⟩ := h; exact ⟨k, e, Nat.le_trans hk hN⟩
theorem Sz.add {M N N' : Nat} {p q : Rat} (h : Sz M N p) (g : Sz M N' q) : Sz M (N + N') (p + q) := by
  obtain ⟨k, e, hk⟩ := h; obtain ⟨l, f, hl⟩ := g
  refine ⟨k + l, ?_, by omega⟩
  rw [Rat.intCast_add, Rat.add_mul, e, f]
theorem Sz.neg {M N : Nat} {p : Rat} (h : Sz M N p) : Sz M N (-p) := by
  obtain ⟨k, e, hk⟩ := h
  refine ⟨-k, ?_, by omega⟩
  rw [Rat.intCast_neg, Rat.neg_mul, e]
theorem Sz.sub {M N N' : Nat} {p q : Rat} (h : Sz M N p) (g : Sz M N' q) : Sz M (N + N') (p - q) := by
  rw [Rat.sub_eq_add_neg]; exact h.add g.neg
theorem Sz.mul {M M' N N' : Nat} {p q : Rat} (h : Sz M N p) (g : Sz M' N' q) : Sz (M * M') (N * N') (p * q) := by
  obtain ⟨k, e, hk⟩ := h; obtain ⟨l, f, hl⟩ := g
  refine ⟨k * l, ?_, by rw [Int.natAbs_mul]; exact Nat.mul_le_mul hk hl⟩
  rw [Rat.intCast_mul, ← e, ← f, Rat.natCast_mul]
  grind
theorem Sz.up {M N : Nat} {p : Rat} (K : Nat) (h : Sz M N p) : Sz (M * K) (N * K) p := by
  obtain ⟨k, e, hk⟩ := h
  refine ⟨k * K, ?_, by rw [Int.natAbs_mul]; exact Nat.mul_le_mul hk (by simp)⟩
  have c : ((K : Int) : Rat) = (K : Rat) := rfl
  rw [Rat.intCast_mul, ← e, Rat.natCast_mul, c]
  grind
theorem Sz.int (N : Nat) (k : Int) (h : k.natAbs ≤ N) : Sz 1 N (k : Rat) := ⟨k, by simp, h⟩
theorem sb_lit : 10 ^ 90 < SB := by
  unfold SB
  generalize hx : (4000 : Nat) = x
  have : 2 ^ 300 ≤ 2 ^ x := Nat.pow_le_pow_right (by decide) (by omega)
  have : 10 ^ 90 < 2 ^ 300 := by decide +kernel
  omega
/-- points of the law's ways: hundredths -/
abbrev SzP (N : Nat) (p : P) : Prop := Sz 100 N p.1 ∧ Sz 100 N p.2
theorem Sz.ok100 {N : Nat} {q : Rat} (h : Sz 100 N q) (hN : N < 10 ^ 90) : Ok q := h.ok (by decide) (Nat.lt_trans (by decide) sb_lit) (Nat.lt_trans hN sb_lit)

theorem law_fr_ok {a b : Int} (h : b ≠ 0) (hb : b.natAbs < DBIG) : f__law_fr [.int a, .int b] = .ok (enc (Rat.divInt a b)) := by
  have g0 : (Int.gcd a b : Int) ≠ 0 := by
    have := Int.gcd_pos_of_ne_zero_right a h
    omega
  have gl : Int.gcd a b < DBIG := Nat.lt_of_le_of_lt (Nat.le_of_dvd (by omega) (by rw [Int.gcd]; exact Nat.gcd_dvd_right ..)) hb
  have d1 : (Int.gcd a b : Int) ∣ a := Int.gcd_dvd_left ..
  have d2 : (Int.gcd a b : Int) ∣ b := Int.gcd_dvd_right ..
  rw [f__law_fr, run2, b__law_fr]
  simp only [Nat.reduceSub, List.replicate, ss_cons, s_set, s_whl, seq_nx, e_bi, e_cons, e_var, e_nil, List.getElem?_cons_zero, List.getElem?_cons_succ, Res.bind_ok, bi_abs, ofR_ok, List.set_cons_zero, List.set_cons_succ, abs_nat]
  rw [whl_gcd (R := fun x y => [.im (.int a), .im (.int b), .im (.int x), .im (.int y)]) (by intro a b; simp [tE]) (by intro a b h; simp [sE, dBin, Int.ne_of_gt h]) FUEL a.natAbs b.natAbs (Nat.lt_trans hb dbig_lt)]
  have eg : ((a.natAbs.gcd b.natAbs : Nat) : Int) = (Int.gcd a b : Int) := rfl
  rw [eg]
  rw [enc_rat, Rat.num_divInt, Rat.den_divInt, Int.gcd_comm b a, if_neg h]
  rcases Int.lt_or_gt_of_ne h with hn | hp
  · have e1 (i : Int) : dBin .FloorDiv (.int i) (.int (-(Int.gcd a b : Int))) = .ok (.int (i.fdiv (-(Int.gcd a b : Int)))) := b_div (by omega) (by simpa using gl)
    simp [hn, e1]
    rw [fdiv_gcd' d1, fdiv_gcd' d2, Int.sign_eq_neg_one_of_neg hn]
    refine ⟨?_, ?_⟩
    · rw [Int.neg_mul, Int.one_mul, Int.neg_ediv_of_dvd d1]
    · have e : (b.natAbs : Int) = -b := by omega
      rw [← Int.natCast_ediv, Int.natCast_ediv, e, Int.neg_ediv_of_dvd d2]
  · have e0 : ¬ b < 0 := by omega
    have e1 (i : Int) : dBin .FloorDiv (.int i) (.int (Int.gcd a b : Int)) = .ok (.int (i.fdiv (Int.gcd a b : Int))) := b_div g0 (by simpa using gl)
    simp [e0, e1]
    rw [fdiv_gcd d1, fdiv_gcd d2, Int.sign_eq_one_of_pos hp, Int.one_mul]
    refine ⟨rfl, ?_⟩
    have e : (b.natAbs : Int) = b := by omega
    rw [e]
theorem mk_neg {q : Rat} : PyData.tuple [.int (-q.num), .int q.den] = enc (-q) := by rw [enc_rat]; rfl
theorem Ok.neg {q : Rat} (h : Ok q) : Ok (-q) := ⟨by rw [Rat.neg_num, Int.natAbs_neg]; exact h.n, by rw [Rat.neg_den]; exact h.d⟩
section
variable {p q : Rat} (hp : Ok p) (hq : Ok q)
include hp hq
theorem law_plus_ok : f__law_plus [enc p, enc q] = .ok (enc (p + q)) := by
  rw [f__law_plus, run2, b__law_plus]
  obtain ⟨h1, h2⟩ := den_ok hp hq
  simp [b_mul hp.n hq.d', b_mul hq.n hp.d', b_mul hp.d' hq.d', law_fr_ok h1 h2, divInt_add]
theorem law_times_ok : f__law_times [enc p, enc q] = .ok (enc (p * q)) := by
  rw [f__law_times, run2, b__law_times]
  obtain ⟨h1, h2⟩ := den_ok hp hq
  simp [b_mul hp.n hq.n, b_mul hp.d' hq.d', law_fr_ok h1 h2, divInt_mul]
theorem law_minus_ok : f__law_minus [enc p, enc q] = .ok (enc (p - q)) := by
  rw [f__law_minus, run2, b__law_minus]
  simp [mk_neg, law_plus_ok hp hq.neg, Rat.sub_eq_add_neg]
theorem law_is_less_ok : f__law_is_less [enc p, enc q] = .ok (.bool (decide (p < q))) := by
  rw [f__law_is_less, run2, b__law_is_less]
  simp [b_mul hp.n hq.d', b_mul hq.n hp.d', Rat.lt_iff]
end
abbrev OkP (p : P) : Prop := Ok p.1 ∧ Ok p.2
def pAdd (p q : P) : P := (p.1 + q.1, p.2 + q.2)
def pSub (p q : P) : P := (p.1 - q.1, p.2 - q.2)
def pMul (t : Rat) (q : P) : P := (t * q.1, t * q.2)
section
variable {p q : P} {t : Rat} (hp : OkP p) (hq : OkP q) (ht : Ok t)
include hq
theorem law_add_ok (hp : OkP p) : f__law_add [enc p, enc q] = .ok (enc (pAdd p q)) := by
  rw [f__law_add, run2, b__law_add]
  simp [law_plus_ok hp.1 hq.1, law_plus_ok hp.2 hq.2, mk_pair, pAdd]
theorem law_sub_ok (hp : OkP p) : f__law_sub [enc p, enc q] = .ok (enc (pSub p q)) := by
  rw [f__law_sub, run2, b__law_sub]
  simp [law_minus_ok hp.1 hq.1, law_minus_ok hp.2 hq.2, mk_pair, pSub]
theorem law_scale_ok (ht : Ok t) : f__law_scale [enc t, enc q] = .ok (enc (pMul t q)) := by
  rw [f__law_scale, run2, b__law_scale]
  simp [law_times_ok ht hq.1, law_times_ok ht hq.2, mk_pair, pMul]
theorem moved_ok (hp : OkP p) : f_moved [enc p, enc q] = .ok (enc (pAdd p q)) := by
  rw [f_moved, run2, b_moved]
  simp [plus_ok hp.1 hq.1, plus_ok hp.2 hq.2, mk_pair, pAdd]
theorem apart_ok (hp : OkP p) : f_apart [enc p, enc q] = .ok (enc (pSub p q)) := by
  rw [f_apart, run2, b_apart]
  simp [minus_ok hp.1 hq.1, minus_ok hp.2 hq.2, mk_pair, pSub]
theorem scaled_ok (ht : Ok t) : f_scaled [enc t, enc q] = .ok (enc (pMul t q)) := by
  rw [f_scaled, run2, b_scaled]
  simp [times_ok ht hq.1, times_ok ht hq.2, mk_pair, pMul]
end
theorem law_drawn_ok (n k : Int) : ∃ v : Int, f__law_drawn [.int n, .int k] = .ok (.int v) ∧ 0 ≤ v ∧ v < 2147483629 := by
  rw [f__law_drawn, run2, b__law_drawn]
  have h := fm (i := (n + 104729 * k + 17) * 69621) (j := 2147483647) (by decide)
  have h2 := fm (i := ((n + 104729 * k + 17) * 69621).fmod 2147483647 * ((n + 104729 * k + 17) * 69621).fmod 2147483647 + 3 * ((n + 104729 * k + 17) * 69621).fmod 2147483647 + k) (j := 2147483629) (by decide)
  refine ⟨_, ?_, h2⟩
  simp [b_mulL, b_mulR, b_modL]
  rw [b_mulL (by omega)]
  simp [b_modL]
theorem law_mixed_ok (ns : List Int) (k : Nat) : ∃ v : Int, f__law_mixed [.list (ns.map PyData.int), .int k] = .ok (.int v) ∧ 0 ≤ v ∧ v < 2147483629 := by
  have hc : ∃ c : Int, f__law_cell_at [.list (ns.map PyData.int), .int k] = .ok (.int c) := by
    rw [f__law_cell_at, run2, b__law_cell_at]
    by_cases h : (k : Int) < ns.length
    · have hk : k < ns.length := by omega
      have : dIdx (.list (ns.map PyData.int)) (.int k) = .ok (.int ns[k]) := ix_lst (by simp [hk])
      exact ⟨ns[k], by simp [h, hk, this]⟩
    · have hk : ¬ k < ns.length := by omega
      exact ⟨0, by simp [hk]⟩
  obtain ⟨c, hc⟩ := hc
  rw [f__law_mixed, run2, b__law_mixed]
  have h := fm (i := (c + 7919 * k + 1) * 48271) (j := 2147483647) (by decide)
  have h2 := fm (i := ((c + 7919 * k + 1) * 48271).fmod 2147483647 * ((c + 7919 * k + 1) * 48271).fmod 2147483647 + 7 * ((c + 7919 * k + 1) * 48271).fmod 2147483647 + k) (j := 2147483629) (by decide)
  refine ⟨_, ?_, h2⟩
  simp [b_mulL, b_mulR, b_modL, hc]
  rw [b_mulL (by omega)]
  simp [b_modL]
theorem law_number_ok (n : Int) : ∃ q : Rat, f__law_number [.int n] = .ok (enc q) ∧ q.den ∈ [1, 2, 4, 5, 10, 20, 25, 50, 100] ∧ q.num.natAbs ≤ 1500 := by
  rw [f__law_number, run1, b__law_number]
  have a1 := fm (i := n.fdiv 16) (j := 2) (by decide)
  obtain ⟨m, hm, em⟩ := ix_some (xs := [2, 10]) a1.1 (by simpa using a1.2)
  have m0 : 0 < m ∧ m ≤ 10 := by simp at hm; omega
  have a2 := fm (i := n) (j := m) m0.1
  obtain ⟨l, hl, el⟩ := ix_some (xs := [1, 1, 2, 4, 5, 10, 20, 25, 50, 100]) a2.1 (by simp; omega)
  have a3 := fm (i := n.fdiv 64) (j := 3) (by decide)
  obtain ⟨w, hw, ew⟩ := ix_some (xs := [3, 12, 1500]) a3.1 (by simpa using a3.2)
  have w0 : 0 < w ∧ w ≤ 1500 := by simp at hw; omega
  have a4 := fm (i := n.fdiv 256) (j := 2 * w + 1) (by omega)
  have l0 : 0 < l ∧ l ≤ 100 := by simp at hl; omega
  have hd := dbig9
  simp only [List.map] at em el ew
  refine ⟨Rat.divInt ((n.fdiv 256).fmod (2 * w + 1) - w) l, ?_, ?_, ?_⟩
  · simp [b_divL, b_modL, em, el, ew, b_mulL, m0.1]
    rw [b_modL (by omega)]
    simp [law_fr_ok (show l ≠ 0 by omega) (by omega)]
  · rw [Rat.den_divInt, if_neg (by omega)]
    have hg : l.natAbs / l.gcd ((n.fdiv 256).fmod (2 * w + 1) - w) ∣ 100 := by
      have h1 : l.natAbs / l.gcd ((n.fdiv 256).fmod (2 * w + 1) - w) ∣ l.natAbs := Nat.div_dvd_of_dvd (by rw [Int.gcd]; exact Nat.gcd_dvd_left ..)
      have h2 : l.natAbs ∣ 100 := by
        simp at hl
        rcases hl with rfl | rfl | rfl | rfl | rfl | rfl | rfl | rfl | rfl <;> decide
      exact Nat.dvd_trans h1 h2
    have : ∀ d : Nat, d ≤ 100 → d ∣ 100 → d ∈ [1, 2, 4, 5, 10, 20, 25, 50, 100] := by decide
    exact this _ (Nat.le_of_dvd (by decide) hg) hg
  · rw [Rat.num_divInt, Int.sign_eq_one_of_pos (by omega), Int.one_mul, Int.natAbs_ediv_of_dvd (Int.gcd_dvd_right ..)]
    exact Nat.le_trans (Nat.div_le_self ..) (by omega)
theorem sz_of {q : Rat} (h : q.den ∈ [1, 2, 4, 5, 10, 20, 25, 50, 100]) (g : q.num.natAbs ≤ 1500) : Sz 100 150000 q := by
  have hd : q.den ∣ 100 := by
    simp at h
    rcases h with h | h | h | h | h | h | h | h | h <;> rw [h] <;> decide
  obtain ⟨c, hc⟩ := hd
  have h0 := q.den_nz
  refine ⟨q.num * c, ?_, ?_⟩
  · have e : q * (q.den : Rat) = q.num := by
      have := Rat.num_divInt_den q
      rw [Rat.divInt_eq_div] at this
      have d0 : ((q.den : Int) : Rat) ≠ 0 := by
        have := (Rat.natCast_pos (a := q.den)).mpr (by omega)
        exact Rat.ne_of_gt this
      have t := Rat.div_mul_cancel (a := (q.num : Rat)) d0
      rw [this] at t
      exact t
    have c1 : ((c : Int) : Rat) = (c : Rat) := rfl
    have c2 : ((100 : Nat) : Rat) = (q.den : Rat) * (c : Rat) := by rw [← Rat.natCast_mul, hc]
    rw [Rat.intCast_mul, ← e, c1, c2, Rat.mul_assoc]
  · rw [Int.natAbs_mul]
    have : c ≤ 100 := by
      have : 1 * c ≤ q.den * c := Nat.mul_le_mul_right c (by omega)
      omega
    calc q.num.natAbs * (c : Int).natAbs ≤ 1500 * 100 := Nat.mul_le_mul g (by simpa using this)
      _ = 150000 := rfl
/-- as the law draws them -/
structure Nb (q : Rat) : Prop where
  d : q.den ∈ [1, 2, 4, 5, 10, 20, 25, 50, 100]
  n : q.num.natAbs ≤ 1500
theorem law_point_ok (n : Int) : ∃ p : P, f__law_point [.int n] = .ok (enc p) ∧ Nb p.1 ∧ Nb p.2 := by
  rw [f__law_point, run1, b__law_point]
  obtain ⟨v1, e1, _⟩ := law_drawn_ok n 1
  obtain ⟨v2, e2, _⟩ := law_drawn_ok n 2
  obtain ⟨q1, f1, g1, h1⟩ := law_number_ok (v1.fdiv 4)
  obtain ⟨q2, f2, g2, h2⟩ := law_number_ok (v2.fdiv 4)
  exact ⟨(q1, q2), by simp [e1, e2, b_divL, f1, f2, mk_pair], ⟨g1, h1⟩, ⟨g2, h2⟩⟩
theorem law_pointS (n : Int) : ∃ p : P, f__law_point [.int n] = .ok (enc p) ∧ SzP 150000 p := by
  obtain ⟨p, e, h1, h2⟩ := law_point_ok n
  exact ⟨p, e, sz_of h1.d h1.n, sz_of h2.d h2.n⟩
theorem law_goal_ok {N : Nat} (n : Int) {p b : P} (hp : SzP N p) (hb : SzP N b) (hN : 150000 ≤ N) : ∃ g : P, f__law_goal [.int n, enc p, enc b] = .ok (enc g) ∧ SzP N g := by
  rw [f__law_goal, run3, b__law_goal]
  obtain ⟨r, er, hr⟩ := law_pointS (n.fdiv 8)
  have hr1 := hr.1.mono hN
  have hr2 := hr.2.mono hN
  by_cases h0 : n.fmod 8 = 0
  · exact ⟨p, by simp [b_modL, h0], hp⟩
  by_cases h1 : n.fmod 8 = 1
  · exact ⟨b, by simp [b_modL, h1], hb⟩
  by_cases h2 : n.fmod 8 = 2
  · exact ⟨(p.1, r.2), by simp [b_modL, b_divL, h2, er, mk_pair], hp.1, hr2⟩
  by_cases h3 : n.fmod 8 = 3
  · exact ⟨(r.1, p.2), by simp [b_modL, b_divL, h3, er, mk_pair], hr1, hp.2⟩
  · exact ⟨r, by simp [b_modL, b_divL, h0, h1, h2, h3, er, mk_pair], hr1, hr2⟩
end Rf
namespace Rf
open PySem Dp
open Enc (enc)
section
variable {a b c d : D}
@[simp] theorem ix2_1 : dIdx (.tuple [a, b]) (.int 1) = .ok b := Res.nrf rfl
@[simp] theorem ix3_1 : dIdx (.tuple [a, b, c]) (.int 1) = .ok b := Res.nrf rfl
@[simp] theorem ix4_1 : dIdx (.tuple [a, b, c, d]) (.int 1) = .ok b := Res.nrf rfl
@[simp] theorem ix3_2 : dIdx (.tuple [a, b, c]) (.int 2) = .ok c := Res.nrf rfl
@[simp] theorem ix4_2 : dIdx (.tuple [a, b, c, d]) (.int 2) = .ok c := Res.nrf rfl
@[simp] theorem ix4_3 : dIdx (.tuple [a, b, c, d]) (.int 3) = .ok d := Res.nrf rfl
@[simp] theorem ix1_m1 : dIdx (.tuple [a]) (.int (-1)) = .ok a := Res.nrf rfl
@[simp] theorem ix2_m1 : dIdx (.tuple [a, b]) (.int (-1)) = .ok b := Res.nrf rfl
@[simp] theorem ix3_m1 : dIdx (.tuple [a, b, c]) (.int (-1)) = .ok c := Res.nrf rfl
@[simp] theorem ix4_m1 : dIdx (.tuple [a, b, c, d]) (.int (-1)) = .ok d := Res.nrf rfl
@[simp] theorem ix5_3 {e : D} : dIdx (.tuple [a, b, c, d, e]) (.int 3) = .ok d := Res.nrf rfl
@[simp] theorem ix5_4 {e : D} : dIdx (.tuple [a, b, c, d, e]) (.int 4) = .ok e := Res.nrf rfl
@[simp] theorem ix2_m2 : dIdx (.tuple [a, b]) (.int (-2)) = .ok a := Res.nrf rfl
@[simp] theorem ix3_m2 : dIdx (.tuple [a, b, c]) (.int (-2)) = .ok b := Res.nrf rfl
@[simp] theorem ix4_m2 : dIdx (.tuple [a, b, c, d]) (.int (-2)) = .ok c := Res.nrf rfl
end
abbrev SzS (N : Nat) (s : Sk) : Prop := ∀ p ∈ s.pts, SzP N p
theorem SzP.mono {M N : Nat} {p : P} (h : SzP M p) (g : M ≤ N) : SzP N p := ⟨h.1.mono g, h.2.mono g⟩
theorem SzP.ok {N : Nat} {p : P} (h : SzP N p) (g : N < 10 ^ 90) : OkP p := ⟨h.1.ok100 g, h.2.ok100 g⟩
theorem SzS.mono {M N : Nat} {s : Sk} (h : SzS M s) (g : M ≤ N) : SzS N s := fun p hp => (h p hp).mono g
theorem enc_two : PyData.tuple [.int 2, .int 1] = enc (2 : Rat) := rfl
theorem enc_zero : PyData.tuple [.int 0, .int 1] = enc (0 : Rat) := rfl
theorem enc_zz : PyData.tuple [PyData.tuple [.int 0, .int 1], PyData.tuple [.int 0, .int 1]] = enc ((0, 0) : P) := rfl
theorem mk_one {α : Type} [Enc α] (a : α) : PyData.tuple [enc a] = enc [a] := rfl
theorem ok_two : Ok 2 := ⟨Nat.lt_trans (by decide) sb_lit, Nat.lt_trans (by decide) sb_lit⟩
/-- where a stroke ends, b told for shuts -/
def endOf0 (s : Sk) (b : P) : P := match s with
  | .mv p => p
  | .ln p => p
  | .bw _ p => p
  | .wv _ _ p => p
  | .sh => b
theorem law_stroke_ok {N : Nat} (n : Int) {p b : P} {h : Sk} (hp : SzP 150000 p) (hb : SzP 150000 b) (hh : SzS N h) (hN : 150000 ≤ N) (hX : N < 10 ^ 80) :
    ∃ s : Sk, f__law_stroke [.int n, enc p, enc b, enc h] = .ok (enc s) ∧ SzS (N + 300000) s ∧ SzP 150000 (endOf0 s b) := by
  rw [f__law_stroke, run4, b__law_stroke]
  obtain ⟨g, eg, hg⟩ := law_goal_ok (n.fdiv 8) hp hb (Nat.le_refl _)
  obtain ⟨r, er, hr⟩ := law_pointS (n.fdiv 64)
  obtain ⟨t, et, ht⟩ := law_pointS (n.fdiv 512)
  have hg' := hg.mono (show 150000 ≤ N + 300000 by omega)
  have hr' := hr.mono (show 150000 ≤ N + 300000 by omega)
  have ht' := ht.mono (show 150000 ≤ N + 300000 by omega)
  have h9 : N < 10 ^ 90 := Nat.lt_trans hX (by decide)
  have t2 : Sz 1 2 (2 : Rat) := Sz.int 2 2 (by decide)
  have m2 {c : P} (hc : SzP N c) : SzP (N + 300000) (pSub (pMul 2 p) c) := by
    have a := ((t2.mul hp.1).sub (by simpa using hc.1)).mono (show 2 * 150000 + N ≤ N + 300000 by omega)
    have b := ((t2.mul hp.2).sub (by simpa using hc.2)).mono (show 2 * 150000 + N ≤ N + 300000 by omega)
    exact ⟨by simpa [pSub, pMul] using a, by simpa [pSub, pMul] using b⟩
  have e1 {c : P} (hc : SzP N c) : f__law_sub [enc (pMul 2 p), enc c] = .ok (enc (pSub (pMul 2 p) c)) := by
    refine law_sub_ok (hc.ok h9) ?_
    have a := (t2.mul hp.1)
    have b := (t2.mul hp.2)
    have h9 : 2 * 150000 < 10 ^ 90 := by omega
    exact ⟨Sz.ok100 (by simpa [pMul] using a) h9, Sz.ok100 (by simpa [pMul] using b) h9⟩
  have e2 : f__law_scale [enc (2 : Rat), enc p] = .ok (enc (pMul 2 p)) := law_scale_ok (hp.ok (by decide)) ok_two
  let post : P → Sk := fun f => if n.fmod 8 = 0 then .mv g else if n.fmod 8 < 4 then .ln g else if n.fmod 8 = 4 then .bw f g else if n.fmod 8 < 7 then .wv f t g else .sh
  have sz : ∀ f, SzP (N + 300000) f → SzS (N + 300000) (post f) := by
    intro f hf
    dsimp only [post]
    split
    · intro q hq; simp [Sk.pts] at hq; subst hq; exact hg'
    split
    · intro q hq; simp [Sk.pts] at hq; subst hq; exact hg'
    split
    · intro q hq; simp [Sk.pts] at hq; rcases hq with rfl | rfl <;> assumption
    split
    · intro q hq; simp [Sk.pts] at hq; rcases hq with rfl | rfl | rfl <;> assumption
    · intro q hq; simp [Sk.pts] at hq
  show ∃ s : Sk, fin (evSs b__law_stroke ([.im (.int n), .im (enc p), .im (enc b), .im (enc h), .un, .un, .un, .un])) = .ok (enc s) ∧ SzS (N + 300000) s ∧ SzP 150000 (endOf0 s b)
  have kk : ∃ f : P, SzP (N + 300000) f ∧ fin (evSs b__law_stroke ([.im (.int n), .im (enc p), .im (enc b), .im (enc h), .un, .un, .un, .un])) = .ok (enc (post f)) := by
    rw [b__law_stroke]
    by_cases h0 : (n.fdiv 4096).fmod 3 = 0
    · cases h with
      | mv q =>
        refine ⟨r, hr', ?_⟩
        simp [post, enc_mv, enc_ln, enc_bw, enc_wv, enc_sh, b_divL, b_modL, h0, enc_two, e2, eg, er, et, seq_ite, fin_ite]
        (repeat' split) <;> rfl
      | ln q =>
        refine ⟨r, hr', ?_⟩
        simp [post, enc_mv, enc_ln, enc_bw, enc_wv, enc_sh, b_divL, b_modL, h0, enc_two, e2, eg, er, et, seq_ite, fin_ite]
        (repeat' split) <;> rfl
      | bw c q =>
        have hc := hh c (by simp [Sk.pts])
        refine ⟨_, m2 hc, ?_⟩
        simp [post, enc_mv, enc_ln, enc_bw, enc_wv, enc_sh, b_divL, b_modL, h0, enc_two, e2, eg, er, et, seq_ite, fin_ite, e1 hc]
        (repeat' split) <;> rfl
      | wv c' c q =>
        have hc := hh c (by simp [Sk.pts])
        refine ⟨_, m2 hc, ?_⟩
        simp [post, enc_mv, enc_ln, enc_bw, enc_wv, enc_sh, b_divL, b_modL, h0, enc_two, e2, eg, er, et, seq_ite, fin_ite, e1 hc]
        (repeat' split) <;> rfl
      | sh =>
        refine ⟨r, hr', ?_⟩
        simp [post, enc_mv, enc_ln, enc_bw, enc_wv, enc_sh, b_divL, b_modL, h0, enc_two, e2, eg, er, et, seq_ite, fin_ite]
        (repeat' split) <;> rfl
    · refine ⟨r, hr', ?_⟩
      cases h <;> simp [post, enc_mv, enc_ln, enc_bw, enc_wv, enc_sh, b_divL, b_modL, h0, enc_two, e2, eg, er, et, seq_ite, fin_ite] <;> (repeat' split) <;> rfl
  obtain ⟨f, hf, e⟩ := kk
  refine ⟨post f, e, sz f hf, ?_⟩
  dsimp only [post]
  split
  · exact hg
  split
  · exact hg
  split
  · exact hg
  split
  · exact hg
  · exact hb
end Rf
namespace Rf
open PySem Dp
open Enc (enc)
theorem forGo_idx {f : D → Env → Out} {ds : List D} (R : Nat → Env) (h : ∀ i d, ds[i]? = some d → f d (R i) = .nx (R (i + 1))) {ρ : Env} (e : ρ = R 0) : forGo f ds ρ = .nx (R ds.length) := by
  obtain ⟨ρ', e', h'⟩ := forGo_inv (f := f) (ds := ds) (fun i ρ => ρ = R i) (fun i d ρ hd hi => ⟨R (i + 1), by rw [hi]; exact h i d hd, rfl⟩) ρ e
  rw [e', h']
theorem map_get {α : Type} {g : α → D} {xs : List α} {i : Nat} {d : D} (h : (xs.map g)[i]? = some d) : ∃ a, xs[i]? = some a ∧ d = g a := by
  simp only [List.getElem?_map, Option.map_eq_some_iff] at h
  obtain ⟨a, h, e⟩ := h
  exact ⟨a, h, e.symm⟩
theorem mcount_get : ∀ {xs : List D} {k : Int} {i : Nat} {d : D}, (count k xs)[i]? = some d → ∃ x, xs[i]? = some x ∧ d = .tuple [.int (k + i), x]
  | [], k, i, d, h => by simp [count] at h
  | x :: xs, k, 0, d, h => by
    simp only [count, List.getElem?_cons_zero, Option.some.injEq] at h
    exact ⟨x, rfl, by rw [← h]; simp⟩
  | x :: xs, k, i + 1, d, h => by
    simp only [count, List.getElem?_cons_succ] at h
    obtain ⟨y, h1, h2⟩ := mcount_get h
    exact ⟨y, by simpa using h1, by rw [h2]; congr 3; omega⟩
@[simp] theorem mcount_len : ∀ {xs : List D} {k : Int}, (count k xs).length = xs.length
  | [], _ => rfl
  | _ :: xs, k => by simp [count, mcount_len (xs := xs)]
theorem mpairs_get : ∀ {xs ys : List D} {i : Nat} {d : D}, (pairs xs ys)[i]? = some d → ∃ x y, xs[i]? = some x ∧ ys[i]? = some y ∧ d = .tuple [x, y]
  | [], ys, i, d, h => by simp [pairs] at h
  | _ :: _, [], i, d, h => by simp [pairs] at h
  | x :: xs, y :: ys, 0, d, h => by
    simp only [pairs, List.getElem?_cons_zero, Option.some.injEq] at h
    exact ⟨x, y, rfl, rfl, h.symm⟩
  | x :: xs, y :: ys, i + 1, d, h => by
    simp only [pairs, List.getElem?_cons_succ] at h
    obtain ⟨a, b, h1, h2, h3⟩ := mpairs_get h
    exact ⟨a, b, by simpa using h1, by simpa using h2, h3⟩
@[simp] theorem mpairs_len : ∀ {xs ys : List D}, (pairs xs ys).length = min xs.length ys.length
  | [], _ => by simp [pairs]
  | _ :: _, [] => by simp [pairs]
  | _ :: xs, _ :: ys => by simp [pairs, mpairs_len (xs := xs) (ys := ys)]
def isMv : Sk → Bool
  | .mv _ => true
  | _ => false
def isLn : Sk → Bool
  | .ln _ => true
  | _ => false
def isBw : Sk → Bool
  | .bw _ _ => true
  | _ => false
def isWv : Sk → Bool
  | .wv _ _ _ => true
  | _ => false
def isSh : Sk → Bool
  | .sh => true
  | _ => false
@[simp] theorem ix_s0 {s : Sk} : dIdx (enc s) (.int 0) = .ok (.str s.nam) := by rw [enc_sk]; exact ix_tup0
@[simp] theorem eq_nMv {s : Sk} : dCmp .Eq (.str s.nam) (.str "move") = .ok (.bool (isMv s)) := by cases s <;> simp [Sk.nam, isMv]
@[simp] theorem ne_nMv {s : Sk} : dCmp .NotEq (.str s.nam) (.str "move") = .ok (.bool (!isMv s)) := by cases s <;> simp [Sk.nam, isMv]
@[simp] theorem eq_nLn {s : Sk} : dCmp .Eq (.str s.nam) (.str "line") = .ok (.bool (isLn s)) := by cases s <;> simp [Sk.nam, isLn]
@[simp] theorem ne_nLn {s : Sk} : dCmp .NotEq (.str s.nam) (.str "line") = .ok (.bool (!isLn s)) := by cases s <;> simp [Sk.nam, isLn]
@[simp] theorem eq_nBw {s : Sk} : dCmp .Eq (.str s.nam) (.str "bow") = .ok (.bool (isBw s)) := by cases s <;> simp [Sk.nam, isBw]
@[simp] theorem ne_nBw {s : Sk} : dCmp .NotEq (.str s.nam) (.str "bow") = .ok (.bool (!isBw s)) := by cases s <;> simp [Sk.nam, isBw]
@[simp] theorem eq_nWv {s : Sk} : dCmp .Eq (.str s.nam) (.str "wave") = .ok (.bool (isWv s)) := by cases s <;> simp [Sk.nam, isWv]
@[simp] theorem ne_nWv {s : Sk} : dCmp .NotEq (.str s.nam) (.str "wave") = .ok (.bool (!isWv s)) := by cases s <;> simp [Sk.nam, isWv]
@[simp] theorem eq_nSh {s : Sk} : dCmp .Eq (.str s.nam) (.str "shut") = .ok (.bool (isSh s)) := by cases s <;> simp [Sk.nam, isSh]
@[simp] theorem ne_nSh {s : Sk} : dCmp .NotEq (.str s.nam) (.str "shut") = .ok (.bool (!isSh s)) := by cases s <;> simp [Sk.nam, isSh]
@[simp] theorem in_n {s : Sk} : dCmp .In (.str s.nam) (.tuple [.str "bow", .str "wave"]) = .ok (.bool (isBw s || isWv s)) := by cases s <;> simp [Sk.nam, isBw, isWv]
def begOf (s : Sk) (b : P) : P := match s with
  | .mv p => p
  | _ => b
def endOf (s : Sk) (b : P) : P := match s with
  | .mv p => p
  | .ln p => p
  | .bw _ p => p
  | .wv _ _ p => p
  | .sh => b
/-- the begin behind i strokes -/
def begF (w : List Sk) : Nat → P
  | 0 => (0, 0)
  | i + 1 => match w[i]? with
    | some s => begOf s (begF w i)
    | none => (0, 0)
/-- the pen behind i strokes -/
def penF (w : List Sk) : Nat → P
  | 0 => (0, 0)
  | i + 1 => match w[i]? with
    | some s => endOf s (begF w (i + 1))
    | none => (0, 0)
theorem begF_s {w : List Sk} {i : Nat} {s : Sk} (h : w[i]? = some s) : begF w (i + 1) = begOf s (begF w i) := by simp only [begF, h]
theorem penF_s {w : List Sk} {i : Nat} {s : Sk} (h : w[i]? = some s) : penF w (i + 1) = endOf s (begF w (i + 1)) := by simp only [penF, h]
def pensL (w : List Sk) : List P := (List.range (w.length + 1)).map (penF w)
def begsL (w : List Sk) : List P := (List.range w.length).map fun i => begF w (i + 1)
theorem map_range_succ {α : Type} (f : Nat → α) (n : Nat) : (List.range (n + 1)).map f = (List.range n).map f ++ [f n] := by simp [List.range_succ]
theorem b_addE {α : Type} [Enc α] {xs ys : List α} (h : xs.length + ys.length ≤ LIM) : dBin .Add (enc xs) (enc ys) = .ok (enc (xs ++ ys)) := by
  rw [enc_list, enc_list, enc_list, b_addT, List.length_map, List.length_map, if_pos h, List.map_append]
theorem it_E {α : Type} [Enc α] {xs : List α} (h : xs.length ≤ LIM) : itemsOf (enc xs) = .ok (xs.map enc) := by
  rw [enc_list, it_tup, List.length_map, if_pos h]
theorem ix_E {α : Type} [Enc α] {xs : List α} {i : Nat} {a : α} (h : xs[i]? = some a) : dIdx (enc xs) (.int (i : Int)) = .ok (enc a) := by
  rw [enc_list]; exact ix_tup (by simp [h])
theorem ix_last {xs : List D} {d : D} (h : xs.getLast? = some d) : dIdx (.tuple xs) (.int (-1)) = .ok d := by
  obtain ⟨ys, rfl⟩ := List.getLast?_eq_some_iff.mp h
  have e : (-1 + ((ys.length : Int) + 1)).toNat = ys.length := by omega
  have e2 : (1 : Int) ≤ (ys.length : Int) + 1 := by omega
  simp [dIdx, L2.atI, L2.ixN, e2, e]
theorem ix_Elast {α : Type} [Enc α] {xs : List α} {a : α} (h : xs.getLast? = some a) : dIdx (enc xs) (.int (-1)) = .ok (enc a) := by
  rw [enc_list]; exact ix_last (by simp [h])
theorem len_E {α : Type} [Enc α] {xs : List α} : dBi .len [enc xs] = .ok (.int xs.length) := by
  rw [enc_list, bi_lenT, List.length_map]
theorem tup_E {α : Type} [Enc α] {xs : List α} : dBi .tuple [enc xs] = .ok (enc xs) := rfl
theorem tup_L {α : Type} [Enc α] {xs : List α} : dBi .tuple [.list (xs.map enc)] = .ok (enc xs) := rfl
theorem lim6 : 1000000 < LIM := by decide
/-- the program's pens -/
theorem pens_ok {w : List Sk} (h : w.length < 1000) : f_pens [enc w] = .ok (enc (pensL w)) := by
  rw [f_pens, run1, b_pens]
  have hl := lim6
  simp [it_E (show w.length ≤ LIM by omega), g_BEGIN, enc_zz]
  rw [forGo_idx (fun i => [.im (enc w), .ow ((List.range i).map fun j => enc (penF w j)), .im (enc (penF w i)), .im (enc (begF w i)), .un]) ?_ (by simp [penF, begF])]
  · simp [show w.length < LIM by omega, pensL, enc_list, map_range_succ]
  · intro i d hd
    obtain ⟨s, hs, rfl⟩ := map_get hd
    have hi := (List.getElem?_eq_some_iff.mp hs).1
    rw [penF_s hs, begF_s hs, map_range_succ]
    simp only [fE]
    cases s <;> simp [show i < LIM by omega, g_MOVE, g_SHUT, enc_mv, enc_ln, enc_bw, enc_wv, enc_sh, begOf, endOf]
theorem begins_ok {w : List Sk} (h : w.length < 1000) : f_begins [enc w] = .ok (enc (begsL w)) := by
  rw [f_begins, run1, b_begins]
  have hl := lim6
  simp [it_E (show w.length ≤ LIM by omega), g_BEGIN, enc_zz]
  rw [forGo_idx (fun i => [.im (enc w), .ow ((List.range i).map fun j => enc (begF w (j + 1))), .im (enc (begF w i)), .un]) ?_ (by simp [penF, begF])]
  · simp [show w.length < LIM by omega, begsL, enc_list, map_range_succ]
  · intro i d hd
    obtain ⟨s, hs, rfl⟩ := map_get hd
    have hi := (List.getElem?_eq_some_iff.mp hs).1
    rw [map_range_succ, begF_s hs]
    simp only [fE]
    cases s <;> simp [show i < LIM by omega, g_MOVE, g_SHUT, enc_mv, enc_ln, enc_bw, enc_wv, enc_sh, begOf, endOf]
/-- what is found, what is drawn since -/
abbrev Pt := List (List Sk) × List Sk
def orMv : List Sk → P → List Sk
  | [], b => [.mv b]
  | x :: xs, _ => x :: xs
def partStep (st : Pt) (s : Sk) (b : P) : Pt :=
  if isMv s then (st.1 ++ [st.2], [s]) else if isSh s then (st.1 ++ [orMv st.2 b ++ [s]], []) else (st.1, orMv st.2 b ++ [s])
def partF (w : List Sk) : Nat → Pt
  | 0 => ([], [])
  | i + 1 => match w[i]? with
    | some s => partStep (partF w i) s (begF w (i + 1))
    | none => ([], [])
theorem partF_s {w : List Sk} {i : Nat} {s : Sk} (h : w[i]? = some s) : partF w (i + 1) = partStep (partF w i) s (begF w (i + 1)) := by simp only [partF, h]
def partsL (w : List Sk) : List (List Sk) := ((partF w w.length).1 ++ [(partF w w.length).2]).filter fun p => decide (1 < p.length)
theorem partF_len (w : List Sk) : ∀ i, i ≤ w.length → (partF w i).1.length ≤ i ∧ (partF w i).2.length ≤ i + 1
  | 0, _ => by simp [partF]
  | i + 1, h => by
    have hi : w[i]? = some w[i] := by simp [show i < w.length by omega]
    have ih := partF_len w i (by omega)
    rw [partF_s hi]
    generalize w[i] = s at hi
    generalize partF w i = st at ih
    rcases st with ⟨found, _ | ⟨x, xs⟩⟩ <;> cases s <;> simp [partStep, orMv, isMv, isSh] at ih ⊢ <;> omega
theorem lcGo_map {α : Type} {f : D → Res (Option D)} {en : α → D} (p : α → Bool) (g : α → D) : ∀ (xs : List α), (∀ a ∈ xs, f (en a) = .ok (if p a then some (g a) else none)) → lcGo f (xs.map en) = .ok ((xs.filter p).map g)
  | [], _ => rfl
  | a :: xs, h => by
    have h1 := h a (List.mem_cons_self ..)
    have h2 := lcGo_map p g xs fun b hb => h b (List.mem_cons_of_mem _ hb)
    simp only [List.map_cons, lcGo, h1, h2, Res.bind_ok]
    cases hp : p a <;> simp [hp]
theorem lcGo_all {α : Type} {f : D → Res (Option D)} {en : α → D} (g : α → D) (xs : List α) (h : ∀ a ∈ xs, f (en a) = .ok (some (g a))) : lcGo f (xs.map en) = .ok (xs.map g) := by
  rw [lcGo_map (fun _ => true) g xs (by simpa using h)]
  rw [List.filter_eq_self.mpr (by simp)]
theorem range_len {α : Type} (f : Nat → α) (n : Nat) : ((List.range n).map f).length = n := by simp
theorem begs_len (w : List Sk) : (begsL w).length = w.length := by simp [begsL]
theorem pens_len (w : List Sk) : (pensL w).length = w.length + 1 := by simp [pensL]
theorem begs_get {w : List Sk} {i : Nat} (h : i < w.length) : (begsL w)[i]? = some (begF w (i + 1)) := by simp [begsL, h]
theorem pens_get {w : List Sk} {i : Nat} (h : i ≤ w.length) : (pensL w)[i]? = some (penF w i) := by simp [pensL, show i < w.length + 1 by omega]
theorem dZip_E {α β : Type} [Enc α] [Enc β] {xs : List α} {ys : List β} (h : xs.length ≤ LIM) (g : ys.length ≤ LIM) : dZip (enc xs) (enc ys) = .ok (pairs (xs.map enc) (ys.map enc)) := by
  rw [enc_list, enc_list]
  show (if _ then _ else _) = _
  rw [if_pos]
  simpa using ⟨h, g⟩
theorem enc_nil {α : Type} [Enc α] : PyData.tuple [] = enc ([] : List α) := rfl
theorem parts_ok {w : List Sk} (h : w.length < 1000) : f_parts [enc w] = .ok (enc (partsL w)) := by
  rw [f_parts, run1, b_parts]
  have hl := lim6
  simp [dZip_E (show w.length ≤ LIM by omega) (show (begsL w).length ≤ LIM by rw [begs_len]; omega), begins_ok h]
  rw [forGo_idx (fun i => [.im (enc w), .ow ((partF w i).1.map enc), .im (enc (partF w i).2), .un, .un, .un]) ?_ (by simp [partF, enc_list])]
  · have := partF_len w w.length (by omega)
    have e := lcGo_map (f := lE [("part", 5)] (IT.nm 5) (IO.some (IE.cmp CmpOp.Gt (IE.bi Bi.len (IEs.cons (IE.var 5) IEs.nil)) (IE.int 1))) (IE.var 5) [.im (enc w), .im (.list (((partF w w.length).1 ++ [(partF w w.length).2]).map enc)), .im (enc (partF w w.length).2), .un, .un, .un]) (en := enc) (fun p : List Sk => decide (1 < p.length)) enc ((partF w w.length).1 ++ [(partF w w.length).2]) (by
      intro a ha
      by_cases h1 : 1 < a.length <;> simp [lE, len_E, h1, show ((1 : Int) < a.length) = (1 < a.length) by simp; omega])
    simp [begs_len, show (partF w w.length).1.length < LIM by omega, show (partF w w.length).1.length + 1 ≤ LIM by omega]
    simp at e
    rw [e]
    simp [partsL, enc_list]
  · intro i d hd
    obtain ⟨x, y, hx, hy, rfl⟩ := mpairs_get hd
    obtain ⟨s, hs, rfl⟩ := map_get hx
    obtain ⟨b, hb, rfl⟩ := map_get hy
    have hi := (List.getElem?_eq_some_iff.mp hs).1
    rw [begs_get hi] at hb
    cases hb
    have := partF_len w i (by omega)
    rw [partF_s hs]
    simp only [fE]
    generalize partF w i = st at this
    generalize begF w (i + 1) = b
    rcases st with ⟨found, some⟩
    have l1 : found.length < LIM := by have hL := lim6; simp only at this; omega
    have l2 : some.length < 1000000 := by simp at this; omega
    have e1 : dBin .Add (enc some) (.tuple [enc s]) = .ok (enc (some ++ [s])) := b_addE (ys := [s]) (by simp; omega)
    have e2 : dBin .Add (.tuple [enc (Sk.mv b)]) (.tuple [enc s]) = .ok (enc ([Sk.mv b] ++ [s])) := b_addE (xs := [Sk.mv b]) (ys := [s]) (by simp)
    by_cases hm : isMv s
    · have hs : isSh s = false := by cases s <;> simp_all [isMv, isSh]
      rcases some with _ | ⟨x, xs⟩ <;> simp [g_MOVE, g_SHUT, len_E, ← enc_mv, hm, hs, partStep, e1, e2, orMv, l1] <;> rfl
    · rcases some with _ | ⟨x, xs⟩
      · by_cases hs : isSh s <;> simp [g_MOVE, g_SHUT, len_E, ← enc_mv, hm, hs, partStep, e1, e2, orMv, l1]
        all_goals rfl
      · have h0 : ¬ ((xs.length : Int) + 1 = 0) := by omega
        by_cases hs : isSh s <;> simp [g_MOVE, g_SHUT, len_E, ← enc_mv, hm, hs, partStep, e1, e2, orMv, l1, h0]
        all_goals rfl
end Rf
namespace Rf
open PySem Dp
open Enc (enc)
/-- a drawn way of at most m strokes -/
structure Way (m : Nat) (w : List Sk) : Prop where
  len : w.length ≤ m
  sz : ∀ s ∈ w, SzS 4050000 s
  hd : ∀ s, w[0]? = some s → isMv s = true
theorem forGo_ex {f : D → Env → Out} {ds : List D} {ρ : Env} (I : Nat → Env → Prop) (h0 : I 0 ρ) (h : ∀ i d ρ, ds[i]? = some d → I i ρ → ∃ ρ', f d ρ = .nx ρ' ∧ I (i + 1) ρ') : ∃ ρ', forGo f ds ρ = .nx ρ' ∧ I ds.length ρ' := forGo_inv I h ρ h0
theorem SzS.beg {N : Nat} {s : Sk} {b : P} (h : SzS N s) (hb : SzP N b) : SzP N (begOf s b) := by
  cases s with
  | mv p => exact h p (by simp [Sk.pts])
  | _ => exact hb
theorem SzS.en {N : Nat} {s : Sk} {b : P} (h : SzS N s) (hb : SzP N b) : SzP N (endOf s b) := by
  cases s with
  | mv p => exact h p (by simp [Sk.pts])
  | ln p => exact h p (by simp [Sk.pts])
  | bw c p => exact h p (by simp [Sk.pts])
  | wv c d p => exact h p (by simp [Sk.pts])
  | sh => exact hb
theorem szp_zero (N : Nat) : SzP N ((0, 0) : P) := ⟨⟨0, by simp, by simp⟩, ⟨0, by simp, by simp⟩⟩
theorem enc_mvR {p : P} : PyData.tuple [.str "move", enc p] = enc (Sk.mv p) := rfl
theorem law_way_ok (n : Int) (m : Nat) (hm : m ≤ 13) : ∃ w : List Sk, f__law_way [.int n, .int m] = .ok (enc w) ∧ Way m w := by
  rw [f__law_way, run2, b__law_way]
  have hc := fm (i := n) (j := (m : Int) + 1) (by omega)
  have hM : dBin .Mod (.int n) (.int ((m : Int) + 1)) = .ok (.int (n.fmod (m + 1))) := b_modL (by omega)
  have h1 : rngD (.int (n.fmod ((m : Int) + 1))) = .ok (upto (n.fmod ((m : Int) + 1)).toNat 0) := rngD_ok (by omega) (by omega)
  simp [enc_zz, enc_zero, mk_pair, hM, h1, -e_call]
  generalize hg : forGo _ _ _ = o
  have key : ∃ ρ', o = .nx ρ' ∧ ∃ (way : List Sk) (pen beg : P), ρ' = [.im (.int n), .im (.int m), .im (enc way), .im (enc pen), .im (enc beg), .un, .un, .un] ∧ way.length = (n.fmod ((m : Int) + 1)).toNat ∧ (∀ s ∈ way, SzS (150000 + 300000 * (n.fmod ((m : Int) + 1)).toNat) s) ∧ SzP 150000 pen ∧ SzP 150000 beg ∧ (∀ s, way[0]? = some s → isMv s = true) := by
    rw [← hg]
    have e := forGo_ex (ρ := [.im (.int n), .im (.int m), .im (PyData.tuple []), .im (enc ((0, 0) : P)), .im (enc ((0, 0) : P)), .un, .un, .un]) (ds := upto (n.fmod ((m : Int) + 1)).toNat 0) (f := fE (IT.nm 5)
      (ISs.cons (.set 6 (.bin .FloorDiv (.call "_law_drawn" f__law_drawn (.cons (.var 0) (.cons (.bin .Add (.int 10) (.var 5)) .nil))) (.int 4)))
 (.cons (.set 7 (.tup (.cons (.str "move") (.cons (.call "_law_point" f__law_point (.cons (.var 6) .nil)) .nil))))
 (.cons (.ife (.cmp .NotEq (.var 2) (.tup .nil))
 (.cons (.set 7 (.call "_law_stroke" f__law_stroke (.cons (.var 6) (.cons (.var 3) (.cons (.var 4) (.cons (.idx (.var 2) (.neg (.int 1))) .nil))))))
 .nil)
 .nil)
 (.cons (.set 2 (.bin .Add (.var 2) (.tup (.cons (.var 7) .nil))))
 (.cons (.ife (.cmp .Eq (.idx (.var 7) (.int 0)) (.str "move"))
 (.cons (.set 4 (.idx (.var 7) (.int 1)))
 .nil)
 .nil)
 (.cons (.set 3 (.var 4))
 (.cons (.ife (.cmp .NotEq (.idx (.var 7) (.int 0)) (.str "shut"))
 (.cons (.set 3 (.idx (.var 7) (.neg (.int 1))))
 .nil)
 .nil)
 (.cons (.kil [5, 6, 7])
 .nil)))))))))
      (fun i ρ => ∃ (way : List Sk) (pen beg : P), ρ = [.im (.int n), .im (.int m), .im (enc way), .im (enc pen), .im (enc beg), .un, .un, .un] ∧ way.length = i ∧ (∀ s ∈ way, SzS (150000 + 300000 * i) s) ∧ SzP 150000 pen ∧ SzP 150000 beg ∧ (∀ s, way[0]? = some s → isMv s = true))
      ⟨[], (0, 0), (0, 0), by simp [enc_list], rfl, by simp, szp_zero _, szp_zero _, by simp⟩ ?_
    · rw [upto_len] at e
      exact e
    · rintro i d ρ hd ⟨way, pen, beg, rfl, hl, hw, hp, hb, hh⟩
      obtain ⟨hi, rfl⟩ := mupto_get hd
      have hN : 150000 ≤ 150000 + 300000 * i := by omega
      have hX : 150000 + 300000 * i < 10 ^ 80 := by
        have : 150000 + 300000 * 13 < 10 ^ 80 := by decide
        omega
      have e3 : 150000 + 300000 * i + 300000 = 150000 + 300000 * (i + 1) := by omega
      have up : 150000 + 300000 * i ≤ 150000 + 300000 * (i + 1) := by omega
      obtain ⟨v, ev, _⟩ := law_drawn_ok n (10 + i)
      obtain ⟨q, eq, hq⟩ := law_pointS (v.fdiv 4)
      have hq' := hq.mono (show 150000 ≤ 150000 + 300000 * (i + 1) by omega)
      have es : ∃ s : Sk, (SzS (150000 + 300000 * (i + 1)) s ∧ SzP 150000 (endOf s beg)) ∧ (way = [] → isMv s = true) ∧ evS (.ife (.cmp .NotEq (.var 2) (.tup .nil))
 (.cons (.set 7 (.call "_law_stroke" f__law_stroke (.cons (.var 6) (.cons (.var 3) (.cons (.var 4) (.cons (.idx (.var 2) (.neg (.int 1))) .nil))))))
 .nil)
 .nil) [.im (.int n), .im (.int m), .im (enc way), .im (enc pen), .im (enc beg), .im (.int i), .im (.int (v.fdiv 4)), .im (enc (Sk.mv q))] = .nx [.im (.int n), .im (.int m), .im (enc way), .im (enc pen), .im (enc beg), .im (.int i), .im (.int (v.fdiv 4)), .im (enc s)] := by
        by_cases h0 : way = []
        · subst h0
          refine ⟨.mv q, ⟨?_, hq⟩, fun _ => rfl, ?_⟩
          · intro p hp; simp [Sk.pts] at hp; subst hp; exact hq'
          · simp [enc_nil (α := Sk)]
        · obtain ⟨a, ha⟩ : ∃ a, way.getLast? = some a := by
            cases h : way.getLast? with
            | none => exact absurd (List.getLast?_eq_none_iff.mp h) h0
            | some a => exact ⟨a, rfl⟩
          obtain ⟨s, e, hs, hse⟩ := law_stroke_ok (v.fdiv 4) hp hb (hw a (List.mem_of_getLast? ha)) hN hX
          rw [e3] at hs
          refine ⟨s, ⟨hs, hse⟩, fun h => absurd h h0, ?_⟩
          simp [enc_nil (α := Sk), h0, ix_Elast ha, e]
      obtain ⟨s, ⟨hs, hse⟩, hm0, e⟩ := es
      have hbg : SzP 150000 (begOf s beg) := by cases s <;> first | exact hse | exact hb
      have hen : SzP 150000 (endOf s (begOf s beg)) := by cases s <;> first | exact hse | exact hb
      refine ⟨[.im (.int n), .im (.int m), .im (enc (way ++ [s])), .im (enc (endOf s (begOf s beg))), .im (enc (begOf s beg)), .un, .un, .un], ?_, way ++ [s], endOf s (begOf s beg), begOf s beg, rfl, by simp [hl], ?_, ?_, ?_, ?_⟩
      · have ea : dBin .Add (enc way) (.tuple [enc s]) = .ok (enc (way ++ [s])) := b_addE (ys := [s]) (by have := lim6; simp only [List.length_singleton]; omega)
        rw [fE]
        simp only [t_nm, ofR_ok, ss_cons, s_set, e_bin, e_call, e_cons, e_nil, e_var, e_int, e_tup, e_str, List.getElem?_cons_zero, List.getElem?_cons_succ, Res.bind_ok, b_addI, List.set_cons_succ, List.set_cons_zero, Int.zero_add, ev, b_divL, seq_nx, eq, enc_mvR]
        rw [b_divL (by decide) (by decide)]
        simp only [t_nm, ofR_ok, ss_cons, s_set, e_bin, e_call, e_cons, e_nil, e_var, e_int, e_tup, e_str, List.getElem?_cons_zero, List.getElem?_cons_succ, Res.bind_ok, b_addI, List.set_cons_succ, List.set_cons_zero, Int.zero_add, ev, b_divL, seq_nx, eq, enc_mvR]
        rw [e]
        simp [ea]
        cases s <;> simp [isMv, isSh, enc_mv, enc_ln, enc_bw, enc_wv, enc_sh, begOf, endOf]
      · intro t ht
        rcases List.mem_append.mp ht with h | h
        · exact (hw t h).mono up
        · simp at h; subst h; exact hs
      · exact hen
      · exact hbg
      · intro t ht
        rcases way with _ | ⟨a, r⟩
        · simp at ht; subst ht; exact hm0 rfl
        · exact hh t (by simpa using ht)
  obtain ⟨ρ', rfl, way, pen, beg, rfl, hl, hw, hp, hb, hh⟩ := key
  refine ⟨way, by simp, by omega, fun s hs => (hw s hs).mono ?_, hh⟩
  omega
theorem sk_last {s : Sk} {b : P} : dIdx (.tuple (.str s.nam :: s.pts.map enc ++ [enc b])) (.int ((s.pts.length : Int) + 1 - (if isSh s then 0 else 1))) = .ok (enc (endOf s b)) := by
  cases s <;> rfl
theorem law_pens_ok {w : List Sk} (h : w.length < 1000) : f__law_pens [enc w] = .ok (encL (pensL w)) := by
  rw [f__law_pens, run1, b__law_pens]
  have i0 : dIdx (.list [enc ((0, 0) : P)]) (.int 0) = .ok (enc ((0, 0) : P)) := rfl
  simp [it_E (show w.length ≤ LIM by have := lim6; omega), enc_zz, i0]
  rw [forGo_idx (fun i => [.im (enc w), .ow ((List.range (i + 1)).map fun j => enc (penF w j)), .im (enc (begF w i)), .un]) ?_ (by simp [penF, begF])]
  · simp [pensL, encL]
  · intro i d hd
    obtain ⟨s, hs, rfl⟩ := map_get hd
    have hi := (List.getElem?_eq_some_iff.mp hs).1
    rw [map_range_succ _ (i + 1), begF_s hs, penF_s hs, begF_s hs]
    have hl : i + 1 < LIM := by have := lim6; omega
    simp only [fE]
    cases s <;> simp [hl, enc_mv, enc_ln, enc_bw, enc_wv, enc_sh, begOf, endOf]
end Rf
namespace Rf
open PySem Dp
open Enc (enc)
/-- M-ths, of k bits at most -/
def G (M k : Nat) (q : Rat) : Prop := Sz M (2 ^ k) q
abbrev GP (M k : Nat) (p : P) : Prop := G M k p.1 ∧ G M k p.2
theorem G.mono {M k l : Nat} {q : Rat} (h : G M k q) (g : k ≤ l) : G M l q := Sz.mono h (Nat.pow_le_pow_right (by decide) g)
theorem G.add {M k : Nat} {p q : Rat} (h : G M k p) (g : G M k q) : G M (k + 1) (p + q) := by
  have := Sz.add h g
  have e : 2 ^ k + 2 ^ k = 2 ^ (k + 1) := by rw [Nat.pow_succ]; omega
  rw [e] at this; exact this
theorem G.sub {M k : Nat} {p q : Rat} (h : G M k p) (g : G M k q) : G M (k + 1) (p - q) := by
  have := Sz.sub h g
  have e : 2 ^ k + 2 ^ k = 2 ^ (k + 1) := by rw [Nat.pow_succ]; omega
  rw [e] at this; exact this
theorem G.neg {M k : Nat} {p : Rat} (h : G M k p) : G M k (-p) := Sz.neg h
theorem G.mul {M M' k l : Nat} {p q : Rat} (h : G M k p) (g : G M' l q) : G (M * M') (k + l) (p * q) := by
  have := Sz.mul h g
  rw [← Nat.pow_add] at this; exact this
theorem G.up {M k K j : Nat} {p : Rat} (h : G M k p) (g : K ≤ 2 ^ j) : G (M * K) (k + j) p := by
  refine Sz.mono (Sz.up K h) ?_
  rw [Nat.pow_add]
  exact Nat.mul_le_mul_left _ g
theorem pow_lt_sb {j : Nat} (h : j < 4000) : 2 ^ j < SB := by
  unfold SB
  exact Nat.pow_lt_pow_right (by decide) h
theorem G.ok {M k m : Nat} {q : Rat} (h : G M k q) (h0 : 0 < M) (hM : M ≤ 2 ^ m) (hm : m < 4000) (hk : k < 4000) : Ok q :=
  Sz.ok h h0 (Nat.lt_of_le_of_lt hM (pow_lt_sb hm)) (pow_lt_sb hk)
theorem mul_le {a b i j : Nat} (h : a ≤ 2 ^ i) (g : b ≤ 2 ^ j) : a * b ≤ 2 ^ (i + j) := by
  rw [Nat.pow_add]; exact Nat.mul_le_mul h g
/-- a common denominator that fits -/
structure Ft (m M : Nat) : Prop where
  p : 0 < M
  l : M ≤ 2 ^ m
theorem Ft.mul {m n M N : Nat} (h : Ft m M) (g : Ft n N) : Ft (m + n) (M * N) := ⟨Nat.mul_pos h.p g.p, mul_le h.l g.l⟩
theorem Ft.mono {m n M : Nat} (h : Ft m M) (g : m ≤ n) : Ft n M := ⟨h.p, Nat.le_trans h.l (Nat.pow_le_pow_right (by decide) g)⟩
theorem G.okF {M k m : Nat} {q : Rat} (h : G M k q) (f : Ft m M) (hm : m < 4000) (hk : k < 4000) : Ok q := h.ok f.p f.l hm hk
theorem GP.okF {M k m : Nat} {q : P} (h : GP M k q) (f : Ft m M) (hm : m < 4000) (hk : k < 4000) : OkP q := ⟨h.1.okF f hm hk, h.2.okF f hm hk⟩
theorem GP.mono {M k l : Nat} {q : P} (h : GP M k q) (g : k ≤ l) : GP M l q := ⟨h.1.mono g, h.2.mono g⟩
theorem G.int {N : Int} {k : Nat} (h : N.natAbs ≤ 2 ^ k) : G 1 k (N : Rat) := Sz.int _ N h
theorem G.one {M k : Nat} {q : Rat} (h : G M k q) (g : 1 * M = M := by omega) : G M k q := h
def lerp (p q : P) (t : Rat) : P := pAdd p (pMul t (pSub q p))
def crossF (p q : P) : Rat := p.1 * q.2 - p.2 * q.1
theorem GP.sub {M k : Nat} {p q : P} (hp : GP M k p) (hq : GP M k q) : GP M (k + 1) (pSub p q) := ⟨hp.1.sub hq.1, hp.2.sub hq.2⟩
theorem GP.add {M k : Nat} {p q : P} (hp : GP M k p) (hq : GP M k q) : GP M (k + 1) (pAdd p q) := ⟨hp.1.add hq.1, hp.2.add hq.2⟩
theorem GP.mul {M k T l : Nat} {p : P} {t : Rat} (ht : G T l t) (hp : GP M k p) : GP (M * T) (k + l) (pMul t p) := by
  rw [Nat.mul_comm, Nat.add_comm]
  exact ⟨ht.mul hp.1, ht.mul hp.2⟩
theorem GP.up {M k K j : Nat} {p : P} (h : GP M k p) (g : K ≤ 2 ^ j) : GP (M * K) (k + j) p := ⟨h.1.up g, h.2.up g⟩
theorem GP.lerp {M k T l : Nat} {p q : P} {t : Rat} (hp : GP M k p) (hq : GP M k q) (ht : G T l t) (hT : T ≤ 2 ^ l) : GP (M * T) (k + l + 2) (lerp p q t) := by
  have a : GP (M * T) (k + 1 + l) (pMul t (pSub q p)) := GP.mul ht (hq.sub hp)
  have b : GP (M * T) (k + l) p := hp.up hT
  exact (GP.add (b.mono (show k + l ≤ k + 1 + l by omega)) a).mono (by omega)
theorem GP.cross {M k : Nat} {p q : P} (hp : GP M k p) (hq : GP M k q) : G (M * M) (2 * k + 1) (crossF p q) := by
  have a := hp.1.mul hq.2
  have b := hp.2.mul hq.1
  exact (a.sub b).mono (by omega)
theorem between_ok {M k T l m : Nat} {p q : P} {t : Rat} (hp : GP M k p) (hq : GP M k q) (ht : G T l t) (fM : Ft m M) (fT : Ft l T) (h : m + l + k < 3900) : f_between [enc p, enc q, enc t] = .ok (enc (lerp p q t)) := by
  rw [f_between, run3, b_between]
  have o1 : OkP p := hp.okF fM (by omega) (by omega)
  have o2 : OkP q := hq.okF fM (by omega) (by omega)
  have o3 : Ok t := ht.okF fT (by omega) (by omega)
  have o4 : OkP (pSub q p) := (hq.sub hp).okF fM (by omega) (by omega)
  have o5 : OkP (pMul t (pSub q p)) := (GP.mul ht (hq.sub hp)).okF (fM.mul fT) (by omega) (by omega)
  simp [apart_ok o1 o2, scaled_ok o4 o3, moved_ok o5 o1, lerp]
theorem cross_ok {M k m : Nat} {p q : P} (hp : GP M k p) (hq : GP M k q) (fM : Ft m M) (h : m + k < 1900) : f_cross [enc p, enc q] = .ok (enc (crossF p q)) := by
  rw [f_cross, run2, b_cross]
  have o1 : OkP p := hp.okF fM (by omega) (by omega)
  have o2 : OkP q := hq.okF fM (by omega) (by omega)
  have o3 : Ok (p.1 * q.2) := (hp.1.mul hq.2).okF (fM.mul fM) (by omega) (by omega)
  have o4 : Ok (p.2 * q.1) := (hp.2.mul hq.1).okF (fM.mul fM) (by omega) (by omega)
  simp [times_ok o1.1 o2.2, times_ok o1.2 o2.1, minus_ok o3 o4, crossF]
theorem cut_to {xs : List D} {k : Nat} : cutD xs none (some (k : Int)) = xs.take k := by
  rw [cutD, HT.sIx_none, HT.sIx_nat, List.drop_zero, Nat.sub_zero, List.take_eq_take_min, Nat.min_assoc, Nat.min_self, ← List.take_eq_take_min]
theorem cut_from {xs : List D} {k : Nat} : cutD xs (some (k : Int)) none = xs.drop k := by
  rw [cutD, HT.sIx_none, HT.sIx_nat]
  by_cases h : k ≤ xs.length
  · rw [Nat.min_eq_left h, List.take_of_length_le (by simp)]
  · rw [Nat.min_eq_right (by omega), List.drop_of_length_le (by omega), List.drop_of_length_le (by omega)]; simp
theorem cut_init {xs : List D} : cutD xs none (some (-1)) = xs.dropLast := by
  have e : HT.sIx xs.length xs.length (some (-1)) = xs.length - 1 := by
    show (if (-1 : Int) < 0 then (-1 + (xs.length : Int)).toNat else min (-1 : Int).toNat xs.length) = _
    rw [if_pos (by decide)]; omega
  rw [cutD, HT.sIx_none, e, List.drop_zero, Nat.sub_zero, List.dropLast_eq_take]
theorem cut_last {xs : List D} : cutD xs (some (-1)) none = xs.drop (xs.length - 1) := by
  have e : HT.sIx xs.length 0 (some (-1)) = xs.length - 1 := by
    show (if (-1 : Int) < 0 then (-1 + (xs.length : Int)).toNat else min (-1 : Int).toNat xs.length) = _
    rw [if_pos (by decide)]; omega
  rw [cutD, HT.sIx_none, e, List.take_of_length_le (by simp)]
@[simp] theorem slc_T {xs : List D} {lo hi : Option Int} : dSlc (.tuple xs) lo hi = .ok (.tuple (cutD xs lo hi)) := Res.nrf rfl
@[simp] theorem slc_L {xs : List D} {lo hi : Option Int} : dSlc (.list xs) lo hi = .ok (.list (cutD xs lo hi)) := Res.nrf rfl
theorem slc_to {α : Type} [Enc α] {xs : List α} {k : Nat} : dSlc (enc xs) none (some (k : Int)) = .ok (enc (xs.take k)) := by
  rw [enc_list, enc_list, slc_T, cut_to, List.map_take]
theorem slc_from {α : Type} [Enc α] {xs : List α} {k : Nat} : dSlc (enc xs) (some (k : Int)) none = .ok (enc (xs.drop k)) := by
  rw [enc_list, enc_list, slc_T, cut_from, List.map_drop]
theorem slc_init {α : Type} [Enc α] {xs : List α} : dSlc (enc xs) none (some (-1)) = .ok (enc xs.dropLast) := by
  rw [enc_list, enc_list, slc_T, cut_init, List.map_dropLast]
theorem slc_last {α : Type} [Enc α] {xs : List α} : dSlc (enc xs) (some (-1)) none = .ok (enc (xs.drop (xs.length - 1))) := by
  rw [enc_list, enc_list, slc_T, cut_last, List.map_drop, List.length_map]
theorem slc_1 {α : Type} [Enc α] {xs : List α} : dSlc (enc xs) (some 1) none = .ok (enc (xs.drop 1)) := slc_from (k := 1)
theorem slc_01 {α : Type} [Enc α] {xs : List α} : dSlc (enc xs) none (some 1) = .ok (enc (xs.take 1)) := slc_to (k := 1)
/-- a stroke's points -/
theorem slc_sk {s : Sk} : dSlc (enc s) (some 1) none = .ok (enc s.pts) := by
  rw [enc_sk, slc_T]
  have := cut_from (xs := .str s.nam :: s.pts.map enc) (k := 1)
  simp only [Int.natCast_one] at this
  rw [this]; rfl
end Rf
namespace Rf
open PySem Dp
open Enc (enc)
theorem pairs_map {α β : Type} [Enc α] [Enc β] : ∀ (xs : List α) (ys : List β), pairs (xs.map enc) (ys.map enc) = (xs.zip ys).map fun q => PyData.tuple [enc q.1, enc q.2]
  | [], ys => by simp [pairs]
  | _ :: _, [] => by simp [pairs]
  | x :: xs, y :: ys => by simp [pairs, pairs_map xs ys]
def halve (l : List P) (t : Rat) : List P := (l.dropLast.zip (l.drop 1)).map fun q => lerp q.1 q.2 t
theorem halved_ok {M k T e m : Nat} {l : List P} {t : Rat} (hl : ∀ p ∈ l, GP M k p) (ht : G T e t) (fM : Ft m M) (fT : Ft e T) (h : m + e + k < 3900) (hlen : l.length < 1000) : f_halved [enc l, enc t] = .ok (enc (halve l t)) := by
  rw [f_halved, run2, b_halved]
  have hl6 := lim6
  have l1 : l.dropLast.length ≤ LIM := by simp; omega
  have l2 : (l.drop 1).length ≤ LIM := by simp; omega
  have e1 : lcGo (lE [("one", 2), ("other", 3)] (.tu (.cons (.nm 2) (.cons (.nm 3) .nil))) .none (.call "between" f_between (.cons (.var 2) (.cons (.var 3) (.cons (.var 1) .nil)))) [.im (enc l), .im (enc t), .un, .un]) (pairs (l.dropLast.map enc) ((l.drop 1).map enc)) = .ok ((l.dropLast.zip (l.drop 1)).map fun q => enc (lerp q.1 q.2 t)) := by
    rw [pairs_map]
    refine lcGo_all _ _ ?_
    intro q hq
    have hp := hl q.1 (by have := (List.of_mem_zip hq).1; rw [List.dropLast_eq_take] at this; exact List.mem_of_mem_take this)
    have hr := hl q.2 (List.mem_of_mem_drop (List.of_mem_zip hq).2)
    have e0 := between_ok hp hr ht fM fT h
    simp [lE, e0]
  have l3 : (pairs (l.dropLast.map enc) ((l.drop 1).map enc)).length ≤ LIM := by simp; omega
  have z := dZip_E l1 l2
  have eh : dBi .tuple [.list ((l.dropLast.zip (l.drop 1)).map fun q => enc (lerp q.1 q.2 t))] = .ok (enc (halve l t)) := by rw [halve, enc_list, List.map_map]; rfl
  simp [slc_init, slc_1, z, e1, eh, -bi_tupL, -List.drop_one, -mpairs_len, -List.map_dropLast, -List.map_drop, l3]
/-- the point that corners draw -/
def cas : List P → Rat → P
  | [a], _ => a
  | [a, b], t => lerp a b t
  | [a, b, c], t => lerp (lerp a b t) (lerp b c t) t
  | [a, b, c, d], t => lerp (lerp (lerp a b t) (lerp b c t) t) (lerp (lerp b c t) (lerp c d t) t) t
  | _, _ => (0, 0)
theorem fuel_ex : ∃ n, FUEL = n + 6 := by
  have h : 6 ≤ FUEL := by
    have := dbig9; have := dbig_lt; omega
  exact ⟨FUEL - 6, by omega⟩
theorem whl_t {c : Env → Res Bool} {f : Env → Out} {n : Nat} {ρ ρ' : Env} (hc : c ρ = .ok true) (hf : f ρ = .nx ρ') : whlGo c f (n + 1) ρ = whlGo c f n ρ' := by simp only [whlGo, hc, hf]
theorem whl_f {c : Env → Res Bool} {f : Env → Out} {n : Nat} {ρ : Env} (hc : c ρ = .ok false) : whlGo c f (n + 1) ρ = .nx ρ := by simp only [whlGo, hc]
theorem point_of_ok {M k T e m : Nat} {l : List P} {t : Rat} (hl : ∀ p ∈ l, GP M k p) (ht : G T e t) (fM : Ft m M) (fT : Ft e T) (h : m + 6 * e + k < 3800) (h1 : 1 ≤ l.length) (h4 : l.length ≤ 4) : f_point_of [enc l, enc t] = .ok (enc (cas l t)) := by
  obtain ⟨n, hn⟩ := fuel_ex
  have step {M' k' m' : Nat} {l' : List P} (hl : ∀ p ∈ l', GP M' k' p) (fM : Ft m' M') (h : m' + e + k' < 3900) (h4 : l'.length < 1000) : sE (.cons (.set 0 (.call "halved" f_halved (.cons (.var 0) (.cons (.var 1) .nil)))) .nil) [.im (enc l'), .im (enc t)] = .nx [.im (enc (halve l' t)), .im (enc t)] := by
    simp [sE, halved_ok hl ht fM fT h h4]
  have ct {a b : P} {r : List P} : tE (.cmp .Gt (.bi .len (.cons (.var 0) .nil)) (.int 1)) [.im (enc (a :: b :: r)), .im (enc t)] = .ok true := by
    simp [tE, len_E]; omega
  have cf {a : P} : tE (.cmp .Gt (.bi .len (.cons (.var 0) .nil)) (.int 1)) [.im (enc [a]), .im (enc t)] = .ok false := by
    simp [tE, len_E]
  have fi {a : P} : dIdx (enc [a]) (.int 0) = .ok (enc a) := ix_E (i := 0) rfl
  have G2 {M' k' : Nat} {a b : P} (ha : GP M' k' a) (hb : GP M' k' b) : GP (M' * T) (k' + e + 2) (lerp a b t) := ha.lerp hb ht fT.l
  rw [f_point_of, run2, b_point_of]
  simp only [Nat.reduceSub, List.replicate, ss_cons, s_whl, hn]
  rcases l with _ | ⟨a, _ | ⟨b, _ | ⟨c, _ | ⟨d, _ | ⟨x, r⟩⟩⟩⟩⟩
  · simp at h1
  · rw [whl_f cf]; simp [fi, cas]
  · have ha := hl a (by simp)
    have hb := hl b (by simp)
    rw [whl_t ct (step hl fM (by omega) (by simp))]
    simp only [halve, List.dropLast, List.drop, List.zip_cons_cons, List.zip_nil_left, List.map]
    rw [whl_f cf]; simp [fi, cas]
  · have ha := hl a (by simp)
    have hb := hl b (by simp)
    have hc := hl c (by simp)
    rw [whl_t ct (step hl fM (by omega) (by simp))]
    simp only [halve, List.dropLast, List.drop, List.zip_cons_cons, List.zip_nil_left, List.map]
    have l2 : ∀ p ∈ [lerp a b t, lerp b c t], GP (M * T) (k + e + 2) p := by simp; exact ⟨G2 ha hb, G2 hb hc⟩
    rw [whl_t ct (step l2 (fM.mul fT) (by omega) (by simp))]
    simp only [halve, List.dropLast, List.drop, List.zip_cons_cons, List.zip_nil_left, List.map]
    rw [whl_f cf]; simp [fi, cas]
  · have ha := hl a (by simp)
    have hb := hl b (by simp)
    have hc := hl c (by simp)
    have hd := hl d (by simp)
    rw [whl_t ct (step hl fM (by omega) (by simp))]
    simp only [halve, List.dropLast, List.drop, List.zip_cons_cons, List.zip_nil_left, List.map]
    have l2 : ∀ p ∈ [lerp a b t, lerp b c t, lerp c d t], GP (M * T) (k + e + 2) p := by simp; exact ⟨G2 ha hb, G2 hb hc, G2 hc hd⟩
    rw [whl_t ct (step l2 (fM.mul fT) (by omega) (by simp))]
    simp only [halve, List.dropLast, List.drop, List.zip_cons_cons, List.zip_nil_left, List.map]
    have l3 : ∀ p ∈ [lerp (lerp a b t) (lerp b c t) t, lerp (lerp b c t) (lerp c d t) t], GP (M * T * T) (k + e + 2 + e + 2) p := by simp; exact ⟨G2 (G2 ha hb) (G2 hb hc), G2 (G2 hb hc) (G2 hc hd)⟩
    rw [whl_t ct (step l3 ((fM.mul fT).mul fT) (by omega) (by simp))]
    simp only [halve, List.dropLast, List.drop, List.zip_cons_cons, List.zip_nil_left, List.map]
    rw [whl_f cf]; simp [fi, cas]
  · exact absurd h4 (by simp)
/-- corners of a stroke, from the pen on -/
def corF (w : List Sk) (i : Nat) : List P := match w[i]? with
  | some (.mv p) => [p]
  | some .sh => [penF w i, begF w (i + 1)]
  | some s => penF w i :: s.pts
  | none => []
theorem ix_mv1 {p : P} : dIdx (enc (Sk.mv p)) (.int 1) = .ok (enc p) := by rw [enc_mv]; simp
theorem corner_ok {w : List Sk} {i : Nat} (h : w.length < 1000) (hi : i < w.length) : f_corner_points [enc w, .int i] = .ok (enc (corF w i)) := by
  rw [f_corner_points, run2, b_corner_points]
  have hs : w[i]? = some w[i] := by simp [hi]
  generalize w[i] = s at hs
  have ip : dIdx (enc (pensL w)) (.int (i : Int)) = .ok (enc (penF w i)) := ix_E (pens_get (by omega))
  have ib : dIdx (enc (begsL w)) (.int (i : Int)) = .ok (enc (begF w (i + 1))) := ix_E (begs_get hi)
  have es {c : List P} (hc : c.length ≤ 10) : dBin .Add (.tuple [enc (penF w i)]) (enc c) = .ok (enc (penF w i :: c)) := b_addE (xs := [penF w i]) (by have := lim6; simp; omega)
  have ep : s.pts.length ≤ 10 := by cases s <;> simp [Sk.pts]
  by_cases hm : isMv s
  · cases s <;> simp [isMv] at hm
    simp [ix_E hs, g_MOVE, isMv, ix_mv1, corF, hs, mk_one]
  · by_cases hS : isSh s
    · cases s <;> simp [isSh] at hS
      simp [ix_E hs, g_MOVE, g_SHUT, isMv, isSh, corF, hs, pens_ok h, begins_ok h, ip, ib]
      try rfl
    · simp [ix_E hs, g_MOVE, g_SHUT, hm, hS, pens_ok h, ip, slc_sk, es ep, -b_addT]
      cases s <;> simp_all [corF, isMv, isSh]
end Rf
namespace Rf
open PySem Dp
open Enc (enc)
/-- a way's sizes -/
abbrev GS (M k : Nat) (s : Sk) : Prop := ∀ p ∈ s.pts, GP M k p
abbrev GW (M k : Nat) (w : List Sk) : Prop := ∀ s ∈ w, GS M k s
theorem g_zero (M k : Nat) : G M k 0 := ⟨0, by simp, by simp⟩
theorem gp_zero (M k : Nat) : GP M k ((0, 0) : P) := ⟨g_zero M k, g_zero M k⟩
theorem GS.beg {M k : Nat} {s : Sk} {b : P} (h : GS M k s) (hb : GP M k b) : GP M k (begOf s b) := by
  cases s with
  | mv p => exact h p (by simp [Sk.pts])
  | _ => exact hb
theorem GS.en {M k : Nat} {s : Sk} {b : P} (h : GS M k s) (hb : GP M k b) : GP M k (endOf s b) := by
  cases s with
  | mv p => exact h p (by simp [Sk.pts])
  | ln p => exact h p (by simp [Sk.pts])
  | bw c p => exact h p (by simp [Sk.pts])
  | wv c d p => exact h p (by simp [Sk.pts])
  | sh => exact hb
theorem get_mem {α : Type} {w : List α} {i : Nat} {s : α} (h : w[i]? = some s) : s ∈ w := List.mem_of_getElem? h
theorem GW.begF {M k : Nat} {w : List Sk} (h : GW M k w) : ∀ i, GP M k (begF w i)
  | 0 => gp_zero M k
  | i + 1 => by
    cases hs : w[i]? with
    | none => rw [Rf.begF, hs]; exact gp_zero M k
    | some s => rw [begF_s hs]; exact GS.beg (h s (get_mem hs)) (GW.begF h i)
theorem GW.penF {M k : Nat} {w : List Sk} (h : GW M k w) : ∀ i, GP M k (penF w i)
  | 0 => gp_zero M k
  | i + 1 => by
    cases hs : w[i]? with
    | none => rw [Rf.penF, hs]; exact gp_zero M k
    | some s => rw [penF_s hs]; exact GS.en (h s (get_mem hs)) (h.begF (i + 1))
theorem GW.corF {M k : Nat} {w : List Sk} (h : GW M k w) (i : Nat) : ∀ p ∈ corF w i, GP M k p := by
  intro p hp
  rw [Rf.corF] at hp
  split at hp
  · rename_i q hs
    simp at hp; subst hp; exact h _ (get_mem hs) p (by simp [Sk.pts])
  · simp at hp
    rcases hp with rfl | rfl
    · exact h.penF i
    · exact h.begF (i + 1)
  · rename_i s _ _ hs
    rcases List.mem_cons.mp hp with rfl | hp
    · exact h.penF i
    · exact h _ (get_mem hs) p hp
  · simp at hp
theorem corF_len {w : List Sk} {i : Nat} (hi : i < w.length) : 1 ≤ (corF w i).length ∧ (corF w i).length ≤ 4 := by
  have hs : w[i]? = some w[i] := by simp [hi]
  generalize w[i] = s at hs
  cases s <;> simp [corF, hs, Sk.pts]
theorem must_be_ok {w : List Sk} {i : Nat} (hi : i < w.length) : f_must_be [enc w, .int i] = .ok .none := by
  rw [f_must_be, run2, b_must_be]
  have h0 : (0 : Int) ≤ (i : Int) := by omega
  have h1 : (i : Int) < (w.length : Int) := by omega
  simp [len_E, h0, h1]
theorem spot_ok {M k T e m : Nat} {w : List Sk} {i : Nat} {t : Rat} (h : w.length < 1000) (hi : i < w.length) (hw : GW M k w) (ht : G T e t) (fM : Ft m M) (fT : Ft e T) (hb : m + 6 * e + k < 3800) : f_spot [enc w, .int i, enc t] = .ok (enc (cas (corF w i) t)) := by
  rw [f_spot, run3, b_spot]
  have hc := corF_len hi
  simp [must_be_ok hi, corner_ok h hi, point_of_ok (hw.corF i) ht fM fT hb hc.1 hc.2]
/-- a stroke split, its pen and begin told -/
def splitS (s : Sk) (a b : P) (t : Rat) : List Sk := match s with
  | .mv p => [.mv p]
  | .ln p => [.ln (lerp a p t), .ln p]
  | .bw c p => [.bw (lerp a c t) (lerp (lerp a c t) (lerp c p t) t), .bw (lerp c p t) p]
  | .wv c d p => [.wv (lerp a c t) (lerp (lerp a c t) (lerp c d t) t) (cas [a, c, d, p] t), .wv (lerp (lerp c d t) (lerp d p t) t) (lerp d p t) p]
  | .sh => [.ln (lerp a b t), .sh]
theorem split_ok {M k T e m : Nat} {w : List Sk} {i : Nat} {s : Sk} {t : Rat} (h : w.length < 1000) (hs : w[i]? = some s) (hm : isMv s = false) (hw : GW M k w) (ht : G T e t) (fM : Ft m M) (fT : Ft e T) (hb : m + 6 * e + k < 3800) : f_split [enc w, .int i, enc t] = .ok (enc (w.take i ++ splitS s (penF w i) (begF w (i + 1)) t ++ w.drop (i + 1))) := by
  rw [f_split, run3, b_split]
  have hi := (List.getElem?_eq_some_iff.mp hs).1
  obtain ⟨n, hn⟩ := fuel_ex
  have G2 {M' k' : Nat} {a b : P} (ha : GP M' k' a) (hb : GP M' k' b) : GP (M' * T) (k' + e + 2) (lerp a b t) := ha.lerp hb ht fT.l
  have ct {a b : P} {r : List P} {x0 x1 x2 x3 x5 x6 : Cell} : tE (.cmp .Gt (.bi .len (.cons (.var 4) .nil)) (.int 1)) [x0, x1, x2, x3, .im (enc (a :: b :: r)), x5, x6] = .ok true := by
    simp [tE, len_E]; omega
  have cf {a : P} {x0 x1 x2 x3 x5 x6 : Cell} : tE (.cmp .Gt (.bi .len (.cons (.var 4) .nil)) (.int 1)) [x0, x1, x2, x3, .im (enc [a]), x5, x6] = .ok false := by
    simp [tE, len_E]
  have step {M' k' m' : Nat} {l' f g : List P} {x0 x1 x3 : Cell} (hl : ∀ p ∈ l', GP M' k' p) (fM : Ft m' M') (h : m' + e + k' < 3900) (h4 : l'.length ≤ 4) (h5 : f.length ≤ 10) (h6 : g.length ≤ 10) : sE (.cons (.set 6 (.bin .Add (.slc (.var 4) (.some (.neg (.int 1))) .none) (.var 6)))
 (.cons (.set 4 (.call "halved" f_halved (.cons (.var 4) (.cons (.var 2) .nil))))
 (.cons (.set 5 (.bin .Add (.var 5) (.slc (.var 4) .none (.some (.int 1)))))
 .nil))) [x0, x1, .im (enc t), x3, .im (enc l'), .im (enc f), .im (enc g)] = .nx [x0, x1, .im (enc t), x3, .im (enc (halve l' t)), .im (enc (f ++ (halve l' t).take 1)), .im (enc (l'.drop (l'.length - 1) ++ g))] := by
    have hl6 := lim6
    have e1 : dBin .Add (enc (l'.drop (l'.length - 1))) (enc g) = .ok (enc (l'.drop (l'.length - 1) ++ g)) := b_addE (by simp; omega)
    have e2 : dBin .Add (enc f) (enc ((halve l' t).take 1)) = .ok (enc (f ++ (halve l' t).take 1)) := b_addE (by simp; omega)
    simp [sE, halved_ok hl ht fM fT h (by omega), slc_last, slc_01, e1, e2]
  have cor := hw.corF i
  have en : PyData.tuple [] = enc ([] : List P) := rfl
  have e0 : dCmp .Eq (.str s.nam) (.str "move") = .ok (.bool false) := by simp [hm]
  have hl6 := lim6
  have mb := must_be_ok hi
  have co := corner_ok h hi
  have fin2 {x y : Sk} : dBin .Add (enc (w.take i)) (.tuple [enc x, enc y]) = .ok (enc (w.take i ++ [x, y])) := b_addE (ys := [x, y]) (by simp; omega)
  have fin3 {x y : Sk} : dBin .Add (enc (w.take i ++ [x, y])) (enc (w.drop (i + 1))) = .ok (enc (w.take i ++ [x, y] ++ w.drop (i + 1))) := b_addE (by simp; omega)
  have sl1 : dSlc (enc w) none (some (i : Int)) = .ok (enc (w.take i)) := slc_to
  have sl2 : dSlc (enc w) (some ((i : Int) + 1)) none = .ok (enc (w.drop (i + 1))) := slc_from (k := i + 1)
  cases s with
  | mv p => simp [isMv] at hm
  | ln p =>
    have ec : corF w i = [penF w i, p] := by simp [corF, hs, Sk.pts]
    rw [ec] at co cor
    simp [mb, ix_E hs, g_MOVE, isMv, co, en, hn]
    rw [whl_t ct (step cor fM (by omega) (by simp) (by simp) (by simp))]
    simp only [halve, List.dropLast, List.drop, List.zip_cons_cons, List.zip_nil_left, List.map, List.length, List.take, Nat.reduceAdd, Nat.reduceSub, List.nil_append, List.cons_append, List.append_nil]
    rw [whl_f cf]
    have p1 : dBin .Add (.tuple [.str (Sk.ln p).nam]) (enc [lerp (penF w i) p t]) = .ok (enc (Sk.ln (lerp (penF w i) p t))) := rfl
    have p2 : dBin .Add (.tuple [.str (Sk.ln p).nam]) (enc [p]) = .ok (enc (Sk.ln p)) := rfl
    simp [g_SHUT, isSh, ix_E hs, sl1, sl2, p1, p2, fin2, fin3, splitS, -b_addT]
  | sh =>
    have ec : corF w i = [penF w i, begF w (i + 1)] := by simp [corF, hs]
    rw [ec] at co cor
    simp [mb, ix_E hs, g_MOVE, isMv, co, en, hn]
    rw [whl_t ct (step cor fM (by omega) (by simp) (by simp) (by simp))]
    simp only [halve, List.dropLast, List.drop, List.zip_cons_cons, List.zip_nil_left, List.map, List.length, List.take, Nat.reduceAdd, Nat.reduceSub, List.nil_append, List.cons_append, List.append_nil]
    rw [whl_f cf]
    have p1 : dBin .Add (.tuple [.str "line"]) (enc [lerp (penF w i) (begF w (i + 1)) t]) = .ok (enc (Sk.ln (lerp (penF w i) (begF w (i + 1)) t))) := rfl
    simp [g_SHUT, g_LINE, isSh, ix_E hs, sl1, sl2, p1, fin2, fin3, splitS, -b_addT]
  | bw c p =>
    have ec : corF w i = [penF w i, c, p] := by simp [corF, hs, Sk.pts]
    rw [ec] at co cor
    generalize penF w i = a at *
    have ha := cor a (by simp)
    have hc := cor c (by simp)
    have hp := cor p (by simp)
    simp [mb, ix_E hs, g_MOVE, isMv, co, en, hn]
    rw [whl_t ct (step cor fM (by omega) (by simp) (by simp) (by simp))]
    simp only [halve, List.dropLast, List.drop, List.zip_cons_cons, List.zip_nil_left, List.map, List.length, List.take, Nat.reduceAdd, Nat.reduceSub, List.nil_append, List.cons_append, List.append_nil]
    have l2 : ∀ q ∈ [lerp a c t, lerp c p t], GP (M * T) (k + e + 2) q := by simp; exact ⟨G2 ha hc, G2 hc hp⟩
    rw [whl_t ct (step l2 (fM.mul fT) (by omega) (by simp) (by simp) (by simp))]
    simp only [halve, List.dropLast, List.drop, List.zip_cons_cons, List.zip_nil_left, List.map, List.length, List.take, Nat.reduceAdd, Nat.reduceSub, List.nil_append, List.cons_append, List.append_nil]
    rw [whl_f cf]
    have p1 {x y : P} : dBin .Add (.tuple [.str (Sk.bw c p).nam]) (enc [x, y]) = .ok (enc (Sk.bw x y)) := rfl
    simp [g_SHUT, isSh, ix_E hs, sl1, sl2, p1, fin2, fin3, splitS, -b_addT]
  | wv c d p =>
    have ec : corF w i = [penF w i, c, d, p] := by simp [corF, hs, Sk.pts]
    rw [ec] at co cor
    generalize penF w i = a at *
    have ha := cor a (by simp)
    have hc := cor c (by simp)
    have hd := cor d (by simp)
    have hp := cor p (by simp)
    simp [mb, ix_E hs, g_MOVE, isMv, co, en, hn]
    rw [whl_t ct (step cor fM (by omega) (by simp) (by simp) (by simp))]
    simp only [halve, List.dropLast, List.drop, List.zip_cons_cons, List.zip_nil_left, List.map, List.length, List.take, Nat.reduceAdd, Nat.reduceSub, List.nil_append, List.cons_append, List.append_nil]
    have l2 : ∀ q ∈ [lerp a c t, lerp c d t, lerp d p t], GP (M * T) (k + e + 2) q := by simp; exact ⟨G2 ha hc, G2 hc hd, G2 hd hp⟩
    rw [whl_t ct (step l2 (fM.mul fT) (by omega) (by simp) (by simp) (by simp))]
    simp only [halve, List.dropLast, List.drop, List.zip_cons_cons, List.zip_nil_left, List.map, List.length, List.take, Nat.reduceAdd, Nat.reduceSub, List.nil_append, List.cons_append, List.append_nil]
    have l3 : ∀ q ∈ [lerp (lerp a c t) (lerp c d t) t, lerp (lerp c d t) (lerp d p t) t], GP (M * T * T) (k + e + 2 + e + 2) q := by simp; exact ⟨G2 (G2 ha hc) (G2 hc hd), G2 (G2 hc hd) (G2 hd hp)⟩
    rw [whl_t ct (step l3 ((fM.mul fT).mul fT) (by omega) (by simp) (by simp) (by simp))]
    simp only [halve, List.dropLast, List.drop, List.zip_cons_cons, List.zip_nil_left, List.map, List.length, List.take, Nat.reduceAdd, Nat.reduceSub, List.nil_append, List.cons_append, List.append_nil]
    rw [whl_f cf]
    have p1 {x y z : P} : dBin .Add (.tuple [.str (Sk.wv c d p).nam]) (enc [x, y, z]) = .ok (enc (Sk.wv x y z)) := rfl
    simp [g_SHUT, isSh, ix_E hs, sl1, sl2, p1, fin2, fin3, splitS, cas, -b_addT]
end Rf
namespace Rf
open PySem Dp
open Enc (enc)
def sweptF : List P → Rat
  | [a, b] => crossF a b * (1 / 2)
  | [a, c, p] => (2 * (crossF a c + crossF c p) + crossF a p) * (1 / 6)
  | [a, c, d, p] => (6 * (crossF a c + crossF d p) + 3 * (crossF a d + crossF c d + crossF c p) + crossF a p) * (1 / 20)
  | _ => 0
theorem enc_3 : PyData.tuple [.int 3, .int 1] = enc (3 : Rat) := rfl
theorem enc_6 : PyData.tuple [.int 6, .int 1] = enc (6 : Rat) := rfl
theorem enc_lit {a : Int} {b : Nat} {q : Rat} (h : q.num = a) (g : q.den = b) : PyData.tuple [.int a, .int b] = enc q := by rw [enc_rat, h, g]
theorem enc_half : PyData.tuple [.int 1, .int 2] = enc (1 / 2 : Rat) := enc_lit (b := 2) (by decide +kernel) (by decide +kernel)
theorem enc_6th : PyData.tuple [.int 1, .int 6] = enc (1 / 6 : Rat) := enc_lit (b := 6) (by decide +kernel) (by decide +kernel)
theorem enc_20th : PyData.tuple [.int 1, .int 20] = enc (1 / 20 : Rat) := enc_lit (b := 20) (by decide +kernel) (by decide +kernel)
theorem g_2 : G 1 2 2 := G.int (N := 2) (by decide)
theorem g_6 : G 1 3 6 := G.int (N := 6) (by decide)
theorem g_3 : G 1 2 3 := G.int (N := 3) (by decide)
theorem g_half : G 2 0 (1 / 2) := ⟨1, by grind, by decide⟩
theorem g_6th : G 6 0 (1 / 6) := ⟨1, by grind, by decide⟩
theorem g_20th : G 20 0 (1 / 20) := ⟨1, by grind, by decide⟩
theorem ft_1 : Ft 0 1 := ⟨by decide, by decide⟩
theorem ft_2 : Ft 1 2 := ⟨by decide, by decide⟩
theorem ft_6 : Ft 3 6 := ⟨by decide, by decide⟩
theorem ft_20 : Ft 5 20 := ⟨by decide, by decide⟩
theorem ft_60 : Ft 6 60 := ⟨by decide, by decide⟩
theorem G.mulL {M k l : Nat} {p q : Rat} (h : G 1 l p) (g : G M k q) : G M (k + l) (p * q) := by
  have := h.mul g
  rw [Nat.one_mul, Nat.add_comm] at this; exact this
theorem swept_ok {M k m : Nat} {l : List P} (hl : ∀ p ∈ l, GP M k p) (fM : Ft m M) (hb : m + k < 1800) (h2 : 2 ≤ l.length) (h4 : l.length ≤ 4) : f_swept [enc l] = .ok (enc (sweptF l)) ∧ G (M * M * 60) (2 * k + 10) (sweptF l) := by
  rw [f_swept, run1, b_swept]
  have fMM : Ft (m + m) (M * M) := fM.mul fM
  rcases l with _ | ⟨a, _ | ⟨b, _ | ⟨c, _ | ⟨d, _ | ⟨x, r⟩⟩⟩⟩⟩
  · simp at h2
  · simp at h2
  · have ha := hl a (by simp)
    have hb := hl b (by simp)
    have c1 := GP.cross ha hb
    have o1 : Ok (crossF a b) := c1.okF fMM (by omega) (by omega)
    have oh : Ok (1 / 2) := g_half.okF ft_2 (by omega) (by omega)
    refine ⟨?_, ?_⟩
    · simp [enc_list, ix_tup0, cross_ok ha hb fM (by omega), enc_half, times_ok o1 oh, sweptF]
    · have := (c1.mul g_half).up (K := 30) (j := 5) (by decide)
      rw [Nat.mul_assoc] at this
      exact this.mono (by omega)
  · have ha := hl a (by simp)
    have hb := hl b (by simp)
    have hc := hl c (by simp)
    have c1 := GP.cross ha hb
    have c2 := GP.cross hb hc
    have c3 := GP.cross ha hc
    have o1 : Ok (crossF a b) := c1.okF fMM (by omega) (by omega)
    have o2 : Ok (crossF b c) := c2.okF fMM (by omega) (by omega)
    have o3 : Ok (crossF a c) := c3.okF fMM (by omega) (by omega)
    have g4 := c1.add c2
    have o4 := g4.okF fMM (by omega) (by omega)
    have g5 := g_2.mulL g4
    have o5 := g5.okF fMM (by omega) (by omega)
    have g6 := g5.add (c3.mono (by omega))
    have o6 := g6.okF fMM (by omega) (by omega)
    have oh : Ok (1 / 6) := g_6th.okF ft_6 (by omega) (by omega)
    refine ⟨?_, ?_⟩
    · simp [enc_list, ix_tup0, cross_ok ha hb fM (by omega), cross_ok hb hc fM (by omega), cross_ok ha hc fM (by omega), enc_two, plus_ok o1 o2, times_ok ok_two o4, plus_ok o5 o3, enc_6th, times_ok o6 oh, sweptF]
    · have := (g6.mul g_6th).up (K := 10) (j := 4) (by decide)
      rw [Nat.mul_assoc] at this
      exact this.mono (by omega)
  · have ha := hl a (by simp)
    have hb := hl b (by simp)
    have hc := hl c (by simp)
    have hd := hl d (by simp)
    have c1 := GP.cross ha hb
    have c2 := GP.cross hc hd
    have c3 := GP.cross ha hc
    have c4 := GP.cross hb hc
    have c5 := GP.cross hb hd
    have c6 := GP.cross ha hd
    have o1 := c1.okF fMM (by omega) (by omega)
    have o2 := c2.okF fMM (by omega) (by omega)
    have o3 := c3.okF fMM (by omega) (by omega)
    have o4 := c4.okF fMM (by omega) (by omega)
    have o5 := c5.okF fMM (by omega) (by omega)
    have o6 := c6.okF fMM (by omega) (by omega)
    have g1 := c1.add c2
    have q1 := g1.okF fMM (by omega) (by omega)
    have g2 := c3.add c4
    have q2 := g2.okF fMM (by omega) (by omega)
    have g3 := g2.add (c5.mono (by omega))
    have q3 := g3.okF fMM (by omega) (by omega)
    have g4 := g_6.mulL g1
    have q4 := g4.okF fMM (by omega) (by omega)
    have g5 := g_3.mulL g3
    have q5 := g5.okF fMM (by omega) (by omega)
    have g6 := g4.add g5
    have q6 := g6.okF fMM (by omega) (by omega)
    have g7 := g6.add (c6.mono (by omega))
    have q7 := g7.okF fMM (by omega) (by omega)
    have oh : Ok (1 / 20) := g_20th.okF ft_20 (by omega) (by omega)
    have k6 : Ok 6 := g_6.okF ft_1 (by omega) (by omega)
    have k3 : Ok 3 := g_3.okF ft_1 (by omega) (by omega)
    have sl : dSlc (enc [a, b, c, d]) (some 1) (some 3) = .ok (.tuple [enc b, enc c]) := rfl
    have i0 : dIdx (enc [a, b, c, d]) (.int 0) = .ok (enc a) := rfl
    have i1 : dIdx (enc [a, b, c, d]) (.int (-1)) = .ok (enc d) := rfl
    have ln : dBi .len [enc [a, b, c, d]] = .ok (.int 4) := rfl
    refine ⟨?_, ?_⟩
    · simp [i0, i1, sl, ln, cross_ok ha hb fM (by omega), cross_ok hc hd fM (by omega), cross_ok ha hc fM (by omega), cross_ok hb hc fM (by omega), cross_ok hb hd fM (by omega), cross_ok ha hd fM (by omega), plus_ok o1 o2, plus_ok o3 o4, plus_ok q2 o5, enc_6, enc_3, times_ok k6 q1, times_ok k3 q3, plus_ok q4 q5, plus_ok q6 o6, enc_20th, times_ok q7 oh, sweptF]
    · have := (g7.mul g_20th).up (K := 3) (j := 2) (by decide)
      rw [Nat.mul_assoc] at this
      exact this.mono (by omega)
  · exact absurd h4 (by simp)
end Rf
namespace Rf
open PySem Dp
open Enc (enc)
def isMvL (l : List Sk) : Prop := ∃ p r, l = Sk.mv p :: r ∧ ∀ s ∈ r, isMv s = false
/-- what a part is -/
structure PartOk (n M k : Nat) (l : List Sk) : Prop where
  len : l.length ≤ n
  sz : GW M k l
  hd : l = [] ∨ isMvL l
theorem PartOk.mono {n n' M k : Nat} {l : List Sk} (h : PartOk n M k l) (g : n ≤ n') : PartOk n' M k l := ⟨Nat.le_trans h.len g, h.sz, h.hd⟩
theorem orMv_ne {l : List Sk} (h : l ≠ []) {b : P} : orMv l b = l := by cases l <;> simp_all [orMv]
theorem partOk_snoc {n M k : Nat} {l : List Sk} {b : P} {s : Sk} (h : PartOk n M k l) (hb : GP M k b) (hs : GS M k s) (hm : isMv s = false) (hn : 1 ≤ n) : PartOk (n + 1) M k (orMv l b ++ [s]) := by
  rcases h.hd with rfl | ⟨p, r, rfl, hr⟩
  · refine ⟨by simp [orMv]; omega, ?_, .inr ⟨b, [s], rfl, by simpa using hm⟩⟩
    intro t ht
    simp [orMv] at ht
    rcases ht with rfl | rfl
    · intro q hq; simp [Sk.pts] at hq; subst hq; exact hb
    · exact hs
  · refine ⟨by have := h.len; simp [orMv] at this ⊢; omega, ?_, .inr ⟨p, r ++ [s], by simp [orMv], ?_⟩⟩
    · intro t ht
      rcases List.mem_append.mp ht with ht | ht
      · exact h.sz t (by simpa [orMv] using ht)
      · simp at ht; subst ht; exact hs
    · intro t ht
      rcases List.mem_append.mp ht with ht | ht
      · exact hr t ht
      · simp at ht; subst ht; exact hm
theorem partF_ok {M k : Nat} {w : List Sk} (hw : GW M k w) : ∀ i, i ≤ w.length → (∀ l ∈ (partF w i).1, PartOk (i + 1) M k l) ∧ PartOk (i + 1) M k (partF w i).2
  | 0, _ => ⟨by simp [partF], ⟨by simp [partF], fun s hs => absurd hs (by simp [partF]), .inl rfl⟩⟩
  | i + 1, h => by
    obtain ⟨h1, h2⟩ := partF_ok hw i (by omega)
    have hs : w[i]? = some w[i] := by simp [show i < w.length by omega]
    have gs := hw _ (get_mem hs)
    generalize w[i] = s at hs gs
    rw [partF_s hs]
    have hb := hw.begF (i + 1)
    generalize begF w (i + 1) = b at hb
    generalize partF w i = st at h1 h2
    by_cases hm : isMv s
    · rw [partStep, if_pos hm]
      refine ⟨?_, ⟨by simp, fun t ht => by simp at ht; subst ht; exact gs, ?_⟩⟩
      · intro l hl
        rcases List.mem_append.mp hl with hl | hl
        · exact (h1 l hl).mono (by omega)
        · simp at hl; subst hl; exact h2.mono (by omega)
      · right
        cases s <;> simp [isMv] at hm
        exact ⟨_, [], rfl, by simp⟩
    · have hm' : isMv s = false := by simpa using hm
      have sn := partOk_snoc h2 hb gs hm' (by omega)
      by_cases hS : isSh s
      · rw [partStep, if_neg hm, if_pos hS]
        refine ⟨?_, ⟨by simp, fun t ht => absurd ht (by simp), .inl rfl⟩⟩
        intro l hl
        rcases List.mem_append.mp hl with hl | hl
        · exact (h1 l hl).mono (by omega)
        · simp at hl; subst hl; exact sn
      · rw [partStep, if_neg hm, if_neg hS]
        exact ⟨fun l hl => (h1 l hl).mono (by omega), sn⟩
theorem partsL_ok {M k : Nat} {w : List Sk} (hw : GW M k w) : ∀ l ∈ partsL w, PartOk (w.length + 1) M k l ∧ isMvL l := by
  intro l hl
  obtain ⟨h1, h2⟩ := partF_ok hw w.length (by omega)
  rw [partsL, List.mem_filter, List.mem_append] at hl
  have hp : PartOk (w.length + 1) M k l := by
    rcases hl.1 with h | h
    · exact h1 l h
    · simp at h; subst h; exact h2
  refine ⟨hp, ?_⟩
  rcases hp.hd with rfl | h
  · simp at hl
  · exact h
theorem partsL_len (w : List Sk) : (partsL w).length ≤ w.length + 1 := by
  rw [partsL]
  refine Nat.le_trans (List.length_filter_le ..) ?_
  have := (partF_len w w.length (by omega)).1
  simp; omega
/-- the lines of a part, closed -/
def closedL (l : List Sk) : List (List P) := (List.range (l.length - 1)).map (fun i => corF l (i + 1)) ++ [[penF l l.length, begF l 1]]
theorem closed_ok {n M k : Nat} {l : List Sk} (h : PartOk n M k l) (hm : isMvL l) (hn : n < 1000) : f_closed_lines [enc l] = .ok (encL (closedL l)) := by
  rw [f_closed_lines, run1, b_closed_lines]
  have hl := h.len
  obtain ⟨p, r, rfl, _⟩ := hm
  have r2 : rng2D (.int 1) (.int ((r.length : Int) + 1)) = .ok (upto r.length 1) := rng2D_ok (by omega) (by omega) (by omega) (by simp at hl; omega)
  have e1 : lcGo (lE [("number", 2)] (.nm 2) .none (.call "corner_points" f_corner_points (.cons (.var 0) (.cons (.var 2) .nil))) [.im (enc (Sk.mv p :: r)), .un, .un]) (upto r.length 1) = .ok ((List.range r.length).map fun i => enc (corF (Sk.mv p :: r) (i + 1))) := by
    rw [upto]
    refine lcGo_all _ _ ?_
    intro i hi
    have hi := List.mem_range.mp hi
    have c : f_corner_points [enc (Sk.mv p :: r), .int ((i + 1 : Nat) : Int)] = .ok (enc (corF (Sk.mv p :: r) (i + 1))) := corner_ok (by omega) (by simp; omega)
    have e : (1 : Int) + (i : Int) = ((i + 1 : Nat) : Int) := by omega
    simp only [lE, List.map, wipe_cons, wipe_nil, t_nm, Res.bind_ok, c_none, if_true, e_call, e_cons, e_var, e_nil, List.set_cons_succ, List.set_cons_zero, List.getElem?_cons_zero, List.getElem?_cons_succ, e, c]
  have l6 := lim6
  have l7 : r.length ≤ LIM := by simp at hl; omega
  have ip : dIdx (enc (pensL (Sk.mv p :: r))) (.int (-1)) = .ok (enc (penF (Sk.mv p :: r) (r.length + 1))) := ix_Elast (by simp [pensL, List.range_succ])
  have i0 : dIdx (enc (Sk.mv p :: r)) (.int 0) = .ok (enc (Sk.mv p)) := ix_E (i := 0) rfl
  have l8 : r.length + 1 ≤ LIM := by simp at hl; omega
  have eb : begF (Sk.mv p :: r) 1 = p := rfl
  simp [len_E, r2, e1, l7, l8, pens_ok (show (Sk.mv p :: r).length < 1000 by omega), ip, i0, ix_mv1, e1]
  simp [closedL, encL, eb, Function.comp_def]
  rfl
def areaF (w : List Sk) : Rat := (partsL w).foldl (fun W l => (closedL l).foldl (fun W c => W + sweptF c) W) 0
theorem closedL_sz {n M k : Nat} {l : List Sk} (h : PartOk n M k l) (hm : isMvL l) : ∀ c ∈ closedL l, (∀ p ∈ c, GP M k p) ∧ 2 ≤ c.length ∧ c.length ≤ 4 := by
  intro c hc
  rw [closedL, List.mem_append] at hc
  rcases hc with hc | hc
  · obtain ⟨i, hi, rfl⟩ := List.mem_map.mp hc
    have hi := List.mem_range.mp hi
    refine ⟨h.sz.corF _, ?_, (corF_len (by omega)).2⟩
    obtain ⟨p, r, rfl, hr⟩ := hm
    obtain ⟨s, hs'⟩ : ∃ s, r[i]? = some s := ⟨_, List.getElem?_eq_getElem (by simpa using hi)⟩
    have hs : (Sk.mv p :: r)[i + 1]? = some s := by simpa using hs'
    have hx := hr _ (get_mem hs')
    cases s <;> simp [corF, hs, Sk.pts, isMv] at hx ⊢
  · rw [List.mem_singleton] at hc; subst hc
    refine ⟨?_, by simp, by simp⟩
    intro p hp
    simp at hp
    rcases hp with rfl | rfl
    · exact h.sz.penF _
    · exact h.sz.begF _
theorem sz_pow {M a b j : Nat} {q : Rat} (h : Sz M (a * 2 ^ b) q) (ha : a ≤ 2 ^ j) : G M (b + j) q := by
  refine Sz.mono h ?_
  rw [Nat.pow_add, Nat.mul_comm]
  exact Nat.mul_le_mul_left _ ha
theorem g_begin : g_NONE = enc (0 : Rat) := rfl
theorem area_ok {M k m : Nat} {w : List Sk} (hw : GW M k w) (fM : Ft m M) (hb : m + k < 1800) (hl : w.length < 990) : f_area [enc w] = .ok (enc (areaF w)) ∧ G (M * M * 60) (2 * k + 40) (areaF w) := by
  rw [f_area, run1, b_area]
  have l6 := lim6
  have pl := partsL_len w
  have po := partsL_ok hw
  have fMM : Ft (m + m + 6) (M * M * 60) := (fM.mul fM).mul ft_60
  have inner : ∀ (l : List Sk) (c : Nat) (W : Rat), PartOk (w.length + 1) M k l → isMvL l → c ≤ 1000000 → Sz (M * M * 60) (c * 2 ^ (2 * k + 10)) W →
      forGo (fE (.nm 3) (.cons (.set 1 (.call "plus" f_plus (.cons (.var 1) (.cons (.call "swept" f_swept (.cons (.var 3) .nil)) .nil)))) (.cons (.kil [3]) .nil))) ((closedL l).map enc) [.im (enc w), .im (enc W), .im (enc l), .un] = .nx [.im (enc w), .im (enc ((closedL l).foldl (fun W c => W + sweptF c) W)), .im (enc l), .un] ∧ Sz (M * M * 60) ((c + (closedL l).length) * 2 ^ (2 * k + 10)) ((closedL l).foldl (fun W c => W + sweptF c) W) := by
    intro l c W hp hm hc hW
    have cz := closedL_sz hp hm
    have hcl : (closedL l).length ≤ 1000 := by have := hp.len; simp [closedL]; omega
    refine forGo_fold (α := List P) (β := Rat) enc (fun W => [.im (enc w), .im (enc W), .im (enc l), .un]) (fun W c => W + sweptF c) (fun j W => Sz (M * M * 60) ((c + j) * 2 ^ (2 * k + 10)) W) (closedL l) ?_ W hW
    intro i x s hx hs
    have hxm := cz x (get_mem hx)
    have hi := (List.getElem?_eq_some_iff.mp hx).1
    obtain ⟨e1, s1⟩ := swept_ok hxm.1 fM hb hxm.2.1 hxm.2.2
    have g1 : G (M * M * 60) (2 * k + 10 + 21) s := sz_pow hs (by omega)
    have o1 : Ok s := g1.okF fMM (by omega) (by omega)
    have o2 : Ok (sweptF x) := s1.okF fMM (by omega) (by omega)
    refine ⟨by simp [fE, e1, plus_ok o1 o2], ?_⟩
    have := Sz.add hs s1
    have e : (c + i) * 2 ^ (2 * k + 10) + 2 ^ (2 * k + 10) = (c + (i + 1)) * 2 ^ (2 * k + 10) := by
      rw [← Nat.add_assoc]; generalize 2 ^ (2 * k + 10) = z; exact (Nat.succ_mul _ _).symm
    rw [e] at this
    exact this
  have outer := forGo_fold (α := List Sk) (β := Rat) (f := fE (.nm 2) (.cons (.fr (.nm 3) (.seq (.call "closed_lines" f_closed_lines (.cons (.var 2) .nil)))
 (.cons (.set 1 (.call "plus" f_plus (.cons (.var 1) (.cons (.call "swept" f_swept (.cons (.var 3) .nil)) .nil))))
 (.cons (.kil [3])
 .nil)))
 (.cons (.kil [3])
 (.cons (.kil [2, 3])
 .nil)))) enc (fun W => [.im (enc w), .im (enc W), .un, .un]) (fun W l => (closedL l).foldl (fun W c => W + sweptF c) W) (fun i W => Sz (M * M * 60) (i * 1000 * 2 ^ (2 * k + 10)) W) (partsL w) (by
    intro i l W hl hW
    obtain ⟨hp, hm⟩ := po l (get_mem hl)
    have hi := (List.getElem?_eq_some_iff.mp hl).1
    obtain ⟨e1, s1⟩ := inner l (i * 1000) W hp hm (by omega) hW
    have hcl : (closedL l).length ≤ 1000 := by have := hp.len; simp [closedL]; omega
    refine ⟨?_, Sz.mono s1 (Nat.mul_le_mul_right _ (by omega))⟩
    have il : itemsOf (encL (closedL l)) = .ok ((closedL l).map enc) := by
      rw [encL, it_lst, List.length_map, if_pos (by omega)]
    simp [fE, closed_ok hp hm (show w.length + 1 < 1000 by omega), il]
    rw [e1]
    simp) 0 (by simpa using ⟨0, by simp, by simp⟩)
  obtain ⟨e1, s1⟩ := outer
  refine ⟨?_, ?_⟩
  · simp [parts_ok (show w.length < 1000 by omega), it_E (show (partsL w).length ≤ LIM by omega), g_begin]
    rw [e1]
    simp [areaF]
  · exact (sz_pow s1 (j := 30) (by omega)).mono (by omega)
end Rf
namespace Rf
open PySem Dp
open Enc (enc)
def lo2 (m x : Rat) : Rat := if x < m then x else m
def hi2 (m x : Rat) : Rat := if m < x then x else m
def minL : List Rat → Rat
  | [] => 0
  | x :: xs => xs.foldl lo2 x
def maxL : List Rat → Rat
  | [] => 0
  | x :: xs => xs.foldl hi2 x
abbrev Box := P × P
def boxF : List P → Option Box
  | [] => none
  | l => some ((minL (l.map (·.1)), minL (l.map (·.2))), (maxL (l.map (·.1)), maxL (l.map (·.2))))
instance : Enc (Option Box) where
  enc
    | none => .none
    | some b => enc b
  dep := 3
  inj {a b} h := by
    cases a <;> cases b <;> simp only [enc_pair, reduceCtorEq] at h
    · rfl
    · rename_i x y
      simp only [PyData.tuple.injEq, List.cons.injEq, and_true, ← enc_pair, enc_inj] at h
      exact congrArg some h
  good o := by
    cases o with
    | none => exact good_non _
    | some b => exact (Enc.good b).mono (by decide)
instance : EncOk (Option Box) := ⟨by decide⟩
instance : EncOk Box := ⟨by decide⟩
theorem enc_none : enc (none : Option Box) = PyData.none := rfl
theorem enc_some {b : Box} : enc (some b) = enc b := rfl
@[simp] theorem is_none {o : Option Box} : dCmp .Is (enc o) .none = .ok (.bool o.isNone) := by cases o <;> rfl
@[simp] theorem isnot_none {o : Option Box} : dCmp .IsNot (enc o) .none = .ok (.bool o.isSome) := by cases o <;> rfl
@[simp] theorem c_eqB {a b : Bool} : dCmp .Eq (.bool a) (.bool b) = .ok (.bool (a == b)) := by cases a <;> cases b <;> rfl
@[simp] theorem c_neB {a b : Bool} : dCmp .NotEq (.bool a) (.bool b) = .ok (.bool (a != b)) := by cases a <;> cases b <;> rfl
theorem it_L {α : Type} [Enc α] {xs : List α} (h : xs.length ≤ LIM) : itemsOf (encL xs) = .ok (xs.map enc) := by
  rw [encL, it_lst, List.length_map, if_pos h]
theorem ix_EL {α : Type} [Enc α] {xs : List α} {i : Nat} {a : α} (h : xs[i]? = some a) : dIdx (encL xs) (.int (i : Int)) = .ok (enc a) := by
  rw [encL]; exact ix_lst (by simp [h])
theorem len_L {α : Type} [Enc α] {xs : List α} : dBi .len [encL xs] = .ok (.int xs.length) := by
  rw [encL, bi_lenL, List.length_map]
section
variable {x : Rat} {xs : List Rat} (ho : ∀ q ∈ x :: xs, Ok q) (hl : xs.length < 100000)
include ho hl
theorem foldl_mem (f : Rat → Rat → Rat) (hf : ∀ a b, f a b = a ∨ f a b = b) : ∀ (l : List Rat) (a : Rat), l.foldl f a ∈ a :: l := by
  intro l
  induction l with
  | nil => intro a; simp
  | cons b l ih =>
    intro a
    have := ih (f a b)
    rcases hf a b with e | e <;> rw [List.foldl_cons, e] <;> rw [e] at this
    · rcases List.mem_cons.mp this with h | h
      · rw [h]; simp
      · exact List.mem_cons_of_mem _ (List.mem_cons_of_mem _ h)
    · exact List.mem_cons_of_mem _ this
omit ho hl in
theorem lo2_or (a b : Rat) : lo2 a b = a ∨ lo2 a b = b := by unfold lo2; split <;> simp
omit ho hl in
theorem hi2_or (a b : Rat) : hi2 a b = a ∨ hi2 a b = b := by unfold hi2; split <;> simp
theorem least_ok : f_least_of [encL (x :: xs)] = .ok (enc (minL (x :: xs))) := by
  rw [f_least_of, run1, b_least_of]
  have l6 := lim6
  have i0 : dIdx (encL (x :: xs)) (.int 0) = .ok (enc x) := ix_EL (i := 0) rfl
  have il : itemsOf (encL (x :: xs)) = .ok ((x :: xs).map enc) := it_L (by simp; omega)
  have f := forGo_fold (α := Rat) (β := Rat) (f := fE (.nm 2) (.cons (.ife (.call "is_less" f_is_less (.cons (.var 2) (.cons (.var 1) .nil)))
 (.cons (.set 1 (.var 2))
 .nil)
 .nil)
 (.cons (.kil [2])
 .nil))) enc (fun m => [.im (encL (x :: xs)), .im (enc m), .un]) lo2 (fun i m => Ok m) (x :: xs) (by
    intro i a s ha hs
    have oa := ho a (get_mem ha)
    refine ⟨?_, ?_⟩
    · by_cases h : a < s <;> simp [fE, is_less_ok oa hs, h, lo2]
    · rcases lo2_or s a with e | e <;> rw [e] <;> assumption) x (ho x (by simp))
  simp [i0, il, -List.map_cons]
  rw [f.1]
  have e : lo2 x x = x := by unfold lo2; simp
  simp [minL, e]
theorem greatest_ok : f_greatest_of [encL (x :: xs)] = .ok (enc (maxL (x :: xs))) := by
  rw [f_greatest_of, run1, b_greatest_of]
  have l6 := lim6
  have i0 : dIdx (encL (x :: xs)) (.int 0) = .ok (enc x) := ix_EL (i := 0) rfl
  have il : itemsOf (encL (x :: xs)) = .ok ((x :: xs).map enc) := it_L (by simp; omega)
  have f := forGo_fold (α := Rat) (β := Rat) (f := fE (.nm 2) (.cons (.ife (.call "is_less" f_is_less (.cons (.var 1) (.cons (.var 2) .nil)))
 (.cons (.set 1 (.var 2))
 .nil)
 .nil)
 (.cons (.kil [2])
 .nil))) enc (fun m => [.im (encL (x :: xs)), .im (enc m), .un]) hi2 (fun i m => Ok m) (x :: xs) (by
    intro i a s ha hs
    have oa := ho a (get_mem ha)
    refine ⟨?_, ?_⟩
    · by_cases h : s < a <;> simp [fE, is_less_ok hs oa, h, hi2]
    · rcases hi2_or s a with e | e <;> rw [e] <;> assumption) x (ho x (by simp))
  simp [i0, il, -List.map_cons]
  rw [f.1]
  have e : hi2 x x = x := by unfold hi2; simp
  simp [maxL, e]
end
theorem box_ok {l : List P} (ho : ∀ p ∈ l, OkP p) (hl : l.length < 100000) : f_box_of [encL l] = .ok (enc (boxF l)) := by
  rw [f_box_of, run1, b_box_of]
  have l6 := lim6
  cases l with
  | nil =>
    have e : dBi .len [encL ([] : List P)] = .ok (.int 0) := rfl
    simp [e]; rfl
  | cons p r =>
    have il : itemsOf (encL (p :: r)) = .ok ((p :: r).map enc) := it_L (by simp at hl ⊢; omega)
    have h0 : ¬ ((r.length : Int) + 1 = 0) := by omega
    have ll : ((p :: r).map (enc : P → D)).length ≤ LIM := by simp at hl ⊢; omega
    have e1 : lcGo (lE [("point", 2)] (.nm 2) .none (.idx (.var 2) (.int 0)) [.im (encL (p :: r)), .un, .un, .un]) ((p :: r).map enc) = .ok ((p :: r).map fun q => enc q.1) := lcGo_all _ _ (by intro q hq; simp [lE])
    have e2 : lcGo (lE [("point", 2)] (.nm 2) .none (.idx (.var 2) (.int 1)) [.im (encL (p :: r)), .im (.list ((p :: r).map fun q => enc q.1)), .un, .un]) ((p :: r).map enc) = .ok ((p :: r).map fun q => enc q.2) := lcGo_all _ _ (by intro q hq; simp [lE])
    have a1 : PyData.list ((p :: r).map fun q => enc q.1) = encL ((p :: r).map (·.1)) := by rw [encL, List.map_map]; rfl
    have a2 : PyData.list ((p :: r).map fun q => enc q.2) = encL ((p :: r).map (·.2)) := by rw [encL, List.map_map]; rfl
    have o1 : ∀ q ∈ (p :: r).map (·.1), Ok q := by intro q hq; obtain ⟨a, ha, rfl⟩ := List.mem_map.mp hq; exact (ho a ha).1
    have o2 : ∀ q ∈ (p :: r).map (·.2), Ok q := by intro q hq; obtain ⟨a, ha, rfl⟩ := List.mem_map.mp hq; exact (ho a ha).2
    have c1 := least_ok (x := p.1) (xs := r.map (·.1)) (by simpa using o1) (by simp at hl ⊢; omega)
    have c2 := least_ok (x := p.2) (xs := r.map (·.2)) (by simpa using o2) (by simp at hl ⊢; omega)
    have c3 := greatest_ok (x := p.1) (xs := r.map (·.1)) (by simpa using o1) (by simp at hl ⊢; omega)
    have c4 := greatest_ok (x := p.2) (xs := r.map (·.2)) (by simpa using o2) (by simp at hl ⊢; omega)
    rw [← List.map_cons (f := fun q : P => q.1)] at c1 c3
    rw [← List.map_cons (f := fun q : P => q.2)] at c2 c4
    simp only [Nat.reduceSub, List.replicate, ss_cons, s_ife, s_set, e_cmp, e_bi, e_cons, e_var, e_nil, e_int, List.getElem?_cons_zero, Res.bind_ok, len_L, List.length_cons, Int.natCast_add, Int.natCast_one, c_eqI, h0, decide_false, tru_bl, ofR_ok, if_false, Bool.false_eq_true, ss_nil, seq_nx, e_lc, i_seq, il, ll, if_true, e1, List.set_cons_succ, List.set_cons_zero]
    rw [e2]
    simp only [Res.bind_ok, ofR_ok, List.set_cons_succ, List.set_cons_zero, seq_nx, ss_cons, s_ret, e_tup, e_cons, e_nil, e_call, e_var, List.getElem?_cons_zero, List.getElem?_cons_succ, a1, a2, c1, c2, c3, c4, seq_rt, fin_rt]
    rfl
theorem ext_ow {ds es : List D} (h : ds.length + es.length ≤ LIM) : dExt ds (.list es) = .ok (ds ++ es) := by
  show (if _ then _ else _) = _
  rw [if_pos h]
def ptsL (w : List Sk) : List P := w.flatMap Sk.pts
theorem pts_len (s : Sk) : s.pts.length ≤ 3 := by cases s <;> simp [Sk.pts]
theorem ptsL_take {w : List Sk} {i : Nat} {s : Sk} (h : w[i]? = some s) : ptsL (w.take (i + 1)) = ptsL (w.take i) ++ s.pts := by
  rw [List.take_add_one, h]
  simp [ptsL]
theorem ptsL_len (w : List Sk) : (ptsL w).length ≤ 3 * w.length := by
  induction w with
  | nil => simp [ptsL]
  | cons s w ih =>
    have := pts_len s
    have e : (ptsL (s :: w)).length = s.pts.length + (ptsL w).length := by simp [ptsL]
    rw [e, List.length_cons]; omega
theorem hull_ok {w : List Sk} (ho : ∀ s ∈ w, ∀ p ∈ s.pts, OkP p) (hl : w.length < 1000) : f_hull_box [enc w] = .ok (enc (boxF (ptsL w))) := by
  rw [f_hull_box, run1, b_hull_box]
  have l6 := lim6
  have bl := ptsL_len w
  have bo := box_ok (l := ptsL w) (by intro p hp; obtain ⟨s, hs, hp⟩ := List.mem_flatMap.mp hp; exact ho s hs p hp) (by omega)
  rw [encL] at bo
  simp [it_E (show w.length ≤ LIM by omega)]
  rw [forGo_idx (fun i => [.im (enc w), .ow ((ptsL (w.take i)).map enc), .un]) ?_ (by simp [ptsL])]
  · simp [bo]
  · intro i d hd
    obtain ⟨s, hs, rfl⟩ := map_get hd
    have hi := (List.getElem?_eq_some_iff.mp hs).1
    rw [ptsL_take hs]
    have b1 := ptsL_len (w.take i)
    have b2 : (w.take i).length ≤ w.length := by simp; omega
    have b3 := pts_len s
    have e1 : dExt ((ptsL (w.take i)).map enc) (.list (s.pts.map enc)) = .ok ((ptsL (w.take i)).map enc ++ s.pts.map enc) := ext_ow (by simp only [List.length_map]; omega)
    have e2 : dBi .list [enc s.pts] = .ok (.list (s.pts.map enc)) := rfl
    simp [fE, slc_sk, e2, e1]
end Rf
namespace Rf
open PySem Dp
open Enc (enc)
theorem begF_n {w : List Sk} {i : Nat} (h : w[i]? = none) : begF w (i + 1) = (0, 0) := by simp only [begF, h]
theorem penF_n {w : List Sk} {i : Nat} (h : w[i]? = none) : penF w (i + 1) = (0, 0) := by simp only [penF, h]
theorem begF_app (l r : List Sk) : ∀ j, j ≤ l.length → begF (l ++ r) j = begF l j
  | 0, _ => rfl
  | j + 1, h => by
    have h1 : (l ++ r)[j]? = l[j]? := List.getElem?_append_left (by omega)
    rw [begF, begF, h1, begF_app l r j (by omega)]
theorem penF_app (l r : List Sk) : ∀ j, j ≤ l.length → penF (l ++ r) j = penF l j
  | 0, _ => rfl
  | j + 1, h => by
    have h1 : (l ++ r)[j]? = l[j]? := List.getElem?_append_left (by omega)
    rw [penF, penF, h1, begF_app l r (j + 1) h]
theorem corF_app (l r : List Sk) {j : Nat} (h : j < l.length) : corF (l ++ r) j = corF l j := by
  have h1 : (l ++ r)[j]? = l[j]? := List.getElem?_append_left h
  rw [corF, corF, h1, penF_app l r j (by omega), begF_app l r (j + 1) (by omega)]
theorem begF_part {p : P} {r : List Sk} (h : ∀ s ∈ r, isMv s = false) : ∀ j, j ≤ r.length → begF (Sk.mv p :: r) (j + 1) = p
  | 0, _ => rfl
  | j + 1, hj => by
    have hs : (Sk.mv p :: r)[j + 1]? = some (r[j]'(by omega)) := by simp
    have hm := h _ (List.getElem_mem (l := r) (n := j) (by omega))
    generalize r[j]'(by omega) = s at hs hm
    rw [begF_s hs, begF_part h j (by omega)]
    cases s <;> simp_all [isMv, begOf]
/-- whether lines are drawn since the last move or shut -/
def opF (w : List Sk) : Nat → Bool
  | 0 => false
  | i + 1 => match w[i]? with
    | some s => !isMv s && !isSh s
    | none => false
/-- the closing line, if any -/
def clo (w : List Sk) (i : Nat) : List (List P) := if opF w i then [[penF w i, begF w i]] else []
/-- the lines of a stroke -/
def stL (w : List Sk) (i : Nat) (s : Sk) : List (List P) := if isMv s then clo w i else corF w i :: (if isSh s then [[begF w (i + 1), begF w (i + 1)]] else [])
def lnF (w : List Sk) : Nat → List (List P)
  | 0 => []
  | i + 1 => match w[i]? with
    | some s => lnF w i ++ stL w i s
    | none => []
theorem opF_s {w : List Sk} {i : Nat} {s : Sk} (h : w[i]? = some s) : opF w (i + 1) = (!isMv s && !isSh s) := by simp only [opF, h]
theorem lnF_s {w : List Sk} {i : Nat} {s : Sk} (h : w[i]? = some s) : lnF w (i + 1) = lnF w i ++ stL w i s := by simp only [lnF, h]
def linesL (w : List Sk) : List (List P) := (partsL w).flatMap closedL
abbrev lgP (l : List (List Sk)) : List (List Sk) := l.filter fun p => decide (1 < p.length)
def openL (l : List Sk) : List (List P) := (List.range (l.length - 1)).map fun i => corF l (i + 1)
theorem closedL_eq (l : List Sk) : closedL l = openL l ++ [[penF l l.length, begF l 1]] := rfl
theorem openL_snoc {p : P} {r : List Sk} {s : Sk} : openL (Sk.mv p :: r ++ [s]) = openL (Sk.mv p :: r) ++ [corF (Sk.mv p :: r ++ [s]) (r.length + 1)] := by
  have e1 : (Sk.mv p :: r ++ [s]).length - 1 = r.length + 1 := by simp
  have e2 : (Sk.mv p :: r).length - 1 = r.length := by simp
  rw [openL, openL, e1, e2, map_range_succ]
  congr 1
  refine List.map_congr_left fun i hi => ?_
  have hi := List.mem_range.mp hi
  exact corF_app _ _ (by simp; omega)
structure LInv (w : List Sk) (i : Nat) (st : Pt) : Prop where
  ln : (lgP st.1).flatMap closedL ++ openL st.2 = lnF w i
  op : opF w i = decide (1 < st.2.length)
  em : st.2 = [] → penF w i = begF w i
  ne : st.2 ≠ [] → ∃ p r, st.2 = Sk.mv p :: r ∧ (∀ s ∈ r, isMv s = false) ∧ penF st.2 st.2.length = penF w i ∧ p = begF w i
theorem linv (w : List Sk) : ∀ i, i ≤ w.length → LInv w i (partF w i)
  | 0, _ => ⟨by simp [partF, lnF, openL], by simp [opF, partF], fun _ => rfl, fun h => absurd rfl h⟩
  | i + 1, h => by
    have ih := linv w i (by omega)
    have hs : w[i]? = some w[i] := by simp [show i < w.length by omega]
    generalize w[i] = s at hs
    rw [partF_s hs]
    obtain ⟨h1, h2, h3, h4⟩ := ih
    generalize partF w i = st at h1 h2 h3 h4
    obtain ⟨found, so⟩ := st
    simp only at h1 h2 h3 h4
    by_cases hm : isMv s
    · have hS : isSh s = false := by cases s <;> simp_all [isMv, isSh]
      rw [partStep, if_pos hm]
      have e1 : openL [s] = [] := by simp [openL]
      cases s <;> simp [isMv] at hm
      rename_i p
      refine ⟨?_, by rw [opF_s hs]; simp [isMv], fun h => absurd h (by simp), fun _ => ⟨p, [], rfl, by simp, ?_, ?_⟩⟩
      · rw [lnF_s hs, stL, if_pos (by rfl), e1, List.append_nil, lgP, List.filter_append, List.flatMap_append]
        rw [← h1, List.append_assoc]
        congr 1
        rw [clo, h2]
        rcases Nat.lt_or_ge 1 so.length with hl | hl
        · have hne : so ≠ [] := by intro e; subst e; simp at hl
          obtain ⟨q, r, rfl, hr, h5, h6⟩ := h4 hne
          simp only [hl, decide_true, if_true, List.filter_cons, List.filter_nil, List.flatMap_cons, List.flatMap_nil, List.append_nil]
          rw [closedL_eq, h5]
          have : begF (Sk.mv q :: r) 1 = q := rfl
          rw [this, h6]
        · have hn : ¬ 1 < so.length := by omega
          have e0 : openL so = [] := by rw [openL, show so.length - 1 = 0 by omega]; rfl
          simp [hn, e0]
      · rw [penF_s hs, begF_s hs]; rfl
      · rw [begF_s hs]; rfl
    · have hm' : isMv s = false := by simpa using hm
      have eb : begF w (i + 1) = begF w i := by rw [begF_s hs]; cases s <;> simp_all [isMv, begOf]
      -- the part goes on
      have key : ∃ p r, orMv so (begF w (i + 1)) = Sk.mv p :: r ∧ (∀ s ∈ r, isMv s = false) ∧ penF (Sk.mv p :: r) (r.length + 1) = penF w i ∧ p = begF w i ∧ openL (Sk.mv p :: r) = openL so := by
        rcases so with _ | ⟨x, xs⟩
        · refine ⟨begF w (i + 1), [], rfl, by simp, ?_, eb, by simp [openL]⟩
          rw [h3 rfl, ← eb]; rfl
        · obtain ⟨q, r, e, hr, h5, h6⟩ := h4 (by simp)
          rw [e] at h5 ⊢
          exact ⟨q, r, rfl, hr, h5, h6, rfl⟩
      obtain ⟨p, r, k1, k2, k3, k4, k5⟩ := key
      have gs : (Sk.mv p :: r ++ [s])[r.length + 1]? = some s := by simp
      have pb : begF (Sk.mv p :: r ++ [s]) (r.length + 1) = p := by
        rw [begF_app _ _ _ (by simp)]; exact begF_part k2 r.length (by omega)
      have pb2 : begF (Sk.mv p :: r ++ [s]) (r.length + 2) = p := by
        rw [begF_s gs, pb]; cases s <;> simp_all [isMv, begOf]
      have pp : penF (Sk.mv p :: r ++ [s]) (r.length + 1) = penF w i := by
        rw [penF_app _ _ _ (by simp), k3]
      have pp2 : penF (Sk.mv p :: r ++ [s]) (r.length + 2) = penF w (i + 1) := by
        rw [penF_s gs, penF_s hs, pb2, eb, k4]
      have ec : corF (Sk.mv p :: r ++ [s]) (r.length + 1) = corF w i := by
        rw [corF, corF, gs, hs]
        have : begF (Sk.mv p :: r ++ [s]) (r.length + 1 + 1) = begF w (i + 1) := by rw [pb2, eb, k4]
        rw [pp, this]
      have ll : (Sk.mv p :: r ++ [s]).length = r.length + 2 := by simp
      by_cases hS : isSh s
      · rw [partStep, if_neg hm, if_pos hS, k1]
        have sh : s = .sh := by cases s <;> simp_all [isSh]
        subst sh
        refine ⟨?_, by rw [opF_s hs]; simp [isMv, isSh], fun _ => by rw [penF_s hs]; rfl, fun h => absurd rfl h⟩
        rw [lnF_s hs, stL, if_neg (by simp [isMv]), if_pos (by rfl), ← h1, lgP, List.filter_append, List.flatMap_append]
        have e0 : openL ([] : List Sk) = [] := rfl
        have l2 : 1 < (Sk.mv p :: r ++ [Sk.sh]).length := by rw [ll]; omega
        have e3 : List.flatMap closedL (List.filter (fun p => decide (1 < p.length)) [Sk.mv p :: r ++ [Sk.sh]]) = closedL (Sk.mv p :: r ++ [Sk.sh]) := by
          rw [List.filter_cons, if_pos (by simpa using l2)]; simp
        rw [e0, List.append_nil, e3, closedL_eq, openL_snoc, ec, ll, pp2, k5, penF_s hs]
        have e4 : begF (Sk.mv p :: r ++ [Sk.sh]) 1 = begF w (i + 1) := by rw [eb, ← k4]; rfl
        rw [e4]
        simp [endOf, List.append_assoc]
      · have hS' : isSh s = false := by simpa using hS
        rw [partStep, if_neg hm, if_neg hS, k1]
        refine ⟨?_, ?_, fun h => absurd h (by simp), fun _ => ⟨p, r ++ [s], by simp, ?_, ?_, ?_⟩⟩
        · rw [lnF_s hs, stL, if_neg hm, if_neg hS, ← h1, openL_snoc, ec, k5]
          simp [List.append_assoc]
        · rw [opF_s hs, hm', hS']; simp
        · intro t ht
          rcases List.mem_append.mp ht with ht | ht
          · exact k2 t ht
          · simp at ht; subst ht; exact hm'
        · simp only; rw [ll]; exact pp2
        · rw [eb]; exact k4
theorem linesL_eq (w : List Sk) : linesL w = lnF w w.length ++ clo w w.length := by
  have h := linv w w.length (by omega)
  obtain ⟨h1, h2, h3, h4⟩ := h
  rw [linesL, partsL, List.filter_append, List.flatMap_append, ← h1, List.append_assoc]
  congr 1
  rw [clo, h2]
  generalize (partF w w.length).2 = so at *
  rcases Nat.lt_or_ge 1 so.length with hl | hl
  · have hne : so ≠ [] := by intro e; subst e; simp at hl
    obtain ⟨q, r, rfl, hr, h5, h6⟩ := h4 hne
    simp only [hl, decide_true, if_true, List.filter_cons, List.filter_nil, List.flatMap_cons, List.flatMap_nil, List.append_nil]
    rw [closedL_eq, h5]
    have : begF (Sk.mv q :: r) 1 = q := rfl
    rw [this, h6]
  · have hn : ¬ 1 < so.length := by omega
    have e0 : openL so = [] := by rw [openL, show so.length - 1 = 0 by omega]; rfl
    simp [hn, e0]
def sumR : List Rat → Rat
  | [] => 0
  | x :: xs => x + sumR xs
theorem sumR_app : ∀ a b : List Rat, sumR (a ++ b) = sumR a + sumR b
  | [], b => by simp [sumR, Rat.zero_add]
  | x :: a, b => by simp only [List.cons_append, sumR, sumR_app a b, Rat.add_assoc]
theorem foldl_sum {α : Type} (f : α → Rat) : ∀ (l : List α) (W : Rat), l.foldl (fun W c => W + f c) W = W + sumR (l.map f)
  | [], W => by simp [sumR, Rat.add_zero]
  | x :: l, W => by simp only [List.foldl_cons, foldl_sum f l, List.map_cons, sumR, Rat.add_assoc]
theorem areaF_eq (w : List Sk) : areaF w = sumR ((linesL w).map sweptF) := by
  have h : ∀ (ls : List (List Sk)) (W : Rat), ls.foldl (fun W l => (closedL l).foldl (fun W c => W + sweptF c) W) W = W + sumR ((ls.flatMap closedL).map sweptF) := by
    intro ls
    induction ls with
    | nil => intro W; simp [sumR, Rat.add_zero]
    | cons l ls ih =>
      intro W
      rw [List.foldl_cons, ih, foldl_sum, List.flatMap_cons, List.map_append, sumR_app, Rat.add_assoc]
  rw [areaF, h, Rat.zero_add]; rfl
theorem swept_pp (p : P) : sweptF [p, p] = 0 := by
  simp only [sweptF, crossF]
  grind
end Rf
namespace Rf
open PySem Dp
open Enc (enc)
instance : Enc Int where
  enc i := .int i
  dep := 0
  inj h := by simpa using h
  good i := good_int _ _
instance : Enc Nat where
  enc i := .int (i : Int)
  dep := 0
  inj h := by simp only [PyData.int.injEq] at h; omega
  good i := good_int _ _
instance : EncOk (List Int) := ⟨by decide⟩
instance : EncOk (List Nat) := ⟨by decide⟩
theorem enc_nat (n : Nat) : enc n = PyData.int (n : Int) := rfl
theorem enc_int (n : Int) : enc n = PyData.int n := rfl
theorem c_eqR {n : Nat} {d : D} (g : Good n d) (h : n ≤ 64) : dCmp .Eq d d = .ok (.bool true) := by
  rw [cEq g g h h (p := True) (by simp)]; rfl
theorem c_neR {n : Nat} {d : D} (g : Good n d) (h : n ≤ 64) : dCmp .NotEq d d = .ok (.bool false) := by
  rw [cNe g g h h (p := True) (by simp)]; rfl
theorem count_zip {α : Type} [Enc α] : ∀ (xs : List α) (n : Nat), count (n : Int) (xs.map enc) = (xs.zipIdx n).map fun q => PyData.tuple [.int (q.2 : Int), enc q.1]
  | [], n => rfl
  | x :: xs, n => by
    simp only [List.map_cons, count, List.zipIdx_cons]
    have := count_zip xs (n + 1)
    rw [show ((n + 1 : Nat) : Int) = (n : Int) + 1 by omega] at this
    rw [this]
theorem cut_mid {xs : List D} {k l : Nat} (h : k ≤ l) (g : l ≤ xs.length) : cutD xs (some (k : Int)) (some (l : Int)) = (xs.drop k).take (l - k) := by
  rw [cutD, HT.sIx_nat, HT.sIx_nat, Nat.min_eq_left g, Nat.min_eq_left (show k ≤ xs.length by omega)]
theorem slc_mid {α : Type} [Enc α] {xs : List α} {k l : Nat} (h : k ≤ l) (g : l ≤ xs.length) : dSlc (enc xs) (some (k : Int)) (some (l : Int)) = .ok (enc ((xs.drop k).take (l - k))) := by
  rw [enc_list, enc_list, slc_T, cut_mid h (by simpa using g), List.map_take, List.map_drop]
theorem good_nam (s : Sk) : PyData.canLay0 (.str s.nam) = true := by
  cases s <;> (dsimp only [Sk.nam]; decide +kernel)
/-- fractions with small lower numbers -/
theorem divInt_g {j l K k : Nat} (hl : 0 < l) (hK : l ∣ K) (hj : j ≤ l) (hk : K ≤ 2 ^ k) : G K k (Rat.divInt j l) := by
  obtain ⟨c, rfl⟩ := hK
  refine ⟨(j * c : Nat), ?_, ?_⟩
  · rw [Rat.divInt_eq_div, Rat.natCast_mul]
    have l0 : (l : Rat) ≠ 0 := by
      have := (Rat.natCast_pos (a := l)).mpr hl
      exact Rat.ne_of_gt this
    have e1 : ((l : Int) : Rat) = (l : Rat) := rfl
    have e2 : ((j : Int) : Rat) = (j : Rat) := rfl
    have e3 : (((j * c : Nat) : Int) : Rat) = (j : Rat) * (c : Rat) := by rw [← Rat.natCast_mul]; rfl
    rw [e1, e2, e3, ← Rat.mul_assoc, Rat.div_mul_cancel l0]
  · have : j * c ≤ l * c := Nat.mul_le_mul_right c hj
    simp only [Int.natAbs_natCast]
    omega
theorem way_g {m : Nat} {w : List Sk} (h : Way m w) : GW 100 40 w := by
  intro s hs p hp
  have := h.sz s hs p hp
  exact ⟨Sz.mono this.1 (by decide), Sz.mono this.2 (by decide)⟩
theorem ft_100 : Ft 7 100 := ⟨by decide, by decide⟩
end Rf
namespace Rf
open PySem Dp
open Enc (enc)
def raisedS (s : Sk) (pen : P) : Sk := match s with
  | .bw c p => .wv (lerp pen c (2 / 3)) (lerp p c (2 / 3)) p
  | s => s
def raisedTo (w : List Sk) : Nat → List Sk
  | 0 => []
  | i + 1 => match w[i]? with
    | some s => raisedTo w i ++ [raisedS s (penF w i)]
    | none => []
def raisedF (w : List Sk) : List Sk := raisedTo w w.length
theorem raisedTo_s {w : List Sk} {i : Nat} {s : Sk} (h : w[i]? = some s) : raisedTo w (i + 1) = raisedTo w i ++ [raisedS s (penF w i)] := by simp only [raisedTo, h]
theorem raisedTo_len {w : List Sk} : ∀ {i : Nat}, i ≤ w.length → (raisedTo w i).length = i
  | 0, _ => rfl
  | i + 1, h => by
    have hs : w[i]? = some w[i] := by simp [show i < w.length by omega]
    rw [raisedTo_s hs, List.length_append, raisedTo_len (by omega)]; rfl
theorem divInt23 : Rat.divInt 2 3 = 2 / 3 := by rw [Rat.divInt_eq_div]; rfl
theorem g_23 : G 3 2 (2 / 3) := ⟨2, by grind, by decide⟩
theorem ft_3 : Ft 2 3 := ⟨by decide, by decide⟩
theorem raised_ok {M k m : Nat} {w : List Sk} (hw : GW M k w) (fM : Ft m M) (hb : m + k < 3800) (hl : w.length < 1000) : f_raised [enc w] = .ok (enc (raisedF w)) := by
  rw [f_raised, run1, b_raised]
  have l6 := lim6
  have z := dZip_E (xs := w) (ys := pensL w) (by omega) (by rw [pens_len]; omega)
  simp [pens_ok hl, z]
  rw [forGo_idx (fun i => [.im (enc w), .im (enc (raisedTo w i)), .un, .un, .un]) ?_ (by simp [raisedTo, enc_list])]
  · have e : min w.length (pensL w).length = w.length := by rw [pens_len]; omega
    simp [raisedF, e]
  · intro i d hd
    obtain ⟨x, y, hx, hy, rfl⟩ := mpairs_get hd
    obtain ⟨s, hs, rfl⟩ := map_get hx
    obtain ⟨b, hb', rfl⟩ := map_get hy
    have hi := (List.getElem?_eq_some_iff.mp hs).1
    rw [pens_get (by omega)] at hb'
    cases hb'
    rw [raisedTo_s hs]
    have hp := hw.penF i
    have lr := raisedTo_len (w := w) (i := i) (by omega)
    have ea {t : Sk} : dBin .Add (enc (raisedTo w i)) (.tuple [enc t]) = .ok (enc (raisedTo w i ++ [t])) := b_addE (ys := [t]) (by simp; omega)
    have fr : f_fraction [.int 2, .int 3] = .ok (enc (2 / 3 : Rat)) := by rw [frac_ok (by decide) (by have := dbig9; omega), divInt23]
    simp only [fE]
    cases s with
    | bw c p =>
      have gs := hw _ (get_mem hs)
      have gc := gs c (by simp [Sk.pts])
      have gp := gs p (by simp [Sk.pts])
      have i1 : dIdx (enc (Sk.bw c p)) (.int 1) = .ok (enc c) := rfl
      have i2 : dIdx (enc (Sk.bw c p)) (.int 2) = .ok (enc p) := rfl
      have w1 {a b d : P} : PyData.tuple [.str "wave", enc a, enc b, enc d] = enc (Sk.wv a b d) := rfl
      simp [isBw, g_BOW, g_WAVE, fr, i1, i2, between_ok hp gc g_23 fM ft_3 (by omega), between_ok gp gc g_23 fM ft_3 (by omega), w1, ea, raisedS]
    | _ => simp [isBw, g_BOW, ea, raisedS]
/-- the places of lines -/
def tAt (j n : Nat) : Rat := Rat.divInt ((j + 1 : Nat) : Int) n
def flatS (w : List Sk) (m i : Nat) (s : Sk) : List Sk := if isBw s || isWv s then (List.range m).map fun j => .ln (cas (corF w i) (tAt j m)) else [s]
def flatTo (w : List Sk) (m : Nat) : Nat → List Sk
  | 0 => []
  | i + 1 => match w[i]? with
    | some s => flatTo w m i ++ flatS w m i s
    | none => []
def flatF (w : List Sk) (m : Nat) : List Sk := flatTo w m w.length
theorem flatTo_s {w : List Sk} {m i : Nat} {s : Sk} (h : w[i]? = some s) : flatTo w m (i + 1) = flatTo w m i ++ flatS w m i s := by simp only [flatTo, h]
theorem flatS_len {w : List Sk} {m i : Nat} {s : Sk} (hm : 1 ≤ m) : (flatS w m i s).length ≤ m := by
  rw [flatS]; split
  · simp
  · simpa using hm
theorem flatTo_len {w : List Sk} {m : Nat} (hm : 1 ≤ m) : ∀ {i : Nat}, i ≤ w.length → (flatTo w m i).length ≤ i * m
  | 0, _ => by simp [flatTo]
  | i + 1, h => by
    have hs : w[i]? = some w[i] := by simp [show i < w.length by omega]
    have ih := flatTo_len hm (w := w) (i := i) (by omega)
    have := flatS_len (w := w) (i := i) (s := w[i]) hm
    rw [flatTo_s hs, List.length_append, Nat.succ_mul]; omega
theorem flat_ok {M k m T e n : Nat} {w : List Sk} (hw : GW M k w) (fM : Ft m M) (fT : Ft e T) (hn : 1 ≤ n) (hT : n ∣ T) (hb : m + 6 * e + k < 3800) (hl : w.length < 1000) (hln : w.length * n < 100000) (hn2 : n < 1000) : f_flat [enc w, .int n] = .ok (enc (flatF w n)) := by
  rw [f_flat, run2, b_flat]
  have l6 := lim6
  have d9 := dbig9
  simp [it_E (show w.length ≤ LIM by omega)]
  rw [forGo_idx (fun i => [.im (enc w), .im (.int n), .im (enc (flatTo w n i)), .un, .un, .un, .un]) ?_ (by simp [flatTo, enc_list])]
  · simp [flatF]
  · intro i d hd
    obtain ⟨x, hx, rfl⟩ := mcount_get hd
    obtain ⟨s, hs, rfl⟩ := map_get hx
    have hi := (List.getElem?_eq_some_iff.mp hs).1
    rw [flatTo_s hs]
    have lt := flatTo_len (w := w) hn (i := i) (by omega)
    have lm : i * n ≤ w.length * n := Nat.mul_le_mul_right n (by omega)
    have ls := flatS_len (w := w) (i := i) (s := s) hn
    have ea : dBin .Add (enc (flatTo w n i)) (enc (flatS w n i s)) = .ok (enc (flatTo w n i ++ flatS w n i s)) := b_addE (by omega)
    simp only [fE]
    by_cases hk : (isBw s || isWv s) = true
    · have co := corner_ok hl hi
      have cl := corF_len hi
      have r2 : rng2D (.int 1) (.int ((n : Int) + 1)) = .ok (upto n 1) := rng2D_ok (by omega) (by omega) (by omega) (by omega)
      have ln : n ≤ LIM := by omega
      have e1 : lcGo (lE [("at", 6)] (.nm 6) .none (.tup (.cons (.glo "LINE" g_LINE) (.cons (.call "point_of" f_point_of (.cons (.var 5) (.cons (.call "fraction" f_fraction (.cons (.var 6) (.cons (.var 1) .nil))) .nil))) .nil))) [.im (enc w), .im (.int n), .im (enc (flatTo w n i)), .im (.int i), .im (enc s), .im (enc (corF w i)), .un]) (upto n 1) = .ok ((List.range n).map fun j => enc (Sk.ln (cas (corF w i) (tAt j n)))) := by
        rw [upto]
        refine lcGo_all _ _ ?_
        intro j hj
        have hj := List.mem_range.mp hj
        have ej : (1 : Int) + (j : Int) = ((j + 1 : Nat) : Int) := by omega
        have fr : f_fraction [.int ((j + 1 : Nat) : Int), .int (n : Int)] = .ok (enc (tAt j n)) := frac_ok (by omega) (by omega)
        have gt : G T e (tAt j n) := divInt_g (j := j + 1) (l := n) (by omega) hT (by omega) fT.l
        have po := point_of_ok (hw.corF i) gt fM fT hb cl.1 cl.2
        simp only [lE, List.map, wipe_cons, wipe_nil, t_nm, Res.bind_ok, c_none, if_true, e_tup, e_glo, e_call, e_cons, e_var, e_nil, List.set_cons_succ, List.set_cons_zero, List.getElem?_cons_zero, List.getElem?_cons_succ, ej, fr, po]
        rfl
      have et : dBi .tuple [.list ((List.range n).map fun j => enc (Sk.ln (cas (corF w i) (tAt j n))))] = .ok (enc (flatS w n i s)) := by
        rw [flatS, if_pos hk, enc_list, List.map_map]; rfl
      simp [hk, g_BOW, g_WAVE, co, r2, ln, e1, et, ea, -bi_tupL]
    · have hk' : (isBw s || isWv s) = false := by simpa using hk
      have es : PyData.tuple [enc s] = enc (flatS w n i s) := by rw [flatS, if_neg hk]; rfl
      simp [hk', g_BOW, g_WAVE, es, ea]
theorem joined_ok {a b : List Sk} (h : a.length + b.length < 100000) : f_joined [enc a, enc b] = .ok (enc (a ++ b)) := by
  rw [f_joined, run2, b_joined]
  have l6 := lim6
  simp [b_addE (xs := a) (ys := b) (by omega)]
end Rf
namespace Rf
open PySem Dp
open Enc (enc)
theorem G.den {M k : Nat} {q : Rat} (h : G M k q) (h0 : 0 < M) : ∃ j : Int, q = (j : Rat) / (M : Rat) ∧ j.natAbs ≤ 2 ^ k := by
  obtain ⟨j, e, hj⟩ := h
  have m0 : (M : Rat) ≠ 0 := Rat.ne_of_gt ((Rat.natCast_pos (a := M)).mpr h0)
  exact ⟨j, by rw [← e, Rat.mul_div_cancel m0], hj⟩
/-- a quotient's size -/
theorem G.div {M k l : Nat} {p q : Rat} (hp : G M k p) (hq : G M l q) (h0 : 0 < M) (hn : q ≠ 0) : ∃ N, 0 < N ∧ N ≤ 2 ^ l ∧ G N k (p / q) := by
  obtain ⟨i, ei, hi⟩ := hp.den h0
  obtain ⟨j, ej, hj⟩ := hq.den h0
  have m0 : (M : Rat) ≠ 0 := Rat.ne_of_gt ((Rat.natCast_pos (a := M)).mpr h0)
  have j0 : j ≠ 0 := by
    rintro rfl
    apply hn
    rw [ej]
    have : ((0 : Int) : Rat) = 0 := rfl
    rw [this]; grind
  have jr : (j : Rat) ≠ 0 := by
    intro e
    apply j0
    exact Rat.intCast_inj.mp (by rw [e]; rfl)
  refine ⟨j.natAbs, by omega, hj, ⟨i * j.sign, ?_, ?_⟩⟩
  · have e1 : ((j.natAbs : Nat) : Rat) = (j : Rat) * (j.sign : Rat) := by
      rw [← Rat.intCast_mul]
      have : ((j.natAbs : Nat) : Rat) = ((j.natAbs : Int) : Rat) := rfl
      rw [this]
      congr 1
      rcases Int.lt_or_gt_of_ne j0 with h | h
      · rw [Int.sign_eq_neg_one_of_neg h]; omega
      · rw [Int.sign_eq_one_of_pos h]; omega
    rw [e1, Rat.intCast_mul, ei, ej]
    grind
  · rw [Int.natAbs_mul]
    have : j.sign.natAbs ≤ 1 := by
      rcases Int.lt_or_gt_of_ne j0 with h | h
      · rw [Int.sign_eq_neg_one_of_neg h]; decide
      · rw [Int.sign_eq_one_of_pos h]; decide
    calc i.natAbs * j.sign.natAbs ≤ 2 ^ k * 1 := Nat.mul_le_mul hi this
      _ = 2 ^ k := Nat.mul_one _
/-- where a bow turns -/
def turnT (a c p : Rat) : Option Rat := if (a - c) + (p - c) ≠ 0 then (if 0 < (a - c) / ((a - c) + (p - c)) ∧ (a - c) / ((a - c) + (p - c)) < 1 then some ((a - c) / ((a - c) + (p - c))) else none) else none
def turnsF (a c p : P) : List Rat := (turnT a.1 c.1 p.1).toList ++ (turnT a.2 c.2 p.2).toList
theorem turnT_g {M k : Nat} {a c p t : Rat} (ha : G M k a) (hc : G M k c) (hp : G M k p) (h0 : 0 < M) (h : turnT a c p = some t) : ∃ N, Ft (k + 2) N ∧ G N (k + 2) t := by
  rw [turnT] at h
  split at h
  · rename_i hn
    split at h
    · cases h
      obtain ⟨N, n0, hN, g⟩ := (ha.sub hc).div ((ha.sub hc).add (hp.sub hc)) h0 hn
      exact ⟨N, ⟨n0, hN⟩, g.mono (by omega)⟩
    · cases h
  · cases h
theorem turns_ok {M k m : Nat} {a c p : P} (ha : GP M k a) (hc : GP M k c) (hp : GP M k p) (fM : Ft m M) (hb : m + k < 1800) : f_turns [enc [a, c, p]] = .ok (encL (turnsF a c p)) := by
  rw [f_turns, run1, b_turns]
  have l6 := lim6
  have r2 : rngD (.int 2) = .ok (upto 2 0) := rngD_ok rfl (by decide)
  have it : itemsOf (enc [a, c, p]) = .ok [enc a, enc c, enc p] := it_E (xs := [a, c, p]) (by simp)
  have e11 : PyData.tuple [.int 1, .int 1] = enc (1 : Rat) := rfl
  have step : ∀ (i : Int) (x y z : Rat) (acc : List D), G M k x → G M k y → G M k z → dIdx (enc a) (.int i) = .ok (enc x) → dIdx (enc c) (.int i) = .ok (enc y) → dIdx (enc p) (.int i) = .ok (enc z) → acc.length < 10 →
      fE (.nm 2) (.cons (.tset (.cons (.nm 4) (.cons (.nm 5) (.cons (.nm 6) .nil))) (.lc [("corner", 8)] (.nm 8) (.seq (.var 0)) .none (.idx (.var 8) (.var 2))))
 (.cons (.set 3 (.call "plus" f_plus (.cons (.call "minus" f_minus (.cons (.var 4) (.cons (.var 5) .nil))) (.cons (.call "minus" f_minus (.cons (.var 6) (.cons (.var 5) .nil))) .nil))))
 (.cons (.ife (.cmp .NotEq (.var 3) (.glo "NONE" g_NONE))
 (.cons (.set 7 (.call "over" f_over (.cons (.call "minus" f_minus (.cons (.var 4) (.cons (.var 5) .nil))) (.cons (.var 3) .nil))))
 (.cons (.ife (.and (.call "is_less" f_is_less (.cons (.glo "NONE" g_NONE) (.cons (.var 7) .nil))) (.call "is_less" f_is_less (.cons (.var 7) (.cons (.tup (.cons (.int 1) (.cons (.int 1) .nil))) .nil))))
 (.cons (.app 1 (.var 7))
 .nil)
 .nil)
 .nil))
 .nil)
 (.cons (.kil [2, 3, 4, 5, 6, 7])
 .nil)))) (.int i) [.im (enc [a, c, p]), .ow acc, .un, .un, .un, .un, .un, .un, .un] = .nx [.im (enc [a, c, p]), .ow (acc ++ (turnT x y z).toList.map enc), .un, .un, .un, .un, .un, .un, .un] := by
    intro i x y z acc gx gy gz i1 i2 i3 hacc
    have ox := gx.okF fM (by omega) (by omega)
    have oy := gy.okF fM (by omega) (by omega)
    have oz := gz.okF fM (by omega) (by omega)
    have g1 := gx.sub gy
    have o1 := g1.okF fM (by omega) (by omega)
    have g2 := gz.sub gy
    have o2 := g2.okF fM (by omega) (by omega)
    have g3 := g1.add g2
    have o3 := g3.okF fM (by omega) (by omega)
    have o0 : Ok 0 := (g_zero 1 0).okF ft_1 (by omega) (by omega)
    have ok1 : Ok 1 := (G.int (N := 1) (k := 0) (by decide)).okF ft_1 (by omega) (by omega)
    have la : acc.length < LIM := by omega
    by_cases hn : (x - y) + (z - y) = 0
    · simp [fE, it, lcGo, lE, i1, i2, i3, minus_ok ox oy, minus_ok oz oy, plus_ok o1 o2, g_begin, hn, turnT]
    · obtain ⟨N, n0, hN, g4⟩ := g1.div g3 fM.p hn
      have o4 : Ok ((x - y) / ((x - y) + (z - y))) := g4.okF ⟨n0, hN⟩ (by omega) (by omega)
      simp [fE, it, lcGo, lE, i1, i2, i3, minus_ok ox oy, minus_ok oz oy, plus_ok o1 o2, g_begin, hn, over_ok o1 o3 hn, is_less_ok o0 o4, e11, is_less_ok o4 ok1, turnT]
      by_cases h1 : 0 < (x - y) / ((x - y) + (z - y)) <;> by_cases h2 : (x - y) / ((x - y) + (z - y)) < 1 <;> simp [h1, h2, la]
  have s0 := step 0 a.1 c.1 p.1 [] ha.1 hc.1 hp.1 (by simp) (by simp) (by simp) (by simp)
  have hl : ((turnT a.1 c.1 p.1).toList.map (enc : Rat → D)).length < 10 := by cases turnT a.1 c.1 p.1 <;> simp
  have s1 := step 1 a.2 c.2 p.2 ((turnT a.1 c.1 p.1).toList.map enc) ha.2 hc.2 hp.2 (by simp) (by simp) (by simp) hl
  have u2 : upto 2 0 = [PyData.int 0, PyData.int 1] := rfl
  simp only [List.nil_append] at s0
  simp [r2, u2]
  simp only [forGo, s0, s1]
  simp [encL, turnsF]
/-- the points of a stroke that a tight box holds -/
def tightS (w : List Sk) (i : Nat) (s : Sk) : List P := match s with
  | .mv p => [p]
  | .ln p => [p]
  | .bw c p => p :: (turnsF (penF w i) c p).map (cas (corF w i))
  | .wv _ _ p => [p]
  | .sh => []
def tightTo (w : List Sk) : Nat → List P
  | 0 => []
  | i + 1 => match w[i]? with
    | some s => tightTo w i ++ tightS w i s
    | none => []
theorem tightTo_s {w : List Sk} {i : Nat} {s : Sk} (h : w[i]? = some s) : tightTo w (i + 1) = tightTo w i ++ tightS w i s := by simp only [tightTo, h]
theorem turnsF_len (a c p : P) : (turnsF a c p).length ≤ 2 := by
  rw [turnsF, List.length_append]
  have h : ∀ o : Option Rat, o.toList.length ≤ 1 := by intro o; cases o <;> simp
  have h1 := h (turnT a.1 c.1 p.1)
  have h2 := h (turnT a.2 c.2 p.2)
  omega
theorem tightS_len (w : List Sk) (i : Nat) (s : Sk) : (tightS w i s).length ≤ 3 := by
  cases s <;> simp [tightS]
  exact turnsF_len _ _ _
theorem tightTo_len (w : List Sk) : ∀ {i : Nat}, i ≤ w.length → (tightTo w i).length ≤ 3 * i
  | 0, _ => by simp [tightTo]
  | i + 1, h => by
    have hs : w[i]? = some w[i] := by simp [show i < w.length by omega]
    have ih := tightTo_len w (i := i) (by omega)
    have := tightS_len w i w[i]
    rw [tightTo_s hs, List.length_append]; omega
theorem mul_1 {xs : List D} : dBin .Mult (.tuple xs) (.int 1) = .ok (.tuple xs) := rfl
theorem mul_0 {xs : List D} : dBin .Mult (.tuple xs) (.int 0) = .ok (.tuple []) := rfl
theorem turnsF_g {M k m : Nat} {a c p : P} (ha : GP M k a) (hc : GP M k c) (hp : GP M k p) (fM : Ft m M) : ∀ t ∈ turnsF a c p, ∃ N, Ft (k + 2) N ∧ G N (k + 2) t := by
  intro t ht
  rcases List.mem_append.mp ht with h | h
  · exact turnT_g ha.1 hc.1 hp.1 fM.p (by simpa using h)
  · exact turnT_g ha.2 hc.2 hp.2 fM.p (by simpa using h)
theorem cas_ok {M k T e m : Nat} {l : List P} {t : Rat} (hl : ∀ p ∈ l, GP M k p) (ht : G T e t) (fM : Ft m M) (fT : Ft e T) (hb : m + 6 * e + k < 3800) (h4 : l.length ≤ 4) : OkP (cas l t) := by
  have G2 {M' k' : Nat} {a b : P} (ha : GP M' k' a) (hb : GP M' k' b) : GP (M' * T) (k' + e + 2) (lerp a b t) := ha.lerp hb ht fT.l
  rcases l with _ | ⟨a, _ | ⟨b, _ | ⟨c, _ | ⟨d, _ | ⟨x, r⟩⟩⟩⟩⟩
  · exact (gp_zero M k).okF fM (by omega) (by omega)
  · exact (hl a (by simp)).okF fM (by omega) (by omega)
  · exact (G2 (hl a (by simp)) (hl b (by simp))).okF (fM.mul fT) (by omega) (by omega)
  · exact (G2 (G2 (hl a (by simp)) (hl b (by simp))) (G2 (hl b (by simp)) (hl c (by simp)))).okF ((fM.mul fT).mul fT) (by omega) (by omega)
  · exact (G2 (G2 (G2 (hl a (by simp)) (hl b (by simp))) (G2 (hl b (by simp)) (hl c (by simp)))) (G2 (G2 (hl b (by simp)) (hl c (by simp))) (G2 (hl c (by simp)) (hl d (by simp))))).okF (((fM.mul fT).mul fT).mul fT) (by omega) (by omega)
  · exact absurd h4 (by simp)
theorem tight_ok {M k m : Nat} {w : List Sk} (hw : GW M k w) (fM : Ft m M) (hb : m + 7 * k < 1700) (hl : w.length < 1000) : f_tight_box [enc w] = .ok (enc (boxF (tightTo w w.length))) := by
  rw [f_tight_box, run1, b_tight_box]
  have l6 := lim6
  have tl := tightTo_len w (i := w.length) (by omega)
  have og : ∀ i, i ≤ w.length → ∀ q ∈ tightTo w i, OkP q := by
    intro i
    induction i with
    | zero => intro _ q hq; simp [tightTo] at hq
    | succ i ih =>
      intro hi q hq
      have hs : w[i]? = some w[i] := by simp [show i < w.length by omega]
      have gs := hw _ (get_mem hs)
      generalize w[i] = s at hs gs
      rw [tightTo_s hs] at hq
      rcases List.mem_append.mp hq with h | h
      · exact ih (by omega) q h
      · have last {p : P} (hp : p ∈ s.pts) : OkP p := (gs p hp).okF fM (by omega) (by omega)
        cases s with
        | mv p => simp [tightS] at h; subst h; exact last (by simp [Sk.pts])
        | ln p => simp [tightS] at h; subst h; exact last (by simp [Sk.pts])
        | wv c d p => simp [tightS] at h; subst h; exact last (by simp [Sk.pts])
        | sh => simp [tightS] at h
        | bw c p =>
          rw [tightS, List.mem_cons, List.mem_map] at h
          rcases h with rfl | ⟨t, ht, rfl⟩
          · exact last (by simp [Sk.pts])
          · obtain ⟨N, fN, gN⟩ := turnsF_g (hw.penF i) (gs c (by simp [Sk.pts])) (gs p (by simp [Sk.pts])) fM t ht
            exact cas_ok (hw.corF i) gN fM fN (by omega) (corF_len (by omega)).2
  have bo := box_ok (og w.length (Nat.le_refl _)) (by omega)
  rw [encL] at bo
  simp [it_E (show w.length ≤ LIM by omega)]
  rw [forGo_idx (fun i => [.im (enc w), .ow ((tightTo w i).map enc), .un, .un, .un, .un]) ?_ (by simp [tightTo])]
  · simp [bo]
  · intro i d hd
    obtain ⟨x, hx, rfl⟩ := mcount_get hd
    obtain ⟨s, hs, rfl⟩ := map_get hx
    have hi := (List.getElem?_eq_some_iff.mp hs).1
    have ti := tightTo_len w (i := i) (by omega)
    rw [tightTo_s hs]
    have ex1 {es : List D} (h : es.length ≤ 5) : dExt ((tightTo w i).map enc) (.list es) = .ok ((tightTo w i).map enc ++ es) := ext_ow (by simp only [List.length_map]; omega)
    simp only [fE]
    have sl : dSlc (enc s) (some (-1)) none = .ok (.tuple (if isSh s then [.str s.nam] else [enc (endOf s (0, 0))])) := by
      rw [enc_sk, slc_T, cut_last]
      cases s <;> simp [Sk.nam, Sk.pts, isSh, endOf]
    by_cases hS : isSh s
    · cases s <;> simp [isSh] at hS
      simp [sl, isSh, g_SHUT, g_BOW, mul_0, ex1, isBw, tightS]
    · have hS' : isSh s = false := by simpa using hS
      cases s with
      | bw c p =>
        have gs := hw _ (get_mem hs)
        have gc := gs c (by simp [Sk.pts])
        have gp := gs p (by simp [Sk.pts])
        have ga := hw.penF i
        have co := corner_ok hl hi
        have cl := corF_len hi
        have ec : corF w i = [penF w i, c, p] := by simp [corF, hs, Sk.pts]
        have tu := turns_ok ga gc gp fM (by omega)
        rw [← ec] at tu
        have tlen := turnsF_len (penF w i) c p
        have itl : itemsOf (encL (turnsF (penF w i) c p)) = .ok ((turnsF (penF w i) c p).map enc) := it_L (by omega)
        have e1 : lcGo (lE [("t", 5)] (.nm 5) .none (.call "point_of" f_point_of (.cons (.var 4) (.cons (.var 5) .nil))) [.im (enc w), .ow ((tightTo w i).map enc ++ [enc p]), .im (.int i), .im (enc (Sk.bw c p)), .im (enc (corF w i)), .un]) ((turnsF (penF w i) c p).map enc) = .ok ((turnsF (penF w i) c p).map fun t => enc (cas (corF w i) t)) := by
          refine lcGo_all _ _ ?_
          intro t ht
          obtain ⟨N, fN, gN⟩ := turnsF_g ga gc gp fM t ht
          simp [lE, point_of_ok (hw.corF i) gN fM fN (by omega) cl.1 cl.2]
        have ex2 : dExt ((tightTo w i).map enc ++ [enc p]) (.list ((turnsF (penF w i) c p).map fun t => enc (cas (corF w i) t))) = .ok ((tightTo w i).map enc ++ [enc p] ++ (turnsF (penF w i) c p).map fun t => enc (cas (corF w i) t)) := ext_ow (by simp only [List.length_append, List.length_map, List.length_singleton]; omega)
        have tL : (turnsF (penF w i) c p).length ≤ LIM := by omega
        simp [sl, isSh, g_SHUT, g_BOW, mul_1, ex1, isBw, tightS, endOf, co, tu, itl, e1, ex2, tL, Function.comp_def]
      | mv p => simp [sl, isSh, g_SHUT, g_BOW, mul_1, ex1, isBw, tightS, endOf]
      | ln p => simp [sl, isSh, g_SHUT, g_BOW, mul_1, ex1, isBw, tightS, endOf]
      | wv c d p => simp [sl, isSh, g_SHUT, g_BOW, mul_1, ex1, isBw, tightS, endOf]
      | sh => exact absurd rfl hS
end Rf
namespace Rf
open PySem Dp
open Enc (enc)
theorem lo2_le (a b : Rat) : lo2 a b ≤ a ∧ lo2 a b ≤ b := by
  unfold lo2; split
  · rename_i h; exact ⟨Rat.le_of_lt h, Rat.le_refl⟩
  · rename_i h; exact ⟨Rat.le_refl, Rat.not_lt.mp h⟩
theorem hi2_le (a b : Rat) : a ≤ hi2 a b ∧ b ≤ hi2 a b := by
  unfold hi2; split
  · rename_i h; exact ⟨Rat.le_of_lt h, Rat.le_refl⟩
  · rename_i h; exact ⟨Rat.le_refl, Rat.not_lt.mp h⟩
theorem foldl_lo : ∀ (l : List Rat) (a : Rat), l.foldl lo2 a ≤ a ∧ ∀ x ∈ l, l.foldl lo2 a ≤ x
  | [], a => ⟨Rat.le_refl, by simp⟩
  | b :: l, a => by
    obtain ⟨h1, h2⟩ := foldl_lo l (lo2 a b)
    obtain ⟨h3, h4⟩ := lo2_le a b
    refine ⟨Rat.le_trans h1 h3, fun x hx => ?_⟩
    rcases List.mem_cons.mp hx with rfl | hx
    · exact Rat.le_trans h1 h4
    · exact h2 x hx
theorem foldl_hi : ∀ (l : List Rat) (a : Rat), a ≤ l.foldl hi2 a ∧ ∀ x ∈ l, x ≤ l.foldl hi2 a
  | [], a => ⟨Rat.le_refl, by simp⟩
  | b :: l, a => by
    obtain ⟨h1, h2⟩ := foldl_hi l (hi2 a b)
    obtain ⟨h3, h4⟩ := hi2_le a b
    refine ⟨Rat.le_trans h3 h1, fun x hx => ?_⟩
    rcases List.mem_cons.mp hx with rfl | hx
    · exact Rat.le_trans h4 h1
    · exact h2 x hx
theorem minL_le {l : List Rat} {x : Rat} (h : x ∈ l) : minL l ≤ x := by
  cases l with
  | nil => simp at h
  | cons a l =>
    obtain ⟨h1, h2⟩ := foldl_lo l a
    rcases List.mem_cons.mp h with rfl | h
    · exact h1
    · exact h2 x h
theorem le_maxL {l : List Rat} {x : Rat} (h : x ∈ l) : x ≤ maxL l := by
  cases l with
  | nil => simp at h
  | cons a l =>
    obtain ⟨h1, h2⟩ := foldl_hi l a
    rcases List.mem_cons.mp h with rfl | h
    · exact h1
    · exact h2 x h
theorem fold_mem (f : Rat → Rat → Rat) (hf : ∀ a b, f a b = a ∨ f a b = b) : ∀ (l : List Rat) (a : Rat), l.foldl f a ∈ a :: l
  | [], a => by simp
  | b :: l, a => by
    have := fold_mem f hf l (f a b)
    rw [List.foldl_cons]
    rcases hf a b with e | e <;> rw [e] at this ⊢
    · rcases List.mem_cons.mp this with h | h
      · rw [h]; simp
      · exact List.mem_cons_of_mem _ (List.mem_cons_of_mem _ h)
    · exact List.mem_cons_of_mem _ this
theorem minL_mem {l : List Rat} (h : l ≠ []) : minL l ∈ l := by
  cases l with
  | nil => exact absurd rfl h
  | cons a l => exact fold_mem lo2 lo2_or l a
theorem maxL_mem {l : List Rat} (h : l ≠ []) : maxL l ∈ l := by
  cases l with
  | nil => exact absurd rfl h
  | cons a l => exact fold_mem hi2 hi2_or l a
/-- the box of points that are there -/
def bx (l : List P) : Box := ((minL (l.map (·.1)), minL (l.map (·.2))), (maxL (l.map (·.1)), maxL (l.map (·.2))))
theorem boxF_some {l : List P} (h : l ≠ []) : boxF l = some (bx l) := by
  cases l with
  | nil => exact absurd rfl h
  | cons a l => rfl
/-- a point within a box -/
def inB (p : P) (b : Box) : Prop := b.1.1 ≤ p.1 ∧ p.1 ≤ b.2.1 ∧ b.1.2 ≤ p.2 ∧ p.2 ≤ b.2.2
theorem inB_mem {l : List P} {p : P} (h : p ∈ l) : inB p (bx l) :=
  ⟨minL_le (List.mem_map.mpr ⟨p, h, rfl⟩), le_maxL (List.mem_map.mpr ⟨p, h, rfl⟩), minL_le (List.mem_map.mpr ⟨p, h, rfl⟩), le_maxL (List.mem_map.mpr ⟨p, h, rfl⟩)⟩
/-- a box within a box -/
def lies (a b : Box) : Prop := b.1.1 ≤ a.1.1 ∧ a.2.1 ≤ b.2.1 ∧ b.1.2 ≤ a.1.2 ∧ a.2.2 ≤ b.2.2
theorem lies_of {l : List P} {b : Box} (h0 : l ≠ []) (h : ∀ p ∈ l, inB p b) : lies (bx l) b := by
  have n1 : l.map (·.1) ≠ [] := by simpa using h0
  have n2 : l.map (·.2) ≠ [] := by simpa using h0
  obtain ⟨p1, m1, e1⟩ := List.mem_map.mp (minL_mem n1)
  obtain ⟨p2, m2, e2⟩ := List.mem_map.mp (maxL_mem n1)
  obtain ⟨p3, m3, e3⟩ := List.mem_map.mp (minL_mem n2)
  obtain ⟨p4, m4, e4⟩ := List.mem_map.mp (maxL_mem n2)
  refine ⟨?_, ?_, ?_, ?_⟩
  · show b.1.1 ≤ minL _; rw [← e1]; exact (h p1 m1).1
  · show maxL _ ≤ b.2.1; rw [← e2]; exact (h p2 m2).2.1
  · show b.1.2 ≤ minL _; rw [← e3]; exact (h p3 m3).2.2.1
  · show maxL _ ≤ b.2.2; rw [← e4]; exact (h p4 m4).2.2.2
theorem lerp_in {p q : P} {t : Rat} {b : Box} (hp : inB p b) (hq : inB q b) (h0 : 0 ≤ t) (h1 : t ≤ 1) : inB (lerp p q t) b := by
  have key : ∀ (x y lo hi : Rat), lo ≤ x → x ≤ hi → lo ≤ y → y ≤ hi → lo ≤ x + t * (y - x) ∧ x + t * (y - x) ≤ hi := by
    intro x y lo hi a1 a2 a3 a4
    have e : x + t * (y - x) = (1 - t) * x + t * y := by grind
    have b1 := Rat.mul_le_mul_of_nonneg_left a1 (show 0 ≤ 1 - t by grind)
    have b2 := Rat.mul_le_mul_of_nonneg_left a2 (show 0 ≤ 1 - t by grind)
    have b3 := Rat.mul_le_mul_of_nonneg_left a3 h0
    have b4 := Rat.mul_le_mul_of_nonneg_left a4 h0
    rw [e]
    constructor <;> grind
  obtain ⟨a1, a2, a3, a4⟩ := hp
  obtain ⟨c1, c2, c3, c4⟩ := hq
  obtain ⟨k1, k2⟩ := key p.1 q.1 _ _ a1 a2 c1 c2
  obtain ⟨k3, k4⟩ := key p.2 q.2 _ _ a3 a4 c3 c4
  exact ⟨k1, k2, k3, k4⟩
theorem cas_in {l : List P} {t : Rat} {b : Box} (h : ∀ p ∈ l, inB p b) (h1 : 1 ≤ l.length) (h4 : l.length ≤ 4) (t0 : 0 ≤ t) (t1 : t ≤ 1) : inB (cas l t) b := by
  rcases l with _ | ⟨a, _ | ⟨c, _ | ⟨d, _ | ⟨e, _ | ⟨x, r⟩⟩⟩⟩⟩
  · simp at h1
  · exact h a (by simp)
  · exact lerp_in (h a (by simp)) (h c (by simp)) t0 t1
  · exact lerp_in (lerp_in (h a (by simp)) (h c (by simp)) t0 t1) (lerp_in (h c (by simp)) (h d (by simp)) t0 t1) t0 t1
  · exact lerp_in (lerp_in (lerp_in (h a (by simp)) (h c (by simp)) t0 t1) (lerp_in (h c (by simp)) (h d (by simp)) t0 t1) t0 t1) (lerp_in (lerp_in (h c (by simp)) (h d (by simp)) t0 t1) (lerp_in (h d (by simp)) (h e (by simp)) t0 t1) t0 t1) t0 t1
  · exact absurd h4 (by simp)
end Rf
namespace Rf
open PySem Dp
open Enc (enc)
/-- swept along a bow up to a place -/
def upS (a c p : P) (t : Rat) : Rat := sweptF [a, lerp a c t, cas [a, c, p] t]
theorem chord (a c p : P) (s h : Rat) : sweptF [cas [a, c, p] s, cas [a, c, p] (s + h)] = upS a c p (s + h) - upS a c p s - (sweptF [a, c, p] - sweptF [a, p]) * (h * h * h) := by
  have lx : ∀ (p q : P) (t : Rat), (lerp p q t).1 = p.1 + t * (q.1 - p.1) := fun _ _ _ => rfl
  have ly : ∀ (p q : P) (t : Rat), (lerp p q t).2 = p.2 + t * (q.2 - p.2) := fun _ _ _ => rfl
  simp only [upS, sweptF, crossF, cas, lx, ly]
  grind
theorem up0 (a c p : P) : upS a c p 0 = 0 := by
  have lx : ∀ (p q : P) (t : Rat), (lerp p q t).1 = p.1 + t * (q.1 - p.1) := fun _ _ _ => rfl
  have ly : ∀ (p q : P) (t : Rat), (lerp p q t).2 = p.2 + t * (q.2 - p.2) := fun _ _ _ => rfl
  simp only [upS, sweptF, crossF, cas, lx, ly]
  grind
theorem up1 (a c p : P) : upS a c p 1 = sweptF [a, c, p] := by
  have lx : ∀ (p q : P) (t : Rat), (lerp p q t).1 = p.1 + t * (q.1 - p.1) := fun _ _ _ => rfl
  have ly : ∀ (p q : P) (t : Rat), (lerp p q t).2 = p.2 + t * (q.2 - p.2) := fun _ _ _ => rfl
  simp only [upS, sweptF, crossF, cas, lx, ly]
  grind
theorem sum_chords (a c p : P) (h : Rat) : ∀ m : Nat, sumR ((List.range m).map fun (j : Nat) => sweptF [cas [a, c, p] ((j : Rat) * h), cas [a, c, p] (((j + 1 : Nat) : Rat) * h)]) = upS a c p ((m : Rat) * h) - (m : Rat) * ((sweptF [a, c, p] - sweptF [a, p]) * (h * h * h))
  | 0 => by
    have e : ((0 : Nat) : Rat) * h = 0 := by show (0 : Rat) * h = 0; exact Rat.zero_mul h
    have e2 : ((0 : Nat) : Rat) = 0 := rfl
    rw [e, up0, e2]; simp [sumR]; grind
  | m + 1 => by
    rw [List.range_succ, List.map_append, sumR_app, sum_chords a c p h m]
    have e : ((m + 1 : Nat) : Rat) * h = (m : Rat) * h + h := by
      have : ((m + 1 : Nat) : Rat) = (m : Rat) + 1 := Rat.natCast_add m 1
      rw [this]; grind
    have e1 : ((m + 1 : Nat) : Rat) = (m : Rat) + 1 := Rat.natCast_add m 1
    simp only [List.map_cons, List.map_nil, sumR]
    rw [e, chord, e1]
    grind
end Rf
namespace Rf
open PySem Dp
def qd (a c p t : Rat) : Rat := a + 2 * t * (c - a) + t * t * ((a - c) + (p - c))
theorem qd_lo {a c p t lo : Rat} (t0 : 0 ≤ t) (t1 : t ≤ 1) (h1 : lo ≤ a) (h2 : lo ≤ p) (h3 : ∀ u, turnT a c p = some u → lo ≤ qd a c p u) : lo ≤ qd a c p t := by
  have s0 : 0 ≤ 1 - t := by grind
  have mix : lo ≤ (1 - t) * a + t * p := by
    have b1 := Rat.mul_le_mul_of_nonneg_left h1 s0
    have b2 := Rat.mul_le_mul_of_nonneg_left h2 t0
    grind
  have q1 : 0 ≤ t * (1 - t) := Rat.mul_nonneg t0 s0
  by_cases hl : (a - c) + (p - c) ≤ 0
  · -- above the chord
    have : 0 ≤ (t * (1 - t)) * -((a - c) + (p - c)) := Rat.mul_nonneg q1 (by grind)
    unfold qd; grind
  · have l0 : 0 < (a - c) + (p - c) := Rat.not_le.mp hl
    have ln : (a - c) + (p - c) ≠ 0 := by grind
    have tt : 0 ≤ t * t := Rat.mul_nonneg t0 t0
    have ss : 0 ≤ (1 - t) * (1 - t) := Rat.mul_nonneg s0 s0
    by_cases hc : a ≤ c
    · have b1 : 0 ≤ t * (c - a) := Rat.mul_nonneg t0 (by grind)
      have b2 : 0 ≤ (t * t) * ((a - c) + (p - c)) := Rat.mul_nonneg tt (Rat.le_of_lt l0)
      unfold qd; grind
    by_cases hp : p ≤ c
    · have b1 : 0 ≤ (1 - t) * (c - p) := Rat.mul_nonneg s0 (by grind)
      have b2 : 0 ≤ ((1 - t) * (1 - t)) * ((a - c) + (p - c)) := Rat.mul_nonneg ss (Rat.le_of_lt l0)
      unfold qd; grind
    · have ac : 0 < a - c := by have := Rat.not_le.mp hc; grind
      have pc : 0 < p - c := by have := Rat.not_le.mp hp; grind
      have u0 : 0 < (a - c) / ((a - c) + (p - c)) := by
        rw [Rat.lt_div_iff l0]; grind
      have u1 : (a - c) / ((a - c) + (p - c)) < 1 := by
        rw [Rat.div_lt_iff l0]; grind
      have hu := h3 _ (by rw [turnT, if_pos ln, if_pos ⟨u0, u1⟩])
      generalize hw : (a - c) / ((a - c) + (p - c)) = u at hu u0 u1
      have e : u * ((a - c) + (p - c)) = a - c := by rw [← hw]; exact Rat.div_mul_cancel ln
      have sq : 0 ≤ ((t - u) * (t - u)) * ((a - c) + (p - c)) := by
        refine Rat.mul_nonneg ?_ (Rat.le_of_lt l0)
        rcases Rat.le_total (a := t) (b := u) with h | h
        · have := Rat.mul_nonneg (show 0 ≤ u - t by grind) (show 0 ≤ u - t by grind); grind
        · exact Rat.mul_nonneg (by grind) (by grind)
      have id : qd a c p t = qd a c p u + ((t - u) * (t - u)) * ((a - c) + (p - c)) := by
        unfold qd; grind
      rw [id]; grind
theorem turnT_neg (a c p : Rat) : turnT (-a) (-c) (-p) = turnT a c p := by
  have e1 : (-a - -c) + (-p - -c) = -((a - c) + (p - c)) := by grind
  have e2 : -a - -c = -(a - c) := by grind
  have e3 : ∀ x y : Rat, (-x) / (-y) = x / y := by intro x y; by_cases h : y = 0 <;> grind
  rw [turnT, turnT, e1, e2, e3]
  by_cases h : (a - c) + (p - c) = 0
  · rw [if_neg (by rw [h]; simp), if_neg (by rw [h]; simp)]
  · rw [if_pos (by grind), if_pos h]
theorem qd_hi {a c p t hi : Rat} (t0 : 0 ≤ t) (t1 : t ≤ 1) (h1 : a ≤ hi) (h2 : p ≤ hi) (h3 : ∀ u, turnT a c p = some u → qd a c p u ≤ hi) : qd a c p t ≤ hi := by
  have n : ∀ u, qd (-a) (-c) (-p) u = -qd a c p u := by intro u; unfold qd; grind
  have := qd_lo (a := -a) (c := -c) (p := -p) (lo := -hi) t0 t1 (by grind) (by grind) (fun u hu => by
    rw [turnT_neg] at hu
    have := h3 u hu
    rw [n]; grind)
  rw [n] at this
  grind
end Rf
namespace Rf
open PySem Dp
/-- the pen, the begin, whether lines are open -/
structure Ps where
  pen : P
  beg : P
  op : Bool
def ps0 : Ps := ⟨(0, 0), (0, 0), false⟩
def stp (s : Ps) (x : Sk) : Ps := ⟨endOf x (begOf x s.beg), begOf x s.beg, !isMv x && !isSh x⟩
def runP (s : Ps) : List Sk → Ps
  | [] => s
  | x :: r => runP (stp s x) r
/-- corners by a state -/
def corP (s : Ps) (x : Sk) : List P := match x with
  | .mv p => [p]
  | .sh => [s.pen, s.beg]
  | x => s.pen :: x.pts
def cloP (s : Ps) : List (List P) := if s.op then [[s.pen, s.beg]] else []
def lnsOf (s : Ps) (x : Sk) : List (List P) := if isMv x then cloP s else corP s x :: (if isSh x then [[s.beg, s.beg]] else [])
def lnsP (s : Ps) : List Sk → List (List P)
  | [] => []
  | x :: r => lnsOf s x ++ lnsP (stp s x) r
theorem runP_app : ∀ (a b : List Sk) (s : Ps), runP s (a ++ b) = runP (runP s a) b
  | [], _, _ => rfl
  | x :: a, b, s => runP_app a b (stp s x)
theorem lnsP_app : ∀ (a b : List Sk) (s : Ps), lnsP s (a ++ b) = lnsP s a ++ lnsP (runP s a) b
  | [], _, _ => rfl
  | x :: a, b, s => by
    show lnsOf s x ++ lnsP (stp s x) (a ++ b) = lnsOf s x ++ lnsP (stp s x) a ++ _
    rw [lnsP_app a b (stp s x), List.append_assoc]; rfl
theorem take_s {w : List Sk} {i : Nat} {s : Sk} (h : w[i]? = some s) : w.take (i + 1) = w.take i ++ [s] := by
  rw [List.take_add_one, h]; rfl
theorem runP_take (w : List Sk) : ∀ i, i ≤ w.length → runP ps0 (w.take i) = ⟨penF w i, begF w i, opF w i⟩
  | 0, _ => rfl
  | i + 1, h => by
    have hs : w[i]? = some w[i] := by simp [show i < w.length by omega]
    rw [take_s hs, runP_app, runP_take w i (by omega), penF_s hs, begF_s hs, opF_s hs]; rfl
theorem lnsP_take (w : List Sk) : ∀ i, i ≤ w.length → lnsP ps0 (w.take i) = lnF w i
  | 0, _ => rfl
  | i + 1, h => by
    have hs : w[i]? = some w[i] := by simp [show i < w.length by omega]
    rw [take_s hs, lnsP_app, lnsP_take w i (by omega), runP_take w i (by omega), lnF_s hs]
    congr 1
    show lnsOf ⟨penF w i, begF w i, opF w i⟩ w[i] ++ [] = _
    rw [List.append_nil, lnsOf, stL]
    by_cases hm : isMv w[i]
    · rw [if_pos hm, if_pos hm]; rfl
    · rw [if_neg hm, if_neg hm]
      have eb : begF w (i + 1) = begF w i := by rw [begF_s hs]; revert hm; generalize w[i] = s; intro hm; cases s <;> simp_all [isMv, begOf]
      rw [eb]
      congr 1
      rw [corF, hs, eb]
      revert hm; generalize w[i] = s; intro hm; cases s <;> rfl
/-- all lines of a way -/
theorem linesP (w : List Sk) : linesL w = lnsP ps0 w ++ cloP (runP ps0 w) := by
  have h1 := lnsP_take w w.length (Nat.le_refl _)
  have h2 := runP_take w w.length (Nat.le_refl _)
  rw [List.take_length] at h1 h2
  rw [linesL_eq, h1, h2]; rfl
theorem penP (w : List Sk) : penF w w.length = (runP ps0 w).pen := by
  have h2 := runP_take w w.length (Nat.le_refl _)
  rw [List.take_length] at h2
  rw [h2]
end Rf
namespace Rf
open PySem Dp
def isCv (x : Sk) : Bool := isBw x || isWv x
def flatX (s : Ps) (m : Nat) (x : Sk) : List Sk := if isCv x then (List.range m).map fun j => .ln (cas (corP s x) (tAt j m)) else [x]
def flatP (s : Ps) (m : Nat) : List Sk → List Sk
  | [] => []
  | x :: r => flatX s m x ++ flatP (stp s x) m r
theorem flatP_app (m : Nat) : ∀ (a b : List Sk) (s : Ps), flatP s m (a ++ b) = flatP s m a ++ flatP (runP s a) m b
  | [], _, _ => rfl
  | x :: a, b, s => by
    show flatX s m x ++ flatP (stp s x) m (a ++ b) = flatX s m x ++ flatP (stp s x) m a ++ _
    rw [flatP_app m a b (stp s x), List.append_assoc]; rfl
theorem cor_eq {w : List Sk} {i : Nat} {x : Sk} (h : w[i]? = some x) (hm : isMv x = false) : corF w i = corP ⟨penF w i, begF w i, opF w i⟩ x := by
  have eb : begF w (i + 1) = begF w i := by rw [begF_s h]; cases x <;> simp_all [isMv, begOf]
  rw [corF, h, eb]
  cases x <;> rfl
theorem flat_take (w : List Sk) (m : Nat) : ∀ i, i ≤ w.length → flatP ps0 m (w.take i) = flatTo w m i
  | 0, _ => rfl
  | i + 1, h => by
    have hs : w[i]? = some w[i] := by simp [show i < w.length by omega]
    generalize w[i] = x at hs
    rw [take_s hs, flatP_app, flat_take w m i (by omega), runP_take w i (by omega), flatTo_s hs]
    congr 1
    show flatX _ m x ++ [] = _
    rw [List.append_nil, flatX, flatS]
    by_cases hc : (isBw x || isWv x) = true
    · have hm : isMv x = false := by cases x <;> simp_all [isBw, isWv, isMv]
      rw [if_pos hc, if_pos (show isCv x = true from hc), cor_eq hs hm]
    · rw [if_neg hc, if_neg (show ¬ isCv x = true from hc)]
theorem flatF_eq (w : List Sk) (m : Nat) : flatF w m = flatP ps0 m w := by
  have h := flat_take w m w.length (Nat.le_refl _)
  rw [List.take_length] at h
  rw [flatF, h]
theorem tAt_last {m : Nat} (h : 1 ≤ m) : tAt (m - 1) m = 1 := by
  rw [tAt, show m - 1 + 1 = m by omega]
  exact Rat.divInt_self' (by omega)
theorem cas_one (s : Ps) {x : Sk} (h : isCv x = true) : cas (corP s x) 1 = endOf x s.beg := by
  cases x with
  | bw c p => refine Prod.ext ?_ ?_ <;> simp only [corP, Sk.pts, cas, lerp, pAdd, pMul, pSub, endOf] <;> grind
  | wv c d p => refine Prod.ext ?_ ?_ <;> simp only [corP, Sk.pts, cas, lerp, pAdd, pMul, pSub, endOf] <;> grind
  | _ => simp [isCv, isBw, isWv] at h
/-- lines alone, from a state on -/
theorem runP_lines (s : Ps) (f : Nat → P) : ∀ n, 1 ≤ n → runP s ((List.range n).map fun j => Sk.ln (f j)) = ⟨f (n - 1), s.beg, true⟩
  | 0, h => by omega
  | n + 1, _ => by
    rw [List.range_succ, List.map_append, runP_app]
    rcases Nat.eq_zero_or_pos n with h0 | h0
    · subst h0; rfl
    · rw [runP_lines s f n h0]; rfl
theorem runP_flatX {s : Ps} {m : Nat} (hm : 1 ≤ m) (x : Sk) : runP s (flatX s m x) = stp s x := by
  rw [flatX]
  split
  · rename_i hc
    rw [runP_lines s (fun j => cas (corP s x) (tAt j m)) m hm, tAt_last hm, cas_one s hc]
    cases x <;> simp_all [isCv, isBw, isWv, stp, isMv, isSh, begOf]
  · rfl
theorem runP_flat {m : Nat} (hm : 1 ≤ m) : ∀ (w : List Sk) (s : Ps), runP s (flatP s m w) = runP s w
  | [], _ => rfl
  | x :: r, s => by
    show runP s (flatX s m x ++ flatP (stp s x) m r) = runP (stp s x) r
    rw [runP_app, runP_flatX hm, runP_flat hm r]
theorem lnsP_lines (s : Ps) (g : Nat → P) (h0 : g 0 = s.pen) : ∀ n, lnsP s ((List.range n).map fun j => Sk.ln (g (j + 1))) = (List.range n).map fun j => [g j, g (j + 1)]
  | 0 => rfl
  | n + 1 => by
    rw [List.range_succ, List.map_append, List.map_append, lnsP_app, lnsP_lines s g h0 n]
    congr 1
    have hp : (runP s ((List.range n).map fun j => Sk.ln (g (j + 1)))).pen = g n := by
      rcases Nat.eq_zero_or_pos n with h | h
      · subst h; rw [h0]; rfl
      · rw [runP_lines s (fun j => g (j + 1)) n h]
        show g (n - 1 + 1) = g n
        rw [show n - 1 + 1 = n by omega]
    show lnsOf _ (Sk.ln (g (n + 1))) ++ [] = _
    rw [List.append_nil, lnsOf, if_neg (by simp [isMv]), if_neg (by simp [isSh])]
    simp [corP, Sk.pts, hp]
theorem tAt_mul {j m : Nat} (h : 1 ≤ m) : tAt j m = ((j + 1 : Nat) : Rat) * (1 / (m : Rat)) := by
  rw [tAt, Rat.divInt_eq_div]
  have e1 : (((j + 1 : Nat) : Int) : Rat) = ((j + 1 : Nat) : Rat) := rfl
  have e2 : ((m : Int) : Rat) = (m : Rat) := rfl
  rw [e1, e2]
  have m0 : (m : Rat) ≠ 0 := Rat.ne_of_gt ((Rat.natCast_pos (a := m)).mpr (by omega))
  grind
/-- what one line each misses -/
def missX (s : Ps) (x : Sk) : Rat := match x with
  | .bw c p => sweptF [s.pen, c, p] - sweptF [s.pen, p]
  | _ => 0
theorem area_flatX {s : Ps} {m : Nat} (hm : 1 ≤ m) {x : Sk} (hw : isWv x = false) : sumR ((lnsP s (flatX s m x)).map sweptF) = sumR ((lnsOf s x).map sweptF) - missX s x * (1 / (m : Rat) * (1 / (m : Rat))) := by
  have m0 : (m : Rat) ≠ 0 := Rat.ne_of_gt ((Rat.natCast_pos (a := m)).mpr (by omega))
  cases x with
  | wv c d p => simp [isWv] at hw
  | bw c p =>
    rw [flatX, if_pos (show isCv (Sk.bw c p) = true from rfl)]
    have g0 : cas [s.pen, c, p] (((0 : Nat) : Rat) * (1 / (m : Rat))) = s.pen := by
      have e : ((0 : Nat) : Rat) * (1 / (m : Rat)) = 0 := by show (0 : Rat) * _ = 0; exact Rat.zero_mul _
      rw [e]
      refine Prod.ext ?_ ?_ <;> simp only [cas, lerp, pAdd, pMul, pSub] <;> grind
    have hf : ((List.range m).map fun j => Sk.ln (cas (corP s (.bw c p)) (tAt j m))) = (List.range m).map fun j => Sk.ln (cas [s.pen, c, p] (((j + 1 : Nat) : Rat) * (1 / (m : Rat)))) := by
      refine List.map_congr_left fun j _ => ?_
      rw [tAt_mul hm]; rfl
    rw [hf, lnsP_lines s (fun j => cas [s.pen, c, p] ((j : Rat) * (1 / (m : Rat)))) g0 m, List.map_map]
    have := sum_chords s.pen c p (1 / (m : Rat)) m
    have e1 : (m : Rat) * (1 / (m : Rat)) = 1 := by grind
    rw [e1, up1] at this
    refine Eq.trans this ?_
    rw [lnsOf, if_neg (by simp [isMv]), if_neg (by simp [isSh])]
    simp only [List.map_cons, List.map_nil, sumR, corP, Sk.pts, missX]
    grind
  | mv p => rw [flatX, if_neg (by simp [isCv, isBw, isWv])]; simp only [lnsP, missX, List.append_nil]; grind
  | ln p => rw [flatX, if_neg (by simp [isCv, isBw, isWv])]; simp only [lnsP, missX, List.append_nil]; grind
  | sh => rw [flatX, if_neg (by simp [isCv, isBw, isWv])]; simp only [lnsP, missX, List.append_nil]; grind
def missL (s : Ps) : List Sk → Rat
  | [] => 0
  | x :: r => missX s x + missL (stp s x) r
theorem area_flatP {m : Nat} (hm : 1 ≤ m) : ∀ (w : List Sk) (s : Ps), (∀ x ∈ w, isWv x = false) → sumR ((lnsP s (flatP s m w)).map sweptF) = sumR ((lnsP s w).map sweptF) - missL s w * (1 / (m : Rat) * (1 / (m : Rat)))
  | [], s, _ => by simp only [flatP, lnsP, missL]; grind
  | x :: r, s, h => by
    show sumR ((lnsP s (flatX s m x ++ flatP (stp s x) m r)).map sweptF) = sumR ((lnsOf s x ++ lnsP (stp s x) r).map sweptF) - _
    rw [lnsP_app, List.map_append, List.map_append, sumR_app, sumR_app, runP_flatX hm, area_flatX hm (h x (List.mem_cons_self ..)), area_flatP hm r (stp s x) fun y hy => h y (List.mem_cons_of_mem _ hy)]
    simp only [missL]
    grind
theorem area_flat {m : Nat} (hm : 1 ≤ m) {w : List Sk} (h : ∀ x ∈ w, isWv x = false) : areaF (flatF w m) = areaF w - missL ps0 w * (1 / (m : Rat) * (1 / (m : Rat))) := by
  rw [areaF_eq, areaF_eq, linesP, linesP, flatF_eq, runP_flat hm, List.map_append, List.map_append, sumR_app, sumR_app, area_flatP hm w ps0 h]
  grind
end Rf
namespace Rf
open PySem Dp
theorem tAt_in {j m : Nat} (h : j < m) : 0 ≤ tAt j m ∧ tAt j m ≤ 1 := by
  have hm : 1 ≤ m := by omega
  have m0 : (0 : Rat) < (m : Rat) := (Rat.natCast_pos (a := m)).mpr (by omega)
  have e : tAt j m = ((j + 1 : Nat) : Rat) / (m : Rat) := by
    rw [tAt, Rat.divInt_eq_div]; rfl
  have l : ((j + 1 : Nat) : Rat) ≤ (m : Rat) := Rat.natCast_le_natCast.mpr (by omega)
  have z : (0 : Rat) ≤ ((j + 1 : Nat) : Rat) := Rat.natCast_nonneg
  rw [e]
  constructor
  · rw [Rat.div_def]; exact Rat.mul_nonneg z (Rat.le_of_lt (Rat.inv_pos.mpr m0))
  · refine Rat.not_lt.mp fun c => ?_
    have := (Rat.lt_div_iff m0).mp c
    grind
theorem ptsL_app (a b : List Sk) : ptsL (a ++ b) = ptsL a ++ ptsL b := by simp [ptsL]
theorem pts_flat {m : Nat} {b : Box} : ∀ (w : List Sk) (s : Ps), inB s.pen b → inB s.beg b → (∀ x ∈ w, ∀ p ∈ x.pts, inB p b) → ∀ q ∈ ptsL (flatP s m w), inB q b
  | [], _, _, _, _, q, hq => by simp [flatP, ptsL] at hq
  | x :: r, s, h1, h2, h3, q, hq => by
    have hx := h3 x (List.mem_cons_self ..)
    have b2 : inB (begOf x s.beg) b := by cases x <;> first | exact h2 | exact hx _ (by simp [Sk.pts, begOf])
    have b1 : inB (endOf x (begOf x s.beg)) b := by cases x <;> first | exact b2 | exact hx _ (by simp [Sk.pts, endOf])
    have e : flatP s m (x :: r) = flatX s m x ++ flatP (stp s x) m r := rfl
    rw [e, ptsL_app, List.mem_append] at hq
    rcases hq with hq | hq
    · rw [flatX] at hq
      split at hq
      · rename_i hc
        obtain ⟨y, hy, hq⟩ := List.mem_flatMap.mp hq
        obtain ⟨j, hj, rfl⟩ := List.mem_map.mp hy
        simp [Sk.pts] at hq
        subst hq
        have hj := List.mem_range.mp hj
        obtain ⟨t0, t1⟩ := tAt_in hj
        cases x with
        | bw c p => exact cas_in (by intro u hu; simp [corP, Sk.pts] at hu; rcases hu with rfl | rfl | rfl; exact h1; exact hx _ (by simp [Sk.pts]); exact hx _ (by simp [Sk.pts])) (by simp [corP, Sk.pts]) (by simp [corP, Sk.pts]) t0 t1
        | wv c d p => exact cas_in (by intro u hu; simp [corP, Sk.pts] at hu; rcases hu with rfl | rfl | rfl | rfl; exact h1; exact hx _ (by simp [Sk.pts]); exact hx _ (by simp [Sk.pts]); exact hx _ (by simp [Sk.pts])) (by simp [corP, Sk.pts]) (by simp [corP, Sk.pts]) t0 t1
        | _ => simp [isCv, isBw, isWv] at hc
      · simp [ptsL] at hq
        exact hx q hq
    · exact pts_flat r (stp s x) b1 b2 (fun y hy => h3 y (List.mem_cons_of_mem _ hy)) q hq
end Rf
namespace Rf
open PySem Dp
/-- tight points by a state -/
def tightX (s : Ps) (x : Sk) : List P := match x with
  | .mv p => [p]
  | .ln p => [p]
  | .bw c p => p :: (turnsF s.pen c p).map (cas [s.pen, c, p])
  | .wv _ _ p => [p]
  | .sh => []
def tightP (s : Ps) : List Sk → List P
  | [] => []
  | x :: r => tightX s x ++ tightP (stp s x) r
theorem tightP_app : ∀ (a b : List Sk) (s : Ps), tightP s (a ++ b) = tightP s a ++ tightP (runP s a) b
  | [], _, _ => rfl
  | x :: a, b, s => by
    show tightX s x ++ tightP (stp s x) (a ++ b) = tightX s x ++ tightP (stp s x) a ++ _
    rw [tightP_app a b (stp s x), List.append_assoc]; rfl
theorem tight_take (w : List Sk) : ∀ i, i ≤ w.length → tightP ps0 (w.take i) = tightTo w i
  | 0, _ => rfl
  | i + 1, h => by
    have hs : w[i]? = some w[i] := by simp [show i < w.length by omega]
    generalize w[i] = x at hs
    rw [take_s hs, tightP_app, tight_take w i (by omega), runP_take w i (by omega), tightTo_s hs]
    congr 1
    show tightX _ x ++ [] = _
    rw [List.append_nil]
    cases x with
    | bw c p => simp [tightX, tightS, corF, hs, Sk.pts]
    | _ => rfl
theorem tightTo_eq (w : List Sk) : tightTo w w.length = tightP ps0 w := by
  have h := tight_take w w.length (Nat.le_refl _)
  rw [List.take_length] at h
  exact h.symm
end Rf
namespace Rf
open PySem Dp
theorem cas_qd (a c p : P) (t : Rat) : (cas [a, c, p] t).1 = qd a.1 c.1 p.1 t ∧ (cas [a, c, p] t).2 = qd a.2 c.2 p.2 t := by
  constructor <;> simp only [cas, lerp, pAdd, pMul, pSub, qd] <;> grind
theorem bow_in {a c p : P} {t : Rat} {b : Box} (ha : inB a b) (hp : inB p b) (h : ∀ u ∈ turnsF a c p, inB (cas [a, c, p] u) b) (t0 : 0 ≤ t) (t1 : t ≤ 1) : inB (cas [a, c, p] t) b := by
  obtain ⟨e1, e2⟩ := cas_qd a c p t
  have hx : ∀ u, turnT a.1 c.1 p.1 = some u → inB (cas [a, c, p] u) b := fun u hu => h u (by rw [turnsF, hu]; simp)
  have hy : ∀ u, turnT a.2 c.2 p.2 = some u → inB (cas [a, c, p] u) b := fun u hu => h u (by rw [turnsF, hu]; simp)
  refine ⟨?_, ?_, ?_, ?_⟩
  · rw [e1]; exact qd_lo t0 t1 ha.1 hp.1 fun u hu => by have := (hx u hu).1; rw [(cas_qd a c p u).1] at this; exact this
  · rw [e1]; exact qd_hi t0 t1 ha.2.1 hp.2.1 fun u hu => by have := (hx u hu).2.1; rw [(cas_qd a c p u).1] at this; exact this
  · rw [e2]; exact qd_lo t0 t1 ha.2.2.1 hp.2.2.1 fun u hu => by have := (hy u hu).2.2.1; rw [(cas_qd a c p u).2] at this; exact this
  · rw [e2]; exact qd_hi t0 t1 ha.2.2.2 hp.2.2.2 fun u hu => by have := (hy u hu).2.2.2; rw [(cas_qd a c p u).2] at this; exact this
theorem pts_tight {m : Nat} {b : Box} : ∀ (w : List Sk) (s : Ps), inB s.pen b → inB s.beg b → (∀ x ∈ w, isWv x = false) → (∀ q ∈ tightP s w, inB q b) → ∀ q ∈ ptsL (flatP s m w), inB q b
  | [], _, _, _, _, _, q, hq => by simp [flatP, ptsL] at hq
  | x :: r, s, h1, h2, hw, h3, q, hq => by
    have hx : ∀ q ∈ tightX s x, inB q b := fun q hq => h3 q (by show q ∈ tightX s x ++ _; simp [hq])
    have hr : ∀ q ∈ tightP (stp s x) r, inB q b := fun q hq => h3 q (by show q ∈ tightX s x ++ _; simp [hq])
    have hwx := hw x (List.mem_cons_self ..)
    have b2 : inB (begOf x s.beg) b := by cases x <;> first | exact h2 | exact hx _ (by simp [tightX, begOf])
    have b1 : inB (endOf x (begOf x s.beg)) b := by cases x <;> first | exact b2 | exact hx _ (by simp [tightX, endOf])
    have e : flatP s m (x :: r) = flatX s m x ++ flatP (stp s x) m r := rfl
    rw [e, ptsL_app, List.mem_append] at hq
    rcases hq with hq | hq
    · rw [flatX] at hq
      split at hq
      · rename_i hc
        obtain ⟨y, hy, hq⟩ := List.mem_flatMap.mp hq
        obtain ⟨j, hj, rfl⟩ := List.mem_map.mp hy
        simp [Sk.pts] at hq
        subst hq
        have hj := List.mem_range.mp hj
        obtain ⟨t0, t1⟩ := tAt_in hj
        cases x with
        | bw c p =>
          refine bow_in h1 (hx p (by simp [tightX])) (fun u hu => hx _ ?_) t0 t1
          simp only [tightX, List.mem_cons, List.mem_map]
          exact .inr ⟨u, hu, rfl⟩
        | wv c d p => simp [isWv] at hwx
        | _ => simp [isCv, isBw, isWv] at hc
      · rename_i hc
        simp [ptsL] at hq
        cases x <;> simp_all [Sk.pts, isCv, isBw, isWv, tightX]
    · exact pts_tight r (stp s x) b1 b2 (fun y hy => hw y (List.mem_cons_of_mem _ hy)) hr q hq
theorem tight_lines : ∀ (w : List Sk) (s : Ps), (∀ x ∈ w, isCv x = false) → tightP s w = ptsL w
  | [], _, _ => rfl
  | x :: r, s, h => by
    show tightX s x ++ tightP (stp s x) r = _
    rw [tight_lines r (stp s x) fun y hy => h y (List.mem_cons_of_mem _ hy)]
    have := h x (List.mem_cons_self ..)
    cases x <;> simp_all [tightX, ptsL, Sk.pts, isCv, isBw, isWv]
end Rf
namespace Rf
open PySem Dp
theorem turnT_in {a c p u : Rat} (h : turnT a c p = some u) : 0 ≤ u ∧ u ≤ 1 := by
  rw [turnT] at h
  split at h
  · split at h
    · rename_i hc
      cases h
      exact ⟨Rat.le_of_lt hc.1, Rat.le_of_lt hc.2⟩
    · cases h
  · cases h
theorem turnsF_in {a c p : P} {u : Rat} (h : u ∈ turnsF a c p) : 0 ≤ u ∧ u ≤ 1 := by
  rcases List.mem_append.mp h with h | h
  · exact turnT_in (by simpa using h)
  · exact turnT_in (by simpa using h)
theorem tight_hull {b : Box} : ∀ (w : List Sk) (s : Ps), inB s.pen b → inB s.beg b → (∀ x ∈ w, ∀ p ∈ x.pts, inB p b) → ∀ q ∈ tightP s w, inB q b
  | [], _, _, _, _, q, hq => by simp [tightP] at hq
  | x :: r, s, h1, h2, h3, q, hq => by
    have hx := h3 x (List.mem_cons_self ..)
    have b2 : inB (begOf x s.beg) b := by cases x <;> first | exact h2 | exact hx _ (by simp [Sk.pts, begOf])
    have b1 : inB (endOf x (begOf x s.beg)) b := by cases x <;> first | exact b2 | exact hx _ (by simp [Sk.pts, endOf])
    have e : tightP s (x :: r) = tightX s x ++ tightP (stp s x) r := rfl
    rw [e, List.mem_append] at hq
    rcases hq with hq | hq
    · cases x with
      | bw c p =>
        rw [tightX, List.mem_cons, List.mem_map] at hq
        rcases hq with rfl | ⟨u, hu, rfl⟩
        · exact hx _ (by simp [Sk.pts])
        · obtain ⟨t0, t1⟩ := turnsF_in hu
          exact cas_in (by intro v hv; simp at hv; rcases hv with rfl | rfl | rfl; exact h1; exact hx _ (by simp [Sk.pts]); exact hx _ (by simp [Sk.pts])) (by simp) (by simp) t0 t1
      | mv p => simp [tightX] at hq; subst hq; exact hx _ (by simp [Sk.pts])
      | ln p => simp [tightX] at hq; subst hq; exact hx _ (by simp [Sk.pts])
      | wv c d p => simp [tightX] at hq; subst hq; exact hx _ (by simp [Sk.pts])
      | sh => simp [tightX] at hq
    · exact tight_hull r (stp s x) b1 b2 (fun y hy => h3 y (List.mem_cons_of_mem _ hy)) q hq
theorem flat_nocv {m : Nat} : ∀ (w : List Sk) (s : Ps), ∀ y ∈ flatP s m w, isCv y = false
  | [], _, y, hy => by simp [flatP] at hy
  | x :: r, s, y, hy => by
    have e : flatP s m (x :: r) = flatX s m x ++ flatP (stp s x) m r := rfl
    rw [e, List.mem_append] at hy
    rcases hy with hy | hy
    · rw [flatX] at hy
      split at hy
      · obtain ⟨j, _, rfl⟩ := List.mem_map.mp hy; rfl
      · rename_i hc
        simp at hy; subst hy; simpa using hc
    · exact flat_nocv r (stp s x) y hy
end Rf
namespace Rf
open PySem Dp
theorem cas_gp {M k T e : Nat} {l : List P} {t : Rat} (hl : ∀ p ∈ l, GP M k p) (ht : G T e t) (hT : T ≤ 2 ^ e) (h1 : 1 ≤ l.length) (h4 : l.length ≤ 4) : GP (M * T * T * T) (k + 3 * e + 6) (cas l t) := by
  have G2 {M' k' : Nat} {a b : P} (ha : GP M' k' a) (hb : GP M' k' b) : GP (M' * T) (k' + e + 2) (lerp a b t) := ha.lerp hb ht hT
  have u0 {p : P} (h : GP M k p) : GP (M * T * T * T) (k + 3 * e + 6) p := ((h.up hT).up hT |>.up hT).mono (by omega)
  have u1 {p : P} (h : GP (M * T) (k + e + 2) p) : GP (M * T * T * T) (k + 3 * e + 6) p := ((h.up hT).up hT).mono (by omega)
  have u2 {p : P} (h : GP (M * T * T) (k + e + 2 + e + 2) p) : GP (M * T * T * T) (k + 3 * e + 6) p := (h.up hT).mono (by omega)
  rcases l with _ | ⟨a, _ | ⟨b, _ | ⟨c, _ | ⟨d, _ | ⟨x, r⟩⟩⟩⟩⟩
  · simp at h1
  · exact u0 (hl a (by simp))
  · exact u1 (G2 (hl a (by simp)) (hl b (by simp)))
  · exact u2 (G2 (G2 (hl a (by simp)) (hl b (by simp))) (G2 (hl b (by simp)) (hl c (by simp))))
  · exact (G2 (G2 (G2 (hl a (by simp)) (hl b (by simp))) (G2 (hl b (by simp)) (hl c (by simp)))) (G2 (G2 (hl b (by simp)) (hl c (by simp))) (G2 (hl c (by simp)) (hl d (by simp))))).mono (by omega)
  · exact absurd h4 (by simp)
end Rf
namespace Rf
open PySem Dp
open Enc (enc)
theorem GW.up3 {M k T e : Nat} {w : List Sk} (h : GW M k w) (hT : T ≤ 2 ^ e) : GW (M * T * T * T) (k + 3 * e + 6) w := fun s hs p hp => (((h s hs p hp).up hT).up hT |>.up hT).mono (by omega)
theorem GW.flat {M k T e n : Nat} {w : List Sk} (hw : GW M k w) (hT : T ≤ 2 ^ e) (hn : 1 ≤ n) (hd : n ∣ T) : GW (M * T * T * T) (k + 3 * e + 6) (flatF w n) := by
  have key : ∀ i, i ≤ w.length → GW (M * T * T * T) (k + 3 * e + 6) (flatTo w n i) := by
    intro i
    induction i with
    | zero => intro _ x hx; simp [flatTo] at hx
    | succ i ih =>
      intro hi x hx
      have hs : w[i]? = some w[i] := by simp
      rw [flatTo_s hs] at hx
      rcases List.mem_append.mp hx with hx | hx
      · exact ih (by omega) x hx
      · rw [flatS] at hx
        split at hx
        · obtain ⟨j, hj, rfl⟩ := List.mem_map.mp hx
          intro p hp
          simp [Sk.pts] at hp; subst hp
          have hj' := List.mem_range.mp hj
          have hc := corF_len (w := w) (i := i) (by omega)
          exact cas_gp (hw.corF i) (divInt_g (by omega) hd (by omega) hT) hT hc.1 hc.2
        · simp at hx; subst hx
          exact hw.up3 hT _ (get_mem hs)
  exact key w.length (Nat.le_refl _)
theorem ptsL_mv (p : P) (r : List Sk) : ptsL (.mv p :: r) = p :: ptsL r := by simp [ptsL, Sk.pts]
theorem flatF_mv (p : P) (r : List Sk) (m : Nat) : flatF (.mv p :: r) m = .mv p :: flatP ⟨p, p, false⟩ m r := by
  rw [flatF_eq]; rfl
theorem pts_mem {r : List Sk} {x : Sk} {q : P} (hx : x ∈ r) (hq : q ∈ x.pts) : q ∈ ptsL r := List.mem_flatMap.mpr ⟨x, hx, hq⟩
theorem flat_lies {p : P} {r : List Sk} {m : Nat} : lies (bx (ptsL (flatF (.mv p :: r) m))) (bx (ptsL (.mv p :: r))) := by
  have hp : inB p (bx (ptsL (.mv p :: r))) := inB_mem (by rw [ptsL_mv]; simp)
  rw [flatF_mv, ptsL_mv p (flatP _ _ _)]
  refine lies_of (by simp) ?_
  intro q hq
  rcases List.mem_cons.mp hq with rfl | hq
  · exact hp
  · exact pts_flat r ⟨p, p, false⟩ hp hp (fun x hx q hq => inB_mem (by rw [ptsL_mv]; exact List.mem_cons_of_mem _ (pts_mem hx hq))) q hq
theorem tight_mv (p : P) (r : List Sk) : tightTo (.mv p :: r) (r.length + 1) = p :: tightP ⟨p, p, false⟩ r := by
  have := tightTo_eq (.mv p :: r)
  simp only [List.length_cons] at this
  rw [this]; rfl
theorem flat_tight_lies {p : P} {r : List Sk} {m : Nat} (h : ∀ x ∈ r, isWv x = false) : lies (bx (ptsL (flatF (.mv p :: r) m))) (bx (tightTo (.mv p :: r) (r.length + 1))) := by
  rw [tight_mv]
  have hp : inB p (bx (p :: tightP ⟨p, p, false⟩ r)) := inB_mem (by simp)
  rw [flatF_mv, ptsL_mv p (flatP _ _ _)]
  refine lies_of (by simp) ?_
  intro q hq
  rcases List.mem_cons.mp hq with rfl | hq
  · exact hp
  · exact pts_tight r ⟨p, p, false⟩ hp hp h (fun q hq => inB_mem (List.mem_cons_of_mem _ hq)) q hq
theorem tight_hull_lies {p : P} {r : List Sk} : lies (bx (tightTo (.mv p :: r) (r.length + 1))) (bx (ptsL (.mv p :: r))) := by
  rw [tight_mv]
  have hp : inB p (bx (ptsL (.mv p :: r))) := inB_mem (by rw [ptsL_mv]; simp)
  refine lies_of (by simp) ?_
  intro q hq
  rcases List.mem_cons.mp hq with rfl | hq
  · exact hp
  · exact tight_hull r ⟨p, p, false⟩ hp hp (fun x hx q hq => inB_mem (by rw [ptsL_mv]; exact List.mem_cons_of_mem _ (pts_mem hx hq))) q hq
theorem tight_flat (w : List Sk) (m : Nat) : tightTo (flatF w m) (flatF w m).length = ptsL (flatF w m) := by
  rw [tightTo_eq, flatF_eq]
  exact tight_lines _ _ (flat_nocv w ps0)
theorem penF_flat {m : Nat} (hm : 1 ≤ m) (w : List Sk) : penF (flatF w m) (flatF w m).length = penF w w.length := by
  rw [penP, penP, flatF_eq, runP_flat hm]
theorem flatF_len {m : Nat} (hm : 1 ≤ m) (w : List Sk) : (flatF w m).length ≤ w.length * m := flatTo_len hm (Nat.le_refl _)
theorem tight_og {M k m : Nat} {w : List Sk} (hw : GW M k w) (fM : Ft m M) (hb : m + 7 * k < 1700) : ∀ q ∈ tightTo w w.length, OkP q := by
  have og : ∀ i, i ≤ w.length → ∀ q ∈ tightTo w i, OkP q := by
    intro i
    induction i with
    | zero => intro _ q hq; simp [tightTo] at hq
    | succ i ih =>
      intro hi q hq
      have hs : w[i]? = some w[i] := by simp
      have gs := hw _ (get_mem hs)
      generalize w[i] = s at hs gs
      rw [tightTo_s hs] at hq
      rcases List.mem_append.mp hq with h | h
      · exact ih (by omega) q h
      · have last {p : P} (hp : p ∈ s.pts) : OkP p := (gs p hp).okF fM (by omega) (by omega)
        cases s with
        | mv p => simp [tightS] at h; subst h; exact last (by simp [Sk.pts])
        | ln p => simp [tightS] at h; subst h; exact last (by simp [Sk.pts])
        | wv c d p => simp [tightS] at h; subst h; exact last (by simp [Sk.pts])
        | sh => simp [tightS] at h
        | bw c p =>
          rw [tightS, List.mem_cons, List.mem_map] at h
          rcases h with rfl | ⟨t, ht, rfl⟩
          · exact last (by simp [Sk.pts])
          · obtain ⟨N, fN, gN⟩ := turnsF_g (hw.penF i) (gs c (by simp [Sk.pts])) (gs p (by simp [Sk.pts])) fM t ht
            exact cas_ok (hw.corF i) gN fM fN (by omega) (corF_len (by omega)).2
  exact og w.length (Nat.le_refl _)
end Rf
namespace Rf
open PySem Dp
open Enc (enc)
@[simp] theorem t_pair {α β : Type} [Enc α] [Enc β] {q : α × β} {ts : ITs} {ρ : Env} : asT (.tu ts) (enc q) ρ = asTs ts [enc q.1, enc q.2] ρ := by rw [enc_pair, t_tup]
@[simp] theorem t_elist {α : Type} [Enc α] {xs : List α} {ts : ITs} {ρ : Env} : asT (.tu ts) (enc xs) ρ = asTs ts (xs.map enc) ρ := by rw [enc_list, t_tup]
@[simp] theorem or_bb {a b : Bool} : dOr (.bool a) (.ok (.bool b)) = .ok (.bool (a || b)) := by cases a <;> rfl
@[simp] theorem and_bb {a b : Bool} : dAnd (.bool a) (.ok (.bool b)) = .ok (.bool (a && b)) := by cases a <;> rfl
instance {p : P} {b : Box} : Decidable (inB p b) := by unfold inB; infer_instance
def sideF (o p q : P) : Rat := crossF (pSub q p) (pSub o p)
def onF (o p q : P) : Bool := decide (sideF o p q = 0 ∧ inB o (bx [p, q]))
def passF (o p q : P) : Int := if p.2 ≤ o.2 ∧ o.2 < q.2 ∧ 0 < sideF o p q then 1 else if o.2 < p.2 ∧ q.2 ≤ o.2 ∧ sideF o p q < 0 then -1 else 0
section
variable {M k m : Nat} {o p q : P} (ho : GP M k o) (hp : GP M k p) (hq : GP M k q) (fM : Ft m M) (hb : m + k < 1800)
include ho hp hq fM hb
theorem side_ok : f_cross [enc (pSub q p), enc (pSub o p)] = .ok (enc (sideF o p q)) ∧ Ok (sideF o p q) := by
  have h := (hq.sub hp)
  have g := (ho.sub hp)
  exact ⟨cross_ok h g fM (by omega), (h.cross g).okF (fM.mul fM) (by omega) (by omega)⟩
theorem is_on_ok : f_is_on [enc o, enc [p, q]] = .ok (.bool (onF o p q)) := by
  rw [f_is_on, run2, b_is_on]
  have oo := ho.okF fM (by omega) (by omega)
  have op := hp.okF fM (by omega) (by omega)
  have oq := hq.okF fM (by omega) (by omega)
  obtain ⟨e1, o1⟩ := side_ok ho hp hq fM hb
  have l2 : dBi .list [enc [p, q]] = .ok (encL [p, q]) := rfl
  have hm : ∀ x ∈ [p, q], OkP x := by simp; exact ⟨op, oq⟩
  have bo := box_ok (l := [p, q]) hm (by simp)
  rw [boxF_some (by simp), enc_some] at bo
  have kb : OkP (bx [p, q]).1 ∧ OkP (bx [p, q]).2 := by
    have h1 : [p, q].map (·.1) ≠ [] := by simp
    have h2 : [p, q].map (·.2) ≠ [] := by simp
    have o1 : ∀ x ∈ [p, q].map (·.1), Ok x := by
      intro x hx; obtain ⟨p, hp, rfl⟩ := List.mem_map.mp hx; exact (hm p hp).1
    have o2 : ∀ x ∈ [p, q].map (·.2), Ok x := by
      intro x hx; obtain ⟨p, hp, rfl⟩ := List.mem_map.mp hx; exact (hm p hp).2
    exact ⟨⟨o1 _ (minL_mem h1), o2 _ (minL_mem h2)⟩, ⟨o1 _ (maxL_mem h1), o2 _ (maxL_mem h2)⟩⟩
  generalize eb : bx [p, q] = b at bo kb
  have n0 : g_NONE = enc (0 : Rat) := rfl
  by_cases hz : sideF o p q = 0
  · by_cases h1 : o.1 < b.1.1 ∨ b.2.1 < o.1
    · have : onF o p q = false := by
        rw [onF, eb]
        simp only [decide_eq_false_iff_not]
        intro h
        obtain ⟨_, h2, h3, _⟩ := h
        grind
      simp [apart_ok op oq, apart_ok op oo, e1, n0, hz, l2, bo, is_less_ok oo.1 kb.1.1, is_less_ok kb.2.1 oo.1, is_less_ok oo.2 kb.1.2, is_less_ok kb.2.2 oo.2, h1, this]
    · have : onF o p q = (!decide (o.2 < b.1.2) && !decide (b.2.2 < o.2)) := by
        rw [onF, eb, Bool.eq_iff_iff]
        simp only [decide_eq_true_eq, Bool.and_eq_true, Bool.not_eq_true', decide_eq_false_iff_not, inB, hz, true_and]
        grind
      have h1' : (decide (o.1 < b.1.1) || decide (b.2.1 < o.1)) = false := by simpa using h1
      simp [apart_ok op oq, apart_ok op oo, e1, n0, hz, l2, bo, is_less_ok oo.1 kb.1.1, is_less_ok kb.2.1 oo.1, is_less_ok oo.2 kb.1.2, is_less_ok kb.2.2 oo.2, h1', this]
  · simp [apart_ok op oq, apart_ok op oo, e1, n0, hz, onF]
theorem passes_ok : f_passes [enc o, enc [p, q]] = .ok (.int (passF o p q)) := by
  rw [f_passes, run2, b_passes]
  have oo := ho.okF fM (by omega) (by omega)
  have op := hp.okF fM (by omega) (by omega)
  have oq := hq.okF fM (by omega) (by omega)
  obtain ⟨e1, o1⟩ := side_ok ho hp hq fM hb
  have n0 : g_NONE = enc (0 : Rat) := rfl
  have z0 : Ok 0 := (g_zero M k).okF fM (by omega) (by omega)
  by_cases c1 : ¬o.2 < p.2 ∧ o.2 < q.2 ∧ 0 < sideF o p q
  · have : passF o p q = 1 := by rw [passF, if_pos ⟨Rat.not_lt.mp c1.1, c1.2⟩]
    simp [apart_ok op oq, apart_ok op oo, e1, n0, is_less_ok oo.2 op.2, is_less_ok oo.2 oq.2, is_less_ok z0 o1, is_less_ok o1 z0, c1, this]
  · have c1' : ¬(p.2 ≤ o.2 ∧ o.2 < q.2 ∧ 0 < sideF o p q) := fun h => c1 ⟨Rat.not_lt.mpr h.1, h.2⟩
    by_cases c2 : o.2 < p.2 ∧ ¬ o.2 < q.2 ∧ sideF o p q < 0
    · have : passF o p q = -1 := by rw [passF, if_neg c1', if_pos ⟨c2.1, Rat.not_lt.mp c2.2.1, c2.2.2⟩]
      simp [apart_ok op oq, apart_ok op oo, e1, n0, is_less_ok oo.2 op.2, is_less_ok oo.2 oq.2, is_less_ok z0 o1, is_less_ok o1 z0, c1, c2, this]
    · have c2' : ¬(o.2 < p.2 ∧ q.2 ≤ o.2 ∧ sideF o p q < 0) := fun h => c2 ⟨h.1, Rat.not_lt.mpr h.2.1, h.2.2⟩
      have : passF o p q = 0 := by rw [passF, if_neg c1', if_neg c2']
      simp [apart_ok op oq, apart_ok op oo, e1, n0, is_less_ok oo.2 op.2, is_less_ok oo.2 oq.2, is_less_ok z0 o1, is_less_ok o1 z0, c1, c2, this]
end
def onL (o : P) (c : List P) : Bool := match c with
  | [p, q] => onF o p q
  | _ => false
def passL (o : P) (c : List P) : Int := match c with
  | [p, q] => passF o p q
  | _ => 0
def sumZ : List Int → Int
  | [] => 0
  | x :: r => x + sumZ r
theorem sumZ_app : ∀ a b : List Int, sumZ (a ++ b) = sumZ a + sumZ b
  | [], b => by simp [sumZ]
  | x :: a, b => by simp only [List.cons_append, sumZ, sumZ_app a b]; omega
def roundsOf (o : P) (l : List (List P)) : Option Int := if l.any (onL o) then none else some (sumZ (l.map (passL o)))
def roundsF (w : List Sk) (o : P) : Option Int := roundsOf o (linesL w)
instance : Enc (Option Int) where
  enc o := match o with
    | none => .none
    | some n => .int n
  dep := 0
  inj {a b} h := by cases a <;> cases b <;> simp_all
  good a := by cases a <;> exact ⟨rfl, Nat.zero_le _, rfl⟩
instance : EncOk (Option Int) := ⟨by decide⟩
@[simp] theorem is_oi {o : Option Int} : dCmp .Is (enc o) .none = .ok (.bool o.isNone) := by cases o <;> rfl
@[simp] theorem isnot_oi {o : Option Int} : dCmp .IsNot (enc o) .none = .ok (.bool o.isSome) := by cases o <;> rfl
theorem enc_oi {n : Int} : enc (some n) = PyData.int n := rfl
theorem enc_on : enc (none : Option Int) = PyData.none := rfl
theorem forGo_ret {α : Type} {f : D → Env → Out} {en : α → D} {R : Int → Env} (p : α → Bool) (g : α → Int) (d : D) : ∀ (xs : List α), (∀ a ∈ xs, ∀ n, f (en a) (R n) = if p a then .rt d else .nx (R (n + g a))) → ∀ n, forGo f (xs.map en) (R n) = if xs.any p then .rt d else .nx (R (n + sumZ (xs.map g)))
  | [], _, n => by simp [forGo, sumZ]
  | a :: xs, h, n => by
    have h1 := h a (by simp) n
    simp only [List.map_cons, forGo, h1, List.any_cons, sumZ]
    cases p a with
    | true => simp
    | false =>
      simp only [Bool.false_eq_true, if_false, Bool.false_or]
      rw [forGo_ret p g d xs (fun a ha => h a (List.mem_cons_of_mem _ ha)), Int.add_assoc]
end Rf
namespace Rf
open PySem Dp
open Enc (enc)
/-- parts: what stands so far, where the part begins -/
def prt (cur : List Sk) (q : P) : List Sk → List (List Sk)
  | [] => [cur]
  | x :: r => if isMv x then cur :: prt [x] (begOf x q) r else if isSh x then (orMv cur q ++ [x]) :: prt [] q r else prt (orMv cur q ++ [x]) q r
theorem prt_nil (cur : List Sk) (q : P) : prt cur q [] = [cur] := rfl
theorem prt_cons (cur : List Sk) (q : P) (x : Sk) (r : List Sk) : prt cur q (x :: r) = if isMv x then cur :: prt [x] (begOf x q) r else if isSh x then (orMv cur q ++ [x]) :: prt [] q r else prt (orMv cur q ++ [x]) q r := rfl
theorem begOf_nm {x : Sk} (h : isMv x = false) (q : P) : begOf x q = q := by cases x <;> simp_all [isMv, begOf]
theorem prt_inv (w : List Sk) : ∀ d i, i + d = w.length → (partF w i).1 ++ prt (partF w i).2 (begF w i) (w.drop i) = (partF w w.length).1 ++ [(partF w w.length).2]
  | 0, i, h => by
    have : i = w.length := by omega
    subst this
    rw [List.drop_length]; rfl
  | d + 1, i, h => by
    have hi : i < w.length := by omega
    have hs : w[i]? = some w[i] := by simp
    rw [← prt_inv w d (i + 1) (by omega), List.drop_eq_getElem_cons hi, partF_s hs, begF_s hs]
    generalize w[i] = x at hs
    generalize partF w i = st
    rw [prt_cons, partStep]
    by_cases h1 : isMv x
    · simp [h1]
    · have h1' : isMv x = false := by simpa using h1
      rw [begOf_nm h1']
      by_cases h2 : isSh x <;> simp [h1, h2]
theorem partsL_prt (w : List Sk) : partsL w = lgP (prt [] (0, 0) w) := by
  have := prt_inv w w.length 0 (by omega)
  rw [partsL, ← this]; rfl
/-- strokes of a part behind its move -/
def isBd (x : Sk) : Bool := !isMv x && !isSh x
structure Shp (l : List Sk) (p : P) (b t : List Sk) : Prop where
  e : l = .mv p :: (b ++ t)
  bd : ∀ x ∈ b, isBd x = true
  tl : t = [] ∨ t = [.sh]
theorem isBd_mv {x : Sk} (h : isBd x = true) : isMv x = false := by cases x <;> simp_all [isBd, isMv, isSh]
theorem isBd_sh {x : Sk} (h : isBd x = true) : isSh x = false := by cases x <;> simp_all [isBd, isMv, isSh]
theorem orMv_cons {x : Sk} {l : List Sk} {q : P} : orMv (x :: l) q = x :: l := rfl
theorem prt_body {r : List Sk} {q : P} : ∀ (b cur : List Sk), (∀ x ∈ b, isBd x = true) → cur ≠ [] → prt cur q (b ++ r) = prt (cur ++ b) q r
  | [], cur, _, _ => by simp
  | x :: b, cur, h, hc => by
    have hx := h x (by simp)
    rw [List.cons_append, prt_cons, isBd_mv hx, isBd_sh hx, orMv_ne hc]
    simp only [Bool.false_eq_true, if_false]
    rw [prt_body b _ (fun y hy => h y (List.mem_cons_of_mem _ hy)) (by simp)]
    simp
theorem prt_mv {cur r : List Sk} {q p : P} : prt cur q (.mv p :: r) = cur :: prt [.mv p] p r := by rw [prt_cons]; simp [isMv, begOf]
theorem prt_shape {l : List Sk} {p : P} {b t : List Sk} (h : Shp l p b t) {cur r : List Sk} {q : P} : prt cur q (l ++ r) = cur :: (if t = [] then prt l p r else l :: prt [] p r) := by
  obtain ⟨rfl, hb, rfl | rfl⟩ := h
  · simp only [List.append_nil, if_true, List.cons_append]
    rw [prt_mv, prt_body b _ hb (by simp)]; rfl
  · rw [List.cons_append, prt_mv, List.append_assoc, prt_body b _ hb (by simp)]
    simp [prt_cons, isMv, isSh, orMv]
/-- a part that tells more than a move -/
def Good1 (l : List Sk) : Prop := (∃ p b t, Shp l p b t) ∧ 1 < l.length
theorem lg_cons_good {l : List Sk} (h : 1 < l.length) (r : List (List Sk)) : lgP (l :: r) = l :: lgP r := by
  simp only [lgP]; rw [List.filter_cons_of_pos (by simpa using h)]
theorem lg_nil_cons (r : List (List Sk)) : lgP ([] :: r) = lgP r := by simp [lgP]
theorem lg_cons (l : List Sk) (r : List (List Sk)) : lgP (l :: r) = lgP [l] ++ lgP r := by
  simp only [lgP, List.filter_cons]; split <;> simp
theorem lg_flatten : ∀ (ls : List (List Sk)), (∀ l ∈ ls, Good1 l) → ∀ cur q, lgP (prt cur q ls.flatten) = lgP [cur] ++ ls
  | [], _, cur, q => by simp [prt]
  | l :: ls, h, cur, q => by
    obtain ⟨⟨p, b, t, hs⟩, hl⟩ := h l (by simp)
    have ih := lg_flatten ls fun l hl => h l (List.mem_cons_of_mem _ hl)
    rw [List.flatten_cons, prt_shape hs, lg_cons]
    congr 1
    split
    · rw [ih, lg_cons_good hl]; rfl
    · rw [lg_cons_good hl, ih, lg_nil_cons]; rfl
theorem partsL_flatten {ls : List (List Sk)} (h : ∀ l ∈ ls, Good1 l) : partsL ls.flatten = ls := by
  rw [partsL_prt, lg_flatten ls h, lg_nil_cons]; rfl
theorem partsL_one {l : List Sk} (h : Good1 l) : partsL l = [l] := by
  have := partsL_flatten (ls := [l]) (by simpa using h)
  simpa using this
/-- what stands so far is a part without its end -/
def Cur (l : List Sk) : Prop := l = [] ∨ ∃ p b, Shp l p b []
theorem Cur.or {l : List Sk} (h : Cur l) (q : P) : ∃ p b, Shp (orMv l q) p b [] := by
  rcases h with rfl | ⟨p, b, h⟩
  · exact ⟨q, [], rfl, by simp, .inl rfl⟩
  · rw [orMv_ne (by rw [h.e]; simp)]; exact ⟨p, b, h⟩
theorem prt_good : ∀ (w : List Sk) (cur : List Sk) (q : P), Cur cur → ∀ l ∈ prt cur q w, l = [] ∨ ∃ p b t, Shp l p b t
  | [], cur, q, hc, l, hl => by
    simp [prt] at hl; subst hl
    rcases hc with h | ⟨p, b, h⟩
    · exact .inl h
    · exact .inr ⟨p, b, [], h⟩
  | x :: w, cur, q, hc, l, hl => by
    rw [prt_cons] at hl
    by_cases h1 : isMv x
    · rw [if_pos h1] at hl
      rcases List.mem_cons.mp hl with rfl | hl
      · rcases hc with h | ⟨p, b, h⟩
        · exact .inl h
        · exact .inr ⟨p, b, [], h⟩
      · cases x <;> simp [isMv] at h1
        exact prt_good w _ _ (.inr ⟨_, [], rfl, by simp, .inl rfl⟩) l hl
    · rw [if_neg h1] at hl
      obtain ⟨p, b, h⟩ := hc.or q
      by_cases h2 : isSh x
      · rw [if_pos h2] at hl
        rcases List.mem_cons.mp hl with rfl | hl
        · cases x <;> simp [isSh] at h2
          exact .inr ⟨p, b, [.sh], by rw [h.e]; simp, h.bd, .inr rfl⟩
        · exact prt_good w _ _ (.inl rfl) l hl
      · rw [if_neg h2] at hl
        refine prt_good w _ _ (.inr ⟨p, b ++ [x], by rw [h.e]; simp, ?_, .inl rfl⟩) l hl
        intro y hy
        rcases List.mem_append.mp hy with hy | hy
        · exact h.bd y hy
        · simp at hy; subst hy; simp [isBd, h1, h2]
theorem parts_good (w : List Sk) : ∀ l ∈ partsL w, Good1 l := by
  intro l hl
  rw [partsL_prt] at hl
  obtain ⟨h1, h2⟩ := List.mem_filter.mp hl
  have h2 : 1 < l.length := by simpa using h2
  rcases prt_good w [] _ (.inl rfl) l h1 with rfl | h
  · simp at h2
  · exact ⟨h, h2⟩
theorem parts_flatten (w : List Sk) : partsL (partsL w).flatten = partsL w := partsL_flatten (parts_good w)
theorem prt_mem : ∀ (w : List Sk) (cur : List Sk) (q : P), ∀ l ∈ prt cur q w, ∀ x ∈ l, x ∈ cur ∨ x ∈ w ∨ isMv x = true
  | [], cur, q, l, hl, x, hx => by simp [prt] at hl; subst hl; exact .inl hx
  | y :: w, cur, q, l, hl, x, hx => by
    have om : ∀ z ∈ orMv cur q, z ∈ cur ∨ isMv z = true := by
      intro z hz
      rcases cur with _ | ⟨c, cs⟩
      · simp [orMv] at hz; subst hz; exact .inr rfl
      · exact .inl hz
    have up {c : List Sk} (hc : ∀ z ∈ c, z ∈ cur ∨ z = y ∨ isMv z = true) (h : x ∈ c ∨ x ∈ w ∨ isMv x = true) : x ∈ cur ∨ x ∈ y :: w ∨ isMv x = true := by
      rcases h with h | h | h
      · rcases hc x h with h | h | h
        · exact .inl h
        · subst h; exact .inr (.inl (by simp))
        · exact .inr (.inr h)
      · exact .inr (.inl (by simp [h]))
      · exact .inr (.inr h)
    have os : ∀ z ∈ orMv cur q ++ [y], z ∈ cur ∨ z = y ∨ isMv z = true := by
      intro z hz
      rcases List.mem_append.mp hz with hz | hz
      · rcases om z hz with h | h
        · exact .inl h
        · exact .inr (.inr h)
      · simp at hz; exact .inr (.inl hz)
    rw [prt_cons] at hl
    split at hl
    · rcases List.mem_cons.mp hl with rfl | hl
      · exact .inl hx
      · exact up (c := [y]) (by simp) (prt_mem w _ _ l hl x hx)
    · split at hl
      · rcases List.mem_cons.mp hl with rfl | hl
        · exact up os (.inl hx)
        · exact up (c := []) (by simp) (prt_mem w _ _ l hl x hx)
      · exact up os (prt_mem w _ _ l hl x hx)
theorem parts_mem {w l : List Sk} {x : Sk} (hl : l ∈ partsL w) (hx : x ∈ l) : x ∈ w ∨ isMv x = true := by
  rw [partsL_prt] at hl
  rcases prt_mem w [] _ l (List.mem_filter.mp hl).1 x hx with h | h
  · simp at h
  · exact h
/-- one behind the other -/
theorem prt_app (p : P) (r : List Sk) : ∀ (a cur : List Sk) (q : P), prt cur q (a ++ .mv p :: r) = prt cur q a ++ prt [.mv p] p r
  | [], cur, q => by simp [prt_mv, prt_nil]
  | x :: a, cur, q => by
    rw [List.cons_append, prt_cons, prt_cons, prt_app p r a, prt_app p r a, prt_app p r a]
    split
    · simp
    · split <;> simp
theorem parts_app {a b : List Sk} (h : b = [] ∨ ∃ p r, b = .mv p :: r) : partsL (a ++ b) = partsL a ++ partsL b := by
  rcases h with rfl | ⟨p, r, rfl⟩
  · simp [partsL, partF]
  · rw [partsL_prt, partsL_prt, partsL_prt, prt_app, prt_mv, lg_nil_cons]
    simp [lgP]
end Rf
namespace Rf
open PySem Dp
open Enc (enc)
/-- a stroke's goal -/
def gl (x : Sk) : P := endOf x (0, 0)
theorem gl_end {x : Sk} (h : isSh x = false) (b : P) : endOf x b = gl x := by cases x <;> simp_all [isSh, gl, endOf]
def endB (p : P) : List Sk → P
  | [] => p
  | x :: r => endB (gl x) r
def lnB (p : P) : List Sk → List (List P)
  | [] => []
  | x :: r => (p :: x.pts) :: lnB (gl x) r
theorem endB_app (a b : List Sk) : ∀ p, endB p (a ++ b) = endB (endB p a) b := by
  induction a with
  | nil => intro p; rfl
  | cons x a ih => intro p; exact ih _
theorem lnB_app (a b : List Sk) : ∀ p, lnB p (a ++ b) = lnB p a ++ lnB (endB p a) b := by
  induction a with
  | nil => intro p; rfl
  | cons x a ih => intro p; show _ :: lnB (gl x) (a ++ b) = _ :: (lnB (gl x) a ++ _); rw [ih]; rfl
theorem stp_bd {s : Ps} {x : Sk} (h : isBd x = true) : stp s x = ⟨gl x, s.beg, true⟩ := by
  rw [stp, begOf_nm (isBd_mv h), gl_end (isBd_sh h)]
  simp [isBd_mv h, isBd_sh h]
theorem corP_bd {s : Ps} {x : Sk} (h : isBd x = true) : corP s x = s.pen :: x.pts := by cases x <;> simp_all [isBd, isMv, isSh, corP]
theorem lnsP_body : ∀ (b : List Sk), (∀ x ∈ b, isBd x = true) → ∀ (s : Ps), lnsP s b = lnB s.pen b ∧ runP s b = ⟨endB s.pen b, s.beg, s.op || !b.isEmpty⟩
  | [], _, s => by simp [lnsP, lnB, runP, endB]
  | x :: b, h, s => by
    have hx := h x (by simp)
    have ih := lnsP_body b (fun y hy => h y (List.mem_cons_of_mem _ hy)) (stp s x)
    refine ⟨?_, ?_⟩
    · show lnsOf s x ++ lnsP (stp s x) b = _
      rw [ih.1, lnsOf, if_neg (by simp [isBd_mv hx]), corP_bd hx, stp_bd hx]
      simp [isBd_sh hx, lnB]
    · show runP (stp s x) b = _
      rw [ih.2, stp_bd hx]
      simp [endB]
theorem linesL_flat (w : List Sk) : linesL w = (partsL w).flatMap closedL := rfl
theorem linesL_one {l : List Sk} (h : Good1 l) : linesL l = closedL l := by
  rw [linesL_flat, partsL_one h]; simp
theorem closed_open {l : List Sk} {p : P} {b : List Sk} (h : Shp l p b []) (hl : 1 < l.length) : closedL l = lnB p b ++ [[endB p b, p]] := by
  rw [← linesL_one ⟨⟨p, b, [], h⟩, hl⟩, linesP]
  obtain ⟨rfl, hb, _⟩ := h
  have e := lnsP_body b hb ⟨p, p, false⟩
  rw [List.append_nil]
  show lnsOf ps0 (.mv p) ++ lnsP ⟨p, p, false⟩ b ++ cloP (runP ⟨p, p, false⟩ b) = _
  rw [e.1, e.2]
  have : b ≠ [] := by rintro rfl; simp at hl
  cases b <;> simp_all [lnsOf, isMv, cloP, ps0]
theorem closed_shut {l : List Sk} {p : P} {b : List Sk} (h : Shp l p b [.sh]) : closedL l = lnB p b ++ [[endB p b, p], [p, p]] := by
  have hl : 1 < l.length := by rw [h.e]; simp
  rw [← linesL_one ⟨⟨p, b, _, h⟩, hl⟩, linesP]
  obtain ⟨rfl, hb, _⟩ := h
  have e := lnsP_body b hb ⟨p, p, false⟩
  show lnsOf ps0 (.mv p) ++ lnsP ⟨p, p, false⟩ (b ++ [.sh]) ++ cloP (runP ⟨p, p, false⟩ (b ++ [.sh])) = _
  rw [lnsP_app, runP_app, e.1, e.2]
  simp [lnsOf, isMv, cloP, ps0, lnsP, runP, stp, corP, isSh, endOf, begOf]
theorem linesL_flatten {ls : List (List Sk)} (h : ∀ l ∈ ls, Good1 l) : linesL ls.flatten = ls.flatMap closedL := by
  rw [linesL_flat, partsL_flatten h]
theorem lnB_two : ∀ (b : List Sk) (p : P), (∀ x ∈ b, isBd x = true) → (∀ x ∈ b, isCv x = false) → ∀ c ∈ lnB p b, ∃ u v, c = [u, v]
  | [], _, _, _, c, hc => by simp [lnB] at hc
  | x :: b, p, h, g, c, hc => by
    rcases List.mem_cons.mp hc with rfl | hc
    · have h1 := h x (by simp)
      have h2 := g x (by simp)
      cases x <;> simp_all [isBd, isMv, isSh, isCv, isBw, isWv, Sk.pts]
    · exact lnB_two b _ (fun y hy => h y (List.mem_cons_of_mem _ hy)) (fun y hy => g y (List.mem_cons_of_mem _ hy)) c hc
theorem closed_two {l : List Sk} (h : Good1 l) (g : ∀ x ∈ l, isCv x = false) : ∀ c ∈ closedL l, ∃ u v, c = [u, v] := by
  obtain ⟨⟨p, b, t, hs⟩, hl⟩ := h
  intro c hc
  have gb : ∀ x ∈ b, isCv x = false := fun x hx => g x (by rw [hs.e]; simp [hx])
  rcases hs.tl with rfl | rfl
  · rw [closed_open hs hl] at hc
    rcases List.mem_append.mp hc with hc | hc
    · exact lnB_two b p hs.bd gb c hc
    · simp at hc; exact ⟨_, _, hc⟩
  · rw [closed_shut hs] at hc
    rcases List.mem_append.mp hc with hc | hc
    · exact lnB_two b p hs.bd gb c hc
    · simp at hc; rcases hc with hc | hc <;> exact ⟨_, _, hc⟩
theorem any_flatMap' {α β : Type} (f : β → Bool) (g : α → List β) : ∀ l : List α, (l.flatMap g).any f = l.any fun a => (g a).any f
  | [] => rfl
  | a :: l => by simp [List.flatMap_cons, any_flatMap' f g l]
theorem sumZ_flatMap {α β : Type} (f : β → Int) (g : α → List β) : ∀ l : List α, sumZ ((l.flatMap g).map f) = sumZ (l.map fun a => sumZ ((g a).map f))
  | [] => rfl
  | a :: l => by simp [List.flatMap_cons, sumZ_app, sumZ, sumZ_flatMap f g l]
theorem isCv_mv {x : Sk} (h : isMv x = true) : isCv x = false := by cases x <;> simp_all [isMv, isCv, isBw, isWv]
theorem rounds_ok {M k m : Nat} {w : List Sk} {o : P} (hw : GW M k w) (ho : GP M k o) (hc : ∀ x ∈ w, isCv x = false) (fM : Ft m M) (hb : m + k < 1800) (hl : w.length < 990) : f_rounds [enc w, enc o] = .ok (enc (roundsF w o)) := by
  rw [f_rounds, run2, b_rounds]
  have l6 := lim6
  have hpl := partsL_len w
  have lp : (partsL w).length ≤ LIM := by omega
  simp [parts_ok (show w.length < 1000 by omega), it_E lp]
  have key := forGo_ret (f := fE (.nm 3) (.cons (.fr (.nm 4) (.seq (.call "closed_lines" f_closed_lines (.cons (.var 3) .nil)))
 (.cons (.ife (.call "is_on" f_is_on (.cons (.var 1) (.cons (.var 4) .nil)))
 (.cons (.ret .non)
 .nil)
 .nil)
 (.cons (.set 2 (.bin .Add (.var 2) (.call "passes" f_passes (.cons (.var 1) (.cons (.var 4) .nil)))))
 (.cons (.kil [4])
 .nil))))
 (.cons (.kil [4])
 (.cons (.kil [3, 4])
 .nil)))) (en := (enc : List Sk → D)) (R := fun n => [.im (enc w), .im (enc o), .im (.int n), .un, .un]) (fun l => (closedL l).any (onL o)) (fun l => sumZ ((closedL l).map (passL o))) .none (partsL w) (by
    intro l hlm n
    obtain ⟨hp, hm⟩ := partsL_ok hw l hlm
    have hg := parts_good w l hlm
    have gcv : ∀ x ∈ l, isCv x = false := fun x hx => by
      rcases parts_mem hlm hx with h | h
      · exact hc x h
      · exact isCv_mv h
    have h2 := closed_two hg gcv
    have hcl := closed_ok hp hm (by omega)
    have hsz := closedL_sz hp hm
    have hlen : (closedL l).length ≤ LIM := by
      have h1 := hp.len
      simp only [closedL, List.length_append, List.length_map, List.length_range, List.length_singleton]
      omega
    have inner := forGo_ret (f := fE (.nm 4) (.cons (.ife (.call "is_on" f_is_on (.cons (.var 1) (.cons (.var 4) .nil)))
 (.cons (.ret .non)
 .nil)
 .nil)
 (.cons (.set 2 (.bin .Add (.var 2) (.call "passes" f_passes (.cons (.var 1) (.cons (.var 4) .nil)))))
 (.cons (.kil [4])
 .nil)))) (en := (enc : List P → D)) (R := fun n => [.im (enc w), .im (enc o), .im (.int n), .im (enc l), .un]) (onL o) (passL o) .none (closedL l) (by
      intro c hc n
      obtain ⟨u, v, rfl⟩ := h2 c hc
      have hz := (hsz _ hc).1
      have gu := hz u (by simp)
      have gv := hz v (by simp)
      have e1 := is_on_ok ho gu gv fM hb
      have e2 := passes_ok ho gu gv fM hb
      simp only [onL, passL]
      by_cases h : onF o u v = true <;> simp [fE, e1, e2, h]) n
    simp only [fE, t_nm, ofR_ok, ss_cons, s_fr, i_seq, e_call, e_cons, e_var, e_nil, List.set_cons_succ, List.set_cons_zero, List.getElem?_cons_zero, List.getElem?_cons_succ, Res.bind_ok, hcl, it_L hlen]
    rw [inner]
    cases (closedL l).any (onL o) <;> simp) 0
  rw [key, roundsF, roundsOf, linesL_flat, any_flatMap', sumZ_flatMap]
  cases (partsL w).any (fun l => (closedL l).any (onL o)) <;> simp [enc_oi, enc_on]
end Rf
namespace Rf
open PySem Dp
open Enc (enc)
structure Mp where
  a : Rat
  b : Rat
  c : Rat
  d : Rat
  e : Rat
  f : Rat
  deriving DecidableEq
instance : Enc Mp where
  enc m := .tuple [enc m.a, enc m.b, enc m.c, enc m.d, enc m.e, enc m.f]
  dep := 2
  inj {x y} h := by
    simp only [PyData.tuple.injEq, List.cons.injEq, and_true, enc_inj] at h
    cases x; cases y; simp_all
  good m := good_tuple (by
    simp only [List.mem_cons, List.not_mem_nil, or_false, forall_eq_or_imp, forall_eq]
    exact ⟨Enc.good m.a, Enc.good m.b, Enc.good m.c, Enc.good m.d, Enc.good m.e, Enc.good m.f⟩)
instance : EncOk Mp := ⟨by decide⟩
theorem enc_mp (m : Mp) : enc m = .tuple [enc m.a, enc m.b, enc m.c, enc m.d, enc m.e, enc m.f] := rfl
structure GM (N l : Nat) (m : Mp) : Prop where
  a : G N l m.a
  b : G N l m.b
  c : G N l m.c
  d : G N l m.d
  e : G N l m.e
  f : G N l m.f
@[simp] theorem t_mp {m : Mp} {ts : ITs} {ρ : Env} : asT (.tu ts) (enc m) ρ = asTs ts [enc m.a, enc m.b, enc m.c, enc m.d, enc m.e, enc m.f] ρ := by rw [enc_mp, t_tup]
def ledF (m : Mp) (p : P) : P := (m.a * p.1 + m.c * p.2 + m.e, m.b * p.1 + m.d * p.2 + m.f)
def mapS (m : Mp) (x : Sk) : Sk := match x with
  | .mv p => .mv (ledF m p)
  | .ln p => .ln (ledF m p)
  | .bw c p => .bw (ledF m c) (ledF m p)
  | .wv c d p => .wv (ledF m c) (ledF m d) (ledF m p)
  | .sh => .sh
abbrev mapF (m : Mp) (w : List Sk) : List Sk := w.map (mapS m)
theorem mapS_nam (m : Mp) (x : Sk) : (mapS m x).nam = x.nam := by cases x <;> rfl
theorem mapS_pts (m : Mp) (x : Sk) : (mapS m x).pts = x.pts.map (ledF m) := by cases x <;> rfl
theorem G.up2 {M k K j l : Nat} {p : Rat} (h : G M k p) (f : Ft j K) (hl : k + j ≤ l) : G (M * K) l p := (h.up f.l).mono hl
section
variable {M k N l : Nat} {m : Mp} {p : P} (hp : GP M k p) (hm : GM N l m) (fM : Ft k M) (fN : Ft l N)
include hp hm fM fN
theorem led_g : GP (N * M) (k + l + 2) (ledF m p) := by
  have u {x y z w e : Rat} (hx : G N l x) (hy : G M k y) (hz : G N l z) (hw : G M k w) (he : G N l e) : G (N * M) (k + l + 2) (x * y + z * w + e) := by
    have h1 := ((hx.mul hy).add (hz.mul hw)).add (he.up2 (l := l + k + 1) fM (by omega))
    exact h1.mono (by omega)
  exact ⟨u hm.a hp.1 hm.c hp.2 hm.e, u hm.b hp.1 hm.d hp.2 hm.f⟩
theorem led_ok (hb : k + l < 1900) : f_led [enc p, enc m] = .ok (enc (ledF m p)) := by
  rw [f_led, run2, b_led]
  have o {q : Rat} (h : G N l q) : Ok q := h.okF fN (by omega) (by omega)
  have o1 : OkP p := hp.okF fM (by omega) (by omega)
  have o2 {x y : Rat} (hx : G N l x) (hy : G M k y) : Ok (x * y) := (hx.mul hy).okF (fN.mul fM) (by omega) (by omega)
  have o3 {x y z w : Rat} (hx : G N l x) (hy : G M k y) (hz : G N l z) (hw : G M k w) : Ok (x * y + z * w) := ((hx.mul hy).add (hz.mul hw)).okF (fN.mul fM) (by omega) (by omega)
  simp [times_ok (o hm.a) o1.1, times_ok (o hm.b) o1.1, times_ok (o hm.c) o1.2, times_ok (o hm.d) o1.2,
    plus_ok (o2 hm.a hp.1) (o2 hm.c hp.2), plus_ok (o2 hm.b hp.1) (o2 hm.d hp.2), plus_ok (o3 hm.a hp.1 hm.c hp.2) (o hm.e), plus_ok (o3 hm.b hp.1 hm.d hp.2) (o hm.f), mk_pair, ledF]
end
theorem GW.map {M k N l : Nat} {m : Mp} {w : List Sk} (hw : GW M k w) (hm : GM N l m) (fM : Ft k M) (fN : Ft l N) : GW (N * M) (k + l + 2) (mapF m w) := by
  intro x hx p hp
  obtain ⟨y, hy, rfl⟩ := List.mem_map.mp hx
  rw [mapS_pts] at hp
  obtain ⟨q, hq, rfl⟩ := List.mem_map.mp hp
  exact led_g (hw y hy q hq) hm fM fN
theorem mapped_ok {M k N l : Nat} {m : Mp} {w : List Sk} (hw : GW M k w) (hm : GM N l m) (fM : Ft k M) (fN : Ft l N) (hb : k + l < 1900) (hl : w.length < 1000) : f_mapped [enc w, enc m] = .ok (enc (mapF m w)) := by
  rw [f_mapped, run2, b_mapped]
  have l6 := lim6
  have lw : w.length ≤ LIM := by omega
  have e1 : lcGo (lE [("stroke", 2)] (.nm 2) .none (.bin .Add (.slc (.var 2) .none (.some (.int 1))) (.bi .tuple (.cons (.lc [("point", 3)] (.nm 3) (.seq (.slc (.var 2) (.some (.int 1)) .none)) .none (.call "led" f_led (.cons (.var 3) (.cons (.var 1) .nil)))) .nil))) [.im (enc w), .im (enc m), .un, .un]) (w.map enc) = .ok (w.map fun x => enc (mapS m x)) := by
    refine lcGo_all _ _ ?_
    intro x hx
    have gx := hw x hx
    have lp := pts_len x
    have lp' : x.pts.length ≤ LIM := by omega
    have e2 : lcGo (lE [("point", 3)] (.nm 3) .none (.call "led" f_led (.cons (.var 3) (.cons (.var 1) .nil))) [.im (enc w), .im (enc m), .im (enc x), .un]) (x.pts.map enc) = .ok (x.pts.map fun q => enc (ledF m q)) := by
      refine lcGo_all _ _ ?_
      intro q hq
      simp [lE, led_ok (gx q hq) hm fM fN hb]
    have s0 : dSlc (enc x) none (some 1) = .ok (.tuple [.str x.nam]) := by
      rw [enc_sk, slc_T]
      have := cut_to (xs := .str x.nam :: x.pts.map enc) (k := 1)
      simp only [Int.natCast_one] at this
      rw [this]; rfl
    have fin : dBin .Add (.tuple [.str x.nam]) (.tuple (x.pts.map fun q => enc (ledF m q))) = .ok (enc (mapS m x)) := by
      rw [b_addT, if_pos (by simp; omega), enc_sk, mapS_nam, mapS_pts, List.map_map]; rfl
    have t1 : dBi .tuple [.list (x.pts.map fun q => enc (ledF m q))] = .ok (.tuple (x.pts.map fun q => enc (ledF m q))) := rfl
    simp only [lE, List.map, wipe_cons, wipe_nil, t_nm, Res.bind_ok, c_none, if_true, e_bin, e_slc, e_var, List.set_cons_succ, List.set_cons_zero, List.getElem?_cons_zero, List.getElem?_cons_succ, o_none, o_some, e_int, s0, e_bi, e_cons, e_nil, e_lc, i_seq, slc_sk, it_E lp', List.length_map, lp', e2, t1, fin]
  have t0 : dBi .tuple [.list (w.map fun x => enc (mapS m x))] = .ok (enc (mapF m w)) := by rw [enc_list, List.map_map]; rfl
  simp [it_E lw, lw, e1, t0]
abbrev mapC (m : Mp) (c : List P) : List P := c.map (ledF m)
def mapP (m : Mp) (s : Ps) : Ps := ⟨ledF m s.pen, ledF m s.beg, s.op⟩
theorem isMv_map (m : Mp) (x : Sk) : isMv (mapS m x) = isMv x := by cases x <;> rfl
theorem isSh_map (m : Mp) (x : Sk) : isSh (mapS m x) = isSh x := by cases x <;> rfl
theorem isCv_map (m : Mp) (x : Sk) : isCv (mapS m x) = isCv x := by cases x <;> rfl
theorem stp_map (m : Mp) (s : Ps) (x : Sk) : stp (mapP m s) (mapS m x) = mapP m (stp s x) := by cases x <;> rfl
theorem clo_map (m : Mp) (s : Ps) : cloP (mapP m s) = (cloP s).map (mapC m) := by
  obtain ⟨p, b, o⟩ := s; cases o <;> rfl
theorem lnsOf_map (m : Mp) (s : Ps) (x : Sk) : lnsOf (mapP m s) (mapS m x) = (lnsOf s x).map (mapC m) := by
  cases x <;> first | exact clo_map m s | rfl
theorem lnsP_map (m : Mp) : ∀ (w : List Sk) (s : Ps), lnsP (mapP m s) (mapF m w) = (lnsP s w).map (mapC m) ∧ runP (mapP m s) (mapF m w) = mapP m (runP s w)
  | [], s => ⟨rfl, rfl⟩
  | x :: w, s => by
    have ih := lnsP_map m w (stp s x)
    rw [← stp_map] at ih
    refine ⟨?_, ih.2⟩
    show lnsOf (mapP m s) (mapS m x) ++ lnsP (stp (mapP m s) (mapS m x)) (mapF m w) = (lnsOf s x ++ lnsP (stp s x) w).map _
    rw [ih.1, lnsOf_map, List.map_append]
theorem linesL_mv (p : P) (r : List Sk) : linesL (.mv p :: r) = lnsP ⟨p, p, false⟩ r ++ cloP (runP ⟨p, p, false⟩ r) := by rw [linesP]; rfl
/-- a way begins with a move, or is empty -/
def Hd (w : List Sk) : Prop := w = [] ∨ ∃ p r, w = .mv p :: r
theorem linesL_map (m : Mp) {w : List Sk} (h : Hd w) : linesL (mapF m w) = (linesL w).map (mapC m) := by
  rcases h with rfl | ⟨p, r, rfl⟩
  · rfl
  · have e := lnsP_map m r ⟨p, p, false⟩
    show linesL (.mv (ledF m p) :: mapF m r) = _
    rw [linesL_mv, linesL_mv, List.map_append, ← e.1, ← clo_map, ← e.2]; rfl
theorem linesL_app {a b : List Sk} (h : Hd b) : linesL (a ++ b) = linesL a ++ linesL b := by
  rw [linesL_flat, parts_app h, List.flatMap_append]; rfl
theorem Way.hd' {m : Nat} {w : List Sk} (h : Way m w) : Hd w := by
  rcases w with _ | ⟨s, r⟩
  · exact .inl rfl
  · have := h.hd s rfl
    cases s <;> simp [isMv] at this
    exact .inr ⟨_, _, rfl⟩
def fst' (c : List P) : P := c.headD (0, 0)
def lst' (c : List P) : P := c.getLastD (0, 0)
theorem lst_cons (p : P) {x : Sk} (h : isBd x = true) : lst' (p :: x.pts) = gl x := by cases x <;> simp_all [isBd, isMv, isSh, lst', Sk.pts, gl, endOf]
theorem tele_body (g : P → Rat) : ∀ (b : List Sk) (p : P), (∀ x ∈ b, isBd x = true) → sumR ((lnB p b).map fun c => g (lst' c) - g (fst' c)) = g (endB p b) - g p
  | [], p, _ => by simp [lnB, sumR, endB]; grind
  | x :: b, p, h => by
    have ih := tele_body g b (gl x) (fun y hy => h y (List.mem_cons_of_mem _ hy))
    simp only [lnB, List.map_cons, sumR, ih, endB]
    rw [lst_cons p (h x (by simp))]
    show g (gl x) - g p + _ = _
    grind
theorem tele_closed (g : P → Rat) {l : List Sk} (h : Good1 l) : sumR ((closedL l).map fun c => g (lst' c) - g (fst' c)) = 0 := by
  obtain ⟨⟨p, b, t, hs⟩, hl⟩ := h
  have e := tele_body g b p hs.bd
  rcases hs.tl with rfl | rfl
  · rw [closed_open hs hl, List.map_append, sumR_app, e]
    simp [sumR, lst', fst']; grind
  · rw [closed_shut hs, List.map_append, sumR_app, e]
    simp [sumR, lst', fst']; grind
theorem sumR_flatMap {α β : Type} (f : β → Rat) (g : α → List β) : ∀ l : List α, sumR ((l.flatMap g).map f) = sumR (l.map fun a => sumR ((g a).map f))
  | [] => rfl
  | a :: l => by simp [List.flatMap_cons, sumR_app, sumR, sumR_flatMap f g l]
theorem sumR_zero {α : Type} (f : α → Rat) : ∀ l : List α, (∀ a ∈ l, f a = 0) → sumR (l.map f) = 0
  | [], _ => rfl
  | a :: l, h => by
    simp only [List.map_cons, sumR]
    rw [h a (by simp), sumR_zero f l (fun b hb => h b (List.mem_cons_of_mem _ hb))]
    grind
theorem tele_lines (g : P → Rat) (w : List Sk) : sumR ((linesL w).map fun c => g (lst' c) - g (fst' c)) = 0 := by
  rw [linesL_flat, sumR_flatMap]
  exact sumR_zero _ _ fun l hl => tele_closed g (parts_good w l hl)
end Rf
namespace Rf
open PySem Dp
open Enc (enc)
theorem sgm (x y : Rat) : (0 < x → 0 < y → 0 < x * y) ∧ (0 < x → y < 0 → x * y < 0) ∧ (x < 0 → 0 < y → x * y < 0) ∧ (x < 0 → y < 0 → 0 < x * y) ∧ (x = 0 → x * y = 0) ∧ (y = 0 → x * y = 0) := by
  refine ⟨fun h g => Rat.mul_pos h g, fun h g => ?_, fun h g => ?_, fun h g => ?_, fun h => by simp [h], fun h => by simp [h]⟩
  · have := Rat.mul_pos h (show 0 < -y by grind); grind
  · have := Rat.mul_pos (show 0 < -x by grind) g; grind
  · have := Rat.mul_pos (show 0 < -x by grind) (show 0 < -y by grind); grind
theorem tri (a : Rat) : a < 0 ∨ a = 0 ∨ 0 < a := by grind
def wU (a c m : Rat) : Int := if a ≤ 0 ∧ 0 < c ∧ 0 < m then 1 else if 0 < a ∧ c ≤ 0 ∧ m < 0 then -1 else 0
def wV (a c m : Rat) : Int := if a < 0 ∧ 0 ≤ c ∧ 0 < m then 1 else if 0 ≤ a ∧ c < 0 ∧ m < 0 then -1 else 0
def chi (a b : Rat) : Int := if 0 < a ∧ b ≤ 0 then 1 else 0
def chi' (a b : Rat) : Int := if 0 < a ∧ b < 0 then 1 else 0
theorem sector (a b c d : Rat) (h : ¬ (a * d - b * c = 0 ∧ a * c ≤ 0 ∧ b * d ≤ 0)) : wU a c (a * d - b * c) - wU b d (a * d - b * c) = chi c d - chi a b := by
  have h1 := sgm a d
  have h2 := sgm b c
  have h3 := sgm a c
  have h4 := sgm b d
  generalize a * d = ad at *
  generalize b * c = bc at *
  generalize a * c = ac at *
  generalize b * d = bd at *
  unfold wU chi
  rcases tri a with ha | ha | ha <;> rcases tri b with hb | hb | hb <;> rcases tri c with hc | hc | hc <;> rcases tri d with hd | hd | hd <;> grind
theorem sector' (a b c d : Rat) (h : ¬ (a * d - b * c = 0 ∧ a * c ≤ 0 ∧ b * d ≤ 0)) : wU a c (a * d - b * c) - wV b d (a * d - b * c) = chi' c d - chi' a b := by
  have h1 := sgm a d
  have h2 := sgm b c
  have h3 := sgm a c
  have h4 := sgm b d
  generalize a * d = ad at *
  generalize b * c = bc at *
  generalize a * c = ac at *
  generalize b * d = bd at *
  unfold wU wV chi'
  rcases tri a with ha | ha | ha <;> rcases tri b with hb | hb | hb <;> rcases tri c with hc | hc | hc <;> rcases tri d with hd | hd | hd <;> grind
/-- nought lies on the line from p to q -/
def on0 (p q : P) : Prop := p.1 * q.2 - p.2 * q.1 = 0 ∧ p.1 * q.1 ≤ 0 ∧ p.2 * q.2 ≤ 0
theorem on0_of {p q : P} {t : Rat} (h0 : 0 ≤ t) (h1 : t ≤ 1) (h : lerp p q t = (0, 0)) : on0 p q := by
  have e1 : p.1 + t * (q.1 - p.1) = 0 := congrArg Prod.fst h
  have e2 : p.2 + t * (q.2 - p.2) = 0 := congrArg Prod.snd h
  have hs : 0 ≤ 1 - t := by grind
  have f1 : (1 - t) * p.1 = -(t * q.1) := by grind
  have f2 : (1 - t) * p.2 = -(t * q.2) := by grind
  by_cases ht : t = 0
  · subst ht
    have a1 : p.1 = 0 := by grind
    have a2 : p.2 = 0 := by grind
    refine ⟨?_, ?_, ?_⟩ <;> simp [a1, a2] <;> grind
  · have tp : 0 < t := by grind
    have neg {x y : Rat} (h : (1 - t) * x = -(t * y)) : x * y ≤ 0 := by
      have e : t * (x * y) = -((1 - t) * (x * x)) := by grind
      have sq : 0 ≤ x * x := by
        rcases tri x with g | g | g
        · have := (sgm x x).2.2.2.1 g g; grind
        · simp [g]
        · have := (sgm x x).1 g g; grind
      have h2 : 0 ≤ (1 - t) * (x * x) := Rat.mul_nonneg hs sq
      rcases tri (x * y) with g | g | g
      · grind
      · grind
      · have := Rat.mul_pos tp g; grind
    refine ⟨?_, neg f1, neg f2⟩
    have e : t * (p.1 * q.2 - p.2 * q.1) = 0 := by grind
    rcases Rat.mul_eq_zero.mp e with g | g
    · exact absurd g ht
    · exact g
theorem on0_ex {p q : P} (h : on0 p q) : ∃ t, 0 ≤ t ∧ t ≤ 1 ∧ lerp p q t = (0, 0) := by
  obtain ⟨h1, h2, h3⟩ := h
  have step (a b c d : Rat) (hab : a * b ≤ 0) (hne : a ≠ 0 ∨ b ≠ 0) (hx : a * d - c * b = 0) : ∃ t, 0 ≤ t ∧ t ≤ 1 ∧ a + t * (b - a) = 0 ∧ c + t * (d - c) = 0 := by
    have hd : a - b ≠ 0 := by
      intro e
      have : a = b := by grind
      subst this
      have : a ≠ 0 := by grind
      rcases tri a with g | g | g
      · have := (sgm a a).2.2.2.1 g g; grind
      · grind
      · have := (sgm a a).1 g g; grind
    have e0 : a / (a - b) * (a - b) = a := Rat.div_mul_cancel hd
    have bound : 0 ≤ a / (a - b) ∧ a / (a - b) ≤ 1 := by
      generalize a / (a - b) = t at e0
      have f : t * b = (t - 1) * a := by grind
      rcases tri a with ga | ga | ga
      · have gb : 0 ≤ b := by
          rcases tri b with g | g | g
          · have := (sgm a b).2.2.2.1 ga g; grind
          · grind
          · grind
        constructor
        · rcases tri t with g | g | g
          · have h1 := (sgm t (a - b)).2.2.2.1 g (by grind); grind
          · grind
          · grind
        · rcases tri (t - 1) with g | g | g
          · grind
          · grind
          · have h1 := (sgm (t - 1) a).2.1 g ga
            have h2 : 0 ≤ t * b := Rat.mul_nonneg (by grind) gb
            grind
      · subst ga
        have : t = 0 := by
          have : t * (0 - b) = 0 := e0
          rcases Rat.mul_eq_zero.mp this with g | g
          · exact g
          · exact absurd g hd
        subst this; constructor <;> grind
      · have gb : b ≤ 0 := by
          rcases tri b with g | g | g
          · grind
          · grind
          · have := (sgm a b).1 ga g; grind
        constructor
        · rcases tri t with g | g | g
          · have h1 := (sgm t (a - b)).2.2.1 g (by grind); grind
          · grind
          · grind
        · rcases tri (t - 1) with g | g | g
          · grind
          · grind
          · have h1 := (sgm (t - 1) a).1 g ga
            have h2 : 0 ≤ t * (-b) := Rat.mul_nonneg (by grind) (by grind)
            grind
    refine ⟨a / (a - b), bound.1, bound.2, by grind, ?_⟩
    generalize a / (a - b) = t at e0
    have : (a - b) * (c + t * (d - c)) = 0 := by grind
    rcases Rat.mul_eq_zero.mp this with g | g
    · exact absurd g hd
    · exact g
  by_cases z1 : p.1 = 0 ∧ q.1 = 0
  · by_cases z2 : p.2 = 0 ∧ q.2 = 0
    · exact ⟨0, by grind, by grind, Prod.ext (by simp only [lerp, pAdd, pMul, pSub]; grind) (by simp only [lerp, pAdd, pMul, pSub]; grind)⟩
    · obtain ⟨t, t0, t1, e1, e2⟩ := step p.2 q.2 p.1 q.1 h3 (by grind) (by grind)
      exact ⟨t, t0, t1, Prod.ext e2 e1⟩
  · obtain ⟨t, t0, t1, e1, e2⟩ := step p.1 q.1 p.2 q.2 h2 (by grind) (by grind)
    exact ⟨t, t0, t1, Prod.ext e1 e2⟩
theorem minmax2 (a b o : Rat) : (minL [a, b] ≤ o ∧ o ≤ maxL [a, b]) ↔ (a - o) * (b - o) ≤ 0 := by
  have e1 : minL [a, b] = lo2 a b := rfl
  have e2 : maxL [a, b] = hi2 a b := rfl
  rw [e1, e2]
  have h := sgm (a - o) (b - o)
  unfold lo2 hi2
  rcases tri (a - o) with ga | ga | ga <;> rcases tri (b - o) with gb | gb | gb <;> grind
theorem onF_iff (o p q : P) : onF o p q = true ↔ on0 (pSub p o) (pSub q o) := by
  have h1 := minmax2 p.1 q.1 o.1
  have h2 := minmax2 p.2 q.2 o.2
  rw [onF, decide_eq_true_eq]
  show (sideF o p q = 0 ∧ minL [p.1, q.1] ≤ o.1 ∧ o.1 ≤ maxL [p.1, q.1] ∧ minL [p.2, q.2] ≤ o.2 ∧ o.2 ≤ maxL [p.2, q.2]) ↔ _
  simp only [on0, sideF, crossF, pSub]
  constructor
  · rintro ⟨e, a, b, c, d⟩
    exact ⟨by grind, h1.mp ⟨a, b⟩, h2.mp ⟨c, d⟩⟩
  · rintro ⟨e, a, b⟩
    exact ⟨by grind, (h1.mpr a).1, (h1.mpr a).2, (h2.mpr b).1, (h2.mpr b).2⟩
theorem passF_eq (o p q : P) : passF o p q = wU (pSub p o).2 (pSub q o).2 (crossF (pSub p o) (pSub q o)) := by
  have : sideF o p q = crossF (pSub p o) (pSub q o) := by simp only [sideF, crossF, pSub]; grind
  rw [passF, wU, this]
  have a1 : p.2 ≤ o.2 ↔ (pSub p o).2 ≤ 0 := by simp only [pSub]; grind
  have a2 : o.2 < q.2 ↔ 0 < (pSub q o).2 := by simp only [pSub]; grind
  have a3 : o.2 < p.2 ↔ 0 < (pSub p o).2 := by simp only [pSub]; grind
  have a4 : q.2 ≤ o.2 ↔ (pSub q o).2 ≤ 0 := by simp only [pSub]; grind
  simp only [a1, a2, a3, a4]
def fm2 (u p : P) : Rat := u.1 * p.1 + u.2 * p.2
def det (u v : P) : Rat := u.1 * v.2 - u.2 * v.1
theorem det_eq (u v p q : P) : fm2 u p * fm2 v q - fm2 v p * fm2 u q = det u v * crossF p q := by simp only [fm2, det, crossF]; grind
theorem on0_forms {u v p q : P} (hd : det u v ≠ 0) : (crossF p q = 0 ∧ fm2 u p * fm2 u q ≤ 0 ∧ fm2 v p * fm2 v q ≤ 0) ↔ on0 p q := by
  constructor
  · rintro ⟨h1, h2, h3⟩
    have h : on0 (fm2 u p, fm2 v p) (fm2 u q, fm2 v q) := ⟨by rw [det_eq, h1]; simp, h2, h3⟩
    obtain ⟨t, t0, t1, e⟩ := on0_ex h
    refine on0_of t0 t1 ?_
    have e1 : fm2 u p + t * (fm2 u q - fm2 u p) = 0 := congrArg Prod.fst e
    have e2 : fm2 v p + t * (fm2 v q - fm2 v p) = 0 := congrArg Prod.snd e
    simp only [fm2, det] at e1 e2 hd
    have z1 : (u.1 * v.2 - u.2 * v.1) * (p.1 + t * (q.1 - p.1)) = 0 := by grind
    have z2 : (u.1 * v.2 - u.2 * v.1) * (p.2 + t * (q.2 - p.2)) = 0 := by grind
    refine Prod.ext ?_ ?_
    · rcases Rat.mul_eq_zero.mp z1 with g | g
      · exact absurd g hd
      · exact g
    · rcases Rat.mul_eq_zero.mp z2 with g | g
      · exact absurd g hd
      · exact g
  · intro h
    obtain ⟨t, t0, t1, e⟩ := on0_ex h
    have e1 : p.1 + t * (q.1 - p.1) = 0 := congrArg Prod.fst e
    have e2 : p.2 + t * (q.2 - p.2) = 0 := congrArg Prod.snd e
    have k : on0 (fm2 u p, fm2 v p) (fm2 u q, fm2 v q) := on0_of t0 t1 (Prod.ext (by simp only [lerp, pAdd, pMul, pSub, fm2]; grind) (by simp only [lerp, pAdd, pMul, pSub, fm2]; grind))
    exact ⟨by have := h.1; simp only [crossF]; exact this, k.2.1, k.2.2⟩
theorem wU_pos {a c m k : Rat} (hk : 0 < k) : wU a c (k * m) = wU a c m := by
  have h := sgm k m
  unfold wU
  rcases tri m with g | g | g <;> grind
theorem wV_pos {a c m k : Rat} (hk : 0 < k) : wV a c (k * m) = wV a c m := by
  have h := sgm k m
  unfold wV
  rcases tri m with g | g | g <;> grind
theorem sec_f {u v p q : P} (hd : 0 < det u v) (h : ¬ on0 p q) : wU (fm2 u p) (fm2 u q) (crossF p q) - wU (fm2 v p) (fm2 v q) (crossF p q) = chi (fm2 u q) (fm2 v q) - chi (fm2 u p) (fm2 v p) := by
  have hn : det u v ≠ 0 := Rat.ne_of_gt hd
  have := sector (fm2 u p) (fm2 v p) (fm2 u q) (fm2 v q) (by
    rw [det_eq]
    rintro ⟨h1, h2, h3⟩
    refine h ((on0_forms hn).mp ⟨?_, h2, h3⟩)
    rcases Rat.mul_eq_zero.mp h1 with g | g
    · exact absurd g hn
    · exact g)
  rw [det_eq, wU_pos hd, wU_pos hd] at this
  exact this
theorem sec_f' {u v p q : P} (hd : 0 < det u v) (h : ¬ on0 p q) : wU (fm2 u p) (fm2 u q) (crossF p q) - wV (fm2 v p) (fm2 v q) (crossF p q) = chi' (fm2 u q) (fm2 v q) - chi' (fm2 u p) (fm2 v p) := by
  have hn : det u v ≠ 0 := Rat.ne_of_gt hd
  have := sector' (fm2 u p) (fm2 v p) (fm2 u q) (fm2 v q) (by
    rw [det_eq]
    rintro ⟨h1, h2, h3⟩
    refine h ((on0_forms hn).mp ⟨?_, h2, h3⟩)
    rcases Rat.mul_eq_zero.mp h1 with g | g
    · exact absurd g hn
    · exact g)
  rw [det_eq, wU_pos hd, wV_pos hd] at this
  exact this
theorem teleZ_body (g : P → Int) : ∀ (b : List Sk) (p : P), (∀ x ∈ b, isBd x = true) → sumZ ((lnB p b).map fun c => g (lst' c) - g (fst' c)) = g (endB p b) - g p
  | [], p, _ => by simp [lnB, sumZ, endB]
  | x :: b, p, h => by
    have ih := teleZ_body g b (gl x) (fun y hy => h y (List.mem_cons_of_mem _ hy))
    simp only [lnB, List.map_cons, sumZ, ih, endB]
    rw [lst_cons p (h x (by simp))]
    show g (gl x) - g p + _ = _
    omega
theorem teleZ_closed (g : P → Int) {l : List Sk} (h : Good1 l) : sumZ ((closedL l).map fun c => g (lst' c) - g (fst' c)) = 0 := by
  obtain ⟨⟨p, b, t, hs⟩, hl⟩ := h
  have e := teleZ_body g b p hs.bd
  rcases hs.tl with rfl | rfl
  · rw [closed_open hs hl, List.map_append, sumZ_app, e]
    simp [sumZ, lst', fst']; omega
  · rw [closed_shut hs, List.map_append, sumZ_app, e]
    simp [sumZ, lst', fst']; omega
theorem sumZ_zero {α : Type} (f : α → Int) : ∀ l : List α, (∀ a ∈ l, f a = 0) → sumZ (l.map f) = 0
  | [], _ => rfl
  | a :: l, h => by
    simp only [List.map_cons, sumZ]
    rw [h a (by simp), sumZ_zero f l (fun b hb => h b (List.mem_cons_of_mem _ hb))]
    rfl
theorem teleZ_lines (g : P → Int) (w : List Sk) : sumZ ((linesL w).map fun c => g (lst' c) - g (fst' c)) = 0 := by
  rw [linesL_flat, sumZ_flatMap]
  exact sumZ_zero _ _ fun l hl => teleZ_closed g (parts_good w l hl)
theorem sumZ_sub {α : Type} (f g : α → Int) : ∀ l : List α, sumZ (l.map fun a => f a - g a) = sumZ (l.map f) - sumZ (l.map g)
  | [] => by simp [sumZ]
  | a :: l => by simp only [List.map_cons, sumZ, sumZ_sub f g l]; omega
theorem sumZ_congr {α : Type} {f g : α → Int} : ∀ {l : List α}, (∀ a ∈ l, f a = g a) → sumZ (l.map f) = sumZ (l.map g)
  | [], _ => rfl
  | a :: l, h => by
    simp only [List.map_cons, sumZ]
    rw [h a (by simp), sumZ_congr fun b hb => h b (List.mem_cons_of_mem _ hb)]
/-- two sums that differ by what telescopes are the same -/
theorem same_sum {w : List Sk} {f g : List P → Int} (k : P → Int) (h : ∀ c ∈ linesL w, f c - g c = k (lst' c) - k (fst' c)) : sumZ ((linesL w).map f) = sumZ ((linesL w).map g) := by
  have := teleZ_lines k w
  rw [← sumZ_congr h, sumZ_sub] at this
  omega
/-- how often lines pass the ray of a form -/
def rayU (u o : P) (c : List P) : Int := wU (fm2 u (pSub (fst' c) o)) (fm2 u (pSub (lst' c) o)) (crossF (pSub (fst' c) o) (pSub (lst' c) o))
def rayV (u o : P) (c : List P) : Int := wV (fm2 u (pSub (fst' c) o)) (fm2 u (pSub (lst' c) o)) (crossF (pSub (fst' c) o) (pSub (lst' c) o))
def Off (w : List Sk) (o : P) : Prop := ∀ c ∈ linesL w, ¬ on0 (pSub (fst' c) o) (pSub (lst' c) o)
theorem ray_det {w : List Sk} {u v o : P} (h : Off w o) (hd : 0 < det u v) : sumZ ((linesL w).map (rayU u o)) = sumZ ((linesL w).map (rayU v o)) :=
  same_sum (fun p => chi (fm2 u (pSub p o)) (fm2 v (pSub p o))) fun c hc => sec_f hd (h c hc)
theorem ray_det' {w : List Sk} {u v o : P} (h : Off w o) (hd : 0 < det u v) : sumZ ((linesL w).map (rayU u o)) = sumZ ((linesL w).map (rayV v o)) :=
  same_sum (fun p => chi' (fm2 u (pSub p o)) (fm2 v (pSub p o))) fun c hc => sec_f' hd (h c hc)
theorem sq_pos {u : P} (h : u ≠ (0, 0)) : 0 < u.1 * u.1 + u.2 * u.2 := by
  have h1 := sgm u.1 u.1
  have h2 := sgm u.2 u.2
  have : u.1 ≠ 0 ∨ u.2 ≠ 0 := by
    rcases Classical.em (u.1 = 0) with g | g
    · rcases Classical.em (u.2 = 0) with g' | g'
      · exact absurd (Prod.ext g g') h
      · exact .inr g'
    · exact .inl g
  rcases tri u.1 with g | g | g <;> rcases tri u.2 with g' | g' | g' <;> grind
theorem ray_any {w : List Sk} {u v o : P} (h : Off w o) (hu : u ≠ (0, 0)) (hv : v ≠ (0, 0)) : sumZ ((linesL w).map (rayU u o)) = sumZ ((linesL w).map (rayU v o)) := by
  rcases tri (det u v) with g | g | g
  · exact (ray_det h (show 0 < det v u by simp only [det] at g ⊢; grind)).symm
  · have su := sq_pos hu
    have sv := sq_pos hv
    have d1 : 0 < det u (-u.2, u.1) := by simp only [det]; grind
    rw [ray_det h d1]
    have d2 : det v (-u.2, u.1) ≠ 0 := by
      simp only [det] at g ⊢
      intro e
      have e' : v.1 * u.1 + v.2 * u.2 = 0 := by grind
      have : (u.1 * u.1 + u.2 * u.2) * (v.1 * v.1 + v.2 * v.2) = 0 := by
        have : (u.1 * u.1 + u.2 * u.2) * (v.1 * v.1 + v.2 * v.2) = (u.1 * v.2 - u.2 * v.1) * (u.1 * v.2 - u.2 * v.1) + (v.1 * u.1 + v.2 * u.2) * (v.1 * u.1 + v.2 * u.2) := by grind
        rw [this, g, e']; grind
      have := Rat.mul_pos su sv
      grind
    rcases tri (det v (-u.2, u.1)) with k | k | k
    · exact ray_det h (show 0 < det (-u.2, u.1) v by simp only [det] at k ⊢; grind)
    · exact absurd k d2
    · exact (ray_det h k).symm
  · exact ray_det h g
theorem ray_anyV {w : List Sk} {u v o : P} (h : Off w o) (hu : u ≠ (0, 0)) (hv : v ≠ (0, 0)) : sumZ ((linesL w).map (rayU u o)) = sumZ ((linesL w).map (rayV v o)) := by
  have sv := sq_pos hv
  have d1 : 0 < det (v.2, -v.1) v := by simp only [det]; grind
  rw [← ray_det' h d1]
  refine ray_any h hu ?_
  intro e
  have e1 : v.2 = 0 := congrArg Prod.fst e
  have e2 : -v.1 = 0 := congrArg Prod.snd e
  exact hv (Prod.ext (by grind) e1)
end Rf
namespace Rf
open PySem Dp
open Enc (enc)
def spreadF (m : Mp) : Rat := m.a * m.d - m.b * m.c
/-- lines of two points alone -/
def Two (w : List Sk) : Prop := ∀ c ∈ linesL w, ∃ u v, c = [u, v]
theorem lines_len {w : List Sk} : ∀ c ∈ linesL w, 2 ≤ c.length ∧ c.length ≤ 4 := by
  have body : ∀ (b : List Sk) (p : P), (∀ x ∈ b, isBd x = true) → ∀ c ∈ lnB p b, 2 ≤ c.length ∧ c.length ≤ 4 := by
    intro b
    induction b with
    | nil => intro p _ c hc; simp [lnB] at hc
    | cons x b ih =>
      intro p h c hc
      rcases List.mem_cons.mp hc with rfl | hc
      · have := h x (by simp)
        cases x <;> simp_all [isBd, isMv, isSh, Sk.pts]
      · exact ih _ (fun y hy => h y (List.mem_cons_of_mem _ hy)) c hc
  intro c hc
  obtain ⟨l, hl, hc⟩ := List.mem_flatMap.mp hc
  obtain ⟨⟨p, b, t, hs⟩, hl1⟩ := parts_good w l hl
  rcases hs.tl with rfl | rfl
  · rw [closed_open hs hl1] at hc
    rcases List.mem_append.mp hc with hc | hc
    · exact body b p hs.bd c hc
    · simp at hc; subst hc; simp
  · rw [closed_shut hs] at hc
    rcases List.mem_append.mp hc with hc | hc
    · exact body b p hs.bd c hc
    · simp at hc; rcases hc with rfl | rfl <;> simp
theorem two_of {w : List Sk} (h : ∀ x ∈ w, isCv x = false) : Two w := by
  intro c hc
  obtain ⟨l, hl, hc⟩ := List.mem_flatMap.mp hc
  refine closed_two (parts_good w l hl) (fun x hx => ?_) c hc
  rcases parts_mem hl hx with h1 | h1
  · exact h x h1
  · exact isCv_mv h1
theorem swept_map (m : Mp) {c : List P} (h2 : 2 ≤ c.length) (h4 : c.length ≤ 4) : sweptF (mapC m c) = spreadF m * sweptF c + ((fun x : P => 1 / 2 * (m.e * (m.b * x.1 + m.d * x.2) - m.f * (m.a * x.1 + m.c * x.2))) (lst' c) - (fun x : P => 1 / 2 * (m.e * (m.b * x.1 + m.d * x.2) - m.f * (m.a * x.1 + m.c * x.2))) (fst' c)) := by
  rcases c with _ | ⟨p, _ | ⟨q, _ | ⟨r, _ | ⟨s, _ | ⟨x, t⟩⟩⟩⟩⟩
  · simp at h2
  · simp at h2
  · simp only [mapC, List.map, sweptF, crossF, ledF, spreadF, lst', fst', List.headD_cons, List.getLastD_cons]; simp only [List.getLastD]; grind
  · simp only [mapC, List.map, sweptF, crossF, ledF, spreadF, lst', fst', List.headD_cons, List.getLastD_cons]; simp only [List.getLastD]; grind
  · simp only [mapC, List.map, sweptF, crossF, ledF, spreadF, lst', fst', List.headD_cons, List.getLastD_cons]; simp only [List.getLastD]; grind
  · simp at h4
theorem sumR_congr {α : Type} {f g : α → Rat} : ∀ {l : List α}, (∀ a ∈ l, f a = g a) → sumR (l.map f) = sumR (l.map g)
  | [], _ => rfl
  | a :: l, h => by
    simp only [List.map_cons, sumR]
    rw [h a (by simp), sumR_congr fun b hb => h b (List.mem_cons_of_mem _ hb)]
theorem sumR_add {α : Type} (f g : α → Rat) : ∀ l : List α, sumR (l.map fun a => f a + g a) = sumR (l.map f) + sumR (l.map g)
  | [] => by simp [sumR]; grind
  | a :: l => by simp only [List.map_cons, sumR, sumR_add f g l]; grind
theorem sumR_mul {α : Type} (k : Rat) (f : α → Rat) : ∀ l : List α, sumR (l.map fun a => k * f a) = k * sumR (l.map f)
  | [] => by simp [sumR]
  | a :: l => by simp only [List.map_cons, sumR, sumR_mul k f l]; grind
theorem area_map (m : Mp) {w : List Sk} (h : Hd w) : areaF (mapF m w) = spreadF m * areaF w := by
  rw [areaF_eq, areaF_eq, linesL_map m h, List.map_map]
  rw [sumR_congr (f := sweptF ∘ mapC m) (g := fun c => spreadF m * sweptF c + ((fun x : P => 1 / 2 * (m.e * (m.b * x.1 + m.d * x.2) - m.f * (m.a * x.1 + m.c * x.2))) (lst' c) - (fun x : P => 1 / 2 * (m.e * (m.b * x.1 + m.d * x.2) - m.f * (m.a * x.1 + m.c * x.2))) (fst' c))) (fun c hc => swept_map m (lines_len c hc).1 (lines_len c hc).2)]
  have ht := tele_lines (fun x : P => 1 / 2 * (m.e * (m.b * x.1 + m.d * x.2) - m.f * (m.a * x.1 + m.c * x.2))) w
  rw [sumR_add, sumR_mul]
  generalize sumR _ = z at ht ⊢
  rw [ht]; grind
theorem area_app {a b : List Sk} (h : Hd b) : areaF (a ++ b) = areaF a + areaF b := by
  rw [areaF_eq, areaF_eq, areaF_eq, linesL_app h, List.map_append, sumR_app]
theorem pass_ray {o : P} {c : List P} (h : ∃ u v, c = [u, v]) : passL o c = rayU (0, 1) o c := by
  obtain ⟨u, v, rfl⟩ := h
  simp only [passL, passF_eq, rayU, fst', lst', fm2, List.headD_cons]
  show wU _ _ _ = wU (0 * _ + 1 * _) (0 * _ + 1 * (pSub v o).2) (crossF _ (pSub v o))
  congr 1 <;> grind
theorem on_ray {o : P} {c : List P} (h : ∃ u v, c = [u, v]) : onL o c = true ↔ on0 (pSub (fst' c) o) (pSub (lst' c) o) := by
  obtain ⟨u, v, rfl⟩ := h
  exact onF_iff o u v
theorem off_of {w : List Sk} {o : P} (h : Two w) : (linesL w).any (onL o) = false ↔ Off w o := by
  simp only [List.any_eq_false]
  exact ⟨fun g c hc k => g c hc ((on_ray (h c hc)).mpr k), fun g c hc k => g c hc ((on_ray (h c hc)).mp k)⟩
theorem wU_neg {x y m k : Rat} (hk : k < 0) : wU x y (k * m) = -wV (-x) (-y) m := by
  have h := sgm k m
  unfold wU wV
  rcases tri m with g | g | g <;> grind
theorem led_sub (m : Mp) (p o : P) : pSub (ledF m p) (ledF m o) = (fm2 (m.a, m.c) (pSub p o), fm2 (m.b, m.d) (pSub p o)) := by
  refine Prod.ext ?_ ?_ <;> simp only [pSub, ledF, fm2] <;> grind
theorem det_spread (m : Mp) : det (m.a, m.c) (m.b, m.d) = spreadF m := by simp only [det, spreadF]; grind
theorem fst_map (m : Mp) {c : List P} (h : 2 ≤ c.length) : fst' (mapC m c) = ledF m (fst' c) := by
  rcases c with _ | ⟨p, c⟩
  · simp at h
  · rfl
theorem lastD_map (f : P → P) : ∀ (c : List P) (d : P), (c.map f).getLastD (f d) = f (c.getLastD d)
  | [], d => rfl
  | a :: c, d => by
    rw [List.map_cons, List.getLastD_cons, List.getLastD_cons]
    exact lastD_map f c a
theorem lst_map (m : Mp) {c : List P} (h : 2 ≤ c.length) : lst' (mapC m c) = ledF m (lst' c) := by
  rcases c with _ | ⟨p, c⟩
  · simp at h
  · rw [lst', lst', mapC, List.map_cons, List.getLastD_cons, List.getLastD_cons]
    exact lastD_map _ _ _
theorem on0_map {m : Mp} {p q : P} (hD : spreadF m ≠ 0) : on0 (fm2 (m.a, m.c) p, fm2 (m.b, m.d) p) (fm2 (m.a, m.c) q, fm2 (m.b, m.d) q) ↔ on0 p q := by
  have hn : det (m.a, m.c) (m.b, m.d) ≠ 0 := by rw [det_spread]; exact hD
  rw [← on0_forms (p := p) (q := q) hn]
  have e := det_eq (m.a, m.c) (m.b, m.d) p q
  constructor
  · rintro ⟨a, b, c⟩
    refine ⟨?_, b, c⟩
    rw [show fm2 (m.a, m.c) p * fm2 (m.b, m.d) q - fm2 (m.b, m.d) p * fm2 (m.a, m.c) q = 0 from a] at e
    rcases Rat.mul_eq_zero.mp e.symm with g | g
    · exact absurd g hn
    · exact g
  · rintro ⟨a, b, c⟩
    refine ⟨?_, b, c⟩
    rw [a, Rat.mul_zero] at e
    exact e
theorem any_map' {α β : Type} (f : β → Bool) (g : α → β) (l : List α) : (l.map g).any f = l.any fun a => f (g a) := by simp [List.any_map, Function.comp_def]
theorem rounds_map {m : Mp} {w : List Sk} {o : P} (h : Hd w) (h2 : Two w) (hD : spreadF m ≠ 0) : roundsF (mapF m w) (ledF m o) = (roundsF w o).map fun n => if spreadF m < 0 then -n else n := by
  have two' : ∀ c ∈ linesL w, ∃ u v, mapC m c = [u, v] := by
    intro c hc
    obtain ⟨u, v, rfl⟩ := h2 c hc
    exact ⟨_, _, rfl⟩
  have e1 : ∀ c ∈ linesL w, onL (ledF m o) (mapC m c) = onL o c := by
    intro c hc
    have hl := (lines_len c hc).1
    rw [Bool.eq_iff_iff, on_ray (h2 c hc), on_ray (two' c hc), fst_map m hl, lst_map m hl, led_sub, led_sub]
    exact on0_map hD
  have ea : (linesL (mapF m w)).any (onL (ledF m o)) = (linesL w).any (onL o) := by
    rw [linesL_map m h, any_map']
    rw [Bool.eq_iff_iff, List.any_eq_true, List.any_eq_true]
    exact ⟨fun ⟨c, hc, k⟩ => ⟨c, hc, by rw [← e1 c hc]; exact k⟩, fun ⟨c, hc, k⟩ => ⟨c, hc, by rw [e1 c hc]; exact k⟩⟩
  rw [roundsF, roundsF, roundsOf, roundsOf, ea]
  by_cases ho : (linesL w).any (onL o) = true
  · rw [if_pos ho, if_pos ho]; rfl
  · rw [if_neg ho, if_neg ho]
    have off := (off_of (o := o) h2).mp (by simpa using ho)
    have nz : ((m.b, m.d) : P) ≠ (0, 0) := by
      intro e
      have e1 : m.b = 0 := congrArg Prod.fst e
      have e2 : m.d = 0 := congrArg Prod.snd e
      exact hD (by rw [spreadF, e1, e2]; grind)
    have nz' : ((-m.b, -m.d) : P) ≠ (0, 0) := by
      intro e
      have e1 : -m.b = 0 := congrArg Prod.fst e
      have e2 : -m.d = 0 := congrArg Prod.snd e
      exact nz (Prod.ext (by grind) (by grind))
    have n01 : ((0, 1) : P) ≠ (0, 0) := by decide
    have es : sumZ ((linesL w).map (passL o)) = sumZ ((linesL w).map (rayU (0, 1) o)) := sumZ_congr fun c hc => pass_ray (h2 c hc)
    rw [linesL_map m h, List.map_map, es]
    have ep : ∀ c ∈ linesL w, (passL (ledF m o) ∘ mapC m) c = wU (fm2 (m.b, m.d) (pSub (fst' c) o)) (fm2 (m.b, m.d) (pSub (lst' c) o)) (spreadF m * crossF (pSub (fst' c) o) (pSub (lst' c) o)) := by
      intro c hc
      have hl := (lines_len c hc).1
      show passL (ledF m o) (mapC m c) = _
      rw [pass_ray (two' c hc), rayU, fst_map m hl, lst_map m hl, led_sub, led_sub]
      have := det_eq (m.a, m.c) (m.b, m.d) (pSub (fst' c) o) (pSub (lst' c) o)
      rw [det_spread] at this
      rw [← this]
      simp only [crossF]
      congr 1
      · simp only [fm2]; grind
      · simp only [fm2]; grind
    rw [sumZ_congr ep]
    simp only [Option.map_some]
    congr 1
    by_cases hn : spreadF m < 0
    · rw [if_pos hn]
      have : ∀ c ∈ linesL w, wU (fm2 (m.b, m.d) (pSub (fst' c) o)) (fm2 (m.b, m.d) (pSub (lst' c) o)) (spreadF m * crossF (pSub (fst' c) o) (pSub (lst' c) o)) = (fun c => 0 - rayV (-m.b, -m.d) o c) c := by
        intro c _
        rw [wU_neg hn]
        simp only [rayV]
        have n1 (p : P) : -fm2 (m.b, m.d) p = fm2 (-m.b, -m.d) p := by simp only [fm2]; grind
        rw [n1, n1]; omega
      rw [sumZ_congr this, sumZ_sub, ← ray_anyV off n01 nz']
      rw [sumZ_zero (fun _ => 0) _ (fun _ _ => rfl)]; omega
    · rw [if_neg hn]
      have hp : 0 < spreadF m := by grind
      rw [ray_any off n01 nz]
      exact sumZ_congr fun c _ => wU_pos hp
theorem rounds_high {w : List Sk} {o : P} (h2 : Two w) (h : ∀ c ∈ linesL w, ∀ p ∈ c, p.2 < o.2) : roundsF w o = some 0 := by
  have k1 : ∀ c ∈ linesL w, onL o c = false ∧ passL o c = 0 := by
    intro c hc
    obtain ⟨u, v, rfl⟩ := h2 c hc
    have hu := h _ hc u (by simp)
    have hv := h _ hc v (by simp)
    refine ⟨?_, ?_⟩
    · rw [← Bool.not_eq_true, onL, onF_iff]
      rintro ⟨_, _, k⟩
      have := (sgm (pSub u o).2 (pSub v o).2).2.2.2.1 (by simp only [pSub]; grind) (by simp only [pSub]; grind)
      grind
    · simp only [passL, passF]
      rw [if_neg (by grind), if_neg (by grind)]
  rw [roundsF, roundsOf, if_neg (by simpa using fun c hc => (k1 c hc).1), sumZ_zero _ _ fun c hc => (k1 c hc).2]
theorem rounds_left {w : List Sk} {o : P} (h2 : Two w) (h : ∀ c ∈ linesL w, ∀ p ∈ c, o.1 < p.1) : roundsF w o = some 0 := by
  have k1 : ∀ c ∈ linesL w, onL o c = false ∧ passL o c = (fun p : P => if o.2 < p.2 then 1 else 0) (lst' c) - (fun p : P => if o.2 < p.2 then 1 else 0) (fst' c) := by
    intro c hc
    obtain ⟨u, v, rfl⟩ := h2 c hc
    have hu := h _ hc u (by simp)
    have hv := h _ hc v (by simp)
    refine ⟨?_, ?_⟩
    · rw [← Bool.not_eq_true, onL, onF_iff]
      rintro ⟨_, k, _⟩
      have := (sgm (pSub u o).1 (pSub v o).1).1 (by simp only [pSub]; grind) (by simp only [pSub]; grind)
      grind
    · simp only [passL, passF_eq]
      have s1 := sgm (pSub u o).1 (pSub v o).2
      have s2 := sgm (pSub u o).2 (pSub v o).1
      have p1 : 0 < (pSub u o).1 := by simp only [pSub]; grind
      have p2 : 0 < (pSub v o).1 := by simp only [pSub]; grind
      have a1 : o.2 < u.2 ↔ 0 < (pSub u o).2 := by simp only [pSub]; grind
      have a2 : o.2 < v.2 ↔ 0 < (pSub v o).2 := by simp only [pSub]; grind
      show _ = (if o.2 < v.2 then (1 : Int) else 0) - (if o.2 < u.2 then (1 : Int) else 0)
      simp only [a1, a2, crossF, wU]
      generalize pSub u o = u' at *
      generalize pSub v o = v' at *
      rcases tri u'.2 with g | g | g <;> rcases tri v'.2 with g' | g' | g' <;> grind
  rw [roundsF, roundsOf, if_neg (by simpa using fun c hc => (k1 c hc).1)]
  have := teleZ_lines (fun p : P => if o.2 < p.2 then 1 else 0) w
  rw [sumZ_congr fun c hc => (k1 c hc).2, this]
end Rf
namespace Rf
open PySem Dp
open Enc (enc)
theorem bx_of {l : List P} {b : Box} (h : ∀ p ∈ l, inB p b) (h1 : ∃ p ∈ l, p.1 = b.1.1) (h2 : ∃ p ∈ l, p.2 = b.1.2) (h3 : ∃ p ∈ l, p.1 = b.2.1) (h4 : ∃ p ∈ l, p.2 = b.2.2) : bx l = b := by
  obtain ⟨p1, m1, e1⟩ := h1
  obtain ⟨p2, m2, e2⟩ := h2
  obtain ⟨p3, m3, e3⟩ := h3
  obtain ⟨p4, m4, e4⟩ := h4
  have ne : l ≠ [] := List.ne_nil_of_mem m1
  have k := lies_of (b := b) ne h
  have i1 := inB_mem m1
  have i2 := inB_mem m2
  have i3 := inB_mem m3
  have i4 := inB_mem m4
  obtain ⟨a1, a2, a3, a4⟩ := k
  obtain ⟨i1, _, _, _⟩ := i1
  obtain ⟨_, _, i2, _⟩ := i2
  obtain ⟨_, i3, _, _⟩ := i3
  obtain ⟨_, _, _, i4⟩ := i4
  refine Prod.ext (Prod.ext ?_ ?_) (Prod.ext ?_ ?_) <;> grind
theorem bx_ex {l : List P} (h : l ≠ []) : (∃ p ∈ l, p.1 = (bx l).1.1) ∧ (∃ p ∈ l, p.2 = (bx l).1.2) ∧ (∃ p ∈ l, p.1 = (bx l).2.1) ∧ (∃ p ∈ l, p.2 = (bx l).2.2) := by
  have h1 : l.map (·.1) ≠ [] := by simpa using h
  have h2 : l.map (·.2) ≠ [] := by simpa using h
  refine ⟨?_, ?_, ?_, ?_⟩
  · obtain ⟨p, hp, e⟩ := List.mem_map.mp (minL_mem h1); exact ⟨p, hp, e⟩
  · obtain ⟨p, hp, e⟩ := List.mem_map.mp (minL_mem h2); exact ⟨p, hp, e⟩
  · obtain ⟨p, hp, e⟩ := List.mem_map.mp (maxL_mem h1); exact ⟨p, hp, e⟩
  · obtain ⟨p, hp, e⟩ := List.mem_map.mp (maxL_mem h2); exact ⟨p, hp, e⟩
/-- the same points, the same box -/
theorem bx_same {l l' : List P} (h : ∀ p, p ∈ l ↔ p ∈ l') : bx l = bx l' := by
  by_cases ne : l' = []
  · subst ne
    have : l = [] := List.eq_nil_iff_forall_not_mem.mpr fun p hp => by have := (h p).mp hp; simp at this
    rw [this]
  · obtain ⟨⟨p1, m1, e1⟩, ⟨p2, m2, e2⟩, ⟨p3, m3, e3⟩, p4, m4, e4⟩ := bx_ex ne
    exact bx_of (fun p hp => inB_mem ((h p).mp hp)) ⟨p1, (h p1).mpr m1, e1⟩ ⟨p2, (h p2).mpr m2, e2⟩ ⟨p3, (h p3).mpr m3, e3⟩ ⟨p4, (h p4).mpr m4, e4⟩
theorem boxF_same {l l' : List P} (h : ∀ p, p ∈ l ↔ p ∈ l') : boxF l = boxF l' := by
  by_cases ne : l = []
  · subst ne
    have : l' = [] := List.eq_nil_iff_forall_not_mem.mpr fun p hp => by have := (h p).mpr hp; simp at this
    rw [this]
  · have ne' : l' ≠ [] := by
      rintro rfl
      exact ne (List.eq_nil_iff_forall_not_mem.mpr fun p hp => by have := (h p).mp hp; simp at this)
    rw [boxF_some ne, boxF_some ne', bx_same h]
theorem bx_move {l : List P} (h : l ≠ []) (t : P) : bx (l.map fun p => pAdd p t) = (pAdd (bx l).1 t, pAdd (bx l).2 t) := by
  obtain ⟨⟨p1, m1, e1⟩, ⟨p2, m2, e2⟩, ⟨p3, m3, e3⟩, p4, m4, e4⟩ := bx_ex h
  refine bx_of ?_ ⟨_, List.mem_map.mpr ⟨p1, m1, rfl⟩, ?_⟩ ⟨_, List.mem_map.mpr ⟨p2, m2, rfl⟩, ?_⟩ ⟨_, List.mem_map.mpr ⟨p3, m3, rfl⟩, ?_⟩ ⟨_, List.mem_map.mpr ⟨p4, m4, rfl⟩, ?_⟩
  · intro q hq
    obtain ⟨p, hp, rfl⟩ := List.mem_map.mp hq
    obtain ⟨a, b, c, d⟩ := inB_mem hp
    refine ⟨?_, ?_, ?_, ?_⟩ <;> simp only [pAdd] <;> grind
  · simp only [pAdd]; grind
  · simp only [pAdd]; grind
  · simp only [pAdd]; grind
  · simp only [pAdd]; grind
theorem ptsL_map (m : Mp) (w : List Sk) : ptsL (mapF m w) = (ptsL w).map (ledF m) := by
  induction w with
  | nil => rfl
  | cons x w ih =>
    have e (x : Sk) (w : List Sk) : ptsL (x :: w) = x.pts ++ ptsL w := rfl
    rw [mapF, List.map_cons, e, e, List.map_append, mapS_pts]
    congr 1
/-- what is only moved -/
def mvM (t : P) : Mp := ⟨1, 0, 0, 1, t.1, t.2⟩
theorem led_mv (t p : P) : ledF (mvM t) p = pAdd p t := by
  refine Prod.ext ?_ ?_ <;> simp only [ledF, mvM, pAdd] <;> grind
theorem spread_mv (t : P) : spreadF (mvM t) = 1 := by simp only [spreadF, mvM]; grind
theorem enc_mvM (t : P) : dBin .Add (.tuple [.tuple [.int 1, .int 1], .tuple [.int 0, .int 1], .tuple [.int 0, .int 1], .tuple [.int 1, .int 1]]) (enc t) = .ok (enc (mvM t)) := by
  rw [enc_pair, b_addT, if_pos (by have := lim6; simp only [List.length_cons, List.length_nil]; omega)]; rfl
theorem mvM_g {k : Nat} {t : P} (h : GP 100 k t) (hk : 7 ≤ k) : GM 100 k (mvM t) := by
  have h1 : G 100 k 1 := by
    have : G 1 0 1 := G.int (N := 1) (k := 0) (by decide)
    exact (this.up (K := 100) (j := 7) (by decide)).mono (by omega)
  exact ⟨h1, g_zero _ _, g_zero _ _, h1, h.1, h.2⟩
end Rf
namespace Rf
open PySem Dp
open Enc (enc)
theorem lnsP_all (F : P → Prop) : ∀ (w : List Sk) (s : Ps), F s.pen → F s.beg → (∀ x ∈ w, ∀ p ∈ x.pts, F p) → (∀ c ∈ lnsP s w, ∀ p ∈ c, F p) ∧ F (runP s w).pen ∧ F (runP s w).beg
  | [], s, h1, h2, _ => ⟨by simp [lnsP], h1, h2⟩
  | x :: w, s, h1, h2, h => by
    have hx := h x (by simp)
    have s1 : F (stp s x).pen := by
      cases x <;> simp_all [stp, endOf, begOf, Sk.pts]
    have s2 : F (stp s x).beg := by
      cases x <;> simp_all [stp, endOf, begOf, Sk.pts]
    obtain ⟨k1, k2⟩ := lnsP_all F w (stp s x) s1 s2 fun y hy => h y (List.mem_cons_of_mem _ hy)
    refine ⟨?_, k2⟩
    intro c hc p hp
    rw [show lnsP s (x :: w) = lnsOf s x ++ lnsP (stp s x) w from rfl] at hc
    rcases List.mem_append.mp hc with hc | hc
    · obtain ⟨pen, beg, op⟩ := s
      cases x <;> cases op <;> simp_all [lnsOf, isMv, isSh, cloP, corP, Sk.pts] <;> grind
    · exact k1 c hc p hp
theorem lines_all (F : P → Prop) (h0 : F (0, 0)) {w : List Sk} (h : ∀ x ∈ w, ∀ p ∈ x.pts, F p) : ∀ c ∈ linesL w, ∀ p ∈ c, F p := by
  obtain ⟨k1, k2, k3⟩ := lnsP_all F w ps0 h0 h0 h
  intro c hc p hp
  rw [linesP] at hc
  rcases List.mem_append.mp hc with hc | hc
  · exact k1 c hc p hp
  · rw [cloP] at hc
    split at hc
    · simp at hc; subst hc; simp at hp; rcases hp with rfl | rfl <;> assumption
    · simp at hc
def farB : Box := ((-40500, -40500), (40500, 40500))
theorem sz_far {q : Rat} (h : Sz 100 4050000 q) : -40500 ≤ q ∧ q ≤ 40500 := by
  obtain ⟨k, e, hk⟩ := h
  have h1 : k ≤ 4050000 := by omega
  have h2 : -4050000 ≤ k := by omega
  have h3 : (k : Rat) ≤ ((4050000 : Int) : Rat) := Rat.intCast_le_intCast.mpr h1
  have h4 : ((-4050000 : Int) : Rat) ≤ (k : Rat) := Rat.intCast_le_intCast.mpr h2
  have e1 : ((4050000 : Int) : Rat) = 4050000 := rfl
  have e2 : ((-4050000 : Int) : Rat) = -4050000 := rfl
  have e3 : ((100 : Nat) : Rat) = 100 := rfl
  rw [e3] at e
  grind
theorem way_far {m : Nat} {w : List Sk} (h : Way m w) : ∀ x ∈ w, ∀ p ∈ x.pts, inB p farB := by
  intro x hx p hp
  obtain ⟨h1, h2⟩ := h.sz x hx p hp
  have a := sz_far h1
  have b := sz_far h2
  exact ⟨a.1, a.2, b.1, b.2⟩
theorem zero_far : inB (0, 0) farB := by
  refine ⟨?_, ?_, ?_, ?_⟩ <;> decide
theorem flat_far {m n : Nat} {w : List Sk} (h : Way m w) : ∀ c ∈ linesL (flatF w n), ∀ p ∈ c, inB p farB := by
  refine lines_all _ zero_far ?_
  intro x hx p hp
  refine pts_flat (m := n) w ps0 zero_far zero_far (way_far h) p ?_
  rw [← flatF_eq]
  exact pts_mem hx hp
theorem flatF_nocv (w : List Sk) (n : Nat) : ∀ y ∈ flatF w n, isCv y = false := by
  rw [flatF_eq]; exact flat_nocv w ps0
theorem flatF_hd {w : List Sk} (h : Hd w) (n : Nat) : Hd (flatF w n) := by
  rcases h with rfl | ⟨p, r, rfl⟩
  · exact .inl rfl
  · exact .inr ⟨p, _, flatF_mv p r n⟩
/-- numbers of a point with other dividers -/
theorem G.to {M k : Nat} {q : Rat} (h : G M k q) (K j : Nat) {N l : Nat} (hN : N = M * K) (hK : K ≤ 2 ^ j) (hl : k + j ≤ l) : G N l q := by
  subst hN
  exact (h.up hK).mono hl
theorem GP.to {M k : Nat} {q : P} (h : GP M k q) (K j : Nat) {N l : Nat} (hN : N = M * K) (hK : K ≤ 2 ^ j) (hl : k + j ≤ l) : GP N l q := ⟨h.1.to K j hN hK hl, h.2.to K j hN hK hl⟩
theorem GW.to {M k : Nat} {w : List Sk} (h : GW M k w) (K j : Nat) {N l : Nat} (hN : N = M * K) (hK : K ≤ 2 ^ j) (hl : k + j ≤ l) : GW N l w := fun s hs p hp => (h s hs p hp).to K j hN hK hl
theorem divInt_gz {z : Int} {l k : Nat} (hl : 0 < l) (hz : z.natAbs ≤ 2 ^ k) : G l k (Rat.divInt z l) := by
  refine ⟨z, ?_, hz⟩
  rw [Rat.divInt_eq_div]
  have : ((l : Int) : Rat) ≠ 0 := by
    have := (Rat.natCast_pos (a := l)).mpr hl
    exact Rat.ne_of_gt this
  show (z : Rat) / ((l : Int) : Rat) * ((l : Int) : Rat) = _
  exact Rat.div_mul_cancel this
theorem it_pair {α β : Type} [Enc α] [Enc β] (q : α × β) : itemsOf (enc q) = .ok [enc q.1, enc q.2] := by
  rw [enc_pair, it_tup, if_pos (by have := lim6; simp only [List.length_cons, List.length_nil]; omega)]
theorem rat_int (z : Int) : enc (z : Rat) = PyData.tuple [.int z, .int 1] := by rw [enc_rat]; simp
theorem GW.app {M k : Nat} {a b : List Sk} (h : GW M k a) (g : GW M k b) : GW M k (a ++ b) := by
  intro x hx
  rcases List.mem_append.mp hx with hx | hx
  · exact h x hx
  · exact g x hx
@[simp] theorem is_pair {α β : Type} [Enc α] [Enc β] {q : α × β} : dCmp .Is (enc q) .none = .ok (.bool false) := by rw [enc_pair]; rfl
@[simp] theorem isnot_pair {α β : Type} [Enc α] [Enc β] {q : α × β} : dCmp .IsNot (enc q) .none = .ok (.bool true) := by rw [enc_pair]; rfl
end Rf
namespace Rf
open PySem Dp
open Enc (enc)
def pensR (s : Ps) : List Sk → List P
  | [] => [s.pen]
  | x :: r => s.pen :: pensR (stp s x) r
theorem pensR_eq : ∀ (w : List Sk) (s : Ps), pensR s w = (List.range (w.length + 1)).map fun i => (runP s (w.take i)).pen
  | [], s => rfl
  | x :: w, s => by
    rw [pensR, pensR_eq w, List.length_cons]
    conv => rhs; rw [List.range_succ_eq_map, List.map_cons, List.map_map]
    rfl
theorem pensL_R (w : List Sk) : pensL w = pensR ps0 w := by
  rw [pensR_eq, pensL]
  refine List.map_congr_left fun i hi => ?_
  have := List.mem_range.mp hi
  rw [runP_take w i (by omega)]
def zpP (s : Ps) : List Sk → List (Sk × P)
  | [] => []
  | x :: r => (x, s.pen) :: zpP (stp s x) r
theorem zip_pens : ∀ (w : List Sk) (s : Ps), w.zip (pensR s w) = zpP s w
  | [], s => rfl
  | x :: w, s => by rw [pensR, List.zip_cons_cons, zip_pens w, zpP]
theorem zpP_app : ∀ (a b : List Sk) (s : Ps), zpP s (a ++ b) = zpP s a ++ zpP (runP s a) b
  | [], _, _ => rfl
  | x :: a, b, s => by
    show _ :: zpP (stp s x) (a ++ b) = _ :: (zpP (stp s x) a ++ _)
    rw [zpP_app a b]; rfl
def zb (p : P) : List Sk → List (Sk × P)
  | [] => []
  | x :: r => (x, p) :: zb (gl x) r
theorem zpP_body : ∀ (b : List Sk), (∀ x ∈ b, isBd x = true) → ∀ s : Ps, zpP s b = zb s.pen b
  | [], _, s => rfl
  | x :: b, h, s => by
    rw [zpP, zpP_body b (fun y hy => h y (List.mem_cons_of_mem _ hy)), stp_bd (h x (by simp)), zb]
theorem zb_len : ∀ (b : List Sk) (p : P), (zb p b).length = b.length
  | [], _ => rfl
  | x :: b, p => by rw [zb, List.length_cons, zb_len b, List.length_cons]
/-- a stroke from its goal to where the pen stood -/
def revS (x : Sk) (q : P) : Sk := match x with
  | .bw c _ => .bw c q
  | .wv c d _ => .wv d c q
  | _ => .ln q
def backB (p : P) (b : List Sk) : List Sk := (zb p b).reverse.map fun q => revS q.1 q.2
def backS (p : P) (b t : List Sk) : List Sk := if t = [] then .mv (endB p b) :: backB p b else .mv p :: .ln (endB p b) :: (backB p b ++ [.sh])
def headOf (l : List Sk) : P := match l with
  | .mv p :: _ => p
  | _ => (0, 0)
def bodyOf (l : List Sk) : List Sk := (l.drop 1).filter isBd
def tailOf (l : List Sk) : List Sk := (l.drop 1).filter isSh
theorem isSh_bd {x : Sk} (h : isSh x = true) : isBd x = false := by cases x <;> simp_all [isBd, isMv, isSh]
theorem Shp.of {l : List Sk} {p : P} {b t : List Sk} (h : Shp l p b t) : headOf l = p ∧ bodyOf l = b ∧ tailOf l = t := by
  obtain ⟨rfl, hb, ht⟩ := h
  refine ⟨rfl, ?_, ?_⟩
  · show (b ++ t).filter isBd = b
    rw [List.filter_append, List.filter_eq_self.mpr hb]
    rcases ht with rfl | rfl
    · simp
    · simp [isBd, isSh]
  · show (b ++ t).filter isSh = t
    rw [List.filter_append, List.filter_eq_nil_iff.mpr (fun x hx => by rw [isBd_sh (hb x hx)]; simp)]
    rcases ht with rfl | rfl <;> simp [isSh]
def backOf (l : List Sk) : List Sk := backS (headOf l) (bodyOf l) (tailOf l)
def backwardF (w : List Sk) : List Sk := (partsL w).reverse.flatMap backOf
theorem backOf_shp {l : List Sk} {p : P} {b t : List Sk} (h : Shp l p b t) : backOf l = backS p b t := by
  obtain ⟨h1, h2, h3⟩ := h.of
  rw [backOf, h1, h2, h3]
theorem backB_cons (p : P) (x : Sk) (b : List Sk) : backB p (x :: b) = backB (gl x) b ++ [revS x p] := by simp [backB, zb]
theorem revS_bd (x : Sk) (q : P) : isBd (revS x q) = true := by cases x <;> rfl
theorem backB_bd {p : P} {b : List Sk} : ∀ x ∈ backB p b, isBd x = true := by
  intro x hx
  obtain ⟨q, _, rfl⟩ := List.mem_map.mp hx
  exact revS_bd _ _
theorem backB_len (p : P) (b : List Sk) : (backB p b).length = b.length := by simp [backB, zb_len]
theorem back_shp {p : P} {b t : List Sk} (ht : t = [] ∨ t = [.sh]) : Shp (backS p b t) (if t = [] then endB p b else p) (if t = [] then backB p b else .ln (endB p b) :: backB p b) t := by
  rcases ht with rfl | rfl
  · exact ⟨by simp [backS], by simpa using backB_bd, .inl rfl⟩
  · refine ⟨by simp [backS], ?_, .inr rfl⟩
    intro x hx
    simp at hx
    rcases hx with rfl | hx
    · rfl
    · exact backB_bd x hx
theorem back_len {p : P} {b t : List Sk} (ht : t = [] ∨ t = [.sh]) : (backS p b t).length = 1 + b.length + 2 * t.length := by
  rcases ht with rfl | rfl <;> simp [backS, backB_len] <;> omega
theorem back_good {l : List Sk} (h : Good1 l) : Good1 (backOf l) := by
  obtain ⟨⟨p, b, t, hs⟩, hl⟩ := h
  rw [backOf_shp hs]
  refine ⟨⟨_, _, _, back_shp hs.tl⟩, ?_⟩
  rw [back_len hs.tl]
  rw [hs.e] at hl
  simp at hl
  rcases hs.tl with rfl | rfl <;> simp at hl ⊢ <;> omega
theorem gl_rev {x : Sk} (h : isBd x = true) (q : P) : gl (revS x q) = q := by cases x <;> rfl
theorem back_lines : ∀ (b : List Sk) (p : P), (∀ x ∈ b, isBd x = true) → lnB (endB p b) (backB p b) = ((lnB p b).map List.reverse).reverse ∧ endB (endB p b) (backB p b) = p
  | [], p, _ => ⟨rfl, rfl⟩
  | x :: b, p, h => by
    have hx := h x (by simp)
    obtain ⟨i1, i2⟩ := back_lines b (gl x) fun y hy => h y (List.mem_cons_of_mem _ hy)
    rw [backB_cons]
    show lnB (endB (gl x) b) _ = _ ∧ endB (endB (gl x) b) _ = _
    rw [lnB_app, endB_app, i1, i2]
    refine ⟨?_, ?_⟩
    · show _ = ((((p :: x.pts) :: lnB (gl x) b)).map List.reverse).reverse
      rw [List.map_cons, List.reverse_cons]
      congr 1
      cases x <;> simp_all [isBd, isMv, isSh, lnB, revS, Sk.pts, gl, endOf]
    · show endB (gl (revS x p)) [] = p
      rw [gl_rev hx]; rfl
theorem zb_app (a b : List Sk) : ∀ p, zb p (a ++ b) = zb p a ++ zb (endB p a) b := by
  induction a with
  | nil => intro p; rfl
  | cons x a ih => intro p; show _ :: zb (gl x) (a ++ b) = _ :: (zb (gl x) a ++ _); rw [ih]; rfl
theorem backB_app (a b : List Sk) (p : P) : backB p (a ++ b) = backB (endB p a) b ++ backB p a := by simp [backB, zb_app]
theorem back_back : ∀ (b : List Sk) (p : P), (∀ x ∈ b, isBd x = true) → backB (endB p b) (backB p b) = b
  | [], p, _ => rfl
  | x :: b, p, h => by
    have hx := h x (by simp)
    have hb := fun y hy => h y (List.mem_cons_of_mem _ hy)
    have ih := back_back b (gl x) hb
    have i2 := (back_lines b (gl x) hb).2
    rw [backB_cons]
    show backB (endB (gl x) b) _ = _
    rw [backB_app, i2, ih, backB_cons]
    show [revS (revS x p) (gl x)] ++ b = _
    cases x <;> simp_all [isBd, isMv, isSh, revS, gl, endOf]
theorem ix_E2 {α : Type} [Enc α] {xs : List α} {a : α} (h : 2 ≤ xs.length) (g : xs[xs.length - 2]? = some a) : dIdx (enc xs) (.int (-2)) = .ok (enc a) := by
  have e : L2.atI (xs.map enc) (-2) = some (enc a) := by
    unfold L2.atI L2.ixN
    simp only [List.length_map]
    rw [if_neg (by decide), if_pos (by omega)]
    have e2 : ((-2 : Int) + (xs.length : Int)).toNat = xs.length - 2 := by omega
    rw [e2]
    simp [g]
  rw [enc_list]
  simp only [dIdx, e]
theorem rev_B {α : Type} [Enc α] {xs : List α} : dRev (encL xs) = .ok (encL xs.reverse) := by
  rw [encL, encL, List.map_reverse]; rfl
theorem rev_E {α : Type} [Enc α] {xs : List α} : dRev (enc xs) = .ok (enc xs.reverse) := by
  rw [enc_list, enc_list, List.map_reverse]; rfl
theorem slcL_from {α : Type} [Enc α] {xs : List α} {k : Nat} : dSlc (encL xs) (some (k : Int)) none = .ok (encL (xs.drop k)) := by
  rw [encL, encL, slc_L, cut_from, List.map_drop]
theorem slcL_init {α : Type} [Enc α] {xs : List α} : dSlc (encL xs) none (some (-1)) = .ok (encL xs.dropLast) := by
  rw [encL, encL, slc_L, cut_init, List.map_dropLast]
theorem zipl_E {α β : Type} [Enc α] [Enc β] {xs : List α} {ys : List β} (h : xs.length ≤ LIM) (g : ys.length ≤ LIM) : dZipL (enc xs) (enc ys) = .ok (encL (xs.zip ys)) := by
  have e : pairs (xs.map enc) (ys.map enc) = (xs.zip ys).map enc := by rw [pairs_map]; rfl
  rw [enc_list, enc_list]
  show (if _ then _ else _) = _
  rw [if_pos (by simp only [List.length_map]; exact ⟨h, g⟩), e]; rfl
theorem sk_head {x : Sk} : dSlc (enc x) none (some 1) = .ok (.tuple [.str x.nam]) := by
  rw [enc_sk, slc_T]
  have := cut_to (xs := .str x.nam :: x.pts.map enc) (k := 1)
  simp only [Int.natCast_one] at this
  rw [this]; rfl
@[simp] theorem e_zipl {a b : IE} {ρ : Env} : evE (.zipl a b) ρ = (evE a ρ >>= fun x => evE b ρ >>= fun y => dZipL x y) := by simp only [evE]
@[simp] theorem rev_T {xs : List D} : dRev (.tuple xs) = .ok (.tuple xs.reverse) := Res.nrf rfl
theorem rev_stroke {x : Sk} {q : P} (h : isBd x = true) : ∃ ds : List D, dSlc (enc x) (some 1) (some (-1)) = .ok (.tuple ds) ∧ ds.length ≤ 2 ∧ PyData.tuple (.str x.nam :: (ds.reverse ++ [enc q])) = enc (revS x q) := by
  cases x with
  | ln p => exact ⟨[], rfl, by decide, rfl⟩
  | bw c p => exact ⟨[enc c], rfl, by simp, rfl⟩
  | wv c d p => exact ⟨[enc c, enc d], rfl, by simp, rfl⟩
  | _ => simp [isBd, isMv, isSh] at h
theorem backward_part_ok {l : List Sk} {p : P} {b t : List Sk} (h : Shp l p b t) (hl : 1 < l.length) (hn : l.length < 1000) : f_backward_part [enc l] = .ok (enc (backS p b t)) := by
  rw [f_backward_part, run1, b_backward_part]
  have l6 := lim6
  have hp := pens_ok (w := l) (by omega)
  have hpl := pens_len l
  have zl := zipl_E (xs := l) (ys := pensL l) (by omega) (by omega)
  have zd : (l.zip (pensL l)).drop 1 = zpP ⟨p, p, false⟩ (b ++ t) := by
    rw [pensL_R, zip_pens, h.e]; rfl
  have s1 : dSlc (encL (l.zip (pensL l))) (some 1) none = .ok (encL (zpP ⟨p, p, false⟩ (b ++ t))) := by
    have := slcL_from (xs := l.zip (pensL l)) (k := 1)
    rw [zd] at this
    exact this
  have hbl : b.length ≤ 1000 := by have := h.e; rw [this] at hn; simp at hn; omega
  have loop : ∀ (init : List Sk) (L : List (Sk × P)) (x0 x1 x2 x3 x4 : Cell), (∀ q ∈ L, isBd q.1 = true) → init.length + L.length ≤ 3000 → forGo (fE (.tu (.cons (.nm 6) (.cons (.nm 7) .nil))) (.cons (.set 5 (.bin .Add (.var 5) (.tup (.cons (.bin .Add (.bin .Add (.slc (.var 6) .none (.some (.int 1))) (.rev (.slc (.var 6) (.some (.int 1)) (.some (.neg (.int 1)))))) (.tup (.cons (.var 7) .nil))) .nil))))
 (.cons (.kil [6, 7])
 .nil))) (L.map enc) [x0, x1, x2, x3, x4, .im (enc init), .un, .un] = .nx [x0, x1, x2, x3, x4, .im (enc (init ++ L.map fun q => revS q.1 q.2)), .un, .un] := by
    intro init L
    induction L generalizing init with
    | nil => intro x0 x1 x2 x3 x4 _ _; simp [forGo]
    | cons q L ih =>
      intro x0 x1 x2 x3 x4 hb hL
      obtain ⟨ds, e1, e2, e3⟩ := rev_stroke (q := q.2) (hb q (by simp))
      have a1 : dBin .Add (enc init) (.tuple [enc (revS q.1 q.2)]) = .ok (enc (init ++ [revS q.1 q.2])) := b_addE (ys := [revS q.1 q.2]) (by simp at hL ⊢; omega)
      have l1 : ds.length + 1 ≤ LIM := by omega
      have l2 : ds.length + 1 + 1 ≤ LIM := by omega
      have l3 : 1 + ds.length ≤ LIM := by omega
      have st : fE (.tu (.cons (.nm 6) (.cons (.nm 7) .nil))) (.cons (.set 5 (.bin .Add (.var 5) (.tup (.cons (.bin .Add (.bin .Add (.slc (.var 6) .none (.some (.int 1))) (.rev (.slc (.var 6) (.some (.int 1)) (.some (.neg (.int 1)))))) (.tup (.cons (.var 7) .nil))) .nil))))
 (.cons (.kil [6, 7])
 .nil)) (enc q) [x0, x1, x2, x3, x4, .im (enc init), .un, .un] = .nx [x0, x1, x2, x3, x4, .im (enc (init ++ [revS q.1 q.2])), .un, .un] := by
        simp [fE, sk_head, e1, l1, l2, l3, e3, a1]
      rw [List.map_cons, forGo, st]
      simp only
      rw [ih _ _ _ _ _ _ (fun r hr => hb r (List.mem_cons_of_mem _ hr)) (by simp at hL ⊢; omega)]
      simp
  have rl := rev_B (α := Sk × P) (xs := zb p b)
  have hzl : (zb p b).length ≤ LIM := by rw [zb_len]; omega
  have zbd : ∀ q ∈ (zb p b).reverse, isBd q.1 = true := by
    have : ∀ (b : List Sk) (p : P), (∀ x ∈ b, isBd x = true) → ∀ q ∈ zb p b, isBd q.1 = true := by
      intro b
      induction b with
      | nil => intro p _ q hq; simp [zb] at hq
      | cons x b ih =>
        intro p h q hq
        rcases List.mem_cons.mp hq with rfl | hq
        · exact h x (by simp)
        · exact ih _ (fun y hy => h y (List.mem_cons_of_mem _ hy)) q hq
    intro q hq
    exact this b p h.bd q (by simpa using hq)
  have itl : itemsOf (encL (zb p b).reverse) = .ok ((zb p b).reverse.map enc) := it_L (by simpa using hzl)
  have eb : zpP ⟨p, p, false⟩ b = zb p b := zpP_body b h.bd _
  have rb := (lnsP_body b h.bd ⟨p, p, false⟩).2
  rcases h.tl with rfl | rfl
  · have hne : b ≠ [] := by
      rintro rfl
      rw [h.e] at hl; simp at hl
    have ge : l.getLast? = b.getLast? := by
      rw [h.e, List.append_nil]
      cases b with
      | nil => exact absurd rfl hne
      | cons x b => simp [List.getLast?_cons_cons]
    obtain ⟨x, hx⟩ : ∃ x, b.getLast? = some x := by
      cases hb : b.getLast? with
      | none => exact absurd (List.getLast?_eq_none_iff.mp hb) hne
      | some a => exact ⟨a, rfl⟩
    have hbx := h.bd x (List.mem_of_getLast? hx)
    have i1 : dIdx (enc l) (.int (-1)) = .ok (enc x) := ix_Elast (by rw [ge, hx])
    have i2 : dIdx (enc (pensL l)) (.int (-1)) = .ok (enc (endB p b)) := by
      refine ix_Elast ?_
      rw [pensL, List.range_succ, List.map_append, List.map_singleton, List.getLast?_concat, penP, h.e, List.append_nil]
      show some (runP ⟨p, p, false⟩ b).pen = _
      rw [rb]
    rw [List.append_nil, eb] at s1
    have lp := loop [.mv (endB p b)] (zb p b).reverse (.im (enc l)) (.im (enc (pensL l))) (.im (.bool false)) (.im (encL (zb p b))) (.im (enc (endB p b))) zbd (by simp [zb_len]; omega)
    have fin' : [Sk.mv (endB p b)] ++ ((zb p b).reverse.map fun q => revS q.1 q.2) = backS p b [] := by simp [backS, backB]
    rw [fin', List.map_reverse] at lp
    simp [hp, i1, i2, zl, s1, g_SHUT, isBd_sh hbx, g_MOVE, enc_mvR, mk_one, rl, itl, lp]
  · have i1 : dIdx (enc l) (.int (-1)) = .ok (enc Sk.sh) := ix_Elast (by rw [h.e]; simp [List.getLast?_cons])
    have i2 : dIdx (enc (pensL l)) (.int (-1)) = .ok (enc p) := by
      refine ix_Elast ?_
      rw [pensL, List.range_succ, List.map_append, List.map_singleton, List.getLast?_concat, penP, h.e]
      show some (runP ⟨p, p, false⟩ (b ++ [.sh])).pen = _
      rw [runP_app, rb]; rfl
    have hle : l.length = b.length + 2 := by rw [h.e]; simp
    have i3 : dIdx (enc (pensL l)) (.int (-2)) = .ok (enc (endB p b)) := by
      refine ix_E2 (by omega) ?_
      have e3 : (pensL l).length - 2 = b.length + 1 := by omega
      rw [e3, pens_get (by omega)]
      have := runP_take l (b.length + 1) (by omega)
      have e4 : l.take (b.length + 1) = .mv p :: b := by rw [h.e]; simp
      rw [e4] at this
      have e5 : (runP ps0 (.mv p :: b)).pen = endB p b := by
        show (runP ⟨p, p, false⟩ b).pen = _
        rw [rb]
      rw [this] at e5
      exact congrArg some e5
    have ez : zpP ⟨p, p, false⟩ (b ++ [.sh]) = zb p b ++ [(Sk.sh, endB p b)] := by rw [zpP_app, eb, rb]; rfl
    rw [ez] at s1
    have s2 : dSlc (encL (zb p b ++ [(Sk.sh, endB p b)])) none (some (-1)) = .ok (encL (zb p b)) := by rw [slcL_init]; simp
    have lp := loop [.mv p, .ln (endB p b)] (zb p b).reverse (.im (enc l)) (.im (enc (pensL l))) (.im (.bool true)) (.im (encL (zb p b))) (.im (enc p)) zbd (by simp [zb_len]; omega)
    rw [show ((zb p b).reverse.map fun q => revS q.1 q.2) = backB p b from rfl, List.map_reverse] at lp
    have a0 : dBin .Add (enc [Sk.mv p]) (.tuple [.tuple [.str "line", enc (endB p b)]]) = .ok (enc [Sk.mv p, .ln (endB p b)]) := b_addE (ys := [Sk.ln (endB p b)]) (by simp)
    have bl := backB_len p b
    have a1 : dBin .Add (enc (Sk.mv p :: .ln (endB p b) :: backB p b)) (.tuple [.tuple [.str "shut"]]) = .ok (enc (backS p b [.sh])) := by
      have := b_addE (xs := [Sk.mv p, .ln (endB p b)] ++ backB p b) (ys := [Sk.sh]) (by simp [bl]; omega)
      have e : [Sk.mv p, .ln (endB p b)] ++ backB p b ++ [.sh] = backS p b [.sh] := by simp [backS]
      rw [e] at this
      exact this
    simp only [Nat.reduceSub, List.replicate] at *
    simp [hp, i1, i2, i3, zl, s1, s2, g_SHUT, g_LINE, isSh, g_MOVE, enc_mvR, mk_one, rl, itl, a0, -b_addT]
    rw [lp]
    simp [a1, -b_addT]
end Rf
namespace Rf
open PySem Dp
open Enc (enc)
def sumN : List Nat → Nat
  | [] => 0
  | x :: r => x + sumN r
theorem sumN_app : ∀ a b : List Nat, sumN (a ++ b) = sumN a + sumN b
  | [], b => by simp [sumN]
  | x :: a, b => by simp only [List.cons_append, sumN, sumN_app a b]; omega
theorem sumN_rev : ∀ a : List Nat, sumN a.reverse = sumN a
  | [] => rfl
  | x :: a => by rw [List.reverse_cons, sumN_app, sumN_rev a]; simp only [sumN]; omega
theorem prt_sum : ∀ (w cur : List Sk) (q : P), sumN ((prt cur q w).map fun l => l.length - 1) ≤ (cur.length - 1) + w.length
  | [], cur, q => by simp [prt, sumN]
  | x :: w, cur, q => by
    rw [prt_cons]
    have ho : (orMv cur q ++ [x]).length - 1 ≤ cur.length - 1 + 1 := by
      rcases cur with _ | ⟨c, cs⟩ <;> simp [orMv]
    split
    · have := prt_sum w [x] (begOf x q)
      simp only [List.map_cons, sumN, List.length_cons, List.length_nil] at this ⊢
      omega
    · split
      · have := prt_sum w [] q
        simp only [List.map_cons, sumN, List.length_cons, List.length_nil] at this ⊢
        omega
      · have := prt_sum w (orMv cur q ++ [x]) q
        simp only [List.length_cons] at this ⊢
        omega
theorem sumN_filter (f : List Sk → Nat) (p : List Sk → Bool) : ∀ l : List (List Sk), sumN ((l.filter p).map f) ≤ sumN (l.map f)
  | [] => by simp
  | a :: l => by
    have := sumN_filter f p l
    rw [List.filter_cons]
    split
    · simp only [List.map_cons, sumN]; omega
    · simp only [List.map_cons, sumN]; omega
theorem parts_sum (w : List Sk) : sumN ((partsL w).map fun l => l.length - 1) ≤ w.length := by
  rw [partsL_prt]
  refine Nat.le_trans (sumN_filter _ _ _) ?_
  have := prt_sum w [] (0, 0)
  simpa using this
theorem back_len3 {l : List Sk} (h : Good1 l) : (backOf l).length ≤ 3 * (l.length - 1) := by
  obtain ⟨⟨p, b, t, hs⟩, hl⟩ := h
  rw [backOf_shp hs, back_len hs.tl]
  rw [hs.e] at hl ⊢
  rcases hs.tl with rfl | rfl <;> simp at hl ⊢ <;> omega
theorem len_flatMap (f : List Sk → List Sk) : ∀ l : List (List Sk), (l.flatMap f).length = sumN (l.map fun a => (f a).length)
  | [] => rfl
  | a :: l => by rw [List.flatMap_cons, List.length_append, len_flatMap f l]; rfl
theorem sumN_le {f g : List Sk → Nat} : ∀ {l : List (List Sk)}, (∀ a ∈ l, f a ≤ g a) → sumN (l.map f) ≤ sumN (l.map g)
  | [], _ => Nat.le_refl _
  | a :: l, h => by
    have h1 := h a (by simp)
    have h2 := sumN_le fun b hb => h b (List.mem_cons_of_mem a hb)
    simp only [List.map_cons, sumN]; omega
theorem sumN_mul (k : Nat) (f : List Sk → Nat) : ∀ l : List (List Sk), sumN (l.map fun a => k * f a) = k * sumN (l.map f)
  | [] => rfl
  | a :: l => by simp only [List.map_cons, sumN, sumN_mul k f l, Nat.mul_add]
theorem backward_len (w : List Sk) : (backwardF w).length ≤ 3 * w.length := by
  rw [backwardF, len_flatMap, List.map_reverse, sumN_rev]
  refine Nat.le_trans (sumN_le (g := fun l => 3 * (l.length - 1)) fun l hl => back_len3 (parts_good w l hl)) ?_
  rw [sumN_mul]
  exact Nat.mul_le_mul_left 3 (parts_sum w)
theorem backward_ok {w : List Sk} (hl : w.length < 990) : f_backward [enc w] = .ok (enc (backwardF w)) := by
  rw [f_backward, run1, b_backward]
  have l6 := lim6
  have hpl := partsL_len w
  have key : ∀ (L : List (List Sk)) (init : List Sk) (x2 : Cell), (∀ l ∈ L, Good1 l ∧ l.length < 1000) → init.length + (L.flatMap backOf).length ≤ 3000 → forGo (fE (.nm 2) (.cons (.set 1 (.bin .Add (.var 1) (.call "backward_part" f_backward_part (.cons (.var 2) .nil))))
 (.cons (.kil [2])
 .nil))) (L.map enc) [.im (enc w), .im (enc init), .un] = .nx [.im (enc w), .im (enc (init ++ L.flatMap backOf)), .un] := by
    intro L
    induction L with
    | nil => intro init x2 _ _; simp [forGo]
    | cons l L ih =>
      intro init x2 h hL
      obtain ⟨⟨⟨p, b, t, hs⟩, h1⟩, h2⟩ := h l (by simp)
      have e := backward_part_ok hs h1 h2
      rw [← backOf_shp hs] at e
      rw [List.flatMap_cons, List.length_append] at hL
      have a1 : dBin .Add (enc init) (enc (backOf l)) = .ok (enc (init ++ backOf l)) := b_addE (by omega)
      have st : fE (.nm 2) (.cons (.set 1 (.bin .Add (.var 1) (.call "backward_part" f_backward_part (.cons (.var 2) .nil))))
 (.cons (.kil [2])
 .nil)) (enc l) [.im (enc w), .im (enc init), .un] = .nx [.im (enc w), .im (enc (init ++ backOf l)), .un] := by
        simp [fE, e, a1]
      rw [List.map_cons, forGo, st]
      simp only
      rw [ih (init ++ backOf l) .un (fun m hm => h m (List.mem_cons_of_mem _ hm)) (by rw [List.length_append]; omega)]
      simp
  have hb := backward_len w
  have k := key (partsL w).reverse [] .un (fun l hl' => by
    have hl' : l ∈ partsL w := by simpa using hl'
    refine ⟨parts_good w l hl', ?_⟩
    have := parts_sum w
    have h2 : l.length - 1 ≤ sumN ((partsL w).map fun l => l.length - 1) := by
      have : ∀ (L : List (List Sk)), l ∈ L → l.length - 1 ≤ sumN (L.map fun l => l.length - 1) := by
        intro L
        induction L with
        | nil => intro h; simp at h
        | cons a L ih =>
          intro h
          rcases List.mem_cons.mp h with rfl | h
          · simp only [List.map_cons, sumN]; omega
          · have := ih h; simp only [List.map_cons, sumN]; omega
      exact this _ hl'
    omega) (by
    show 0 + (backwardF w).length ≤ 3000
    omega)
  rw [List.nil_append] at k
  have k : forGo _ _ _ = Out.nx [.im (enc w), .im (enc (backwardF w)), .un] := k
  have lr : (partsL w).reverse.length ≤ LIM := by simp; omega
  rw [List.map_reverse] at k
  simp [parts_ok (show w.length < 1000 by omega), rev_E, it_E lr, enc_nil (α := Sk), k]
theorem flatMap_flatten {α : Type} (f : List Sk → List α) (L : List (List Sk)) : L.flatMap f = (L.map f).flatten := by rw [List.flatMap_def]
theorem back_goods (w : List Sk) : ∀ l ∈ (partsL w).reverse.map backOf, Good1 l := by
  intro l hl
  obtain ⟨m, hm, rfl⟩ := List.mem_map.mp hl
  exact back_good (parts_good w m (by simpa using hm))
theorem parts_backward (w : List Sk) : partsL (backwardF w) = (partsL w).reverse.map backOf := by
  rw [backwardF, flatMap_flatten, partsL_flatten (back_goods w)]
theorem lines_backward (w : List Sk) : linesL (backwardF w) = (partsL w).reverse.flatMap fun l => closedL (backOf l) := by
  rw [linesL_flat, parts_backward, List.flatMap_map]
theorem backward_hd (w : List Sk) : Hd (backwardF w) := by
  rw [backwardF]
  cases h : (partsL w).reverse with
  | nil => exact .inl rfl
  | cons l L =>
    have hl : l ∈ partsL w := by
      have : l ∈ (partsL w).reverse := by rw [h]; simp
      simpa using this
    obtain ⟨⟨p, b, t, hs⟩, _⟩ := back_good (parts_good w l hl)
    rw [List.flatMap_cons, hs.e]
    exact .inr ⟨p, _, rfl⟩
/-- a part's lines drawn backwards -/
theorem closed_back {l : List Sk} (h : Good1 l) : ∃ (L : List (List P)) (p e : P) (d d' : List (List P)), closedL l = L ++ [e, p] :: d ∧ (closedL (backOf l) = (L.map List.reverse).reverse ++ [p, e] :: d' ∨ closedL (backOf l) = [p, e] :: ((L.map List.reverse).reverse ++ d')) ∧ (∀ x ∈ d, x = [p, p]) ∧ (∀ x ∈ d', x = [p, p]) := by
  have hb := back_good h
  obtain ⟨⟨p, b, t, hs⟩, hl⟩ := h
  rw [backOf_shp hs] at hb ⊢
  obtain ⟨i1, i2⟩ := back_lines b p hs.bd
  have sh := back_shp (p := p) (b := b) hs.tl
  rcases hs.tl with rfl | rfl
  · refine ⟨lnB p b, p, endB p b, [], [], closed_open hs hl, .inl ?_, by simp, by simp⟩
    rw [closed_open (by simpa using sh) hb.2, i1, i2]
  · refine ⟨lnB p b, p, endB p b, [[p, p]], [[p, p], [p, p]], closed_shut hs, .inr ?_, by simp, by simp⟩
    rw [closed_shut (by simpa using sh)]
    show lnB p (.ln (endB p b) :: backB p b) ++ [[endB p (.ln (endB p b) :: backB p b), p], [p, p]] = _
    show ([p, endB p b] :: lnB (endB p b) (backB p b)) ++ [[endB (endB p b) (backB p b), p], [p, p]] = _
    rw [i1, i2]; rfl
theorem swept_rev {c : List P} (h2 : 2 ≤ c.length) (h4 : c.length ≤ 4) : sweptF c.reverse = -sweptF c := by
  rcases c with _ | ⟨p, _ | ⟨q, _ | ⟨r, _ | ⟨s, _ | ⟨x, t⟩⟩⟩⟩⟩
  · simp at h2
  · simp at h2
  · show sweptF [q, p] = _; simp only [sweptF, crossF]; grind
  · show sweptF [r, q, p] = _; simp only [sweptF, crossF]; grind
  · show sweptF [s, r, q, p] = _; simp only [sweptF, crossF]; grind
  · simp at h4
theorem sumR_rev (l : List Rat) : sumR l.reverse = sumR l := by
  induction l with
  | nil => rfl
  | cons a l ih => rw [List.reverse_cons, sumR_app, ih]; simp only [sumR]; grind
theorem closed_in {w l : List Sk} (h : l ∈ partsL w) : ∀ c ∈ closedL l, c ∈ linesL w := fun c hc => List.mem_flatMap.mpr ⟨l, h, hc⟩
theorem area_back_part {l : List Sk} (h : Good1 l) : sumR ((closedL (backOf l)).map sweptF) = -sumR ((closedL l).map sweptF) := by
  have hlen := lines_len (w := l)
  rw [linesL_one h] at hlen
  obtain ⟨L, p, e, d, d', h1, h2, h3, h4⟩ := closed_back h
  have z : ∀ d : List (List P), (∀ x ∈ d, x = [p, p]) → sumR (d.map sweptF) = 0 := fun d hd => sumR_zero _ _ fun x hx => by rw [hd x hx, swept_pp]
  have er : sumR (((L.map List.reverse).reverse).map sweptF) = -sumR (L.map sweptF) := by
    rw [List.map_reverse, sumR_rev, List.map_map, sumR_congr (g := fun c => -1 * sweptF c), sumR_mul]
    · grind
    · intro c hc
      have := hlen c (by rw [h1]; exact List.mem_append_left _ hc)
      show sweptF c.reverse = _
      rw [swept_rev this.1 this.2]; grind
  have ee : sweptF [p, e] = -sweptF [e, p] := swept_rev (c := [e, p]) (by simp) (by simp)
  rw [h1, List.map_append, sumR_app, List.map_cons]
  rcases h2 with h2 | h2
  · rw [h2, List.map_append, sumR_app, List.map_cons, er]
    simp only [sumR, z d h3, z d' h4, ee]; grind
  · rw [h2, List.map_cons, List.map_append]
    simp only [sumR, sumR_app, z d h3, z d' h4, ee, er]; grind
theorem area_backward (w : List Sk) : areaF (backwardF w) = -areaF w := by
  rw [areaF_eq, areaF_eq, lines_backward, linesL_flat, sumR_flatMap, sumR_flatMap, List.map_reverse, sumR_rev]
  rw [sumR_congr (g := fun l => -1 * sumR ((closedL l).map sweptF)) fun l hl => by rw [area_back_part (parts_good w l hl)]; grind]
  rw [sumR_mul]; grind
theorem wU_rev (a c m : Rat) : wU c a (-m) = -wU a c m := by
  unfold wU
  rcases tri m with g | g | g <;> rcases tri a with ga | ga | ga <;> rcases tri c with gc | gc | gc <;> grind
theorem pass_rev (o p q : P) : passF o q p = -passF o p q := by
  rw [passF_eq, passF_eq, ← wU_rev]
  congr 1
  simp only [crossF]; grind
theorem on_rev (o p q : P) : onF o q p = onF o p q := by
  rw [Bool.eq_iff_iff, onF_iff, onF_iff]
  constructor <;> rintro ⟨a, b, c⟩ <;> exact ⟨by grind, by grind, by grind⟩
theorem sumZ_rev (l : List Int) : sumZ l.reverse = sumZ l := by
  induction l with
  | nil => rfl
  | cons a l ih => rw [List.reverse_cons, sumZ_app, ih]; simp only [sumZ]; omega
theorem sumZ_neg {α : Type} (f : α → Int) : ∀ l : List α, sumZ (l.map fun a => -f a) = -sumZ (l.map f)
  | [] => rfl
  | a :: l => by simp only [List.map_cons, sumZ, sumZ_neg f l]; omega
theorem on_pp' {o p e : P} (h : onF o p p = true) : onF o e p = true := by
  cases h2 : onF o p e with
  | true => rw [on_rev]; exact h2
  | false =>
    rw [onF_iff] at h
    obtain ⟨_, a, b⟩ := h
    have k (x : Rat) (h : x * x ≤ 0) : x = 0 := by
      rcases tri x with g | g | g
      · have := (sgm x x).2.2.2.1 g g; grind
      · exact g
      · have := (sgm x x).1 g g; grind
    rw [onF_iff]
    exact ⟨by rw [k _ a, k _ b]; grind, by rw [k _ a]; grind, by rw [k _ b]; grind⟩
theorem rounds_back_part {l : List Sk} (h : Good1 l) (h2 : ∀ c ∈ closedL l, ∃ u v, c = [u, v]) (o : P) : (closedL (backOf l)).any (onL o) = (closedL l).any (onL o) ∧ sumZ ((closedL (backOf l)).map (passL o)) = -sumZ ((closedL l).map (passL o)) := by
  obtain ⟨L, p, e, d, d', h1, hb, h3, h4⟩ := closed_back h
  have hL : ∀ c ∈ L, ∃ u v, c = [u, v] := fun c hc => h2 c (by rw [h1]; exact List.mem_append_left _ hc)
  have er : ∀ c ∈ L, onL o c.reverse = onL o c ∧ passL o c.reverse = -passL o c := by
    intro c hc
    obtain ⟨u, v, rfl⟩ := hL c hc
    exact ⟨on_rev o u v, pass_rev o u v⟩
  have z : ∀ d : List (List P), (∀ x ∈ d, x = [p, p]) → sumZ (d.map (passL o)) = 0 := fun d hd => sumZ_zero _ _ fun x hx => by
    rw [hd x hx]
    show passF o p p = 0
    unfold passF
    rw [if_neg (by grind), if_neg (by grind)]
  have dn : ∀ d : List (List P), (∀ x ∈ d, x = [p, p]) → d.any (onL o) = true → onL o [e, p] = true := by
    intro d hd hx
    obtain ⟨x, hx, k⟩ := List.any_eq_true.mp hx
    rw [hd x hx] at k
    exact on_pp' k
  have ea : ((L.map List.reverse).reverse).any (onL o) = L.any (onL o) := by
    rw [List.any_reverse, Bool.eq_iff_iff, List.any_eq_true, List.any_eq_true]
    constructor
    · rintro ⟨x, hx, k⟩
      obtain ⟨c, hc, rfl⟩ := List.mem_map.mp hx
      exact ⟨c, hc, by rw [← (er c hc).1]; exact k⟩
    · rintro ⟨c, hc, k⟩
      exact ⟨_, List.mem_map.mpr ⟨c, hc, rfl⟩, by rw [(er c hc).1]; exact k⟩
  have es : sumZ (((L.map List.reverse).reverse).map (passL o)) = -sumZ (L.map (passL o)) := by
    rw [List.map_reverse, sumZ_rev, List.map_map, ← sumZ_neg]
    exact sumZ_congr fun c hc => (er c hc).2
  have op : onL o [p, e] = onL o [e, p] := on_rev o e p
  have pp : passL o [p, e] = -passL o [e, p] := pass_rev o e p
  have absorb : ∀ (A D : Bool), (D = true → onL o [e, p] = true) → (A || (onL o [e, p] || D)) = (A || onL o [e, p]) := by
    intro A D hD
    cases A <;> cases hx : onL o [e, p] <;> cases D <;> simp_all
  refine ⟨?_, ?_⟩
  · rw [h1, List.any_append, List.any_cons, absorb _ _ (dn d h3)]
    rcases hb with hb | hb
    · rw [hb, List.any_append, List.any_cons, ea, op, absorb _ _ (dn d' h4)]
    · rw [hb, List.any_cons, List.any_append, ea, op]
      have := absorb (L.any (onL o)) _ (dn d' h4)
      cases hx : L.any (onL o) <;> cases hy : onL o [e, p] <;> cases hz : d'.any (onL o) <;> simp_all
  · rw [h1, List.map_append, sumZ_app, List.map_cons]
    rcases hb with hb | hb
    · rw [hb, List.map_append, sumZ_app, List.map_cons, es]
      simp only [sumZ, z d h3, z d' h4, pp]; omega
    · rw [hb, List.map_cons, List.map_append]
      simp only [sumZ, sumZ_app, z d h3, z d' h4, pp, es]; omega
theorem rounds_backward {w : List Sk} (h2 : Two w) (o : P) : roundsF (backwardF w) o = (roundsF w o).map fun n => -n := by
  have hp : ∀ l ∈ partsL w, (closedL (backOf l)).any (onL o) = (closedL l).any (onL o) ∧ sumZ ((closedL (backOf l)).map (passL o)) = -sumZ ((closedL l).map (passL o)) :=
    fun l hl => rounds_back_part (parts_good w l hl) (fun c hc => h2 c (closed_in hl c hc)) o
  have ea : (linesL (backwardF w)).any (onL o) = (linesL w).any (onL o) := by
    rw [lines_backward, linesL_flat, any_flatMap', any_flatMap', List.any_reverse, Bool.eq_iff_iff, List.any_eq_true, List.any_eq_true]
    exact ⟨fun ⟨l, hl, k⟩ => ⟨l, hl, by rw [← (hp l hl).1]; exact k⟩, fun ⟨l, hl, k⟩ => ⟨l, hl, by rw [(hp l hl).1]; exact k⟩⟩
  have es : sumZ ((linesL (backwardF w)).map (passL o)) = -sumZ ((linesL w).map (passL o)) := by
    rw [lines_backward, linesL_flat, sumZ_flatMap, sumZ_flatMap, List.map_reverse, sumZ_rev, ← sumZ_neg]
    exact sumZ_congr fun l hl => (hp l hl).2
  rw [roundsF, roundsF, roundsOf, roundsOf, ea, es]
  split <;> rfl
theorem mem_ptsL {w : List Sk} {q : P} : q ∈ ptsL w ↔ ∃ x ∈ w, q ∈ x.pts := List.mem_flatMap
theorem pts_backB : ∀ (b : List Sk) (p q : P), (∀ x ∈ b, isBd x = true) → ((q ∈ ptsL (backB p b) ∨ q = endB p b) ↔ (q = p ∨ q ∈ ptsL b))
  | [], p, q, _ => by simp [backB, zb, ptsL, endB]
  | x :: b, p, q, h => by
    have hx := h x (by simp)
    have ih := pts_backB b (gl x) q fun y hy => h y (List.mem_cons_of_mem _ hy)
    rw [backB_cons, ptsL_app]
    have e1 : ptsL (x :: b) = x.pts ++ ptsL b := rfl
    have e2 : ptsL [revS x p] = (revS x p).pts := by simp [ptsL]
    have e3 : endB p (x :: b) = endB (gl x) b := rfl
    rw [e1, e2, e3, List.mem_append, List.mem_append]
    have k : (q ∈ (revS x p).pts ∨ q = gl x) ↔ (q = p ∨ q ∈ x.pts) := by
      cases x <;> simp_all [isBd, isMv, isSh, revS, Sk.pts, gl, endOf] <;> grind
    grind
theorem pts_back {l : List Sk} (h : Good1 l) (q : P) : q ∈ ptsL (backOf l) ↔ q ∈ ptsL l := by
  obtain ⟨⟨p, b, t, hs⟩, hl⟩ := h
  rw [backOf_shp hs]
  have k := pts_backB b p q hs.bd
  rcases hs.tl with rfl | rfl
  · rw [hs.e, backS, if_pos rfl, List.append_nil, ptsL_mv, ptsL_mv, List.mem_cons, List.mem_cons]
    grind
  · have e1 : ptsL [Sk.sh] = [] := rfl
    have e2 (a : P) (w : List Sk) : ptsL (.ln a :: w) = a :: ptsL w := rfl
    rw [hs.e, backS, if_neg (by simp), ptsL_mv, ptsL_mv, ptsL_app, e1, List.append_nil, e2, ptsL_app, e1, List.append_nil, List.mem_cons, List.mem_cons, List.mem_cons]
    grind
theorem pts_backward (w : List Sk) (q : P) : q ∈ ptsL (backwardF w) ↔ q ∈ ptsL (partsL w).flatten := by
  rw [mem_ptsL, mem_ptsL]
  constructor
  · rintro ⟨x, hx, hq⟩
    obtain ⟨l, hl, hx⟩ := List.mem_flatMap.mp hx
    have hl : l ∈ partsL w := by simpa using hl
    obtain ⟨y, hy, hq⟩ := mem_ptsL.mp ((pts_back (parts_good w l hl) q).mp (mem_ptsL.mpr ⟨x, hx, hq⟩))
    exact ⟨y, List.mem_flatten.mpr ⟨l, hl, hy⟩, hq⟩
  · rintro ⟨x, hx, hq⟩
    obtain ⟨l, hl, hx⟩ := List.mem_flatten.mp hx
    obtain ⟨y, hy, hq⟩ := mem_ptsL.mp ((pts_back (parts_good w l hl) q).mpr (mem_ptsL.mpr ⟨x, hx, hq⟩))
    exact ⟨y, List.mem_flatMap.mpr ⟨l, by simpa using hl, hy⟩, hq⟩
theorem GW.parts {M k : Nat} {w : List Sk} (h : GW M k w) : ∀ l ∈ partsL w, GW M k l := fun l hl => (partsL_ok h l hl).1.sz
theorem GW.backward {M k : Nat} {w : List Sk} (h : GW M k w) : GW M k (backwardF w) := by
  intro x hx p hp
  obtain ⟨y, hy, hq⟩ := mem_ptsL.mp ((pts_backward w p).mp (mem_ptsL.mpr ⟨x, hx, hp⟩))
  obtain ⟨l, hl, hy⟩ := List.mem_flatten.mp hy
  exact h.parts l hl y hy p hq
theorem backB_nocv {p : P} {b : List Sk} (h : ∀ x ∈ b, isCv x = false) : ∀ x ∈ backB p b, isCv x = false := by
  induction b generalizing p with
  | nil => intro x hx; simp [backB, zb] at hx
  | cons y b ih =>
    intro x hx
    rw [backB_cons] at hx
    rcases List.mem_append.mp hx with hx | hx
    · exact ih (fun z hz => h z (List.mem_cons_of_mem _ hz)) x hx
    · simp at hx; subst hx
      have := h y (by simp)
      cases y <;> simp_all [revS, isCv, isBw, isWv]
theorem backward_nocv {w : List Sk} (h : ∀ x ∈ w, isCv x = false) : ∀ x ∈ backwardF w, isCv x = false := by
  intro x hx
  obtain ⟨l, hl, hx⟩ := List.mem_flatMap.mp hx
  have hl : l ∈ partsL w := by simpa using hl
  obtain ⟨⟨p, b, t, hs⟩, _⟩ := parts_good w l hl
  have hb : ∀ x ∈ b, isCv x = false := by
    intro y hy
    rcases parts_mem hl (show y ∈ l by rw [hs.e]; simp [hy]) with k | k
    · exact h y k
    · exact isCv_mv k
  rw [backOf_shp hs] at hx
  rcases hs.tl with rfl | rfl
  · simp [backS] at hx
    rcases hx with rfl | hx
    · rfl
    · exact backB_nocv hb x hx
  · simp [backS] at hx
    rcases hx with rfl | rfl | hx | rfl
    · rfl
    · rfl
    · exact backB_nocv hb x hx
    · rfl
end Rf
namespace Rf
open PySem Dp
open Enc (enc)
def dlP (s : Ps) : List Sk → List (List P)
  | [] => []
  | x :: r => corP s x :: dlP (stp s x) r
theorem dlP_app : ∀ (a b : List Sk) (s : Ps), dlP s (a ++ b) = dlP s a ++ dlP (runP s a) b
  | [], _, _ => rfl
  | x :: a, b, s => by
    show _ :: dlP (stp s x) (a ++ b) = _ :: (dlP (stp s x) a ++ _)
    rw [dlP_app a b]; rfl
def dl (w : List Sk) : List (List P) := dlP ps0 w
/-- q lies on one of these strokes -/
def OnS (L : List (List P)) (q : P) : Prop := ∃ c ∈ L, ∃ t : Rat, 0 ≤ t ∧ t ≤ 1 ∧ q = cas c t
abbrev Dr (w : List Sk) (q : P) : Prop := OnS (dl w) q
theorem OnS.app {a b : List (List P)} {q : P} : OnS (a ++ b) q ↔ OnS a q ∨ OnS b q := by
  constructor
  · rintro ⟨c, hc, h⟩
    rcases List.mem_append.mp hc with hc | hc
    · exact .inl ⟨c, hc, h⟩
    · exact .inr ⟨c, hc, h⟩
  · rintro (⟨c, hc, h⟩ | ⟨c, hc, h⟩)
    · exact ⟨c, List.mem_append_left _ hc, h⟩
    · exact ⟨c, List.mem_append_right _ hc, h⟩
theorem dl_mv (p : P) (r : List Sk) : dl (.mv p :: r) = [p] :: dlP ⟨p, p, false⟩ r := rfl
theorem dl_app {a b : List Sk} (h : Hd b) : dl (a ++ b) = dl a ++ dl b := by
  rw [dl, dlP_app]
  rcases h with rfl | ⟨p, r, rfl⟩
  · simp [dl, dlP]
  · rfl
theorem cas_last {s : Ps} {x : Sk} (h : isSh x = false) : cas (corP s x) 1 = gl x := by
  cases x with
  | sh => simp [isSh] at h
  | mv p => rfl
  | ln p => refine Prod.ext ?_ ?_ <;> simp only [corP, Sk.pts, cas, lerp, pAdd, pMul, pSub, gl, endOf] <;> grind
  | bw c p => refine Prod.ext ?_ ?_ <;> simp only [corP, Sk.pts, cas, lerp, pAdd, pMul, pSub, gl, endOf] <;> grind
  | wv c d p => refine Prod.ext ?_ ?_ <;> simp only [corP, Sk.pts, cas, lerp, pAdd, pMul, pSub, gl, endOf] <;> grind
theorem tight_on : ∀ (w : List Sk) (s : Ps), ∀ q ∈ tightP s w, OnS (dlP s w) q
  | [], s, q, hq => by simp [tightP] at hq
  | x :: w, s, q, hq => by
    rw [show tightP s (x :: w) = tightX s x ++ tightP (stp s x) w from rfl] at hq
    rcases List.mem_append.mp hq with hq | hq
    · have lst (h : isSh x = false) (e : q = gl x) : OnS (dlP s (x :: w)) q := ⟨corP s x, by simp [dlP], 1, by decide, by decide, by rw [cas_last h]; exact e⟩
      cases x with
      | mv p => simp [tightX] at hq; exact lst rfl hq
      | ln p => simp [tightX] at hq; exact lst rfl hq
      | wv c d p => simp [tightX] at hq; exact lst rfl hq
      | sh => simp [tightX] at hq
      | bw c p =>
        rw [tightX, List.mem_cons, List.mem_map] at hq
        rcases hq with rfl | ⟨u, hu, rfl⟩
        · exact lst rfl rfl
        · have := turnsF_in hu
          exact ⟨_, List.mem_cons_self, u, this.1, this.2, rfl⟩
    · obtain ⟨c, hc, h⟩ := tight_on w (stp s x) q hq
      exact ⟨c, List.mem_cons_of_mem _ hc, h⟩
theorem tight_holds {b : Box} : ∀ (w : List Sk) (s : Ps), inB s.pen b → inB s.beg b → (∀ x ∈ w, isWv x = false) → (∀ q ∈ tightP s w, inB q b) → ∀ q, OnS (dlP s w) q → inB q b
  | [], s, _, _, _, _, q, ⟨c, hc, _⟩ => by simp [dlP] at hc
  | x :: w, s, h1, h2, hw, h, q, ⟨c, hc, t, t0, t1, e⟩ => by
    have hx := hw x (by simp)
    have hX : ∀ q ∈ tightX s x, inB q b := fun q hq => h q (List.mem_append_left _ hq)
    have hg : isSh x = false → inB (gl x) b := fun hs => hX _ (by cases x <;> simp_all [isSh, isWv, tightX, gl, endOf])
    have s1 : inB (stp s x).pen b ∧ inB (stp s x).beg b := by
      cases x with
      | mv p => exact ⟨hg rfl, hg rfl⟩
      | ln p => exact ⟨hg rfl, h2⟩
      | bw c p => exact ⟨hg rfl, h2⟩
      | wv c d p => exact ⟨hg rfl, h2⟩
      | sh => exact ⟨h2, h2⟩
    rcases List.mem_cons.mp hc with rfl | hc
    · subst e
      cases x with
      | mv p => exact hg rfl
      | ln p => exact cas_in (by simp [corP, Sk.pts]; exact ⟨h1, hg rfl⟩) (by simp [corP, Sk.pts]) (by simp [corP, Sk.pts]) t0 t1
      | wv c d p => simp [isWv] at hx
      | sh => exact cas_in (by simp [corP]; exact ⟨h1, h2⟩) (by simp [corP]) (by simp [corP]) t0 t1
      | bw c p => exact bow_in h1 (hg rfl) (fun u hu => hX _ (List.mem_cons_of_mem _ (List.mem_map.mpr ⟨u, hu, rfl⟩))) t0 t1
    · exact tight_holds w (stp s x) s1.1 s1.2 (fun y hy => hw y (List.mem_cons_of_mem _ hy)) (fun q hq => h q (List.mem_append_right _ hq)) q ⟨c, hc, t, t0, t1, e⟩
abbrev tightL (w : List Sk) : List P := tightTo w w.length
theorem tightL_on {w : List Sk} : ∀ q ∈ tightL w, Dr w q := by
  intro q hq
  rw [tightL, tightTo_eq] at hq
  exact tight_on w ps0 q hq
theorem tightL_holds {w : List Sk} (h : Hd w) (hw : ∀ x ∈ w, isWv x = false) {b : Box} (hb : ∀ q ∈ tightL w, inB q b) : ∀ q, Dr w q → inB q b := by
  intro q hq
  rcases h with rfl | ⟨p, r, rfl⟩
  · obtain ⟨c, hc, _⟩ := hq; simp [dl, dlP] at hc
  · rw [tightL, tightTo_eq] at hb
    have hb' : ∀ q ∈ p :: tightP ⟨p, p, false⟩ r, inB q b := hb
    rw [Dr, dl_mv] at hq
    obtain ⟨c, hc, t, t0, t1, e⟩ := hq
    rcases List.mem_cons.mp hc with rfl | hc
    · rw [e]; exact hb' p (by simp)
    · exact tight_holds r ⟨p, p, false⟩ (hb' p (by simp)) (hb' p (by simp)) (fun y hy => hw y (List.mem_cons_of_mem _ hy)) (fun q hq => hb' q (List.mem_cons_of_mem _ hq)) q ⟨c, hc, t, t0, t1, e⟩
theorem tightL_ne {w : List Sk} (h : Hd w) : tightL w = [] ↔ w = [] := by
  rcases h with rfl | ⟨p, r, rfl⟩
  · simp [tightL, tightTo]
  · rw [tightL, List.length_cons, tight_mv]; simp
/-- the tight box is told by all that is drawn -/
theorem tight_is {w : List Sk} (h : Hd w) (hw : ∀ x ∈ w, isWv x = false) {b : Box} (hb : ∀ q, Dr w q → inB q b) (h1 : ∃ q, Dr w q ∧ q.1 = b.1.1) (h2 : ∃ q, Dr w q ∧ q.2 = b.1.2) (h3 : ∃ q, Dr w q ∧ q.1 = b.2.1) (h4 : ∃ q, Dr w q ∧ q.2 = b.2.2) : bx (tightL w) = b := by
  have ne : tightL w ≠ [] := by
    intro e
    have := (tightL_ne h).mp e
    subst this
    obtain ⟨q, ⟨c, hc, _⟩, _⟩ := h1
    simp [dl, dlP] at hc
  have up : lies (bx (tightL w)) b := lies_of ne fun q hq => hb q (tightL_on q hq)
  have dn := tightL_holds h hw (b := bx (tightL w)) fun q hq => inB_mem hq
  obtain ⟨q1, d1, e1⟩ := h1
  obtain ⟨q2, d2, e2⟩ := h2
  obtain ⟨q3, d3, e3⟩ := h3
  obtain ⟨q4, d4, e4⟩ := h4
  obtain ⟨a1, a2, a3, a4⟩ := up
  have i1 := (dn q1 d1).1
  have i2 := (dn q2 d2).2.2.1
  have i3 := (dn q3 d3).2.1
  have i4 := (dn q4 d4).2.2.2
  refine Prod.ext (Prod.ext ?_ ?_) (Prod.ext ?_ ?_) <;> grind
theorem tight_ex {w : List Sk} (h : w ≠ []) (hd : Hd w) : (∃ q, Dr w q ∧ q.1 = (bx (tightL w)).1.1) ∧ (∃ q, Dr w q ∧ q.2 = (bx (tightL w)).1.2) ∧ (∃ q, Dr w q ∧ q.1 = (bx (tightL w)).2.1) ∧ (∃ q, Dr w q ∧ q.2 = (bx (tightL w)).2.2) := by
  have ne : tightL w ≠ [] := fun e => h ((tightL_ne hd).mp e)
  obtain ⟨⟨p1, m1, e1⟩, ⟨p2, m2, e2⟩, ⟨p3, m3, e3⟩, p4, m4, e4⟩ := bx_ex ne
  exact ⟨⟨p1, tightL_on p1 m1, e1⟩, ⟨p2, tightL_on p2 m2, e2⟩, ⟨p3, tightL_on p3 m3, e3⟩, p4, tightL_on p4 m4, e4⟩
/-- drawn alike: the same tight box -/
theorem tight_same {w w' : List Sk} (h : Hd w) (h' : Hd w') (hw : ∀ x ∈ w, isWv x = false) (hw' : ∀ x ∈ w', isWv x = false) (hd : ∀ q, Dr w q ↔ Dr w' q) : boxF (tightL w) = boxF (tightL w') := by
  by_cases e : w' = []
  · subst e
    have : w = [] := by
      rcases h with h | ⟨p, r, h⟩
      · exact h
      · subst h
        obtain ⟨c, hc, _⟩ := (hd p).mp ⟨[p], by rw [dl_mv]; simp, 0, by decide, by decide, rfl⟩
        simp [dl, dlP] at hc
    rw [this]
  · have ne' : tightL w' ≠ [] := fun k => e ((tightL_ne h').mp k)
    have e' : w ≠ [] := by
      rintro rfl
      rcases h' with h | ⟨p, r, h⟩
      · exact e h
      · subst h
        obtain ⟨c, hc, _⟩ := (hd p).mpr ⟨[p], by rw [dl_mv]; simp, 0, by decide, by decide, rfl⟩
        simp [dl, dlP] at hc
    have ne : tightL w ≠ [] := fun k => e' ((tightL_ne h).mp k)
    rw [boxF_some ne, boxF_some ne']
    obtain ⟨⟨q1, d1, e1⟩, ⟨q2, d2, e2⟩, ⟨q3, d3, e3⟩, q4, d4, e4⟩ := tight_ex e h'
    rw [tight_is h hw (fun q hq => tightL_holds h' hw' (fun q hq => inB_mem hq) q ((hd q).mp hq)) ⟨q1, (hd q1).mpr d1, e1⟩ ⟨q2, (hd q2).mpr d2, e2⟩ ⟨q3, (hd q3).mpr d3, e3⟩ ⟨q4, (hd q4).mpr d4, e4⟩]
theorem cas_rev {c : List P} {t : Rat} (h : 1 ≤ c.length) (h4 : c.length ≤ 4) : cas c.reverse (1 - t) = cas c t := by
  rcases c with _ | ⟨p, _ | ⟨q, _ | ⟨r, _ | ⟨s, _ | ⟨x, u⟩⟩⟩⟩⟩
  · simp at h
  · rfl
  · show cas [q, p] _ = _; refine Prod.ext ?_ ?_ <;> simp only [cas, lerp, pAdd, pMul, pSub] <;> grind
  · show cas [r, q, p] _ = _; refine Prod.ext ?_ ?_ <;> simp only [cas, lerp, pAdd, pMul, pSub] <;> grind
  · show cas [s, r, q, p] _ = _; refine Prod.ext ?_ ?_ <;> simp only [cas, lerp, pAdd, pMul, pSub] <;> grind
  · simp at h4
theorem dlP_body : ∀ (b : List Sk), (∀ x ∈ b, isBd x = true) → ∀ s : Ps, dlP s b = lnB s.pen b
  | [], _, s => rfl
  | x :: b, h, s => by
    have hx := h x (by simp)
    rw [dlP, corP_bd hx, stp_bd hx, dlP_body b (fun y hy => h y (List.mem_cons_of_mem _ hy)), lnB]
theorem dl_shp {l : List Sk} {p : P} {b t : List Sk} (h : Shp l p b t) : dl l = [p] :: (lnB p b ++ (if t = [] then [] else [[endB p b, p]])) := by
  obtain ⟨rfl, hb, ht⟩ := h
  rw [dl_mv, dlP_app, dlP_body b hb, (lnsP_body b hb ⟨p, p, false⟩).2]
  rcases ht with rfl | rfl <;> rfl
theorem lnB_len {p : P} : ∀ (b : List Sk) (p : P), (∀ x ∈ b, isBd x = true) → ∀ c ∈ lnB p b, 2 ≤ c.length ∧ c.length ≤ 4
  | [], p, _, c, hc => by simp [lnB] at hc
  | x :: b, p, h, c, hc => by
    rcases List.mem_cons.mp hc with rfl | hc
    · have := h x (by simp)
      cases x <;> simp_all [isBd, isMv, isSh, Sk.pts]
    · exact lnB_len (p := p) b _ (fun y hy => h y (List.mem_cons_of_mem _ hy)) c hc
theorem onS_rev {L : List (List P)} (h : ∀ c ∈ L, 1 ≤ c.length ∧ c.length ≤ 4) (q : P) : OnS (L.map List.reverse).reverse q ↔ OnS L q := by
  constructor
  · rintro ⟨c, hc, t, t0, t1, e⟩
    rw [List.mem_reverse] at hc
    obtain ⟨d, hd, rfl⟩ := List.mem_map.mp hc
    refine ⟨d, hd, 1 - t, by grind, by grind, ?_⟩
    rw [e, ← cas_rev (h d hd).1 (h d hd).2]
    congr 1; grind
  · rintro ⟨c, hc, t, t0, t1, e⟩
    refine ⟨c.reverse, by rw [List.mem_reverse]; exact List.mem_map.mpr ⟨c, hc, rfl⟩, 1 - t, by grind, by grind, ?_⟩
    rw [cas_rev (h c hc).1 (h c hc).2]; exact e
theorem onS_cons {c : List P} {L : List (List P)} {q : P} : OnS (c :: L) q ↔ OnS [c] q ∨ OnS L q := by
  rw [show c :: L = [c] ++ L from rfl, OnS.app]
theorem onS_pt {p q : P} : OnS [[p]] q ↔ q = p := by
  constructor
  · rintro ⟨c, hc, t, _, _, e⟩
    simp at hc; subst hc; exact e
  · rintro rfl
    exact ⟨[q], by simp, 0, by decide, by decide, rfl⟩
theorem onS_ptc {p q : P} {L : List (List P)} : OnS ([p] :: L) q ↔ q = p ∨ OnS L q := by rw [onS_cons, onS_pt]
theorem onS_ends {p : P} : ∀ (b : List Sk) (p : P), (∀ x ∈ b, isBd x = true) → b ≠ [] → OnS (lnB p b) p ∧ OnS (lnB p b) (endB p b)
  | [], p, _, h => absurd rfl h
  | x :: b, p, h, _ => by
    have hx := h x (by simp)
    have c0 : cas (p :: x.pts) 0 = p := by
      cases x <;> simp_all [isBd, isMv, isSh, Sk.pts] <;> refine Prod.ext ?_ ?_ <;> simp only [cas, lerp, pAdd, pMul, pSub] <;> grind
    have c1 : cas (p :: x.pts) 1 = gl x := by
      have := cas_last (s := ⟨p, p, false⟩) (isBd_sh hx)
      rwa [corP_bd hx] at this
    refine ⟨⟨p :: x.pts, by simp [lnB], 0, by decide, by decide, c0.symm⟩, ?_⟩
    show OnS (_ :: lnB (gl x) b) (endB (gl x) b)
    by_cases hb : b = []
    · subst hb
      exact ⟨p :: x.pts, by simp, 1, by decide, by decide, c1.symm⟩
    · exact onS_cons.mpr (.inr (onS_ends (p := p) b (gl x) (fun y hy => h y (List.mem_cons_of_mem _ hy)) hb).2)
theorem onS_line {p e q : P} : OnS [[p, e]] q ↔ OnS [[e, p]] q := by
  have := onS_rev (L := [[e, p]]) (by simp) q
  simpa using this
theorem onS_lp {p e : P} : OnS [[p, e]] p ∧ OnS [[p, e]] e := by
  refine ⟨⟨[p, e], by simp, 0, by decide, by decide, ?_⟩, ⟨[p, e], by simp, 1, by decide, by decide, ?_⟩⟩ <;> refine Prod.ext ?_ ?_ <;> simp only [cas, lerp, pAdd, pMul, pSub] <;> grind
theorem onS_pp {p q : P} : OnS [[p, p]] q ↔ q = p := by
  constructor
  · rintro ⟨c, hc, t, _, _, e⟩
    simp at hc; subst hc
    rw [e]; refine Prod.ext ?_ ?_ <;> simp only [cas, lerp, pAdd, pMul, pSub] <;> grind
  · rintro rfl
    exact onS_lp.1
theorem dr_back {l : List Sk} (h : Good1 l) (q : P) : Dr (backOf l) q ↔ Dr l q := by
  obtain ⟨⟨p, b, t, hs⟩, hl⟩ := h
  rw [backOf_shp hs, Dr, Dr, dl_shp hs, dl_shp (back_shp hs.tl)]
  have hlen : ∀ c ∈ lnB p b, 1 ≤ c.length ∧ c.length ≤ 4 := fun c hc => by
    have := lnB_len (p := p) b p hs.bd c hc
    exact ⟨by omega, this.2⟩
  have rv := onS_rev hlen q
  obtain ⟨i1, i2⟩ := back_lines b p hs.bd
  rcases hs.tl with rfl | rfl
  · have hne : b ≠ [] := by
      rintro rfl
      rw [hs.e] at hl; simp at hl
    obtain ⟨a1, a2⟩ := onS_ends (p := p) b p hs.bd hne
    simp only [if_true, List.append_nil]
    rw [i1, onS_ptc, onS_ptc, rv]
    constructor
    · rintro (rfl | k)
      · exact .inr a2
      · exact .inr k
    · rintro (rfl | k)
      · exact .inr a1
      · exact .inr k
  · have n1 : ¬ ([Sk.sh] : List Sk) = [] := by simp
    simp only [if_neg n1]
    have e1 : lnB p (.ln (endB p b) :: backB p b) = [p, endB p b] :: lnB (endB p b) (backB p b) := rfl
    have e2 : endB p (.ln (endB p b) :: backB p b) = endB (endB p b) (backB p b) := rfl
    rw [e1, e2, i1, i2, onS_ptc, OnS.app, onS_cons (c := [p, endB p b]), rv, onS_ptc, OnS.app, onS_pp, onS_line (p := p) (e := endB p b)]
    have := (onS_lp (p := endB p b) (e := p)).2
    constructor
    · rintro (rfl | (k | k) | rfl)
      · exact .inl rfl
      · exact .inr (.inr k)
      · exact .inr (.inl k)
      · exact .inl rfl
    · rintro (rfl | k | k)
      · exact .inl rfl
      · exact .inr (.inl (.inr k))
      · exact .inr (.inl (.inl k))
theorem good_hd {l : List Sk} (h : Good1 l) : Hd l := by
  obtain ⟨⟨p, b, t, hs⟩, _⟩ := h
  exact .inr ⟨p, _, hs.e⟩
theorem flatten_hd {ls : List (List Sk)} (h : ∀ l ∈ ls, Good1 l) : Hd ls.flatten := by
  cases ls with
  | nil => exact .inl rfl
  | cons l ls =>
    obtain ⟨⟨p, b, t, hs⟩, _⟩ := h l (by simp)
    rw [List.flatten_cons, hs.e]
    exact .inr ⟨p, _, rfl⟩
theorem dr_flatten : ∀ (ls : List (List Sk)), (∀ l ∈ ls, Good1 l) → ∀ q, Dr ls.flatten q ↔ ∃ l ∈ ls, Dr l q
  | [], _, q => by simp [Dr, OnS, dl, dlP]
  | l :: ls, h, q => by
    have hl := fun m hm => h m (List.mem_cons_of_mem l hm)
    have ih := dr_flatten ls hl q
    rw [Dr] at ih
    rw [List.flatten_cons, Dr, dl_app (flatten_hd hl), OnS.app, ih]
    constructor
    · rintro (k | ⟨m, hm, k⟩)
      · exact ⟨l, by simp, k⟩
      · exact ⟨m, by simp [hm], k⟩
    · rintro ⟨m, hm, k⟩
      rcases List.mem_cons.mp hm with rfl | hm
      · exact .inl k
      · exact .inr ⟨m, hm, k⟩
theorem dr_backward (w : List Sk) (q : P) : Dr (backwardF w) q ↔ Dr (partsL w).flatten q := by
  rw [backwardF, flatMap_flatten, dr_flatten _ (back_goods w), dr_flatten _ (parts_good w)]
  constructor
  · rintro ⟨l, hl, k⟩
    obtain ⟨m, hm, rfl⟩ := List.mem_map.mp hl
    have hm : m ∈ partsL w := by simpa using hm
    exact ⟨m, hm, (dr_back (parts_good w m hm) q).mp k⟩
  · rintro ⟨m, hm, k⟩
    exact ⟨backOf m, List.mem_map.mpr ⟨m, by simpa using hm, rfl⟩, (dr_back (parts_good w m hm) q).mpr k⟩
end Rf
namespace Rf
open PySem Dp
open Enc (enc)
theorem cas_map (m : Mp) {c : List P} (t : Rat) (h : 1 ≤ c.length) (h4 : c.length ≤ 4) : cas (mapC m c) t = ledF m (cas c t) := by
  rcases c with _ | ⟨p, _ | ⟨q, _ | ⟨r, _ | ⟨s, _ | ⟨x, u⟩⟩⟩⟩⟩
  · simp at h
  · rfl
  · refine Prod.ext ?_ ?_ <;> simp only [mapC, List.map, cas, lerp, pAdd, pMul, pSub, ledF] <;> grind
  · refine Prod.ext ?_ ?_ <;> simp only [mapC, List.map, cas, lerp, pAdd, pMul, pSub, ledF] <;> grind
  · refine Prod.ext ?_ ?_ <;> simp only [mapC, List.map, cas, lerp, pAdd, pMul, pSub, ledF] <;> grind
  · simp at h4
theorem corP_len (s : Ps) (x : Sk) : 1 ≤ (corP s x).length ∧ (corP s x).length ≤ 4 := by cases x <;> simp [corP, Sk.pts]
theorem dlP_len : ∀ (w : List Sk) (s : Ps), ∀ c ∈ dlP s w, 1 ≤ c.length ∧ c.length ≤ 4
  | [], s, c, hc => by simp [dlP] at hc
  | x :: w, s, c, hc => by
    rcases List.mem_cons.mp hc with rfl | hc
    · exact corP_len s x
    · exact dlP_len w _ c hc
theorem corP_map (m : Mp) (s : Ps) (x : Sk) : corP (mapP m s) (mapS m x) = mapC m (corP s x) := by cases x <;> rfl
theorem dlP_map (m : Mp) : ∀ (w : List Sk) (s : Ps), dlP (mapP m s) (mapF m w) = (dlP s w).map (mapC m)
  | [], s => rfl
  | x :: w, s => by
    show corP (mapP m s) (mapS m x) :: dlP (stp (mapP m s) (mapS m x)) (mapF m w) = _
    rw [stp_map, dlP_map m w, corP_map]; rfl
theorem dl_map (m : Mp) {w : List Sk} (h : Hd w) : dl (mapF m w) = (dl w).map (mapC m) := by
  rcases h with rfl | ⟨p, r, rfl⟩
  · rfl
  · show dl (.mv (ledF m p) :: mapF m r) = _
    rw [dl_mv, dl_mv, List.map_cons, ← dlP_map m r ⟨p, p, false⟩]; rfl
theorem dr_map (m : Mp) {w : List Sk} (h : Hd w) (q : P) : Dr (mapF m w) q ↔ ∃ q', Dr w q' ∧ q = ledF m q' := by
  rw [Dr, dl_map m h]
  constructor
  · rintro ⟨c, hc, t, t0, t1, e⟩
    obtain ⟨d, hd, rfl⟩ := List.mem_map.mp hc
    have hl := dlP_len w ps0 d hd
    exact ⟨cas d t, ⟨d, hd, t, t0, t1, rfl⟩, by rw [e, cas_map m t hl.1 hl.2]⟩
  · rintro ⟨q', ⟨d, hd, t, t0, t1, rfl⟩, rfl⟩
    have hl := dlP_len w ps0 d hd
    exact ⟨_, List.mem_map.mpr ⟨d, hd, rfl⟩, t, t0, t1, (cas_map m t hl.1 hl.2).symm⟩
theorem lx (p q : P) (t : Rat) : (lerp p q t).1 = p.1 + t * (q.1 - p.1) := rfl
theorem ly (p q : P) (t : Rat) : (lerp p q t).2 = p.2 + t * (q.2 - p.2) := rfl
theorem c2a (a b : P) (s t : Rat) : cas [a, lerp a b t] s = cas [a, b] (s * t) := by
  refine Prod.ext ?_ ?_ <;> simp only [cas, lx, ly] <;> grind
theorem c2b (a b : P) (s t : Rat) : cas [lerp a b t, b] s = cas [a, b] (t + s * (1 - t)) := by
  refine Prod.ext ?_ ?_ <;> simp only [cas, lx, ly] <;> grind
theorem c3a (a b c : P) (s t : Rat) : cas [a, lerp a b t, lerp (lerp a b t) (lerp b c t) t] s = cas [a, b, c] (s * t) := by
  refine Prod.ext ?_ ?_ <;> simp only [cas, lx, ly] <;> grind
theorem c3b (a b c : P) (s t : Rat) : cas [lerp (lerp a b t) (lerp b c t) t, lerp b c t, c] s = cas [a, b, c] (t + s * (1 - t)) := by
  refine Prod.ext ?_ ?_ <;> simp only [cas, lx, ly] <;> grind
theorem c4a (a b c d : P) (s t : Rat) : cas [a, lerp a b t, lerp (lerp a b t) (lerp b c t) t, cas [a, b, c, d] t] s = cas [a, b, c, d] (s * t) := by
  refine Prod.ext ?_ ?_ <;> simp only [cas, lx, ly] <;> grind
theorem c4b (a b c d : P) (s t : Rat) : cas [cas [a, b, c, d] t, lerp (lerp b c t) (lerp c d t) t, lerp c d t, d] s = cas [a, b, c, d] (t + s * (1 - t)) := by
  refine Prod.ext ?_ ?_ <;> simp only [cas, lx, ly] <;> grind
/-- a stroke split: its two halves, their corners -/
theorem split_two (s : Ps) {x : Sk} (h : isMv x = false) (t : Rat) : ∃ y z, splitS x s.pen s.beg t = [y, z] ∧ (∀ u, cas (corP s y) u = cas (corP s x) (u * t)) ∧ (∀ u, cas (corP (stp s y) z) u = cas (corP s x) (t + u * (1 - t))) ∧ (stp (stp s y) z) = stp s x ∧ isMv y = false ∧ isMv z = false ∧ (isWv x = false → isWv y = false ∧ isWv z = false) := by
  cases x with
  | mv p => simp [isMv] at h
  | ln p => exact ⟨_, _, rfl, fun u => c2a _ _ _ _, fun u => c2b _ _ _ _, rfl, rfl, rfl, fun _ => ⟨rfl, rfl⟩⟩
  | bw c p => exact ⟨_, _, rfl, fun u => c3a _ _ _ _ _, fun u => c3b _ _ _ _ _, rfl, rfl, rfl, fun _ => ⟨rfl, rfl⟩⟩
  | wv c d p => exact ⟨_, _, rfl, fun u => c4a _ _ _ _ _ _, fun u => c4b _ _ _ _ _ _, rfl, rfl, rfl, fun k => by simp [isWv] at k⟩
  | sh => exact ⟨_, _, rfl, fun u => c2a _ _ _ _, fun u => c2b _ _ _ _, rfl, rfl, rfl, fun _ => ⟨rfl, rfl⟩⟩
theorem dr_halves {c c1 c2 : List P} {t : Rat} (t0 : 0 < t) (t1 : t < 1) (h1 : ∀ u, cas c1 u = cas c (u * t)) (h2 : ∀ u, cas c2 u = cas c (t + u * (1 - t))) (L : List (List P)) (q : P) : OnS (c1 :: c2 :: L) q ↔ OnS (c :: L) q := by
  rw [onS_cons (c := c1), onS_cons (c := c2), onS_cons (c := c)]
  have k : (OnS [c1] q ∨ OnS [c2] q) ↔ OnS [c] q := by
    constructor
    · rintro (⟨d, hd, u, u0, u1, e⟩ | ⟨d, hd, u, u0, u1, e⟩)
      · simp at hd; subst hd
        have a := Rat.mul_nonneg u0 (show 0 ≤ t by grind)
        have b := Rat.mul_nonneg (show 0 ≤ 1 - u by grind) (show 0 ≤ t by grind)
        exact ⟨c, by simp, u * t, a, by grind, by rw [e, h1]⟩
      · simp at hd; subst hd
        have a := Rat.mul_nonneg u0 (show 0 ≤ 1 - t by grind)
        have b := Rat.mul_nonneg (show 0 ≤ 1 - u by grind) (show 0 ≤ 1 - t by grind)
        exact ⟨c, by simp, t + u * (1 - t), by grind, by grind, by rw [e, h2]⟩
    · rintro ⟨d, hd, u, u0, u1, e⟩
      simp at hd; subst hd
      rcases (show u ≤ t ∨ t < u by grind) with g | g
      · left
        have tn : t ≠ 0 := by grind
        have k := Rat.div_mul_cancel (a := u) tn
        generalize u / t = v at k
        have v0 : 0 ≤ v := by
          rcases tri v with n | n | n
          · have := (sgm v t).2.2.1 n t0; grind
          · grind
          · grind
        have v1 : v ≤ 1 := by
          rcases tri (v - 1) with n | n | n
          · grind
          · grind
          · have := (sgm (v - 1) t).1 n t0; grind
        exact ⟨c1, by simp, v, v0, v1, by rw [e, h1, k]⟩
      · right
        have tn : 1 - t ≠ 0 := by grind
        have tp : 0 < 1 - t := by grind
        have k := Rat.div_mul_cancel (a := u - t) tn
        generalize (u - t) / (1 - t) = v at k
        have v0 : 0 ≤ v := by
          rcases tri v with n | n | n
          · have := (sgm v (1 - t)).2.2.1 n tp; grind
          · grind
          · grind
        have v1 : v ≤ 1 := by
          rcases tri (v - 1) with n | n | n
          · grind
          · grind
          · have := (sgm (v - 1) (1 - t)).1 n tp; grind
        exact ⟨c2, by simp, v, v0, v1, by rw [e, h2, k]; congr 1; grind⟩
  rw [← k]
  grind
theorem split_hd {a r : List Sk} {x : Sk} {y z : Sk} (h : Hd (a ++ x :: r)) (hx : isMv x = false) : Hd (a ++ [y, z] ++ r) := by
  rcases a with _ | ⟨b, a⟩
  · rcases h with h | ⟨p, r', h⟩
    · simp at h
    · simp at h; rw [h.1] at hx; simp [isMv] at hx
  · rcases h with h | ⟨p, r', h⟩
    · simp at h
    · simp at h; rw [h.1]; exact .inr ⟨p, _, rfl⟩
theorem dr_split {a r : List Sk} {x : Sk} (hx : isMv x = false) {t : Rat} (t0 : 0 < t) (t1 : t < 1) (q : P) : Dr (a ++ splitS x (runP ps0 a).pen (runP ps0 a).beg t ++ r) q ↔ Dr (a ++ x :: r) q := by
  obtain ⟨y, z, e, h1, h2, h3, _⟩ := split_two (runP ps0 a) hx t
  have A := dlP_app a ([y, z] ++ r) ps0
  have B := dlP_app a (x :: r) ps0
  rw [e, Dr, Dr, dl, dl, List.append_assoc, A, B]
  refine (OnS.app).trans (Iff.trans ?_ (OnS.app).symm)
  show (_ ∨ OnS (corP (runP ps0 a) y :: corP (stp (runP ps0 a) y) z :: dlP (stp (stp (runP ps0 a) y) z) r) q) ↔ (_ ∨ OnS (corP (runP ps0 a) x :: dlP (stp (runP ps0 a) x) r) q)
  rw [h3, dr_halves t0 t1 h1 h2]
def lo2' (a b : Rat) : Rat := if b < a then b else a
def hi2' (a b : Rat) : Rat := if a < b then b else a
def bothB (a b : Box) : Box := ((lo2' a.1.1 b.1.1, lo2' a.1.2 b.1.2), (hi2' a.2.1 b.2.1, hi2' a.2.2 b.2.2))
def bothF (a b : Option Box) : Option Box := match a, b with
  | none, b => b
  | a, none => a
  | some a, some b => some (bothB a b)
theorem bx_app {l l' : List P} (h : l ≠ []) (h' : l' ≠ []) : bx (l ++ l') = bothB (bx l) (bx l') := by
  obtain ⟨⟨p1, m1, e1⟩, ⟨p2, m2, e2⟩, ⟨p3, m3, e3⟩, p4, m4, e4⟩ := bx_ex h
  obtain ⟨⟨q1, n1, f1⟩, ⟨q2, n2, f2⟩, ⟨q3, n3, f3⟩, q4, n4, f4⟩ := bx_ex h'
  refine bx_of ?_ ?_ ?_ ?_ ?_
  · intro q hq
    rcases List.mem_append.mp hq with hq | hq
    · obtain ⟨a, b, c, d⟩ := inB_mem hq
      refine ⟨?_, ?_, ?_, ?_⟩ <;> simp only [bothB, lo2', hi2'] <;> grind
    · obtain ⟨a, b, c, d⟩ := inB_mem hq
      refine ⟨?_, ?_, ?_, ?_⟩ <;> simp only [bothB, lo2', hi2'] <;> grind
  · simp only [bothB, lo2']
    split
    · exact ⟨q1, by simp [n1], f1⟩
    · exact ⟨p1, by simp [m1], e1⟩
  · simp only [bothB, lo2']
    split
    · exact ⟨q2, by simp [n2], f2⟩
    · exact ⟨p2, by simp [m2], e2⟩
  · simp only [bothB, hi2']
    split
    · exact ⟨q3, by simp [n3], f3⟩
    · exact ⟨p3, by simp [m3], e3⟩
  · simp only [bothB, hi2']
    split
    · exact ⟨q4, by simp [n4], f4⟩
    · exact ⟨p4, by simp [m4], e4⟩
theorem boxF_app (l l' : List P) : boxF (l ++ l') = bothF (boxF l) (boxF l') := by
  by_cases h : l = []
  · subst h
    rw [List.nil_append]
    cases l' <;> rfl
  · by_cases h' : l' = []
    · subst h'
      rw [List.append_nil, boxF_some h]; rfl
    · rw [boxF_some (by simp [h]), boxF_some h, boxF_some h', bx_app h h']; rfl
theorem tightL_app {a b : List Sk} (h : Hd b) : tightL (a ++ b) = tightL a ++ tightL b := by
  rw [tightL, tightL, tightL, tightTo_eq, tightTo_eq, tightTo_eq, tightP_app]
  rcases h with rfl | ⟨p, r, rfl⟩
  · simp [tightP]
  · rfl
def sortB (a b : P) : Box := ((lo2' a.1 b.1, lo2' a.2 b.2), (if b.1 < a.1 then a.1 else b.1, if b.2 < a.2 then a.2 else b.2))
def Axis (m : Mp) : Prop := (m.b = 0 ∧ m.c = 0) ∨ (m.a = 0 ∧ m.d = 0)
theorem mono1 {k x lo hi e : Rat} (h1 : lo ≤ x) (h2 : x ≤ hi) : lo2' (k * lo + e) (k * hi + e) ≤ k * x + e ∧ k * x + e ≤ (if k * hi + e < k * lo + e then k * lo + e else k * hi + e) := by
  unfold lo2'
  have s1 := sgm k (x - lo)
  have s2 := sgm k (hi - x)
  rcases tri k with g | g | g <;> rcases tri (x - lo) with g1 | g1 | g1 <;> rcases tri (hi - x) with g2 | g2 | g2 <;> grind
theorem sort_in {m : Mp} (h : Axis m) {B : Box} {q : P} (hq : inB q B) : inB (ledF m q) (sortB (ledF m B.1) (ledF m B.2)) := by
  obtain ⟨a, b, c, d⟩ := hq
  rcases h with ⟨z1, z2⟩ | ⟨z1, z2⟩
  · have k1 := mono1 (k := m.a) (e := m.e) a b
    have k2 := mono1 (k := m.d) (e := m.f) c d
    have e1 (q : P) : (ledF m q).1 = m.a * q.1 + m.e := by simp only [ledF, z2]; grind
    have e2 (q : P) : (ledF m q).2 = m.d * q.2 + m.f := by simp only [ledF, z1]; grind
    refine ⟨?_, ?_, ?_, ?_⟩ <;> simp only [sortB, e1, e2]
    · exact k1.1
    · exact k1.2
    · exact k2.1
    · exact k2.2
  · have k1 := mono1 (k := m.c) (e := m.e) c d
    have k2 := mono1 (k := m.b) (e := m.f) a b
    have e1 (q : P) : (ledF m q).1 = m.c * q.2 + m.e := by simp only [ledF, z1]; grind
    have e2 (q : P) : (ledF m q).2 = m.b * q.1 + m.f := by simp only [ledF, z2]; grind
    refine ⟨?_, ?_, ?_, ?_⟩ <;> simp only [sortB, e1, e2]
    · exact k1.1
    · exact k1.2
    · exact k2.1
    · exact k2.2
/-- what meets all four sides meets them when led -/
theorem sort_ex {m : Mp} (h : Axis m) {B : Box} {F : P → Prop} (h1 : ∃ q, F q ∧ q.1 = B.1.1) (h2 : ∃ q, F q ∧ q.2 = B.1.2) (h3 : ∃ q, F q ∧ q.1 = B.2.1) (h4 : ∃ q, F q ∧ q.2 = B.2.2) :
    (∃ q, F q ∧ (ledF m q).1 = (sortB (ledF m B.1) (ledF m B.2)).1.1) ∧ (∃ q, F q ∧ (ledF m q).2 = (sortB (ledF m B.1) (ledF m B.2)).1.2) ∧ (∃ q, F q ∧ (ledF m q).1 = (sortB (ledF m B.1) (ledF m B.2)).2.1) ∧ (∃ q, F q ∧ (ledF m q).2 = (sortB (ledF m B.1) (ledF m B.2)).2.2) := by
  obtain ⟨q1, d1, e1⟩ := h1
  obtain ⟨q2, d2, e2⟩ := h2
  obtain ⟨q3, d3, e3⟩ := h3
  obtain ⟨q4, d4, e4⟩ := h4
  rcases h with ⟨z1, z2⟩ | ⟨z1, z2⟩
  · have f1 (q : P) : (ledF m q).1 = m.a * q.1 + m.e := by simp only [ledF, z2]; grind
    have f2 (q : P) : (ledF m q).2 = m.d * q.2 + m.f := by simp only [ledF, z1]; grind
    simp only [sortB, f1, f2, lo2']
    refine ⟨?_, ?_, ?_, ?_⟩
    · split
      · exact ⟨q3, d3, by rw [e3]⟩
      · exact ⟨q1, d1, by rw [e1]⟩
    · split
      · exact ⟨q4, d4, by rw [e4]⟩
      · exact ⟨q2, d2, by rw [e2]⟩
    · split
      · exact ⟨q1, d1, by rw [e1]⟩
      · exact ⟨q3, d3, by rw [e3]⟩
    · split
      · exact ⟨q2, d2, by rw [e2]⟩
      · exact ⟨q4, d4, by rw [e4]⟩
  · have f1 (q : P) : (ledF m q).1 = m.c * q.2 + m.e := by simp only [ledF, z1]; grind
    have f2 (q : P) : (ledF m q).2 = m.b * q.1 + m.f := by simp only [ledF, z2]; grind
    simp only [sortB, f1, f2, lo2']
    refine ⟨?_, ?_, ?_, ?_⟩
    · split
      · exact ⟨q4, d4, by rw [e4]⟩
      · exact ⟨q2, d2, by rw [e2]⟩
    · split
      · exact ⟨q3, d3, by rw [e3]⟩
      · exact ⟨q1, d1, by rw [e1]⟩
    · split
      · exact ⟨q2, d2, by rw [e2]⟩
      · exact ⟨q4, d4, by rw [e4]⟩
    · split
      · exact ⟨q1, d1, by rw [e1]⟩
      · exact ⟨q3, d3, by rw [e3]⟩
theorem bx_axis {m : Mp} (h : Axis m) {l : List P} (ne : l ≠ []) : bx (l.map (ledF m)) = sortB (ledF m (bx l).1) (ledF m (bx l).2) := by
  obtain ⟨h1, h2, h3, h4⟩ := bx_ex ne
  obtain ⟨⟨q1, d1, e1⟩, ⟨q2, d2, e2⟩, ⟨q3, d3, e3⟩, q4, d4, e4⟩ := sort_ex h (F := fun q => q ∈ l) h1 h2 h3 h4
  refine bx_of ?_ ⟨_, List.mem_map.mpr ⟨q1, d1, rfl⟩, e1⟩ ⟨_, List.mem_map.mpr ⟨q2, d2, rfl⟩, e2⟩ ⟨_, List.mem_map.mpr ⟨q3, d3, rfl⟩, e3⟩ ⟨_, List.mem_map.mpr ⟨q4, d4, rfl⟩, e4⟩
  intro q hq
  obtain ⟨p, hp, rfl⟩ := List.mem_map.mp hq
  exact sort_in h (inB_mem hp)
theorem mapF_hd (m : Mp) {w : List Sk} (h : Hd w) : Hd (mapF m w) := by
  rcases h with rfl | ⟨p, r, rfl⟩
  · exact .inl rfl
  · exact .inr ⟨ledF m p, mapF m r, rfl⟩
theorem isWv_map (m : Mp) (x : Sk) : isWv (mapS m x) = isWv x := by cases x <;> rfl
theorem tight_axis {m : Mp} (h : Axis m) {w : List Sk} (hd : Hd w) (ne : w ≠ []) (hw : ∀ x ∈ w, isWv x = false) : bx (tightL (mapF m w)) = sortB (ledF m (bx (tightL w)).1) (ledF m (bx (tightL w)).2) := by
  obtain ⟨h1, h2, h3, h4⟩ := tight_ex ne hd
  obtain ⟨⟨q1, d1, e1⟩, ⟨q2, d2, e2⟩, ⟨q3, d3, e3⟩, q4, d4, e4⟩ := sort_ex h (F := Dr w) h1 h2 h3 h4
  have k (q : P) (hq : Dr w q) : Dr (mapF m w) (ledF m q) := (dr_map m hd _).mpr ⟨q, hq, rfl⟩
  refine tight_is (mapF_hd m hd) (fun x hx => ?_) ?_ ⟨_, k q1 d1, e1⟩ ⟨_, k q2 d2, e2⟩ ⟨_, k q3 d3, e3⟩ ⟨_, k q4 d4, e4⟩
  · obtain ⟨y, hy, rfl⟩ := List.mem_map.mp hx
    rw [isWv_map]; exact hw y hy
  · intro q hq
    obtain ⟨q', hq', rfl⟩ := (dr_map m hd q).mp hq
    exact sort_in h (tightL_holds hd hw (fun q hq => inB_mem hq) q' hq')
end Rf
namespace Rf
open PySem Dp
open Enc (enc)
theorem GS.split {M k T e : Nat} {s : Sk} {a b : P} {t : Rat} (hs : GS M k s) (ha : GP M k a) (hb : GP M k b) (ht : G T e t) (hT : T ≤ 2 ^ e) : ∀ x ∈ splitS s a b t, GS (M * T * T * T) (k + 3 * e + 6) x := by
  have G2 {M' k' : Nat} {a b : P} (ha : GP M' k' a) (hb : GP M' k' b) : GP (M' * T) (k' + e + 2) (lerp a b t) := ha.lerp hb ht hT
  have u0 {p : P} (h : GP M k p) : GP (M * T * T * T) (k + 3 * e + 6) p := ((h.up hT).up hT |>.up hT).mono (by omega)
  have u1 {p : P} (h : GP (M * T) (k + e + 2) p) : GP (M * T * T * T) (k + 3 * e + 6) p := ((h.up hT).up hT).mono (by omega)
  have u2 {p : P} (h : GP (M * T * T) (k + e + 2 + e + 2) p) : GP (M * T * T * T) (k + 3 * e + 6) p := (h.up hT).mono (by omega)
  have u3 {p : P} (h : GP (M * T * T * T) (k + e + 2 + e + 2 + e + 2) p) : GP (M * T * T * T) (k + 3 * e + 6) p := h.mono (by omega)
  cases s with
  | mv p =>
    have hp := hs p (by simp [Sk.pts])
    intro x hx; simp [splitS] at hx; subst hx
    intro q hq; simp [Sk.pts] at hq; subst hq; exact u0 hp
  | ln p =>
    have hp := hs p (by simp [Sk.pts])
    intro x hx; simp [splitS] at hx
    rcases hx with rfl | rfl <;> intro q hq <;> simp [Sk.pts] at hq <;> subst hq
    · exact u1 (G2 ha hp)
    · exact u0 hp
  | bw c p =>
    have hc := hs c (by simp [Sk.pts])
    have hp := hs p (by simp [Sk.pts])
    intro x hx; simp [splitS] at hx
    rcases hx with rfl | rfl <;> intro q hq <;> simp [Sk.pts] at hq <;> rcases hq with rfl | rfl
    · exact u1 (G2 ha hc)
    · exact u2 (G2 (G2 ha hc) (G2 hc hp))
    · exact u1 (G2 hc hp)
    · exact u0 hp
  | wv c d p =>
    have hc := hs c (by simp [Sk.pts])
    have hd := hs d (by simp [Sk.pts])
    have hp := hs p (by simp [Sk.pts])
    intro x hx; simp [splitS] at hx
    rcases hx with rfl | rfl <;> intro q hq <;> simp [Sk.pts] at hq <;> rcases hq with rfl | rfl | rfl
    · exact u1 (G2 ha hc)
    · exact u2 (G2 (G2 ha hc) (G2 hc hd))
    · exact u3 (G2 (G2 (G2 ha hc) (G2 hc hd)) (G2 (G2 hc hd) (G2 hd hp)))
    · exact u2 (G2 (G2 hc hd) (G2 hd hp))
    · exact u1 (G2 hd hp)
    · exact u0 hp
  | sh =>
    intro x hx; simp [splitS] at hx
    rcases hx with rfl | rfl <;> intro q hq <;> simp [Sk.pts] at hq
    subst hq; exact u1 (G2 ha hb)
theorem GW.split {M k T e : Nat} {w : List Sk} {i : Nat} {s : Sk} {t : Rat} (hw : GW M k w) (hs : w[i]? = some s) (ht : G T e t) (hT : T ≤ 2 ^ e) : GW (M * T * T * T) (k + 3 * e + 6) (w.take i ++ splitS s (Rf.penF w i) (Rf.begF w (i + 1)) t ++ w.drop (i + 1)) := by
  intro x hx
  rcases List.mem_append.mp hx with hx | hx
  · rcases List.mem_append.mp hx with hx | hx
    · exact hw.up3 hT x (List.mem_of_mem_take hx)
    · exact GS.split (hw s (get_mem hs)) (hw.penF i) (hw.begF (i + 1)) ht hT x hx
  · exact hw.up3 hT x (List.mem_of_mem_drop hx)
/-- of some size -/
def G1 (m k : Nat) (x : Rat) : Prop := ∃ M, Ft m M ∧ G M k x
def Gx (m k : Nat) (q : P) : Prop := ∃ M, Ft m M ∧ GP M k q
theorem G1.two {m k : Nat} {x y : Rat} (h : G1 m k x) (g : G1 m k y) : Gx (2 * m) (k + m) (x, y) := by
  obtain ⟨M, fM, hM⟩ := h
  obtain ⟨N, fN, hN⟩ := g
  have e : N * M = M * N := Nat.mul_comm ..
  refine ⟨M * N, by have := fM.mul fN; rwa [← Nat.two_mul] at this, hM.up fN.l, ?_⟩
  rw [← e]; exact hN.up fM.l
theorem Gx.one {m k : Nat} {q : P} (h : Gx m k q) : G1 m k q.1 ∧ G1 m k q.2 := by
  obtain ⟨M, f, a, b⟩ := h
  exact ⟨⟨M, f, a⟩, ⟨M, f, b⟩⟩
theorem Gx.ok {m k : Nat} {q : P} (h : Gx m k q) (hm : m < 4000) (hk : k < 4000) : OkP q := by
  obtain ⟨M, f, g⟩ := h
  exact g.okF f hm hk
theorem bx_gx {m k : Nat} {l : List P} (ne : l ≠ []) (h : ∀ q ∈ l, Gx m k q) : Gx (2 * m) (k + m) (bx l).1 ∧ Gx (2 * m) (k + m) (bx l).2 := by
  obtain ⟨⟨p1, m1, e1⟩, ⟨p2, m2, e2⟩, ⟨p3, m3, e3⟩, p4, m4, e4⟩ := bx_ex ne
  refine ⟨?_, ?_⟩
  · have := (h p1 m1).one.1.two (h p2 m2).one.2
    rw [e1, e2] at this; exact this
  · have := (h p3 m3).one.1.two (h p4 m4).one.2
    rw [e3, e4] at this; exact this
theorem tight_gx {M k m : Nat} {w : List Sk} (hw : GW M k w) (fM : Ft m M) : ∀ q ∈ tightL w, Gx (m + 3 * (k + 2)) (k + 3 * (k + 2) + 6) q := by
  have og : ∀ i, i ≤ w.length → ∀ q ∈ tightTo w i, Gx (m + 3 * (k + 2)) (k + 3 * (k + 2) + 6) q := by
    intro i
    induction i with
    | zero => intro _ q hq; simp [tightTo] at hq
    | succ i ih =>
      intro hi q hq
      have hs : w[i]? = some w[i] := by simp
      have gs := hw _ (get_mem hs)
      generalize w[i] = s at hs gs
      rw [tightTo_s hs] at hq
      rcases List.mem_append.mp hq with h | h
      · exact ih (by omega) q h
      · have last {p : P} (hp : p ∈ s.pts) : Gx (m + 3 * (k + 2)) (k + 3 * (k + 2) + 6) p := ⟨M, fM.mono (by omega), (gs p hp).mono (by omega)⟩
        cases s with
        | mv p => simp [tightS] at h; subst h; exact last (by simp [Sk.pts])
        | ln p => simp [tightS] at h; subst h; exact last (by simp [Sk.pts])
        | wv c d p => simp [tightS] at h; subst h; exact last (by simp [Sk.pts])
        | sh => simp [tightS] at h
        | bw c p =>
          rw [tightS, List.mem_cons, List.mem_map] at h
          rcases h with rfl | ⟨t, ht, rfl⟩
          · exact last (by simp [Sk.pts])
          · obtain ⟨N, fN, gN⟩ := turnsF_g (hw.penF i) (gs c (by simp [Sk.pts])) (gs p (by simp [Sk.pts])) fM t ht
            have hc := corF_len (w := w) (i := i) (by omega)
            exact ⟨M * N * N * N, (((fM.mul fN).mul fN).mul fN).mono (by omega), cas_gp (hw.corF i) gN fN.l hc.1 hc.2⟩
  exact og w.length (Nat.le_refl _)
theorem pts_gx {M k m : Nat} {w : List Sk} (hw : GW M k w) (fM : Ft m M) : ∀ q ∈ ptsL w, Gx m k q := by
  intro q hq
  obtain ⟨x, hx, hq⟩ := mem_ptsL.mp hq
  exact ⟨M, fM, hw x hx q hq⟩
/-- which strokes are no moves -/
def nmv (w : List Sk) : List Nat := (w.zipIdx.filter fun q => !isMv q.1).map (·.2)
theorem nmv_mem {w : List Sk} {n : Nat} (h : n ∈ nmv w) : ∃ s, w[n]? = some s ∧ isMv s = false := by
  obtain ⟨q, hq, rfl⟩ := List.mem_map.mp h
  obtain ⟨hq, hm⟩ := List.mem_filter.mp hq
  exact ⟨q.1, List.mem_zipIdx_iff_getElem?.mp hq, by simpa using hm⟩
theorem split_take {w : List Sk} {i : Nat} {s : Sk} (hs : w[i]? = some s) (hm : isMv s = false) (t : Rat) : w = w.take i ++ s :: w.drop (i + 1) ∧ splitS s (penF w i) (begF w (i + 1)) t = splitS s (runP ps0 (w.take i)).pen (runP ps0 (w.take i)).beg t := by
  have hi := (List.getElem?_eq_some_iff.mp hs).1
  refine ⟨?_, ?_⟩
  · conv => lhs; rw [← List.take_append_drop i w]
    rw [List.drop_eq_getElem_cons hi]
    have := (List.getElem?_eq_some_iff.mp hs).2
    rw [this]
  · rw [runP_take w i (by omega), begF_s hs, begOf_nm hm]
theorem flatten_len (w : List Sk) : (partsL w).flatten.length ≤ 2 * w.length := by
  have h1 : (partsL w).flatten.length = sumN ((partsL w).map fun l => l.length) := by
    have := len_flatMap id (partsL w)
    rw [List.flatMap_id] at this
    exact this
  rw [h1]
  refine Nat.le_trans (sumN_le (g := fun l => 2 * (l.length - 1)) fun l hl => ?_) ?_
  · have := (parts_good w l hl).2; omega
  · rw [sumN_mul]
    exact Nat.mul_le_mul_left 2 (parts_sum w)
theorem GW.flatten {M k : Nat} {w : List Sk} (h : GW M k w) : GW M k (partsL w).flatten := by
  intro x hx
  obtain ⟨l, hl, hx⟩ := List.mem_flatten.mp hx
  exact h.parts l hl x hx
@[simp] theorem is_nn : dCmp .Is .none .none = .ok (.bool true) := Res.nrf rfl
@[simp] theorem isnot_nn : dCmp .IsNot .none .none = .ok (.bool false) := Res.nrf rfl
@[simp] theorem tru_none : dTru .none = .ok false := Res.nrf rfl
@[simp] theorem or_none {r : Res D} : dOr .none r = r := Res.nrf rfl
@[simp] theorem or_pair {α β : Type} [Enc α] [Enc β] {q : α × β} {r : Res D} : dOr (enc q) r = .ok (enc q) := by rw [enc_pair]; rfl
@[simp] theorem ix_l0 {a : D} {r : List D} : dIdx (.list (a :: r)) (.int 0) = .ok a := ix_lst (i := 0) rfl
@[simp] theorem ix_l1 {a b : D} {r : List D} : dIdx (.list (a :: b :: r)) (.int 1) = .ok b := ix_lst (i := 1) rfl
@[simp] theorem rev_Lr {xs : List D} : dRev (.list xs) = .ok (.list xs.reverse) := Res.nrf rfl
@[simp] theorem eq_nn : dCmp .Eq .none .none = .ok (.bool true) := c_eqR (n := 0) ⟨rfl, Nat.zero_le _, rfl⟩ (by decide)
@[simp] theorem ne_nn : dCmp .NotEq .none .none = .ok (.bool false) := c_neR (n := 0) ⟨rfl, Nat.zero_le _, rfl⟩ (by decide)
end Rf
namespace Rf
open PySem Dp
open Enc (enc)
def plainF (x : Sk) (q : P) : Sk := match x with
  | .wv c d p => if pSub (pMul 3 c) q = pSub (pMul 3 d) p then (if pMul (1 / 2) (pSub (pMul 3 c) q) = lerp q p (1 / 2) then .ln p else .bw (pMul (1 / 2) (pSub (pMul 3 c) q)) p) else .wv c d p
  | .bw c p => if c = lerp q p (1 / 2) then .ln p else .bw c p
  | x => x
def dotF (u v : P) : Rat := u.1 * v.1 + u.2 * v.2
def gonF (a b c : P) : Bool := decide (crossF (pSub b a) (pSub c b) = 0 ∧ 0 < dotF (pSub b a) (pSub c b))
abbrev Stk := List (Sk × P)
def stepR (st : Stk) (e : Sk × P) : Stk := match plainF e.1 e.2 with
  | .ln g => if g = e.2 then st else match st with
    | (.ln h, q') :: r => if gonF q' e.2 g = true then (.ln g, q') :: r else (.ln g, e.2) :: (.ln h, q') :: r
    | st => (.ln g, e.2) :: st
  | s => (s, e.2) :: st
def closeS (p : P) : Stk → Stk
  | (.ln g, q) :: r => if g = p ∨ gonF q g p = true then closeS p r else (.ln g, q) :: r
  | st => st
def stkF (p : P) (b : List Sk) : Stk := (zb p b).foldl stepR []
def endK (p : P) (b t : List Sk) : Stk := if t = [] then stkF p b else closeS p (stkF p b)
def formP (p : P) (b t : List Sk) : List Sk := if endK p b t = [] then [] else .mv p :: ((endK p b t).reverse.map (·.1) ++ t)
def formOf (l : List Sk) : List Sk := formP (headOf l) (bodyOf l) (tailOf l)
def formF (w : List Sk) : List Sk := (partsL w).flatMap formOf
theorem formOf_shp {l : List Sk} {p : P} {b t : List Sk} (h : Shp l p b t) : formOf l = formP p b t := by
  obtain ⟨h1, h2, h3⟩ := h.of
  rw [formOf, h1, h2, h3]
theorem plain_gl (x : Sk) (q : P) : gl (plainF x q) = gl x := by
  cases x with
  | wv c d p => simp only [plainF]; split <;> (try split) <;> rfl
  | bw c p => simp only [plainF]; split <;> rfl
  | _ => rfl
theorem plain_bd {x : Sk} (h : isBd x = true) (q : P) : isBd (plainF x q) = true := by
  cases x with
  | wv c d p => simp only [plainF]; split <;> (try split) <;> rfl
  | bw c p => simp only [plainF]; split <;> rfl
  | _ => exact h
theorem plain_bw (c p q : P) : plainF (plainF (.bw c p) q) q = plainF (.bw c p) q := by
  by_cases h : c = lerp q p (1 / 2)
  · have e : plainF (.bw c p) q = .ln p := by simp only [plainF, if_pos h]
    rw [e]; rfl
  · have e : plainF (.bw c p) q = .bw c p := by simp only [plainF, if_neg h]
    rw [e, e]
theorem plain_plain (x : Sk) (q : P) : plainF (plainF x q) q = plainF x q := by
  cases x with
  | wv c d p =>
    by_cases h1 : pSub (pMul 3 c) q = pSub (pMul 3 d) p
    · have e : plainF (.wv c d p) q = plainF (.bw (pMul (1 / 2) (pSub (pMul 3 c) q)) p) q := by simp only [plainF, if_pos h1]
      rw [e, plain_bw]
    · have e : plainF (.wv c d p) q = .wv c d p := by simp only [plainF, if_neg h1]
      rw [e, e]
  | bw c p => exact plain_bw c p q
  | _ => rfl
theorem plain_swept {x : Sk} (h : isBd x = true) (q : P) : sweptF (q :: (plainF x q).pts) = sweptF (q :: x.pts) := by
  cases x with
  | wv c d p =>
    simp only [plainF]
    split
    · rename_i h1
      have e1 : 3 * c.1 - q.1 = 3 * d.1 - p.1 := congrArg Prod.fst h1
      have e2 : 3 * c.2 - q.2 = 3 * d.2 - p.2 := congrArg Prod.snd h1
      have k : sweptF [q, pMul (1 / 2) (pSub (pMul 3 c) q), p] = sweptF [q, c, d, p] := by
        simp only [sweptF, crossF, pMul, pSub]; grind
      split
      · rename_i h2
        show sweptF [q, p] = _
        rw [show (Sk.wv c d p).pts = [c, d, p] from rfl, ← k, h2]
        simp only [sweptF, crossF, lerp, pAdd, pMul, pSub]; grind
      · exact k
    · rfl
  | bw c p =>
    simp only [plainF]
    split
    · rename_i h1
      show sweptF [q, p] = sweptF [q, c, p]
      rw [h1]
      simp only [sweptF, crossF, lerp, pAdd, pMul, pSub]; grind
    · rfl
  | _ => rfl
theorem gon_iff {a b c : P} : gonF a b c = true ↔ ((b.1 - a.1) * (c.2 - b.2) - (b.2 - a.2) * (c.1 - b.1) = 0 ∧ 0 < (b.1 - a.1) * (c.1 - b.1) + (b.2 - a.2) * (c.2 - b.2)) := by
  unfold gonF
  rw [decide_eq_true_eq]
  exact Iff.rfl
theorem gon_mid {a b c : P} (h : gonF a b c = true) : ∃ s : Rat, 0 < s ∧ s < 1 ∧ b = lerp a c s := by
  rw [gon_iff] at h
  obtain ⟨h1, h2⟩ := h
  obtain ⟨u1, hu1⟩ : ∃ u1, u1 = b.1 - a.1 := ⟨_, rfl⟩
  obtain ⟨u2, hu2⟩ : ∃ u2, u2 = b.2 - a.2 := ⟨_, rfl⟩
  obtain ⟨v1, hv1⟩ : ∃ v1, v1 = c.1 - b.1 := ⟨_, rfl⟩
  obtain ⟨v2, hv2⟩ : ∃ v2, v2 = c.2 - b.2 := ⟨_, rfl⟩
  rw [← hu1, ← hu2, ← hv1, ← hv2] at h1 h2
  have uu : 0 < u1 * u1 + u2 * u2 := by
    have := sq_pos (u := (u1, u2)) (by
      intro e
      have e1 : u1 = 0 := congrArg Prod.fst e
      have e2 : u2 = 0 := congrArg Prod.snd e
      rw [e1, e2] at h2; grind)
    exact this
  have hn : u1 * u1 + u2 * u2 + (u1 * v1 + u2 * v2) ≠ 0 := by grind
  have k := Rat.div_mul_cancel (a := u1 * u1 + u2 * u2) hn
  generalize (u1 * u1 + u2 * u2) / (u1 * u1 + u2 * u2 + (u1 * v1 + u2 * v2)) = s at k
  obtain ⟨T, hT⟩ : ∃ T, T = u1 * u1 + u2 * u2 + (u1 * v1 + u2 * v2) := ⟨_, rfl⟩
  rw [← hT] at k hn
  have hTp : 0 < T := by grind
  have s0 : 0 < s := by
    rcases tri s with g | g | g
    · have := (sgm s T).2.2.1 g hTp; grind
    · subst g; grind
    · exact g
  have s1 : s < 1 := by
    rcases tri (s - 1) with g | g | g
    · grind
    · have : s = 1 := by grind
      subst this; grind
    · have := (sgm (s - 1) T).1 g hTp; grind
  refine ⟨s, s0, s1, ?_⟩
  have z1 : T * (u1 - s * (u1 + v1)) = 0 := by rw [hT] at k ⊢; grind
  have z2 : T * (u2 - s * (u2 + v2)) = 0 := by rw [hT] at k ⊢; grind
  have y1 : u1 - s * (u1 + v1) = 0 := by
    rcases Rat.mul_eq_zero.mp z1 with g | g
    · exact absurd g hn
    · exact g
  have y2 : u2 - s * (u2 + v2) = 0 := by
    rcases Rat.mul_eq_zero.mp z2 with g | g
    · exact absurd g hn
    · exact g
  refine Prod.ext ?_ ?_ <;> simp only [lerp, pAdd, pMul, pSub] <;> grind
theorem gon_ne {a b c : P} (h : gonF a b c = true) : a ≠ b ∧ b ≠ c ∧ a ≠ c := by
  have h0 := h
  rw [gon_iff] at h
  obtain ⟨s, s0, s1, e⟩ := gon_mid h0
  refine ⟨?_, ?_, ?_⟩
  · rintro rfl; grind
  · rintro rfl; grind
  · rintro rfl
    have e1 : b.1 = a.1 := by rw [e]; simp only [lerp, pAdd, pMul, pSub]; grind
    have e2 : b.2 = a.2 := by rw [e]; simp only [lerp, pAdd, pMul, pSub]; grind
    rw [e1, e2] at h; grind
theorem gon_of_mid {a c : P} {s : Rat} (s0 : 0 < s) (s1 : s < 1) (h : a ≠ c) : gonF a (lerp a c s) c = true := by
  rw [gon_iff]
  simp only [lerp, pAdd, pMul, pSub]
  refine ⟨by grind, ?_⟩
  have uu := sq_pos (u := pSub c a) (by
    intro e
    have e1 : c.1 - a.1 = 0 := congrArg Prod.fst e
    have e2 : c.2 - a.2 = 0 := congrArg Prod.snd e
    exact h (Prod.ext (by grind) (by grind)))
  simp only [pSub] at uu
  have p1 := Rat.mul_pos (Rat.mul_pos s0 (show 0 < 1 - s by grind)) uu
  grind
/-- the direction counts alone -/
theorem gon_dir {z a b c : P} {s : Rat} (s0 : 0 < s) (e : b = lerp a c s) : gonF z a b = gonF z a c := by
  subst e
  rw [Bool.eq_iff_iff, gon_iff, gon_iff]
  simp only [lerp, pAdd, pMul, pSub]
  have k1 : (a.1 - z.1) * (a.2 + s * (c.2 - a.2) - a.2) - (a.2 - z.2) * (a.1 + s * (c.1 - a.1) - a.1) = s * ((a.1 - z.1) * (c.2 - a.2) - (a.2 - z.2) * (c.1 - a.1)) := by grind
  have k2 : (a.1 - z.1) * (a.1 + s * (c.1 - a.1) - a.1) + (a.2 - z.2) * (a.2 + s * (c.2 - a.2) - a.2) = s * ((a.1 - z.1) * (c.1 - a.1) + (a.2 - z.2) * (c.2 - a.2)) := by grind
  rw [k1, k2]
  generalize (a.1 - z.1) * (c.2 - a.2) - (a.2 - z.2) * (c.1 - a.1) = X
  generalize (a.1 - z.1) * (c.1 - a.1) + (a.2 - z.2) * (c.2 - a.2) = Y
  have sX := sgm s X
  have sY := sgm s Y
  constructor
  · rintro ⟨h1, h2⟩
    constructor
    · rcases tri X with g | g | g <;> grind
    · rcases tri Y with g | g | g <;> grind
  · rintro ⟨h1, h2⟩
    constructor
    · grind
    · grind
theorem gon_ext {z a b c : P} (h : gonF a b c = true) : gonF z a c = gonF z a b := by
  obtain ⟨s, s0, s1, e⟩ := gon_mid h
  exact (gon_dir s0 e).symm
/-- from the other end -/
theorem gon_dir' {a b c d : P} {s : Rat} (s1 : s < 1) (e : b = lerp a c s) : gonF b c d = gonF a c d := by
  subst e
  rw [Bool.eq_iff_iff, gon_iff, gon_iff]
  simp only [lerp, pAdd, pMul, pSub]
  have k1 : (c.1 - (a.1 + s * (c.1 - a.1))) * (d.2 - c.2) - (c.2 - (a.2 + s * (c.2 - a.2))) * (d.1 - c.1) = (1 - s) * ((c.1 - a.1) * (d.2 - c.2) - (c.2 - a.2) * (d.1 - c.1)) := by grind
  have k2 : (c.1 - (a.1 + s * (c.1 - a.1))) * (d.1 - c.1) + (c.2 - (a.2 + s * (c.2 - a.2))) * (d.2 - c.2) = (1 - s) * ((c.1 - a.1) * (d.1 - c.1) + (c.2 - a.2) * (d.2 - c.2)) := by grind
  rw [k1, k2]
  generalize (c.1 - a.1) * (d.2 - c.2) - (c.2 - a.2) * (d.1 - c.1) = X
  generalize (c.1 - a.1) * (d.1 - c.1) + (c.2 - a.2) * (d.2 - c.2) = Y
  have s0 : 0 < 1 - s := by grind
  generalize 1 - s = s at s0
  have sX := sgm s X
  have sY := sgm s Y
  constructor
  · rintro ⟨h1, h2⟩
    constructor
    · rcases tri X with g | g | g <;> grind
    · rcases tri Y with g | g | g <;> grind
  · rintro ⟨h1, h2⟩
    constructor
    · grind
    · grind
def endS (p : P) (st : Stk) : P := match st with
  | [] => p
  | (x, _) :: _ => gl x
def Chain (p : P) : Stk → Prop
  | [] => True
  | (x, q) :: r => q = endS p r ∧ isBd x = true ∧ Chain p r
theorem step_cases (st : Stk) (x : Sk) (q : P) : (plainF x q = .ln q ∧ stepR st (x, q) = st) ∨ (∃ g h q' r, plainF x q = .ln g ∧ g ≠ q ∧ st = (.ln h, q') :: r ∧ gonF q' q g = true ∧ stepR st (x, q) = (.ln g, q') :: r) ∨ (plainF x q ≠ .ln q ∧ (∀ g h q' r, plainF x q = .ln g → st = (.ln h, q') :: r → gonF q' q g = false) ∧ stepR st (x, q) = (plainF x q, q) :: st) := by
  unfold stepR
  simp only
  cases hx : plainF x q with
  | ln g =>
    simp only
    by_cases hg : g = q
    · subst hg
      left; simp
    · right
      rw [if_neg hg]
      rcases st with _ | ⟨⟨y, q'⟩, r⟩
      · right; exact ⟨by simpa using hg, (by simp), rfl⟩
      · cases y with
        | ln h =>
          simp only
          cases hk : gonF q' q g with
          | true => left; exact ⟨g, h, q', r, rfl, hg, rfl, hk, by simp⟩
          | false =>
            right
            refine ⟨by simpa using hg, ?_, by simp⟩
            intro g1 h1 q1 r1 e1 e2
            cases e1; cases e2; exact hk
        | _ => right; exact ⟨by simpa using hg, (by intro g1 h1 q1 r1 _ e2; cases e2), rfl⟩
  | _ => right; right; exact ⟨by simp, (by intro g h q' r e; cases e), rfl⟩
theorem chain_step {p : P} {st : Stk} {x : Sk} {q : P} (hc : Chain p st) (he : endS p st = q) (hx : isBd x = true) : Chain p (stepR st (x, q)) ∧ endS p (stepR st (x, q)) = gl x := by
  have hg := plain_gl x q
  rcases step_cases st x q with ⟨h1, h2⟩ | ⟨g, h, q', r, h1, h2, rfl, h4, h5⟩ | ⟨h1, h2, h3⟩
  · rw [h2]
    refine ⟨hc, ?_⟩
    rw [he, ← hg, h1]; rfl
  · rw [h5]
    refine ⟨⟨hc.1, rfl, hc.2.2⟩, ?_⟩
    rw [← hg, h1]; rfl
  · rw [h3]
    exact ⟨⟨he.symm, plain_bd hx q, hc⟩, hg⟩
theorem chain_fold {p : P} : ∀ (b : List Sk) (st : Stk) (q : P), (∀ x ∈ b, isBd x = true) → Chain p st → endS p st = q → Chain p ((zb q b).foldl stepR st) ∧ endS p ((zb q b).foldl stepR st) = endB q b
  | [], st, q, _, h1, h2 => ⟨h1, h2⟩
  | x :: b, st, q, h, h1, h2 => by
    obtain ⟨k1, k2⟩ := chain_step h1 h2 (h x (by simp))
    exact chain_fold b _ (gl x) (fun y hy => h y (List.mem_cons_of_mem _ hy)) k1 k2
theorem stk_chain {p : P} {b : List Sk} (h : ∀ x ∈ b, isBd x = true) : Chain p (stkF p b) ∧ endS p (stkF p b) = endB p b := chain_fold b [] p h trivial rfl
theorem close_chain {p : P} : ∀ (st : Stk), Chain p st → Chain p (closeS p st)
  | [], h => h
  | (x, q) :: r, h => by
    cases x with
    | ln g =>
      rw [closeS]
      split
      · exact close_chain r h.2.2
      · exact h
    | _ => exact h
theorem endK_chain {p : P} {b t : List Sk} (h : ∀ x ∈ b, isBd x = true) : Chain p (endK p b t) := by
  rw [endK]
  split
  · exact (stk_chain h).1
  · exact close_chain _ (stk_chain h).1
def strk (st : Stk) : List Sk := st.reverse.map (·.1)
theorem strk_cons (x : Sk) (q : P) (r : Stk) : strk ((x, q) :: r) = strk r ++ [x] := by simp [strk]
theorem strk_bd {p : P} : ∀ (st : Stk), Chain p st → ∀ x ∈ strk st, isBd x = true
  | [], _, x, hx => by simp [strk] at hx
  | (y, q) :: r, h, x, hx => by
    rw [strk_cons] at hx
    rcases List.mem_append.mp hx with hx | hx
    · exact strk_bd r h.2.2 x hx
    · simp at hx; subst hx; exact h.2.1
theorem strk_end {p : P} : ∀ (st : Stk), Chain p st → endB p (strk st) = endS p st
  | [], _ => rfl
  | (y, q) :: r, h => by rw [strk_cons, endB_app]; rfl
theorem strk_zb {p : P} : ∀ (st : Stk), Chain p st → zb p (strk st) = st.reverse
  | [], _ => rfl
  | (y, q) :: r, h => by
    rw [strk_cons, zb_app, strk_zb r h.2.2, strk_end r h.2.2, ← h.1, List.reverse_cons]; rfl
theorem form_shp {p : P} {b t : List Sk} (h : ∀ x ∈ b, isBd x = true) (ht : t = [] ∨ t = [.sh]) (ne : endK p b t ≠ []) : Shp (formP p b t) p (strk (endK p b t)) t := by
  rw [formP, if_neg ne]
  exact ⟨rfl, strk_bd _ (endK_chain h), ht⟩
theorem strk_ne {st : Stk} (h : st ≠ []) : strk st ≠ [] := by simpa [strk] using h
theorem form_good {p : P} {b t : List Sk} (h : ∀ x ∈ b, isBd x = true) (ht : t = [] ∨ t = [.sh]) (ne : endK p b t ≠ []) : Good1 (formP p b t) := by
  refine ⟨⟨_, _, _, form_shp h ht ne⟩, ?_⟩
  rw [(form_shp h ht ne).e]
  have := strk_ne ne
  cases hs : strk (endK p b t) with
  | nil => exact absurd hs this
  | cons x r => simp
/-- the forms of parts that have one -/
def formsL (w : List Sk) : List (List Sk) := ((partsL w).map formOf).filter fun l => !l.isEmpty
theorem flatten_filter : ∀ (L : List (List Sk)), (L.filter fun l => !l.isEmpty).flatten = L.flatten
  | [] => rfl
  | l :: L => by
    rw [List.filter_cons]
    cases l with
    | nil => simp [flatten_filter L]
    | cons x r => simp [flatten_filter L]
theorem formF_flatten (w : List Sk) : formF w = (formsL w).flatten := by
  rw [formsL, flatten_filter, formF, flatMap_flatten]
theorem formsL_good (w : List Sk) : ∀ l ∈ formsL w, Good1 l := by
  intro l hl
  obtain ⟨h1, h2⟩ := List.mem_filter.mp hl
  obtain ⟨m, hm, rfl⟩ := List.mem_map.mp h1
  obtain ⟨⟨p, b, t, hs⟩, _⟩ := parts_good w m hm
  rw [formOf_shp hs] at h2 ⊢
  refine form_good hs.bd hs.tl ?_
  intro e
  rw [formP, if_pos e] at h2
  simp at h2
theorem parts_form (w : List Sk) : partsL (formF w) = formsL w := by rw [formF_flatten, partsL_flatten (formsL_good w)]
theorem form_app {a b : List Sk} (h : Hd b) : formF (a ++ b) = formF a ++ formF b := by
  rw [formF, parts_app h, List.flatMap_append]; rfl
theorem form_whole (w : List Sk) : formF (partsL w).flatten = formF w := by rw [formF, parts_flatten]; rfl
theorem form_hd (w : List Sk) : Hd (formF w) := by rw [formF_flatten]; exact flatten_hd (formsL_good w)
def Nrm (p : P) : Stk → Prop
  | [] => True
  | (x, q) :: r => (plainF x q = x ∧ x ≠ .ln q ∧ ∀ g h q' r', x = .ln g → r = (.ln h, q') :: r' → gonF q' q g = false) ∧ Nrm p r
theorem nrm_step {p : P} {st : Stk} {x : Sk} {q : P} (hc : Chain p st) (he : endS p st = q) (hn : Nrm p st) : Nrm p (stepR st (x, q)) := by
  rcases step_cases st x q with ⟨h1, h2⟩ | ⟨g, h, q', r, h1, h2, rfl, h4, h5⟩ | ⟨h1, h2, h3⟩
  · rw [h2]; exact hn
  · rw [h5]
    obtain ⟨⟨n1, n2, n3⟩, n4⟩ := hn
    have hq : h = q := he
    refine ⟨⟨rfl, ?_, ?_⟩, n4⟩
    · intro e; cases e
      exact (gon_ne h4).2.2 rfl
    · intro g1 h1' q1 r1 e1 e2
      cases e1
      rw [gon_ext h4, ← hq]
      exact n3 h h1' q1 r1 rfl e2
  · rw [h3]
    exact ⟨⟨plain_plain x q, h1, fun g h q' r' e1 e2 => h2 g h q' r' e1 e2⟩, hn⟩
theorem nrm_fold {p : P} : ∀ (b : List Sk) (st : Stk) (q : P), (∀ x ∈ b, isBd x = true) → Chain p st → endS p st = q → Nrm p st → Nrm p ((zb q b).foldl stepR st)
  | [], st, q, _, _, _, h => h
  | x :: b, st, q, h, h1, h2, h3 => by
    obtain ⟨k1, k2⟩ := chain_step h1 h2 (h x (by simp))
    exact nrm_fold b _ (gl x) (fun y hy => h y (List.mem_cons_of_mem _ hy)) k1 k2 (nrm_step h1 h2 h3)
theorem close_nrm {p : P} : ∀ (st : Stk), Nrm p st → Nrm p (closeS p st)
  | [], h => h
  | (x, q) :: r, h => by
    cases x with
    | ln g =>
      rw [closeS]
      split
      · exact close_nrm r h.2
      · exact h
    | _ => exact h
theorem endK_nrm {p : P} {b t : List Sk} (h : ∀ x ∈ b, isBd x = true) : Nrm p (endK p b t) := by
  have := nrm_fold (p := p) b [] p h trivial rfl trivial
  rw [endK]
  split
  · exact this
  · exact close_nrm _ this
/-- a normal stack is built again -/
theorem nrm_again {p : P} : ∀ (st : Stk), Chain p st → Nrm p st → st.reverse.foldl stepR [] = st
  | [], _, _ => rfl
  | (x, q) :: r, hc, hn => by
    obtain ⟨⟨n1, n2, n3⟩, n4⟩ := hn
    rw [List.reverse_cons, List.foldl_append, nrm_again r hc.2.2 n4]
    show stepR r (x, q) = _
    rcases step_cases r x q with ⟨h1, h2⟩ | ⟨g, h, q', r', h1, h2, h3, h4, h5⟩ | ⟨h1, h2, h3⟩
    · rw [n1] at h1; exact absurd h1 n2
    · rw [n1] at h1
      rw [n3 g h q' r' h1 h3] at h4
      cases h4
    · rw [h3, n1]
theorem close_close {p : P} : ∀ (st : Stk), closeS p (closeS p st) = closeS p st
  | [] => rfl
  | (x, q) :: r => by
    cases x with
    | ln g =>
      rw [closeS]
      split
      · exact close_close r
      · rename_i h; rw [closeS, if_neg h]
    | _ => rfl
theorem form_form_part {l : List Sk} (h : Good1 l) (ne : formOf l ≠ []) : formOf (formOf l) = formOf l := by
  obtain ⟨⟨p, b, t, hs⟩, _⟩ := h
  rw [formOf_shp hs] at ne ⊢
  have nk : endK p b t ≠ [] := by
    intro e; rw [formP, if_pos e] at ne; exact ne rfl
  rw [formOf_shp (form_shp hs.bd hs.tl nk)]
  have hc := endK_chain (p := p) (t := t) hs.bd
  have e1 : stkF p (strk (endK p b t)) = endK p b t := by
    rw [stkF, strk_zb _ hc, nrm_again _ hc (endK_nrm hs.bd)]
  have e2 : endK p (strk (endK p b t)) t = endK p b t := by
    rw [endK, e1]
    split
    · rfl
    · rename_i ht
      rw [endK, if_neg ht, close_close]
  rw [formP, e2, formP]
theorem form_form (w : List Sk) : formF (formF w) = formF w := by
  rw [formF, parts_form, formF_flatten, flatMap_flatten]
  congr 1
  conv => rhs; rw [← List.map_id (formsL w)]
  refine List.map_congr_left fun l hl => ?_
  obtain ⟨h1, h2⟩ := List.mem_filter.mp hl
  obtain ⟨m, hm, rfl⟩ := List.mem_map.mp h1
  refine form_form_part (parts_good w m hm) ?_
  intro e; rw [e] at h2; simp at h2
def sumK (st : Stk) : Rat := sumR (st.map fun e => sweptF (e.2 :: e.1.pts))
theorem sumK_cons (x : Sk) (q : P) (r : Stk) : sumK ((x, q) :: r) = sweptF (q :: x.pts) + sumK r := rfl
theorem gon_swept {a b c : P} (h : gonF a b c = true) : sweptF [a, b] + sweptF [b, c] = sweptF [a, c] := by
  rw [gon_iff] at h
  simp only [sweptF, crossF]
  have := h.1
  grind
theorem step_sum {p : P} {st : Stk} {x : Sk} {q : P} (he : endS p st = q) (hx : isBd x = true) : sumK (stepR st (x, q)) = sumK st + sweptF (q :: x.pts) := by
  have hp := plain_swept hx q
  rcases step_cases st x q with ⟨h1, h2⟩ | ⟨g, h, q', r, h1, h2, rfl, h4, h5⟩ | ⟨h1, h2, h3⟩
  · rw [h2, ← hp, h1]
    have : sweptF (q :: (Sk.ln q).pts) = 0 := swept_pp q
    rw [this]; grind
  · rw [h5, ← hp, h1, sumK_cons, sumK_cons]
    have hq : h = q := he
    subst hq
    have := gon_swept h4
    show sweptF [q', g] + _ = sweptF [q', h] + _ + sweptF [h, g]
    grind
  · rw [h3, sumK_cons, hp]; grind
theorem fold_sum {p : P} : ∀ (b : List Sk) (st : Stk) (q : P), (∀ x ∈ b, isBd x = true) → Chain p st → endS p st = q → sumK ((zb q b).foldl stepR st) = sumK st + sumR ((lnB q b).map sweptF)
  | [], st, q, _, _, _ => by simp [zb, lnB, sumR]; grind
  | x :: b, st, q, h, h1, h2 => by
    obtain ⟨k1, k2⟩ := chain_step h1 h2 (h x (by simp))
    show sumK ((zb (gl x) b).foldl stepR (stepR st (x, q))) = _
    rw [fold_sum b _ (gl x) (fun y hy => h y (List.mem_cons_of_mem _ hy)) k1 k2, step_sum h2 (h x (by simp))]
    show _ = _ + sumR (sweptF (q :: x.pts) :: (lnB (gl x) b).map sweptF)
    simp only [sumR]; grind
theorem close_sum {p : P} : ∀ (st : Stk), Chain p st → sumK (closeS p st) + sweptF [endS p (closeS p st), p] = sumK st + sweptF [endS p st, p]
  | [], _ => rfl
  | (x, q) :: r, h => by
    cases x with
    | ln g =>
      rw [closeS]
      split
      · rename_i hk
        rw [close_sum r h.2.2, sumK_cons, ← h.1]
        show _ = sweptF [q, g] + _ + sweptF [g, p]
        rcases hk with rfl | hk
        · rw [swept_pp]; grind
        · have := gon_swept hk; grind
      · rfl
    | _ => rfl
theorem strk_lines {p : P} : ∀ (st : Stk), Chain p st → lnB p (strk st) = st.reverse.map fun e => e.2 :: e.1.pts
  | [], _ => rfl
  | (x, q) :: r, h => by
    rw [strk_cons, lnB_app, strk_lines r h.2.2, strk_end r h.2.2, ← h.1]
    simp [lnB]
theorem closed_sum {l : List Sk} {p : P} {b t : List Sk} (h : Shp l p b t) (hl : 1 < l.length) : sumR ((closedL l).map sweptF) = sumR ((lnB p b).map sweptF) + sweptF [endB p b, p] := by
  rcases h.tl with rfl | rfl
  · rw [closed_open h hl, List.map_append, sumR_app]; simp only [List.map, sumR]; grind
  · rw [closed_shut h, List.map_append, sumR_app]; simp only [List.map, sumR, swept_pp]; grind
theorem area_form_part {l : List Sk} (h : Good1 l) : sumR ((linesL (formOf l)).map sweptF) = sumR ((closedL l).map sweptF) := by
  obtain ⟨⟨p, b, t, hs⟩, hl⟩ := h
  rw [closed_sum hs hl, formOf_shp hs]
  have hb := hs.bd
  obtain ⟨c1, c2⟩ := stk_chain (p := p) hb
  have s1 := fold_sum (p := p) b [] p hb trivial rfl
  have s1 : sumK (stkF p b) = sumR ((lnB p b).map sweptF) := by
    rw [stkF, s1]; simp only [sumK, List.map, sumR]; grind
  have k : sumK (endK p b t) + sweptF [endS p (endK p b t), p] = sumR ((lnB p b).map sweptF) + sweptF [endB p b, p] := by
    rw [endK]
    split
    · rw [s1, c2]
    · rw [close_sum _ c1, s1, c2]
  rw [← k]
  by_cases ne : endK p b t = []
  · rw [formP, if_pos ne, ne]
    show (0 : Rat) = 0 + sweptF [p, p]
    rw [swept_pp]; grind
  · have hf := form_shp hb hs.tl ne
    have hg := form_good (p := p) hb hs.tl ne
    have hc := endK_chain (p := p) (t := t) hb
    rw [linesL_one hg, closed_sum hf hg.2, strk_lines _ hc, strk_end _ hc, List.map_map, List.map_reverse, sumR_rev]
    rfl
theorem area_form (w : List Sk) : areaF (formF w) = areaF w := by
  have e : linesL (formF w) = (partsL w).flatMap fun l => linesL (formOf l) := by
    rw [formF_flatten, linesL_flatten (formsL_good w), formsL]
    have : ∀ (L : List (List Sk)), (∀ l ∈ L, Good1 l) → ((L.map formOf).filter fun l => !l.isEmpty).flatMap closedL = L.flatMap fun l => linesL (formOf l) := by
      intro L
      induction L with
      | nil => intro _; rfl
      | cons l L ih =>
        intro h
        rw [List.map_cons, List.filter_cons, List.flatMap_cons]
        have ih := ih fun m hm => h m (List.mem_cons_of_mem _ hm)
        by_cases e : formOf l = []
        · rw [e]
          simp only [List.isEmpty_nil, Bool.not_true, Bool.false_eq_true, if_false]
          rw [ih]; rfl
        · have : (!(formOf l).isEmpty) = true := by simpa using e
          rw [if_pos this, List.flatMap_cons, ih]
          congr 1
          obtain ⟨⟨p, b, t, hs⟩, _⟩ := h l (by simp)
          rw [formOf_shp hs] at e ⊢
          have ne : endK p b t ≠ [] := by intro k; rw [formP, if_pos k] at e; exact e rfl
          rw [linesL_one (form_good hs.bd hs.tl ne)]
    exact this _ (parts_good w)
  rw [areaF_eq, areaF_eq, e, linesL_flat, sumR_flatMap, sumR_flatMap]
  exact sumR_congr fun l hl => area_form_part (parts_good w l hl)
end Rf
namespace Rf
open PySem Dp
open Enc (enc)
theorem enc_lnR {p : P} : PyData.tuple [.str "line", enc p] = enc (Sk.ln p) := rfl
theorem enc_bwR {c p : P} : PyData.tuple [.str "bow", enc c, enc p] = enc (Sk.bw c p) := rfl
@[simp] theorem ix_ln1 {p : P} : dIdx (enc (Sk.ln p)) (.int 1) = .ok (enc p) := by rw [enc_ln]; simp
@[simp] theorem ix_bw1 {c p : P} : dIdx (enc (Sk.bw c p)) (.int 1) = .ok (enc c) := by rw [enc_bw]; simp
@[simp] theorem ix_bw2 {c p : P} : dIdx (enc (Sk.bw c p)) (.int 2) = .ok (enc p) := by rw [enc_bw]; simp
theorem g_three : g_THREE = enc (3 : Rat) := rfl
theorem g_halfE : g_HALF = enc (1 / 2 : Rat) := enc_half
section
variable {M k m : Nat} {x : Sk} {q : P} (gx : GS M k x) (gq : GP M k q) (fM : Ft m M) (hb : m + k < 1700)
include gx gq fM
theorem plain_g : GS (M * 2) (k + 4) (plainF x q) := by
  have up {p : P} (h : GP M k p) : GP (M * 2) (k + 4) p := (h.up (K := 2) (j := 1) (by decide)).mono (by omega)
  have hb (c : P) (h : GP M k c) : GP (M * 2) (k + 4) (pMul (1 / 2) (pSub (pMul 3 c) q)) := by
    have a : GP M (k + 2) (pMul 3 c) := ⟨by have := g_3.mulL h.1; exact this, by have := g_3.mulL h.2; exact this⟩
    have b : GP M (k + 3) (pSub (pMul 3 c) q) := a.sub (gq.mono (by omega))
    exact (GP.mul g_half b).mono (by omega)
  cases x with
  | wv c d p =>
    have gc := gx c (by simp [Sk.pts])
    have gd := gx d (by simp [Sk.pts])
    have gp := gx p (by simp [Sk.pts])
    simp only [plainF]
    split
    · split
      · intro r hr; simp [Sk.pts] at hr; subst hr; exact up gp
      · intro r hr; simp [Sk.pts] at hr; rcases hr with rfl | rfl
        · exact hb c gc
        · exact up gp
    · intro r hr; exact up (gx r hr)
  | bw c p =>
    simp only [plainF]
    split
    · intro r hr; simp [Sk.pts] at hr; subst hr; exact up (gx _ (by simp [Sk.pts]))
    · intro r hr; exact up (gx r hr)
  | _ => intro r hr; exact up (gx r hr)
include hb
theorem plainer_ok : f_plainer [enc x, enc q] = .ok (enc (plainF x q)) := by
  rw [f_plainer, run2, b_plainer]
  have oq := gq.okF fM (by omega) (by omega)
  have o3 : Ok 3 := g_3.okF ft_1 (by omega) (by omega)
  have oh : Ok (1 / 2) := g_half.okF ft_2 (by omega) (by omega)
  have bt {p : P} (gp : GP M k p) : f_between [enc q, enc p, enc (1 / 2 : Rat)] = .ok (enc (lerp q p (1 / 2))) := between_ok (l := 1) gq gp (g_half.mono (by omega)) fM (⟨by decide, by decide⟩ : Ft 1 2) (by omega)
  cases x with
  | mv p => simp [g_WAVE, g_BOW, isWv, isBw, plainF]
  | ln p => simp [g_WAVE, g_BOW, isWv, isBw, plainF]
  | sh => simp [g_WAVE, g_BOW, isWv, isBw, plainF]
  | bw c p =>
    have gp := gx p (by simp [Sk.pts])
    by_cases h : c = lerp q p (1 / 2)
    · simp [g_WAVE, g_BOW, g_LINE, isWv, isBw, plainF, enc_bw, g_halfE, bt gp, ← h, enc_lnR]
    · simp [g_WAVE, g_BOW, g_LINE, isWv, isBw, plainF, enc_bw, g_halfE, bt gp, h, enc_lnR]
  | wv c d p =>
    have gc := gx c (by simp [Sk.pts])
    have gd := gx d (by simp [Sk.pts])
    have gp := gx p (by simp [Sk.pts])
    have op := gp.okF fM (by omega) (by omega)
    have t3 {c : P} (gc : GP M k c) : f_scaled [enc (3 : Rat), enc c] = .ok (enc (pMul 3 c)) ∧ OkP (pMul 3 c) := by
      have a : GP M (k + 2) (pMul 3 c) := ⟨by have := g_3.mulL gc.1; exact this, by have := g_3.mulL gc.2; exact this⟩
      exact ⟨scaled_ok (gc.okF fM (by omega) (by omega)) o3, a.okF fM (by omega) (by omega)⟩
    obtain ⟨c1, c2⟩ := t3 gc
    obtain ⟨d1, d2⟩ := t3 gd
    have c3 := apart_ok oq c2
    have d3 := apart_ok op d2
    have gs : GP M (k + 3) (pSub (pMul 3 c) q) := by
      have a : GP M (k + 2) (pMul 3 c) := ⟨by have := g_3.mulL gc.1; exact this, by have := g_3.mulL gc.2; exact this⟩
      exact a.sub (gq.mono (by omega))
    have c4 := scaled_ok (gs.okF fM (by omega) (by omega)) oh
    by_cases h1 : pSub (pMul 3 c) q = pSub (pMul 3 d) p
    · have d3' := d3
      rw [← h1] at d3'
      by_cases h2 : pMul (1 / 2) (pSub (pMul 3 c) q) = lerp q p (1 / 2)
      · have e : plainF (.wv c d p) q = .ln p := by simp only [plainF, if_pos h1, if_pos h2]
        rw [h2] at c4
        have b1 := bt gp
        generalize lerp q p (1 / 2) = L at c4 b1
        simp [g_WAVE, g_BOW, g_LINE, isWv, isBw, enc_wv, g_three, g_halfE, c1, d1, c3, d3', c4, b1, enc_lnR, e]
      · have e : plainF (.wv c d p) q = .bw (pMul (1 / 2) (pSub (pMul 3 c) q)) p := by simp only [plainF, if_pos h1, if_neg h2]
        have b1 := bt gp
        rw [e]
        generalize lerp q p (1 / 2) = L at b1 h2
        generalize pMul (1 / 2) (pSub (pMul 3 c) q) = R at c4 h2
        simp [g_WAVE, g_BOW, g_LINE, isWv, isBw, enc_wv, g_three, g_halfE, c1, d1, c3, d3', c4, b1, h2, enc_bwR]
    · have e : plainF (.wv c d p) q = .wv c d p := by simp only [plainF, if_neg h1]
      rw [e]
      simp [g_WAVE, g_BOW, g_LINE, isWv, isBw, enc_wv, g_three, g_halfE, c1, d1, c3, d3, h1]
end
theorem goes_on_ok {M k m : Nat} {a b c : P} (ga : GP M k a) (gb : GP M k b) (gc : GP M k c) (fM : Ft m M) (hb : m + k < 1700) : f_goes_on [enc a, enc b, enc c] = .ok (.bool (gonF a b c)) := by
  rw [f_goes_on, run3, b_goes_on]
  have oa := ga.okF fM (by omega) (by omega)
  have ob := gb.okF fM (by omega) (by omega)
  have oc := gc.okF fM (by omega) (by omega)
  have gu := gb.sub ga
  have gv := gc.sub gb
  have ou := gu.okF fM (by omega) (by omega)
  have ov := gv.okF fM (by omega) (by omega)
  have g1 := gu.1.mul gv.1
  have g2 := gu.2.mul gv.2
  have f2 := fM.mul fM
  have o1 := g1.okF f2 (by omega) (by omega)
  have o2 := g2.okF f2 (by omega) (by omega)
  have o12 := (g1.add g2).okF f2 (by omega) (by omega)
  have z0 : Ok 0 := (g_zero M k).okF fM (by omega) (by omega)
  have n0 : g_NONE = enc (0 : Rat) := rfl
  have cr := cross_ok gu gv fM (by omega)
  simp [apart_ok oa ob, apart_ok ob oc, times_ok ou.1 ov.1, times_ok ou.2 ov.2, plus_ok o1 o2, cr, n0, is_less_ok z0 o12]
  rw [Bool.eq_iff_iff, gon_iff, Bool.and_eq_true, decide_eq_true_eq, decide_eq_true_eq]
  exact Iff.rfl
theorem ix_lastL {xs : List D} {d : D} : dIdx (.list (xs ++ [d])) (.int (-1)) = .ok d := by
  have e : L2.atI (xs ++ [d]) (-1) = some d := by
    unfold L2.atI L2.ixN
    rw [if_neg (by decide), if_pos (by simp; omega)]
    have e2 : ((-1 : Int) + ((xs ++ [d]).length : Int)).toNat = xs.length := by simp; omega
    rw [e2]; simp
  simp only [dIdx, e]
abbrev encK (st : Stk) : List D := st.reverse.map enc
theorem encK_cons (e : Sk × P) (st : Stk) : encK (e :: st) = encK st ++ [enc e] := by simp [encK]
/-- the body of the loop -/
def qForm : ISs :=
 (.cons (.set 2 (.call "plainer" f_plainer (.cons (.var 2) (.cons (.var 3) .nil))))
 (.cons (.ife (.cmp .NotEq (.var 2) (.tup (.cons (.glo "LINE" g_LINE) (.cons (.var 3) .nil))))
 (.cons (.set 4 (.tup (.cons .non (.cons .non .nil))))
 (.cons (.ife (.cmp .Gt (.lenO 1) (.int 0))
 (.cons (.set 4 (.idxO 1 (.neg (.int 1))))
 .nil)
 .nil)
 (.cons (.ife (.and (.cmp .Eq (.idx (.var 2) (.int 0)) (.glo "LINE" g_LINE)) (.and (.cmp .IsNot (.idx (.var 4) (.int 0)) .non) (.cmp .Eq (.idx (.idx (.var 4) (.int 0)) (.int 0)) (.glo "LINE" g_LINE))))
 (.cons (.ife (.call "goes_on" f_goes_on (.cons (.idx (.var 4) (.int 1)) (.cons (.var 3) (.cons (.idx (.var 2) (.int 1)) .nil))))
 (.cons (.set 3 (.idx (.var 4) (.int 1)))
 (.cons (.pop 1)
 .nil))
 .nil)
 .nil)
 .nil)
 (.cons (.app 1 (.tup (.cons (.var 2) (.cons (.var 3) .nil))))
 .nil))))
 .nil)
 (.cons (.kil [2, 3, 4])
 .nil)))
@[simp] theorem isnot_sk {x : Sk} : dCmp .IsNot (enc x) .none = .ok (.bool true) := by rw [enc_sk]; rfl
theorem pairK {x : Sk} {q : P} : enc (x, q) = PyData.tuple [enc x, enc q] := rfl
theorem isLn_ex {s : Sk} (h : isLn s = true) : ∃ g, s = .ln g := by cases s <;> simp_all [isLn]
/-- what one stroke does -/
theorem form_step {l : D} {st : Stk} {x : Sk} {q : P} {y : Sk} (hp : f_plainer [enc x, enc q] = .ok (enc y)) (hy : y = plainF x q) (hgo : ∀ h q' r g, st = (.ln h, q') :: r → y = .ln g → f_goes_on [enc q', enc q, enc g] = .ok (.bool (gonF q' q g))) (hl : st.length < 10000) :
    fE (.tu (.cons (.nm 2) (.cons (.nm 3) .nil))) qForm (enc (x, q)) [.im l, .ow (encK st), .un, .un, .un] = .nx [.im l, .ow (encK (stepR st (x, q))), .un, .un, .un] := by
  have l6 := lim6
  have ka : (encK st).length < LIM := by simp; omega
  have hst := step_cases st x q
  by_cases h0 : y = .ln q
  · have e : stepR st (x, q) = st := by
      rcases hst with ⟨_, h⟩ | ⟨g, h, q', r, h1, h2, _⟩ | ⟨h1, _⟩
      · exact h
      · rw [← hy, h0] at h1; cases h1; exact absurd rfl h2
      · rw [← hy, h0] at h1; exact absurd rfl h1
    rw [e]
    subst h0
    simp [fE, qForm, hp, g_LINE, enc_lnR]
  · have plain_app (hn : stepR st (x, q) = (y, q) :: st) (hno : ∀ h q' r g, st = (.ln h, q') :: r → y = .ln g → gonF q' q g = false) : fE (.tu (.cons (.nm 2) (.cons (.nm 3) .nil))) qForm (enc (x, q)) [.im l, .ow (encK st), .un, .un, .un] = .nx [.im l, .ow (encK (stepR st (x, q))), .un, .un, .un] := by
      rw [hn, encK_cons (y, q) st]
      rcases st with _ | ⟨⟨z, q'⟩, r⟩
      · by_cases hL : isLn y = true
        · simp [fE, qForm, hp, g_LINE, enc_lnR, h0, hL, pairK]
        · simp [fE, qForm, hp, g_LINE, enc_lnR, h0, hL, pairK]
      · have i1 : dIdx (.list (encK ((z, q') :: r))) (.int (-1)) = .ok (enc (z, q')) := by rw [encK_cons]; exact ix_lastL
        have kl : 0 < (encK ((z, q') :: r)).length := by simp
        by_cases hL : isLn y = true
        · by_cases hZ : isLn z = true
          · obtain ⟨g, rfl⟩ := isLn_ex hL
            obtain ⟨h, rfl⟩ := isLn_ex hZ
            have hgq : ¬ g = q := fun e => h0 (by rw [e])
            have e1 := hgo h q' r g rfl rfl
            rw [hno h q' r g rfl rfl] at e1
            generalize encK ((Sk.ln h, q') :: r) = E at i1 ka kl
            simp [fE, qForm, hp, g_LINE, enc_lnR, hgq, i1, kl, ka, isLn, e1, pairK]
          · generalize encK ((z, q') :: r) = E at i1 ka kl
            simp [fE, qForm, hp, g_LINE, enc_lnR, h0, i1, kl, ka, hL, hZ, pairK]
        · generalize encK ((z, q') :: r) = E at i1 ka kl
          simp [fE, qForm, hp, g_LINE, enc_lnR, h0, i1, kl, ka, hL, pairK]
    rcases hst with ⟨h1, _⟩ | ⟨g, h, q', r, h1, h2, h3, h4, h5⟩ | ⟨h1, h2, h3⟩
    · rw [← hy] at h1; exact absurd h1 h0
    · subst h3
      rw [← hy] at h1
      subst h1
      have e1 := hgo h q' r g rfl rfl
      rw [h4] at e1
      rw [h5, encK_cons (Sk.ln g, q') r]
      have i1 : dIdx (.list (encK ((Sk.ln h, q') :: r))) (.int (-1)) = .ok (enc (Sk.ln h, q')) := by rw [encK_cons]; exact ix_lastL
      have kl : 0 < (encK ((Sk.ln h, q') :: r)).length := by simp
      have ke : (encK ((Sk.ln h, q') :: r)).isEmpty = false := by rw [encK_cons]; simp
      have kd : (encK ((Sk.ln h, q') :: r)).dropLast = encK r := by rw [encK_cons]; simp
      have kr : (encK r).length < LIM := by
        have : (encK r).length = r.length := by simp
        simp at hl; omega
      generalize encK ((Sk.ln h, q') :: r) = E at i1 ka kl ke kd
      generalize encK r = E' at kd kr
      simp [fE, qForm, hp, g_LINE, enc_lnR, h2, i1, kl, ka, isLn, e1, pairK, ke, kd, kr]
    · refine plain_app (by rw [h3, hy]) fun h q' r g e1 e2 => h2 g h q' r (by rw [← hy]; exact e2) e1
theorem strk_len (st : Stk) : (strk st).length = st.length := by simp [strk]
theorem step_len (st : Stk) (e : Sk × P) : (stepR st e).length ≤ st.length + 1 := by
  rcases step_cases st e.1 e.2 with ⟨_, h⟩ | ⟨g, h, q', r, h1, h2, rfl, h4, h5⟩ | ⟨_, _, h⟩
  · rw [h]; omega
  · rw [h5]; simp
  · rw [h]; simp
theorem fold_len : ∀ (L : List (Sk × P)) (st : Stk), (L.foldl stepR st).length ≤ st.length + L.length
  | [], st => by simp
  | e :: L, st => by
    have := fold_len L (stepR st e)
    have := step_len st e
    simp only [List.foldl_cons, List.length_cons]; omega
theorem stk_len (p : P) (b : List Sk) : (stkF p b).length ≤ b.length := by
  have := fold_len (zb p b) []
  rw [zb_len] at this
  show ((zb p b).foldl stepR []).length ≤ _
  simpa using this
theorem close_len (p : P) : ∀ st : Stk, (closeS p st).length ≤ st.length
  | [] => Nat.le_refl _
  | (x, q) :: r => by
    cases x with
    | ln g =>
      rw [closeS]
      split
      · have := close_len p r; simp only [List.length_cons]; omega
      · exact Nat.le_refl _
    | _ => exact Nat.le_refl _
theorem endK_len (p : P) (b t : List Sk) : (endK p b t).length ≤ b.length := by
  have h := stk_len p b
  rw [endK]
  split
  · exact h
  · exact Nat.le_trans (close_len p _) h
/-- of good size: strokes and pens -/
theorem zb_g {M k : Nat} : ∀ (b : List Sk) (p : P), GP M k p → (∀ x ∈ b, isBd x = true ∧ GS M k x) → ∀ e ∈ zb p b, GS M k e.1 ∧ GP M k e.2 ∧ GP M k (gl e.1) ∧ isBd e.1 = true
  | [], p, _, _, e, he => by simp [zb] at he
  | x :: b, p, hp, h, e, he => by
    have hx := h x (by simp)
    have hg : GP M k (gl x) := by
      refine hx.2 _ ?_
      cases x <;> simp_all [isBd, isMv, isSh, gl, endOf, Sk.pts]
    rcases List.mem_cons.mp he with rfl | he
    · exact ⟨hx.2, hp, hg, hx.1⟩
    · exact zb_g b _ hg (fun y hy => h y (List.mem_cons_of_mem _ hy)) e he
/-- all of a stack: pens of good size, goals too -/
def GK (M k : Nat) (st : Stk) : Prop := ∀ e ∈ st, GP M k e.2 ∧ GP M k (gl e.1)
theorem step_gk {M k : Nat} {st : Stk} {e : Sk × P} (h : GK M k st) (h1 : GP M k e.2) (h2 : GP M k (gl e.1)) : GK M k (stepR st e) := by
  have hg := plain_gl e.1 e.2
  rcases step_cases st e.1 e.2 with ⟨_, k0⟩ | ⟨g, h', q', r, k1, k2, rfl, k4, k5⟩ | ⟨_, _, k0⟩
  · rw [show e = (e.1, e.2) from rfl, k0]; exact h
  · rw [show e = (e.1, e.2) from rfl, k5]
    intro f hf
    rcases List.mem_cons.mp hf with rfl | hf
    · refine ⟨(h _ (List.mem_cons_self ..)).1, ?_⟩
      rw [k1] at hg
      show GP M k (gl (Sk.ln g))
      rw [hg]; exact h2
    · exact h f (List.mem_cons_of_mem _ hf)
  · rw [show e = (e.1, e.2) from rfl, k0]
    intro f hf
    rcases List.mem_cons.mp hf with rfl | hf
    · refine ⟨h1, ?_⟩
      show GP M k (gl (plainF e.1 e.2))
      rw [hg]; exact h2
    · exact h f hf
theorem fold_gk {M k : Nat} : ∀ (L : List (Sk × P)) (st : Stk), GK M k st → (∀ e ∈ L, GP M k e.2 ∧ GP M k (gl e.1)) → GK M k (L.foldl stepR st)
  | [], st, h, _ => h
  | e :: L, st, h, g => fold_gk L _ (step_gk h (g e (by simp)).1 (g e (by simp)).2) fun f hf => g f (List.mem_cons_of_mem _ hf)
/-- the loop over a body -/
theorem form_loop {M k m : Nat} {l : D} (fM : Ft m M) (hb : m + k < 1700) (rest : List D) : ∀ (L : List (Sk × P)) (st : Stk), GK M k st → (∀ e ∈ L, GS M k e.1 ∧ GP M k e.2 ∧ GP M k (gl e.1)) → st.length + L.length < 10000 → forGo (fE (.tu (.cons (.nm 2) (.cons (.nm 3) .nil))) qForm) (L.map enc ++ rest) [.im l, .ow (encK st), .un, .un, .un] = forGo (fE (.tu (.cons (.nm 2) (.cons (.nm 3) .nil))) qForm) rest [.im l, .ow (encK (L.foldl stepR st)), .un, .un, .un]
  | [], st, _, _, _ => rfl
  | e :: L, st, hk, h, hl => by
    obtain ⟨h1, h2, h3⟩ := h e (by simp)
    have pl := plainer_ok h1 h2 fM hb
    simp only [List.length_cons] at hl
    have s := form_step (l := l) (st := st) (x := e.1) (q := e.2) pl rfl (fun h' q' r g e1 e2 => by
      have hq := (hk (.ln h', q') (by rw [e1]; simp)).1
      have hg : GP M k g := by
        have := plain_gl e.1 e.2
        rw [e2] at this
        have e3 : gl (Sk.ln g) = g := rfl
        rw [e3] at this
        rw [this]; exact h3
      exact goes_on_ok hq h2 hg fM hb) (by omega)
    rw [List.map_cons, List.cons_append, forGo, show enc e = enc (e.1, e.2) from rfl, s]
    simp only
    rw [form_loop fM hb rest L _ (step_gk hk h2 h3) (fun f hf => h f (List.mem_cons_of_mem _ hf)) (by have : (stepR st (e.1, e.2)).length ≤ st.length + 1 := step_len st (e.1, e.2); show (stepR st (e.1, e.2)).length + _ < _; omega)]
    rfl
theorem formed_ok {M k m : Nat} {l : List Sk} {p : P} {b t : List Sk} (h : Shp l p b t) (hw : GW M k l) (fM : Ft m M) (hb : m + k < 1700) (hn : l.length < 1000) : f_formed [enc l] = .ok (encL (strk (stkF p b) ++ t)) := by
  rw [f_formed, run1, show b_formed = (.cons (.new 1 .nil) (.cons (.fr (.tu (.cons (.nm 2) (.cons (.nm 3) .nil))) (.seq (.slc (.zipl (.var 0) (.call "pens" f_pens (.cons (.var 0) .nil))) (.some (.int 1)) .none)) qForm) (.cons (.kil [2, 3, 4]) (.cons (.frz 1) (.cons (.ret (.lc [("stroke", 2), ("pen", 3)] (.tu (.cons (.nm 2) (.cons (.nm 3) .nil))) (.seq (.var 1)) .none (.var 2))) .nil))))) from rfl]
  have l6 := lim6
  have hp := pens_ok (w := l) hn
  have hpl := pens_len l
  have zl := zipl_E (xs := l) (ys := pensL l) (by omega) (by omega)
  have zd : (l.zip (pensL l)).drop 1 = zpP ⟨p, p, false⟩ (b ++ t) := by rw [pensL_R, zip_pens, h.e]; rfl
  have s1 : dSlc (encL (l.zip (pensL l))) (some 1) none = .ok (encL (zpP ⟨p, p, false⟩ (b ++ t))) := by
    have := slcL_from (xs := l.zip (pensL l)) (k := 1)
    rw [zd] at this
    exact this
  have hlb : l.length = 1 + b.length + t.length := by rw [h.e]; simp; omega
  have gp : GP M k p := hw (.mv p) (by rw [h.e]; simp) p (by simp [Sk.pts])
  have gb : ∀ x ∈ b, isBd x = true ∧ GS M k x := fun x hx => ⟨h.bd x hx, hw x (by rw [h.e]; simp [hx])⟩
  have gz := zb_g b p gp gb
  have eb : zpP ⟨p, p, false⟩ b = zb p b := zpP_body b h.bd _
  have rb := (lnsP_body b h.bd ⟨p, p, false⟩).2
  have lp0 := fun rest => form_loop (l := enc l) fM hb rest (zb p b) [] (by intro e he; simp at he) (fun e he => ⟨(gz e he).1, (gz e he).2.1, (gz e he).2.2.1⟩) (by rw [zb_len]; simp; omega)
  have lp : forGo (fE (.tu (.cons (.nm 2) (.cons (.nm 3) .nil))) qForm) ((zb p b).map enc) [.im (enc l), .ow [], .un, .un, .un] = .nx [.im (enc l), .ow (encK (stkF p b)), .un, .un, .un] := by
    have := lp0 []
    rw [List.append_nil] at this
    exact this
  have sl := stk_len p b
  have lcK : ∀ (X : Stk), X.length ≤ 3000 → ∀ c0 c4, lcGo (lE [("stroke", 2), ("pen", 3)] (.tu (.cons (.nm 2) (.cons (.nm 3) .nil))) .none (.var 2) [c0, .im (.list (encK X)), .un, .un, c4]) (encK X) = .ok ((strk X).map enc) := by
    intro X hX c0 c4
    rw [encK, lcGo_all (fun e : Sk × P => enc e.1), strk, List.map_map]; rfl
    intro e he
    simp [lE]
  have ilen : (zpP ⟨p, p, false⟩ (b ++ t)).length ≤ LIM := by
    have : ∀ (w : List Sk) (s : Ps), (zpP s w).length = w.length := by
      intro w
      induction w with
      | nil => intro s; rfl
      | cons x w ih => intro s; rw [zpP, List.length_cons, ih, List.length_cons]
    rw [this]; simp; omega
  have itl := it_L (xs := zpP ⟨p, p, false⟩ (b ++ t)) ilen
  have kL {X : Stk} (hX : X.length ≤ 3000) : (encK X).length ≤ LIM := by simp; omega
  rcases h.tl with rfl | rfl
  · rw [List.append_nil] at s1 itl
    rw [eb] at s1 itl
    have k1 := kL (X := stkF p b) (by omega)
    have k2 := lcK (stkF p b) (by omega) (.im (enc l)) .un
    generalize hE : encK (stkF p b) = E at k1 k2 lp
    simp only [Nat.reduceSub, List.replicate] at *
    simp [hp, zl, s1, itl, lp, k1, k2, -List.map_reverse]
    rw [encL, strk, List.map_map]
  · have ez : zpP ⟨p, p, false⟩ (b ++ [.sh]) = zb p b ++ [(Sk.sh, endB p b)] := by rw [zpP_app, eb, rb]; rfl
    rw [ez] at s1 itl
    have ge : GP M k (endB p b) := by
      have : ∀ (b : List Sk) (p : P), GP M k p → (∀ x ∈ b, isBd x = true ∧ GS M k x) → GP M k (endB p b) := by
        intro b
        induction b with
        | nil => intro p hp _; exact hp
        | cons x b ih =>
          intro p hp h
          have hx := h x (by simp)
          refine ih _ (hx.2 _ ?_) fun y hy => h y (List.mem_cons_of_mem _ hy)
          have := hx.1
          cases x <;> simp_all [isBd, isMv, isSh, gl, endOf, Sk.pts]
      exact this b p gp gb
    have st := form_step (l := enc l) (st := stkF p b) (x := .sh) (q := endB p b) (plainer_ok (by intro r hr; simp [Sk.pts] at hr) ge fM hb) rfl (fun h' q' r g _ e2 => by cases e2) (by omega)
    have e1 : stepR (stkF p b) (.sh, endB p b) = (.sh, endB p b) :: stkF p b := rfl
    rw [e1] at st
    have lp2 : forGo (fE (.tu (.cons (.nm 2) (.cons (.nm 3) .nil))) qForm) ((zb p b ++ [(Sk.sh, endB p b)]).map enc) [.im (enc l), .ow [], .un, .un, .un] = .nx [.im (enc l), .ow (encK ((.sh, endB p b) :: stkF p b)), .un, .un, .un] := by
      rw [List.map_append]
      have := lp0 ([(Sk.sh, endB p b)].map enc)
      refine Eq.trans this ?_
      show forGo _ [enc (Sk.sh, endB p b)] [.im (enc l), .ow (encK (stkF p b)), .un, .un, .un] = _
      simp only [forGo, st]
    have k1 := kL (X := (.sh, endB p b) :: stkF p b) (by simp; omega)
    have k2 := lcK ((.sh, endB p b) :: stkF p b) (by simp; omega) (.im (enc l)) .un
    have k3 : strk ((.sh, endB p b) :: stkF p b) = strk (stkF p b) ++ [.sh] := strk_cons _ _ _
    rw [k3] at k2
    generalize hE : encK ((.sh, endB p b) :: stkF p b) = E at k1 k2 lp2
    generalize hS : strk (stkF p b) ++ [.sh] = S at k2
    generalize hZ : (zb p b ++ [(Sk.sh, endB p b)]).map enc = Z at itl lp2
    simp only [Nat.reduceSub, List.replicate] at *
    simp [hp, zl, s1, itl, lp2, k1, k2]
    rfl
end Rf
namespace Rf
open PySem Dp
open Enc (enc)
theorem ix_E3 {α : Type} [Enc α] {xs : List α} {a : α} (h : 3 ≤ xs.length) (g : xs[xs.length - 3]? = some a) : dIdx (enc xs) (.int (-3)) = .ok (enc a) := by
  have e : L2.atI (xs.map enc) (-3) = some (enc a) := by
    unfold L2.atI L2.ixN
    simp only [List.length_map]
    rw [if_neg (by decide), if_pos (by omega)]
    have e2 : ((-3 : Int) + (xs.length : Int)).toNat = xs.length - 3 := by omega
    rw [e2]
    simp [g]
  rw [enc_list]
  simp only [dIdx, e]
theorem cut_m2 {xs : List D} : cutD xs none (some (-2)) = xs.take (xs.length - 2) := by
  have e : HT.sIx xs.length xs.length (some (-2)) = xs.length - 2 := by
    show (if (-2 : Int) < 0 then (-2 + (xs.length : Int)).toNat else min (-2 : Int).toNat xs.length) = _
    rw [if_pos (by decide)]; omega
  rw [cutD, HT.sIx_none, e, List.drop_zero, Nat.sub_zero]
theorem slcL_m2 {α : Type} [Enc α] {xs : List α} : dSlc (encL xs) none (some (-2)) = .ok (encL (xs.take (xs.length - 2))) := by
  rw [encL, encL, slc_L, cut_m2, List.map_take, List.length_map]
theorem slcL_m1 {α : Type} [Enc α] {xs : List α} : dSlc (encL xs) (some (-1)) none = .ok (encL (xs.drop (xs.length - 1))) := by
  rw [encL, encL, slc_L, cut_last, List.map_drop, List.length_map]
theorem addL_E {α : Type} [Enc α] {xs ys : List α} (h : xs.length + ys.length ≤ LIM) : dBin .Add (encL xs) (encL ys) = .ok (encL (xs ++ ys)) := by
  rw [encL, encL, b_addL, if_pos (by simpa using h), encL, List.map_append]
/-- whether a shut draws the last line, too -/
def closB (p : P) (st : Stk) : Bool := match st with
  | (.ln g, q) :: _ => decide (g = p) || gonF q g p
  | _ => false
theorem closeS_eq (p : P) (st : Stk) : closeS p st = match st with
  | [] => []
  | e :: r => if closB p (e :: r) = true then closeS p r else e :: r := by
  rcases st with _ | ⟨⟨x, q⟩, r⟩
  · rfl
  · cases x with
    | ln g =>
      rw [closeS]
      simp only [closB, Bool.or_eq_true, decide_eq_true_eq]
    | _ => simp [closeS, closB]
theorem is_closed_ok {M k m : Nat} {p : P} {st : Stk} {t : List Sk} (hc : Chain p st) (hk : GK M k st) (gp : GP M k p) (ht : t = [] ∨ t = [.sh]) (fM : Ft m M) (hb : m + k < 1700) (hl : st.length < 900) : f_is_closed_by_shut [enc (Sk.mv p :: (strk st ++ t))] = .ok (.bool (!t.isEmpty && closB p st)) := by
  rw [f_is_closed_by_shut, run1, b_is_closed_by_shut]
  have sl := strk_len st
  rcases ht with rfl | rfl
  · obtain ⟨x, hx, hs⟩ : ∃ x, (Sk.mv p :: (strk st ++ [])).getLast? = some x ∧ isSh x = false := by
      rcases st with _ | ⟨⟨y, q⟩, r⟩
      · exact ⟨.mv p, by simp [strk], rfl⟩
      · refine ⟨y, ?_, isBd_sh hc.2.1⟩
        rw [List.append_nil, strk_cons, ← List.cons_append, List.getLast?_concat]
    have i1 := ix_Elast hx
    generalize Sk.mv p :: (strk st ++ []) = W at i1 ⊢
    simp [i1, hs, g_SHUT]
  · have i1 : dIdx (enc (Sk.mv p :: (strk st ++ [Sk.sh]))) (.int (-1)) = .ok (enc Sk.sh) := ix_Elast (by rw [← List.cons_append, List.getLast?_concat])
    have hlen : (Sk.mv p :: (strk st ++ [Sk.sh])).length = st.length + 2 := by simp [strk_len]
    rcases st with _ | ⟨⟨y, q⟩, r⟩
    · have i2 : dIdx (enc (Sk.mv p :: (strk [] ++ [Sk.sh]))) (.int (-2)) = .ok (enc (Sk.mv p)) := ix_E2 (by simp) rfl
      generalize Sk.mv p :: (strk [] ++ [Sk.sh]) = W at i1 i2 ⊢
      simp [i1, i2, g_SHUT, g_LINE, isSh, isLn, closB]
    · have i2 : dIdx (enc (Sk.mv p :: (strk ((y, q) :: r) ++ [Sk.sh]))) (.int (-2)) = .ok (enc y) := by
        refine ix_E2 (by simp) ?_
        rw [hlen, strk_cons]
        have : (Sk.mv p :: (strk r ++ [y] ++ [Sk.sh]))[(strk r).length + 1]? = some y := by
          rw [List.getElem?_cons_succ, List.append_assoc, List.getElem?_append_right (Nat.le_refl _)]; simp
        have e : ((y, q) :: r).length + 2 - 2 = (strk r).length + 1 := by rw [strk_len]; simp
        rw [e]; exact this
      by_cases hL : isLn y = true
      · obtain ⟨g, rfl⟩ := isLn_ex hL
        have i0 : dIdx (enc (Sk.mv p :: (strk ((Sk.ln g, q) :: r) ++ [Sk.sh]))) (.int 0) = .ok (enc (Sk.mv p)) := ix_E (i := 0) rfl
        have hp := pens_ok (w := Sk.mv p :: (strk ((Sk.ln g, q) :: r) ++ [Sk.sh])) (by rw [hlen]; omega)
        have hpl := pens_len (Sk.mv p :: (strk ((Sk.ln g, q) :: r) ++ [Sk.sh]))
        have i3 : dIdx (enc (pensL (Sk.mv p :: (strk ((Sk.ln g, q) :: r) ++ [Sk.sh])))) (.int (-3)) = .ok (enc q) := by
          refine ix_E3 (by rw [hpl, hlen]; omega) ?_
          rw [hpl, hlen]
          have e : ((Sk.ln g, q) :: r).length + 2 + 1 - 3 = r.length + 1 := by simp
          rw [e, pens_get (by rw [hlen]; simp)]
          have := runP_take (Sk.mv p :: (strk ((Sk.ln g, q) :: r) ++ [Sk.sh])) (r.length + 1) (by rw [hlen]; simp)
          have e4 : (Sk.mv p :: (strk ((Sk.ln g, q) :: r) ++ [Sk.sh])).take (r.length + 1) = .mv p :: strk r := by
            rw [strk_cons, List.take_succ_cons]
            congr 1
            rw [List.append_assoc, List.take_append_of_le_length (by rw [strk_len]; omega), List.take_of_length_le (by rw [strk_len]; omega)]
          rw [e4] at this
          have e5 : (runP ps0 (.mv p :: strk r)).pen = q := by
            show (runP ⟨p, p, false⟩ (strk r)).pen = q
            rw [(lnsP_body (strk r) (strk_bd r hc.2.2) ⟨p, p, false⟩).2]
            show endB p (strk r) = q
            rw [strk_end r hc.2.2, ← hc.1]
          rw [this] at e5
          exact congrArg some e5
        have gk := hk _ (List.mem_cons_self ..)
        have go := goes_on_ok gk.1 gk.2 gp fM hb
        have go : f_goes_on [enc q, enc g, enc p] = .ok (.bool (gonF q g p)) := go
        generalize Sk.mv p :: (strk ((Sk.ln g, q) :: r) ++ [Sk.sh]) = W at *
        generalize pensL W = PW at hp i3
        simp [i0, i1, i2, i3, hp, g_SHUT, g_LINE, isSh, isLn, closB, ix_mv1, go]
      · have hL : isLn y = false := by simpa using hL
        have hcl : closB p ((y, q) :: r) = false := by cases y <;> simp_all [closB, isLn]
        generalize Sk.mv p :: (strk ((y, q) :: r) ++ [Sk.sh]) = W at *
        simp [i1, i2, g_SHUT, g_LINE, isSh, hL, hcl]
theorem close_gk {M k : Nat} {p : P} : ∀ (st : Stk), GK M k st → GK M k (closeS p st)
  | [], h => h
  | (x, q) :: r, h => by
    cases x with
    | ln g =>
      rw [closeS]
      split
      · exact close_gk r fun e he => h e (List.mem_cons_of_mem _ he)
      · exact h
    | _ => exact h
theorem in_form {S : List Sk} : dCmp .In (encL S) (.tuple [.list [], .list [.tuple [.str "shut"]]]) = .ok (.bool (decide (S = [] ∨ S = [Sk.sh]))) := by
  have g := encL_good S
  have g1 := encL_good ([] : List Sk)
  have g2 := encL_good [Sk.sh]
  have e1 : (PyData.eqv (.list []) (encL S)) = decide (S = []) := by
    rw [Bool.eq_iff_iff, decide_eq_true_eq]
    exact (eqv_pl (encL ([] : List Sk)) (encL S) g1.pln g.pln).trans ⟨fun h => (encL_inj.mp h).symm, fun h => by rw [h]⟩
  have e2 : (PyData.eqv (.list [.tuple [.str "shut"]]) (encL S)) = decide (S = [Sk.sh]) := by
    rw [Bool.eq_iff_iff, decide_eq_true_eq]
    exact (eqv_pl (encL [Sk.sh]) (encL S) g2.pln g.pln).trans ⟨fun h => (encL_inj.mp h).symm, fun h => by rw [h]⟩
  have c : PyData.canLayAll0 [.list [], .list [.tuple [.str "shut"]]] = true := by decide +kernel
  have s : SeqAt.shaped (encL S) = true := g.sh (by decide)
  have dp : PyData.depth (encL S) ≤ 60 := Nat.le_trans g.dep (by decide)
  have h1 : dIn (encL S) (.tuple [.list [], .list [.tuple [.str "shut"]]]) = .ok (decide (S = [] ∨ S = [Sk.sh])) := by
    have hf : (flatD (encL S) && ([PyData.list [], .list [.tuple [.str "shut"]]]).all flatD) = false := by simp [flatD, encL]
    have hs : ((SeqAt.shaped (encL S) && PyData.canLayAll0 [PyData.list [], .list [.tuple [.str "shut"]]]) && decide (PyData.depth (encL S) ≤ 60)) = true := by rw [s, c, decide_eq_true dp]; rfl
    simp only [dIn]
    rw [if_neg (by rw [hf]; simp), if_pos hs]
    congr 1
    simp only [List.any_cons, List.any_nil, Bool.or_false, e1, e2]
    rw [Bool.eq_iff_iff]; simp
  have h2 : dCmp .In (encL S) (.tuple [.list [], .list [.tuple [.str "shut"]]]) = (dIn (encL S) (.tuple [.list [], .list [.tuple [.str "shut"]]]) >>= fun k => Res.ok (PyData.bool k)) := rfl
  rw [h2, h1]; rfl
theorem form_part_ok {M k m : Nat} {l : List Sk} {p : P} {b t : List Sk} (h : Shp l p b t) (hw : GW M k l) (fM : Ft m M) (hb : m + k < 1700) (hn : l.length < 900) : f_form_of_part [enc l] = .ok (enc (formP p b t)) := by
  rw [f_form_of_part, run1, b_form_of_part]
  have l6 := lim6
  have fo := formed_ok h hw fM hb (by omega)
  have hlb : l.length = 1 + b.length + t.length := by rw [h.e]; simp; omega
  have sl := stk_len p b
  have gp : GP M k p := hw (.mv p) (by rw [h.e]; simp) p (by simp [Sk.pts])
  have gb : ∀ x ∈ b, isBd x = true ∧ GS M k x := fun x hx => ⟨h.bd x hx, hw x (by rw [h.e]; simp [hx])⟩
  have gz := zb_g b p gp gb
  have gk : GK M k (stkF p b) := fold_gk (zb p b) [] (by intro e he; simp at he) fun e he => ⟨(gz e he).2.1, (gz e he).2.2.1⟩
  have hc := (stk_chain (p := p) h.bd).1
  have t1 : dSlc (enc l) none (some 1) = .ok (enc [Sk.mv p]) := by
    have := slc_to (xs := l) (k := 1)
    have e : l.take 1 = [Sk.mv p] := by rw [h.e]; rfl
    rw [e] at this; exact this
  have tup {S : List Sk} : dBi .tuple [encL S] = .ok (enc S) := rfl
  have add {S : List Sk} (hS : S.length < 2000) : dBin .Add (enc [Sk.mv p]) (enc S) = .ok (enc (Sk.mv p :: S)) := b_addE (by simp; omega)
  have test : ∀ st : Stk, Chain p st → GK M k st → st.length < 900 → tE (.call "is_closed_by_shut" f_is_closed_by_shut (.cons (.bin .Add (.slc (.var 0) .none (.some (.int 1))) (.bi .tuple (.cons (.var 1) .nil))) .nil)) [.im (enc l), .im (encL (strk st ++ t))] = .ok (!t.isEmpty && closB p st) := by
    intro st c g hl
    have := is_closed_ok c g gp h.tl fM hb hl
    have hS : (strk st ++ t).length < 2000 := by
      rw [List.length_append, strk_len]; omega
    simp [tE, t1, tup, add hS, this]
  have loop : ∀ (st : Stk), Chain p st → GK M k st → st.length < 900 → ∀ n, st.length < n → whlGo (tE (.call "is_closed_by_shut" f_is_closed_by_shut (.cons (.bin .Add (.slc (.var 0) .none (.some (.int 1))) (.bi .tuple (.cons (.var 1) .nil))) .nil))) (sE (.cons (.set 1 (.bin .Add (.slc (.var 1) .none (.some (.neg (.int 2)))) (.slc (.var 1) (.some (.neg (.int 1))) .none))) .nil)) n [.im (enc l), .im (encL (strk st ++ t))] = .nx [.im (enc l), .im (encL (strk (if t = [] then st else closeS p st) ++ t))] := by
    intro st
    induction st with
    | nil =>
      intro c g hl n hn
      obtain ⟨n, rfl⟩ : ∃ k, n = k + 1 := ⟨n - 1, by omega⟩
      have := test [] c g hl
      rw [show closB p [] = false from rfl, Bool.and_false] at this
      rw [whl_f this]
      have e : (if t = [] then ([] : Stk) else closeS p []) = [] := by split <;> rfl
      rw [e]
    | cons e r ih =>
      intro c g hl n hn
      obtain ⟨n, rfl⟩ : ∃ k, n = k + 1 := ⟨n - 1, by omega⟩
      have tst := test (e :: r) c g hl
      by_cases hcl : (!t.isEmpty && closB p (e :: r)) = true
      · rw [hcl] at tst
        rw [Bool.and_eq_true] at hcl
        have ht : t = [.sh] := by
          rcases h.tl with rfl | rfl
          · simp at hcl
          · rfl
        have e1 : closeS p (e :: r) = closeS p r := by rw [closeS_eq]; simp [hcl.2]
        have n1 : ¬ t = [] := by rw [ht]; simp
        rw [if_neg n1, e1]
        have s1 : dSlc (encL (strk (e :: r) ++ t)) none (some (-2)) = .ok (encL (strk r)) := by
          rw [slcL_m2, ht, show e = (e.1, e.2) from rfl, strk_cons]
          congr 2
          simp
        have s2 : dSlc (encL (strk (e :: r) ++ t)) (some (-1)) none = .ok (encL t) := by
          rw [slcL_m1, ht, show e = (e.1, e.2) from rfl, strk_cons]
          congr 2
          have : (strk r ++ [e.1] ++ [Sk.sh]).length - 1 = (strk r ++ [e.1]).length := by simp
          rw [this, List.drop_left]
        have s3 : dBin .Add (encL (strk r)) (encL t) = .ok (encL (strk r ++ t)) := addL_E (by rw [strk_len]; simp at hl; omega)
        rw [whl_t (ρ' := [.im (enc l), .im (encL (strk r ++ t))]) tst (by simp [sE, s1, s2, s3])]
        have := ih c.2.2 (fun f hf => g f (List.mem_cons_of_mem _ hf)) (by simp at hl; omega) n (by simp at hn; omega)
        rw [if_neg n1] at this
        exact this
      · have hcl : (!t.isEmpty && closB p (e :: r)) = false := by simpa using hcl
        rw [hcl] at tst
        rw [whl_f tst]
        have e1 : (if t = [] then (e :: r) else closeS p (e :: r)) = e :: r := by
          rcases h.tl with rfl | rfl
          · simp
          · rw [if_neg (by simp), closeS_eq]
            have : closB p (e :: r) = false := by simpa using hcl
            simp [this]
        rw [e1]
  have fu : (stkF p b).length < FUEL := by
    have := dbig9; have := dbig_lt; omega
  have lp := loop (stkF p b) hc gk (by omega) FUEL fu
  rw [show (if t = [] then stkF p b else closeS p (stkF p b)) = endK p b t from rfl] at lp
  have el := endK_len p b t
  have hS : (strk (endK p b t) ++ t).length < 2000 := by
    rw [List.length_append, strk_len]; omega
  have inn := in_form (S := strk (endK p b t) ++ t)
  have cond : (strk (endK p b t) ++ t = [] ∨ strk (endK p b t) ++ t = [Sk.sh]) ↔ endK p b t = [] := by
    have cb := strk_bd _ (endK_chain (p := p) (t := t) h.bd)
    constructor
    · intro hh
      cases hE : endK p b t with
      | nil => rfl
      | cons e r =>
        rw [hE] at hh cb
        rw [show e = (e.1, e.2) from rfl, strk_cons] at hh cb
        exfalso
        rcases hh with hh | hh
        · simp at hh
        · have : strk r = [] ∧ e.1 = Sk.sh := by
            rcases hr : strk r with _ | ⟨y, ys⟩
            · rw [hr] at hh; simp at hh; exact ⟨rfl, hh.1⟩
            · rw [hr] at hh; simp at hh
          have b1 := cb e.1 (by simp)
          rw [this.2] at b1
          simp [isBd, isMv, isSh] at b1
    · intro hh
      rw [hh]
      rcases h.tl with rfl | rfl
      · exact .inl rfl
      · exact .inr rfl
  by_cases ne : endK p b t = []
  · have ce : decide (strk (endK p b t) ++ t = [] ∨ strk (endK p b t) ++ t = [Sk.sh]) = true := decide_eq_true (cond.mpr ne)
    rw [ce] at inn
    rw [formP, if_pos ne]
    generalize strk (endK p b t) ++ t = S at lp inn
    generalize strk (stkF p b) ++ t = S0 at fo lp
    simp [fo, lp, g_SHUT, inn]
    rfl
  · have ce : decide (strk (endK p b t) ++ t = [] ∨ strk (endK p b t) ++ t = [Sk.sh]) = false := decide_eq_false (fun h => ne (cond.mp h))
    rw [ce] at inn
    rw [formP, if_neg ne]
    have ad := add hS
    rw [show (endK p b t).reverse.map (·.1) ++ t = strk (endK p b t) ++ t from rfl]
    generalize strk (endK p b t) ++ t = S at lp inn ad
    generalize strk (stkF p b) ++ t = S0 at fo lp
    simp [fo, lp, g_SHUT, inn, t1, tup, ad]
end Rf
namespace Rf
open PySem Dp
open Enc (enc)
theorem formP_len (p : P) (b t : List Sk) : (formP p b t).length ≤ 1 + b.length + t.length := by
  rw [formP]
  split
  · simp
  · have := endK_len p b t
    simp; omega
theorem formOf_len {l : List Sk} (h : Good1 l) : (formOf l).length ≤ 2 * (l.length - 1) := by
  obtain ⟨⟨p, b, t, hs⟩, hl⟩ := h
  rw [formOf_shp hs]
  have := formP_len p b t
  rw [hs.e] at hl ⊢
  simp at hl ⊢; omega
theorem formF_len (w : List Sk) : (formF w).length ≤ 2 * w.length := by
  rw [formF, len_flatMap]
  refine Nat.le_trans (sumN_le (g := fun l => 2 * (l.length - 1)) fun l hl => formOf_len (parts_good w l hl)) ?_
  rw [sumN_mul]
  exact Nat.mul_le_mul_left 2 (parts_sum w)
theorem part_len {w l : List Sk} (h : l ∈ partsL w) : l.length ≤ w.length + 1 := by
  have := parts_sum w
  have h2 : l.length - 1 ≤ sumN ((partsL w).map fun l => l.length - 1) := by
    have : ∀ (L : List (List Sk)), l ∈ L → l.length - 1 ≤ sumN (L.map fun l => l.length - 1) := by
      intro L
      induction L with
      | nil => intro h; simp at h
      | cons a L ih =>
        intro h
        rcases List.mem_cons.mp h with rfl | h
        · simp only [List.map_cons, sumN]; omega
        · have := ih h; simp only [List.map_cons, sumN]; omega
    exact this _ h
  omega
theorem form_ok {M k m : Nat} {w : List Sk} (hw : GW M k w) (fM : Ft m M) (hb : m + k < 1700) (hl : w.length < 890) : f_form [enc w] = .ok (enc (formF w)) := by
  rw [f_form, run1, b_form]
  have l6 := lim6
  have hpl := partsL_len w
  have key : ∀ (L : List (List Sk)) (init : List Sk), (∀ l ∈ L, l ∈ partsL w) → init.length + (L.flatMap formOf).length ≤ 3000 → forGo (fE (.nm 2) (.cons (.set 1 (.bin .Add (.var 1) (.call "form_of_part" f_form_of_part (.cons (.var 2) .nil))))
 (.cons (.kil [2])
 .nil))) (L.map enc) [.im (enc w), .im (enc init), .un] = .nx [.im (enc w), .im (enc (init ++ L.flatMap formOf)), .un] := by
    intro L
    induction L with
    | nil => intro init _ _; simp [forGo]
    | cons l L ih =>
      intro init h hL
      have hlm := h l (by simp)
      obtain ⟨⟨p, b, t, hs⟩, h1⟩ := parts_good w l hlm
      have e := form_part_ok hs (hw.parts l hlm) fM hb (by have := part_len hlm; omega)
      rw [← formOf_shp hs] at e
      rw [List.flatMap_cons, List.length_append] at hL
      have a1 : dBin .Add (enc init) (enc (formOf l)) = .ok (enc (init ++ formOf l)) := b_addE (by omega)
      have st : fE (.nm 2) (.cons (.set 1 (.bin .Add (.var 1) (.call "form_of_part" f_form_of_part (.cons (.var 2) .nil))))
 (.cons (.kil [2])
 .nil)) (enc l) [.im (enc w), .im (enc init), .un] = .nx [.im (enc w), .im (enc (init ++ formOf l)), .un] := by
        simp [fE, e, a1]
      rw [List.map_cons, forGo, st]
      simp only
      rw [ih (init ++ formOf l) (fun m hm => h m (List.mem_cons_of_mem _ hm)) (by rw [List.length_append]; omega)]
      simp
  have hb := formF_len w
  have k := key (partsL w) [] (fun l h => h) (by show 0 + (formF w).length ≤ 3000; omega)
  rw [List.nil_append] at k
  have k : forGo _ _ _ = Out.nx [.im (enc w), .im (enc (formF w)), .un] := k
  have lr : (partsL w).length ≤ LIM := by omega
  simp [parts_ok (show w.length < 1000 by omega), it_E lr, enc_nil (α := Sk), k]
theorem step_gs {M k : Nat} {st : Stk} {e : Sk × P} (h : ∀ f ∈ st, GS (M * 2) (k + 4) f.1) (h0 : GK M k st) (h1 : GS M k e.1) (h2 : GP M k e.2) (h3 : GP M k (gl e.1)) (fM : 0 < M) : ∀ f ∈ stepR st e, GS (M * 2) (k + 4) f.1 := by
  have up {p : P} (h : GP M k p) : GP (M * 2) (k + 4) p := (h.up (K := 2) (j := 1) (by decide)).mono (by omega)
  have hp : GS (M * 2) (k + 4) (plainF e.1 e.2) := by
    obtain ⟨m, fm⟩ : ∃ m, Ft m M := ⟨M, fM, Nat.le_of_lt Nat.lt_two_pow_self⟩
    exact plain_g h1 h2 fm
  rcases step_cases st e.1 e.2 with ⟨_, k0⟩ | ⟨g, h', q', r, k1, k2, rfl, k4, k5⟩ | ⟨_, _, k0⟩
  · rw [show e = (e.1, e.2) from rfl, k0]; exact h
  · rw [show e = (e.1, e.2) from rfl, k5]
    intro f hf
    rcases List.mem_cons.mp hf with rfl | hf
    · rw [k1] at hp; exact hp
    · exact h f (List.mem_cons_of_mem _ hf)
  · rw [show e = (e.1, e.2) from rfl, k0]
    intro f hf
    rcases List.mem_cons.mp hf with rfl | hf
    · exact hp
    · exact h f hf
theorem fold_gs {M k : Nat} (fM : 0 < M) : ∀ (L : List (Sk × P)) (st : Stk), (∀ f ∈ st, GS (M * 2) (k + 4) f.1) → GK M k st → (∀ e ∈ L, GS M k e.1 ∧ GP M k e.2 ∧ GP M k (gl e.1)) → ∀ f ∈ L.foldl stepR st, GS (M * 2) (k + 4) f.1
  | [], st, h, _, _ => h
  | e :: L, st, h, h0, g => by
    obtain ⟨g1, g2, g3⟩ := g e (by simp)
    exact fold_gs fM L _ (step_gs h h0 g1 g2 g3 fM) (step_gk h0 g2 g3) fun f hf => g f (List.mem_cons_of_mem _ hf)
theorem close_sub {p : P} : ∀ (st : Stk), ∀ e ∈ closeS p st, e ∈ st
  | [], e, h => h
  | (x, q) :: r, e, h => by
    cases x with
    | ln g =>
      rw [closeS] at h
      split at h
      · exact List.mem_cons_of_mem _ (close_sub r e h)
      · exact h
    | _ => exact h
theorem GW.form {M k : Nat} {w : List Sk} (hw : GW M k w) (fM : 0 < M) : GW (M * 2) (k + 4) (formF w) := by
  have up {p : P} (h : GP M k p) : GP (M * 2) (k + 4) p := (h.up (K := 2) (j := 1) (by decide)).mono (by omega)
  intro x hx
  obtain ⟨l, hl, hx⟩ := List.mem_flatMap.mp hx
  obtain ⟨⟨p, b, t, hs⟩, _⟩ := parts_good w l hl
  have hwl := hw.parts l hl
  have gp : GP M k p := hwl (.mv p) (by rw [hs.e]; simp) p (by simp [Sk.pts])
  have gb : ∀ x ∈ b, isBd x = true ∧ GS M k x := fun x hx => ⟨hs.bd x hx, hwl x (by rw [hs.e]; simp [hx])⟩
  have gz := zb_g b p gp gb
  have hk := fold_gs (M := M) (k := k) fM (zb p b) [] (by simp) (by intro e he; simp at he) fun e he => ⟨(gz e he).1, (gz e he).2.1, (gz e he).2.2.1⟩
  have hk : ∀ f ∈ endK p b t, GS (M * 2) (k + 4) f.1 := by
    rw [endK]
    split
    · exact hk
    · exact fun f hf => hk f (close_sub _ f hf)
  rw [formOf_shp hs, formP] at hx
  split at hx
  · simp at hx
  · rcases List.mem_cons.mp hx with rfl | hx
    · intro q hq; simp [Sk.pts] at hq; subst hq; exact up gp
    · rcases List.mem_append.mp hx with hx | hx
      · obtain ⟨e, he, rfl⟩ := List.mem_map.mp hx
        exact hk e (by simpa using he)
      · rcases hs.tl with rfl | rfl
        · simp at hx
        · simp at hx; subst hx; intro q hq; simp [Sk.pts] at hq
theorem alike_ok {M k m : Nat} {a b : List Sk} (ha : GW M k a) (hb : GW M k b) (fM : Ft m M) (h : m + k < 1700) (la : a.length < 890) (lb : b.length < 890) : f_alike [enc a, enc b] = .ok (.bool (decide (formF a = formF b))) := by
  rw [f_alike, run2, b_alike]
  simp [form_ok ha fM h la, form_ok hb fM h lb]
def whyF (a b : List Sk) : Option Int := Option.map (fun (i : Nat) => (i : Int)) ((List.range (max a.length b.length)).find? fun i => decide (a[i]? ≠ b[i]?))
theorem take_drop1 {α : Type} (a : List α) (i : Nat) : (a.drop i).take 1 = a[i]?.toList := by
  by_cases h : i < a.length
  · rw [List.drop_eq_getElem_cons h, List.getElem?_eq_getElem h]; rfl
  · rw [List.drop_of_length_le (by omega), List.getElem?_eq_none (by omega)]; rfl
theorem slc_1at {a : List Sk} {i : Nat} : dSlc (enc a) (some (i : Int)) (some ((i : Int) + 1)) = .ok (enc a[i]?.toList) := by
  by_cases h : i + 1 ≤ a.length
  · have := slc_mid (xs := a) (k := i) (l := i + 1) (by omega) h
    rw [show i + 1 - i = 1 by omega, take_drop1] at this
    exact this
  · have e : a[i]? = none := List.getElem?_eq_none (by omega)
    rw [e, enc_list, slc_T]
    have : cutD (a.map enc) (some (i : Int)) (some ((i : Int) + 1)) = [] := by
      rw [cutD]
      have h1 : HT.sIx (a.map (enc : Sk → D)).length 0 (some (i : Int)) = min i a.length := by rw [HT.sIx_nat]; simp
      have h2 : HT.sIx (a.map (enc : Sk → D)).length (a.map (enc : Sk → D)).length (some ((i : Int) + 1)) = min (i + 1) a.length := by
        have := HT.sIx_nat (n := (a.map (enc : Sk → D)).length) (d := (a.map (enc : Sk → D)).length) (k := i + 1)
        simpa using this
      rw [h1, h2]
      have : min (i + 1) a.length - min i a.length = 0 := by omega
      rw [this, List.take_zero]
    rw [this]; rfl
def fndO (o : Option Nat) (R : Env) : Out := match o with
  | some i => .rt (.int i)
  | none => .nx R
theorem forGo_find {f : D → Env → Out} {R : Env} (p : Nat → Bool) : ∀ (xs : List Nat), (∀ i ∈ xs, f (.int i) R = if p i then .rt (.int i) else .nx R) → forGo f (xs.map fun (i : Nat) => PyData.int (i : Int)) R = fndO (xs.find? p) R
  | [], _ => rfl
  | i :: xs, h => by
    have h1 := h i (by simp)
    rw [List.map_cons, forGo, h1, List.find?_cons]
    cases p i with
    | true => rfl
    | false => exact forGo_find p xs fun j hj => h j (List.mem_cons_of_mem _ hj)
theorem why_ok {M k m : Nat} {a b : List Sk} (ha : GW M k a) (hb : GW M k b) (fM : Ft m M) (h : m + k < 1700) (la : a.length < 890) (lb : b.length < 890) : f_why_not [enc a, enc b] = .ok (enc (whyF (formF a) (formF b))) := by
  rw [f_why_not, run2, b_why_not]
  have l6 := lim6
  have l1 := formF_len a
  have l2 := formF_len b
  have fa := form_ok ha fM h la
  have fb := form_ok hb fM h lb
  generalize formF a = A at *
  generalize formF b = B at *
  have mx : dBi .max [.int (A.length : Int), .int (B.length : Int)] = .ok (.int ((max A.length B.length : Nat) : Int)) := by
    show Res.ok (PyData.int (if (B.length : Int) > A.length then (B.length : Int) else A.length)) = _
    congr 2
    split <;> omega
  have rg : rngD (.int ((max A.length B.length : Nat) : Int)) = .ok (upto (max A.length B.length) 0) := rngD_ok rfl (by omega)
  have up : upto (max A.length B.length) 0 = (List.range (max A.length B.length)).map fun (i : Nat) => PyData.int (i : Int) := by
    rw [upto]
    refine List.map_congr_left fun i _ => ?_
    rw [Int.zero_add]
  have opt (x y : Option Sk) : (x.toList = y.toList) ↔ x = y := by cases x <;> cases y <;> simp
  have lp := forGo_find (f := fE (.nm 4) (.cons (.ife (.cmp .NotEq (.slc (.var 2) (.some (.var 4)) (.some (.bin .Add (.var 4) (.int 1)))) (.slc (.var 3) (.some (.var 4)) (.some (.bin .Add (.var 4) (.int 1)))))
 (.cons (.ret (.var 4))
 .nil)
 .nil)
 (.cons (.kil [4])
 .nil))) (R := [.im (enc a), .im (enc b), .im (enc A), .im (enc B), .un]) (fun i => decide (A[i]? ≠ B[i]?)) (List.range (max A.length B.length)) (by
    intro i _
    by_cases e : A[i]? = B[i]?
    · simp [fE, slc_1at, e]
    · have : ¬ A[i]?.toList = B[i]?.toList := fun k => e ((opt _ _).mp k)
      simp [fE, slc_1at, e, this])
  rw [← up] at lp
  rw [whyF]
  generalize (List.range (max A.length B.length)).find? (fun i => decide (A[i]? ≠ B[i]?)) = F at lp ⊢
  simp [fa, fb, len_E, mx, rg, lp]
  cases F with
  | none => rfl
  | some i => rfl
theorem why_none {a b : List Sk} : whyF a b = none ↔ a = b := by
  rw [whyF, Option.map_eq_none_iff, List.find?_eq_none]
  constructor
  · intro h
    refine List.ext_getElem? fun i => ?_
    by_cases hi : i < max a.length b.length
    · have := h i (List.mem_range.mpr hi)
      simpa using this
    · rw [List.getElem?_eq_none (by omega), List.getElem?_eq_none (by omega)]
  · rintro rfl i _; simp
end Rf
namespace Rf
open PySem Dp
open Enc (enc)
def mapW (f : Sk → P → List Sk) (s : Ps) : List Sk → List Sk
  | [] => []
  | x :: r => (if isBd x then f x s.pen else [x]) ++ mapW f (stp s x) r
def mapB (f : Sk → P → List Sk) (p : P) : List Sk → List Sk
  | [] => []
  | x :: r => f x p ++ mapB f (gl x) r
def mapPart (f : Sk → P → List Sk) (l : List Sk) : List Sk := .mv (headOf l) :: (mapB f (headOf l) (bodyOf l) ++ tailOf l)
structure FOk (f : Sk → P → List Sk) : Prop where
  ne : ∀ x q, isBd x = true → f x q ≠ []
  bd : ∀ x q, isBd x = true → ∀ y ∈ f x q, isBd y = true
  en : ∀ x q, isBd x = true → endB q (f x q) = gl x
theorem mapW_app (f : Sk → P → List Sk) : ∀ (a b : List Sk) (s : Ps), mapW f s (a ++ b) = mapW f s a ++ mapW f (runP s a) b
  | [], _, _ => rfl
  | x :: a, b, s => by
    show _ ++ mapW f (stp s x) (a ++ b) = (_ ++ mapW f (stp s x) a) ++ _
    rw [mapW_app f a b, List.append_assoc]; rfl
theorem mapW_hd (f : Sk → P → List Sk) {b : List Sk} (h : Hd b) (s : Ps) : mapW f s b = mapW f ps0 b := by
  rcases h with rfl | ⟨p, r, rfl⟩
  · rfl
  · rfl
theorem mapW_join (f : Sk → P → List Sk) {a b : List Sk} (h : Hd b) : mapW f ps0 (a ++ b) = mapW f ps0 a ++ mapW f ps0 b := by
  rw [mapW_app, mapW_hd f h]
theorem mapB_app (f : Sk → P → List Sk) : ∀ (a b : List Sk) (p : P), mapB f p (a ++ b) = mapB f p a ++ mapB f (endB p a) b
  | [], _, _ => rfl
  | x :: a, b, p => by
    show f x p ++ mapB f (gl x) (a ++ b) = (f x p ++ mapB f (gl x) a) ++ _
    rw [mapB_app f a b, List.append_assoc]; rfl
theorem mapB_ok {f : Sk → P → List Sk} (F : FOk f) : ∀ (b : List Sk) (p : P), (∀ x ∈ b, isBd x = true) → (∀ y ∈ mapB f p b, isBd y = true) ∧ endB p (mapB f p b) = endB p b ∧ (mapB f p b = [] ↔ b = [])
  | [], p, _ => ⟨by simp [mapB], rfl, by simp [mapB]⟩
  | x :: b, p, h => by
    have hx := h x (by simp)
    obtain ⟨i1, i2, _⟩ := mapB_ok F b (gl x) fun y hy => h y (List.mem_cons_of_mem _ hy)
    refine ⟨?_, ?_, ?_⟩
    · intro y hy
      rw [mapB] at hy
      rcases List.mem_append.mp hy with hy | hy
      · exact F.bd x p hx y hy
      · exact i1 y hy
    · rw [mapB, endB_app, F.en x p hx, i2]; rfl
    · have := F.ne x p hx
      simp [mapB, this]
theorem mapPart_shp {f : Sk → P → List Sk} (F : FOk f) {l : List Sk} {p : P} {b t : List Sk} (h : Shp l p b t) : Shp (mapPart f l) p (mapB f p b) t := by
  obtain ⟨h1, h2, h3⟩ := h.of
  rw [mapPart, h1, h2, h3]
  exact ⟨rfl, (mapB_ok F b p h.bd).1, h.tl⟩
theorem mapPart_good {f : Sk → P → List Sk} (F : FOk f) {l : List Sk} (h : Good1 l) : Good1 (mapPart f l) := by
  obtain ⟨⟨p, b, t, hs⟩, hl⟩ := h
  refine ⟨⟨_, _, _, mapPart_shp F hs⟩, ?_⟩
  rw [(mapPart_shp F hs).e]
  rw [hs.e] at hl
  have := (mapB_ok F b p hs.bd).2.2
  cases hb : mapB f p b with
  | cons y r => simp
  | nil =>
    have := this.mp hb
    subst this
    simpa using hl
theorem prt_body0 {r b : List Sk} {q : P} (h : ∀ x ∈ b, isBd x = true) (ne : b ≠ []) : prt [] q (b ++ r) = prt (.mv q :: b) q r := by
  rcases b with _ | ⟨x, b⟩
  · exact absurd rfl ne
  · have hx := h x (by simp)
    rw [List.cons_append, prt_cons, isBd_mv hx, isBd_sh hx]
    simp only [Bool.false_eq_true, if_false]
    rw [prt_body b _ (fun y hy => h y (List.mem_cons_of_mem _ hy)) (by simp [orMv])]
    rfl
/-- what stands so far and where the pen is -/
def CurS (cur : List Sk) (s : Ps) : Prop := (cur = [] ∧ s.pen = s.beg) ∨ (∃ b, Shp cur s.beg b [] ∧ s.pen = endB s.beg b)
def mapC' (f : Sk → P → List Sk) (cur : List Sk) : List Sk := if cur = [] then [] else mapPart f cur
theorem mapC'_shp {f : Sk → P → List Sk} {l : List Sk} {p : P} {b t : List Sk} (h : Shp l p b t) : mapC' f l = .mv p :: (mapB f p b ++ t) := by
  obtain ⟨h1, h2, h3⟩ := h.of
  rw [mapC', if_neg (by rw [h.e]; simp), mapPart, h1, h2, h3]
theorem orMv_shp {cur : List Sk} {s : Ps} (h : CurS cur s) : ∃ b, Shp (orMv cur s.beg) s.beg b [] ∧ s.pen = endB s.beg b ∧ (∀ f, orMv (mapC' f cur) s.beg = .mv s.beg :: mapB f s.beg b) := by
  rcases h with ⟨rfl, e⟩ | ⟨b, hs, e⟩
  · exact ⟨[], ⟨rfl, by simp, .inl rfl⟩, e, fun f => rfl⟩
  · refine ⟨b, ?_, e, fun f => ?_⟩
    · rw [orMv_ne (by rw [hs.e]; simp)]; exact hs
    · rw [mapC'_shp hs, List.append_nil]; rfl
theorem Shp.snoc {l : List Sk} {p : P} {b : List Sk} (h : Shp l p b []) {x : Sk} (hx : isBd x = true) : Shp (l ++ [x]) p (b ++ [x]) [] := by
  refine ⟨by rw [h.e]; simp, ?_, .inl rfl⟩
  intro y hy
  rcases List.mem_append.mp hy with hy | hy
  · exact h.bd y hy
  · simp at hy; subst hy; exact hx
theorem Shp.shut {l : List Sk} {p : P} {b : List Sk} (h : Shp l p b []) : Shp (l ++ [.sh]) p b [.sh] := ⟨by rw [h.e]; simp, h.bd, .inr rfl⟩
theorem prt_mapW {f : Sk → P → List Sk} (F : FOk f) : ∀ (w : List Sk) (cur : List Sk) (s : Ps), CurS cur s → prt (mapC' f cur) s.beg (mapW f s w) = (prt cur s.beg w).map (mapC' f)
  | [], cur, s, _ => rfl
  | x :: w, cur, s, hc => by
    rw [prt_cons, mapW]
    by_cases h1 : isMv x = true
    · obtain ⟨p, rfl⟩ : ∃ p, x = .mv p := by cases x <;> simp_all [isMv]
      have hi := prt_mapW F w [.mv p] ⟨p, p, false⟩ (.inr ⟨[], ⟨rfl, by simp, .inl rfl⟩, rfl⟩)
      have e1 : mapC' f [.mv p] = [.mv p] := mapC'_shp (b := []) (t := []) ⟨rfl, by simp, .inl rfl⟩
      rw [e1] at hi
      show prt (mapC' f cur) s.beg (.mv p :: mapW f ⟨p, p, false⟩ w) = _
      rw [prt_mv, hi]; rfl
    · by_cases h2 : isSh x = true
      · have : x = .sh := by cases x <;> simp_all [isSh]
        subst this
        have hi := prt_mapW F w [] ⟨s.beg, s.beg, false⟩ (.inl ⟨rfl, rfl⟩)
        obtain ⟨b, hs, _, ho⟩ := orMv_shp hc
        rw [if_neg h1, if_pos h2]
        show prt (mapC' f cur) s.beg (.sh :: mapW f ⟨s.beg, s.beg, false⟩ w) = _
        rw [prt_cons, if_neg h1, if_pos h2, List.map_cons, ← hi, ho f, mapC'_shp hs.shut]; rfl
      · have hx : isBd x = true := by simp [isBd, h1, h2]
        obtain ⟨b, hs, he, ho⟩ := orMv_shp hc
        have hs' := hs.snoc hx
        have hi := prt_mapW F w (orMv cur s.beg ++ [x]) ⟨gl x, s.beg, true⟩ (.inr ⟨b ++ [x], hs', by rw [endB_app]; rfl⟩)
        rw [if_neg h1, if_neg h2, if_pos hx, stp_bd hx]
        show _ = (prt (orMv cur s.beg ++ [x]) s.beg w).map _
        rw [show prt (orMv cur s.beg ++ [x]) s.beg w = prt (orMv cur s.beg ++ [x]) (⟨gl x, s.beg, true⟩ : Ps).beg w from rfl, ← hi, mapC'_shp hs', mapB_app, List.append_nil]
        have eb : mapB f (endB s.beg b) [x] = f x s.pen := by rw [← he]; simp [mapB]
        rw [eb]
        show _ = prt (.mv s.beg :: (mapB f s.beg b ++ f x s.pen)) s.beg _
        have ne := F.ne x s.pen hx
        have bd := F.bd x s.pen hx
        by_cases hcur : mapC' f cur = []
        · have hb : mapB f s.beg b = [] := by
            have := ho f
            rw [hcur] at this
            have : orMv ([] : List Sk) s.beg = .mv s.beg :: mapB f s.beg b := this
            simp [orMv] at this
            exact this
          rw [hcur, hb, prt_body0 bd ne]; rfl
        · rw [prt_body _ _ bd hcur]
          have := ho f
          rw [orMv_ne hcur] at this
          rw [this]; rfl
theorem lg_mapC {f : Sk → P → List Sk} (F : FOk f) {L : List (List Sk)} (h : ∀ l ∈ L, l = [] ∨ ∃ p b t, Shp l p b t) : lgP (L.map (mapC' f)) = (lgP L).map (mapPart f) := by
  induction L with
  | nil => rfl
  | cons l L ih =>
    have ih := ih fun m hm => h m (List.mem_cons_of_mem _ hm)
    rw [List.map_cons, lg_cons, lg_cons l, List.map_append, ih]
    congr 1
    rcases h l (by simp) with rfl | ⟨p, b, t, hs⟩
    · rfl
    · have e : mapC' f l = mapPart f l := by rw [mapC', if_neg (by rw [hs.e]; simp)]
      rw [e]
      by_cases hl : 1 < l.length
      · rw [lg_cons_good hl, lg_cons_good (mapPart_good F ⟨⟨p, b, t, hs⟩, hl⟩).2]; rfl
      · have hl2 : ¬ 1 < (mapPart f l).length := by
          rw [(mapPart_shp F hs).e]
          rw [hs.e] at hl
          have hb : b = [] ∧ t = [] := by
            simp at hl
            exact hl
          rw [hb.1, hb.2]; simp [mapB]
        simp [lgP, hl, hl2]
theorem parts_mapW {f : Sk → P → List Sk} (F : FOk f) (w : List Sk) : partsL (mapW f ps0 w) = (partsL w).map (mapPart f) := by
  rw [partsL_prt, partsL_prt, ← lg_mapC F (fun l hl => prt_good w [] (0, 0) (.inl rfl) l hl)]
  have := prt_mapW F w [] ps0 (.inl ⟨rfl, rfl⟩)
  rw [show mapC' f ([] : List Sk) = [] from rfl] at this
  exact congrArg _ this
theorem runP_mapW {f : Sk → P → List Sk} (F : FOk f) : ∀ (w : List Sk) (s : Ps), runP s (mapW f s w) = runP s w
  | [], s => rfl
  | x :: w, s => by
    rw [mapW, runP_app]
    have e : runP s (if isBd x then f x s.pen else [x]) = stp s x := by
      by_cases hx : isBd x = true
      · rw [if_pos hx, (lnsP_body _ (F.bd x s.pen hx) s).2, F.en x s.pen hx, stp_bd hx]
        have := F.ne x s.pen hx
        cases hf : f x s.pen with
        | nil => exact absurd hf this
        | cons y r => simp
      · rw [if_neg hx]; rfl
    rw [e, runP_mapW F w]; rfl
def raisedG (x : Sk) (q : P) : List Sk := [raisedS x q]
theorem raisedS_bd {x : Sk} (h : isBd x = true) (q : P) : isBd (raisedS x q) = true ∧ gl (raisedS x q) = gl x := by
  cases x <;> first | exact ⟨h, rfl⟩ | exact ⟨rfl, rfl⟩
theorem raised_FOk : FOk raisedG := ⟨fun _ _ _ => by simp [raisedG], fun x q h y hy => by simp [raisedG] at hy; subst hy; exact (raisedS_bd h q).1, fun x q h => (raisedS_bd h q).2⟩
theorem raised_take (w : List Sk) : ∀ i, i ≤ w.length → mapW raisedG ps0 (w.take i) = raisedTo w i
  | 0, _ => rfl
  | i + 1, h => by
    have hs : w[i]? = some w[i] := by simp
    generalize w[i] = x at hs
    rw [take_s hs, mapW_app, raised_take w i (by omega), runP_take w i (by omega), raisedTo_s hs]
    congr 1
    show (if isBd x then raisedG x (penF w i) else [x]) ++ [] = _
    rw [List.append_nil]
    cases x <;> rfl
theorem raisedF_eq (w : List Sk) : raisedF w = mapW raisedG ps0 w := by
  have h := raised_take w w.length (Nat.le_refl _)
  rw [List.take_length] at h
  rw [raisedF, h]
def flatG (m : Nat) (x : Sk) (q : P) : List Sk := if isCv x then (List.range m).map fun j => .ln (cas (q :: x.pts) (tAt j m)) else [x]
theorem flatP_eq (m : Nat) : ∀ (w : List Sk) (s : Ps), flatP s m w = mapW (flatG m) s w
  | [], s => rfl
  | x :: w, s => by
    show flatX s m x ++ flatP (stp s x) m w = _
    rw [flatP_eq m w, mapW]
    congr 1
    rw [flatX, flatG]
    cases x <;> rfl
theorem flatF_mapW (w : List Sk) (m : Nat) : flatF w m = mapW (flatG m) ps0 w := by rw [flatF_eq, flatP_eq]
theorem flat_FOk {m : Nat} (hm : 1 ≤ m) : FOk (flatG m) := by
  refine ⟨fun x q h => ?_, fun x q h y hy => ?_, fun x q h => ?_⟩
  · rw [flatG]; split
    · simp; omega
    · simp
  · rw [flatG] at hy
    split at hy
    · obtain ⟨j, _, rfl⟩ := List.mem_map.mp hy; rfl
    · simp at hy; subst hy; exact h
  · rw [flatG]; split
    · rename_i hc
      have := runP_lines ⟨q, q, false⟩ (fun j => cas (q :: x.pts) (tAt j m)) m hm
      have e := (lnsP_body ((List.range m).map fun j => Sk.ln (cas (q :: x.pts) (tAt j m))) (by
        intro y hy; obtain ⟨j, _, rfl⟩ := List.mem_map.mp hy; rfl) ⟨q, q, false⟩).2
      rw [e] at this
      have e2 := congrArg Ps.pen this
      have e3 : endB q ((List.range m).map fun j => Sk.ln (cas (q :: x.pts) (tAt j m))) = cas (q :: x.pts) (tAt (m - 1) m) := e2
      rw [e3, tAt_last hm]
      have := cas_last (s := ⟨q, q, false⟩) (isBd_sh h)
      rwa [corP_bd h] at this
    · rfl
theorem raised_app {a b : List Sk} (h : Hd b) : raisedF (a ++ b) = raisedF a ++ raisedF b := by rw [raisedF_eq, raisedF_eq, raisedF_eq, mapW_join _ h]
theorem flatF_app {a b : List Sk} (h : Hd b) (m : Nat) : flatF (a ++ b) m = flatF a m ++ flatF b m := by rw [flatF_mapW, flatF_mapW, flatF_mapW, mapW_join _ h]
theorem backward_app {a b : List Sk} (h : Hd b) : backwardF (a ++ b) = backwardF b ++ backwardF a := by rw [backwardF, parts_app h, List.reverse_append, List.flatMap_append]; rfl
theorem plain_raised {x : Sk} (h : isBd x = true) (q : P) : plainF (raisedS x q) q = plainF x q := by
  cases x with
  | bw c p =>
    have e1 : raisedS (.bw c p) q = .wv (lerp q c (2 / 3)) (lerp p c (2 / 3)) p := rfl
    have e2 : pSub (pMul 3 (lerp q c (2 / 3))) q = pMul 2 c := by
      refine Prod.ext ?_ ?_ <;> simp only [lerp, pAdd, pMul, pSub] <;> grind
    have e3 : pSub (pMul 3 (lerp p c (2 / 3))) p = pMul 2 c := by
      refine Prod.ext ?_ ?_ <;> simp only [lerp, pAdd, pMul, pSub] <;> grind
    have e4 : pMul (1 / 2) (pMul 2 c) = c := by
      refine Prod.ext ?_ ?_ <;> simp only [pMul] <;> grind
    rw [e1]
    simp only [plainF]
    rw [e2, e3, if_pos rfl, e4]
  | _ => rfl
theorem fold_raised : ∀ (b : List Sk) (p : P) (st : Stk), (∀ x ∈ b, isBd x = true) → (zb p (mapB raisedG p b)).foldl stepR st = (zb p b).foldl stepR st
  | [], p, st, _ => rfl
  | x :: b, p, st, h => by
    have hx := h x (by simp)
    show (zb p (raisedS x p :: mapB raisedG (gl x) b)).foldl stepR st = _
    show (zb (gl (raisedS x p)) (mapB raisedG (gl x) b)).foldl stepR (stepR st (raisedS x p, p)) = (zb (gl x) b).foldl stepR (stepR st (x, p))
    rw [(raisedS_bd hx p).2, fold_raised b (gl x) _ (fun y hy => h y (List.mem_cons_of_mem _ hy))]
    have : stepR st (raisedS x p, p) = stepR st (x, p) := by
      unfold stepR
      simp only
      rw [plain_raised hx]
    rw [this]
theorem form_raised (w : List Sk) : formF (raisedF w) = formF w := by
  rw [formF, raisedF_eq, parts_mapW raised_FOk, List.flatMap_map, formF]
  have : ∀ l ∈ partsL w, formOf (mapPart raisedG l) = formOf l := by
    intro l hl
    obtain ⟨⟨p, b, t, hs⟩, _⟩ := parts_good w l hl
    rw [formOf_shp (mapPart_shp raised_FOk hs), formOf_shp hs]
    have e : stkF p (mapB raisedG p b) = stkF p b := fold_raised b p [] hs.bd
    have ek : endK p (mapB raisedG p b) t = endK p b t := by rw [endK, endK, e]
    rw [formP, formP, ek]
  rw [flatMap_flatten, flatMap_flatten]
  congr 1
  exact List.map_congr_left this
end Rf
namespace Rf
open PySem Dp
open Enc (enc)
def addO (a b : Option Int) : Option Int := match a, b with
  | some x, some y => some (x + y)
  | _, _ => none
theorem rounds_app {a b : List Sk} (h : Hd b) (o : P) : roundsF (a ++ b) o = addO (roundsF a o) (roundsF b o) := by
  rw [roundsF, roundsF, roundsF, roundsOf, roundsOf, roundsOf, linesL_app h, List.any_append, List.map_append, sumZ_app]
  by_cases h1 : (linesL a).any (onL o) = true
  · rw [h1]; simp [addO]
  · have h1 : (linesL a).any (onL o) = false := by simpa using h1
    rw [h1]
    by_cases h2 : (linesL b).any (onL o) = true
    · rw [h2]; simp [addO]
    · have h2 : (linesL b).any (onL o) = false := by simpa using h2
      rw [h2]; simp [addO]
theorem parts_sz {w : List Sk} : (partsL w).length ≤ w.length + 1 := partsL_len w
theorem pens_last (w : List Sk) : dIdx (enc (pensL w)) (.int (-1)) = .ok (enc (penF w w.length)) := by
  refine ix_Elast ?_
  rw [pensL, List.range_succ, List.map_append, List.map_singleton, List.getLast?_concat]
theorem pen_app {a b : List Sk} (h : Hd b) (ne : b ≠ []) : penF (a ++ b) (a ++ b).length = penF b b.length := by
  rw [penP, penP, runP_app]
  rcases h with h | ⟨p, r, rfl⟩
  · exact absurd h ne
  · rfl
@[simp] theorem is_int {n : Int} : dCmp .Is (.int n) .none = .ok (.bool false) := Res.nrf rfl
@[simp] theorem isnot_int {n : Int} : dCmp .IsNot (.int n) .none = .ok (.bool true) := Res.nrf rfl
end Rf
namespace Rf
open PySem Dp
open Enc (enc)
@[simp] theorem isnot_bl {a b : Bool} : dCmp .IsNot (.bool a) (.bool b) = .ok (.bool (!decide (a = b))) := Res.nrf rfl
@[simp] theorem is_bl {a b : Bool} : dCmp .Is (.bool a) (.bool b) = .ok (.bool (decide (a = b))) := Res.nrf rfl
def raiseP (s : Ps) : List Sk → List Sk
  | [] => []
  | x :: r => raisedS x s.pen :: raiseP (stp s x) r
theorem raisedF_P (w : List Sk) : raisedF w = raiseP ps0 w := by
  rw [raisedF_eq]
  have : ∀ (w : List Sk) (s : Ps), mapW raisedG s w = raiseP s w := by
    intro w
    induction w with
    | nil => intro s; rfl
    | cons x r ih =>
      intro s
      rw [mapW, ih, raiseP]
      cases x <;> rfl
  exact this w ps0
theorem stp_raised (s : Ps) (x : Sk) (q : P) : stp s (raisedS x q) = stp s x := by cases x <;> rfl
theorem raisedS_id {x : Sk} (q r : P) : raisedS (raisedS x q) r = raisedS x q := by cases x <;> rfl
theorem raiseP_raiseP : ∀ (w : List Sk) (s : Ps), raiseP s (raiseP s w) = raiseP s w
  | [], s => rfl
  | x :: r, s => by
    rw [raiseP, raiseP, stp_raised, raiseP_raiseP r, raisedS_id]
theorem raised_raised (w : List Sk) : raisedF (raisedF w) = raisedF w := by rw [raisedF_P, raisedF_P, raiseP_raiseP]
theorem runP_raise : ∀ (w : List Sk) (s : Ps), runP s (raiseP s w) = runP s w
  | [], s => rfl
  | x :: r, s => by
    show runP (stp s (raisedS x s.pen)) (raiseP (stp s x) r) = runP (stp s x) r
    rw [stp_raised, runP_raise r]
theorem raiseP_take : ∀ (w : List Sk) (s : Ps) (i : Nat), (raiseP s w).take i = raiseP s (w.take i)
  | [], s, i => by simp [raiseP]
  | x :: r, s, 0 => rfl
  | x :: r, s, i + 1 => by
    rw [raiseP, List.take_succ_cons, List.take_succ_cons, raiseP, raiseP_take r]
theorem raiseP_get : ∀ (w : List Sk) (s : Ps) (i : Nat), (raiseP s w)[i]? = w[i]?.map fun x => raisedS x (runP s (w.take i)).pen
  | [], s, i => by simp [raiseP]
  | x :: r, s, 0 => rfl
  | x :: r, s, i + 1 => by
    rw [raiseP, List.getElem?_cons_succ, List.getElem?_cons_succ, raiseP_get r, List.take_succ_cons]; rfl
theorem raised_len (w : List Sk) : (raisedF w).length = w.length := raisedTo_len (Nat.le_refl _)
theorem run_raised (w : List Sk) (i : Nat) : runP ps0 ((raisedF w).take i) = runP ps0 (w.take i) := by
  rw [raisedF_P, raiseP_take, runP_raise]
theorem pens_raised (w : List Sk) : pensL (raisedF w) = pensL w := by
  rw [pensL_R, pensL_R, pensR_eq, pensR_eq, raised_len]
  exact List.map_congr_left fun i _ => by rw [run_raised]
theorem cas_raised (s : Ps) (x : Sk) (t : Rat) : cas (corP s (raisedS x s.pen)) t = cas (corP s x) t := by
  cases x with
  | bw c p =>
    show cas [s.pen, lerp s.pen c (2 / 3), lerp p c (2 / 3), p] t = cas [s.pen, c, p] t
    simp only [cas, halve, List.dropLast, List.drop, List.zip, List.zipWith, List.map]
    refine Prod.ext ?_ ?_ <;> simp only [lerp, pAdd, pMul, pSub] <;> grind
  | _ => rfl
theorem spot_raised (w : List Sk) (i : Nat) (h : i < w.length) (t : Rat) : cas (corF (raisedF w) i) t = cas (corF w i) t := by
  have hs : w[i]? = some w[i] := by simp
  generalize w[i] = x at hs
  have h2 : (raisedF w)[i]? = some (raisedS x (penF w i)) := by
    rw [raisedF_P, raiseP_get, hs, runP_take w i (by omega)]; rfl
  have e1 := run_raised w i
  rw [runP_take w i (by omega), runP_take _ i (by rw [raised_len]; omega)] at e1
  have ep : penF (raisedF w) i = penF w i := congrArg Ps.pen e1
  have eb : begF (raisedF w) i = begF w i := congrArg Ps.beg e1
  have eo : opF (raisedF w) i = opF w i := congrArg Ps.op e1
  by_cases hm : isMv x = true
  · obtain ⟨p, rfl⟩ : ∃ p, x = .mv p := by cases x <;> simp_all [isMv]
    have h3 : (raisedF w)[i]? = some (.mv p) := h2
    rw [corF, corF, h3, hs]
  · simp at hm
    have hm2 : isMv (raisedS x (penF w i)) = false := by cases x <;> simp_all [isMv, raisedS]
    rw [cor_eq hs hm, cor_eq h2 hm2, ep, eb, eo]
    exact cas_raised ⟨penF w i, begF w i, opF w i⟩ x t
theorem flat_raised {m : Nat} (w : List Sk) : flatF (raisedF w) m = flatF w m := by
  rw [raisedF_P, flatF_eq, flatF_eq]
  have : ∀ (w : List Sk) (s : Ps), flatP s m (raiseP s w) = flatP s m w := by
    intro w
    induction w with
    | nil => intro s; rfl
    | cons x r ih =>
      intro s
      show flatX s m (raisedS x s.pen) ++ flatP (stp s (raisedS x s.pen)) m (raiseP (stp s x) r) = flatX s m x ++ flatP (stp s x) m r
      rw [stp_raised, ih]
      congr 1
      have e : isCv (raisedS x s.pen) = isCv x := by cases x <;> rfl
      rw [flatX, flatX, e]
      split
      · exact List.map_congr_left fun j _ => by rw [cas_raised]
      · rename_i h
        cases x <;> first | rfl | simp [isCv, isBw, isWv] at h
  exact this w ps0
theorem flatP_nocv {m : Nat} : ∀ (w : List Sk) (s : Ps), (∀ x ∈ w, isCv x = false) → flatP s m w = w
  | [], s, _ => rfl
  | x :: r, s, h => by
    rw [flatP, flatX, h x (by simp), flatP_nocv r _ fun y hy => h y (List.mem_cons_of_mem _ hy)]
    simp
theorem flat_same {m : Nat} {w : List Sk} (h : ∀ x ∈ w, isCv x = false) : flatF w m = w := by rw [flatF_eq, flatP_nocv w _ h]
theorem flat_flat (w : List Sk) (m n : Nat) : flatF (flatF w m) n = flatF w m := flat_same (flatF_nocv w m)
theorem area_raised (w : List Sk) : areaF (raisedF w) = areaF w := by
  rw [← area_form (raisedF w), form_raised, area_form]
theorem raised_nobw (w : List Sk) : ∀ x ∈ raisedF w, isBw x = false := by
  rw [raisedF_P]
  have : ∀ (w : List Sk) (s : Ps), ∀ x ∈ raiseP s w, isBw x = false := by
    intro w
    induction w with
    | nil => intro s x hx; simp [raiseP] at hx
    | cons y r ih =>
      intro s x hx
      rw [raiseP] at hx
      rcases List.mem_cons.mp hx with rfl | hx
      · cases y <;> rfl
      · exact ih _ x hx
  exact this w ps0
theorem parts_flat {m : Nat} (hm : 1 ≤ m) (w : List Sk) : (partsL (flatF w m)).length = (partsL w).length := by
  rw [flatF_mapW, parts_mapW (flat_FOk hm), List.length_map]
theorem GW.raised {M k : Nat} {w : List Sk} (hw : GW M k w) : GW (M * 3) (k + 4) (raisedF w) := by
  intro x hx
  obtain ⟨i, hi⟩ := List.mem_iff_getElem?.mp hx
  rw [raisedF_P, raiseP_get] at hi
  obtain ⟨y, hy, rfl⟩ := Option.map_eq_some_iff.mp hi
  have il : i < w.length := (List.getElem?_eq_some_iff.mp hy).1
  have hp := hw.penF i
  rw [runP_take w i (by omega)]
  show GS (M * 3) (k + 4) (raisedS y (Rf.penF w i))
  have gs := hw y (get_mem hy)
  have up {p : P} (h : GP M k p) : GP (M * 3) (k + 4) p := (h.up (K := 3) (j := 2) (by decide)).mono (by omega)
  cases y with
  | bw c p =>
    have gc := gs c (by simp [Sk.pts])
    have gp := gs p (by simp [Sk.pts])
    intro q hq
    simp [raisedS, Sk.pts] at hq
    rcases hq with rfl | rfl | rfl
    · exact hp.lerp gc g_23 (by decide)
    · exact gp.lerp gc g_23 (by decide)
    · exact up gp
  | _ => exact fun q hq => up (gs q hq)
end Rf
namespace Rf
open PySem Dp
open Enc (enc)
def bareM (m : Mp) : Mp := ⟨m.a, m.b, m.c, m.d, 0, 0⟩
def behF (m n : Mp) : Mp := ⟨(ledF (bareM n) (m.a, m.b)).1, (ledF (bareM n) (m.a, m.b)).2, (ledF (bareM n) (m.c, m.d)).1, (ledF (bareM n) (m.c, m.d)).2, (ledF n (m.e, m.f)).1, (ledF n (m.e, m.f)).2⟩
def undB (m : Mp) : Mp := ⟨m.d / spreadF m, 0 - m.b / spreadF m, 0 - m.c / spreadF m, m.a / spreadF m, 0, 0⟩
def undF (m : Mp) : Mp := ⟨m.d / spreadF m, 0 - m.b / spreadF m, 0 - m.c / spreadF m, m.a / spreadF m, 0 - (ledF (undB m) (m.e, m.f)).1, 0 - (ledF (undB m) (m.e, m.f)).2⟩
def idM : Mp := ⟨1, 0, 0, 1, 0, 0⟩
theorem GM.bare {N l : Nat} {m : Mp} (h : GM N l m) : GM N l (bareM m) := ⟨h.a, h.b, h.c, h.d, g_zero N l, g_zero N l⟩
theorem beh_gm {M k N l : Nat} {m n : Mp} (hm : GM M k m) (hn : GM N l n) (fM : Ft k M) (fN : Ft l N) : GM (N * M) (k + l + 2) (behF m n) := by
  have g1 := led_g (p := (m.a, m.b)) ⟨hm.a, hm.b⟩ hn.bare fM fN
  have g2 := led_g (p := (m.c, m.d)) ⟨hm.c, hm.d⟩ hn.bare fM fN
  have g3 := led_g (p := (m.e, m.f)) ⟨hm.e, hm.f⟩ hn fM fN
  exact ⟨g1.1, g1.2, g2.1, g2.2, g3.1, g3.2⟩
theorem mp_to4 {m : Mp} : dSlc (enc m) none (some 4) = .ok (.tuple [enc m.a, enc m.b, enc m.c, enc m.d]) := by
  rw [enc_mp, slc_T]
  have := cut_to (xs := [enc m.a, enc m.b, enc m.c, enc m.d, enc m.e, enc m.f]) (k := 4)
  exact congrArg (fun x => Res.ok (PyData.tuple x)) this
theorem mp_to2 {m : Mp} : dSlc (enc m) none (some 2) = .ok (enc ((m.a, m.b) : P)) := by
  rw [enc_mp, slc_T]
  have := cut_to (xs := [enc m.a, enc m.b, enc m.c, enc m.d, enc m.e, enc m.f]) (k := 2)
  exact congrArg (fun x => Res.ok (PyData.tuple x)) this
theorem mp_from4 {m : Mp} : dSlc (enc m) (some 4) none = .ok (enc ((m.e, m.f) : P)) := by
  rw [enc_mp, slc_T]
  have := cut_from (xs := [enc m.a, enc m.b, enc m.c, enc m.d, enc m.e, enc m.f]) (k := 4)
  exact congrArg (fun x => Res.ok (PyData.tuple x)) this
theorem mp_mid {m : Mp} : dSlc (enc m) (some 2) (some 4) = .ok (enc ((m.c, m.d) : P)) := by
  rw [enc_mp, slc_T]
  have := cut_mid (xs := [enc m.a, enc m.b, enc m.c, enc m.d, enc m.e, enc m.f]) (k := 2) (l := 4) (by decide) (by simp)
  exact congrArg (fun x => Res.ok (PyData.tuple x)) this
theorem addT2 {xs ys : List D} (h : xs.length + ys.length ≤ 100) : dBin .Add (.tuple xs) (.tuple ys) = .ok (.tuple (xs ++ ys)) := by
  have l6 := lim6
  rw [b_addT, if_pos (by omega)]
theorem pr_tup {p : P} : enc p = PyData.tuple [enc p.1, enc p.2] := rfl
theorem behind_ok {M k N l : Nat} {m n : Mp} (hm : GM M k m) (hn : GM N l n) (fM : Ft k M) (fN : Ft l N) (hb : k + l < 1900) : f_behind [enc m, enc n] = .ok (enc (behF m n)) := by
  have g1 := led_ok (p := (m.a, m.b)) ⟨hm.a, hm.b⟩ hn.bare fM fN hb
  have g2 := led_ok (p := (m.c, m.d)) ⟨hm.c, hm.d⟩ hn.bare fM fN hb
  have g3 := led_ok (p := (m.e, m.f)) ⟨hm.e, hm.f⟩ hn fM fN hb
  have e1 : dBin .Add (.tuple [enc n.a, enc n.b, enc n.c, enc n.d]) (.tuple [enc (0 : Rat), enc (0 : Rat)]) = .ok (enc (bareM n)) := addT2 (by simp)
  have e2 : dBin .Add (enc (ledF (bareM n) (m.a, m.b))) (enc (ledF (bareM n) (m.c, m.d))) = .ok (.tuple [enc (behF m n).a, enc (behF m n).b, enc (behF m n).c, enc (behF m n).d]) := addT2 (by simp)
  have e3 : dBin .Add (.tuple [enc (behF m n).a, enc (behF m n).b, enc (behF m n).c, enc (behF m n).d]) (enc (ledF n (m.e, m.f))) = .ok (enc (behF m n)) := addT2 (by simp)
  rw [f_behind, run2, b_behind]
  simp [mp_to4, mp_to2, mp_from4, mp_mid, g_begin, e1, g1, g2, g3, e2, e3]
theorem ix_mp {m : Mp} : dIdx (enc m) (.int 0) = .ok (enc m.a) ∧ dIdx (enc m) (.int 1) = .ok (enc m.b) ∧ dIdx (enc m) (.int 2) = .ok (enc m.c) ∧ dIdx (enc m) (.int 3) = .ok (enc m.d) := ⟨rfl, rfl, rfl, rfl⟩
theorem spread_g {N l : Nat} {m : Mp} (h : GM N l m) : G (N * N) (l + l + 1) (spreadF m) := (h.a.mul h.d).sub (h.b.mul h.c)
theorem spread_ok {N l : Nat} {m : Mp} (h : GM N l m) (f : Ft l N) (hb : l < 1900) : f_spread [enc m] = .ok (enc (spreadF m)) := by
  have o {q : Rat} (h : G N l q) : Ok q := h.okF f (by omega) (by omega)
  have o2 {x y : Rat} (hx : G N l x) (hy : G N l y) : Ok (x * y) := (hx.mul hy).okF (f.mul f) (by omega) (by omega)
  obtain ⟨i0, i1, i2, i3⟩ := ix_mp (m := m)
  rw [f_spread, run1, b_spread]
  simp [i0, i1, i2, i3, times_ok (o h.a) (o h.d), times_ok (o h.b) (o h.c), minus_ok (o2 h.a h.d) (o2 h.b h.c), spreadF]
/-- one over the spread -/
theorem inv_g {N l : Nat} {m : Mp} (h : GM N l m) (f : Ft l N) (hw : spreadF m ≠ 0) : ∃ D, Ft (2 * l + 1) D ∧ ∀ q, G N l q → G D (2 * l) (q / spreadF m) := by
  obtain ⟨z, hz, lz⟩ := spread_g h
  have hN : (0 : Rat) < (N : Rat) := Rat.natCast_pos.mpr f.p
  have hN0 : (N : Rat) ≠ 0 := Rat.ne_of_gt hN
  have hz' : spreadF m * ((N : Rat) * (N : Rat)) = (z : Rat) := by rw [← hz, Rat.natCast_mul]
  have zn : z ≠ 0 := by
    rintro rfl
    have h0 : spreadF m * ((N : Rat) * (N : Rat)) = 0 := hz'
    rcases Rat.mul_eq_zero.mp h0 with h0 | h0
    · exact hw h0
    · rcases Rat.mul_eq_zero.mp h0 with h0 | h0 <;> exact hN0 h0
  refine ⟨z.natAbs, ⟨by omega, by rw [show 2 * l + 1 = l + l + 1 by omega]; exact lz⟩, fun q hq => ?_⟩
  obtain ⟨y, hy, ly⟩ := hq
  have zr : (z : Rat) ≠ 0 := by
    intro h0
    exact zn (by exact_mod_cast h0)
  have key : q / spreadF m * (z : Rat) = (y : Rat) * (N : Rat) := by
    rw [← hz', ← hy]
    rw [Rat.div_def]
    have := Rat.mul_inv_cancel _ hw
    generalize (spreadF m)⁻¹ = I at *
    grind
  have hl : (y * (N : Int)).natAbs ≤ 2 ^ (2 * l) := by
    rw [Int.natAbs_mul, Nat.two_mul, Nat.pow_add]
    exact Nat.mul_le_mul ly (by simpa using f.l)
  rcases Int.natAbs_eq z with hs | hs
  · refine ⟨y * N, ?_, hl⟩
    have e : ((z.natAbs : Nat) : Rat) = (z : Rat) := by
      have : (((z.natAbs : Nat) : Int) : Rat) = (z : Rat) := by rw [← hs]
      exact this
    rw [e, key, Rat.intCast_mul]; rfl
  · refine ⟨-(y * N), ?_, by rw [Int.natAbs_neg]; exact hl⟩
    have e : ((z.natAbs : Nat) : Rat) = -(z : Rat) := by
      have : (((z.natAbs : Nat) : Int) : Rat) = ((-z : Int) : Rat) := by congr 1; omega
      rw [Rat.intCast_neg] at this
      exact this
    have : q / spreadF m * -(z : Rat) = -(q / spreadF m * (z : Rat)) := by grind
    rw [e, this, key, Rat.intCast_neg, Rat.intCast_mul]; rfl
theorem undB_gm {N l : Nat} {m : Mp} (h : GM N l m) (f : Ft l N) (hw : spreadF m ≠ 0) : ∃ D, Ft (2 * l + 1) D ∧ GM D (2 * l + 1) (undB m) ∧ (∀ q, G N l q → G D (2 * l) (q / spreadF m)) := by
  obtain ⟨D, fD, g⟩ := inv_g h f hw
  refine ⟨D, fD, ⟨(g _ h.d).mono (by omega), ?_, ?_, (g _ h.a).mono (by omega), g_zero _ _, g_zero _ _⟩, g⟩
  · exact (g_zero D (2 * l)).sub (g _ h.b)
  · exact (g_zero D (2 * l)).sub (g _ h.c)
theorem und_gm {N l : Nat} {m : Mp} (h : GM N l m) (f : Ft l N) (hw : spreadF m ≠ 0) : ∃ D, Ft (3 * l + 4) D ∧ GM D (3 * l + 4) (undF m) := by
  obtain ⟨D, fD, gB, g⟩ := undB_gm h f hw
  have gl := led_g (p := (m.e, m.f)) ⟨h.e, h.f⟩ gB f fD
  have up {q : Rat} (hq : G D (2 * l + 1) q) : G (D * N) (3 * l + 4) q := (hq.up f.l).mono (by omega)
  refine ⟨D * N, (fD.mul f).mono (by omega), ⟨up gB.a, up gB.b, up gB.c, up gB.d, ?_, ?_⟩⟩
  · exact ((g_zero _ _).sub gl.1).mono (by omega)
  · exact ((g_zero _ _).sub gl.2).mono (by omega)
theorem undone_ok {N l : Nat} {m : Mp} (h : GM N l m) (f : Ft l N) (hb : l < 400) (hw : spreadF m ≠ 0) : f_undone [enc m] = .ok (enc (undF m)) := by
  obtain ⟨D, fD, gB, g⟩ := undB_gm h f hw
  have o {q : Rat} (h : G N l q) : Ok q := h.okF f (by omega) (by omega)
  have ow : Ok (spreadF m) := (spread_g h).okF (f.mul f) (by omega) (by omega)
  have od {q : Rat} (hq : G N l q) : Ok (q / spreadF m) := (g q hq).okF fD (by omega) (by omega)
  have oz : Ok 0 := (g_zero 1 1).okF ft_1 (by decide) (by decide)
  have sp := spread_ok h f (by omega)
  have gl := led_g (p := (m.e, m.f)) ⟨h.e, h.f⟩ gB f fD
  have ll := led_ok (p := (m.e, m.f)) ⟨h.e, h.f⟩ gB f fD (by omega)
  have ol := gl.okF (fD.mul f) (by omega) (by omega)
  have m1 := minus_ok oz ol.1
  have m2 := minus_ok oz ol.2
  have e1 {p q : P} : dBin .Add (enc p) (enc q) = .ok (.tuple [enc p.1, enc p.2, enc q.1, enc q.2]) := addT2 (by simp)
  have e2 {x y z w : PyData} {p : P} : dBin .Add (.tuple [x, y, z, w]) (enc p) = .ok (.tuple [x, y, z, w, enc p.1, enc p.2]) := addT2 (by simp)
  have eB : PyData.tuple [enc (m.d / spreadF m), enc (0 - m.b / spreadF m), enc (0 - m.c / spreadF m), enc (m.a / spreadF m), enc (0 : Rat), enc (0 : Rat)] = enc (undB m) := rfl
  have eF : PyData.tuple [enc (m.d / spreadF m), enc (0 - m.b / spreadF m), enc (0 - m.c / spreadF m), enc (m.a / spreadF m), enc (0 - (ledF (undB m) (m.e, m.f)).1), enc (0 - (ledF (undB m) (m.e, m.f)).2)] = enc (undF m) := rfl
  rw [f_undone, run1, b_undone]
  simp [sp, g_begin, hw, over_ok (o h.d) ow hw, over_ok (o h.b) ow hw, over_ok (o h.c) ow hw, over_ok (o h.a) ow hw, minus_ok oz (od h.b), minus_ok oz (od h.c), e1, e2, eB, mk_pair, ll, m1, m2, eF]
theorem led_beh (m n : Mp) (p : P) : ledF (behF m n) p = ledF n (ledF m p) := by
  refine Prod.ext ?_ ?_ <;> simp only [ledF, behF, bareM] <;> grind
theorem map_beh (m n : Mp) (w : List Sk) : mapF (behF m n) w = mapF n (mapF m w) := by
  rw [mapF, mapF, mapF, List.map_map]
  refine List.map_congr_left fun x _ => ?_
  cases x <;> simp only [Function.comp, mapS, led_beh]
theorem spread_beh (m n : Mp) : spreadF (behF m n) = spreadF m * spreadF n := by
  simp only [spreadF, behF, bareM, ledF]; grind
theorem beh_und {m : Mp} (h : spreadF m ≠ 0) : behF m (undF m) = idM := by
  obtain ⟨a, b, c, d, e, f⟩ := m
  have hi := Rat.mul_inv_cancel _ h
  simp only [behF, undF, undB, bareM, ledF, idM, Rat.div_def] at *
  generalize (spreadF ⟨a, b, c, d, e, f⟩)⁻¹ = I at *
  simp only [spreadF] at hi
  simp only [Mp.mk.injEq]
  refine ⟨?_, ?_, ?_, ?_, ?_, ?_⟩ <;> grind
theorem und_led {m : Mp} (h : spreadF m ≠ 0) (p : P) : ledF (undF m) (ledF m p) = p := by
  rw [← led_beh, beh_und h]
  refine Prod.ext ?_ ?_ <;> simp only [ledF, idM] <;> grind
theorem und_map {m : Mp} (h : spreadF m ≠ 0) (w : List Sk) : mapF (undF m) (mapF m w) = w := by
  rw [mapF, mapF, List.map_map]
  conv => rhs; rw [← List.map_id w]
  refine List.map_congr_left fun x _ => ?_
  cases x <;> simp only [Function.comp, mapS, und_led h, id]
theorem spread_und {m : Mp} (h : spreadF m ≠ 0) : spreadF (undF m) = (spreadF m)⁻¹ := by
  obtain ⟨a, b, c, d, e, f⟩ := m
  have hi := Rat.mul_inv_cancel _ h
  simp only [undF, undB, Rat.div_def] at *
  generalize hI : (spreadF ⟨a, b, c, d, e, f⟩)⁻¹ = I at *
  simp only [spreadF] at hi ⊢
  grind
theorem spread_und_ne {m : Mp} (h : spreadF m ≠ 0) : spreadF (undF m) ≠ 0 := by
  rw [spread_und h]
  intro h0
  have := Rat.mul_inv_cancel _ h
  rw [h0] at this
  grind
theorem und_und {m : Mp} (h : spreadF m ≠ 0) : undF (undF m) = m := by
  have hs := spread_und h
  have hi := Rat.mul_inv_cancel _ h
  have hd (q : Rat) : q / spreadF (undF m) = q * spreadF m := by
    rw [hs, Rat.div_def, Rat.inv_inv]
  obtain ⟨a, b, c, d, e, f⟩ := m
  have e1 : undF (undF ⟨a, b, c, d, e, f⟩) = undF (undF ⟨a, b, c, d, e, f⟩) := rfl
  conv => lhs; unfold undF
  simp only [undB, hd, ledF]
  simp only [undF, undB, ledF, Rat.div_def]
  generalize hI : (spreadF ⟨a, b, c, d, e, f⟩)⁻¹ = I at *
  simp only [spreadF] at hi ⊢
  simp only [Mp.mk.injEq]
  refine ⟨?_, ?_, ?_, ?_, ?_, ?_⟩ <;> grind
end Rf
namespace Rf
open PySem Dp
open Enc (enc)
theorem led_lerp (m : Mp) (p q : P) (t : Rat) : ledF m (lerp p q t) = lerp (ledF m p) (ledF m q) t := by
  refine Prod.ext ?_ ?_ <;> simp only [ledF, lerp, pAdd, pMul, pSub] <;> grind
theorem mapF_app (m : Mp) (a b : List Sk) : mapF m (a ++ b) = mapF m a ++ mapF m b := List.map_append
theorem mapP_mv (m : Mp) (p : P) : mapP m ⟨p, p, false⟩ = ⟨ledF m p, ledF m p, false⟩ := rfl
theorem raisedS_map (m : Mp) (x : Sk) (q : P) : raisedS (mapS m x) (ledF m q) = mapS m (raisedS x q) := by
  cases x with
  | bw c p => show Sk.wv _ _ _ = Sk.wv _ _ _; rw [led_lerp, led_lerp]
  | _ => rfl
theorem raiseP_map (m : Mp) : ∀ (w : List Sk) (s : Ps), raiseP (mapP m s) (mapF m w) = mapF m (raiseP s w)
  | [], s => rfl
  | x :: w, s => by
    show raisedS (mapS m x) (ledF m s.pen) :: raiseP (stp (mapP m s) (mapS m x)) (mapF m w) = _
    rw [stp_map, raiseP_map m w, raisedS_map]; rfl
theorem raised_map (m : Mp) {w : List Sk} (h : Hd w) : raisedF (mapF m w) = mapF m (raisedF w) := by
  rcases h with rfl | ⟨p, r, rfl⟩
  · rfl
  · rw [raisedF_P, raisedF_P]
    show Sk.mv (ledF m p) :: raiseP (mapP m ⟨p, p, false⟩) (mapF m r) = _
    rw [raiseP_map]; rfl
theorem flatP_map (m : Mp) (n : Nat) : ∀ (w : List Sk) (s : Ps), flatP (mapP m s) n (mapF m w) = mapF m (flatP s n w)
  | [], s => rfl
  | x :: w, s => by
    show flatX (mapP m s) n (mapS m x) ++ flatP (stp (mapP m s) (mapS m x)) n (mapF m w) = mapF m (flatX s n x ++ flatP (stp s x) n w)
    rw [stp_map, flatP_map m n w, mapF_app]
    congr 1
    rw [flatX, flatX, isCv_map]
    split
    · show _ = List.map (mapS m) _
      rw [List.map_map]
      refine List.map_congr_left fun j _ => ?_
      have hl := corP_len s x
      rw [corP_map, cas_map m _ hl.1 hl.2]; rfl
    · rfl
theorem flat_map (m : Mp) (n : Nat) {w : List Sk} (h : Hd w) : flatF (mapF m w) n = mapF m (flatF w n) := by
  rcases h with rfl | ⟨p, r, rfl⟩
  · rfl
  · rw [flatF_eq, flatF_eq]
    show Sk.mv (ledF m p) :: flatP (mapP m ⟨p, p, false⟩) n (mapF m r) = _
    rw [flatP_map]; rfl
theorem runP_map (m : Mp) (w : List Sk) (s : Ps) : runP (mapP m s) (mapF m w) = mapP m (runP s w) := (lnsP_map m w s).2
theorem run_map (m : Mp) {w : List Sk} (h : Hd w) {i : Nat} (hi : 1 ≤ i) (hl : i ≤ w.length) : runP ps0 ((mapF m w).take i) = mapP m (runP ps0 (w.take i)) := by
  rcases h with rfl | ⟨p, r, rfl⟩
  · simp at hl; omega
  · obtain ⟨j, rfl⟩ : ∃ j, i = j + 1 := ⟨i - 1, by omega⟩
    show runP (mapP m ⟨p, p, false⟩) ((mapF m r).take j) = _
    rw [mapF, ← List.map_take, runP_map]; rfl
theorem spot_map (m : Mp) {w : List Sk} (h : Hd w) {i : Nat} (hl : i < w.length) (t : Rat) : cas (corF (mapF m w) i) t = ledF m (cas (corF w i) t) := by
  have hs : w[i]? = some w[i] := by simp
  generalize w[i] = x at hs
  have h2 : (mapF m w)[i]? = some (mapS m x) := by rw [mapF, List.getElem?_map, hs]; rfl
  by_cases hm : isMv x = true
  · obtain ⟨p, rfl⟩ : ∃ p, x = .mv p := by cases x <;> simp_all [isMv]
    have h3 : (mapF m w)[i]? = some (.mv (ledF m p)) := h2
    rw [corF, corF, h3, hs]; rfl
  · simp at hm
    have hi : 1 ≤ i := by
      rcases h with rfl | ⟨p, r, rfl⟩
      · simp at hl
      · rcases i with _ | i
        · simp at hs; subst hs; simp [isMv] at hm
        · omega
    have e1 := run_map m h hi (by omega)
    rw [runP_take w i (by omega), runP_take _ i (by simp; omega)] at e1
    rw [cor_eq hs hm, cor_eq h2 (by rw [isMv_map]; exact hm), e1, corP_map]
    have hc := corP_len ⟨penF w i, begF w i, opF w i⟩ x
    exact cas_map m t hc.1 hc.2
theorem orMv_map (m : Mp) (l : List Sk) (q : P) : orMv (mapF m l) (ledF m q) = mapF m (orMv l q) := by cases l <;> rfl
theorem begOf_map (m : Mp) (x : Sk) (q : P) : begOf (mapS m x) (ledF m q) = ledF m (begOf x q) := by cases x <;> rfl
theorem prt_map (m : Mp) : ∀ (w cur : List Sk) (q : P), prt (mapF m cur) (ledF m q) (mapF m w) = (prt cur q w).map (mapF m)
  | [], cur, q => rfl
  | x :: w, cur, q => by
    show prt (mapF m cur) (ledF m q) (mapS m x :: mapF m w) = _
    rw [prt_cons, prt_cons, isMv_map, isSh_map]
    split
    · rw [List.map_cons, ← prt_map m w [x], begOf_map]; rfl
    · split
      · rw [List.map_cons, ← prt_map m w [], orMv_map, mapF_app]; rfl
      · rw [← prt_map m w _ q, orMv_map]
        show prt (mapF m (orMv cur q) ++ [mapS m x]) _ _ = prt (mapF m (orMv cur q ++ [x])) _ _
        rw [mapF_app]; rfl
theorem lg_map (m : Mp) : ∀ L : List (List Sk), lgP (L.map (mapF m)) = (lgP L).map (mapF m)
  | [] => rfl
  | l :: L => by
    rw [List.map_cons, lg_cons, lg_cons l, List.map_append, lg_map m L]
    congr 1
    simp only [lgP, List.filter, List.length_map]
    split <;> rfl
theorem parts_map (m : Mp) {w : List Sk} (h : Hd w) : partsL (mapF m w) = (partsL w).map (mapF m) := by
  rcases h with rfl | ⟨p, r, rfl⟩
  · rfl
  · rw [partsL_prt, partsL_prt]
    show lgP (prt [] (0, 0) (.mv (ledF m p) :: mapF m r)) = _
    rw [prt_mv, prt_mv]
    have : prt [Sk.mv (ledF m p)] (ledF m p) (mapF m r) = (prt [.mv p] p r).map (mapF m) := prt_map m r [.mv p] p
    rw [this, lg_nil_cons, lg_nil_cons, lg_map]
theorem gl_map (m : Mp) {x : Sk} (h : isBd x = true) : gl (mapS m x) = ledF m (gl x) := by cases x <;> simp_all [isBd, isMv, isSh] <;> rfl
theorem isBd_map (m : Mp) (x : Sk) : isBd (mapS m x) = isBd x := by cases x <;> rfl
theorem endB_map (m : Mp) : ∀ (b : List Sk) (p : P), (∀ x ∈ b, isBd x = true) → endB (ledF m p) (mapF m b) = ledF m (endB p b)
  | [], p, _ => rfl
  | x :: b, p, h => by
    show endB (gl (mapS m x)) (mapF m b) = ledF m (endB (gl x) b)
    rw [gl_map m (h x (by simp)), endB_map m b _ fun y hy => h y (List.mem_cons_of_mem _ hy)]
theorem Shp.map (m : Mp) {l : List Sk} {p : P} {b t : List Sk} (h : Shp l p b t) : Shp (mapF m l) (ledF m p) (mapF m b) t := by
  refine ⟨?_, ?_, h.tl⟩
  · rw [h.e]
    have : mapF m t = t := by rcases h.tl with rfl | rfl <;> rfl
    show Sk.mv (ledF m p) :: mapF m (b ++ t) = _
    rw [mapF, List.map_append]
    show _ = Sk.mv (ledF m p) :: (mapF m b ++ t)
    rw [← this]
    simp only [mapF, List.map_map]
    have t2 : List.map (mapS m ∘ mapS m) t = List.map (mapS m) t := by rcases h.tl with rfl | rfl <;> rfl
    rw [t2]
  · intro x hx
    obtain ⟨y, hy, rfl⟩ := List.mem_map.mp hx
    rw [isBd_map]; exact h.bd y hy
theorem zb_map (m : Mp) : ∀ (b : List Sk) (p : P), (∀ x ∈ b, isBd x = true) → zb (ledF m p) (mapF m b) = (zb p b).map fun e => (mapS m e.1, ledF m e.2)
  | [], p, _ => rfl
  | x :: b, p, h => by
    show (mapS m x, ledF m p) :: zb (gl (mapS m x)) (mapF m b) = _
    rw [gl_map m (h x (by simp)), zb_map m b _ fun y hy => h y (List.mem_cons_of_mem _ hy)]; rfl
theorem revS_map (m : Mp) (x : Sk) (q : P) : revS (mapS m x) (ledF m q) = mapS m (revS x q) := by cases x <;> rfl
theorem backB_map (m : Mp) {b : List Sk} {p : P} (h : ∀ x ∈ b, isBd x = true) : backB (ledF m p) (mapF m b) = mapF m (backB p b) := by
  rw [backB, zb_map m b p h, backB, ← List.map_reverse, List.map_map, mapF, List.map_map]
  exact List.map_congr_left fun e _ => revS_map m e.1 e.2
theorem back_map (m : Mp) {l : List Sk} (h : Good1 l) : backOf (mapF m l) = mapF m (backOf l) := by
  obtain ⟨⟨p, b, t, hs⟩, _⟩ := h
  rw [backOf_shp (hs.map m), backOf_shp hs, backS, backS, endB_map m b p hs.bd, backB_map m hs.bd]
  split
  · rfl
  · simp [mapF, mapS]
theorem backward_map (m : Mp) {w : List Sk} (h : Hd w) : backwardF (mapF m w) = mapF m (backwardF w) := by
  rw [backwardF, parts_map m h, backwardF, mapF, List.map_flatMap, ← List.map_reverse, List.flatMap_map]
  rw [flatMap_flatten, flatMap_flatten]
  congr 1
  refine List.map_congr_left fun l hl => ?_
  exact back_map m (parts_good w l (List.mem_reverse.mp hl))
theorem led_inj {m : Mp} (h : spreadF m ≠ 0) {p q : P} : ledF m p = ledF m q ↔ p = q := by
  constructor
  · intro e
    have := congrArg (ledF (undF m)) e
    rwa [und_led h, und_led h] at this
  · rintro rfl; rfl
theorem gon_map1 {m : Mp} (h : spreadF m ≠ 0) {a b c : P} (g : gonF a b c = true) : gonF (ledF m a) (ledF m b) (ledF m c) = true := by
  obtain ⟨s, s0, s1, rfl⟩ := gon_mid g
  rw [led_lerp]
  exact gon_of_mid s0 s1 fun e => (gon_ne g).2.2 ((led_inj h).mp e)
theorem gon_map {m : Mp} (h : spreadF m ≠ 0) (a b c : P) : gonF (ledF m a) (ledF m b) (ledF m c) = gonF a b c := by
  rw [Bool.eq_iff_iff]
  constructor
  · intro g
    have := gon_map1 (spread_und_ne h) g
    rwa [und_led h, und_led h, und_led h] at this
  · exact gon_map1 h
theorem plain_map {m : Mp} (h : spreadF m ≠ 0) (x : Sk) (q : P) : plainF (mapS m x) (ledF m q) = mapS m (plainF x q) := by
  cases x with
  | bw c p =>
    show (if ledF m c = lerp (ledF m q) (ledF m p) (1 / 2) then Sk.ln (ledF m p) else .bw (ledF m c) (ledF m p)) = mapS m (if c = lerp q p (1 / 2) then .ln p else .bw c p)
    rw [← led_lerp]
    by_cases e : c = lerp q p (1 / 2)
    · rw [if_pos e, if_pos ((led_inj h).mpr e)]; rfl
    · rw [if_neg e, if_neg fun k => e ((led_inj h).mp k)]; rfl
  | wv c d p =>
    have half (a b : P) : pSub (pMul 3 (ledF m a)) (ledF m b) = pMul 2 (ledF m (pMul (1 / 2) (pSub (pMul 3 a) b))) := by
      refine Prod.ext ?_ ?_ <;> simp only [ledF, pMul, pSub] <;> grind
    have two (a b : P) : pMul 2 a = pMul 2 b ↔ a = b := by
      constructor
      · intro e
        have e1 := congrArg Prod.fst e
        have e2 := congrArg Prod.snd e
        simp only [pMul] at e1 e2
        exact Prod.ext (by grind) (by grind)
      · rintro rfl; rfl
    have hf (a b : P) : pMul (1 / 2) a = pMul (1 / 2) b ↔ a = b := by
      constructor
      · intro e
        have e1 := congrArg Prod.fst e
        have e2 := congrArg Prod.snd e
        simp only [pMul] at e1 e2
        exact Prod.ext (by grind) (by grind)
      · rintro rfl; rfl
    have ht (a : P) : pMul (1 / 2) (pMul 2 a) = a := by
      refine Prod.ext ?_ ?_ <;> simp only [pMul] <;> grind
    show (if pSub (pMul 3 (ledF m c)) (ledF m q) = pSub (pMul 3 (ledF m d)) (ledF m p) then (if pMul (1 / 2) (pSub (pMul 3 (ledF m c)) (ledF m q)) = lerp (ledF m q) (ledF m p) (1 / 2) then Sk.ln (ledF m p) else .bw (pMul (1 / 2) (pSub (pMul 3 (ledF m c)) (ledF m q))) (ledF m p)) else .wv (ledF m c) (ledF m d) (ledF m p)) = mapS m (if pSub (pMul 3 c) q = pSub (pMul 3 d) p then (if pMul (1 / 2) (pSub (pMul 3 c) q) = lerp q p (1 / 2) then .ln p else .bw (pMul (1 / 2) (pSub (pMul 3 c) q)) p) else .wv c d p)
    rw [half, half, ht, ← led_lerp]
    by_cases e : pSub (pMul 3 c) q = pSub (pMul 3 d) p
    · rw [if_pos e, if_pos ((two _ _).mpr ((led_inj h).mpr ((hf _ _).mpr e)))]
      by_cases e2 : pMul (1 / 2) (pSub (pMul 3 c) q) = lerp q p (1 / 2)
      · rw [if_pos e2, if_pos ((led_inj h).mpr e2)]; rfl
      · rw [if_neg e2, if_neg fun k => e2 ((led_inj h).mp k)]; rfl
    · rw [if_neg e, if_neg fun k => e ((hf _ _).mp ((led_inj h).mp ((two _ _).mp k)))]; rfl
  | _ => rfl
def mapK (m : Mp) (st : Stk) : Stk := st.map fun e => (mapS m e.1, ledF m e.2)
theorem step_map {m : Mp} (h : spreadF m ≠ 0) (st : Stk) (x : Sk) (q : P) : stepR (mapK m st) (mapS m x, ledF m q) = mapK m (stepR st (x, q)) := by
  unfold stepR
  simp only
  rw [plain_map h]
  cases plainF x q with
  | ln g =>
    simp only [mapS]
    by_cases e : g = q
    · rw [if_pos ((led_inj h).mpr e), if_pos e]
    · rw [if_neg fun k => e ((led_inj h).mp k), if_neg e]
      rcases st with _ | ⟨⟨y, q'⟩, r⟩
      · rfl
      · cases y with
        | ln hh =>
          show (if gonF (ledF m q') (ledF m q) (ledF m g) = true then _ else _) = mapK m (if gonF q' q g = true then _ else _)
          rw [gon_map h]
          split <;> rfl
        | _ => rfl
  | _ => rfl
theorem fold_map {m : Mp} (h : spreadF m ≠ 0) : ∀ (L : List (Sk × P)) (st : Stk), (L.map fun e => (mapS m e.1, ledF m e.2)).foldl stepR (mapK m st) = mapK m (L.foldl stepR st)
  | [], st => rfl
  | e :: L, st => by
    rw [List.map_cons, List.foldl_cons, List.foldl_cons, step_map h, fold_map h L]
theorem close_map {m : Mp} (h : spreadF m ≠ 0) (p : P) : ∀ st : Stk, closeS (ledF m p) (mapK m st) = mapK m (closeS p st)
  | [] => rfl
  | (x, q) :: r => by
    cases x with
    | ln g =>
      show (if ledF m g = ledF m p ∨ gonF (ledF m q) (ledF m g) (ledF m p) = true then closeS (ledF m p) (mapK m r) else _) = mapK m (if g = p ∨ gonF q g p = true then closeS p r else (.ln g, q) :: r)
      rw [gon_map h, close_map h p r]
      by_cases e : g = p ∨ gonF q g p = true
      · rw [if_pos e, if_pos (e.imp_left (led_inj h).mpr)]
      · rw [if_neg e, if_neg fun k => e (k.imp_left (led_inj h).mp)]; rfl
    | _ => rfl
theorem endK_map {m : Mp} (h : spreadF m ≠ 0) {p : P} {b t : List Sk} (hb : ∀ x ∈ b, isBd x = true) : endK (ledF m p) (mapF m b) t = mapK m (endK p b t) := by
  have e : stkF (ledF m p) (mapF m b) = mapK m (stkF p b) := by
    rw [stkF, zb_map m b p hb]; exact fold_map h _ []
  rw [endK, endK, e, close_map h]
  split <;> rfl
theorem formOf_map {m : Mp} (h : spreadF m ≠ 0) {l : List Sk} (hg : Good1 l) : formOf (mapF m l) = mapF m (formOf l) := by
  obtain ⟨⟨p, b, t, hs⟩, _⟩ := hg
  rw [formOf_shp (hs.map m), formOf_shp hs, formP, formP, endK_map h hs.bd]
  by_cases e : endK p b t = []
  · rw [e, if_pos (show mapK m [] = [] from rfl), if_pos rfl]; rfl
  · rw [if_neg (by simpa [mapK] using e), if_neg e]
    have ht : mapF m t = t := by rcases hs.tl with rfl | rfl <;> rfl
    show _ = Sk.mv (ledF m p) :: mapF m ((endK p b t).reverse.map (·.1) ++ t)
    have : mapF m ((endK p b t).reverse.map (·.1) ++ t) = mapF m ((endK p b t).reverse.map (·.1)) ++ mapF m t := List.map_append
    rw [this, ht]
    congr 2
    rw [mapK, ← List.map_reverse, List.map_map, mapF, List.map_map]; rfl
theorem form_map {m : Mp} (hm : spreadF m ≠ 0) {w : List Sk} (h : Hd w) : formF (mapF m w) = mapF m (formF w) := by
  rw [formF, parts_map m h, formF, mapF, List.map_flatMap, List.flatMap_map, flatMap_flatten, flatMap_flatten]
  congr 1
  exact List.map_congr_left fun l hl => formOf_map hm (parts_good w l hl)
theorem num_g {q : Rat} (h : q.den ∈ [1, 2, 4, 5, 10, 20, 25, 50, 100]) (g : q.num.natAbs ≤ 1500) : G 100 18 q := Sz.mono (sz_of h g) (by decide)
theorem law_map_ok (n : Int) : ∃ m : Mp, f__law_map [.int n] = .ok (enc m) ∧ GM 100 18 m := by
  have dr (k : Int) (h0 : 0 ≤ k) (h1 : k < 6) : ∃ q : Rat, ∃ v : Int, (f__law_drawn [.int n, .int (40 + k)] = .ok (.int v) ∧ f__law_number [.int (v.fdiv 4)] = .ok (enc q)) ∧ G 100 18 q := by
    obtain ⟨v, e, _⟩ := law_drawn_ok n (40 + k)
    obtain ⟨q, f, g, h⟩ := law_number_ok (v.fdiv 4)
    exact ⟨q, v, ⟨e, f⟩, num_g g h⟩
  obtain ⟨q0, v0, e0, g0⟩ := dr 0 (by decide) (by decide)
  obtain ⟨q1, v1, e1, g1⟩ := dr 1 (by decide) (by decide)
  obtain ⟨q2, v2, e2, g2⟩ := dr 2 (by decide) (by decide)
  obtain ⟨q3, v3, e3, g3⟩ := dr 3 (by decide) (by decide)
  obtain ⟨q4, v4, e4, g4⟩ := dr 4 (by decide) (by decide)
  obtain ⟨q5, v5, e5, g5⟩ := dr 5 (by decide) (by decide)
  have r6 : rngD (.int 6) = .ok [.int 0, .int 1, .int 2, .int 3, .int 4, .int 5] := rngD_ok (n := 6) rfl (by decide)
  have st (k : Int) (q : Rat) (xs : List PyData) (v : Int) (h : xs.length ≤ 10) (e : f__law_drawn [.int n, .int (40 + k)] = .ok (.int v) ∧ f__law_number [.int (v.fdiv 4)] = .ok (enc q)) : fE (.nm 2) (.cons (.set 1 (.bin .Add (.var 1) (.tup (.cons (.call "_law_number" f__law_number (.cons (.bin .FloorDiv (.call "_law_drawn" f__law_drawn (.cons (.var 0) (.cons (.bin .Add (.int 40) (.var 2)) .nil))) (.int 4)) .nil)) .nil)))) (.cons (.kil [2]) .nil)) (.int k) [.im (.int n), .im (.tuple xs), .un] = .nx [.im (.int n), .im (.tuple (xs ++ [enc q])), .un] := by
    have l6 := lim6
    have hx : xs.length + 1 ≤ LIM := by omega
    simp [fE, e.1, e.2, b_divL, hx]
  have lp : forGo (fE (.nm 2) (.cons (.set 1 (.bin .Add (.var 1) (.tup (.cons (.call "_law_number" f__law_number (.cons (.bin .FloorDiv (.call "_law_drawn" f__law_drawn (.cons (.var 0) (.cons (.bin .Add (.int 40) (.var 2)) .nil))) (.int 4)) .nil)) .nil)))) (.cons (.kil [2]) .nil))) [.int 0, .int 1, .int 2, .int 3, .int 4, .int 5] [.im (.int n), .im (.tuple []), .un] = .nx [.im (.int n), .im (.tuple [enc q0, enc q1, enc q2, enc q3, enc q4, enc q5]), .un] := by
    rw [forGo, st 0 q0 [] v0 (by simp) e0]; simp only [List.nil_append]
    rw [forGo, st 1 q1 _ v1 (by simp) e1]; simp only [List.cons_append, List.nil_append]
    rw [forGo, st 2 q2 _ v2 (by simp) e2]; simp only [List.cons_append, List.nil_append]
    rw [forGo, st 3 q3 _ v3 (by simp) e3]; simp only [List.cons_append, List.nil_append]
    rw [forGo, st 4 q4 _ v4 (by simp) e4]; simp only [List.cons_append, List.nil_append]
    rw [forGo, st 5 q5 _ v5 (by simp) e5]; simp only [List.cons_append, List.nil_append]
    rfl
  have f4 := fm (i := n) (j := 4) (by decide)
  have m4 : dBin .Mod (.int n) (.int 4) = .ok (.int (n.fmod 4)) := b_mod (by decide)
  have z0 : PyData.tuple [.int 0, .int 1] = enc (0 : Rat) := rfl
  have z1 : PyData.tuple [.int 1, .int 1] = enc (1 : Rat) := rfl
  have z2 : PyData.tuple [.int (-1), .int 1] = enc (-1 : Rat) := rfl
  have a0 : G 100 18 (0 : Rat) := g_zero _ _
  have a1 : G 100 18 (1 : Rat) := ⟨100, by grind, by decide⟩
  have a2 : G 100 18 (-1 : Rat) := ⟨-100, by grind, by decide⟩
  have c4 : cutD [enc q0, enc q1, enc q2, enc q3, enc q4, enc q5] (some 4) none = [enc q4, enc q5] := cut_from (k := 4)
  have c2 : cutD [enc q0, enc q1, enc q2, enc q3, enc q4, enc q5] none (some 2) = [enc q0, enc q1] := cut_to (k := 2)
  have ad {xs ys : List PyData} (h : xs.length + ys.length ≤ 100) : dBin .Add (.tuple xs) (.tuple ys) = .ok (.tuple (xs ++ ys)) := addT2 h
  rw [f__law_map, run1, b__law_map]
  by_cases h0 : n.fmod 4 = 0
  · refine ⟨⟨0, 1, -1, 0, q4, q5⟩, ?_, ⟨a0, a1, a2, a0, g4, g5⟩⟩
    simp [r6, lp, m4, h0, z0, z1, z2, c4, ad, -b_addT]; rfl
  · by_cases h1 : n.fmod 4 = 1
    · refine ⟨⟨q0, q1, q0, q1, q4, q5⟩, ?_, ⟨g0, g1, g0, g1, g4, g5⟩⟩
      simp [r6, lp, m4, h0, h1, c2, c4, ad, -b_addT]; rfl
    · refine ⟨⟨q0, q1, q2, q3, q4, q5⟩, ?_, ⟨g0, g1, g2, g3, g4, g5⟩⟩
      simp [r6, lp, m4, h0, h1, c2, c4, ad, -b_addT]; rfl
end Rf
namespace Rf
open PySem Dp
open Enc (enc)
section
variable {ρ : Env}
@[simp] theorem s_tld {i : Nat} {e : IE} : evS (.tld i e) ρ = Out.ofR (tldR (evE e ρ)) fun d => .nx (ρ.set i (.im d)) := by simp only [evS]
@[simp] theorem s_tif {e d : IE} {a b : ISs} : evS (.tif e d a b) ρ = Out.ofR (tldR (evE e ρ) >>= fun x => evE d ρ >>= fun y => dCmp .NotEq x y >>= fun z => dTru z) fun k => if k then evSs a ρ else evSs b ρ := by simp only [evS]
def tryR (i : Nat) (ys : List (Str × Bool)) (c : Bool) (ρ : Env) : Res D → Out
  | .ok d => .nx (ρ.set i (.im d))
  | .er y => (match ys.lookup y with
    | some true => .nx ((List.replicate ρ.length Cell.un).set i (.im (.bool c)))
    | some false => .er y
    | none => .no)
  | .no => .no
@[simp] theorem s_tryb {i : Nat} {e : IE} {x : Str} {ys : List (Str × Bool)} {c : Bool} : evS (.tryb i e x ys c) ρ = tryR i ys c ρ (evE e ρ) := by simp only [evS]; cases evE e ρ <;> rfl
@[simp] theorem tryR_ok {i : Nat} {ys : List (Str × Bool)} {c : Bool} {d : D} : tryR i ys c ρ (.ok d) = .nx (ρ.set i (.im d)) := Res.nrf rfl
@[simp] theorem s_par3 {i j k : Nat} {a b c : IE} : evS (.par3 i j k a b c) ρ = Out.ofR (evE a ρ) fun x => Out.ofR (evE b ρ) fun y => Out.ofR (evE c ρ) fun z => .nx (((ρ.set i (.im x)).set j (.im y)).set k (.im z)) := by simp only [evS]
@[simp] theorem e_dgt {ks : List (Int ⊕ Str)} {vs : IEs} {a d : IE} : evE (.dgt ks vs a d) ρ = (evEs vs ρ >>= fun ys => evE a ρ >>= fun x => evE d ρ >>= fun z => dgtK ks ys x z) := by simp only [evE]
@[simp] theorem tldR_ok {d : D} : tldR (.ok d) = .ok (.tuple [.str "told", d]) := Res.nrf rfl
@[simp] theorem tldR_st : tldR (.er "NoStroke") = .ok (.tuple [.str "refused", .int 2]) := Res.nrf rfl
@[simp] theorem tldR_mp : tldR (.er "NoMap") = .ok (.tuple [.str "refused", .int 3]) := Res.nrf rfl
@[simp] theorem ix_tup1 {x y : D} {xs : List D} : dIdx (.tuple (x :: y :: xs)) (.int 1) = .ok y := ix_tup (xs := x :: y :: xs) (i := 1) rfl
end
theorem good_told {n : Nat} {d : D} (g : Good n d) : Good (n + 1) (.tuple [.str "told", d]) := good_tuple fun x hx => by
  simp at hx
  rcases hx with rfl | rfl
  · exact good_str _ _ (by decide +kernel)
  · exact g
theorem good_ref (n : Nat) (i : Int) : Good (n + 1) (.tuple [.str "refused", .int i]) := good_tuple fun x hx => by
  simp at hx
  rcases hx with rfl | rfl
  · exact good_str _ _ (by decide +kernel)
  · exact good_int _ _
theorem ne_told {α : Type} [Enc α] [DecidableEq α] (a b : α) (h : Enc.dep α ≤ 63) : dCmp .NotEq (.tuple [.str "told", enc a]) (.tuple [.str "told", enc b]) = .ok (.bool (!decide (a = b))) :=
  cNe (good_told (Enc.good a)) (good_told (Enc.good b)) (by omega) (by omega) (by simp [enc_inj])
@[simp] theorem ne_ref {i j : Int} : dCmp .NotEq (.tuple [.str "refused", .int i]) (.tuple [.str "refused", .int j]) = .ok (.bool (!decide (i = j))) :=
  cNe (good_ref 0 i) (good_ref 0 j) (by omega) (by omega) (by simp)
@[simp] theorem eq_ref {i j : Int} : dCmp .Eq (.tuple [.str "refused", .int i]) (.tuple [.str "refused", .int j]) = .ok (.bool (decide (i = j))) :=
  cEq (good_ref 0 i) (good_ref 0 j) (by omega) (by omega) (by simp)
theorem s_eq (x y : Str) (hx : PyData.canLay0 (.str x) = true) (hy : PyData.canLay0 (.str y) = true) : dCmp .Eq (.str x) (.str y) = .ok (.bool (decide (x = y))) := cEq (good_str 0 _ hx) (good_str 0 _ hy) (by omega) (by omega) (by simp)
theorem s_ne (x y : Str) (hx : PyData.canLay0 (.str x) = true) (hy : PyData.canLay0 (.str y) = true) : dCmp .NotEq (.str x) (.str y) = .ok (.bool (!decide (x = y))) := cNe (good_str 0 _ hx) (good_str 0 _ hy) (by omega) (by omega) (by simp)
@[simp] theorem s_tr : dCmp .Eq (.str "told") (.str "refused") = .ok (.bool false) := (s_eq _ _ (by decide +kernel) (by decide +kernel)).trans (by rw [show decide (("told" : Str) = "refused") = false from by decide +kernel])
@[simp] theorem s_rr : dCmp .Eq (.str "refused") (.str "refused") = .ok (.bool true) := (s_eq _ _ (by decide +kernel) (by decide +kernel)).trans (by rw [decide_eq_true rfl])
@[simp] theorem s_tt : dCmp .NotEq (.str "told") (.str "told") = .ok (.bool false) := (s_ne _ _ (by decide +kernel) (by decide +kernel)).trans (by rw [decide_eq_true rfl]; rfl)
@[simp] theorem s_tt' : dCmp .Eq (.str "told") (.str "told") = .ok (.bool true) := (s_eq _ _ (by decide +kernel) (by decide +kernel)).trans (by rw [decide_eq_true rfl])
theorem must_be_er {w : List Sk} {n : Int} (h : ¬ (0 ≤ n ∧ n < w.length)) : f_must_be [enc w, .int n] = .er "NoStroke" := by
  rw [f_must_be, run2, b_must_be]
  by_cases h0 : 0 ≤ n
  · have h1 : ¬ n < (w.length : Int) := fun k => h ⟨h0, k⟩
    simp [len_E, h0, h1]
  · simp [len_E, h0]
theorem spot_er {w : List Sk} {n : Int} {t : D} (h : ¬ (0 ≤ n ∧ n < w.length)) : f_spot [enc w, .int n, t] = .er "NoStroke" := by
  rw [f_spot, run3, b_spot]
  simp [must_be_er h]
theorem split_er {w : List Sk} {n : Int} {t : D} (h : ¬ (0 ≤ n ∧ n < w.length)) : f_split [enc w, .int n, t] = .er "NoStroke" := by
  rw [f_split, run3, b_split]
  simp [must_be_er h]
theorem split_mv {w : List Sk} {i : Nat} {p : P} {t : D} (h : w[i]? = some (.mv p)) : f_split [enc w, .int i, t] = .er "NoStroke" := by
  have hi := (List.getElem?_eq_some_iff.mp h).1
  rw [f_split, run3, b_split]
  simp [must_be_ok hi, ix_E h, g_MOVE, isMv]
end Rf
namespace Rf
open PySem Dp
open Enc (enc)
theorem law_led_ok {M k N l : Nat} {m : Mp} {p : P} (hp : GP M k p) (hm : GM N l m) (fM : Ft k M) (fN : Ft l N) (hb : k + l < 1900) : f__law_led [enc p, enc m] = .ok (enc (ledF m p)) := by
  rw [f__law_led, run2, b__law_led]
  have o {q : Rat} (h : G N l q) : Ok q := h.okF fN (by omega) (by omega)
  have o1 : OkP p := hp.okF fM (by omega) (by omega)
  have o2 {x y : Rat} (hx : G N l x) (hy : G M k y) : Ok (x * y) := (hx.mul hy).okF (fN.mul fM) (by omega) (by omega)
  have o3 {x y z w : Rat} (hx : G N l x) (hy : G M k y) (hz : G N l z) (hw : G M k w) : Ok (x * y + z * w) := ((hx.mul hy).add (hz.mul hw)).okF (fN.mul fM) (by omega) (by omega)
  obtain ⟨i0, i1, i2, i3⟩ := ix_mp (m := m)
  have i4 : dIdx (enc m) (.int 4) = .ok (enc m.e) := rfl
  have i5 : dIdx (enc m) (.int 5) = .ok (enc m.f) := rfl
  have j0 : dIdx (enc p) (.int 0) = .ok (enc p.1) := rfl
  have j1 : dIdx (enc p) (.int 1) = .ok (enc p.2) := rfl
  simp [i0, i1, i2, i3, i4, i5, j0, j1, law_times_ok (o hm.a) o1.1, law_times_ok (o hm.b) o1.1, law_times_ok (o hm.c) o1.2, law_times_ok (o hm.d) o1.2,
    law_plus_ok (o2 hm.a hp.1) (o2 hm.c hp.2), law_plus_ok (o2 hm.b hp.1) (o2 hm.d hp.2), law_plus_ok (o3 hm.a hp.1 hm.c hp.2) (o hm.e), law_plus_ok (o3 hm.b hp.1 hm.d hp.2) (o hm.f), mk_pair, ledF]
/-- the map of the corner and the units -/
def fcF (a b c : P) : Mp := ⟨b.1 - a.1, b.2 - a.2, c.1 - a.1, c.2 - a.2, a.1, a.2⟩
theorem fc_gm {M k : Nat} {a b c : P} (ha : GP M k a) (hb : GP M k b) (hc : GP M k c) : GM M (k + 1) (fcF a b c) :=
  ⟨hb.1.sub ha.1, hb.2.sub ha.2, hc.1.sub ha.1, hc.2.sub ha.2, ha.1.mono (by omega), ha.2.mono (by omega)⟩
theorem enc3 {a b c : P} : enc [a, b, c] = PyData.tuple [enc a, enc b, enc c] := rfl
theorem from_corner_ok {M k : Nat} {a b c : P} (ha : GP M k a) (hb : GP M k b) (hc : GP M k c) (f : Ft k M) (h : k < 1900) : f_from_corner [enc [a, b, c]] = .ok (enc (fcF a b c)) := by
  have o {p : P} (h : GP M k p) : OkP p := h.okF f (by omega) (by omega)
  have e1 : dBin .Add (enc (pSub b a)) (enc (pSub c a)) = .ok (.tuple [enc (b.1 - a.1), enc (b.2 - a.2), enc (c.1 - a.1), enc (c.2 - a.2)]) := addT2 (by simp)
  have e2 : dBin .Add (.tuple [enc (b.1 - a.1), enc (b.2 - a.2), enc (c.1 - a.1), enc (c.2 - a.2)]) (enc a) = .ok (enc (fcF a b c)) := addT2 (by simp)
  rw [f_from_corner, run1, b_from_corner]
  simp [enc3, apart_ok (o ha) (o hb), apart_ok (o ha) (o hc), e1, e2, -b_addT]
theorem undone_er {N l : Nat} {m : Mp} (h : GM N l m) (f : Ft l N) (hb : l < 400) (hw : spreadF m = 0) : f_undone [enc m] = .er "NoMap" := by
  have sp := spread_ok h f (by omega)
  rw [hw] at sp
  rw [f_undone, run1, b_undone]
  simp [sp, g_begin]
def mfF (a b c x y z : P) : Mp := behF (undF (fcF a b c)) (fcF x y z)
theorem map_from_ok {M k : Nat} {a b c x y z : P} (ha : GP M k a) (hb : GP M k b) (hc : GP M k c) (hx : GP M k x) (hy : GP M k y) (hz : GP M k z) (f : Ft k M) (h : k < 300) (hs : spreadF (fcF a b c) ≠ 0) : f_map_from [enc [a, b, c], enc [x, y, z]] = .ok (enc (mfF a b c x y z)) := by
  have c1 := from_corner_ok ha hb hc f (by omega)
  have c2 := from_corner_ok hx hy hz f (by omega)
  have g1 := fc_gm ha hb hc
  have g2 := fc_gm hx hy hz
  have f1 : Ft (k + 1) M := f.mono (by omega)
  have u := undone_ok g1 f1 (by omega) hs
  obtain ⟨DD, fD, gD⟩ := und_gm g1 f1 hs
  have b := behind_ok gD g2 fD f1 (by omega)
  rw [f_map_from, run2, b_map_from]
  simp [c1, c2, u, b, mfF]
theorem map_from_er {M k : Nat} {a b c x y z : P} (ha : GP M k a) (hb : GP M k b) (hc : GP M k c) (f : Ft k M) (h : k < 300) (hs : spreadF (fcF a b c) = 0) : f_map_from [enc [a, b, c], enc [x, y, z]] = .er "NoMap" := by
  have c1 := from_corner_ok ha hb hc f (by omega)
  have g1 := fc_gm ha hb hc
  have f1 : Ft (k + 1) M := f.mono (by omega)
  have u := undone_er g1 f1 (by omega) hs
  rw [f_map_from, run2, b_map_from]
  simp [c1, u]
theorem mf_gm {M k : Nat} {a b c x y z : P} (ha : GP M k a) (hb : GP M k b) (hc : GP M k c) (hx : GP M k x) (hy : GP M k y) (hz : GP M k z) (f : Ft k M) (hs : spreadF (fcF a b c) ≠ 0) : ∃ D, Ft (4 * k + 10) D ∧ GM D (4 * k + 10) (mfF a b c x y z) := by
  have f1 : Ft (k + 1) M := f.mono (by omega)
  obtain ⟨DD, fD, gD⟩ := und_gm (fc_gm ha hb hc) f1 hs
  have g := beh_gm gD (fc_gm hx hy hz) fD f1
  refine ⟨M * DD, (f.mul fD).mono (by omega), ?_⟩
  obtain ⟨q1, q2, q3, q4, q5, q6⟩ := g
  exact ⟨q1.mono (by omega), q2.mono (by omega), q3.mono (by omega), q4.mono (by omega), q5.mono (by omega), q6.mono (by omega)⟩
theorem led_fc (a b c : P) : ledF (fcF a b c) (0, 0) = a ∧ ledF (fcF a b c) (1, 0) = b ∧ ledF (fcF a b c) (0, 1) = c := by
  refine ⟨?_, ?_, ?_⟩ <;> (refine Prod.ext ?_ ?_ <;> simp only [ledF, fcF] <;> grind)
theorem led_mf {a b c x y z : P} (hs : spreadF (fcF a b c) ≠ 0) : ledF (mfF a b c x y z) a = x ∧ ledF (mfF a b c x y z) b = y ∧ ledF (mfF a b c x y z) c = z := by
  obtain ⟨h1, h2, h3⟩ := led_fc a b c
  obtain ⟨k1, k2, k3⟩ := led_fc x y z
  have key (p q : P) (e : ledF (fcF a b c) p = q) : ledF (mfF a b c x y z) q = ledF (fcF x y z) p := by
    rw [mfF, led_beh, ← e, und_led hs]
  exact ⟨by rw [key _ _ h1, k1], by rw [key _ _ h2, k2], by rw [key _ _ h3, k3]⟩
theorem beh_assoc (a b c : Mp) : behF (behF a b) c = behF a (behF b c) := by
  simp only [behF, bareM, ledF, Mp.mk.injEq]
  refine ⟨?_, ?_, ?_, ?_, ?_, ?_⟩ <;> grind
theorem beh_id (m : Mp) : behF m idM = m := by
  obtain ⟨a, b, c, d, e, f⟩ := m
  simp only [behF, bareM, ledF, idM, Mp.mk.injEq]
  refine ⟨?_, ?_, ?_, ?_, ?_, ?_⟩ <;> grind
theorem id_beh (m : Mp) : behF idM m = m := by
  obtain ⟨a, b, c, d, e, f⟩ := m
  simp only [behF, bareM, ledF, idM, Mp.mk.injEq]
  refine ⟨?_, ?_, ?_, ?_, ?_, ?_⟩ <;> grind
theorem und_beh {m : Mp} (h : spreadF m ≠ 0) : behF (undF m) m = idM := by
  have := beh_und (spread_und_ne h)
  rwa [und_und h] at this
theorem und_of_beh {a b : Mp} (ha : spreadF a ≠ 0) (hb : spreadF b ≠ 0) : undF (behF a b) = behF (undF b) (undF a) := by
  have hx : spreadF (behF a b) ≠ 0 := by
    rw [spread_beh]
    intro h
    rcases Rat.mul_eq_zero.mp h with h | h
    · exact ha h
    · exact hb h
  have e : behF (behF a b) (behF (undF b) (undF a)) = idM := by
    rw [beh_assoc, ← beh_assoc b, beh_und hb, id_beh, beh_und ha]
  calc undF (behF a b) = behF (undF (behF a b)) idM := (beh_id _).symm
    _ = behF (undF (behF a b)) (behF (behF a b) (behF (undF b) (undF a))) := by rw [e]
    _ = behF (behF (undF (behF a b)) (behF a b)) (behF (undF b) (undF a)) := (beh_assoc _ _ _).symm
    _ = behF (undF b) (undF a) := by rw [und_beh hx, id_beh]
theorem spread_id : spreadF idM = 1 := by simp only [spreadF, idM]; grind
theorem und_id : undF idM = idM := by
  have h : spreadF idM ≠ 0 := by rw [spread_id]; decide
  have := beh_und h
  rwa [id_beh] at this
end Rf
namespace Dw
open PySem Rf Dp
def b__law_is_back : ISs :=
 (.cons (.ret (.cmp .Eq (.lc [("_law_point_here", 3)] (.nm 3) (.seq (.var 2)) (.some (.cmp .NotEq (.call "_law_led" f__law_led (.cons (.call "_law_led" f__law_led (.cons (.var 3) (.cons (.var 0) .nil))) (.cons (.var 1) .nil))) (.var 3))) (.var 3)) (.lst .nil)))
 .nil)
def f__law_is_back : Fn := runFn 3 4 b__law_is_back
def l_law_1 : IE :=
 (.call "undone" f_undone (.cons (.var 1) .nil))
def l_law_2 : IE :=
 (.call "map_from" f_map_from (.cons (.var 13) (.cons (.slc (.var 4) (.some (.int 3)) .none) .nil)))
def q_law_1 : ISs :=
 (.cons (.ife (.cmp .NotEq (.call "led" f_led (.cons (.var 7) (.cons (.var 1) .nil))) (.call "_law_led" f__law_led (.cons (.var 7) (.cons (.var 1) .nil))))
 (.cons (.ret (.bl false))
 .nil)
 .nil)
 (.cons (.ife (.cmp .NotEq (.call "_law_led" f__law_led (.cons (.var 7) (.cons (.call "behind" f_behind (.cons (.var 1) (.cons (.var 2) .nil))) .nil))) (.call "_law_led" f__law_led (.cons (.call "_law_led" f__law_led (.cons (.var 7) (.cons (.var 1) .nil))) (.cons (.var 2) .nil))))
 (.cons (.ret (.bl false))
 .nil)
 .nil)
 (.cons (.kil [7])
 .nil)))
def q_law_2 : ISs :=
 (.cons (.set 10 (.lc [("_law_point_here", 7)] (.nm 7) (.seq (.slc (.var 9) (.some (.int 1)) .none)) .none (.call "_law_led" f__law_led (.cons (.var 7) (.cons (.var 1) .nil)))))
 (.cons (.set 8 (.bin .Add (.var 8) (.tup (.cons (.bin .Add (.slc (.var 9) .none (.some (.int 1))) (.bi .tuple (.cons (.var 10) .nil))) .nil))))
 (.cons (.kil [9, 10])
 .nil)))
def b_law : ISs :=
 (.cons (.set 1 (.call "_law_map" f__law_map (.cons (.call "_law_mixed" f__law_mixed (.cons (.var 0) (.cons (.int 0) .nil))) .nil)))
 (.cons (.set 2 (.call "_law_map" f__law_map (.cons (.call "_law_mixed" f__law_mixed (.cons (.var 0) (.cons (.int 1) .nil))) .nil)))
 (.cons (.set 3 (.call "_law_way" f__law_way (.cons (.call "_law_mixed" f__law_mixed (.cons (.var 0) (.cons (.int 2) .nil))) (.cons (.int 8) .nil))))
 (.cons (.set 4 (.bi .tuple (.cons (.lc [("_law_k", 5)] (.nm 5) (.rng1 (.int 6)) .none (.call "_law_point" f__law_point (.cons (.call "_law_mixed" f__law_mixed (.cons (.var 0) (.cons (.bin .Add (.int 3) (.var 5)) .nil))) .nil))) .nil)))
 (.cons (.set 6 (.tup (.cons (.tup (.cons (.tup (.cons (.int 0) (.cons (.int 1) .nil))) (.cons (.tup (.cons (.int 0) (.cons (.int 1) .nil))) .nil))) (.cons (.tup (.cons (.tup (.cons (.int 1) (.cons (.int 1) .nil))) (.cons (.tup (.cons (.int 0) (.cons (.int 1) .nil))) .nil))) (.cons (.tup (.cons (.tup (.cons (.int 0) (.cons (.int 1) .nil))) (.cons (.tup (.cons (.int 1) (.cons (.int 1) .nil))) .nil))) .nil)))))
 (.cons (.fr (.nm 7) (.seq (.bin .Add (.var 4) (.var 6)))
 q_law_1)
 (.cons (.kil [7])
 (.cons (.set 8 (.tup .nil))
 (.cons (.fr (.nm 9) (.seq (.var 3))
 q_law_2)
 (.cons (.kil [9, 10])
 (.cons (.set 11 (.call "_law_minus" f__law_minus (.cons (.call "_law_times" f__law_times (.cons (.idx (.var 1) (.int 0)) (.cons (.idx (.var 1) (.int 3)) .nil))) (.cons (.call "_law_times" f__law_times (.cons (.idx (.var 1) (.int 1)) (.cons (.idx (.var 1) (.int 2)) .nil))) .nil))))
 (.cons (.ife (.or (.cmp .NotEq (.call "mapped" f_mapped (.cons (.var 3) (.cons (.var 1) .nil))) (.var 8)) (.cmp .NotEq (.call "spread" f_spread (.cons (.var 1) .nil)) (.var 11)))
 (.cons (.ret (.bl false))
 .nil)
 .nil)
 (.cons (.tld 12 l_law_1)
 (.cons (.ife (.cmp .Eq (.var 11) (.tup (.cons (.int 0) (.cons (.int 1) .nil))))
 (.cons (.ife (.cmp .NotEq (.var 12) (.tup (.cons (.str "refused") (.cons (.int 3) .nil))))
 (.cons (.ret (.bl false))
 .nil)
 .nil)
 .nil)
 (.cons (.ife (.or (.cmp .NotEq (.idx (.var 12) (.int 0)) (.str "told")) (.not (.call "_law_is_back" f__law_is_back (.cons (.var 1) (.cons (.idx (.var 12) (.int 1)) (.cons (.bin .Add (.var 4) (.var 6)) .nil))))))
 (.cons (.ret (.bl false))
 .nil)
 .nil)
 .nil))
 (.cons (.set 13 (.slc (.var 4) .none (.some (.int 3))))
 (.cons (.ife (.cmp .Eq (.bin .Mod (.call "_law_mixed" f__law_mixed (.cons (.var 0) (.cons (.int 9) .nil))) (.int 4)) (.int 0))
 (.cons (.set 13 (.bin .Add (.slc (.var 13) .none (.some (.int 2))) (.tup (.cons (.call "_law_add" f__law_add (.cons (.idx (.var 13) (.int 0)) (.cons (.call "_law_scale" f__law_scale (.cons (.tup (.cons (.int 3) (.cons (.int 1) .nil))) (.cons (.call "_law_sub" f__law_sub (.cons (.idx (.var 13) (.int 1)) (.cons (.idx (.var 13) (.int 0)) .nil))) .nil))) .nil))) .nil))))
 .nil)
 .nil)
 (.cons (.set 14 (.call "_law_sub" f__law_sub (.cons (.idx (.var 13) (.int 1)) (.cons (.idx (.var 13) (.int 0)) .nil))))
 (.cons (.set 15 (.call "_law_sub" f__law_sub (.cons (.idx (.var 13) (.int 2)) (.cons (.idx (.var 13) (.int 0)) .nil))))
 (.cons (.tld 12 l_law_2)
 (.cons (.ife (.cmp .Eq (.call "_law_times" f__law_times (.cons (.idx (.var 14) (.int 0)) (.cons (.idx (.var 15) (.int 1)) .nil))) (.call "_law_times" f__law_times (.cons (.idx (.var 14) (.int 1)) (.cons (.idx (.var 15) (.int 0)) .nil))))
 (.cons (.ret (.cmp .Eq (.var 12) (.tup (.cons (.str "refused") (.cons (.int 3) .nil)))))
 .nil)
 .nil)
 (.cons (.ret (.and (.cmp .Eq (.idx (.var 12) (.int 0)) (.str "told")) (.cmp .Eq (.lc [("_law_point_here", 7)] (.nm 7) (.seq (.var 13)) .none (.call "_law_led" f__law_led (.cons (.var 7) (.cons (.idx (.var 12) (.int 1)) .nil)))) (.bi .list (.cons (.slc (.var 4) (.some (.int 3)) .none) .nil)))))
 .nil)))))))))))))))))))))
def f_law : Fn := runFn 1 16 b_law
end Dw
namespace Dw
open PySem Rf Dp
open Enc (enc)
theorem pt_ok (ns : List Int) (k : Nat) : ∃ (v : Int) (p : P), f__law_mixed [.list (ns.map PyData.int), .int k] = .ok (.int v) ∧ f__law_point [.int v] = .ok (enc p) ∧ GP 100 40 p := by
  obtain ⟨v, ev, _⟩ := law_mixed_ok ns k
  obtain ⟨p, ep, h1, h2⟩ := law_pointS v
  exact ⟨v, p, ev, ep, h1.mono (by decide), h2.mono (by decide)⟩
theorem is_back_ok {m : Mp} {D l : Nat} {u : Mp} (gm : GM 100 18 m) (gu : GM D l u) (fD : Ft l D) (hl : l < 200) (h : ∀ p, ledF u (ledF m p) = p) (Q : List P) (hQ : ∀ q ∈ Q, GP 100 40 q) (h9 : Q.length ≤ 20) : f__law_is_back [enc m, enc u, enc Q] = .ok (.bool true) := by
  have l6 := lim6
  have lq : Q.length ≤ LIM := by omega
  have key : lcGo (lE [("_law_point_here", 3)] (.nm 3) (.some (.cmp .NotEq (.call "_law_led" f__law_led (.cons (.call "_law_led" f__law_led (.cons (.var 3) (.cons (.var 0) .nil))) (.cons (.var 1) .nil))) (.var 3))) (.var 3) [.im (enc m), .im (enc u), .im (enc Q), .un]) (Q.map enc) = .ok [] := by
    have : ∀ l : List P, (∀ q ∈ l, GP 100 40 q) → lcGo (lE [("_law_point_here", 3)] (.nm 3) (.some (.cmp .NotEq (.call "_law_led" f__law_led (.cons (.call "_law_led" f__law_led (.cons (.var 3) (.cons (.var 0) .nil))) (.cons (.var 1) .nil))) (.var 3))) (.var 3) [.im (enc m), .im (enc u), .im (enc Q), .un]) (l.map enc) = .ok [] := by
      intro l
      induction l with
      | nil => intro _; rfl
      | cons q l ih =>
        intro hq
        have gq := hq q (by simp)
        have e1 := law_led_ok gq gm (ft_100.mono (by decide)) (ft_100.mono (by decide)) (by decide)
        have e2 := law_led_ok (led_g gq gm (ft_100.mono (by decide)) (ft_100.mono (by decide))) gu ((ft_100.mul ft_100).mono (by decide)) fD (by omega)
        rw [h q] at e2
        have st : lE [("_law_point_here", 3)] (.nm 3) (.some (.cmp .NotEq (.call "_law_led" f__law_led (.cons (.call "_law_led" f__law_led (.cons (.var 3) (.cons (.var 0) .nil))) (.cons (.var 1) .nil))) (.var 3))) (.var 3) [.im (enc m), .im (enc u), .im (enc Q), .un] (enc q) = .ok none := by
          simp [lE, e1, e2]
        rw [List.map_cons, lcGo, st]
        simp only
        rw [ih fun r hr => hq r (List.mem_cons_of_mem _ hr)]
        rfl
    exact this Q hQ
  have e0 : dCmp .Eq (.list []) (.list []) = .ok (.bool true) := by
    have := c_eqL (a := ([] : List Sk)) (b := [])
    simpa [encL] using this
  rw [f__law_is_back, run3, b__law_is_back]
  simp [it_E lq, lq, key, e0]
/-- the last questions -/
theorem fin_ok {a b c x y z : P} (ga : GP 100 44 a) (gb : GP 100 44 b) (gc : GP 100 44 c) (gx : GP 100 44 x) (gy : GP 100 44 y) (gz : GP 100 44 z) : ∃ r : Res D, f_map_from [enc [a, b, c], enc [x, y, z]] = r ∧
    ((spreadF (fcF a b c) = 0 ∧ r = .er "NoMap") ∨ (spreadF (fcF a b c) ≠ 0 ∧ ∃ M : Mp, r = .ok (enc M) ∧ f__law_led [enc a, enc M] = .ok (enc x) ∧ f__law_led [enc b, enc M] = .ok (enc y) ∧ f__law_led [enc c, enc M] = .ok (enc z))) := by
  have f : Ft 44 100 := ft_100.mono (by decide)
  by_cases hs : spreadF (fcF a b c) = 0
  · exact ⟨_, map_from_er ga gb gc f (by decide) hs, .inl ⟨hs, rfl⟩⟩
  · refine ⟨_, map_from_ok ga gb gc gx gy gz f (by decide) hs, .inr ⟨hs, _, rfl, ?_⟩⟩
    obtain ⟨D, fD, gD⟩ := mf_gm ga gb gc gx gy gz f hs
    obtain ⟨h1, h2, h3⟩ := led_mf (a := a) (b := b) (c := c) (x := x) (y := y) (z := z) hs
    have k1 := law_led_ok ga gD f fD (by decide)
    have k2 := law_led_ok gb gD f fD (by decide)
    have k3 := law_led_ok gc gD f fD (by decide)
    rw [h1] at k1
    rw [h2] at k2
    rw [h3] at k3
    exact ⟨k1, k2, k3⟩
theorem law_ok (ns : List Int) : f_law [.list (ns.map PyData.int)] = .ok (.bool true) := by
  obtain ⟨v0, ev0, _⟩ := law_mixed_ok ns 0
  obtain ⟨v1, ev1, _⟩ := law_mixed_ok ns 1
  obtain ⟨v2, ev2, _⟩ := law_mixed_ok ns 2
  obtain ⟨v9, ev9, _⟩ := law_mixed_ok ns 9
  obtain ⟨m, em, gm⟩ := law_map_ok v0
  obtain ⟨o, eo, go⟩ := law_map_ok v1
  obtain ⟨w, ew, hw⟩ := law_way_ok v2 8 (by decide)
  obtain ⟨u0, p0, a0, b0, g0⟩ := pt_ok ns 3
  obtain ⟨u1, p1, a1, b1, g1⟩ := pt_ok ns 4
  obtain ⟨u2, p2, a2, b2, g2⟩ := pt_ok ns 5
  obtain ⟨u3, p3, a3, b3, g3⟩ := pt_ok ns 6
  obtain ⟨u4, p4, a4, b4, g4⟩ := pt_ok ns 7
  obtain ⟨u5, p5, a5, b5, g5⟩ := pt_ok ns 8
  simp at ev0 ev1 ev2 ev9 ew a0 a1 a2 a3 a4 a5
  have l6 := lim6
  have lw := hw.len
  have gw := way_g hw
  have rg : rngD (.int 6) = .ok (upto 6 0) := rngD_ok (j := 6) rfl (by decide)
  have el : upto 6 0 = [.int 0, .int 1, .int 2, .int 3, .int 4, .int 5] := rfl
  have hl : ∀ c : List Cell, c.length = 10 → lcGo (lE [("_law_k", 5)] (.nm 5) .none (.call "_law_point" f__law_point (.cons (.call "_law_mixed" f__law_mixed (.cons (.var 0) (.cons (.bin .Add (.int 3) (.var 5)) .nil))) .nil)) [.im (.list (ns.map PyData.int)), .im (enc m), .im (enc o), .im (enc w), .un, .un, .un, .un, .un, .un, .un, .un, .un, .un, .un, .un]) [.int 0, .int 1, .int 2, .int 3, .int 4, .int 5] = .ok [enc p0, enc p1, enc p2, enc p3, enc p4, enc p5] := by
    intro c _
    simp [lcGo, lE, a0, a1, a2, a3, a4, a5, b0, b1, b2, b3, b4, b5]
  have hl := hl (List.replicate 10 .un) rfl
  -- the points
  obtain ⟨PL, hPL⟩ : ∃ PL : List P, PL = [p0, p1, p2, p3, p4, p5] := ⟨_, rfl⟩
  have tp : PyData.tuple [enc p0, enc p1, enc p2, enc p3, enc p4, enc p5] = enc PL := by rw [hPL]; rfl
  have gPL : ∀ q ∈ PL, GP 100 40 q := by
    intro q hq
    rw [hPL] at hq
    simp at hq
    rcases hq with rfl | rfl | rfl | rfl | rfl | rfl <;> assumption
  have lPL : PL.length = 6 := by rw [hPL]; rfl
  have sA : dSlc (enc PL) none (some 3) = .ok (enc [p0, p1, p2]) := by
    have := slc_to (xs := PL) (k := 3)
    rw [hPL] at this ⊢
    exact this
  have sB : dSlc (enc PL) (some 3) none = .ok (enc [p3, p4, p5]) := by
    have := slc_from (xs := PL) (k := 3)
    rw [hPL] at this ⊢
    exact this
  obtain ⟨EN, hEN⟩ : ∃ EN : List P, EN = [(0, 0), (1, 0), (0, 1)] := ⟨_, rfl⟩
  have te : PyData.tuple [PyData.tuple [enc (0 : Rat), enc (0 : Rat)], PyData.tuple [PyData.tuple [.int 1, .int 1], enc (0 : Rat)], PyData.tuple [enc (0 : Rat), PyData.tuple [.int 1, .int 1]]] = enc EN := by rw [hEN]; rfl
  have gEN : ∀ q ∈ EN, GP 100 40 q := by
    have h0 : G 100 40 (0 : Rat) := g_zero _ _
    have h1 : G 100 40 (1 : Rat) := ⟨100, by rw [Rat.one_mul]; rfl, by decide⟩
    intro q hq
    rw [hEN] at hq
    simp at hq
    rcases hq with rfl | rfl | rfl
    · exact ⟨h0, h0⟩
    · exact ⟨h1, h0⟩
    · exact ⟨h0, h1⟩
  have ad : dBin .Add (enc PL) (enc EN) = .ok (enc (PL ++ EN)) := b_addE (by rw [hPL, hEN]; simp)
  have gQ : ∀ q ∈ PL ++ EN, GP 100 40 q := by
    intro q hq
    rcases List.mem_append.mp hq with hq | hq
    · exact gPL q hq
    · exact gEN q hq
  have lQ : (PL ++ EN).length = 9 := by rw [hPL, hEN]; rfl
  generalize PL ++ EN = Q at ad gQ lQ
  have itQ : itemsOf (enc Q) = .ok (Q.map enc) := it_E (by omega)
  have f18 : Ft 18 100 := ft_100.mono (by decide)
  have f40 : Ft 40 100 := ft_100.mono (by decide)
  have kb := behind_ok gm go f18 f18 (by decide)
  have gb := beh_gm gm go f18 f18
  have lp1 : forGo (fE (.nm 7) q_law_1) (Q.map enc) [.im (.list (ns.map PyData.int)), .im (enc m), .im (enc o), .im (enc w), .im (enc PL), .un, .im (enc EN), .un, .un, .un, .un, .un, .un, .un, .un, .un] = .nx [.im (.list (ns.map PyData.int)), .im (enc m), .im (enc o), .im (enc w), .im (enc PL), .un, .im (enc EN), .un, .un, .un, .un, .un, .un, .un, .un, .un] := by
    refine forGo_idx (fun _ => [.im (.list (ns.map PyData.int)), .im (enc m), .im (enc o), .im (enc w), .im (enc PL), .un, .im (enc EN), .un, .un, .un, .un, .un, .un, .un, .un, .un]) ?_ rfl
    intro i d hd
    obtain ⟨q, hq, rfl⟩ := map_get hd
    have gq := gQ q (List.mem_of_getElem? hq)
    have k1 := led_ok gq gm f40 f18 (by decide)
    have k2 := law_led_ok gq gm f40 f18 (by decide)
    have k3 := law_led_ok gq gb f40 ((ft_100.mul ft_100).mono (by decide)) (by decide)
    have k4 := law_led_ok (led_g gq gm f40 f18) go ((ft_100.mul ft_100).mono (by decide)) f18 (by decide)
    rw [led_beh] at k3
    simp [fE, q_law_1, k1, k2, kb, k3, k4]
  -- the way led
  have lp2 : forGo (fE (.nm 9) q_law_2) (w.map enc) [.im (.list (ns.map PyData.int)), .im (enc m), .im (enc o), .im (enc w), .im (enc PL), .un, .im (enc EN), .un, .im (enc ([] : List Sk)), .un, .un, .un, .un, .un, .un, .un] = .nx [.im (.list (ns.map PyData.int)), .im (enc m), .im (enc o), .im (enc w), .im (enc PL), .un, .im (enc EN), .un, .im (enc (mapF m w)), .un, .un, .un, .un, .un, .un, .un] := by
    have := forGo_idx (ρ := [.im (.list (ns.map PyData.int)), .im (enc m), .im (enc o), .im (enc w), .im (enc PL), .un, .im (enc EN), .un, .im (enc ([] : List Sk)), .un, .un, .un, .un, .un, .un, .un]) (f := fE (.nm 9) q_law_2) (ds := w.map enc) (fun i => [.im (.list (ns.map PyData.int)), .im (enc m), .im (enc o), .im (enc w), .im (enc PL), .un, .im (enc EN), .un, .im (enc (mapF m (w.take i))), .un, .un, .un, .un, .un, .un, .un]) (by
      intro i d hd
      obtain ⟨x, hx, rfl⟩ := map_get hd
      have hi := (List.getElem?_eq_some_iff.mp hx).1
      have gx := gw x (List.mem_of_getElem? hx)
      have lp := pts_len x
      have lp' : x.pts.length ≤ LIM := by omega
      have e2 : lcGo (lE [("_law_point_here", 7)] (.nm 7) .none (.call "_law_led" f__law_led (.cons (.var 7) (.cons (.var 1) .nil))) [.im (.list (ns.map PyData.int)), .im (enc m), .im (enc o), .im (enc w), .im (enc PL), .un, .im (enc EN), .un, .im (enc (mapF m (w.take i))), .im (enc x), .un, .un, .un, .un, .un, .un]) (x.pts.map enc) = .ok (x.pts.map fun q => enc (ledF m q)) := by
        refine lcGo_all _ _ ?_
        intro q hq
        simp [lE, law_led_ok (gx q hq) gm f40 f18 (by decide)]
      have s0 : dSlc (enc x) none (some 1) = .ok (.tuple [.str x.nam]) := by
        rw [enc_sk, slc_T]
        have := cut_to (xs := .str x.nam :: x.pts.map enc) (k := 1)
        simp only [Int.natCast_one] at this
        rw [this]; rfl
      have fin : dBin .Add (.tuple [.str x.nam]) (.tuple (x.pts.map fun q => enc (ledF m q))) = .ok (enc (mapS m x)) := by
        rw [b_addT, if_pos (by simp; omega), enc_sk, mapS_nam, mapS_pts, List.map_map]; rfl
      have t1 : dBi .tuple [.list (x.pts.map fun q => enc (ledF m q))] = .ok (.tuple (x.pts.map fun q => enc (ledF m q))) := rfl
      have fin2 : dBin .Add (enc (mapF m (w.take i))) (.tuple [enc (mapS m x)]) = .ok (enc (mapF m (w.take (i + 1)))) := by
        have := b_addE (xs := mapF m (w.take i)) (ys := [mapS m x]) (by simp; omega)
        have e : mapF m (w.take (i + 1)) = mapF m (w.take i) ++ [mapS m x] := by
          rw [List.take_add_one, hx]; simp [mapF]
        rw [e]
        exact this
      generalize mapF m (w.take i) = A at *
      generalize mapF m (w.take (i + 1)) = B at *
      simp only [fE, q_law_2, t_nm, ofR_ok, List.set_cons_succ, List.set_cons_zero, ss_cons, s_set, e_lc, i_seq, e_slc, e_var, List.getElem?_cons_zero, List.getElem?_cons_succ, Res.bind_ok, o_none, o_some, e_int, slc_sk, it_E lp', List.length_map, lp', if_true, e2, e_bin, e_tup, e_cons, e_nil, e_bi, s0, t1, fin, fin2, seq_nx, s_kil, wipe_cons, wipe_nil, ss_nil]) rfl
    rw [List.length_map, List.take_length] at this
    exact this
  have mp := mapped_ok gw gm (ft_100.mono (by decide)) f18 (by decide) (by omega)
  have s1 := spread_ok gm f18 (by decide)
  obtain ⟨i0, i1, i2, i3⟩ := ix_mp (m := m)
  have oq {q : Rat} (h : G 100 18 q) : Ok q := h.okF f18 (by decide) (by decide)
  have oq2 {x y : Rat} (hx : G 100 18 x) (hy : G 100 18 y) : Ok (x * y) := (hx.mul hy).okF (f18.mul f18) (by decide) (by decide)
  have t1 := law_times_ok (oq gm.a) (oq gm.d)
  have t2 := law_times_ok (oq gm.b) (oq gm.c)
  have t3 : f__law_minus [enc (m.a * m.d), enc (m.b * m.c)] = .ok (enc (spreadF m)) := law_minus_ok (oq2 gm.a gm.d) (oq2 gm.b gm.c)
  have itw := it_E (show w.length ≤ LIM by omega)
  have nl : PyData.tuple [] = enc ([] : List Sk) := rfl
  -- three to three
  have w44 {q : P} (h : GP 100 40 q) : GP 100 44 q := h.mono (by decide)
  have op {q : P} (h : GP 100 44 q) : OkP q := h.okF ft_100 (by decide) (by decide)
  have op' {q : P} (h : GP 100 45 q) : OkP q := h.okF ft_100 (by decide) (by decide)
  have j0 {q : P} : dIdx (enc q) (.int 0) = .ok (enc q.1) := rfl
  have j1 {q : P} : dIdx (enc q) (.int 1) = .ok (enc q.2) := rfl
  have e3 {a b c : P} : dIdx (enc [a, b, c]) (.int 0) = .ok (enc a) ∧ dIdx (enc [a, b, c]) (.int 1) = .ok (enc b) ∧ dIdx (enc [a, b, c]) (.int 2) = .ok (enc c) := ⟨rfl, rfl, rfl⟩
  have il {a b c : P} : itemsOf (enc [a, b, c]) = .ok [enc a, enc b, enc c] := it_E (xs := [a, b, c]) (by simp)
  have bl {a b c : P} : dBi .list [enc [a, b, c]] = .ok (encL [a, b, c]) := rfl
  have ll {a b c : P} : PyData.list [enc a, enc b, enc c] = encL [a, b, c] := rfl
  obtain ⟨c', ec', gc'⟩ : ∃ c' : P, f__law_add [enc p0, enc (pMul 3 (pSub p1 p0))] = .ok (enc c') ∧ GP 100 44 c' := by
    have gt3 : GP (100 * 1) 43 (pMul 3 (pSub p1 p0)) := (GP.mul (l := 2) (G.int (N := 3) (by decide)) (g1.sub g0)).mono (by decide)
    rw [Nat.mul_one] at gt3
    exact ⟨_, law_add_ok (gt3.okF ft_100 (by decide) (by decide)) (op (w44 g0)), (g0.mono (by decide)).add gt3⟩
  have s3 : f__law_scale [enc (3 : Rat), enc (pSub p1 p0)] = .ok (enc (pMul 3 (pSub p1 p0))) := law_scale_ok (op ((g1.sub g0).mono (by decide))) ((G.int (N := 3) (k := 2) (by decide)).okF ft_1 (by decide) (by decide))
  have su1 : f__law_sub [enc p1, enc p0] = .ok (enc (pSub p1 p0)) := law_sub_ok (op (w44 g0)) (op (w44 g1))
  have m4 : dBin .Mod (.int v9) (.int 4) = .ok (.int (v9.fmod 4)) := b_mod (by decide)
  have q3 : PyData.tuple [.int 3, .int 1] = enc (3 : Rat) := rfl
  have s2c : dSlc (enc [p0, p1, p2]) none (some 2) = .ok (enc [p0, p1]) := slc_to (xs := [p0, p1, p2]) (k := 2)
  have a2c : dBin .Add (enc [p0, p1]) (.tuple [enc c']) = .ok (enc [p0, p1, c']) := b_addE (xs := [p0, p1]) (ys := [c']) (by simp)
  have back : ∀ S : Rat, S = spreadF m → ∃ r : Res D, f_undone [enc m] = r ∧ ((S = 0 ∧ r = .er "NoMap") ∨ (S ≠ 0 ∧ ∃ u : Mp, r = .ok (enc u) ∧ f__law_is_back [enc m, enc u, enc Q] = .ok (.bool true))) := by
    rintro S rfl
    by_cases hs : spreadF m = 0
    · exact ⟨_, undone_er gm f18 (by decide) hs, .inl ⟨hs, rfl⟩⟩
    · obtain ⟨DD, fD, gD⟩ := und_gm gm f18 hs
      exact ⟨_, undone_ok gm f18 (by decide) hs, .inr ⟨hs, _, rfl, is_back_ok gm gD fD (by decide) (fun p => und_led hs p) Q gQ (by omega)⟩⟩
  have z0 : PyData.tuple [.int 0, .int 1] = enc (0 : Rat) := rfl
  have last : ∀ c : P, GP 100 44 c → ∃ r : Res D, f_map_from [enc [p0, p1, c], enc [p3, p4, p5]] = r ∧ f__law_sub [enc c, enc p0] = .ok (enc (pSub c p0)) ∧ f__law_times [enc (pSub p1 p0).1, enc (pSub c p0).2] = .ok (enc ((pSub p1 p0).1 * (pSub c p0).2)) ∧ f__law_times [enc (pSub p1 p0).2, enc (pSub c p0).1] = .ok (enc ((pSub p1 p0).2 * (pSub c p0).1)) ∧
      (((pSub p1 p0).1 * (pSub c p0).2 = (pSub p1 p0).2 * (pSub c p0).1 ∧ r = .er "NoMap") ∨ (¬ (pSub p1 p0).1 * (pSub c p0).2 = (pSub p1 p0).2 * (pSub c p0).1 ∧ ∃ M : Mp, r = .ok (enc M) ∧ f__law_led [enc p0, enc M] = .ok (enc p3) ∧ f__law_led [enc p1, enc M] = .ok (enc p4) ∧ f__law_led [enc c, enc M] = .ok (enc p5))) := by
    intro c gc
    obtain ⟨r, h1, h2⟩ := fin_ok (w44 g0) (w44 g1) gc (w44 g3) (w44 g4) (w44 g5)
    have gu : GP 100 45 (pSub p1 p0) := (w44 g1).sub (w44 g0)
    have gv : GP 100 45 (pSub c p0) := gc.sub (w44 g0)
    have hsp : spreadF (fcF p0 p1 c) = 0 ↔ (pSub p1 p0).1 * (pSub c p0).2 = (pSub p1 p0).2 * (pSub c p0).1 := by
      simp only [spreadF, fcF, pSub]; grind
    simp only [ne_eq, hsp] at h2
    exact ⟨r, h1, law_sub_ok (op (w44 g0)) (op gc), law_times_ok (op' gu).1 (op' gv).2, law_times_ok (op' gu).2 (op' gv).1, h2⟩
  have cmp3 {M : Mp} {c : P} (k1 : f__law_led [enc p0, enc M] = .ok (enc p3)) (k2 : f__law_led [enc p1, enc M] = .ok (enc p4)) (k3 : f__law_led [enc c, enc M] = .ok (enc p5)) {x0 x1 x2 x3 x4 x5 x6 x7 x8 x9 x10 x11 x13 x14 x15 : Cell} : lcGo (lE [("_law_point_here", 7)] (.nm 7) .none (.call "_law_led" f__law_led (.cons (.var 7) (.cons (.idx (.var 12) (.int 1)) .nil))) [x0, x1, x2, x3, x4, x5, x6, x7, x8, x9, x10, x11, .im (.tuple [.str "told", enc M]), x13, x14, x15]) [enc p0, enc p1, enc c] = .ok [enc p3, enc p4, enc p5] := by
    simp [lcGo, lE, k1, k2, k3]
  obtain ⟨r, hr, hr2⟩ := back _ rfl
  by_cases h4 : v9.fmod 4 = 0
  · obtain ⟨r2, n1, n2, n3, n4, n5⟩ := last c' gc'
    rw [f_law, run1, b_law]
    generalize mapF m w = W at *
    generalize spreadF m = S at *
    generalize pSub p1 p0 = U at *
    generalize pSub c' p0 = V at *
    rcases hr2 with ⟨o1, o2⟩ | ⟨o1, u, o2, o3⟩ <;> rcases n5 with ⟨q1, q2⟩ | ⟨q1, M, q2, q4, q5, q6⟩
    · simp [ev0, ev1, ev2, ev9, em, eo, ew, rg, el, hl, tp, te, ad, itQ, lp1, nl, itw, lp2, mp, s1, i0, i1, i2, i3, t1, t2, t3, l_law_1, l_law_2, hr, o1, o2, z0, sA, sB, m4, h4, q3, s2c, s3, e3, su1, n1, n2, n3, n4, j0, j1, q1, q2, ec', a2c, -b_addT]
    · simp [ev0, ev1, ev2, ev9, em, eo, ew, rg, el, hl, tp, te, ad, itQ, lp1, nl, itw, lp2, mp, s1, i0, i1, i2, i3, t1, t2, t3, l_law_1, l_law_2, hr, o1, o2, z0, sA, sB, m4, h4, q3, s2c, s3, e3, su1, n1, n2, n3, n4, j0, j1, q1, q2, il, cmp3 q4 q5 q6, bl, ll, ec', a2c, -b_addT]
    · simp [ev0, ev1, ev2, ev9, em, eo, ew, rg, el, hl, tp, te, ad, itQ, lp1, nl, itw, lp2, mp, s1, i0, i1, i2, i3, t1, t2, t3, l_law_1, l_law_2, hr, o1, o2, z0, sA, sB, m4, h4, q3, s2c, s3, e3, su1, n1, n2, n3, n4, j0, j1, q1, q2, o3, ec', a2c, -b_addT]
    · simp [ev0, ev1, ev2, ev9, em, eo, ew, rg, el, hl, tp, te, ad, itQ, lp1, nl, itw, lp2, mp, s1, i0, i1, i2, i3, t1, t2, t3, l_law_1, l_law_2, hr, o1, o2, z0, sA, sB, m4, h4, q3, s2c, s3, e3, su1, n1, n2, n3, n4, j0, j1, q1, q2, o3, il, cmp3 q4 q5 q6, bl, ll, ec', a2c, -b_addT]
  · obtain ⟨r2, n1, n2, n3, n4, n5⟩ := last p2 (w44 g2)
    rw [f_law, run1, b_law]
    generalize mapF m w = W at *
    generalize spreadF m = S at *
    generalize pSub p1 p0 = U at *
    generalize pSub p2 p0 = V at *
    rcases hr2 with ⟨o1, o2⟩ | ⟨o1, u, o2, o3⟩ <;> rcases n5 with ⟨q1, q2⟩ | ⟨q1, M, q2, q4, q5, q6⟩
    · simp [ev0, ev1, ev2, ev9, em, eo, ew, rg, el, hl, tp, te, ad, itQ, lp1, nl, itw, lp2, mp, s1, i0, i1, i2, i3, t1, t2, t3, l_law_1, l_law_2, hr, o1, o2, z0, sA, sB, m4, h4, q3, s2c, s3, e3, su1, n1, n2, n3, n4, j0, j1, q1, q2, -b_addT]
    · simp [ev0, ev1, ev2, ev9, em, eo, ew, rg, el, hl, tp, te, ad, itQ, lp1, nl, itw, lp2, mp, s1, i0, i1, i2, i3, t1, t2, t3, l_law_1, l_law_2, hr, o1, o2, z0, sA, sB, m4, h4, q3, s2c, s3, e3, su1, n1, n2, n3, n4, j0, j1, q1, q2, il, cmp3 q4 q5 q6, bl, ll, -b_addT]
    · simp [ev0, ev1, ev2, ev9, em, eo, ew, rg, el, hl, tp, te, ad, itQ, lp1, nl, itw, lp2, mp, s1, i0, i1, i2, i3, t1, t2, t3, l_law_1, l_law_2, hr, o1, o2, z0, sA, sB, m4, h4, q3, s2c, s3, e3, su1, n1, n2, n3, n4, j0, j1, q1, q2, o3, -b_addT]
    · simp [ev0, ev1, ev2, ev9, em, eo, ew, rg, el, hl, tp, te, ad, itQ, lp1, nl, itw, lp2, mp, s1, i0, i1, i2, i3, t1, t2, t3, l_law_1, l_law_2, hr, o1, o2, z0, sA, sB, m4, h4, q3, s2c, s3, e3, su1, n1, n2, n3, n4, j0, j1, q1, q2, o3, il, cmp3 q4 q5 q6, bl, ll, -b_addT]
end Dw
namespace Rf
open PySem PySem.Spec PyProof.Rows L2

/-- tables of code objects may grow -/
def nT : HO → Bool
  | .tbl _ => false
  | _ => true
def isTE : HO → Bool
  | .tbl _ => true
  | .ext _ => true
  | _ => false
/-- the name of the law's lambdas -/
def lamQ : Str := "law.<locals>.<lambda>"
def Sub (H H' : Hp) : Prop := ∀ a o, H a = some o → nT o = true → H' a = some o
/-- nothing stands there, but for a table -/
def Fr (H : Hp) (a : Addr) : Prop := ∀ o, H a = some o → nT o = false
theorem Fr.of {H : Hp} {a : Addr} (n : H a = none) : Fr H a := fun o h => by rw [n] at h; cases h
theorem Fr.ne {H : Hp} {a b : Addr} {o : HO} (n : Fr H a) (h : H b = some o) (t : nT o = true) : b ≠ a := fun e => by
  subst e
  rw [n o h] at t; cases t
theorem Sub.g {H H' : Hp} (s : Sub H H') {a : Addr} {o : HO} (h : H a = some o) (n : nT o = true := by rfl) : H' a = some o := s a o h n
theorem Sub.of {H H' : Hp} (s : ∀ a o, H a = some o → H' a = some o) : Sub H H' := fun a o h _ => s a o h
theorem Sub.refl (H : Hp) : Sub H H := .of fun _ _ h => h
theorem Sub.trans {H H1 H2 : Hp} (a : Sub H H1) (b : Sub H1 H2) : Sub H H2 := fun x o h n => b.g (a.g h n) n
theorem Sub.updF {H : Hp} {p : Addr} (o : HO) (n : Fr H p) : Sub H (upd H p o) := fun a u h t => by
  rw [upd_ne (n.ne h t)]; exact h
theorem Sub.upd {H : Hp} {p : Addr} (o : HO) (n : H p = none) : Sub H (upd H p o) := .updF o (.of n)
theorem Sub.fr {H H' : Hp} (s : Sub H H') {a : Addr} (n : Fr H' a) : Fr H a := fun o h => by
  cases t : nT o with
  | false => rfl
  | true => rw [← t]; exact n o (s.g h t)
theorem Sub.none {H H' : Hp} (s : Sub H H') {a : Addr} (n : H' a = none) : Fr H a := s.fr (.of n)
theorem tab_keep {H H' : Hp} (k : ∀ a o, H a = some o → isTE o = true → H' a = some o) {P : Addr} {q : Str} (t : LamX.TabS H P q) : LamX.TabS H' P q := by
  obtain ⟨ps, h1, h2, h3⟩ := t
  refine ⟨ps, k _ _ h1 rfl, h2, fun pos cv hc => ?_⟩
  obtain ⟨c, e1, e2⟩ := h3 pos cv hc
  exact ⟨c, e1, k _ _ e2 rfl⟩
theorem Sub.sqL {K : PySem.W.Frag} {H H' : Hp} (s : Sub H H') {a : Addr} {xs : List V} (h : SqL K H a xs) : SqL K H' a xs := by
  rcases h with h | h
  · rcases h with h | ⟨o, h⟩
    · exact .inl (.inl (s.g h))
    · exact .inl (.inr ⟨o, s.g h⟩)
  · exact .inr h
theorem Sub.sqT {K : PySem.W.Frag} {H H' : Hp} (s : Sub H H') {a : Addr} {xs : List V} (h : SqT K H a xs) : SqT K H' a xs := by
  rcases h with h | h
  · rcases h with h | ⟨o, h⟩
    · exact .inl (.inl (s.g h))
    · exact .inl (.inr ⟨o, s.g h⟩)
  · exact .inr h
/-- a list that is read: tracked, known, or an object of the module, exactly -/
def LsR (K : PySem.W.Frag) (H : Hp) (a : Addr) (xs : List V) : Prop := Rd H a (.lst xs) ∨ ∃ (its : Array Value) (n : Nat), K.lookup a = some { cls := .type "list", data := .seq its n } ∧ its.size ≤ sizeLine ∧ Vals xs its.toList
theorem LsR.sq {K : PySem.W.Frag} {H : Hp} {a : Addr} {xs : List V} (h : LsR K H a xs) : SqL K H a xs := by
  rcases h with h | ⟨its, n, h1, h2, h3⟩
  · exact .inl h
  · exact .inr ⟨_, its, n, h1, rfl, rfl, rfl, h2, h3⟩
mutual
inductive Rp (K : PySem.W.Frag) (H : Hp) : V → D → Prop
  | non : Rp K H .non .none
  | bl (b : Bool) : Rp K H (.bl b) (.bool b)
  | int (i : Int) : Rp K H (.int i) (.int i)
  | str (x : Str) : Rp K H (.str x) (.str x)
  | lst {a : Addr} {xs : List V} {ds : List D} : LsR K H a xs → RpAll K H xs ds → Rp K H (.ref a) (.list ds)
  | tup {a : Addr} {xs : List V} {ds : List D} : SqT K H a xs → RpAll K H xs ds → Rp K H (.ref a) (.tuple ds)
inductive RpAll (K : PySem.W.Frag) (H : Hp) : List V → List D → Prop
  | nil : RpAll K H [] []
  | cons {v : V} {vs : List V} {d : D} {ds : List D} : Rp K H v d → RpAll K H vs ds → RpAll K H (v :: vs) (d :: ds)
end
theorem Sub.rd {H H' : Hp} (s : Sub H H') {a : Addr} {o : HO} (h : Rd H a o) (n : nT o = true := by rfl) : Rd H' a o := by
  rcases h with h | ⟨o, h⟩
  · exact .inl (s.g h n)
  · exact .inr ⟨o, s.g h⟩
theorem Sub.ls {K : PySem.W.Frag} {H H' : Hp} (s : Sub H H') {a : Addr} {xs : List V} (h : LsR K H a xs) : LsR K H' a xs := by
  rcases h with h | h
  · exact .inl (s.rd h)
  · exact .inr h
mutual
theorem Sub.rp {K : PySem.W.Frag} {H H' : Hp} (s : Sub H H') : ∀ {v : V} {d : D}, Rp K H v d → Rp K H' v d
  | _, _, .non => .non
  | _, _, .bl b => .bl b
  | _, _, .int i => .int i
  | _, _, .str x => .str x
  | _, _, .lst h hs => .lst (s.ls h) (s.rps hs)
  | _, _, .tup h hs => .tup (s.sqT h) (s.rps hs)
theorem Sub.rps {K : PySem.W.Frag} {H H' : Hp} (s : Sub H H') : ∀ {vs : List V} {ds : List D}, RpAll K H vs ds → RpAll K H' vs ds
  | _, _, .nil => .nil
  | _, _, .cons h hs => .cons (s.rp h) (s.rps hs)
end
mutual
theorem Rp.dp {K : PySem.W.Frag} {H : Hp} : ∀ {v : V} {d : D}, Rp K H v d → Dp K H v d
  | _, _, .non => .non
  | _, _, .bl b => .bl b
  | _, _, .int i => .int i
  | _, _, .str x => .str x
  | _, _, .lst h hs => .lst h.sq (RpAll.dps hs)
  | _, _, .tup h hs => .tup h (RpAll.dps hs)
theorem RpAll.dps {K : PySem.W.Frag} {H : Hp} : ∀ {vs : List V} {ds : List D}, RpAll K H vs ds → DpAll K H vs ds
  | _, _, .nil => .nil
  | _, _, .cons h hs => .cons (Rp.dp h) (RpAll.dps hs)
end

/-- from G within H on to G' within H': nothing old is changed, nothing old is taken into G' -/
structure Ext (G H G' H' : Hp) : Prop where
  sub : Sub H H'
  subG : Sub G G'
  inn : Sub G' H'
  old : ∀ a o, H a = some o → nT o = true → G' a = G a
  tab : ∀ P, LamX.TabS H P lamQ → LamX.TabS H' P lamQ
theorem Ext.refl {G H : Hp} (s : Sub G H) : Ext G H G H := ⟨.refl _, .refl _, s, fun _ _ _ _ => rfl, fun _ h => h⟩
theorem Ext.trans {G H G1 H1 G2 H2 : Hp} (a : Ext G H G1 H1) (b : Ext G1 H1 G2 H2) : Ext G H G2 H2 :=
  ⟨a.sub.trans b.sub, a.subG.trans b.subG, b.inn, fun x o h n => by
    rw [b.old x o (a.sub.g h n) n, a.old x o h n], fun P h => b.tab P (a.tab P h)⟩
theorem Ext.rp {K : PySem.W.Frag} {G H G' H' : Hp} (e : Ext G H G' H') {v : V} {d : D} (h : Rp K G v d) : Rp K G' v d := e.subG.rp h
theorem Ext.rps {K : PySem.W.Frag} {G H G' H' : Hp} (e : Ext G H G' H') {vs : List V} {ds : List D} (h : RpAll K G vs ds) : RpAll K G' vs ds := e.subG.rps h
/-- a new thing is laid -/
theorem Ext.new {G H : Hp} (s : Sub G H) {p : Addr} (n : H p = none) (o : HO) : Ext G H (upd G p o) (upd H p o) :=
  ⟨.upd o n, .updF o (s.none n), fun a u h t => by
    by_cases e : a = p
    · subst e; rw [upd_same] at h ⊢; exact h
    · rw [upd_ne e] at h ⊢; exact s.g h t, fun a o h _ => by
    by_cases e : a = p
    · subst e; rw [n] at h; cases h
    · exact upd_ne e, fun P => tab_keep fun a u h _ => by rw [upd_ne (ne_of_none h n)]; exact h⟩
/-- .. not told to G -/
theorem Ext.new' {G H : Hp} (s : Sub G H) {p : Addr} (n : H p = none) (o : HO) : Ext G H G (upd H p o) :=
  ⟨.upd o n, .refl _, s.trans (.upd o n), fun _ _ _ _ => rfl, fun P => tab_keep fun a u h _ => by rw [upd_ne (ne_of_none h n)]; exact h⟩

theorem RpAll.length {K : PySem.W.Frag} {H : Hp} : ∀ {vs : List V} {ds : List D}, RpAll K H vs ds → vs.length = ds.length
  | _, _, .nil => rfl
  | _, _, .cons _ h => by simp [RpAll.length h]
theorem RpAll.get {K : PySem.W.Frag} {H : Hp} : ∀ {vs : List V} {ds : List D} {i : Nat} {d : D}, RpAll K H vs ds → ds[i]? = some d → ∃ v, vs[i]? = some v ∧ Rp K H v d
  | _, _, _, _, .nil, e => by simp at e
  | _, _, 0, _, .cons h _, e => by simp at e; subst e; exact ⟨_, rfl, h⟩
  | _, _, i + 1, _, .cons _ h, e => by
    obtain ⟨v, h1, h2⟩ := RpAll.get (i := i) h (by simpa using e)
    exact ⟨v, by simpa using h1, h2⟩
theorem RpAll.getV {K : PySem.W.Frag} {H : Hp} : ∀ {vs : List V} {ds : List D} {i : Nat} {v : V}, RpAll K H vs ds → vs[i]? = some v → ∃ d, ds[i]? = some d ∧ Rp K H v d
  | _, _, _, _, .nil, e => by simp at e
  | _, _, 0, _, .cons h _, e => by simp at e; subst e; exact ⟨_, rfl, h⟩
  | _, _, i + 1, _, .cons _ h, e => by
    obtain ⟨v, h1, h2⟩ := RpAll.getV (i := i) h (by simpa using e)
    exact ⟨v, by simpa using h1, h2⟩
theorem RpAll.app {K : PySem.W.Frag} {H : Hp} : ∀ {vs ws : List V} {ds es : List D}, RpAll K H vs ds → RpAll K H ws es → RpAll K H (vs ++ ws) (ds ++ es)
  | _, _, _, _, .nil, h => h
  | _, _, _, _, .cons a t, h => .cons a (RpAll.app t h)
theorem RpAll.drop {K : PySem.W.Frag} {H : Hp} : ∀ {vs : List V} {ds : List D} (n : Nat), RpAll K H vs ds → RpAll K H (vs.drop n) (ds.drop n)
  | _, _, 0, h => h
  | _, _, _ + 1, .nil => .nil
  | _, _, n + 1, .cons _ h => RpAll.drop n h
theorem RpAll.take {K : PySem.W.Frag} {H : Hp} : ∀ {vs : List V} {ds : List D} (n : Nat), RpAll K H vs ds → RpAll K H (vs.take n) (ds.take n)
  | _, _, 0, _ => .nil
  | _, _, _ + 1, .nil => .nil
  | _, _, n + 1, .cons a h => .cons a (RpAll.take n h)
theorem RpAll.set {K : PySem.W.Frag} {H : Hp} {v : V} {d : D} (a : Rp K H v d) : ∀ {vs : List V} {ds : List D} (n : Nat), RpAll K H vs ds → RpAll K H (vs.set n v) (ds.set n d)
  | _, _, _, .nil => .nil
  | _, _, 0, .cons _ h => .cons a h
  | _, _, n + 1, .cons b h => .cons b (RpAll.set a n h)
theorem RpAll.dropLast {K : PySem.W.Frag} {H : Hp} {vs : List V} {ds : List D} (h : RpAll K H vs ds) : RpAll K H vs.dropLast ds.dropLast := by
  rw [List.dropLast_eq_take, List.dropLast_eq_take, RpAll.length h]
  exact h.take _
theorem RpAll.rev {K : PySem.W.Frag} {H : Hp} : ∀ {vs : List V} {ds : List D}, RpAll K H vs ds → RpAll K H vs.reverse ds.reverse
  | _, _, .nil => .nil
  | _, _, .cons a h => by
    rw [List.reverse_cons, List.reverse_cons]
    exact (RpAll.rev h).app (.cons a .nil)
theorem RpAll.mk {K : PySem.W.Frag} {H : Hp} : ∀ {vs : List V} {ds : List D}, vs.length = ds.length → (∀ (i : Nat) (v : V) (d : D), vs[i]? = some v → ds[i]? = some d → Rp K H v d) → RpAll K H vs ds
  | [], [], _, _ => .nil
  | v :: vs, d :: ds, l, h => .cons (h 0 v d rfl rfl) (RpAll.mk (by simpa using l) fun i v d a b => h (i + 1) v d (by simpa using a) (by simpa using b))

structure Stt (K : PySem.W.Frag) (G0 H0 : Hp) (ρ : Env) (σ : L2.St) (G H : Hp) : Prop where
  len : ρ.length = σ.length
  ext : Ext G0 H0 G H
  im : ∀ (i : Nat) (d : D), ρ[i]? = some (.im d) → ∃ v, σ[i]? = some (some v) ∧ Rp K G v d
  ow : ∀ (i : Nat) (ds : List D), ρ[i]? = some (.ow ds) → ∃ a vs, σ[i]? = some (some (.ref a)) ∧ H a = some (.lst vs) ∧ RpAll K G vs ds ∧ Fr G a ∧ Fr H0 a
  sep : ∀ (i j : Nat) (di dj : List D) (a : Addr), ρ[i]? = some (.ow di) → ρ[j]? = some (.ow dj) → σ[i]? = some (some (.ref a)) → σ[j]? = some (some (.ref a)) → i = j
section
variable {K : PySem.W.Frag} {G0 H0 G H G' H' : Hp} {ρ : Env} {σ : L2.St}
theorem Stt.subG (s : Stt K G0 H0 ρ σ G H) : Sub G H := s.ext.inn
theorem Stt.mono (s : Stt K G0 H0 ρ σ G H) (e : Ext G H G' H') : Stt K G0 H0 ρ σ G' H' where
  len := s.len
  ext := s.ext.trans e
  im := fun i d h => by
    obtain ⟨v, h1, h2⟩ := s.im i d h
    exact ⟨v, h1, e.rp h2⟩
  ow := fun i ds h => by
    obtain ⟨a, vs, h1, h2, h3, h4, h5⟩ := s.ow i ds h
    exact ⟨a, vs, h1, e.sub.g h2, e.rps h3, fun o q => by rw [e.old a _ h2 rfl] at q; exact h4 o q, h5⟩
  sep := s.sep
theorem get_set_of {α : Type} {l : List α} {i j : Nat} {x y : α} (h : (l.set i x)[j]? = some y) : (i = j ∧ y = x) ∨ (i ≠ j ∧ l[j]? = some y) := by
  by_cases e : i = j
  · subst e
    by_cases hl : i < l.length
    · rw [List.getElem?_set_self hl] at h
      exact .inl ⟨rfl, (Option.some.inj h).symm⟩
    · rw [List.getElem?_eq_none (by simpa using hl)] at h
      cases h
  · rw [List.getElem?_set_ne e] at h
    exact .inr ⟨e, h⟩
theorem lt_of_set {α : Type} {l : List α} {i : Nat} {x y : α} (h : (l.set i x)[i]? = some y) : i < l.length := by
  by_cases hl : i < l.length
  · exact hl
  · rw [List.getElem?_eq_none (by simpa using hl)] at h; cases h
/-- a slot is given a thing that is not written -/
theorem Stt.setIm (s : Stt K G0 H0 ρ σ G H) {v : V} {d : D} (r : Rp K G v d) (i : Nat) : Stt K G0 H0 (ρ.set i (.im d)) (σ.set i (some v)) G H where
  len := by simp [s.len]
  ext := s.ext
  im := fun j e h => by
    rcases get_set_of h with ⟨rfl, q⟩ | ⟨ne, q⟩
    · cases q
      exact ⟨v, List.getElem?_set_self (by rw [← s.len]; exact lt_of_set h), r⟩
    · rw [List.getElem?_set_ne ne]; exact s.im j e q
  ow := fun j ds h => by
    rcases get_set_of h with ⟨rfl, q⟩ | ⟨ne, q⟩
    · cases q
    · rw [List.getElem?_set_ne ne]; exact s.ow j ds q
  sep := fun a b di dj p ha hb h1 h2 => by
    rcases get_set_of ha with ⟨rfl, q⟩ | ⟨ne, q⟩
    · cases q
    rcases get_set_of hb with ⟨rfl, q'⟩ | ⟨ne', q'⟩
    · cases q'
    rw [List.getElem?_set_ne ne] at h1
    rw [List.getElem?_set_ne ne'] at h2
    exact s.sep a b di dj p q q' h1 h2
/-- a slot is given a new list of its own -/
theorem Stt.setOw (s : Stt K G0 H0 ρ σ G H) {p : Addr} {vs : List V} {ds : List D} (r : RpAll K G vs ds) (n : H p = none) (i : Nat) : Stt K G0 H0 (ρ.set i (.ow ds)) (σ.set i (some (.ref p))) G (upd H p (.lst vs)) := by
  have s' := s.mono (Ext.new' s.subG n (.lst vs))
  have no : ∀ (j : Nat) (dj : List D), ρ[j]? = some (.ow dj) → σ[j]? = some (some (.ref p)) → False := fun j dj h1 h2 => by
    obtain ⟨a, ws, q1, q2, _⟩ := s.ow j dj h1
    rw [h2] at q1; cases q1
    rw [n] at q2; cases q2
  refine ⟨by simp [s.len], s'.ext, fun j e h => ?_, fun j es h => ?_, fun a b di dj q ha hb h1 h2 => ?_⟩
  · rcases get_set_of h with ⟨rfl, q⟩ | ⟨ne, q⟩
    · cases q
    · rw [List.getElem?_set_ne ne]; exact s'.im j e q
  · rcases get_set_of h with ⟨rfl, q⟩ | ⟨ne, q⟩
    · cases q
      exact ⟨p, vs, List.getElem?_set_self (by rw [← s.len]; exact lt_of_set h), upd_same, r, s.subG.none n, s.ext.sub.none n⟩
    · rw [List.getElem?_set_ne ne]; exact s'.ow j es q
  · rcases get_set_of ha with ⟨rfl, qa⟩ | ⟨ne, qa⟩
    · rcases get_set_of hb with ⟨rfl, qb⟩ | ⟨ne', qb⟩
      · rfl
      · rw [List.getElem?_set_ne ne'] at h2
        rw [List.getElem?_set_self (by rw [← s.len]; exact lt_of_set ha)] at h1
        cases h1
        exact (no b dj qb h2).elim
    · rcases get_set_of hb with ⟨rfl, qb⟩ | ⟨ne', qb⟩
      · rw [List.getElem?_set_ne ne] at h1
        rw [List.getElem?_set_self (by rw [← s.len]; exact lt_of_set hb)] at h2
        cases h2
        exact (no a di qa h1).elim
      · rw [List.getElem?_set_ne ne] at h1
        rw [List.getElem?_set_ne ne'] at h2
        exact s.sep a b di dj q qa qb h1 h2
/-- a list of one's own is written -/
theorem Stt.write (s : Stt K G0 H0 ρ σ G H) {i : Nat} {a : Addr} {ds ds' : List D} {vs' : List V} (hi : ρ[i]? = some (.ow ds)) (ha : σ[i]? = some (some (.ref a))) (r : RpAll K G vs' ds') :
    Stt K G0 H0 (ρ.set i (.ow ds')) σ G (upd H a (.lst vs')) := by
  obtain ⟨a', vs, q1, q2, q3, q4, q5⟩ := s.ow i ds hi
  rw [ha] at q1; cases q1
  have hlt : i < ρ.length := by
    by_cases hl : i < ρ.length
    · exact hl
    · rw [List.getElem?_eq_none (by omega)] at hi; cases hi
  refine ⟨by simp [s.len], ⟨fun b o h t => ?_, s.ext.subG, fun b o h t => ?_, s.ext.old, fun P h => tab_keep (fun b o h te => ?_) (s.ext.tab P h)⟩, fun j e h => ?_, fun j es h => ?_, fun x y di dj q hx hy h1 h2 => ?_⟩
  · rw [upd_ne (q5.ne h t)]; exact s.ext.sub.g h t
  · rw [upd_ne (q4.ne h t)]; exact s.subG.g h t
  · have hb : b ≠ a := fun e => by
      subst e; rw [q2] at h; cases h; cases te
    rw [upd_ne hb]; exact h
  · rcases get_set_of h with ⟨rfl, q⟩ | ⟨ne, q⟩
    · cases q
    · exact s.im j e q
  · rcases get_set_of h with ⟨rfl, q⟩ | ⟨ne, q⟩
    · cases q
      exact ⟨a, vs', ha, upd_same, r, q4, q5⟩
    · obtain ⟨b, ws, w1, w2, w3, w4, w5⟩ := s.ow j es q
      have hb : b ≠ a := fun e => by subst e; exact ne (s.sep i j ds es b hi q ha w1)
      exact ⟨b, ws, w1, by rw [upd_ne hb]; exact w2, w3, w4, w5⟩
  · have hx' : ∃ dx, ρ[x]? = some (.ow dx) := by
      rcases get_set_of hx with ⟨rfl, _⟩ | ⟨_, q⟩
      · exact ⟨ds, hi⟩
      · exact ⟨_, q⟩
    have hy' : ∃ dx, ρ[y]? = some (.ow dx) := by
      rcases get_set_of hy with ⟨rfl, _⟩ | ⟨_, q⟩
      · exact ⟨ds, hi⟩
      · exact ⟨_, q⟩
    obtain ⟨dx, hx'⟩ := hx'
    obtain ⟨dy, hy'⟩ := hy'
    exact s.sep x y dx dy q hx' hy' h1 h2
/-- it is told to all, and written no more -/
theorem Stt.freeze (s : Stt K G0 H0 ρ σ G H) {i : Nat} {ds : List D} (hi : ρ[i]? = some (.ow ds)) : ∃ G', Sub G G' ∧ Stt K G0 H0 (ρ.set i (.im (.list ds))) σ G' H := by
  obtain ⟨a, vs, q1, q2, q3, q4, q5⟩ := s.ow i ds hi
  have sg : Sub G (upd G a (.lst vs)) := .updF _ q4
  refine ⟨upd G a (.lst vs), sg, by simp [s.len], ⟨s.ext.sub, s.ext.subG.trans sg, fun b o h t => ?_, fun b o h t => ?_, s.ext.tab⟩, fun j e h => ?_, fun j es h => ?_, fun x y di dj q hx hy h1 h2 => ?_⟩
  · by_cases e : b = a
    · subst e; rw [upd_same] at h; cases h; exact q2
    · rw [upd_ne e] at h; exact s.subG.g h t
  · rw [upd_ne (q5.ne h t)]; exact s.ext.old b o h t
  · rcases get_set_of h with ⟨rfl, q⟩ | ⟨ne, q⟩
    · cases q
      exact ⟨_, q1, .lst (.inl (.inl upd_same)) (sg.rps q3)⟩
    · obtain ⟨v, w1, w2⟩ := s.im j e q
      exact ⟨v, w1, sg.rp w2⟩
  · rcases get_set_of h with ⟨rfl, q⟩ | ⟨ne, q⟩
    · cases q
    · obtain ⟨b, ws, w1, w2, w3, w4, w5⟩ := s.ow j es q
      have hb : b ≠ a := fun e => by subst e; exact ne (s.sep i j ds es b hi q q1 w1)
      exact ⟨b, ws, w1, w2, sg.rps w3, fun o => by rw [upd_ne hb]; exact w4 o, w5⟩
  · rcases get_set_of hx with ⟨rfl, q'⟩ | ⟨_, q'⟩
    · cases q'
    rcases get_set_of hy with ⟨rfl, q''⟩ | ⟨_, q''⟩
    · cases q''
    exact s.sep x y di dj q q' q'' h1 h2
/-- less is known -/
theorem Stt.unset (s : Stt K G0 H0 ρ σ G H) (i : Nat) : Stt K G0 H0 (ρ.set i .un) σ G H where
  len := by simp [s.len]
  ext := s.ext
  im := fun j e h => by
    rcases get_set_of h with ⟨rfl, q⟩ | ⟨_, q⟩
    · cases q
    · exact s.im j e q
  ow := fun j e h => by
    rcases get_set_of h with ⟨rfl, q⟩ | ⟨_, q⟩
    · cases q
    · exact s.ow j e q
  sep := fun x y di dj q hx hy h1 h2 => by
    rcases get_set_of hx with ⟨rfl, q'⟩ | ⟨_, q'⟩
    · cases q'
    rcases get_set_of hy with ⟨rfl, q''⟩ | ⟨_, q''⟩
    · cases q''
    exact s.sep x y di dj q q' q'' h1 h2
theorem Stt.unsetσ (s : Stt K G0 H0 ρ σ G H) (i : Nat) : Stt K G0 H0 (ρ.set i .un) (σ.set i none) G H where
  len := by simp [s.len]
  ext := s.ext
  im := fun j e h => by
    rcases get_set_of h with ⟨rfl, q⟩ | ⟨ne, q⟩
    · cases q
    · rw [List.getElem?_set_ne ne]; exact s.im j e q
  ow := fun j e h => by
    rcases get_set_of h with ⟨rfl, q⟩ | ⟨ne, q⟩
    · cases q
    · rw [List.getElem?_set_ne ne]; exact s.ow j e q
  sep := fun x y di dj q hx hy h1 h2 => by
    rcases get_set_of hx with ⟨rfl, q'⟩ | ⟨ne, q'⟩
    · cases q'
    rcases get_set_of hy with ⟨rfl, q''⟩ | ⟨ne', q''⟩
    · cases q''
    rw [List.getElem?_set_ne ne] at h1
    rw [List.getElem?_set_ne ne'] at h2
    exact s.sep x y di dj q q' q'' h1 h2
theorem Stt.wipe (s : Stt K G0 H0 ρ σ G H) : ∀ vs : List Nat, Stt K G0 H0 (wipeR ρ vs) σ G H
  | [] => s
  | v :: vs => (s.wipe vs).unset v
theorem Stt.wipeσ (s : Stt K G0 H0 ρ σ G H) : ∀ vs : List Nat, Stt K G0 H0 (wipeR ρ vs) (L2.wipe σ vs) G H
  | [] => s
  | v :: vs => (s.wipeσ vs).unsetσ v
end

theorem _root_.L2.PE.imp {X : Cx} {e : Expr} {t t' : TE} (h : PE X e t) (i : ∀ σ H Q, t' σ H Q → t σ H Q) : PE X e t' := ⟨fun pins s σ H Q I q => h.run pins s σ H Q I (i _ _ _ q)⟩
theorem _root_.L2.PT.imp {X : Cx} {e : Expr} {t t' : TT} (h : PT X e t) (i : ∀ σ H Q, t' σ H Q → t σ H Q) : PT X e t' := ⟨fun pins s σ H Q I q => h.run pins s σ H Q I (i _ _ _ q)⟩
theorem _root_.L2.PW.imp {X : Cx} {e : Expr} {t t' : TT} (h : PW X e t) (i : ∀ σ H Q, t' σ H Q → t σ H Q) : PW X e t' := ⟨fun w pins s σ H Q I q => h.run w pins s σ H Q I (i _ _ _ q)⟩
theorem _root_.L2.PA.imp {X : Cx} {e : List Expr} {t t' : TA} (h : PA X e t) (i : ∀ σ H Q, t' σ H Q → t σ H Q) : PA X e t' := ⟨fun p pins s σ H Q I q => h.run p pins s σ H Q I (i _ _ _ q)⟩
theorem _root_.L2.PS.imp {X : Cx} {e : Stmt} {t t' : TS} (h : PS X e t) (i : ∀ D σ H, t' D σ H → t D σ H) : PS X e t' := ⟨fun pins s σ H D I q => h.run pins s σ H D I (i _ _ _ q)⟩
theorem _root_.L2.PSs.imp {X : Cx} {e : List Stmt} {t t' : TS} (h : PSs X e t) (i : ∀ D σ H, t' D σ H → t D σ H) : PSs X e t' := ⟨fun pins s σ H D I q => h.run pins s σ H D I (i _ _ _ q)⟩
theorem _root_.L2.PG.imp {X : Cx} {e : Expr} {t t' : TG} (h : PG X e t) (i : ∀ v σ H Q, t' v σ H Q → t v σ H Q) : PG X e t' := ⟨fun pins s σ H v u Q I r q => h.run pins s σ H v u Q I r (i _ _ _ _ q)⟩
theorem _root_.L2.PI.imp {X : Cx} {tg e : Expr} {t t' : TI} (h : PI X tg e t) (i : ∀ σ H Q, t' σ H Q → t σ H Q) : PI X tg e t' := ⟨fun pins s σ H Q I q => h.run pins s σ H Q I (i _ _ _ q)⟩
theorem _root_.L2.PO.imp {X : Cx} {e : Option Expr} {t t' : TO} (h : PO X e t) (i : ∀ σ H Q, t' σ H Q → t σ H Q) : PO X e t' := ⟨fun pins s σ H Q I q => h.run pins s σ H Q I (i _ _ _ q)⟩
theorem _root_.L2.PE.ex {ι : Type} {X : Cx} {e : Expr} {t : ι → TE} (h : ∀ i, PE X e (t i)) : PE X e (fun σ H Q => ∃ i, t i σ H Q) := ⟨fun pins s σ H Q I ⟨i, q⟩ => (h i).run pins s σ H Q I q⟩
theorem _root_.L2.PT.ex {ι : Type} {X : Cx} {e : Expr} {t : ι → TT} (h : ∀ i, PT X e (t i)) : PT X e (fun σ H Q => ∃ i, t i σ H Q) := ⟨fun pins s σ H Q I ⟨i, q⟩ => (h i).run pins s σ H Q I q⟩
theorem _root_.L2.PTs.ex {ι : Type} {X : Cx} {e : List Expr} {t : ι → TT} (h : ∀ i, PTs X e (t i)) : PTs X e (fun σ H Q => ∃ i, t i σ H Q) := ⟨fun pins s σ H Q I ⟨i, q⟩ => (h i).run pins s σ H Q I q⟩
theorem _root_.L2.PSs.ex {ι : Type} {X : Cx} {e : List Stmt} {t : ι → TS} (h : ∀ i, PSs X e (t i)) : PSs X e (fun D σ H => ∃ i, t i D σ H) := ⟨fun pins s σ H D I ⟨i, q⟩ => (h i).run pins s σ H D I q⟩
theorem _root_.L2.PG.ex {ι : Type} {X : Cx} {e : Expr} {t : ι → TG} (h : ∀ i, PG X e (t i)) : PG X e (fun v σ H Q => ∃ i, t i v σ H Q) := ⟨fun pins s σ H v u Q I r ⟨i, q⟩ => (h i).run pins s σ H v u Q I r q⟩
end Rf
namespace Rf
open PySem PySem.Spec PyProof.Rows L2

/-- behind a reckoning: a thing that stands for what came, or the error -/
def Post (mg : Str → Option Value) (EX : XK) {α β : Type} (R : Hp → β → α → Prop) : Res α → Hp → Hp → (β → Hp → Prop) → Prop
  | .no, _, _, _ => False
  | .ok a, G, H, Q => ∀ b G' H', Ext G H G' H' → R G' b a → Q b H'
  | .er x, G, H, _ => ∃ C, mg x = some (.ref C) ∧ ∀ G' H', Ext G H G' H' → EX (.ref C) none H'
section
variable {mg : Str → Option Value} {EX : XK} {α β γ δ : Type} {R : Hp → β → α → Prop} {S : Hp → δ → γ → Prop} {G H G1 H1 : Hp} {Q : β → Hp → Prop}
theorem Post.mono {r : Res α} (p : Post mg EX R r G H Q) (e : Ext G H G1 H1) : Post mg EX R r G1 H1 Q := by
  cases r with
  | no => exact p
  | ok a => exact fun b G' H' e' h => p b G' H' (e.trans e') h
  | er x =>
    obtain ⟨C, h1, h2⟩ := p
    exact ⟨C, h1, fun G' H' e' => h2 G' H' (e.trans e')⟩
theorem Post.bind {r : Res γ} {f : γ → Res α} {Q' : δ → Hp → Prop} (p : Post mg EX R (r >>= f) G H Q)
    (k : ∀ b a G1 H1, Ext G H G1 H1 → S G1 b a → r = .ok a → Post mg EX R (f a) G1 H1 Q → Q' b H1) : Post mg EX S r G H Q' := by
  cases r with
  | no => exact p
  | ok a => exact fun b G' H' e h => k b a G' H' e h rfl (Post.mono (show Post mg EX R (f a) G H Q from p) e)
  | er x => exact p
/-- at once -/
theorem Post.now {a : α} (s : Sub G H) (p : Post mg EX R (.ok a) G H Q) {b : β} (h : R G b a) : Q b H := p b G H (.refl s) h
theorem Post.new {a : α} (s : Sub G H) (p : Post mg EX R (.ok a) G H Q) {b : β} {q : Addr} (n : H q = none) (o : HO) (h : R (upd G q o) b a) : Q b (upd H q o) := p b _ _ (.new s n o) h
end
abbrev PostE (K : PySem.W.Frag) (mg : Str → Option Value) (EX : XK) : Res D → Hp → Hp → VK → Prop := Post mg EX fun G v d => Rp K G v d
abbrev PostA (K : PySem.W.Frag) (mg : Str → Option Value) (EX : XK) : Res (List D) → Hp → Hp → (List V → Hp → Prop) → Prop := Post mg EX fun G v d => RpAll K G v d
abbrev PostB (mg : Str → Option Value) (EX : XK) : Res Bool → Hp → Hp → (Bool → Hp → Prop) → Prop := Post mg EX fun _ b c => b = c

/-- the readings -/
def rdE (K : PySem.W.Frag) (mg : Str → Option Value) (EX : XK) (G0 H0 : Hp) (ρ : Env) (r : Res D) : TE := fun σ H Q => ∃ G, Stt K G0 H0 ρ σ G H ∧ PostE K mg EX r G H Q
def rdT (K : PySem.W.Frag) (mg : Str → Option Value) (EX : XK) (G0 H0 : Hp) (ρ : Env) (r : Res Bool) : TT := fun σ H Q => ∃ G, Stt K G0 H0 ρ σ G H ∧ PostB mg EX r G H Q
def rdA (K : PySem.W.Frag) (mg : Str → Option Value) (EX : XK) (G0 H0 : Hp) (ρ : Env) (r : Res (List D)) : TA := fun σ H Q => ∃ G, Stt K G0 H0 ρ σ G H ∧ PostA K mg EX r G H Q
def rdO (K : PySem.W.Frag) (mg : Str → Option Value) (EX : XK) (G0 H0 : Hp) (ρ : Env) (r : Res (Option Int)) : TO := fun σ H Q => ∃ G, Stt K G0 H0 ρ σ G H ∧ Post mg EX (fun _ a b => a = b) r G H Q

section
variable {X : Cx} {mg : Str → Option Value} {EX : XK} {G H : Hp}
theorem opr_no {f : Value → Value → Sem Value} : OpR X f (fun _ _ _ _ => False) := fun _ _ _ _ _ _ _ _ _ _ _ _ h => h.elim
theorem Inv.rdL {pins : List (Addr × Obj)} {σ : L2.St} {s : Shared} {l : Addr} {xs : List V} (I : Inv X pins σ H s) (h : LsR X.K H l xs) :
    xs.length ≤ sizeLine ∧ ∃ (its : List Value) (n : Nat), Vals xs its ∧ xs.length = its.length ∧ s.heap.get? l = some { cls := .type "list", data := .seq its.toArray n } := by
  rcases h with h | ⟨its, n, h1, h2, h3⟩
  · obtain ⟨z, its, n, r, e⟩ := h.ok I.hok
    exact ⟨z, its, n, r, r.length, e⟩
  · have e := h3.length
    have e2 : its.toList.length = its.size := Array.length_toList
    exact ⟨by omega, its.toList, n, h3, h3.length, by have := I.kIn l _ h1; simpa using this⟩
/-- list + list, both read -/
def rCatR (K : PySem.W.Frag) : R2 := fun x y H Q => ∃ l b xs zs, x = .ref l ∧ y = .ref b ∧ LsR K H l xs ∧ LsR K H b zs ∧ xs.length + zs.length ≤ sizeLine ∧ ∀ p, H p = none → Q (.ref p) (upd H p (.lst (xs ++ zs)))
theorem op_catR : OpR X (binaryOp .Add) (rCatR X.K) := by
  intro pins s σ H x y v u Q I rx ry h
  obtain ⟨l, b, xs, zs, rfl, rfl, hH, hB, hz, q⟩ := h
  cases rx
  cases ry
  obtain ⟨z, its, n, r, hl, e⟩ := Inv.rdL I hH
  obtain ⟨z2, its2, n2, r2, hl2, e2⟩ := Inv.rdL I hB
  refine PySem.P.add_list e e2 ?_ (by rw [List.size_toArray, List.size_toArray]; omega)
  have ea : its.toArray ++ its2.toArray = (its ++ its2).toArray := by simp
  rw [ea]
  exact ⟨.ref _, _, I.lnew (t' := s.toks) (r.append r2) (by rw [List.length_append]; omega), rfl, q _ I.fresh⟩
/-- // by any divisor that is not too great -/
def CDivX (i j : Int) : Prop := j ≠ 0 ∧ j.natAbs.log2 < 9000
theorem op_fdivX : OpR X (binaryOp .FloorDiv) (rI CDivX fun i j => .int (i.fdiv j)) := opI fun i j _ _ _ _ _ hc q =>
  floordiv_int hc.1 q (.inl (PyProof.noPylong_of_log2 hc.2))
theorem log_small {n : Nat} (h : n < DBIG) : n.log2 < 9000 := by
  by_cases h0 : n = 0
  · subst h0; decide
  · rw [Nat.log2_lt h0]
    unfold DBIG at h
    exact Nat.lt_of_lt_of_le h (Nat.pow_le_pow_right (by decide) (by decide))
theorem log_big {n : Nat} (h : n < BIG) : n.log2 < 400001 := by
  by_cases h0 : n = 0
  · subst h0; decide
  · rw [Nat.log2_lt h0]
    unfold BIG at h
    exact Nat.lt_of_lt_of_le h (Nat.pow_le_pow_right (by decide) (by decide))
theorem mul_big {i j : Int} (h1 : i.natAbs < BIG) (h2 : j.natAbs < BIG) : CMulW i j := by
  have a := log_big h1
  have b := log_big h2
  unfold CMulW
  omega
theorem LIM_eq : LIM = sizeLine := rfl

theorem SqT.nilT {K : PySem.W.Frag} {G : Hp} {l : Addr} {vs : List V} {ds : List D} (h : SqT K G l vs) (r : RpAll K G vs ds) : Rp K G (.ref l) (.tuple ds) := .tup h r
theorem tuple_mulS (l : Addr) (items : Array Value) (n : Nat) (dd : Option Addr) (sl : Array (Option Value)) (x : Int) (u : Tok) (c0 : (decide (x < -(2 ^ 63)) || decide (x ≥ 2 ^ 63)) = false) (c1 : (items.isEmpty || x == 1) = true) :
    Meets (Builtin.«tuple.__mul__» ⟨[.ref l, .int x u], []⟩) (fun _ R s => s.heap.get? l = some { cls := .type "tuple", dict := dd, data := .seq items n, slots := sl } ∧
      R (.ok (.ret (Value.ref l))) s) :=
  .of_wp fun prog w A R s h => by
    obtain ⟨hp, g, d, tk, os⟩ := s
    obtain ⟨hl, h⟩ := h
    have f1 := AutoSeq1.idx_int
    wp_walk using AutoSeq1.wpAny_loadPart' hl
    repeat (first
      | (refine wpAny_ite_false (decide_eq_false (by rw [c0]; exact Bool.false_ne_true)) ?_; wp_walk using AutoSeq1.wpAny_loadPart' hl)
      | (refine wpAny_ite_true (by rw [c1]; rfl) ?_; wp_walk using AutoSeq1.wpAny_loadPart' hl))
    exact ⟨_, rfl, h⟩
theorem tuple_mulE (l : Addr) (items : Array Value) (n : Nat) (dd : Option Addr) (sl : Array (Option Value)) (x : Int) (u : Tok) (c0 : (decide (x < -(2 ^ 63)) || decide (x ≥ 2 ^ 63)) = false) (c1 : (items.isEmpty || x == 1) = false) (c2 : (decide (x ≤ 0) || items.isEmpty) = true) :
    Meets (Builtin.«tuple.__mul__» ⟨[.ref l, .int x u], []⟩) (fun _ R s => s.heap.get? l = some { cls := .type "tuple", dict := dd, data := .seq items n, slots := sl } ∧
      R (.ok (.ret (Value.ref s.heap.objs.size))) { s with heap := s.heap.push { cls := Value.type "tuple", data := Data.seq #[] }, toks := s.toks }) :=
  .of_wp fun prog w A R s h => by
    obtain ⟨hp, g, d, tk, os⟩ := s
    obtain ⟨hl, h⟩ := h
    have f1 := AutoSeq1.idx_int
    wp_walk using AutoSeq1.wpAny_loadPart' hl
    repeat (first
      | (refine wpAny_ite_false (decide_eq_false (by rw [c0]; exact Bool.false_ne_true)) ?_; wp_walk using AutoSeq1.wpAny_loadPart' hl)
      | (refine wpAny_ite_false (decide_eq_false (by rw [c1]; exact Bool.false_ne_true)) ?_; wp_walk using AutoSeq1.wpAny_loadPart' hl)
      | (refine wpAny_ite_true (by rw [c2]; rfl) ?_; wp_walk using AutoSeq1.wpAny_loadPart' hl))
    exact ⟨_, rfl, h⟩
def rRepB (K : PySem.W.Frag) : R2 := fun x y H Q => ∃ l xs k, x = .ref l ∧ y = .int k ∧ SqT K H l xs ∧ (k = 0 ∨ k = 1) ∧ (k = 1 → Q (.ref l) H) ∧ (k = 0 → xs = [] → Q (.ref l) H) ∧ (k = 0 → ∀ p, H p = none → Q (.ref p) (upd H p (.tup [])))
theorem op_repB : OpR X (binaryOp .Mult) (rRepB X.K) := by
  intro pins s σ H x y v u Q I rx ry h
  obtain ⟨l, xs, k, rfl, rfl, hT, hk, q1, q2, q3⟩ := h
  cases rx
  obtain ⟨t, rfl⟩ := ry
  obtain ⟨its, r, ⟨⟨cls, dd, data, sl⟩, ho, hc, n, hd⟩, hs⟩ := I.tuple hT
  simp only at hc hd
  subst hc hd
  have c0 : (decide (k < -(2 ^ 63)) || decide (k ≥ 2 ^ 63)) = false := by
    rcases hk with rfl | rfl <;> decide
  by_cases hi : (its.toArray.isEmpty || k == 1) = true
  · refine wpAny_binaryOp_repeat_ref (T := "tuple") (U := "int") (by decide) ⟨_, ho, rfl⟩ (fun s' => typeIs_int s' k t) noFill_tuple_mul F.fills_int_mul F.slot_int_rmul repeat_tuple F.slot_int_index.lookup
      (call_meets F.slot_int_rmul (typeIs_int s k t) F.entry_int_rmul (F.args_int_rmul_2 _ _) (int_rmul_tuple k t l its.toArray n dd sl)
        ⟨ho, rfl, ⟨_, ho, rfl⟩, call_meets F.slot_tuple_mul ⟨_, ho, rfl⟩ F.entry_tuple_mul (F.args_tuple_mul_2 _ _) (tuple_mulS l its.toArray n dd sl k t c0 hi) ⟨ho, ?_⟩⟩)
    refine ⟨.ref l, H, I, rfl, ?_⟩
    rcases hk with hk | hk
    · refine q2 hk ?_
      subst hk
      have e1 : its.toArray.isEmpty = true := by simpa using hi
      have e2 : its = [] := by simpa using e1
      subst e2
      exact List.eq_nil_of_length_eq_zero (by simpa using r.length)
    · exact q1 hk
  · have hi' : (its.toArray.isEmpty || k == 1) = false := by simpa using hi
    have hk0 : k = 0 := by
      rcases hk with hk | hk
      · exact hk
      · subst hk; simp at hi'
    have c2 : (decide (k ≤ 0) || its.toArray.isEmpty) = true := by subst hk0; rfl
    refine wpAny_binaryOp_repeat_ref (T := "tuple") (U := "int") (by decide) ⟨_, ho, rfl⟩ (fun s' => typeIs_int s' k t) noFill_tuple_mul F.fills_int_mul F.slot_int_rmul repeat_tuple F.slot_int_index.lookup
      (call_meets F.slot_int_rmul (typeIs_int s k t) F.entry_int_rmul (F.args_int_rmul_2 _ _) (int_rmul_tuple k t l its.toArray n dd sl)
        ⟨ho, rfl, ⟨_, ho, rfl⟩, call_meets F.slot_tuple_mul ⟨_, ho, rfl⟩ F.entry_tuple_mul (F.args_tuple_mul_2 _ _) (tuple_mulE l its.toArray n dd sl k t c0 hi' c2) ⟨ho, ?_⟩⟩)
    refine ⟨.ref s.heap.objs.size, _, I.laid (t' := s.toks) (o := .tup []) (fun b ob q => Heap.get?_push_of_some _ q) (Nat.le_refl _) ?_, rfl, q3 hk0 _ (I.hok.fresh (Nat.le_refl _))⟩
    exact ⟨by simp, [], .nil, IsTup.new _ _⟩

theorem bin_sound (op : Operator) : ∃ r, OpR X (binaryOp op) r ∧ ∀ x y dx dy G H Q, Sub G H → Rp X.K G x dx → Rp X.K G y dy → PostE X.K mg EX (dBin op dx dy) G H Q → r x y H Q := by
  cases op with
  | Add =>
    refine ⟨_, OpR.or op_add (OpR.or op_catA (OpR.or op_catR op_add_str)), fun x y dx dy G H Q s hx hy p => ?_⟩
    cases hx <;> cases hy <;> first | exact False.elim p | skip
    · rename_i i j
      exact .inl ⟨i, j, rfl, rfl, Post.now s p (.int _)⟩
    · rename_i i j
      refine .inr (.inr (.inr ⟨i, j, rfl, rfl, ?_⟩))
      have p1 : PostE X.K mg EX (if i.length + j.length ≤ LIM then .ok (.str (i ++ j)) else .no) G H Q := p
      split at p1
      · rename_i h; exact ⟨h, Post.now s p1 (.str _)⟩
      · exact p1.elim
    · rename_i a xs ds ha hds b ys es hb hes
      refine .inr (.inr (.inl ⟨a, b, xs, ys, rfl, rfl, s.ls ha, s.ls hb, ?_⟩))
      have p1 : PostE X.K mg EX (if ds.length + es.length ≤ LIM then .ok (.list (ds ++ es)) else .no) G H Q := p
      split at p1
      · rename_i h
        refine ⟨by rw [hds.length, hes.length]; exact h, fun q n => p1 _ _ _ (.new s n _) ?_⟩
        exact .lst (.inl (.inl upd_same)) ((Sub.updF _ (s.none n)).rps (hds.app hes))
      · exact p1.elim
    · rename_i a xs ds ha hds b ys es hb hes
      refine .inr (.inl ⟨a, b, xs, ys, rfl, rfl, s.sqT ha, s.sqT hb, ?_⟩)
      have p1 : PostE X.K mg EX (if ds.length + es.length ≤ LIM then .ok (.tuple (ds ++ es)) else .no) G H Q := p
      split at p1
      · rename_i h
        refine ⟨by rw [hds.length, hes.length]; exact h, fun e => ?_, fun _ e => ?_, fun _ _ q n => p1 _ _ _ (.new s n _) ?_⟩
        · subst e; cases hds; exact Post.now s p1 (.tup hb hes)
        · subst e; cases hes; rw [List.append_nil] at p1; exact Post.now s p1 (.tup ha hds)
        · exact .tup (.inl (.inl upd_same)) ((Sub.updF _ (s.none n)).rps (hds.app hes))
      · exact p1.elim
  | Sub =>
    refine ⟨_, op_sub, fun x y dx dy G H Q s hx hy p => ?_⟩
    cases hx <;> cases hy <;> first | exact False.elim p | skip
    exact ⟨_, _, rfl, rfl, Post.now s p (.int _)⟩
  | Mult =>
    refine ⟨_, OpR.or (OpR.or op_mul op_mulW) op_repB, fun x y dx dy G H Q s hx hy p => ?_⟩
    cases hx <;> cases hy <;> first | exact False.elim p | skip
    · rename_i i j
      have p1 : PostE X.K mg EX (if mulOk i j then .ok (.int (i * j)) else .no) G H Q := p
      split at p1
      · rename_i h
        unfold mulOk at h
        rw [Bool.or_eq_true, Bool.or_eq_true, Bool.and_eq_true, decide_eq_true_eq, decide_eq_true_eq, decide_eq_true_eq, decide_eq_true_eq] at h
        rcases h with (h | h) | h
        · exact .inl (.inl ⟨i, j, rfl, rfl, .inl ⟨by omega, by omega⟩, Post.now s p1 (.int _)⟩)
        · exact .inl (.inl ⟨i, j, rfl, rfl, .inr ⟨by omega, by omega⟩, Post.now s p1 (.int _)⟩)
        · exact .inl (.inr ⟨i, j, rfl, rfl, mul_big h.1 h.2, Post.now s p1 (.int _)⟩)
      · exact p1.elim
    · rename_i a xs ds ha hds k
      have p1 : PostE X.K mg EX (if k = 1 then .ok (.tuple ds) else if k = 0 then .ok (.tuple []) else .no) G H Q := p
      split at p1
      · rename_i h
        exact .inr ⟨a, xs, k, rfl, rfl, s.sqT ha, .inr h, fun _ => Post.now s p1 (.tup ha hds), fun e => by omega, fun e => by omega⟩
      · split at p1
        · rename_i h
          refine .inr ⟨a, xs, k, rfl, rfl, s.sqT ha, .inl h, fun e => by omega, fun _ e => ?_, fun _ q n => p1 _ _ _ (.new s n _) (.tup (.inl (.inl upd_same)) .nil)⟩
          subst e; exact Post.now s p1 (.tup ha .nil)
        · exact p1.elim
  | FloorDiv =>
    refine ⟨_, op_fdivX, fun x y dx dy G H Q s hx hy p => ?_⟩
    cases hx <;> cases hy <;> first | exact False.elim p | skip
    rename_i i j
    have p1 : PostE X.K mg EX (if j ≠ 0 ∧ j.natAbs < DBIG then .ok (.int (i.fdiv j)) else .no) G H Q := p
    split at p1
    · rename_i h; exact ⟨i, j, rfl, rfl, ⟨h.1, log_small h.2⟩, Post.now s p1 (.int _)⟩
    · exact p1.elim
  | Mod =>
    refine ⟨_, op_modN, fun x y dx dy G H Q s hx hy p => ?_⟩
    cases hx <;> cases hy <;> first | exact False.elim p | skip
    rename_i i j
    have p1 : PostE X.K mg EX (if j ≠ 0 then .ok (.int (i.fmod j)) else .no) G H Q := p
    split at p1
    · rename_i h; exact ⟨i, j, rfl, rfl, h, Post.now s p1 (.int _)⟩
    · exact p1.elim
  | _ =>
    refine ⟨_, opr_no, fun x y dx dy G H Q s hx hy p => ?_⟩
    cases dx <;> cases dy <;> exact False.elim p
end
end Rf
namespace Rf
open PySem PySem.Spec PyProof.Rows L2
section
variable {X : Cx} {mg : Str → Option Value} {EX : XK}
theorem flat_iff {K : PySem.W.Frag} {G : Hp} {x : V} {d : D} (h : Rp K G x d) (f : flatD d = true) : flatV x = true := by
  cases h <;> first | rfl | cases f
theorem flats_iff {K : PySem.W.Frag} {G : Hp} : ∀ {xs : List V} {ds : List D}, RpAll K G xs ds → ds.all flatD = true → xs.all flatV = true
  | _, _, .nil, _ => rfl
  | _, _, .cons h hs, f => by
    rw [List.all_cons, Bool.and_eq_true] at f
    rw [List.all_cons, flat_iff h f.1, flats_iff hs f.2]; rfl
theorem eqV_eqv {K : PySem.W.Frag} {G : Hp} {x y : V} {d e : D} (h : Rp K G x d) (k : Rp K G y e) (f : flatD d = true) (g : flatD e = true) : eqV x y = PyData.eqv d e := by
  cases h <;> cases k <;> first | (simp only [eqV, PyData.eqv]; done) | rfl | cases f | cases g
theorem inV_eqv {K : PySem.W.Frag} {G : Hp} {x : V} {d : D} (h : Rp K G x d) (f : flatD d = true) : ∀ {xs : List V} {ds : List D}, RpAll K G xs ds → ds.all flatD = true → inV x xs = ds.any fun y => PyData.eqv y d
  | _, _, .nil, _ => rfl
  | _, _, .cons k ks, g => by
    rw [List.all_cons, Bool.and_eq_true] at g
    have ih := inV_eqv h f ks g.2
    unfold inV at ih ⊢
    rw [List.any_cons, List.any_cons, ih, eqV_eqv k h g.1 f]
/-- x in xs, by data -/
def rInQ (K : PySem.W.Frag) (neg : Bool) : R2 := fun x y H Q => ∃ d ds, Dp K H x d ∧ (Dp K H y (.tuple ds) ∨ Dp K H y (.list ds)) ∧ SeqAt.shaped d = true ∧ PyData.canLayAll0 ds = true ∧ PyData.depth d ≤ 60 ∧ Q (.bl (if neg then !(ds.any fun z => PyData.eqv z d) else (ds.any fun z => PyData.eqv z d))) H
theorem op_inQ (hu : X.A.units + 64 < cLine) : OpR X (compareOp .In) (rInQ X.K false) := by
  intro pins s σ H x y v u Q I rx ry h
  obtain ⟨d, ds, hd, he, sd, se, dp, q⟩ := h
  have hr : X.A.units + 1 + min (PyData.depthAll ds) d.depth < cLine := by
    have := Nat.min_le_right (PyData.depthAll ds) d.depth
    omega
  obtain ⟨as, r1⟩ := Dp.reads I d x v hd rx
  rcases he with he | he
  · obtain ⟨bs, r2⟩ := Dp.reads I (.tuple ds) y u he ry
    exact SeqAt.in_tuple_reads r2 r1 se (SeqAt.canLay_of_shaped sd) hr ⟨.bl _, H, I, rfl, q⟩
  · obtain ⟨bs, r2⟩ := Dp.reads I (.list ds) y u he ry
    exact SeqAt.in_list_reads r2 r1 se (SeqAt.canLay_of_shaped sd) hr ⟨.bl _, H, I, rfl, q⟩
theorem op_notInQ (hu : X.A.units + 64 < cLine) : OpR X (compareOp .NotIn) (rInQ X.K true) := by
  intro pins s σ H x y v u Q I rx ry h
  obtain ⟨d, ds, hd, he, sd, se, dp, q⟩ := h
  have hr : X.A.units + 1 + min (PyData.depthAll ds) d.depth < cLine := by
    have := Nat.min_le_right (PyData.depthAll ds) d.depth
    omega
  obtain ⟨as, r1⟩ := Dp.reads I d x v hd rx
  rcases he with he | he
  · obtain ⟨bs, r2⟩ := Dp.reads I (.tuple ds) y u he ry
    exact SeqAt.notIn_tuple_reads r2 r1 se (SeqAt.canLay_of_shaped sd) hr ⟨.bl _, H, I, rfl, q⟩
  · obtain ⟨bs, r2⟩ := Dp.reads I (.list ds) y u he ry
    exact SeqAt.notIn_list_reads r2 r1 se (SeqAt.canLay_of_shaped sd) hr ⟨.bl _, H, I, rfl, q⟩
theorem cmp_sound (hu : X.A.units + 64 < cLine) (op : CmpOp) : ∃ r, OpR X (compareOp op) r ∧ ∀ x y dx dy G H Q, Sub G H → Rp X.K G x dx → Rp X.K G y dy → PostE X.K mg EX (dCmp op dx dy) G H Q → r x y H Q := by
  cases op with
  | Eq =>
    refine ⟨_, op_eqD hu, fun x y dx dy G H Q s hx hy p => ?_⟩
    have p1 : PostE X.K mg EX (if SeqAt.shaped dx && SeqAt.shaped dy then .ok (.bool (PyData.eqv dx dy)) else .no) G H Q := p
    split at p1
    · rename_i h
      rw [Bool.and_eq_true] at h
      exact ⟨dx, dy, (s.rp hx).dp, (s.rp hy).dp, h.1, h.2, Post.now s p1 (.bl _)⟩
    · exact p1.elim
  | NotEq =>
    refine ⟨_, op_neD hu, fun x y dx dy G H Q s hx hy p => ?_⟩
    have p1 : PostE X.K mg EX (if SeqAt.shaped dx && SeqAt.shaped dy then .ok (.bool (!PyData.eqv dx dy)) else .no) G H Q := p
    split at p1
    · rename_i h
      rw [Bool.and_eq_true] at h
      exact ⟨dx, dy, (s.rp hx).dp, (s.rp hy).dp, h.1, h.2, Post.now s p1 (.bl _)⟩
    · exact p1.elim
  | Lt =>
    refine ⟨_, op_lt, fun x y dx dy G H Q s hx hy p => ?_⟩
    cases hx <;> cases hy <;> first | exact False.elim p | skip
    exact ⟨_, _, rfl, rfl, Post.now s p (.bl _)⟩
  | LtE =>
    refine ⟨_, op_le, fun x y dx dy G H Q s hx hy p => ?_⟩
    cases hx <;> cases hy <;> first | exact False.elim p | skip
    exact ⟨_, _, rfl, rfl, Post.now s p (.bl _)⟩
  | Gt =>
    refine ⟨_, op_gt, fun x y dx dy G H Q s hx hy p => ?_⟩
    cases hx <;> cases hy <;> first | exact False.elim p | skip
    exact ⟨_, _, rfl, rfl, Post.now s p (.bl _)⟩
  | GtE =>
    refine ⟨_, op_ge, fun x y dx dy G H Q s hx hy p => ?_⟩
    cases hx <;> cases hy <;> first | exact False.elim p | skip
    exact ⟨_, _, rfl, rfl, Post.now s p (.bl _)⟩
  | Is =>
    refine ⟨_, OpR.or op_isN op_is_bl, fun x y dx dy G H Q s hx hy p => ?_⟩
    cases hx <;> cases hy <;> first | exact False.elim p | exact .inl ⟨rfl, Post.now s p (.bl _)⟩ | exact .inr ⟨_, _, rfl, rfl, Post.now s p (.bl _)⟩
  | IsNot =>
    refine ⟨_, OpR.or op_notN op_isnot_bl, fun x y dx dy G H Q s hx hy p => ?_⟩
    cases hx <;> cases hy <;> first | exact False.elim p | exact .inl ⟨rfl, Post.now s p (.bl _)⟩ | exact .inr ⟨_, _, rfl, rfl, Post.now s p (.bl _)⟩
  | In =>
    refine ⟨_, OpR.or op_in_seq (op_inQ hu), fun x y dx dy G H Q s hx hy p => ?_⟩
    have p1 : PostE X.K mg EX (dIn dx dy >>= fun k => .ok (.bool (k))) G H Q := by cases dx <;> exact p
    cases hy <;> first | exact False.elim p1 | skip
    · rename_i a xs ds ha hds
      have p1 : PostE X.K mg EX ((if flatD dx && ds.all flatD then .ok (ds.any fun y => PyData.eqv y dx) else if (SeqAt.shaped dx && PyData.canLayAll0 ds) && decide (PyData.depth dx ≤ 60) then .ok (ds.any fun y => PyData.eqv y dx) else .no) >>= fun k => .ok (.bool (k))) G H Q := p1
      split at p1
      · rename_i h
        rw [Bool.and_eq_true] at h
        refine .inl ⟨a, xs, rfl, .inl ((s.ls ha).sq), flat_iff hx h.1, flats_iff hds h.2, ?_⟩
        rw [if_neg (by decide), inV_eqv hx h.1 hds h.2]
        exact Post.now s p1 (.bl _)
      · split at p1
        · rename_i h
          rw [Bool.and_eq_true, Bool.and_eq_true, decide_eq_true_eq] at h
          refine .inr ⟨dx, ds, (s.rp hx).dp, .inr (s.rp (.lst ha hds)).dp, h.1.1, h.1.2, h.2, ?_⟩
          rw [if_neg (by decide)]
          exact Post.now s p1 (.bl _)
        · exact p1.elim
    · rename_i a xs ds ha hds
      have p1 : PostE X.K mg EX ((if flatD dx && ds.all flatD then .ok (ds.any fun y => PyData.eqv y dx) else if (SeqAt.shaped dx && PyData.canLayAll0 ds) && decide (PyData.depth dx ≤ 60) then .ok (ds.any fun y => PyData.eqv y dx) else .no) >>= fun k => .ok (.bool (k))) G H Q := p1
      split at p1
      · rename_i h
        rw [Bool.and_eq_true] at h
        refine .inl ⟨a, xs, rfl, .inr (s.sqT ha), flat_iff hx h.1, flats_iff hds h.2, ?_⟩
        rw [if_neg (by decide), inV_eqv hx h.1 hds h.2]
        exact Post.now s p1 (.bl _)
      · split at p1
        · rename_i h
          rw [Bool.and_eq_true, Bool.and_eq_true, decide_eq_true_eq] at h
          refine .inr ⟨dx, ds, (s.rp hx).dp, .inl (s.rp (.tup ha hds)).dp, h.1.1, h.1.2, h.2, ?_⟩
          rw [if_neg (by decide)]
          exact Post.now s p1 (.bl _)
        · exact p1.elim
  | NotIn =>
    refine ⟨_, OpR.or op_notIn_seq (op_notInQ hu), fun x y dx dy G H Q s hx hy p => ?_⟩
    have p1 : PostE X.K mg EX (dIn dx dy >>= fun k => .ok (.bool (!k))) G H Q := by cases dx <;> exact p
    cases hy <;> first | exact False.elim p1 | skip
    · rename_i a xs ds ha hds
      have p1 : PostE X.K mg EX ((if flatD dx && ds.all flatD then .ok (ds.any fun y => PyData.eqv y dx) else if (SeqAt.shaped dx && PyData.canLayAll0 ds) && decide (PyData.depth dx ≤ 60) then .ok (ds.any fun y => PyData.eqv y dx) else .no) >>= fun k => .ok (.bool (!k))) G H Q := p1
      split at p1
      · rename_i h
        rw [Bool.and_eq_true] at h
        refine .inl ⟨a, xs, rfl, .inl ((s.ls ha).sq), flat_iff hx h.1, flats_iff hds h.2, ?_⟩
        rw [if_pos rfl, inV_eqv hx h.1 hds h.2]
        exact Post.now s p1 (.bl _)
      · split at p1
        · rename_i h
          rw [Bool.and_eq_true, Bool.and_eq_true, decide_eq_true_eq] at h
          refine .inr ⟨dx, ds, (s.rp hx).dp, .inr (s.rp (.lst ha hds)).dp, h.1.1, h.1.2, h.2, ?_⟩
          rw [if_pos rfl]
          exact Post.now s p1 (.bl _)
        · exact p1.elim
    · rename_i a xs ds ha hds
      have p1 : PostE X.K mg EX ((if flatD dx && ds.all flatD then .ok (ds.any fun y => PyData.eqv y dx) else if (SeqAt.shaped dx && PyData.canLayAll0 ds) && decide (PyData.depth dx ≤ 60) then .ok (ds.any fun y => PyData.eqv y dx) else .no) >>= fun k => .ok (.bool (!k))) G H Q := p1
      split at p1
      · rename_i h
        rw [Bool.and_eq_true] at h
        refine .inl ⟨a, xs, rfl, .inr (s.sqT ha), flat_iff hx h.1, flats_iff hds h.2, ?_⟩
        rw [if_pos rfl, inV_eqv hx h.1 hds h.2]
        exact Post.now s p1 (.bl _)
      · split at p1
        · rename_i h
          rw [Bool.and_eq_true, Bool.and_eq_true, decide_eq_true_eq] at h
          refine .inr ⟨dx, ds, (s.rp hx).dp, .inl (s.rp (.tup ha hds)).dp, h.1.1, h.1.2, h.2, ?_⟩
          rw [if_pos rfl]
          exact Post.now s p1 (.bl _)
        · exact p1.elim
theorem tru_sound {x : V} {d : D} {k : Bool} {G H : Hp} (s : Sub G H) (h : Rp X.K G x d) (e : dTru d = .ok k) : TruV X.K x H k := by
  cases h with
  | non => cases e; rfl
  | bl b => cases e; rfl
  | int i => cases e; rfl
  | str x => cases e
  | @lst a xs ds ha hds =>
    cases e
    refine .inl ⟨xs, (s.ls ha).sq, ?_⟩
    cases hds <;> rfl
  | @tup a xs ds ha hds =>
    cases e
    refine .inr (.inl ⟨xs, s.sqT ha, ?_⟩)
    cases hds <;> rfl
theorem atI_rp {K : PySem.W.Frag} {G : Hp} {xs : List V} {ds : List D} (h : RpAll K G xs ds) {i : Int} {d : D} (e : atI ds i = some d) : ∃ v, atI xs i = some v ∧ Rp K G v d := by
  unfold atI at e ⊢
  rw [h.length]
  cases q : ixN ds.length i with
  | none => rw [q] at e; cases e
  | some j =>
    rw [q] at e
    exact h.get e
theorem idx_sound : ∃ r, IxR X r ∧ ∀ x y dx dy G H Q, Sub G H → Rp X.K G x dx → Rp X.K G y dy → PostE X.K mg EX (dIdx dx dy) G H Q → r x y H Q := by
  refine ⟨_, ix_seq, fun x y dx dy G H Q s hx hy p => ?_⟩
  cases hx <;> cases hy <;> first | exact False.elim p | skip
  · rename_i a xs ds ha hds i
    have p1 : PostE X.K mg EX (match atI ds i with | some d => .ok d | none => .no) G H Q := p
    split at p1
    · rename_i d h
      obtain ⟨v, e, r⟩ := atI_rp hds h
      exact .inl ⟨a, xs, i, v, rfl, rfl, (s.ls ha).sq, e, Post.now s p1 r⟩
    · exact p1.elim
  · rename_i a xs ds ha hds i
    have p1 : PostE X.K mg EX (match atI ds i with | some d => .ok d | none => .no) G H Q := p
    split at p1
    · rename_i d h
      obtain ⟨v, e, r⟩ := atI_rp hds h
      exact .inr (.inl ⟨a, xs, i, v, rfl, rfl, s.sqT ha, e, Post.now s p1 r⟩)
    · exact p1.elim
theorem cut_rp {K : PySem.W.Frag} {G : Hp} {xs : List V} {ds : List D} (h : RpAll K G xs ds) (lo hi : Option Int) : RpAll K G (cutV xs lo hi) (cutD ds lo hi) := by
  unfold cutV cutD
  rw [h.length]
  exact (h.drop _).take _
theorem cut_whole {ds : List D} {lo hi : Option Int} (h : HT.sIx ds.length 0 lo = 0 ∧ HT.sIx ds.length ds.length hi = ds.length) : cutD ds lo hi = ds := by
  unfold cutD
  rw [h.1, h.2]
  simp
theorem slc_sound : ∃ r, SlR X r ∧ ∀ x dx lo hi G H Q, Sub G H → Rp X.K G x dx → PostE X.K mg EX (dSlc dx lo hi) G H Q → r x lo hi H Q := by
  refine ⟨_, SlR.or sl_list sl_tupA, fun x dx lo hi G H Q s hx p => ?_⟩
  cases hx <;> first | exact False.elim p | skip
  · rename_i a xs ds ha hds
    exact .inl ⟨a, xs, rfl, (s.ls ha).sq, fun q n => Post.new s p n _ (.lst (.inl (.inl upd_same)) ((Sub.updF _ (s.none n)).rps (cut_rp hds lo hi)))⟩
  · rename_i a xs ds ha hds
    refine .inr ⟨a, xs, rfl, s.sqT ha, fun e => ?_, fun _ q n => Post.new s p n _ (.tup (.inl (.inl upd_same)) ((Sub.updF _ (s.none n)).rps (cut_rp hds lo hi)))⟩
    rw [hds.length] at e
    have p1 : PostE X.K mg EX (.ok (.tuple (cutD ds lo hi))) G H Q := p
    rw [cut_whole e] at p1
    exact Post.now s p1 (.tup ha hds)
def biName : Bi → Str
  | .len => "len" | .abs => "abs" | .int => "int" | .list => "list" | .tuple => "tuple" | .max => "max" | .min => "min" | .all => "all" | .str => "str"
def biVal : Bi → Value
  | .len => .builtin "len" | .abs => .builtin "abs" | .int => .type "int" | .list => .type "list" | .tuple => .type "tuple" | .max => .builtin "max" | .min => .builtin "min" | .all => .builtin "all" | .str => .type "str"
def callNo {X : Cx} {f : Value} : CallR X f (fun _ _ _ => False) := fun _ _ _ _ _ _ _ _ _ h => h.elim
theorem bools_rp {K : PySem.W.Frag} {G : Hp} : ∀ {xs : List V} {ds : List D} {bs : List Bool}, RpAll K G xs ds → bools ds = some bs → xs = bs.map V.bl
  | _, _, _, .nil, e => by cases e; rfl
  | _, _, _, .cons h hs, e => by
    cases h <;> first | (cases e; done) | skip
    rename_i ds b
    have e1 : (bools ds).map (b :: ·) = some _ := e
    cases q : bools ds with
    | none => rw [q] at e1; cases e1
    | some cs =>
      rw [q] at e1
      cases e1
      rw [bools_rp hs q]; rfl
theorem bi_sound (hc : X.calm = true) (b : Bi) : ∃ r, CallR X (biVal b) r ∧ ∀ xs ds G H Q, Sub G H → RpAll X.K G xs ds → PostE X.K mg EX (dBi b ds) G H Q → r xs H Q := by
  have two : ∀ {P : Prop} (d e f : D) (r : List D) {G H : Hp} {Q : VK}, PostE X.K mg EX (dBi b (d :: e :: f :: r)) G H Q → P := fun d e f r G H Q p => by
    cases b <;> first | done | (cases d <;> first | exact False.elim p | (cases e <;> exact False.elim p))
  cases b with
  | len =>
    refine ⟨_, CallR.or call_len_seq call_len_str, fun xs ds G H Q s h p => ?_⟩
    cases h with
    | nil => exact False.elim p
    | cons a r =>
      cases r with
      | cons b r => cases a <;> exact False.elim p
      | nil =>
        cases a <;> first | exact False.elim p | skip
        · rename_i z
          have p1 : PostE X.K mg EX (if z.length ≤ LIM then .ok (.int z.length) else .no) G H Q := p
          split at p1
          · rename_i hz; exact .inr ⟨z, rfl, hz, Post.now s p1 (.int _)⟩
          · exact p1.elim
        · rename_i a xs ds ha hds
          refine .inl ⟨a, xs, rfl, .inl ((s.ls ha).sq), ?_⟩
          rw [hds.length]
          exact Post.now s p (.int _)
        · rename_i a xs ds ha hds
          refine .inl ⟨a, xs, rfl, .inr (s.sqT ha), ?_⟩
          rw [hds.length]
          exact Post.now s p (.int _)
  | abs =>
    refine ⟨_, call_abs, fun xs ds G H Q s h p => ?_⟩
    cases h with
    | nil => exact False.elim p
    | cons a r =>
      cases r with
      | cons b r => cases a <;> exact False.elim p
      | nil =>
        cases a <;> first | exact False.elim p | skip
        exact ⟨_, rfl, Post.now s p (.int _)⟩
  | int =>
    refine ⟨_, call_int1, fun xs ds G H Q s h p => ?_⟩
    cases h with
    | nil => exact False.elim p
    | cons a r =>
      cases r with
      | cons b r => cases a <;> exact False.elim p
      | nil =>
        cases a <;> first | exact False.elim p | skip
        · exact .inr ⟨_, rfl, Post.now s p (.int _)⟩
        · exact .inl ⟨_, rfl, Post.now s p (.int _)⟩
  | list =>
    refine ⟨_, call_list_of, fun xs ds G H Q s h p => ?_⟩
    cases h with
    | nil => exact False.elim p
    | cons a r =>
      cases r with
      | cons b r => cases a <;> exact False.elim p
      | nil =>
        cases a <;> first | exact False.elim p | skip
        · rename_i a xs ds ha hds
          exact ⟨a, xs, rfl, .inl ((s.ls ha).sq), fun q n => Post.new s p n _ (.lst (.inl (.inl upd_same)) ((Sub.updF _ (s.none n)).rps hds))⟩
        · rename_i a xs ds ha hds
          exact ⟨a, xs, rfl, .inr (s.sqT ha), fun q n => Post.new s p n _ (.lst (.inl (.inl upd_same)) ((Sub.updF _ (s.none n)).rps hds))⟩
  | tuple =>
    refine ⟨_, call_tuple_of, fun xs ds G H Q s h p => ?_⟩
    cases h with
    | nil => exact False.elim p
    | cons a r =>
      cases r with
      | cons b r => cases a <;> exact False.elim p
      | nil =>
        cases a <;> first | exact False.elim p | skip
        · rename_i a xs ds ha hds
          exact ⟨a, xs, rfl, .inl ⟨(s.ls ha).sq, fun q n => Post.new s p n _ (.tup (.inl (.inl upd_same)) ((Sub.updF _ (s.none n)).rps hds))⟩⟩
        · rename_i a xs ds ha hds
          exact ⟨a, xs, rfl, .inr ⟨s.sqT ha, Post.now s p (.tup ha hds)⟩⟩
  | max =>
    refine ⟨_, call_max2 hc, fun xs ds G H Q s h p => ?_⟩
    cases h with
    | nil => exact False.elim p
    | cons a r =>
      cases r with
      | nil => cases a <;> exact False.elim p
      | cons b r =>
        cases r with
        | cons c r => exact two _ _ _ _ p
        | nil =>
          cases a <;> cases b <;> first | exact False.elim p | skip
          exact ⟨_, _, rfl, Post.now s p (.int _)⟩
  | min =>
    refine ⟨_, call_min2 hc, fun xs ds G H Q s h p => ?_⟩
    cases h with
    | nil => exact False.elim p
    | cons a r =>
      cases r with
      | nil => cases a <;> exact False.elim p
      | cons b r =>
        cases r with
        | cons c r => exact two _ _ _ _ p
        | nil =>
          cases a <;> cases b <;> first | exact False.elim p | skip
          exact ⟨_, _, rfl, Post.now s p (.int _)⟩
  | all =>
    refine ⟨_, cr_all hc, fun xs ds G H Q s h p => ?_⟩
    cases h with
    | nil => exact False.elim p
    | cons a r =>
      cases r with
      | cons b r => cases a <;> exact False.elim p
      | nil =>
        cases a <;> first | exact False.elim p | skip
        rename_i a xs ds ha hds
        have p1 : PostE X.K mg EX (match bools ds with | some bs => .ok (.bool (bs.all id)) | none => .no) G H Q := p
        split at p1
        · rename_i bs e
          have e2 := bools_rp hds e
          subst e2
          exact ⟨a, bs, rfl, (s.ls ha).sq, Post.now s p1 (.bl _)⟩
        · exact p1.elim
  | str =>
    refine ⟨_, call_str_int, fun xs ds G H Q s h p => ?_⟩
    cases h with
    | nil => exact False.elim p
    | cons a r =>
      cases r with
      | cons b r => cases a <;> exact False.elim p
      | nil =>
        cases a <;> first | exact False.elim p | skip
        rename_i i
        have p1 : PostE X.K mg EX (if i.natAbs.log2 < 1920 then .ok (.str (toString i)) else .no) G H Q := p
        split at p1
        · rename_i hz; exact ⟨i, rfl, hz, Post.now s p1 (.str _)⟩
        · exact p1.elim
def kitsOk (T : String) : Bool := decide (kitB "NoneType" T = some (T == "NoneType")) && decide (kitB "bool" T = some (T == "bool" || T == "int")) && decide (kitB "int" T = some (T == "int")) && decide (kitB "str" T = some (T == "str")) &&
  decide (kitB "tuple" T = some (T == "tuple")) && decide (kitB "list" T = some (T == "list"))
theorem isi_sound {T : String} (hT : kitsOk T = true) {x : V} {d : D} {G H : Hp} {Q : VK} (s : Sub G H) (h : Rp X.K G x d) (p : PostE X.K mg EX (isTy T d >>= fun k => .ok (.bool k)) G H Q) : rIsi X.K [x, .ty T] H Q := by
  unfold kitsOk at hT
  simp only [Bool.and_eq_true, decide_eq_true_eq] at hT
  obtain ⟨⟨⟨⟨⟨k1, k2⟩, k3⟩, k4⟩, k5⟩, k6⟩ := hT
  cases h with
  | non => exact ⟨_, _, _, _, _, rfl, .ty T, .base .non, kit_ty k1, Post.now s p (.bl _)⟩
  | bl b => exact ⟨_, _, _, _, _, rfl, .ty T, .base (.bl _), kit_ty k2, Post.now s p (.bl _)⟩
  | int i => exact ⟨_, _, _, _, _, rfl, .ty T, .base (.int _), kit_ty k3, Post.now s p (.bl _)⟩
  | str z => exact ⟨_, _, _, _, _, rfl, .ty T, .base (.str _), kit_ty k4, Post.now s p (.bl _)⟩
  | lst ha hds =>
    rcases s.ls ha with (h1 | ⟨o, h1⟩) | ⟨its, n, h1, _⟩
    · exact ⟨_, _, _, _, _, rfl, .ty T, .base (.lst h1), kit_ty k6, Post.now s p (.bl _)⟩
    · exact ⟨_, _, _, _, _, rfl, .ty T, .base (.frz h1), kit_ty k6, Post.now s p (.bl _)⟩
    · exact ⟨_, _, _, _, _, rfl, .ty T, .kList h1 rfl, kit_ty k6, Post.now s p (.bl _)⟩
  | tup ha hds =>
    rcases s.sqT ha with (h1 | ⟨o, h1⟩) | ⟨o, its, n, h1, h2, _⟩
    · exact ⟨_, _, _, _, _, rfl, .ty T, .base (.tup h1), kit_ty k5, Post.now s p (.bl _)⟩
    · exact ⟨_, _, _, _, _, rfl, .ty T, .fTuple h1, kit_ty k5, Post.now s p (.bl _)⟩
    · exact ⟨_, _, _, _, _, rfl, .ty T, .kTuple h1 h2, kit_ty k5, Post.now s p (.bl _)⟩
example : (["int", "bool", "str", "tuple", "list"] : List String).all kitsOk = true := by decide +kernel
end
end Rf
namespace Rf
open PySem PySem.Spec PyProof.Rows L2

def plainN (x : Str) : Bool := !(x == ("__debug__" : Str)) && !(x == ("__classdict__" : Str))
def visB (sc : Scope) (x : Str) : Bool := plainN x && (match sc.names.lookup x with
  | some .local => true
  | some .cell => true
  | some .free => true
  | _ => false)
def locB (sc : Scope) (x : Str) : Bool := match sc.names.lookup x with
  | some .local => true
  | some .cell => true
  | _ => false
def gloB (sc : Scope) (x : Str) : Bool := plainN x && (match sc.names.lookup x with
  | some .globalImplicit => true
  | _ => false)
def notStar : Expr → Bool
  | .Starred _ _ => false
  | _ => true
def notSlice : Expr → Bool
  | .Slice _ _ _ _ => false
  | _ => true
def keyC : Int ⊕ Str → Expr → Bool
  | .inl i, .Constant (.int m) _ _ => decide (i = m)
  | .inr x, .Constant (.str m) _ _ => decide (x = m)
  | _, _ => false
def keysC : List (Int ⊕ Str) → List (Option Expr) → Bool
  | [], [] => true
  | k :: ks, some e :: es => keyC k e && keysC ks es
  | _, _ => false
def notSet : Expr → Bool
  | .Set _ _ _ => false
  | _ => true
def isTup : Expr → Bool
  | .Tuple _ _ _ => true
  | _ => false
mutual
def chkT (N : List Str) (sc : Scope) : IT → Expr → Bool
  | .nm i, e => match e with
    | .Name x _ => decide (N[i]? = some x) && locB sc x
    | _ => false
  | .tu ts, e => match e with
    | .Tuple es _ _ => chkTs N sc ts es
    | _ => false
def chkTs (N : List Str) (sc : Scope) : ITs → List Expr → Bool
  | .nil, es => es.isEmpty
  | .cons t r, es => match es with
    | e :: es => notStar e && chkT N sc t e && chkTs N sc r es
    | [] => false
end
mutual
def chkE (N : List Str) (sc : Scope) : IE → Expr → Bool
  | .var i, e => match e with
    | .Name x _ => decide (N[i]? = some x) && visB sc x
    | _ => false
  | .int n, e => match e with
    | .Constant (.int m) _ _ => decide (n = m)
    | _ => false
  | .str n, e => match e with
    | .Constant (.str m) _ _ => decide (n = m)
    | _ => false
  | .bl n, e => match e with
    | .Constant (.bool m) _ _ => decide (n = m)
    | _ => false
  | .non, e => match e with
    | .Constant .none _ _ => true
    | _ => false
  | .glo x _, e => match e with
    | .Name y _ => decide (x = y) && gloB sc x
    | _ => false
  | .tup es, e => match e with
    | .Tuple xs _ _ => chkEs N sc es xs && decide (xs.length ≤ 1000)
    | _ => false
  | .lst es, e => match e with
    | .List xs _ => chkEs N sc es xs && decide (xs.length ≤ 1000)
    | _ => false
  | .bin op a b, e => match e with
    | .BinOp x o y _ => decide (op = o) && (chkE N sc a x && chkE N sc b y)
    | _ => false
  | .neg a, e => match e with
    | .UnaryOp .USub x _ => chkE N sc a x
    | _ => false
  | .cmp op a b, e => match e with
    | .Compare x [o] [y] _ => decide (op = o) && (notSet y && (chkE N sc a x && chkE N sc b y))
    | _ => false
  | .chn o1 o2 a b c, e => match e with
    | .Compare x [p1, p2] [y, z] _ => decide (o1 = p1) && (decide (o2 = p2) && (notSet z && (chkE N sc a x && (chkE N sc b y && chkE N sc c z))))
    | _ => false
  | .and a b, e => match e with
    | .BoolOp .And [x, y] _ => chkE N sc a x && chkE N sc b y
    | .BoolOp .And (x :: y :: z :: r) p => chkE N sc a x && chkE N sc b (.BoolOp .And (y :: z :: r) p)
    | _ => false
  | .or a b, e => match e with
    | .BoolOp .Or [x, y] _ => chkE N sc a x && chkE N sc b y
    | .BoolOp .Or (x :: y :: z :: r) p => chkE N sc a x && chkE N sc b (.BoolOp .Or (y :: z :: r) p)
    | _ => false
  | .not a, e => match e with
    | .UnaryOp .Not x _ => chkE N sc a x
    | _ => false
  | .idx a i, e => match e with
    | .Subscript x y _ => notSlice y && (chkE N sc a x && chkE N sc i y)
    | _ => false
  | .slc a lo hi, e => match e with
    | .Subscript x (.Slice l u none _) _ => chkE N sc a x && (chkO N sc lo l && chkO N sc hi u)
    | _ => false
  | .rev a, e => match e with
    | .Subscript x (.Slice none none (some (.UnaryOp .USub (.Constant (.int m) _ _) _)) _) _ => decide (m = 1) && chkE N sc a x
    | _ => false
  | .alt a lo, e => false
  | .call x _ es, e => match e with
    | .Call (.Name y _) as [] _ => decide (x = y) && (gloB sc x && chkEs N sc es as)
    | _ => false
  | .bi b es, e => match e with
    | .Call (.Name y _) (a :: as) [] _ => decide (y = biName b) && (gloB sc y && chkEs N sc es (a :: as))
    | _ => false
  | .isi T ea, e => match e with
    | .Call (.Name y _) [a, .Name t _] [] _ => decide (y = "isinstance") && (gloB sc y && (decide (t = Str.ofString T) && (gloB sc t && (decide (bootBuiltins t = some (.type T)) && (decide (t ≠ "__name__") && (kitsOk T && (notStar a && chkE N sc ea a)))))))
    | _ => false
  | .neO i, e => match e with
    | .Compare (.Name x _) [o] [.List [] _] _ => decide (o = .NotEq) && (decide (N[i]? = some x) && visB sc x)
    | _ => false
  | .dix ks vs a, e => match e with
    | .Subscript (.Dict keys values _) i _ => keysC ks keys && (decide ks.Nodup && (decide (0 < ks.length) && (decide (ks.length ≤ 15) && (decide (keys.length = values.length) && (notSlice i && (chkEs N sc vs values && chkE N sc a i))))))
    | _ => false
  | .dgt ks vs a d, e => match e with
    | .Call (.Attribute (.Dict keys values _) m ap) [i, z] [] cp => decide (m = "get") && ((ap.endLine == cp.line) && (keysC ks keys && (decide ks.Nodup && (decide (0 < ks.length) && (decide (ks.length ≤ 15) && (decide (keys.length = values.length) && (notStar i && (notStar z && (chkEs N sc vs values && (chkE N sc a i && chkE N sc d z))))))))))
    | _ => false
  | .lc own tg it c el, e => match e with
    | .ListComp elt [⟨t, i, ifs, a⟩] scope _ => decide (a = 0) && (blkC N sc scope own && (notSet i && ((slT tg).all (fun j => decide (j ∈ own.map (·.2))) && (chkT N scope tg t && (chkI N sc it t i && (chkC N scope c ifs && chkE N scope el elt))))))
    | _ => false
  | .lenO i, e => match e with
    | .Call (.Name y _) [.Name x _] [] _ => decide (y = "len") && (gloB sc y && (decide (N[i]? = some x) && visB sc x))
    | _ => false
  | .idxO i k, e => match e with
    | .Subscript (.Name x _) y _ => notSlice y && (decide (N[i]? = some x) && (visB sc x && chkE N sc k y))
    | _ => false
  | .lrg a b, e => match e with
    | .Call (.Name l _) [.Call (.Name z _) [x, y] [] _] [] _ => decide (l = "list") && (gloB sc l && (decide (z = "range") && (gloB sc z && (notStar x && (notStar y && (chkE N sc a x && chkE N sc b y))))))
    | _ => false
  | .zipl a b, e => match e with
    | .Call (.Name l _) [.Call (.Name z _) [x, y] [] _] [] _ => decide (l = "list") && (gloB sc l && (decide (z = "zip") && (gloB sc z && (notStar x && (notStar y && (chkE N sc a x && chkE N sc b y))))))
    | _ => false
def chkEs (N : List Str) (sc : Scope) : IEs → List Expr → Bool
  | .nil, es => es.isEmpty
  | .cons a r, es => match es with
    | e :: es => notStar e && (chkE N sc a e && chkEs N sc r es)
    | [] => false
def chkO (N : List Str) (sc : Scope) : IO → Option Expr → Bool
  | .none, o => o.isNone
  | .some a, o => match o with
    | some e => chkE N sc a e
    | none => false
def chkC (N : List Str) (sc : Scope) : IO → List Expr → Bool
  | .none, es => es.isEmpty
  | .some a, es => match es with
    | [e] => chkE N sc a e
    | _ => false
def chkI (N : List Str) (sc : Scope) : II → Expr → Expr → Bool
  | .seq a, _, e => chkE N sc a e
  | .rng1 a, _, e => match e with
    | .Call (.Name y _) [x] [] _ => decide (y = "range") && (gloB sc y && (notStar x && chkE N sc a x))
    | _ => false
  | .rng2 a b, _, e => match e with
    | .Call (.Name y _) [x, z] [] _ => decide (y = "range") && (gloB sc y && (notStar x && (notStar z && (chkE N sc a x && chkE N sc b z))))
    | _ => false
  | .zip a b, t, e => match e with
    | .Call (.Name y _) [x, z] [] _ => isTup t && (decide (y = "zip") && (gloB sc y && (notStar x && (notStar z && (chkE N sc a x && chkE N sc b z)))))
    | _ => false
  | .enu a, t, e => match e with
    | .Call (.Name y _) [x] [] _ => isTup t && (decide (y = "enumerate") && (gloB sc y && (notStar x && chkE N sc a x)))
    | _ => false
end

structure Gam where
  call : Str → Fn → Prop
  glo : Str → D → Prop
  free : Str → Prop
mutual
def HypE (Γ : Gam) : IE → Prop
  | .var _ => True
  | .int _ => True
  | .str _ => True
  | .bl _ => True
  | .non => True
  | .glo x d => Γ.glo x d
  | .tup es => HypEs Γ es
  | .lst es => HypEs Γ es
  | .bin _ a b => HypE Γ a ∧ HypE Γ b
  | .neg a => HypE Γ a
  | .cmp _ a b => HypE Γ a ∧ HypE Γ b
  | .chn _ _ a b c => HypE Γ a ∧ HypE Γ b ∧ HypE Γ c
  | .and a b => HypE Γ a ∧ HypE Γ b
  | .or a b => HypE Γ a ∧ HypE Γ b
  | .not a => HypE Γ a
  | .idx a b => HypE Γ a ∧ HypE Γ b
  | .slc a lo hi => HypE Γ a ∧ HypO Γ lo ∧ HypO Γ hi
  | .rev a => HypE Γ a
  | .alt a lo => HypE Γ a ∧ HypO Γ lo
  | .call x m es => Γ.call x m ∧ HypEs Γ es
  | .bi b es => Γ.free (biName b) ∧ HypEs Γ es
  | .isi T a => Γ.free "isinstance" ∧ Γ.free (Str.ofString T) ∧ HypE Γ a
  | .neO _ => True
  | .dix _ vs a => HypEs Γ vs ∧ HypE Γ a
  | .dgt _ vs a d => HypEs Γ vs ∧ HypE Γ a ∧ HypE Γ d
  | .lc _ _ it c e => HypI Γ it ∧ HypO Γ c ∧ HypE Γ e
  | .lenO _ => Γ.free "len"
  | .idxO _ e => HypE Γ e
  | .lrg a b => Γ.free "list" ∧ Γ.free "range" ∧ HypE Γ a ∧ HypE Γ b
  | .zipl a b => Γ.free "list" ∧ Γ.free "zip" ∧ HypE Γ a ∧ HypE Γ b
def HypEs (Γ : Gam) : IEs → Prop
  | .nil => True
  | .cons e r => HypE Γ e ∧ HypEs Γ r
def HypO (Γ : Gam) : IO → Prop
  | .none => True
  | .some e => HypE Γ e
def HypI (Γ : Gam) : II → Prop
  | .seq e => HypE Γ e
  | .rng1 e => Γ.free "range" ∧ HypE Γ e
  | .rng2 a b => Γ.free "range" ∧ HypE Γ a ∧ HypE Γ b
  | .zip a b => Γ.free "zip" ∧ HypE Γ a ∧ HypE Γ b
  | .enu a => Γ.free "enumerate" ∧ HypE Γ a
end
/-- a def's promise -/
def spOf (K : PySem.W.Frag) (mg : Str → Option Value) (m : Fn) : Sp := fun vs H Q E => ∃ G ds, Sub G H ∧ RpAll K G vs ds ∧ PostE K mg E (m ds) G H Q
structure GoodFn (P : Program) (w : World) (K : PySem.W.Frag) (mg : Str → Option Value) (base : Heap) (k : Nat) (x : Str) (m : Fn) : Prop where
  ex : ∃ f fd ps, mg x = some (.ref f) ∧ PySem.W.keepIn K (.ref f) = true ∧ Binds K fd ps [] ∧ FnOk P w K mg base (L2.CX P w) k f fd ps (spOf K mg m)
theorem GoodFn.mono {P : Program} {w : World} {K : PySem.W.Frag} {mg : Str → Option Value} {base : Heap} {j k : Nat} {x : Str} {m : Fn} (h : GoodFn P w K mg base j x m) (l : j ≤ k) : GoodFn P w K mg base k x m := by
  obtain ⟨f, fd, ps, h1, h2, h3, h4⟩ := h.ex
  exact ⟨f, fd, ps, h1, h2, h3, h4.mono l⟩
def GloOk (K : PySem.W.Frag) (mg : Str → Option Value) (x : Str) (d : D) : Prop := ∃ u v, mg x = some u ∧ RelV v u ∧ ∀ G, Rp K G v d
/-- a class of refusals -/
def ExcF (K : PySem.W.Frag) (mg : Str → Option Value) (x : Str) : Prop := ∃ C, mg x = some (.ref C) ∧ PySem.W.excIn K C [.type "ValueError", .type "Exception", .type "BaseException", .type "object"] "ValueError.__new__" = true ∧ PySem.W.keepIn K (.ref C) = true ∧ PySem.W.subIn K (.ref C) (.type "BaseException") = some true ∧ PySem.W.typeIn K (.ref C) = some (.type "type")
def ExmF (K : PySem.W.Frag) (mg : Str → Option Value) (x y : Str) (b : Bool) : Prop := ∃ C D, mg x = some (.ref C) ∧ mg y = some (.ref D) ∧ PySem.W.exmOne K (.ref C) (.ref D) = some b
def gam (P : Program) (w : World) (K : PySem.W.Frag) (mg : Str → Option Value) (base : Heap) (k : Nat) : Gam := ⟨fun x m => GoodFn P w K mg base k x m, fun x d => GloOk K mg x d, fun x => mg x = none⟩
abbrev gamX (X : Cx) (k : Nat) : Gam := gam X.prog X.w X.K X.mg X.base k
/-- what statements lean on -/
structure GamS where
  g : Gam
  lam : Prop
  low : IE → Prop
  exc : Str → Prop
  exm : Str → Str → Bool → Prop
def gamS (P : Program) (w : World) (K : PySem.W.Frag) (mg : Str → Option Value) (base : Heap) (k : Nat) (L : Prop) : GamS := ⟨gam P w K mg base k, L, fun e => HypE (gam P w K mg base (k - 2)) e, fun x => ExcF K mg x, fun x y b => ExmF K mg x y b⟩
abbrev gamSX (X : Cx) (k : Nat) (L : Prop) : GamS := gamS X.prog X.w X.K X.mg X.base k L

structure Cok (X : Cx) (N : List Str) (sc : Scope) (k : Nat) (EX : XK) : Prop where
  N : X.N = N
  nd : X.N.Nodup
  kind : X.env.scope.kind = .function
  nm : ∀ x kd, sc.names.lookup x = some kd → ∃ kd', X.env.scope.names.lookup x = some kd' ∧ (kd' = kd ∨ (kd = .free ∧ kd' = .cell))
  calm : X.calm = true
  room : Room k X.A
  po : PassesOwn (model X.prog X.w) X.A X.env X.xe
  tk : Takes X (fun cls d _ H => EX cls d H)
  stn : ∀ x, locB sc x = true → X.fn x = true ∨ X.env.scope.names.lookup x = some .local
section
variable {X : Cx} {N : List Str} {sc : Scope} {k : Nat} {EX : XK}
theorem plain1 {x : Str} (h : plainN x = true) : (x == ("__debug__" : Str)) = false := by
  unfold plainN at h
  rw [Bool.and_eq_true] at h
  simpa using h.1
theorem plain2 {x : Str} (h : plainN x = true) : (x == ("__classdict__" : Str)) = false := by
  unfold plainN at h
  rw [Bool.and_eq_true] at h
  simpa using h.2
theorem Cok.vis (o : Cok X N sc k EX) {x : Str} (h : visB sc x = true) : Vis X.env.scope x ∧ plainN x = true := by
  unfold visB at h
  rw [Bool.and_eq_true] at h
  refine ⟨?_, h.1⟩
  have h2 := h.2
  split at h2
  · rename_i e
    obtain ⟨kd, e1, e2⟩ := o.nm _ _ e
    rcases e2 with rfl | ⟨q, _⟩
    · exact .inl e1
    · cases q
  · rename_i e
    obtain ⟨kd, e1, e2⟩ := o.nm _ _ e
    rcases e2 with rfl | ⟨q, _⟩
    · exact .inr (.inl e1)
    · cases q
  · rename_i e
    obtain ⟨kd, e1, e2⟩ := o.nm _ _ e
    rcases e2 with rfl | ⟨_, rfl⟩
    · exact .inr (.inr e1)
    · exact .inr (.inl e1)
  · cases h2
theorem Cok.loc (o : Cok X N sc k EX) {x : Str} (h : locB sc x = true) : Loc X.env.scope x := by
  unfold locB at h
  split at h
  · rename_i e
    obtain ⟨kd, e1, e2⟩ := o.nm _ _ e
    rcases e2 with rfl | ⟨q, _⟩
    · exact .inl e1
    · cases q
  · rename_i e
    obtain ⟨kd, e1, e2⟩ := o.nm _ _ e
    rcases e2 with rfl | ⟨q, _⟩
    · exact .inr e1
    · cases q
  · cases h
theorem Cok.gl (o : Cok X N sc k EX) {x : Str} (h : gloB sc x = true) : Gl X x ∧ plainN x = true := by
  unfold gloB at h
  rw [Bool.and_eq_true] at h
  refine ⟨?_, h.1⟩
  have h2 := h.2
  split at h2
  · rename_i e
    obtain ⟨kd, e1, e2⟩ := o.nm _ _ e
    rcases e2 with rfl | ⟨q, _⟩
    · exact e1
    · cases q
  · cases h2
theorem star_cons {e : Expr} {es : List Expr} {env : PySem.Env} (h : notStar e = true) : starEach (e :: es) env = (false, eval e env) :: starEach es env := by
  cases e <;> first | rfl | cases h
def noStars (es : List Expr) : Bool := es.all notStar
theorem back_plain {pos : Pos} {env : PySem.Env} : ∀ {es : List Expr}, noStars es = true → (backTo pos (starEach es env)).any (·.1) = false
  | [], _ => rfl
  | e :: es, h => by
    unfold noStars at h
    rw [List.all_cons, Bool.and_eq_true] at h
    rw [star_cons h.1]
    have ih := back_plain (pos := pos) (env := env) (es := es) h.2
    unfold backTo at ih ⊢
    rw [List.map_cons, List.any_cons, ih]
    rfl
theorem fold_plain {e : Expr} {env : PySem.Env} (h : notSet e = true) : ∀ x, foldedSetIterable e env x = pure x := by
  intro x
  cases e <;> first | rfl | cases h
theorem mark_plain {op : CmpOp} {e : Expr} (h : notSet e = true) : behindInMarks op e = false := by
  cases e <;> first | rfl | cases h
theorem plain_ix {e : Expr} (h : notSlice e = true) : PlainIx e := by
  intro o i
  cases e <;> first | rfl | cases h
theorem chk_stars {es : IEs} : ∀ {xs : List Expr}, chkEs N sc es xs = true → noStars xs = true := by
  intro xs h
  induction xs generalizing es with
  | nil => rfl
  | cons x xs ih =>
    cases es with
    | nil => cases h
    | cons a r =>
      have h1 : (notStar x && (chkE N sc a x && chkEs N sc r xs)) = true := by simpa only [chkEs] using h
      rw [Bool.and_eq_true, Bool.and_eq_true] at h1
      show (notStar x && noStars xs) = true
      rw [h1.1, ih h1.2.2]; rfl
end
end Rf
namespace Rf
open PySem PySem.Spec PyProof.Rows L2

theorem lookup_relabel {env : PySem.Env} : ∀ {names : List (Str × NameKind)} {x : Str} {kd : NameKind}, names.lookup x = some kd →
    ∃ kd', (names.map fun (n, k) => if (k == NameKind.free && env.scope.kind == .function && env.kindOf n == some .cell) then (n, NameKind.cell) else (n, k)).lookup x = some kd' ∧ (kd' = kd ∨ (kd = .free ∧ kd' = .cell))
  | [], _, _, h => by simp at h
  | (n, k) :: r, x, kd, h => by
    have ih := @lookup_relabel env r x kd
    show ∃ kd', List.lookup x ((if (k == NameKind.free && env.scope.kind == .function && env.kindOf n == some .cell) = true then (n, NameKind.cell) else (n, k)) :: _) = some kd' ∧ _
    cases hx : x == n with
    | true =>
      simp only [List.lookup_cons, hx] at h
      cases h
      by_cases hc : (k == NameKind.free && env.scope.kind == .function && env.kindOf n == some .cell) = true
      · refine ⟨.cell, ?_, .inr ⟨?_, rfl⟩⟩
        · rw [if_pos hc]; simp [List.lookup_cons, hx]
        · rw [Bool.and_eq_true, Bool.and_eq_true] at hc
          exact eq_of_beq hc.1.1
      · refine ⟨k, ?_, .inl rfl⟩
        rw [if_neg hc]; simp [List.lookup_cons, hx]
    | false =>
      simp only [List.lookup_cons, hx] at h
      obtain ⟨kd', e1, e2⟩ := ih h
      refine ⟨kd', ?_, e2⟩
      by_cases hc : (k == NameKind.free && env.scope.kind == .function && env.kindOf n == some .cell) = true
      · rw [if_pos hc]; simp only [List.lookup_cons, hx]; exact e1
      · rw [if_neg hc]; simp only [List.lookup_cons, hx]; exact e1
section
variable {X : Cx} {N : List Str} {sc scope : Scope} {k : Nat} {EX : XK}
theorem Cok.blkOk (o : Cok X N sc k EX) {own : List (Str × Nat)} (h : blkC N sc scope own = true) : BlkOk X.N X.env.scope scope own := by
  have b := blkOk_by h
  refine ⟨b.kind, b.uniq, by rw [o.N]; exact b.ix, fun y hy e => ?_, by rw [o.N]; exact b.own⟩
  rcases b.free y hy e with q | q
  · obtain ⟨kd, e1, e2⟩ := o.nm _ _ q
    rcases e2 with rfl | ⟨z, _⟩
    · exact .inl e1
    · cases z
  · obtain ⟨kd, e1, e2⟩ := o.nm _ _ q
    rcases e2 with rfl | ⟨_, rfl⟩
    · exact .inr e1
    · exact .inl e1
theorem Cok.blk (o : Cok X N sc k EX) {own : List (Str × Nat)} (h : blkC N sc scope own = true) (s : Shared) (H : Hp) (C : Addr) (cl : List (Str × Addr)) (fp : List Addr) :
    Cok (X.blk s H scope (compEnvC scope cl C X.env) fp) N scope k (fun _ _ _ => False) := by
  have b := blkOk_by h
  refine ⟨o.N, o.nd, b.kind, fun x kd e => ?_, o.calm, o.room, PassesOwn.never, ?_, fun x e => ?_⟩
  · exact lookup_relabel (env := X.env) e
  · intro u s' ⟨_, _, _, _, _, _, _, _, _, _, _, _, _, _, _, _, w⟩
    exact w
  · unfold locB at e
    split at e
    · rename_i q
      exact .inr (lookup_relabel_local (env := X.env) q)
    · rename_i q
      left
      show (scope.names.lookup x == some .cell) = true
      rw [q]; rfl
    · cases e
end

/-- a target's reading -/
def rdG (K : PySem.W.Frag) (G0 H0 : Hp) (t : IT) : TG := fun v σ H Q => ∃ ρ G d, Stt K G0 H0 ρ σ G H ∧ Rp K G v d ∧ match asT t d ρ with
  | .ok ρ' => ∀ σ', Stt K G0 H0 ρ' σ' G H → (∀ j, j ∉ slT t → σ'[j]? = σ[j]?) → Q σ' H
  | _ => False
def rdGs (K : PySem.W.Frag) (G0 H0 : Hp) (t : ITs) : TGs := fun vs σ H Q => ∃ ρ G ds, Stt K G0 H0 ρ σ G H ∧ RpAll K G vs ds ∧ match asTs t ds ρ with
  | .ok ρ' => ∀ σ', Stt K G0 H0 ρ' σ' G H → (∀ j, j ∉ slTs t → σ'[j]? = σ[j]?) → Q σ' H
  | _ => False
theorem _root_.L2.PG.or {X : Cx} {e : Expr} {t u : TG} (h : PG X e t) (h' : PG X e u) : PG X e (fun v σ H Q => t v σ H Q ∨ u v σ H Q) := ⟨fun pins s σ H v w Q I r q => by
  rcases q with q | q
  · exact h.run pins s σ H v w Q I r q
  · exact h'.run pins s σ H v w Q I r q⟩
theorem chkTs_len {N : List Str} {sc : Scope} : ∀ {ts : ITs} {es : List Expr} {ds : List D} {ρ ρ' : Env}, chkTs N sc ts es = true → asTs ts ds ρ = .ok ρ' → ds.length = es.length
  | .nil, [], [], _, _, _, _ => rfl
  | .nil, [], _ :: _, _, _, _, h => by simp [asTs] at h
  | .nil, _ :: _, _, _, _, h, _ => by simp [chkTs] at h
  | .cons _ _, [], _, _, _, h, _ => by simp [chkTs] at h
  | .cons _ _, _ :: _, [], _, _, _, h => by simp [asTs] at h
  | .cons t r, e :: es, d :: ds, ρ, ρ', h, h' => by
    simp only [chkTs, Bool.and_eq_true] at h
    simp only [asTs] at h'
    cases q : asT t d ρ with
    | no => rw [q] at h'; cases h'
    | er x => rw [q] at h'; cases h'
    | ok ρ1 =>
      rw [q] at h'
      have := chkTs_len h.2 h'
      simp [this]
theorem each_len {env : PySem.Env} : ∀ {es : List Expr}, es.all notStar = true → (assignEach es env).length = es.length ∧ (assignEach es env).findIdx? (·.1) = none
  | [], _ => ⟨rfl, rfl⟩
  | e :: es, h => by
    rw [List.all_cons, Bool.and_eq_true] at h
    obtain ⟨h1, h2⟩ := each_len (env := env) h.2
    have q : assignEach (e :: es) env = (false, assign e env) :: assignEach es env := by
      have := h.1
      cases e <;> first | rfl | cases this
    rw [q]
    refine ⟨by simp [h1], ?_⟩
    rw [List.findIdx?_cons]
    simp [h2]
theorem each_cons {env : PySem.Env} {e : Expr} {es : List Expr} (h : notStar e = true) : (assignEach (e :: es) env).map (·.2) = assign e env :: (assignEach es env).map (·.2) := by
  cases e <;> first | rfl | cases h
theorem chkTs_stars {N : List Str} {sc : Scope} : ∀ {ts : ITs} {es : List Expr}, chkTs N sc ts es = true → es.all notStar = true
  | .nil, [], _ => rfl
  | .nil, _ :: _, h => by simp [chkTs] at h
  | .cons _ _, [], h => by simp [chkTs] at h
  | .cons t r, e :: es, h => by
    simp only [chkTs, Bool.and_eq_true] at h
    rw [List.all_cons, h.1.1, chkTs_stars h.2]; rfl
mutual
theorem sndT {N : List Str} {k : Nat} : ∀ (t : IT) (X : Cx) (sc : Scope) (EX : XK) (e : Expr), Cok X N sc k EX → chkT N sc t e = true → ∀ G0 H0, PG X e (rdG X.K G0 H0 t)
  | .nm i, X, sc, EX, e, o, h, G0, H0 => by
    simp only [chkT] at h
    split at h
    · rename_i x pos
      rw [Bool.and_eq_true, decide_eq_true_eq] at h
      refine PG.imp (pg_name (i := i) o.nd (by rw [o.N]; exact h.1) (o.loc h.2) (o.stn _ h.2)) fun v σ H Q q => ?_
      obtain ⟨ρ, G, d, st, r, q⟩ := q
      simp only [asT] at q
      exact q _ (st.setIm r i) fun j hj => by
        have : i ≠ j := fun e => hj (by simp [slT, e])
        rw [List.getElem?_set_ne this]
    · cases h
  | .tu ts, X, sc, EX, e, o, h, G0, H0 => by
    simp only [chkT] at h
    split at h
    · rename_i es kk pos
      have hl := each_len (env := X.env) (chkTs_stars h)
      have hs := sndTs ts X sc EX es o h G0 H0
      refine PG.imp (PG.or (pg_tup (n := es.length) o.calm hs hl.1 hl.2) (pg_lst (n := es.length) o.calm hs hl.1 hl.2)) fun v σ H Q q => ?_
      obtain ⟨ρ, G, d, st, r, q⟩ := q
      cases r <;> first | exact False.elim q | skip
      · rename_i a xs ds ha hds
        refine .inr ⟨a, xs, rfl, (st.subG.ls ha).sq, ?_, ρ, G, ds, st, hds, ?_⟩
        · have q1 : (match asTs ts ds ρ with | .ok ρ' => ∀ σ', Stt X.K G0 H0 ρ' σ' G H → (∀ j, j ∉ slT (.tu ts) → σ'[j]? = σ[j]?) → Q σ' H | _ => False) := q
          split at q1
          · rename_i ρ' e; rw [hds.length]; exact chkTs_len h e
          · exact q1.elim
        · exact q
      · rename_i a xs ds ha hds
        refine .inl ⟨a, xs, rfl, st.subG.sqT ha, ?_, ρ, G, ds, st, hds, ?_⟩
        · have q1 : (match asTs ts ds ρ with | .ok ρ' => ∀ σ', Stt X.K G0 H0 ρ' σ' G H → (∀ j, j ∉ slT (.tu ts) → σ'[j]? = σ[j]?) → Q σ' H | _ => False) := q
          split at q1
          · rename_i ρ' e; rw [hds.length]; exact chkTs_len h e
          · exact q1.elim
        · exact q
    · cases h
theorem sndTs {N : List Str} {k : Nat} : ∀ (t : ITs) (X : Cx) (sc : Scope) (EX : XK) (es : List Expr), Cok X N sc k EX → chkTs N sc t es = true → ∀ G0 H0, PGs X es (rdGs X.K G0 H0 t)
  | .nil, X, sc, EX, [], o, h, G0, H0 => ⟨fun pins s σ H vs us Q I r q => by
      obtain ⟨ρ, G, ds, st, rp, q⟩ := q
      refine pgs_nil.run pins s σ H vs us Q I r ?_
      cases rp with
      | nil => exact ⟨rfl, q σ st fun _ _ => rfl⟩
      | cons a b => exact False.elim q⟩
  | .nil, X, sc, EX, _ :: _, o, h, G0, H0 => by simp [chkTs] at h
  | .cons t r, X, sc, EX, [], o, h, G0, H0 => by simp [chkTs] at h
  | .cons t r, X, sc, EX, e :: es, o, h, G0, H0 => by
    simp only [chkTs, Bool.and_eq_true] at h
    have h1 := sndT t X sc EX e o h.1.2 G0 H0
    have h2 := sndTs r X sc EX es o h.2 G0 H0
    refine ⟨fun pins s σ H vs us Q I rv q => ?_⟩
    refine (pgs_cons h1 h2 (each_cons h.1.1)).run pins s σ H vs us Q I rv ?_
    obtain ⟨ρ, G, ds, st, rp, q⟩ := q
    cases rp with
    | nil => exact False.elim q
    | cons a b =>
      rename_i v vs d ds
      refine ⟨v, vs, rfl, ρ, G, d, st, a, ?_⟩
      simp only [asTs] at q
      cases e1 : asT t d ρ with
      | no => rw [e1] at q; exact q.elim
      | er x => rw [e1] at q; exact q.elim
      | ok ρ1 =>
        rw [e1] at q
        intro σ1 st1 sm
        refine ⟨ρ1, G, ds, st1, b, ?_⟩
        have q1 : (match asTs r ds ρ1 with | .ok ρ' => ∀ σ', Stt X.K G0 H0 ρ' σ' G H → (∀ j, j ∉ slTs (.cons t r) → σ'[j]? = σ[j]?) → Q σ' H | _ => False) := q
        cases e2 : asTs r ds ρ1 with
        | no => rw [e2] at q1; exact q1.elim
        | er x => rw [e2] at q1; exact q1.elim
        | ok ρ2 =>
          rw [e2] at q1
          intro σ2 st2 sm2
          exact q1 σ2 st2 fun j hj => by
            simp only [slTs, List.mem_append, not_or] at hj
            rw [sm2 j hj.2, sm j hj.1]
end
end Rf
namespace Rf
open PySem PySem.Spec PyProof.Rows L2

def plainTest : Expr → Bool
  | .UnaryOp .Not _ _ => false
  | .BoolOp _ _ _ => false
  | .IfExp _ _ _ _ => false
  | .Compare _ _ _ _ => false
  | _ => true
theorem isTrue_plain {e : Expr} {env : PySem.Env} (h : plainTest e = true) : ∀ whole, isTrue e env whole = (do let v ← whole; standAt e.pos; holding [v] (truthy v)) := by
  intro whole
  cases e with
  | UnaryOp op x p => cases op <;> first | rfl | cases h
  | BoolOp a b c => cases h
  | IfExp a b c d => cases h
  | Compare a b c d => cases h
  | _ => rfl
def isBoolOp : Expr → Bool
  | .BoolOp _ _ _ => true
  | _ => false
structure Snd (X : Cx) (EX : XK) (G0 H0 : Hp) (ρ : Env) (e : Expr) (r : Res D) : Prop where
  pe : PE X e (rdE X.K X.mg EX G0 H0 ρ r)
  pt : PT X e (rdT X.K X.mg EX G0 H0 ρ (r >>= fun x => dTru x))
  pw : isBoolOp e = true → PW X e (rdT X.K X.mg EX G0 H0 ρ (r >>= fun x => dTru x))
section
variable {X : Cx} {N : List Str} {sc : Scope} {k : Nat} {EX : XK} {G0 H0 : Hp} {ρ : Env} {e : Expr} {r : Res D}
theorem snd_of (h : PE X e (rdE X.K X.mg EX G0 H0 ρ r)) (p : plainTest e = true) : Snd X EX G0 H0 ρ e r := by
  refine ⟨h, ?_, fun b => ?_⟩
  · refine PT.imp (pt_truth h (isTrue_plain p)) fun σ H Q ⟨G, st, q⟩ => ⟨G, st, Post.bind q fun v d G1 H1 e1 r1 _ p1 => ?_⟩
    cases e2 : dTru d with
    | no => rw [e2] at p1; exact p1.elim
    | er x =>
      cases d <;> cases e2
    | ok b =>
      rw [e2] at p1
      exact ⟨b, tru_sound e1.inn r1 e2, Post.now e1.inn p1 rfl⟩
  · cases e <;> first | (cases b; done) | cases p
theorem post_bool {mg : Str → Option Value} {K : PySem.W.Frag} {r : Res D} {G H : Hp} {Q : Bool → Hp → Prop} (hb : ∀ d, r = .ok d → ∃ b, d = .bool b) (p : PostB mg EX (r >>= fun x => dTru x) G H Q) : PostE K mg EX r G H (fun x H' => ∃ k, x = .bl k ∧ Q k H') := by
  refine Post.bind p fun v d G1 H1 e1 r1 er p1 => ?_
  obtain ⟨b, rfl⟩ := hb d er
  cases r1
  exact ⟨b, rfl, Post.now e1.inn p1 rfl⟩
theorem dCmp_bool {op : CmpOp} {x y d : D} (h : dCmp op x y = .ok d) : ∃ b, d = .bool b := by
  cases op with
  | Eq =>
    have h : (if SeqAt.shaped x && SeqAt.shaped y then Res.ok (PyData.bool (PyData.eqv x y)) else .no) = .ok d := h
    split at h <;> cases h
    exact ⟨_, rfl⟩
  | NotEq =>
    have h : (if SeqAt.shaped x && SeqAt.shaped y then Res.ok (PyData.bool (!PyData.eqv x y)) else .no) = .ok d := h
    split at h <;> cases h
    exact ⟨_, rfl⟩
  | In =>
    have h : (dIn x y >>= fun k => Res.ok (PyData.bool k)) = .ok d := by cases x <;> exact h
    cases q : dIn x y with
    | no => rw [q] at h; cases h
    | er z => rw [q] at h; cases h
    | ok b => rw [q] at h; cases h; exact ⟨_, rfl⟩
  | NotIn =>
    have h : (dIn x y >>= fun k => Res.ok (PyData.bool (!k))) = .ok d := by cases x <;> exact h
    cases q : dIn x y with
    | no => rw [q] at h; cases h
    | er z => rw [q] at h; cases h
    | ok b => rw [q] at h; cases h; exact ⟨_, rfl⟩
  | _ => cases x <;> cases y <;> cases h <;> exact ⟨_, rfl⟩
theorem rd2 {ra rb : Res D} {f : D → D → Res D} {rr : R2} (hr : ∀ x y dx dy G H Q, Sub G H → Rp X.K G x dx → Rp X.K G y dy → PostE X.K X.mg EX (f dx dy) G H Q → rr x y H Q) {σ : L2.St} {H : Hp} {Q : VK}
    (q : rdE X.K X.mg EX G0 H0 ρ (ra >>= fun x => rb >>= fun y => f x y) σ H Q) : tOp rr (rdE X.K X.mg EX G0 H0 ρ ra) (rdE X.K X.mg EX G0 H0 ρ rb) σ H Q := by
  obtain ⟨G, st, p⟩ := q
  refine ⟨G, st, Post.bind p fun x dx G1 H1 e1 r1 _ p1 => ⟨G1, st.mono e1, Post.bind p1 fun y dy G2 H2 e2 r2 _ p2 => hr _ _ _ _ G2 H2 Q e2.inn (e2.rp r1) r2 p2⟩⟩
theorem pass_of (o : Cok X N sc k EX) : Passes (L2.CX X.prog X.w) X EX := passes_call o.tk fun _ _ _ _ h => h
theorem pe_bi {b : Bi} {rr : List V → Hp → VK → Prop} (hc : CallR X (biVal b) rr) {a : Expr} {as : List Expr} {p pos : Pos} {t : TA} (hg : Gl X (biName b)) (hm : X.mg (biName b) = none) (ha : PA X (a :: as) t)
    (hs : notStar a = true) (hp : noStars as = true) : PE X (.Call (.Name (biName b) p) (a :: as) [] pos) (tCB rr t) := by
  cases b with
  | len => exact pe_callB hc hg hm (by decide +kernel) ha (by decide) (by decide) (star_cons hs) (back_plain hp)
  | abs => exact pe_callB hc hg hm (by decide +kernel) ha (by decide) (by decide) (star_cons hs) (back_plain hp)
  | max => exact pe_callB hc hg hm (by decide +kernel) ha (by decide) (by decide) (star_cons hs) (back_plain hp)
  | min => exact pe_callB hc hg hm (by decide +kernel) ha (by decide) (by decide) (star_cons hs) (back_plain hp)
  | all => exact pe_callB hc hg hm (by decide +kernel) ha (by decide) (by decide) (star_cons hs) (back_plain hp)
  | int => exact pe_callTy hc hg hm (by decide +kernel) ha (by decide) (by decide) (star_cons hs) (back_plain hp)
  | list => exact pe_callTy hc hg hm (by decide +kernel) ha (by decide) (by decide) (star_cons hs) (back_plain hp)
  | tuple => exact pe_callTy hc hg hm (by decide +kernel) ha (by decide) (by decide) (star_cons hs) (back_plain hp)
  | str => exact pe_callTy hc hg hm (by decide +kernel) ha (by decide) (by decide) (star_cons hs) (back_plain hp)
end
/-- J walks things that stand for ds -/
def Walks (K : PySem.W.Frag) (G1 : Hp) (J : It) (ds : List D) : Prop := ∀ (G H : Hp) (i : Nat), Sub G1 G → Sub G H →
  (∀ d, ds[i]? = some d → J.go i H ∧ ∀ x H', J.yld i H x H' → ∃ G', Ext G H G' H' ∧ Rp K G' x d) ∧ (ds.length ≤ i → J.stop i H)
def rdI (K : PySem.W.Frag) (mg : Str → Option Value) (EX : XK) (G0 H0 : Hp) (ρ : Env) (r : Res (List D)) : TI := fun σ H R => ∃ G, Stt K G0 H0 ρ σ G H ∧ Post mg EX (fun G J ds => Walks K G J ds) r G H R
theorem walks_list {K : PySem.W.Frag} {G1 : Hp} {a : Addr} {xs : List V} {ds : List D} (ha : LsR K G1 a xs) (h : RpAll K G1 xs ds) : Walks K G1 (Itl K a) ds := fun G H i s1 s2 => by
  have hq : SqL K H a xs := (s2.ls (s1.ls ha)).sq
  refine ⟨fun d hd => ?_, fun hl => ⟨xs, hq, by rw [h.length]; exact hl⟩⟩
  obtain ⟨v, e, r⟩ := h.get hd
  refine ⟨⟨xs, v, hq, e⟩, fun x H' y => ?_⟩
  obtain ⟨rfl, y⟩ := y
  have := y xs hq
  rw [e] at this
  cases this
  exact ⟨G, .refl s2, s1.rp r⟩
theorem walks_tup {K : PySem.W.Frag} {G1 : Hp} {a : Addr} {xs : List V} {ds : List D} (ha : SqT K G1 a xs) (h : RpAll K G1 xs ds) : Walks K G1 (Itt K a) ds := fun G H i s1 s2 => by
  have hq : SqT K H a xs := s2.sqT (s1.sqT ha)
  refine ⟨fun d hd => ?_, fun hl => ⟨xs, hq, by rw [h.length]; exact hl⟩⟩
  obtain ⟨v, e, r⟩ := h.get hd
  refine ⟨⟨xs, v, hq, e⟩, fun x H' y => ?_⟩
  obtain ⟨rfl, y⟩ := y
  have := y xs hq
  rw [e] at this
  cases this
  exact ⟨G, .refl s2, s1.rp r⟩
theorem upto_get {n : Nat} {lo : Int} {i : Nat} {d : D} (h : (upto n lo)[i]? = some d) : i < n ∧ d = .int (lo + i) := by
  unfold upto at h
  rw [List.getElem?_map] at h
  by_cases hi : i < n
  · rw [List.getElem?_range hi] at h
    cases h
    exact ⟨hi, rfl⟩
  · rw [List.getElem?_eq_none (by simp; omega)] at h
    cases h
theorem walks_rng {K : PySem.W.Frag} {G1 : Hp} (lo : Int) (n : Nat) : Walks K G1 (Itr lo n) (upto n lo) := fun G H i s1 s2 => by
  refine ⟨fun d hd => ?_, fun hl => ?_⟩
  · obtain ⟨hi, rfl⟩ := upto_get hd
    refine ⟨hi, fun x H' y => ?_⟩
    obtain ⟨rfl, rfl⟩ := y
    exact ⟨G, .refl s2, .int _⟩
  · show n ≤ i
    simpa [upto] using hl
theorem pairs_get : ∀ {xs ys : List D} {i : Nat} {d : D}, (pairs xs ys)[i]? = some d → ∃ x y, xs[i]? = some x ∧ ys[i]? = some y ∧ d = .tuple [x, y]
  | [], _, _, _, h => by simp [pairs] at h
  | _ :: _, [], _, _, h => by simp [pairs] at h
  | x :: xs, y :: ys, 0, d, h => by
    simp [pairs] at h
    exact ⟨x, y, rfl, rfl, h.symm⟩
  | x :: xs, y :: ys, i + 1, d, h => by
    simp only [pairs, List.getElem?_cons_succ] at h
    obtain ⟨a, b, h1, h2, h3⟩ := pairs_get h
    exact ⟨a, b, by simpa using h1, by simpa using h2, h3⟩
theorem pairs_len : ∀ {xs ys : List D}, (pairs xs ys).length = min xs.length ys.length
  | [], _ => by simp [pairs]
  | _ :: _, [] => by simp [pairs]
  | x :: xs, y :: ys => by simp [pairs, pairs_len]
theorem walks_zipL {K : PySem.W.Frag} {G1 : Hp} {a b : Addr} {xs ys : List V} {ds es : List D} (ha : LsR K G1 a xs) (h : RpAll K G1 xs ds) (hb : LsR K G1 b ys) (h' : RpAll K G1 ys es) : Walks K G1 (Itz K a b) (pairs ds es) := fun G H i s1 s2 => by
  have hq : SqL K H a xs := (s2.ls (s1.ls ha)).sq
  have hq' : SqL K H b ys := (s2.ls (s1.ls hb)).sq
  refine ⟨fun d hd => ?_, fun hl => ⟨xs, ys, hq, hq', ?_⟩⟩
  · obtain ⟨x, y, e1, e2, rfl⟩ := pairs_get hd
    obtain ⟨v, f1, r1⟩ := h.get e1
    obtain ⟨u, f2, r2⟩ := h'.get e2
    refine ⟨⟨xs, ys, v, u, hq, hq', f1, f2⟩, fun z H' q => ?_⟩
    obtain ⟨T, x1, y1, rfl, n, rfl, q1, q2⟩ := q
    have w1 := q1 xs hq
    have w2 := q2 ys hq'
    rw [f1] at w1
    rw [f2] at w2
    cases w1
    cases w2
    have sg := Sub.updF (HO.tup [v, u]) (s2.none n)
    exact ⟨_, .new s2 n _, .tup (.inl (.inl upd_same)) (.cons (sg.rp (s1.rp r1)) (.cons (sg.rp (s1.rp r2)) .nil))⟩
  · rw [pairs_len] at hl
    rw [h.length, h'.length]
    omega
theorem walks_zipT {K : PySem.W.Frag} {G1 : Hp} {a b : Addr} {xs ys : List V} {ds es : List D} (ha : SqT K G1 a xs) (h : RpAll K G1 xs ds) (hb : SqT K G1 b ys) (h' : RpAll K G1 ys es) : Walks K G1 (RZ.ItzT K a b) (pairs ds es) := fun G H i s1 s2 => by
  have hq : SqT K H a xs := s2.sqT (s1.sqT ha)
  have hq' : SqT K H b ys := s2.sqT (s1.sqT hb)
  refine ⟨fun d hd => ?_, fun hl => ⟨xs, ys, hq, hq', ?_⟩⟩
  · obtain ⟨x, y, e1, e2, rfl⟩ := pairs_get hd
    obtain ⟨v, f1, r1⟩ := h.get e1
    obtain ⟨u, f2, r2⟩ := h'.get e2
    refine ⟨⟨xs, ys, v, u, hq, hq', f1, f2⟩, fun z H' q => ?_⟩
    obtain ⟨T, x1, y1, rfl, n, rfl, q1, q2⟩ := q
    have w1 := q1 xs hq
    have w2 := q2 ys hq'
    rw [f1] at w1
    rw [f2] at w2
    cases w1
    cases w2
    have sg := Sub.updF (HO.tup [v, u]) (s2.none n)
    exact ⟨_, .new s2 n _, .tup (.inl (.inl upd_same)) (.cons (sg.rp (s1.rp r1)) (.cons (sg.rp (s1.rp r2)) .nil))⟩
  · rw [pairs_len] at hl
    rw [h.length, h'.length]
    omega
theorem count_get : ∀ {xs : List D} {n : Int} {i : Nat} {d : D}, (count n xs)[i]? = some d → ∃ x, xs[i]? = some x ∧ d = .tuple [.int (n + i), x]
  | [], _, _, _, h => by simp [count] at h
  | x :: xs, n, 0, d, h => by
    simp [count] at h
    exact ⟨x, rfl, by rw [← h]; simp⟩
  | x :: xs, n, i + 1, d, h => by
    simp only [count, List.getElem?_cons_succ] at h
    obtain ⟨a, h1, h3⟩ := count_get h
    refine ⟨a, by simpa using h1, ?_⟩
    rw [h3, show n + 1 + (i : Int) = n + ((i + 1 : Nat) : Int) by omega]
theorem count_len : ∀ {xs : List D} {n : Int}, (count n xs).length = xs.length
  | [], _ => rfl
  | x :: xs, n => by simp [count, count_len]
theorem walks_enumL {K : PySem.W.Frag} {G1 : Hp} {a : Addr} {xs : List V} {ds : List D} (ha : LsR K G1 a xs) (h : RpAll K G1 xs ds) : Walks K G1 (Ite K a) (count 0 ds) := fun G H i s1 s2 => by
  have hq : SqL K H a xs := (s2.ls (s1.ls ha)).sq
  refine ⟨fun d hd => ?_, fun hl => ⟨xs, hq, ?_⟩⟩
  · obtain ⟨x, e1, rfl⟩ := count_get hd
    obtain ⟨v, f1, r1⟩ := h.get e1
    refine ⟨⟨xs, v, hq, f1⟩, fun z H' q => ?_⟩
    obtain ⟨T, x1, rfl, n, rfl, q1⟩ := q
    have w1 := q1 xs hq
    rw [f1] at w1
    cases w1
    have sg := Sub.updF (HO.tup [V.int (i : Nat), v]) (s2.none n)
    have e0 : (0 : Int) + (i : Int) = ((i : Nat) : Int) := by omega
    rw [e0]
    exact ⟨_, .new s2 n _, .tup (.inl (.inl upd_same)) (.cons (.int _) (.cons (sg.rp (s1.rp r1)) .nil))⟩
  · rw [count_len] at hl
    rw [h.length]
    exact hl
end Rf
namespace Rf
open PySem PySem.Spec PyProof.Rows L2
section
variable {X : Cx} {N : List Str} {sc : Scope} {k : Nat} {EX : XK} {G0 H0 : Hp} {ρ : Env} {σ : L2.St} {H : Hp} {Q : VK}
theorem rdE_now {d : D} {v : V} (q : rdE X.K X.mg EX G0 H0 ρ (.ok d) σ H Q) (h : ∀ G, Rp X.K G v d) : Q v H := by
  obtain ⟨G, st, p⟩ := q
  exact Post.now st.subG p (h G)
theorem tru_er {d : D} {x : Str} (h : dTru d = .er x) : False := by cases d <;> cases h
theorem and_pe {ra rb : Res D} (q : rdE X.K X.mg EX G0 H0 ρ (ra >>= fun x => dAnd x rb) σ H Q) :
    tAndT X.K (rdE X.K X.mg EX G0 H0 ρ ra) (rdE X.K X.mg EX G0 H0 ρ rb) σ H Q := by
  obtain ⟨G, st, p⟩ := q
  refine ⟨G, st, Post.bind p fun v d G1 H1 e1 r1 er p1 => ?_⟩
  unfold dAnd at p1
  cases e2 : dTru d with
  | no => rw [e2] at p1; exact p1.elim
  | er x => exact (tru_er e2).elim
  | ok k =>
    rw [e2] at p1
    cases k
    · refine ⟨false, tru_sound e1.inn r1 e2, ?_⟩
      rw [if_neg (by decide)]
      exact Post.now e1.inn p1 r1
    · refine ⟨true, tru_sound e1.inn r1 e2, ?_⟩
      rw [if_pos rfl]
      exact ⟨G1, st.mono e1, p1⟩
theorem or_pe {ra rb : Res D} (q : rdE X.K X.mg EX G0 H0 ρ (ra >>= fun x => dOr x rb) σ H Q) :
    tOrT X.K (rdE X.K X.mg EX G0 H0 ρ ra) (rdE X.K X.mg EX G0 H0 ρ rb) σ H Q := by
  obtain ⟨G, st, p⟩ := q
  refine ⟨G, st, Post.bind p fun v d G1 H1 e1 r1 er p1 => ?_⟩
  unfold dOr at p1
  cases e2 : dTru d with
  | no => rw [e2] at p1; exact p1.elim
  | er x => exact (tru_er e2).elim
  | ok k =>
    rw [e2] at p1
    cases k
    · refine ⟨false, tru_sound e1.inn r1 e2, ?_⟩
      rw [if_neg (by decide)]
      exact ⟨G1, st.mono e1, p1⟩
    · refine ⟨true, tru_sound e1.inn r1 e2, ?_⟩
      rw [if_pos rfl]
      exact Post.now e1.inn p1 r1
theorem and_pt {ra rb : Res D} {Q : Bool → Hp → Prop} (q : rdT X.K X.mg EX G0 H0 ρ ((ra >>= fun x => dAnd x rb) >>= fun x => dTru x) σ H Q) :
    tAnd (rdT X.K X.mg EX G0 H0 ρ (ra >>= fun x => dTru x)) (rdT X.K X.mg EX G0 H0 ρ (rb >>= fun x => dTru x)) σ H Q := by
  obtain ⟨G, st, p⟩ := q
  cases ra with
  | no => exact p.elim
  | er x => exact ⟨G, st, p⟩
  | ok d =>
    have p : PostB X.mg EX (dAnd d rb >>= fun x => dTru x) G H Q := p
    refine ⟨G, st, ?_⟩
    show PostB X.mg EX (dTru d) G H _
    unfold dAnd at p
    cases e2 : dTru d with
    | no => rw [e2] at p; exact p.elim
    | er x => exact (tru_er e2).elim
    | ok k =>
      rw [e2] at p
      cases k
      · have p : PostB X.mg EX (dTru d) G H Q := p
        rw [e2] at p
        intro b G' H' e hb
        subst hb
        rw [if_neg (by decide)]
        exact p _ G' H' e rfl
      · intro b G' H' e hb
        subst hb
        rw [if_pos rfl]
        exact ⟨G', st.mono e, Post.mono p e⟩
theorem or_pt {ra rb : Res D} {Q : Bool → Hp → Prop} (q : rdT X.K X.mg EX G0 H0 ρ ((ra >>= fun x => dOr x rb) >>= fun x => dTru x) σ H Q) :
    tOr (rdT X.K X.mg EX G0 H0 ρ (ra >>= fun x => dTru x)) (rdT X.K X.mg EX G0 H0 ρ (rb >>= fun x => dTru x)) σ H Q := by
  obtain ⟨G, st, p⟩ := q
  cases ra with
  | no => exact p.elim
  | er x => exact ⟨G, st, p⟩
  | ok d =>
    have p : PostB X.mg EX (dOr d rb >>= fun x => dTru x) G H Q := p
    refine ⟨G, st, ?_⟩
    show PostB X.mg EX (dTru d) G H _
    unfold dOr at p
    cases e2 : dTru d with
    | no => rw [e2] at p; exact p.elim
    | er x => exact (tru_er e2).elim
    | ok k =>
      rw [e2] at p
      cases k
      · intro b G' H' e hb
        subst hb
        rw [if_neg (by decide)]
        exact ⟨G', st.mono e, Post.mono p e⟩
      · have p : PostB X.mg EX (dTru d) G H Q := p
        rw [e2] at p
        intro b G' H' e hb
        subst hb
        rw [if_pos rfl]
        exact p _ G' H' e rfl
theorem not_pe {ra : Res D} (q : rdE X.K X.mg EX G0 H0 ρ (ra >>= fun x => dNot x) σ H Q) :
    tNotT X.K (rdE X.K X.mg EX G0 H0 ρ ra) σ H Q := by
  obtain ⟨G, st, p⟩ := q
  refine ⟨G, st, Post.bind p fun v d G1 H1 e1 r1 er p1 => ?_⟩
  unfold dNot at p1
  cases e2 : dTru d with
  | no => rw [e2] at p1; exact p1.elim
  | er x => exact (tru_er e2).elim
  | ok k =>
    rw [e2] at p1
    exact ⟨k, tru_sound e1.inn r1 e2, Post.now e1.inn p1 (.bl _)⟩
theorem not_pt {ra : Res D} {Q : Bool → Hp → Prop} (q : rdT X.K X.mg EX G0 H0 ρ ((ra >>= fun x => dNot x) >>= fun x => dTru x) σ H Q) :
    L2.tNot (rdT X.K X.mg EX G0 H0 ρ (ra >>= fun x => dTru x)) σ H Q := by
  obtain ⟨G, st, p⟩ := q
  cases ra with
  | no => exact p.elim
  | er x => exact ⟨G, st, p⟩
  | ok d =>
    have p : PostB X.mg EX (dNot d >>= fun x => dTru x) G H Q := p
    refine ⟨G, st, ?_⟩
    show PostB X.mg EX (dTru d) G H _
    unfold dNot at p
    cases e2 : dTru d with
    | no => rw [e2] at p; exact p.elim
    | er x => exact (tru_er e2).elim
    | ok k =>
      rw [e2] at p
      intro b G' H' e hb
      subst hb
      exact p _ G' H' e rfl
/-- a list of one's own that is read -/
theorem own_read (st : Stt X.K G0 H0 ρ σ G0' H) {i : Nat} {ds : List D} (h : ρ[i]? = some (.ow ds)) : ∃ a vs, σ[i]? = some (some (.ref a)) ∧ H a = some (.lst vs) ∧ RpAll X.K G0' vs ds := by
  obtain ⟨a, vs, h1, h2, h3, _⟩ := st.ow i ds h
  exact ⟨a, vs, h1, h2, h3⟩
end
mutual
theorem asT_len : ∀ {t : IT} {d : D} {ρ ρ' : Env}, asT t d ρ = .ok ρ' → ρ'.length = ρ.length
  | .nm i, d, ρ, ρ', h => by
    simp only [asT] at h
    cases h
    simp
  | .tu ts, d, ρ, ρ', h => by
    cases d <;> simp only [asT] at h <;> first | (cases h; done) | exact asTs_len h
theorem asTs_len : ∀ {t : ITs} {d : List D} {ρ ρ' : Env}, asTs t d ρ = .ok ρ' → ρ'.length = ρ.length
  | .nil, [], ρ, ρ', h => by simp only [asTs] at h; cases h; rfl
  | .nil, _ :: _, ρ, ρ', h => by simp [asTs] at h
  | .cons t r, [], ρ, ρ', h => by simp [asTs] at h
  | .cons t r, d :: ds, ρ, ρ', h => by
    simp only [asTs] at h
    cases e : asT t d ρ with
    | no => rw [e] at h; cases h
    | er x => rw [e] at h; cases h
    | ok ρ1 =>
      rw [e] at h
      rw [asTs_len h, asT_len e]
end
section
variable {K : PySem.W.Frag} {G0 H0 G H G1 H1 : Hp} {ρ : Env} {σ : L2.St}
theorem snoc_lt {α : Type} {l : List α} {x y : α} {i : Nat} (h : (l ++ [x])[i]? = some y) : (i < l.length ∧ l[i]? = some y) ∨ (i = l.length ∧ x = y) := by
  by_cases hi : i < l.length
  · rw [List.getElem?_append_left hi] at h; exact .inl ⟨hi, h⟩
  · rw [List.getElem?_append_right (by omega)] at h
    by_cases h0 : i = l.length
    · subst h0; simp at h; exact .inr ⟨rfl, h⟩
    · have : 0 < i - l.length := by omega
      rw [List.getElem?_eq_none (by simp; omega)] at h
      cases h
theorem Stt.init {c : Cell} {v : Option V} (s : Stt K G0 H0 (ρ ++ [c]) (σ ++ [v]) G H) : Stt K G0 H0 ρ σ G H where
  len := by have := s.len; simpa using this
  ext := s.ext
  im := fun i d h => by
    have hl : i < ρ.length := by
      by_cases q : i < ρ.length
      · exact q
      · rw [List.getElem?_eq_none (by omega)] at h; cases h
    obtain ⟨w, h1, h2⟩ := s.im i d (by rw [List.getElem?_append_left hl]; exact h)
    have hl2 : i < σ.length := by have := s.len; simp at this; omega
    rw [List.getElem?_append_left hl2] at h1
    exact ⟨w, h1, h2⟩
  ow := fun i d h => by
    have hl : i < ρ.length := by
      by_cases q : i < ρ.length
      · exact q
      · rw [List.getElem?_eq_none (by omega)] at h; cases h
    obtain ⟨a, vs, h1, h2⟩ := s.ow i d (by rw [List.getElem?_append_left hl]; exact h)
    have hl2 : i < σ.length := by have := s.len; simp at this; omega
    rw [List.getElem?_append_left hl2] at h1
    exact ⟨a, vs, h1, h2⟩
  sep := fun i j di dj a hi hj h1 h2 => by
    have f : ∀ {m : Nat} {dm : List D}, ρ[m]? = some (.ow dm) → m < ρ.length ∧ m < σ.length := fun {m dm} h => by
      have hl : m < ρ.length := by
        by_cases q : m < ρ.length
        · exact q
        · rw [List.getElem?_eq_none (by omega)] at h; cases h
      have := s.len
      simp at this
      exact ⟨hl, by omega⟩
    obtain ⟨a1, a2⟩ := f hi
    obtain ⟨b1, b2⟩ := f hj
    exact s.sep i j di dj a (by rw [List.getElem?_append_left a1]; exact hi) (by rw [List.getElem?_append_left b1]; exact hj) (by rw [List.getElem?_append_left a2]; exact h1) (by rw [List.getElem?_append_left b2]; exact h2)
theorem Stt.snoc (s : Stt K G0 H0 ρ σ G H) {p : Addr} (n : H p = none) : Stt K G0 H0 (ρ ++ [.ow []]) (σ ++ [some (.ref p)]) G (upd H p (.lst [])) := by
  have s' := s.mono (Ext.new' s.subG n (.lst []))
  have no : ∀ (j : Nat) (dj : List D), ρ[j]? = some (.ow dj) → σ[j]? = some (some (.ref p)) → False := fun j dj h1 h2 => by
    obtain ⟨a, ws, q1, q2, _⟩ := s.ow j dj h1
    rw [h2] at q1; cases q1
    rw [n] at q2; cases q2
  have ll := s.len
  refine ⟨by simp [ll], s'.ext, fun i d h => ?_, fun i ds h => ?_, fun i j di dj a hi hj h1 h2 => ?_⟩
  · rcases snoc_lt h with ⟨hl, q⟩ | ⟨_, q⟩
    · obtain ⟨v, h1, h2⟩ := s'.im i d q
      exact ⟨v, by rw [List.getElem?_append_left (by omega)]; exact h1, h2⟩
    · cases q
  · rcases snoc_lt h with ⟨hl, q⟩ | ⟨hl, q⟩
    · obtain ⟨a, vs, h1, h2⟩ := s'.ow i ds q
      exact ⟨a, vs, by rw [List.getElem?_append_left (by omega)]; exact h1, h2⟩
    · cases q
      refine ⟨p, [], ?_, upd_same, .nil, s.subG.none n, s.ext.sub.none n⟩
      rw [hl, ll, List.getElem?_append_right (by omega)]
      simp
  · have f : ∀ {m : Nat} {dm : List D}, (ρ ++ [Cell.ow []])[m]? = some (.ow dm) → (σ ++ [some (V.ref p)])[m]? = some (some (.ref a)) → (m = ρ.length ∧ a = p) ∨ (∃ dm', ρ[m]? = some (.ow dm') ∧ σ[m]? = some (some (.ref a))) := fun {m dm} h h' => by
      rcases snoc_lt h with ⟨hl, q⟩ | ⟨hl, q⟩
      · rw [List.getElem?_append_left (by omega)] at h'
        exact .inr ⟨_, q, h'⟩
      · rcases snoc_lt h' with ⟨hl', _⟩ | ⟨_, q'⟩
        · omega
        · cases q'; exact .inl ⟨hl, rfl⟩
    rcases f hi h1 with ⟨e1, e2⟩ | ⟨dm, q1, q2⟩
    · rcases f hj h2 with ⟨e3, e4⟩ | ⟨dm', q3, q4⟩
      · omega
      · subst e2; exact (no j _ q3 q4).elim
    · rcases f hj h2 with ⟨e3, e4⟩ | ⟨dm', q3, q4⟩
      · subst e4; exact (no i _ q1 q2).elim
      · exact s.sep i j _ _ a q1 q3 q2 q4
theorem Ext.hid (e : Ext G1 H1 G H) {p : Addr} (n : Fr H1 p) (g : Fr G p) (o : HO) (hp : ∃ xs, H p = some (.lst xs)) : Ext G1 H1 G (upd H p o) :=
  ⟨fun b u h t => by rw [upd_ne (n.ne h t)]; exact e.sub.g h t, e.subG, fun b u h t => by rw [upd_ne (g.ne h t)]; exact e.inn.g h t, e.old, fun P h => tab_keep (fun b u h te => by
    have hb : b ≠ p := fun z => by
      obtain ⟨xs, hp⟩ := hp
      subst z; rw [hp] at h; cases h; cases te
    rw [upd_ne hb]; exact h) (e.tab P h)⟩
theorem Ext.show_ (e : Ext G1 H1 G H) {p : Addr} (n : Fr H1 p) (g : Fr G p) {o : HO} (h : H p = some o) : Ext G1 H1 (upd G p o) H :=
  ⟨e.sub, e.subG.trans (.updF o g), fun b u q t => by
    by_cases z : b = p
    · subst z; rw [upd_same] at q; cases q; exact h
    · rw [upd_ne z] at q; exact e.inn.g q t, fun b o q t => by
    rw [upd_ne (n.ne q t)]; exact e.old b o q t, e.tab⟩
theorem wipe_get {σ : L2.St} {i : Nat} : ∀ {vs : List Nat}, i ∈ vs → (L2.wipe σ vs)[i]? = if i < σ.length then some none else none
  | v :: vs, h => by
    show ((L2.wipe σ vs).set v none)[i]? = _
    by_cases e : v = i
    · subst e
      by_cases hl : v < σ.length
      · rw [List.getElem?_set_self (by rw [wipe_length]; exact hl), if_pos hl]
      · rw [List.getElem?_eq_none (by rw [List.length_set, wipe_length]; omega), if_neg hl]
    · rw [List.getElem?_set_ne e]
      rcases List.mem_cons.mp h with q | q
      · exact absurd q.symm e
      · exact wipe_get q
theorem wipe_same {σ σ' : L2.St} {vs : List Nat} (hl : σ'.length = σ.length) (h : ∀ j, j ∉ vs → σ'[j]? = (L2.wipe σ vs)[j]?) : L2.wipe σ' vs = L2.wipe σ vs := by
  apply List.ext_getElem?
  intro i
  by_cases e : i ∈ vs
  · rw [wipe_get e, wipe_get e, hl]
  · rw [L2.wipe_out e, h i e]
end
abbrev EF : XK := fun _ _ _ => False
section
variable {X : Cx} {EX : XK} {G0 H0 : Hp} {ρ : Env} {σ : L2.St} {H : Hp} {Q : VK}
theorem lc_read {tg : IT} {ri : Res (List D)} {cv : Env → Res Bool} {ev : Env → Res D} {vs : List Nat} (hs : ∀ j ∈ slT tg, j ∈ vs)
    (q : rdE X.K X.mg EX G0 H0 ρ (ri >>= fun ds => if ds.length ≤ LIM then (lcGo (fun d => asT tg d (wipeR ρ vs) >>= fun ρ' => cv ρ' >>= fun k => if k then ev ρ' >>= fun y => .ok (some y) else .ok none) ds >>= fun r => .ok (.list r)) else .no) σ H Q) :
    tLc (rdI X.K X.mg EX G0 H0 ρ ri) (rdG X.K G0 H0 tg) (fun σ H Q => ∃ ρ', rdT X.K X.mg EF G0 H0 ρ' (cv ρ') σ H Q) (fun σ H Q => ∃ ρ', rdE X.K X.mg EF G0 H0 ρ' (ev ρ') σ H Q) vs σ H Q := by
  obtain ⟨G, st, p⟩ := q
  refine ⟨G, st, Post.bind p fun J ds G1 H1 e1 hw er p1 => ?_⟩
  intro A hA
  by_cases hlim : ds.length ≤ LIM
  case neg => rw [if_neg hlim] at p1; exact p1.elim
  rw [if_pos hlim] at p1
  generalize hf : (fun d => asT tg d (wipeR ρ vs) >>= fun ρ' => cv ρ' >>= fun k => if k then ev ρ' >>= fun y => Res.ok (some y) else .ok none) = f at p1
  have f_eq : ∀ d, f d = (asT tg d (wipeR ρ vs) >>= fun ρ' => cv ρ' >>= fun k => if k then ev ρ' >>= fun y => Res.ok (some y) else .ok none) := fun d => by rw [← hf]
  have nev : ∀ (l : List D) (x : Str), lcGo f l ≠ .er x := by
    intro l
    induction l with
    | nil => intro x h; cases h
    | cons a l ih =>
      intro x h
      simp only [lcGo] at h
      split at h
      · cases e2 : lcGo f l with
        | no => rw [e2] at h; cases h
        | er z => exact ih z e2
        | ok r => rw [e2] at h; cases h
      · cases h
  cases hr : lcGo f ds with
  | no => rw [hr] at p1; exact p1.elim
  | er x => exact absurd hr (nev ds x)
  | ok rs =>
    rw [hr] at p1
    have fin : ∀ v G' H', Ext G1 H1 G' H' → Rp X.K G' v (.list rs) → Q v H' := p1
    have st1 := ((st.mono e1).wipeσ vs).snoc hA
    have len1 : (wipeR ρ vs).length = (L2.wipe σ vs).length := ((st.mono e1).wipeσ vs).len
    refine ⟨fun i m H => ∃ G acc rest, Stt X.K G0 H0 (wipeR ρ vs ++ [.ow acc]) (L2.wipe σ vs ++ [some (.ref A)]) G H ∧ lcGo f (ds.drop i) = .ok rest ∧ rs = acc ++ rest ∧ i ≤ ds.length ∧ m = ds.length - i ∧ acc.length ≤ i ∧ Ext G1 H1 G H,
      ⟨ds.length, G1, [], rs, st1, hr, rfl, Nat.zero_le _, rfl, Nat.le_refl _, .new' e1.inn hA _⟩, ?_⟩
    rintro i m H ⟨G, acc, rest, st, hgo, hrs, hi, hm, hacc, ex⟩
    have own : ∀ {G H : Hp} {acc : List D}, Stt X.K G0 H0 (wipeR ρ vs ++ [.ow acc]) (L2.wipe σ vs ++ [some (.ref A)]) G H → ∃ ws, H A = some (.lst ws) ∧ RpAll X.K G ws acc ∧ Fr G A := fun {G H acc} st => by
      obtain ⟨a, ws, h1, h2, h3, h4, _⟩ := st.ow (wipeR ρ vs).length acc (by rw [List.getElem?_append_right (by omega)]; simp)
      rw [List.getElem?_append_right (by omega), len1] at h1
      simp at h1
      subst h1
      exact ⟨ws, h2, h3, h4⟩
    by_cases hend : i = ds.length
    · left
      refine ⟨(hw G H i ex.subG ex.inn).2 (by omega), ?_⟩
      rw [hend, List.drop_length] at hgo
      cases hgo
      rw [List.append_nil] at hrs
      subst hrs
      obtain ⟨ws, h1, h2, h3⟩ := own st
      refine fin _ _ _ (ex.show_ (.of hA) h3 h1) (.lst (.inl (.inl upd_same)) ((Sub.updF _ h3).rps h2))
    · right
      have hlt : i < ds.length := by omega
      have hd : ds[i]? = some ds[i] := List.getElem?_eq_getElem hlt
      rw [List.drop_eq_getElem_cons hlt] at hgo
      simp only [lcGo] at hgo
      split at hgo
      case h_2 => cases hgo
      rename_i ov hfo
      cases e2 : lcGo f (ds.drop (i + 1)) with
      | no => rw [e2] at hgo; cases hgo
      | er x => exact absurd e2 (nev _ x)
      | ok r2 =>
        rw [e2] at hgo
        have hrest : rest = ov.toList ++ r2 := by cases hgo; rfl
        rw [f_eq] at hfo
        cases ea : asT tg ds[i] (wipeR ρ vs) with
        | no => rw [ea] at hfo; cases hfo
        | er x => rw [ea] at hfo; cases hfo
        | ok ρ' =>
          rw [ea] at hfo
          have hfo : (cv ρ' >>= fun k => if k then ev ρ' >>= fun y => Res.ok (some y) else .ok none) = .ok ov := hfo
          obtain ⟨go, yl⟩ := (hw G H i ex.subG ex.inn).1 _ hd
          refine ⟨go, fun H' => ∃ G acc rest, Stt X.K G0 H0 (wipeR ρ vs ++ [.ow acc]) (L2.wipe σ vs ++ [some (.ref A)]) G H' ∧ lcGo f (ds.drop (i + 1)) = .ok rest ∧ rs = acc ++ rest ∧ i + 1 ≤ ds.length ∧ acc.length ≤ i + 1 ∧ Ext G1 H1 G H', ?_, ?_⟩
          · rintro H' ⟨G', acc', rest', a1, a2, a3, a4, a5, a6⟩
            exact ⟨ds.length - (i + 1), by omega, G', acc', rest', a1, a2, a3, a4, rfl, a5, a6⟩
          · intro x H' y
            obtain ⟨G', e3, rp⟩ := yl x H' y
            have st3 := st.mono e3
            refine ⟨wipeR ρ vs, G', ds[i], st3.init, rp, ?_⟩
            rw [ea]
            intro σ2 st2 sm
            refine ⟨wipe_same ?_ fun j hj => sm j fun hj' => hj (hs j hj'), ρ', G', st2, ?_⟩
            · have := st2.len
              have l3 := st3.init.len
              have lw := wipe_length σ vs
              have la : ρ'.length = (wipeR ρ vs).length := asT_len ea
              omega
            cases ec : cv ρ' with
            | no => rw [ec] at hfo; cases hfo
            | er x => rw [ec] at hfo; cases hfo
            | ok kk =>
              rw [ec] at hfo
              intro b G4 H4 e4 hb
              subst hb
              have st4 := st3.mono e4
              cases b with
              | false =>
                rw [if_neg (by decide)]
                cases hfo
                have a1 : rest = r2 := hrest
                exact ⟨G4, acc, r2, st4, e2, by rw [hrs, a1], by omega, by omega, (ex.trans e3).trans e4⟩
              | true =>
                rw [if_pos rfl]
                refine ⟨ρ', G4, st2.mono e4, ?_⟩
                have hfo : (ev ρ' >>= fun y => Res.ok (some y)) = .ok ov := hfo
                cases ee : ev ρ' with
                | no => rw [ee] at hfo; cases hfo
                | er x => rw [ee] at hfo; cases hfo
                | ok yv =>
                  rw [ee] at hfo
                  intro v G5 H5 e5 r5
                  have st5 := st4.mono e5
                  obtain ⟨ws, h1, h2, h3⟩ := own st5
                  have ho : ov = some yv := by cases hfo; rfl
                  subst ho
                  refine ⟨ws, h1, ?_, G5, acc ++ [yv], r2, ?_, e2, ?_, by omega, by simp; omega, ((((ex.trans e3).trans e4).trans e5).hid (.of hA) h3 _ ⟨_, h1⟩)⟩
                  · rw [h2.length]
                    have : LIM = sizeLine := rfl
                    omega
                  · have w := st5.write (i := (wipeR ρ vs).length) (a := A) (ds := acc) (ds' := acc ++ [yv]) (vs' := ws ++ [v]) (by rw [List.getElem?_append_right (by omega)]; simp) (by rw [List.getElem?_append_right (by omega), len1]; simp) (h2.app (.cons r5 .nil))
                    rw [List.set_append_right _ _ (by omega)] at w
                    simpa using w
                  · rw [hrs, hrest]
                    simp
end
end Rf
namespace HT
open PySem PyProof.Rows
section
variable {prog : Program} {w : World} {A : Around} {E : Value → Shared → Prop} {s : Shared}
theorem fm_congr {α β : Type} {f g : α → Option β} : ∀ {l : List α}, (∀ x ∈ l, f x = g x) → l.filterMap f = l.filterMap g
  | [], _ => rfl
  | a :: l, h => by
    rw [List.filterMap_cons, List.filterMap_cons, h a List.mem_cons_self, fm_congr fun x hx => h x (List.mem_cons_of_mem _ hx)]
theorem sliceApplied_rev {sl : Addr} {vl vu vs : Value} {n : Nat} {Q : Int × Int × Nat → Shared → Prop} (hs : s.heap.IsSliceOf sl vl vu vs) (pl : IsPart vl none) (pu : IsPart vu none) (ps : IsPart vs (some (-1)))
    (h : Q ((n : Int) - 1, -1, n) s) : wpAny (model prog w) A (Builtin.Slice.sliceApplied (.ref sl) (pure (n : Int))) Q E s := by
  obtain ⟨os, hos, hcs, hds⟩ := id hs
  unfold Builtin.Slice.sliceApplied Builtin.Slice.sliceFields
  refine wpAny_bind (wpAny_bind (wpAny_field hos hds (x := vl) rfl (wpAny_bind (wpAny_field hos hds (x := vu) rfl (wpAny_bind (wpAny_field hos hds (x := vs) rfl (wpAny_pure ?_)))))))
  refine wpAny_bind (slicePart_ ps ?_)
  show wpAny _ _ (if ((-1 : Int) == 0) = true then _ else _) _ _ s
  rw [if_neg (by decide)]
  refine wpAny_bind (slicePart_ pl (wpAny_bind (slicePart_ pu (wpAny_bind (wpAny_pure ?_)))))
  show wpAny _ _ (match Builtin.Slice.sliceAdjust none none (-1) (n : Int) with | (lo, hi) => pure (lo, (-1 : Int), Builtin.Slice.slicePlaces lo hi (-1))) _ _ s
  have e : Builtin.Slice.sliceAdjust none none (-1) (n : Int) = ((n : Int) - 1, -1) := by
    unfold Builtin.Slice.sliceAdjust
    rfl
  have e2 : Builtin.Slice.slicePlaces ((n : Int) - 1) (-1) (-1) = n := by
    unfold Builtin.Slice.slicePlaces
    rw [if_neg (by decide)]
    split
    · have : ((n : Int) - 1 - -1 - 1) / (- -1) + 1 = n := by
        have e0 : ((n : Int) - 1 - -1 - 1) / (- -1) = (n : Int) - 1 := by
          show ((n : Int) - 1 - -1 - 1) / 1 = _
          rw [Int.ediv_one]; omega
        rw [e0]; omega
      rw [this]; rfl
    · have : n = 0 := by omega
      rw [this]; rfl
  rw [e]
  show wpAny _ _ (pure ((n : Int) - 1, (-1 : Int), Builtin.Slice.slicePlaces ((n : Int) - 1) (-1) (-1))) _ _ s
  rw [e2]
  exact wpAny_pure h
theorem pick_rev (xs : Array Value) : ((List.range xs.size).filterMap fun (m : Nat) => xs[(((xs.size : Nat) : Int) - 1 + (m : Int) * (-1)).toNat]?).toArray = xs.toList.reverse.toArray := by
  congr 1
  have e : (List.range xs.size).filterMap (fun (m : Nat) => xs[(((xs.size : Nat) : Int) - 1 + (m : Int) * (-1)).toNat]?) = (List.range xs.size).filterMap fun m => xs.toList.reverse[m]? := by
    apply fm_congr
    intro m hm
    rw [List.mem_range] at hm
    have e1 : (((xs.size : Nat) : Int) - 1 + (m : Int) * (-1)).toNat = xs.size - 1 - m := by omega
    rw [e1, List.getElem?_reverse (by simpa using hm)]
    simp
  rw [e]
  have g : ∀ (l : List Value), (List.range l.length).filterMap (fun m => l[m]?) = l := by
    intro l
    induction l with
    | nil => rfl
    | cons a l ih =>
      rw [List.length_cons, List.range_succ_eq_map, List.filterMap_cons]
      simp only [List.getElem?_cons_zero]
      rw [List.filterMap_map]
      congr 1
  have := g xs.toList.reverse
  simpa using this
theorem getItem_tuple_rev {t sl : Addr} {items : Array Value} {vl vu vs : Value} {Q : Value → Shared → Prop} (ht : IsTup s.heap t items) (hs : s.heap.IsSliceOf sl vl vu vs) (pl : IsPart vl none) (pu : IsPart vu none) (ps : IsPart vs (some (-1)))
    (h : Q (.ref s.heap.objs.size) { s with heap := s.heap.push { cls := .type "tuple", data := .seq items.toList.reverse.toArray } })
    (hsz : items.size ≤ sizeLine) : wpAny (model prog w) A (getItem (.ref t) (.ref sl)) Q E s := by
  have htake : sizeOk (.seq items.toList.reverse.toArray) := by
    show items.toList.reverse.toArray.size ≤ sizeLine
    simpa using hsz
  obtain ⟨os, hos, hcs, hds⟩ := id hs
  have hTs : s.TypeIs (.ref sl) "slice" := ⟨os, hos, hcs⟩
  unfold getItem
  try with_reducible refine wpAny_holding ?_
  first | refine wpAny_bind (wpAny_pure ?_) | skip
  refine wpAny_bind (wpAny_sequenceKey ht.typeIs (by decide) ?_)
  refine wpAny_bind (wpAny_callSpecial?_slot (name := Str.ofString "__getitem__") ht.typeIs PyProof.Rows.slot_tuple_getitem
    (wpAny_call_entry PyProof.Rows.slot_tuple_getitem ht.typeIs entry_tuple_getitem ?_ (args_tuple_getitem _ _)))
  show wpAny _ _ (Builtin.Tuple.tupleItemsOf (.ref t) >>= _) _ _ s
  refine wpAny_bind (tupleItemsOf_ ht ?_)
  refine wpAny_bind (wpAny_typeOf hTs ?_)
  rw [if_pos (by decide)]
  refine wpAny_bind (sliceApplied_rev hs pl pu ps ?_)
  have hno : ¬ ((((items.size : Nat) : Int) - 1 == 0 && (-1 : Int) == 1 && items.size == items.size) = true) := by
    intro q
    rw [Bool.and_eq_true, Bool.and_eq_true] at q
    exact absurd q.1.2 (by decide)
  show wpAny _ _ (if (((items.size : Nat) : Int) - 1 == 0 && (-1 : Int) == 1 && items.size == items.size) = true then _ else _) _ _ s
  rw [if_neg hno, pick_rev]
  first
    | exact wpAny_bind (m := Builtin.Tuple.tupleExact _) (wpAny_newObj_type (wpAny_pure ⟨_, rfl, wpAny_pure h⟩) htake)
    | exact wpAny_bind (m := Builtin.Tuple.tupleExact _) (wpAny_newObj_type (wpAny_bind (wpAny_pure (wpAny_pure ⟨_, rfl, wpAny_pure h⟩))) htake)
    | exact wpAny_bind (wpAny_bind (m := Builtin.Tuple.tupleExact _) (wpAny_newObj_type (wpAny_pure (wpAny_pure ⟨_, rfl, wpAny_pure h⟩)) htake))
    | exact wpAny_bind (wpAny_bind (m := Builtin.Tuple.tupleExact _) (wpAny_newObj_type (wpAny_pure ⟨_, rfl, wpAny_pure h⟩) htake))
end
end HT
namespace L2
open PySem PySem.Spec PyProof.Rows
def tRevT (K : PySem.W.Frag) (te : TE) : TE := fun σ H Q => te σ H fun x H1 => ∃ a xs, x = .ref a ∧ SqT K H1 a xs ∧ ∀ p, H1 p = none → Q (.ref p) (upd H1 p (.tup xs.reverse))
section
variable {X : Cx}
theorem pe_revT {e : Expr} {te : TE} {k : Nat} {p1 p2 p3 pos : Pos} (he : PE X e te) : PE X (.Subscript e (.Slice none none (some (.UnaryOp .USub (.Constant (.int 1) k p1) p2)) p3) pos) (tRevT X.K te) := by
  refine ⟨fun pins s σ H Q I h => ?_⟩
  refine Subscript_ (thn (he.run pins s σ H _ I h) fun v s1 ⟨x, H1, I1, r1, q1⟩ => ?_)
  obtain ⟨a, xs, ex, hx, q⟩ := q1
  subst ex
  cases r1
  have hst : PO X (some (.UnaryOp .USub (.Constant (.int 1) k p1) p2)) (tPart (tUn (rU fun i => .int (-i)) (tC (.int 1)))) := po_some (pe_un un_neg pe_int)
  refine wpAny_Slice (thn (po_none.run pins s1 σ H1 (fun o H2 => o = none ∧ H2 = H1) I1 ⟨rfl, rfl⟩) fun vl s2 ⟨l, H2, I2, pl, el, e2⟩ => ?_)
  subst el e2
  refine thn (po_none.run pins s2 σ H2 (fun o H3 => o = none ∧ H3 = H2) I2 ⟨rfl, rfl⟩) fun vu s3 ⟨u, H3, I3, pu, eu, e3⟩ => ?_
  subst eu e3
  refine thn (hst.run pins s3 σ H3 (fun o H4 => o = some (-1) ∧ H4 = H3) I3 ⟨1, rfl, -1, rfl, rfl, rfl⟩) fun vs s4 ⟨o, H4, I4, ps, eo, e4⟩ => ?_
  subst eo e4
  have I5 : Inv X pins σ H4 { s4 with heap := s4.heap.push { cls := .type "slice", data := .fields #[vl, vu, vs] } } := I4.kept (t' := s4.toks) fun b ob q => Heap.get?_push_of_some _ q
  obtain ⟨its, r, ht, hz⟩ := I5.tuple hx
  have hlen := r.length
  show wpAny (model X.prog X.w) X.A (subscriptTail e (.Slice none none (some (.UnaryOp .USub (.Constant (.int 1) k p1) p2)) p3) (.ref a) (.ref s4.heap.objs.size)) (EP X pins σ Q) X.xe { s4 with heap := s4.heap.push { cls := .type "slice", data := .fields #[vl, vu, vs] } }
  refine tail_any (ops := [.ref a, .ref s4.heap.objs.size]) ht.typeIs (PyProof.Rows.slot_tuple_getitem.lookup) ?_ (by with_unfolding_all rfl)
  refine HT.getItem_tuple_rev ht (Heap.IsSliceOf.new _ vl vu vs) pl pu ps ?_ (by rw [List.size_toArray]; omega)
  refine ⟨.ref _, _, I5.laid (t' := s4.toks) (o := .tup xs.reverse) (fun b ob q => Heap.get?_push_of_some _ q) (Nat.le_refl _) ?_, rfl, q _ (I5.hok.fresh (Nat.le_refl _))⟩
  exact ⟨by rw [List.length_reverse]; exact hz, _, r.reverse, IsTup.new _ _⟩
end
end L2
namespace PySem
open AutoSeq1 (wpAny_loadPart')
theorem meets_enumerate_newB1 {v : Value} {o : Obj} {H : Heap → Prop} (B : Begins v o H) :
    Meets (Builtin.«enumerate.__new__» ⟨[.type "enumerate", v], []⟩) (fun _ R s => H s.heap ∧
      R (.ok (.ret (.ref (s.heap.push o).objs.size))) { s with heap := (s.heap.push o).push { cls := .type "enumerate", data := .fields #[.none, .bool false, .ref s.heap.objs.size, rawInt 0, .none, .none] } }) :=
  .of_wp fun prog w A R s h => by
    obtain ⟨hp, g, d, tk, os⟩ := s; obtain ⟨h1, h⟩ := h
    have hsub := sub_enumerate
    have q1 : ∀ {A' : Around} {E : Value → Shared → Prop} {Q : Value → Shared → Prop}, Q (.ref hp.objs.size) ⟨hp.push o, g, d, tk, os⟩ → wpAny (model prog w) A' (pyIter v) Q E ⟨hp, g, d, tk, os⟩ :=
      fun q => B.iter prog w _ _ ⟨hp, g, d, tk, os⟩ _ h1 q
    wp_walk using q1
    refine wpAny_stack_any fun st => wpAny_pure ?_
    split
    · rename_i c _ _ _ _ _
      cases (c == Value.type "enumerate")
      · wp_walk using q1
        exact ⟨_, rfl, h⟩
      · wp_walk using q1
        exact ⟨_, rfl, h⟩
    · wp_walk using q1
      exact ⟨_, rfl, h⟩
section
variable {prog : Program} {w : World} {A : Around} {E : Value → Shared → Prop} {s : Shared}
theorem enum_begins1 {v : Value} {o : Obj} {H : Heap → Prop} {Q : Value → Shared → Prop} (B : Begins v o H) (h1 : H s.heap)
    (h : ∀ h', IsEnum h' (s.heap.objs.size + 1) s.heap.objs.size 0 .none → h'.get? s.heap.objs.size = some o → h'.objs.size = s.heap.objs.size + 2 →
      (∀ b o, s.heap.get? b = some o → h'.get? b = some o) → Q (.ref (s.heap.objs.size + 1)) { s with heap := h' }) :
    wpAny (model prog w) A (call (.type "enumerate") [v]) Q E s := by
  refine callType_new F.called_enumerate (by decide) (F.typeCall_enumerate_1 _) (F.newCall_enumerate_1 _) (fun obj => F.args_object_init_2 obj _) F.entry_enumerate_new
    (meets_enumerate_newB1 B) ⟨h1, ?_⟩
  have hz : (s.heap.push o).objs.size = s.heap.objs.size + 1 := Heap.size_push ..
  show _ ∧ _
  rw [hz]
  have he : IsEnum ((s.heap.push o).push { cls := .type "enumerate", data := .fields #[.none, .bool false, .ref s.heap.objs.size, rawInt 0, .none, .none] }) (s.heap.objs.size + 1) s.heap.objs.size 0 .none := by
    have := Heap.get?_push_size (s.heap.push o) (o := { cls := .type "enumerate", data := .fields #[.none, .bool false, .ref s.heap.objs.size, rawInt 0, .none, .none] }) rfl
    rw [hz] at this; exact this
  refine ⟨⟨_, he, rfl⟩, h _ he (Heap.get?_push_of_some _ (Heap.get?_push_size _ B.free)) (by rw [Heap.size_push, hz]) fun b o x => Heap.get?_push_of_some _ (Heap.get?_push_of_some _ x)⟩
theorem wpAny_pyNext_enum_endT {e it l : Addr} {i : Nat} {items : Array Value} {old : Value} {Q : Option Value → Shared → Prop} (hh : A.handled = none)
    (he : IsEnum s.heap e it i old) (hit : s.heap.IsTupleIter it l i) (hl : s.heap.IsTuple l items) (hx : items[i]? = none)
    (hQ : ∀ h', Heap.ExtBut it s.heap h' → Q none { s with heap := h' }) : wpAny (model prog w) A (pyNext (.ref e)) Q E s := by
  have hT : s.TypeIs (.ref e) "enumerate" := ⟨_, he, rfl⟩
  unfold pyNext
  refine wpAny_bind (wpAny_attempt (wpAny_callSpecial?_slot (name := Str.ofString "__next__") hT F.slot_enumerate_next
    (wpAny_call_entry F.slot_enumerate_next hT F.entry_enumerate_next ?_ (F.args_enumerate_next_1 _))))
  show wpAny _ _ (field (.ref e) 2 >>= _) _ _ _
  refine wpAny_bind (wpAny_field he rfl (x := .ref it) rfl ?_)
  refine wpAny_bind (wpAny_nextOf_tuple_end hh hit hl hx fun h' x he' hx' => ?_)
  obtain ⟨o, ho, hc⟩ := hx'
  refine wpAny_bind (wpAny_isInstance (T := "StopIteration") (b := true) ⟨o, ho, hc⟩ isSubtype_stop ?_)
  exact wpAny_pure (hQ _ he')
end
end PySem
namespace L2
open PySem PySem.Spec PyProof.Rows
def IteT (K : PySem.W.Frag) (a : Addr) : It :=
  ⟨fun i H => ∃ (xs : List V) (x : V), SqT K H a xs ∧ xs[i]? = some x, fun i H v H' => ∃ T x, v = .ref T ∧ H T = none ∧ H' = upd H T (.tup [.int (i : Nat), x]) ∧ ∀ xs, SqT K H a xs → xs[i]? = some x, fun i H => ∃ xs : List V, SqT K H a xs ∧ xs.length ≤ i⟩
theorem tup_ne_iter {h : Heap} {a it t : Addr} {items : Array Value} {i : Nat} (p : IsTup h a items) (q : h.IsTupleIter it t i) : a ≠ it := by
  intro e
  subst e
  obtain ⟨o, ho, hc, _⟩ := p
  obtain ⟨o', ho', hc', _⟩ := q
  rw [ho] at ho'
  cases ho'
  rw [hc] at hc'
  exact absurd hc' (by decide)
theorem turn_enumT {P : Program} {w : World} {K : PySem.W.Frag} {elts : List Expr} {kk : Nat} {tpos : Pos} (a e it : Addr) :
    Turn P w K (.Tuple elts kk tpos) (IteT K a) [e, it] e (fun i h => (∃ old, IsEnum h e it ((i : Nat) : Int) old) ∧ h.IsTupleIter it a i ∧ e ≠ it ∧ e ≠ a) where
  mem := by simp
  obj := fun i h st b hb => by
    obtain ⟨⟨old, he⟩, ⟨o, ho, hc, hd⟩, _⟩ := st
    have e' : b = e ∨ b = it := by simpa using hb
    rcases e' with z | z
    · rw [z]; exact ⟨_, he, fun v q => nomatch q⟩
    · rw [z]; exact ⟨o, ho, fun v q => by rw [hd] at q; cases q⟩
  keep := fun i h h' st k => let ⟨⟨old, he⟩, hi, hne⟩ := st; ⟨⟨old, k e (by simp) _ he⟩, hi.at fun o q => k it (by simp) o q, hne⟩
  item := by
    intro X hP hw hK hc i pins s σ H E I hf st hg
    subst hP hw hK
    obtain ⟨⟨old, he⟩, hit, hne, hea⟩ := st
    obtain ⟨xs, x, hq, hx⟩ := hg
    obtain ⟨its, rv, p, hz⟩ := I.tuple hq
    obtain ⟨u, hu, ru⟩ := rv.get hx
    have hel : e < s.heap.objs.size := Heap.lt_size he
    have hil : it < s.heap.objs.size := by obtain ⟨_, q, _⟩ := hit; exact Heap.lt_size q
    have hai := tup_ne_iter p hit
    have hh : (X.A.in1).handled = none := I.ok.hd hc
    have hlt : i < its.toArray.size := by
      have := List.getElem?_eq_some_iff.mp hu
      obtain ⟨w1, _⟩ := this
      simpa using w1
    refine wpAny_pyNext_enum_itemD (Draws.tuple hh it a hai its.toArray) he ⟨hit, p⟩ hlt hne (by simp [hne, hea]) fun y h' tk hP ho hit' hT hsz hk => ?_
    have hy : y = u := by
      have h1 : its.toArray[i]? = some y := hP
      have h2 : its.toArray[i]? = some u := by simpa using hu
      rw [h1] at h2
      exact Option.some.inj h2
    subst hy
    refine ⟨_, rfl, wpAny_letOwnedTupleGo_enum (s := { s with heap := h', toks := tk + 1 }) ho fun h'' he' sb => ?_⟩
    have hT2 : h''.get? s.heap.objs.size = some { cls := .type "tuple", data := .seq #[.int i tk, y] } := (sb.2 _ (Nat.ne_of_gt hel)).trans hT
    have new : ObjOk X.prog X.w (upd H s.heap.objs.size (.tup [.int (i : Nat), x])) h'' s.heap.objs.size (.tup [.int (i : Nat), x]) :=
      ⟨by show 2 ≤ sizeLine; decide, [.int i tk, y], .cons ⟨_, rfl⟩ (.cons ru .nil), ⟨_, hT2, rfl, _, rfl⟩⟩
    have I1 : Inv X pins σ (upd H s.heap.objs.size (.tup [.int (i : Nat), x])) { s with heap := h'', toks := tk + 1 } :=
      I.turnedNew (ch := [e, it]) (fun b ob hb q => (sb.2 b (fun z => hb (by simp [z]))).trans (hk b ob (fun z => hb (by simp [z])) (fun z => hb (by simp [z])) q)) hf (Nat.le_refl _) new
    refine ⟨.ref s.heap.objs.size, _, I1, rfl, ⟨_, x, rfl, I.hok.fresh (Nat.le_refl _), rfl, fun ys hy => by rw [I.tuple_inj hy hq]; exact hx⟩, ⟨⟨y, ?_⟩, hit'.1.at fun o q => (sb.2 it (Ne.symm hne)).trans q, hne, hea⟩, fun b hb => ?_⟩
    · have e1 : ((i + 1 : Nat) : Int) = (i : Int) + 1 := by omega
      rw [e1]; exact he'
    · have hb' : b < s.heap.objs.size := by
        have e' : b = e ∨ b = it := by simpa using hb
        rcases e' with z | z
        · rw [z]; exact hel
        · rw [z]; exact hil
      rw [upd_ne (Nat.ne_of_lt hb')]
      exact (hf b hb).1
  done := by
    intro X hP hw hK hc i pins s σ H E I hf st hg
    subst hP hw hK
    obtain ⟨⟨old, he⟩, hit, hne, hea⟩ := st
    obtain ⟨xs, hq, hx⟩ := hg
    obtain ⟨its, rv, p, hz⟩ := I.tuple hq
    obtain ⟨f0, f1, f2, f3, f4, f5⟩ := hf it (by simp)
    have hl := rv.length
    have hai := tup_ne_iter p hit
    have hh : (X.A.in1).handled = none := I.ok.hd hc
    exact wpAny_pyNext_enum_endT hh he hit p (by simp; omega) fun h' eb => ⟨rfl, I.turned (t' := s.toks) (fun b o hb q => eb b o hb q) f0 f1 f3 f4 f5⟩
  self := fun A i s Q E st h => let ⟨⟨_, he⟩, _⟩ := st; wpAny_pyIter_enum he h
def iEnumT (K : PySem.W.Frag) (ta : TA) : TI := fun σ H R => ta σ H fun vs H1 => ∃ a xs, vs = [.ref a] ∧ SqT K H1 a xs ∧ R (IteT K a) H1
theorem pi_enumT {X : Cx} {e : Expr} {ta : TA} {p pos tpos : Pos} {elts : List Expr} {kk : Nat} (hg : Gl X "enumerate") (hm : X.mg "enumerate" = none) (ha : PA X [e] ta) (hs : starEach [e] X.env = [(false, eval e X.env)] := by rfl) :
    PI X (.Tuple elts kk tpos) (.Call (.Name "enumerate" p) [e] [] pos) (iEnumT X.K ta) := by
  refine ⟨fun pins s σ H R I h => ?_⟩
  refine Call_ (ld_blt I hg hm boot_enumerate (PyProof.Rows.callWith_type1 (thn (ha.run pos pins s σ H _ I h) fun us s1 ⟨vs, H1, I1, r1, q1⟩ => ?_) hs rfl))
  obtain ⟨a, xs, ex, hq, q⟩ := q1
  subst ex
  cases r1 with
  | cons r rr =>
    cases rr
    cases r
    obtain ⟨its, rv, p', hz⟩ := I1.tuple hq
    refine enum_begins1 (begins_tuple a its.toArray) p' fun h' he hit hsz hk => wpAny_pyIter_enum he ?_
    have I2 : Inv X pins σ H1 { s1 with heap := h' } := I1.kept (t' := s1.toks) hk
    have hla : a < s1.heap.objs.size := p'.lt
    refine ⟨s1.heap.objs.size + 1, [s1.heap.objs.size + 1, s1.heap.objs.size], _, _, H1, rfl, I2, turn_enumT a (s1.heap.objs.size + 1) s1.heap.objs.size, ⟨⟨.none, he⟩, ⟨_, hit, rfl, rfl⟩, Nat.succ_ne_self _, Nat.ne_of_gt (Nat.lt_succ_of_lt hla)⟩, fun b hb => ?_, q⟩
    have e' : b = s1.heap.objs.size + 1 ∨ b = s1.heap.objs.size := by simpa using hb
    have hle : s1.heap.objs.size ≤ b := by
      rcases e' with z | z
      · rw [z]; exact Nat.le_add_right _ _
      · rw [z]; exact Nat.le_refl _
    exact I1.fpOk hle (I1.hok.fresh hle)
end L2
namespace RZ
open PySem PySem.Spec PyProof.Rows L2 PySem.W
section
variable {prog : Program} {w : World} {A : Around} {E : Value → Shared → Prop} {s : Shared}
theorem zipT_item_held {z TI TO T i1 i2 l1 l2 : Addr} {f : Bool} {oT : Obj} {k1 k2 : Nat} {xs ys : Array Value} {x y : Value} {Q : Value → Shared → Prop} (D : ZipApart z TI TO i1 i2 l1 l2)
    (hz : IsZipHeld s.heap z TI TO T f) (hT : s.heap.get? T = some oT) (hTI : IsPair s.heap TI (.ref i1) (.ref i2))
    (h1 : s.heap.IsTupleIter i1 l1 k1) (h2 : s.heap.IsTupleIter i2 l2 k2) (hl1 : s.heap.IsTuple l1 xs) (hl2 : s.heap.IsTuple l2 ys) (hx : xs[k1]? = some x) (hy : ys[k2]? = some y)
    (hQ : ∀ h', IsZipHeld h' z TI TO T true → h'.IsTupleIter i1 l1 (k1 + 1) → h'.IsTupleIter i2 l2 (k2 + 1) → IsPair h' s.heap.objs.size x y → h'.objs.size = s.heap.objs.size + 1 →
      (∀ c o, c ≠ z → c ≠ i1 → c ≠ i2 → s.heap.get? c = some o → h'.get? c = some o) → Q (.ref s.heap.objs.size) { s with heap := h' }) :
    wpAny (model prog w) A (Builtin.«zip.__next__» ⟨[.ref z], []⟩) (fun fin s' => ∃ v, fin = .done (.ret v) ∧ Q v s') E s := by
  show wpAny _ _ (field (.ref z) 2 >>= _) _ _ _
  refine wpAny_bind (wpAny_field hz rfl (x := .bool false) rfl ?_)
  show wpAny _ _ (field (.ref z) 3 >>= _) _ _ _
  refine wpAny_bind (wpAny_field hz rfl (x := .ref TI) rfl ?_)
  refine wpAny_bind (wpAny_seqItems hTI rfl ?_)
  show wpAny _ _ (Builtin.SmallTypes.ownedTupleIsFree (.ref z) >>= _) _ _ _
  refine wpAny_bind (wpAny_tupleHeld_zip hz hT fun h₁ hz₁ hs₁ => ?_)
  simp only [Bool.false_eq_true, if_false]
  refine wpAny_bind ?_
  rw [← Array.forIn_toList]
  simp only [List.forIn_cons, List.forIn_nil]
  refine wpAny_bind (wpAny_bind (wpAny_holding ?_))
  show wpAny _ _ (Builtin.SmallTypes.nextOf (.ref i1) >>= _) _ _ _
  refine wpAny_bind (nextOf_tuple_item (s := { s with heap := h₁ }) (h1.at fun o e => hs₁.extBut _ _ D.i1z e) (hl1.at fun o e => hs₁.extBut _ _ D.l1z e) hx fun h₂ h1₂ hs₂ => wpAny_pure ?_)
  refine wpAny_pure ?_
  refine wpAny_bind (wpAny_bind (wpAny_holding ?_))
  show wpAny _ _ (Builtin.SmallTypes.nextOf (.ref i2) >>= _) _ _ _
  refine wpAny_bind (nextOf_tuple_item (s := { s with heap := h₂ }) (h2.at fun o e => hs₂.extBut _ _ D.i12.symm (hs₁.extBut _ _ D.i2z e)) (hl2.at fun o e => hs₂.extBut _ _ D.l2i1 (hs₁.extBut _ _ D.l2z e)) hy fun h₃ h2₃ hs₃ => wpAny_pure ?_)
  refine wpAny_pure (wpAny_pure ?_)
  show wpAny _ _ (newTuple [x, y] >>= _) _ _ _
  refine wpAny_bind (wpAny_newTuple ?_)
  have hsz : h₃.objs.size = s.heap.objs.size := by rw [hs₃.1, hs₂.1, hs₁.1]
  have hz₃ : IsZipHeld h₃ z TI TO T true := hs₃.extBut _ _ D.i2z.symm (hs₂.extBut _ _ D.i1z.symm hz₁)
  have hk : ∀ c o, c ≠ z → c ≠ i1 → c ≠ i2 → s.heap.get? c = some o → h₃.get? c = some o := fun c o c1 c2 c3 e => hs₃.extBut _ _ c3 (hs₂.extBut _ _ c2 (hs₁.extBut _ _ c1 e))
  have h1₃ : h₃.IsTupleIter i1 l1 (k1 + 1) := h1₂.at fun o e => hs₃.extBut _ _ D.i12 e
  refine wpAny_pure ⟨_, rfl, ?_⟩
  show Q (.ref h₃.objs.size) _
  have hp : IsPair (h₃.push { cls := .type "tuple", data := .seq #[x, y] }) h₃.objs.size x y := Heap.get?_push_size _ rfl
  have hz4 : (h₃.push { cls := .type "tuple", data := .seq #[x, y] }).objs.size = h₃.objs.size + 1 := Heap.size_push ..
  rw [hsz] at hp hz4 ⊢
  exact hQ _ (Heap.get?_push_of_some _ hz₃) (h1₃.at fun o e => Heap.get?_push_of_some _ e) (h2₃.at fun o e => Heap.get?_push_of_some _ e) hp hz4 fun c o c1 c2 c3 e => Heap.get?_push_of_some _ (hk c o c1 c2 c3 e)
theorem zipT_end_held {z TI TO T i1 i2 l1 l2 : Addr} {f : Bool} {oT : Obj} {k1 k2 : Nat} {xs ys : Array Value} {Q : Fin → Shared → Prop} (hh : A.handled = none) (D : ZipApart z TI TO i1 i2 l1 l2)
    (hz : IsZipHeld s.heap z TI TO T f) (hT : s.heap.get? T = some oT) (hTI : IsPair s.heap TI (.ref i1) (.ref i2))
    (h1 : s.heap.IsTupleIter i1 l1 k1) (h2 : s.heap.IsTupleIter i2 l2 k2) (hl1 : s.heap.IsTuple l1 xs) (hl2 : s.heap.IsTuple l2 ys) (hend : xs[k1]? = none ∨ ys[k2]? = none)
    (hE : ∀ h' e, (∀ c o, c ≠ z → c ≠ i1 → c ≠ i2 → s.heap.get? c = some o → h'.get? c = some o) → (∃ o, h'.get? e = some o ∧ o.cls = .type "StopIteration") → E (.ref e) { s with heap := h' }) :
    wpAny (model prog w) A (Builtin.«zip.__next__» ⟨[.ref z], []⟩) Q E s := by
  show wpAny _ _ (field (.ref z) 2 >>= _) _ _ _
  refine wpAny_bind (wpAny_field hz rfl (x := .bool false) rfl ?_)
  show wpAny _ _ (field (.ref z) 3 >>= _) _ _ _
  refine wpAny_bind (wpAny_field hz rfl (x := .ref TI) rfl ?_)
  refine wpAny_bind (wpAny_seqItems hTI rfl ?_)
  show wpAny _ _ (Builtin.SmallTypes.ownedTupleIsFree (.ref z) >>= _) _ _ _
  refine wpAny_bind (wpAny_tupleHeld_zip hz hT fun h₁ hz₁ hs₁ => ?_)
  simp only [Bool.false_eq_true, if_false]
  refine wpAny_bind ?_
  rw [← Array.forIn_toList]
  simp only [List.forIn_cons, List.forIn_nil]
  refine wpAny_bind (wpAny_bind (wpAny_holding ?_))
  show wpAny _ _ (Builtin.SmallTypes.nextOf (.ref i1) >>= _) _ _ _
  cases hx : xs[k1]? with
  | none =>
    refine wpAny_bind (nextOf_tuple_end (s := { s with heap := h₁ }) hh (h1.at fun o e => hs₁.extBut _ _ D.i1z e) (hl1.at fun o e => hs₁.extBut _ _ D.l1z e) hx fun h₂ e hs₂ he => ?_)
    exact hE h₂ e (fun c o c1 c2 _ x => hs₂ _ _ c2 (hs₁.extBut _ _ c1 x)) he
  | some x =>
    have hy : ys[k2]? = none := by rcases hend with h | h; rw [hx] at h; cases h; exact h
    refine wpAny_bind (nextOf_tuple_item (s := { s with heap := h₁ }) (h1.at fun o e => hs₁.extBut _ _ D.i1z e) (hl1.at fun o e => hs₁.extBut _ _ D.l1z e) hx fun h₂ h1₂ hs₂ => wpAny_pure ?_)
    refine wpAny_pure ?_
    refine wpAny_bind (wpAny_bind (wpAny_holding ?_))
    show wpAny _ _ (Builtin.SmallTypes.nextOf (.ref i2) >>= _) _ _ _
    refine wpAny_bind (nextOf_tuple_end (s := { s with heap := h₂ }) hh (h2.at fun o e => hs₂.extBut _ _ D.i12.symm (hs₁.extBut _ _ D.i2z e)) (hl2.at fun o e => hs₂.extBut _ _ D.l2i1 (hs₁.extBut _ _ D.l2z e)) hy fun h₃ e hs₃ he => ?_)
    exact hE h₃ e (fun c o c1 c2 c3 x => hs₃ _ _ c3 (hs₂.extBut _ _ c2 (hs₁.extBut _ _ c1 x))) he
theorem pyNext_zipT_item_held {z TI TO T i1 i2 l1 l2 : Addr} {f : Bool} {oT : Obj} {k1 k2 : Nat} {xs ys : Array Value} {x y : Value} {Q : Option Value → Shared → Prop} (D : ZipApart z TI TO i1 i2 l1 l2)
    (hz : IsZipHeld s.heap z TI TO T f) (hT : s.heap.get? T = some oT) (hTI : IsPair s.heap TI (.ref i1) (.ref i2))
    (h1 : s.heap.IsTupleIter i1 l1 k1) (h2 : s.heap.IsTupleIter i2 l2 k2) (hl1 : s.heap.IsTuple l1 xs) (hl2 : s.heap.IsTuple l2 ys) (hx : xs[k1]? = some x) (hy : ys[k2]? = some y)
    (hQ : ∀ h', IsZipHeld h' z TI TO T true → h'.IsTupleIter i1 l1 (k1 + 1) → h'.IsTupleIter i2 l2 (k2 + 1) → IsPair h' s.heap.objs.size x y → h'.objs.size = s.heap.objs.size + 1 →
      (∀ c o, c ≠ z → c ≠ i1 → c ≠ i2 → s.heap.get? c = some o → h'.get? c = some o) → Q (some (.ref s.heap.objs.size)) { s with heap := h' }) :
    wpAny (model prog w) A (pyNext (.ref z)) Q E s := by
  have hTy : s.TypeIs (.ref z) "zip" := ⟨_, hz, rfl⟩
  unfold pyNext
  exact wpAny_bind (wpAny_attempt (wpAny_callSpecial?_slot (name := Str.ofString "__next__") hTy F.slot_zip_next
    (wpAny_call_entry F.slot_zip_next hTy F.entry_zip_next
      (zipT_item_held D hz hT hTI h1 h2 hl1 hl2 hx hy fun h' a1 a3 a4 a5 a6 a7 => wpAny_pure (hQ h' a1 a3 a4 a5 a6 a7)) (F.args_zip_next_1 _))))
theorem pyNext_zipT_end_held {z TI TO T i1 i2 l1 l2 : Addr} {f : Bool} {oT : Obj} {k1 k2 : Nat} {xs ys : Array Value} {Q : Option Value → Shared → Prop} (hh : A.handled = none) (D : ZipApart z TI TO i1 i2 l1 l2)
    (hz : IsZipHeld s.heap z TI TO T f) (hT : s.heap.get? T = some oT) (hTI : IsPair s.heap TI (.ref i1) (.ref i2))
    (h1 : s.heap.IsTupleIter i1 l1 k1) (h2 : s.heap.IsTupleIter i2 l2 k2) (hl1 : s.heap.IsTuple l1 xs) (hl2 : s.heap.IsTuple l2 ys) (hend : xs[k1]? = none ∨ ys[k2]? = none)
    (hQ : ∀ h', (∀ c o, c ≠ z → c ≠ i1 → c ≠ i2 → s.heap.get? c = some o → h'.get? c = some o) → Q none { s with heap := h' }) : wpAny (model prog w) A (pyNext (.ref z)) Q E s := by
  have hTy : s.TypeIs (.ref z) "zip" := ⟨_, hz, rfl⟩
  unfold pyNext
  refine wpAny_bind (wpAny_attempt (wpAny_callSpecial?_slot (name := Str.ofString "__next__") hTy F.slot_zip_next
    (wpAny_call_entry F.slot_zip_next hTy F.entry_zip_next (zipT_end_held hh D hz hT hTI h1 h2 hl1 hl2 hend fun h' e hk he => ?_) (F.args_zip_next_1 _))))
  obtain ⟨o, ho, hc⟩ := he
  refine wpAny_bind (wpAny_isInstance (T := "StopIteration") (b := true) ⟨o, ho, hc⟩ isSubtype_stop ?_)
  exact wpAny_pure (hQ _ hk)
end
theorem zip_no_len : typeLookup (.type "zip") "__len__" = pure none := am_miss_of_fast (by decide +kernel)
theorem zip_no_hint : typeLookup (.type "zip") "__length_hint__" = pure none := am_miss_of_fast (by decide +kernel)
end RZ
namespace RZ
open PySem PySem.Spec PyProof.Rows L2 PySem.W
/-- the state of a zip of tuples whose items are held by the list S -/
def ZSt (h : Heap) (z TI TO i1 i2 l1 l2 S : Addr) (xs ys : Array Value) (i : Nat) : Prop :=
  IsPair h TI (.ref i1) (.ref i2) ∧ h.IsTupleIter i1 l1 i ∧ h.IsTupleIter i2 l2 i ∧ h.IsTuple l1 xs ∧ h.IsTuple l2 ys ∧
    ((IsZip h z TI TO .none ∧ ∃ a b, IsPair h TO a b) ∨ ∃ T f oT, IsZipHeld h z TI TO T f ∧ h.get? T = some oT ∧ T ≠ z ∧ T ≠ i1 ∧ T ≠ i2 ∧ T ≠ S)
structure ZG (xs ys : Array Value) (lo : Addr) (h : Heap) (as : List Addr) : Prop where
  rise : as.Pairwise (· < ·)
  above : ∀ a ∈ as, lo < a
  pairs : ∀ (j : Nat) (a : Addr), as[j]? = some a → ∃ x y, xs[j]? = some x ∧ ys[j]? = some y ∧ h.get? a = some { cls := .type "tuple", data := .seq #[x, y] }
theorem ZG.there {xs ys : Array Value} {lo : Addr} {h : Heap} {as : List Addr} (g : ZG xs ys lo h as) {a : Addr} (ha : a ∈ as) : a < h.objs.size := by
  obtain ⟨j, hj⟩ := List.mem_iff_getElem?.mp ha
  obtain ⟨_, _, _, _, e⟩ := g.pairs j a hj
  exact Heap.lt_size e
/-- what no turn touches -/
def ZOut (z TO i1 i2 S : Addr) (b : Addr) : Prop := b ≠ z ∧ b ≠ TO ∧ b ≠ i1 ∧ b ≠ i2 ∧ b ≠ S
section
variable {prog : Program} {w : World} {A : Around} {E : Value → Shared → Prop} {s : Shared} {z TI TO i1 i2 l1 l2 S : Addr} {xs ys : Array Value}
structure ZSep (z TI TO i1 i2 l1 l2 S : Addr) : Prop where
  D : ZipApart z TI TO i1 i2 l1 l2
  zS : z ≠ S
  TIS : TI ≠ S
  TOS : TO ≠ S
  i1S : i1 ≠ S
  i2S : i2 ≠ S
  l1S : l1 ≠ S
  l2S : l2 ≠ S
theorem ZSt.push {h h' : Heap} {i : Nat} (x : ZSt h z TI TO i1 i2 l1 l2 S xs ys i) (P : ZSep z TI TO i1 i2 l1 l2 S) (hk : ∀ b o, b ≠ S → h.get? b = some o → h'.get? b = some o) : ZSt h' z TI TO i1 i2 l1 l2 S xs ys i := by
  obtain ⟨hTI, h1, h2, hl1, hl2, hz⟩ := x
  refine ⟨hk _ _ P.TIS hTI, h1.at fun o e => hk _ o P.i1S e, h2.at fun o e => hk _ o P.i2S e, hl1.at fun o e => hk _ o P.l1S e, hl2.at fun o e => hk _ o P.l2S e, ?_⟩
  rcases hz with ⟨hz, a, b, hTO⟩ | ⟨T, f, oT, hz, hT, r1, r2, r3, r4⟩
  · exact .inl ⟨hk _ _ P.zS hz, a, b, hk _ _ P.TOS hTO⟩
  · exact .inr ⟨T, f, oT, hk _ _ P.zS hz, hk _ _ r4 hT, r1, r2, r3, r4⟩
theorem zst_item {i : Nat} {x y : Value} {Q : Option Value → Shared → Prop} (P : ZSep z TI TO i1 i2 l1 l2 S) (hS : S < s.heap.objs.size) (st : ZSt s.heap z TI TO i1 i2 l1 l2 S xs ys i) (ex : xs[i]? = some x) (ey : ys[i]? = some y)
    (hQ : ∀ h', ZSt h' z TI TO i1 i2 l1 l2 S xs ys (i + 1) → h'.get? s.heap.objs.size = some { cls := .type "tuple", data := .seq #[x, y] } → h'.objs.size = s.heap.objs.size + 1 →
      (∀ c o, c ≠ z → c ≠ TO → c ≠ i1 → c ≠ i2 → s.heap.get? c = some o → h'.get? c = some o) → Q (some (.ref s.heap.objs.size)) { s with heap := h' }) : wpAny (model prog w) A (pyNext (.ref z)) Q E s := by
  have D := P.D
  obtain ⟨hTI, h1, h2, hl1, hl2, hz⟩ := st
  have lt : ∀ {c o}, s.heap.get? c = some o → s.heap.objs.size ≠ c := fun e => Nat.ne_of_gt (Heap.lt_size e)
  have n1 : s.heap.objs.size ≠ i1 := let ⟨_, e, _⟩ := h1; lt e
  have n2 : s.heap.objs.size ≠ i2 := let ⟨_, e, _⟩ := h2; lt e
  rcases hz with ⟨hz, a, b, hTO⟩ | ⟨T, f, oT, hz, hT, r1, r2, r3, r4⟩
  · refine pyNext_zipT_item D hz hTI hTO h1 h2 hl1 hl2 ex ey fun h' a1 a2 a3 a4 a5 a6 hk => ?_
    exact hQ h' ⟨hk _ _ D.TIz D.TITO D.TIi1 D.TIi2 hTI, a3, a4, hl1.at fun o e => hk _ o D.l1z D.l1TO D.l1i1 D.l1i2 e, hl2.at fun o e => hk _ o D.l2z D.l2TO D.l2i1 D.l2i2 e,
        .inr ⟨s.heap.objs.size, false, _, a1, a5, lt hz, n1, n2, Nat.ne_of_gt hS⟩⟩ a5 a6 hk
  · refine pyNext_zipT_item_held D hz hT hTI h1 h2 hl1 hl2 ex ey fun h' a1 a3 a4 a5 a6 hk => ?_
    exact hQ h' ⟨hk _ _ D.TIz D.TIi1 D.TIi2 hTI, a3, a4, hl1.at fun o e => hk _ o D.l1z D.l1i1 D.l1i2 e, hl2.at fun o e => hk _ o D.l2z D.l2i1 D.l2i2 e,
        .inr ⟨T, true, oT, a1, hk _ _ r1 r2 r3 hT, r1, r2, r3, r4⟩⟩ a5 a6 fun c o c1 _ c3 c4 e => hk c o c1 c3 c4 e
theorem zst_end {i : Nat} {Q : Option Value → Shared → Prop} (hA : A.handled = none) (P : ZSep z TI TO i1 i2 l1 l2 S) (st : ZSt s.heap z TI TO i1 i2 l1 l2 S xs ys i) (hend : xs[i]? = none ∨ ys[i]? = none)
    (hQ : ∀ h', (∀ c o, c ≠ z → c ≠ TO → c ≠ i1 → c ≠ i2 → s.heap.get? c = some o → h'.get? c = some o) → Q none { s with heap := h' }) : wpAny (model prog w) A (pyNext (.ref z)) Q E s := by
  have D := P.D
  obtain ⟨hTI, h1, h2, hl1, hl2, hz⟩ := st
  rcases hz with ⟨hz, a, b, hTO⟩ | ⟨T, f, oT, hz, hT, r1, r2, r3, r4⟩
  · exact pyNext_zipT_end hA D hz hTI hTO h1 h2 hl1 hl2 hend hQ
  · exact pyNext_zipT_end_held hA D hz hT hTI h1 h2 hl1 hl2 hend fun h' hk => hQ h' fun c o c1 _ c3 c4 e => hk c o c1 c3 c4 e
theorem zl_loop {R : Result → Shared → Prop} (hh : A.handled = none) (P : ZSep z TI TO i1 i2 l1 l2 S) (hn : min xs.size ys.size ≤ sizeLine) (res : Value) {h₁ : Heap} {lo : Addr}
    (hR : ∀ h' tk acc c as, (∀ b o, ZOut z TO i1 i2 S b → h₁.get? b = some o → h'.get? b = some o) → h'.get? S = some { cls := .type "list", dict := none, data := .seq acc c, slots := #[] } → as.length = min xs.size ys.size → ZG xs ys lo h' as →
      acc.toList = as.map Value.ref → R (.ok (.ret res)) { s with heap := h', toks := tk }) (zlo : z ≤ lo) (TOlo : TO ≤ lo) (i1lo : i1 ≤ lo) (i2lo : i2 ≤ lo) (Slo : S ≤ lo) :
    ∀ (k i : Nat) (h : Heap) (tk c : Nat) (acc : Array Value) (as : List Addr), min xs.size ys.size - i = k → i ≤ min xs.size ys.size → ZSt h z TI TO i1 i2 l1 l2 S xs ys i → (∀ b o, ZOut z TO i1 i2 S b → h₁.get? b = some o → h.get? b = some o) →
      h.get? S = some { cls := .type "list", dict := none, data := .seq acc c, slots := #[] } → acc.toList = as.map Value.ref → as.length = i → ZG xs ys lo h as → lo < h.objs.size →
      codeAny (model prog w) A (.builtin "list.extend.loop" ⟨[.ref S, .ref z, res], []⟩) R { s with heap := h, toks := tk } := by
  intro k
  induction k with
  | zero =>
    intro i h tk c acc as hk hi hst hkeep hS hacc hal hG hlo
    have hin : i = min xs.size ys.size := by omega
    refine codeAny_builtin PySem.F.entry_extend_loop ?_
    rw [Around.under_plainId PySem.F.plain_extend_loop _]
    show wpAny _ A.in1 (pyNext (.ref z) >>= _) _ _ _
    have hend : xs[i]? = none ∨ ys[i]? = none := by
      subst hin
      rcases Nat.le_total xs.size ys.size with h | h
      · exact .inl (Array.getElem?_eq_none (by rw [Nat.min_eq_left h]; exact Nat.le_refl _))
      · exact .inr (Array.getElem?_eq_none (by rw [Nat.min_eq_right h]; exact Nat.le_refl _))
    refine wpAny_bind (zst_end (s := { s with heap := h, toks := tk }) (A := A.in1) hh P hst hend fun h' he => ?_)
    refine wpAny_pure (hR h' tk acc c as (fun b o ho e => he b o ho.1 ho.2.1 ho.2.2.1 ho.2.2.2.1 (hkeep b o ho e)) (he S _ P.zS.symm P.TOS.symm P.i1S.symm P.i2S.symm hS) (by omega) ⟨hG.rise, hG.above, fun j a hj => ?_⟩ hacc)
    obtain ⟨x, y, e1, e2, e3⟩ := hG.pairs j a hj
    have ha := hG.above a (List.mem_of_getElem? hj)
    exact ⟨x, y, e1, e2, he a _ (Nat.ne_of_gt (Nat.lt_of_le_of_lt zlo ha)) (Nat.ne_of_gt (Nat.lt_of_le_of_lt TOlo ha)) (Nat.ne_of_gt (Nat.lt_of_le_of_lt i1lo ha)) (Nat.ne_of_gt (Nat.lt_of_le_of_lt i2lo ha)) e3⟩
  | succ k ih =>
    intro i h tk c acc as hk hi hst hkeep hS hacc hal hG hlo
    have hltx : i < xs.size := by omega
    have hlty : i < ys.size := by omega
    have hsz : acc.size = i := by rw [← Array.length_toList, hacc, List.length_map, hal]
    refine codeAny_builtin PySem.F.entry_extend_loop ?_
    rw [Around.under_plainId PySem.F.plain_extend_loop _]
    show wpAny _ A.in1 (pyNext (.ref z) >>= _) _ _ _
    refine wpAny_bind (zst_item (s := { s with heap := h, toks := tk }) P (Heap.lt_size hS) hst (Array.getElem?_eq_getElem hltx) (Array.getElem?_eq_getElem hlty) fun h' hst' ht hz hkp => ?_)
    dsimp only at ht hz hkp ⊢
    have hS' := hkp S _ P.zS.symm P.TOS.symm P.i1S.symm P.i2S.symm hS
    have up : ∀ b o, b ≠ S → h'.get? b = some o → (h'.update S (Obj.mapSeq (·.push (Value.ref h.objs.size)))).get? b = some o := fun b o hb e => (Heap.get?_update_other _ _ (Ne.symm hb)).trans e
    have hSl : S < h.objs.size := Heap.lt_size hS
    show wpAny _ A.in1 (updateSeq S (·.push (Value.ref h.objs.size)) >>= _) _ _ _
    refine wpAny_bind ?_
    have eN : (h'.update S (Obj.mapSeq (·.push (Value.ref h.objs.size)))).get? h.objs.size = _ := up _ _ (Nat.ne_of_gt hSl) ht
    refine wpAny_updateSeq hS' rfl (wpAny_pure ⟨plainId_quiet PySem.F.plain_extend_loop _, ih (i + 1) _ tk _ (acc.push (Value.ref h.objs.size)) (as ++ [h.objs.size]) (by omega) (by omega) (hst'.push P up)
      (fun b o ho e => up b o ho.2.2.2.2 (hkp b o ho.1 ho.2.1 ho.2.2.1 ho.2.2.2.1 (hkeep b o ho e))) (Heap.get?_update_self _ hS' rfl) (by rw [Array.toList_push, hacc, List.map_append]; rfl) (by rw [List.length_append, hal]; rfl) ⟨?_, ?_, ?_⟩ (Nat.lt_trans hlo (Heap.lt_size eN))⟩) (by rw [hsz]; omega) (by show (acc.push (Value.ref h.objs.size)).size ≤ sizeLine + 1; rw [Array.size_push, hsz]; omega)
    · refine List.pairwise_append.mpr ⟨hG.rise, List.pairwise_singleton _ _, fun a ha b hb => ?_⟩
      rw [List.mem_singleton.mp hb]
      exact hG.there ha
    · intro a ha
      rcases List.mem_append.mp ha with ha | ha
      · exact hG.above a ha
      · rw [List.mem_singleton.mp ha]; exact hlo
    · intro j b hj
      rcases Nat.lt_trichotomy j as.length with h1 | h1 | h1
      · rw [List.getElem?_append_left h1] at hj
        obtain ⟨x, y, e1, e2, e3⟩ := hG.pairs j b hj
        have hb := hG.above b (List.mem_of_getElem? hj)
        exact ⟨x, y, e1, e2, up b _ (Nat.ne_of_gt (Nat.lt_of_le_of_lt Slo hb)) (hkp b _ (Nat.ne_of_gt (Nat.lt_of_le_of_lt zlo hb)) (Nat.ne_of_gt (Nat.lt_of_le_of_lt TOlo hb)) (Nat.ne_of_gt (Nat.lt_of_le_of_lt i1lo hb)) (Nat.ne_of_gt (Nat.lt_of_le_of_lt i2lo hb)) e3)⟩
      · subst h1
        have hb : h.objs.size = b := by simpa using hj
        subst hb
        subst hal
        exact ⟨_, _, Array.getElem?_eq_getElem hltx, Array.getElem?_eq_getElem hlty, eN⟩
      · have hnone : (as ++ [h.objs.size])[j]? = none := List.getElem?_eq_none (by rw [List.length_append, List.length_singleton]; omega)
        rw [hnone] at hj; cases hj
end
end RZ
namespace RZ
open PySem PySem.Spec PyProof.Rows L2 PySem.W
section
variable {prog : Program} {w : World} {A : Around} {E : Value → Shared → Prop} {s : Shared} {z TI TO i1 i2 l1 l2 : Addr} {xs ys : Array Value}
theorem zl_call {Q : Value → Shared → Prop} (hh : A.handled = none) (D : ZipApart z TI TO i1 i2 l1 l2) (hz : IsZip s.heap z TI TO .none) (hTI : IsPair s.heap TI (.ref i1) (.ref i2)) (hTO : ∃ a b, IsPair s.heap TO a b)
    (h1 : s.heap.IsTupleIter i1 l1 0) (h2 : s.heap.IsTupleIter i2 l2 0) (hl1 : s.heap.IsTuple l1 xs) (hl2 : s.heap.IsTuple l2 ys) (hn : min xs.size ys.size ≤ sizeLine)
    (hQ : ∀ h' tk acc c as, (∀ b o, b ≠ z → b ≠ TO → b ≠ i1 → b ≠ i2 → s.heap.get? b = some o → h'.get? b = some o) → h'.get? s.heap.objs.size = some { cls := .type "list", dict := none, data := .seq acc c, slots := #[] } → as.length = min xs.size ys.size → ZG xs ys s.heap.objs.size h' as →
      acc.toList = as.map Value.ref → Q (.ref s.heap.objs.size) { s with heap := h', toks := tk }) :
    wpAny (model prog w) A (call (.type "list") [.ref z]) Q E s := by
  have lt : ∀ {c o}, s.heap.get? c = some o → c ≠ s.heap.objs.size := fun e => Nat.ne_of_lt (Heap.lt_size e)
  have zl := Heap.lt_size hz
  have TIl := Heap.lt_size hTI
  obtain ⟨a0, b0, hTO⟩ := hTO
  have TOl := Heap.lt_size hTO
  have i1l : i1 < s.heap.objs.size := let ⟨_, e, _⟩ := h1; Heap.lt_size e
  have i2l : i2 < s.heap.objs.size := let ⟨_, e, _⟩ := h2; Heap.lt_size e
  have l1l : l1 < s.heap.objs.size := let ⟨_, e, _⟩ := hl1; Heap.lt_size e
  have l2l : l2 < s.heap.objs.size := let ⟨_, e, _⟩ := hl2; Heap.lt_size e
  have P : ZSep z TI TO i1 i2 l1 l2 s.heap.objs.size := ⟨D, Nat.ne_of_lt zl, Nat.ne_of_lt TIl, Nat.ne_of_lt TOl, Nat.ne_of_lt i1l, Nat.ne_of_lt i2l, Nat.ne_of_lt l1l, Nat.ne_of_lt l2l⟩
  have st0 : ZSt s.heap z TI TO i1 i2 l1 l2 s.heap.objs.size xs ys 0 := ⟨hTI, h1, h2, hl1, hl2, .inl ⟨hz, a0, b0, hTO⟩⟩
  refine callType_codes (Q₁ := fun obj s₁ => obj = .ref s.heap.objs.size ∧ s₁ = { s with heap := s.heap.push { cls := .type "list", data := .seq #[] } }) F.called_list (F.typeCall_list_1 _) F.entry_list_init
    (code_list_new _ ⟨rfl, rfl⟩) fun obj s₁ h₁ => ?_
  obtain ⟨rfl, rfl⟩ := h₁
  have hS : (s.heap.push { cls := .type "list", data := .seq #[] }).get? s.heap.objs.size = some { cls := .type "list", data := .seq #[] } := Heap.get?_push_size _ rfl
  refine ⟨⟨_, hS, rfl⟩, F.args_list_init_2 _ _, ?_⟩
  show wpAny _ A.in1.in1 (do let old ← Builtin.List.listItems (.ref s.heap.objs.size); Builtin.List.listUpdate (.ref s.heap.objs.size) (fun _ => #[]); letGo old.toList.reverse; Builtin.List.listExtendWith (.ref s.heap.objs.size) (.ref z) .none) _ _ _
  refine wpAny_bind ?_
  unfold Builtin.List.listItems
  refine wpAny_bind (wpAny_seqItems hS rfl (wpAny_pure ?_))
  show wpAny _ A.in1.in1 (updateSeq s.heap.objs.size (fun _ => #[]) >>= fun _ => letGo (#[] : Array Value).toList.reverse >>= fun _ => Builtin.List.listExtendWith (.ref s.heap.objs.size) (.ref z) .none) _ _ _
  refine wpAny_bind (wpAny_updateSeq hS rfl ?_)
  have hS2 := Heap.get?_update_self (Obj.mapSeq (fun _ => (#[] : Array Value))) hS rfl
  refine wpAny_bind (wpAny_letGo ?_)
  unfold Builtin.List.listExtendWith
  have up : ∀ (h : Heap) (f : Obj → Obj), (∀ b o, s.heap.get? b = some o → h.get? b = some o) → ∀ b o, s.heap.get? b = some o → (h.update s.heap.objs.size f).get? b = some o := fun h f q b o e =>
    (Heap.get?_update_other _ _ (Ne.symm (lt e))).trans (q b o e)
  have k1 : ∀ b o, s.heap.get? b = some o → (s.heap.push { cls := .type "list", data := .seq #[] }).get? b = some o := fun b o e => Heap.get?_push_of_some _ e
  have k2 := up _ (Obj.mapSeq (fun _ => (#[] : Array Value))) k1
  refine wpAny_bind (wpAny_typeOf (T := "zip") ⟨_, k2 _ _ hz, rfl⟩ ?_)
  have e1 : Builtin.List.listSameRef (.ref s.heap.objs.size) (.ref z) = false := by simp [Builtin.List.listSameRef, Nat.ne_of_gt zl]
  have e2 : (Value.type "zip" == Value.type "list") = false := by decide
  have e3 : (Value.type "zip" == Value.type "tuple") = false := by decide
  simp only [e1, e2, e3, Bool.or_false, Bool.false_eq_true, if_false]
  refine wpAny_bind (wpAny_pyIter_zip (k2 _ _ hz) ?_)
  refine wpAny_bind (wpAny_holding ?_)
  unfold Builtin.List.listLengthHint
  refine wpAny_bind (wpAny_specialOf (T := "zip") ⟨_, k2 _ _ hz, rfl⟩ zip_no_len ?_)
  show wpAny _ A.in1.in1 (specialOf (Value.ref z) (Str.ofString "__length_hint__") >>= _) _ _ _
  refine wpAny_bind (wpAny_specialOf (T := "zip") ⟨_, k2 _ _ hz, rfl⟩ zip_no_hint ?_)
  refine wpAny_pure ?_
  show wpAny _ A.in1.in1 (rule "list.extend.makes-room" >>= fun _ => Builtin.List.listTouch (.ref s.heap.objs.size) >>= fun _ =>
    again (.builtin "list.extend.loop" ⟨[.ref s.heap.objs.size, .ref z, .none], []⟩)) _ _ _
  refine wpAny_bind (wpAny_rule ?_)
  refine wpAny_bind ?_
  show wpAny _ A.in1.in1 (updateSeq s.heap.objs.size (·.push .none) >>= fun _ => updateSeq s.heap.objs.size (·.pop)) _ _ _
  refine wpAny_bind (wpAny_updateSeq hS2 rfl ?_)
  have hS3 := Heap.get?_update_self (Obj.mapSeq (·.push Value.none)) hS2 rfl
  refine wpAny_updateSeq (hz := by seq_fits) hS3 rfl ?_
  have hS4 := Heap.get?_update_self (Obj.mapSeq (·.pop)) hS3 rfl
  have k4 := up _ (Obj.mapSeq (·.pop)) (up _ (Obj.mapSeq (·.push Value.none)) k2)
  refine wpAny_pure ⟨plainId_quiet F.plain_extend_loop _, ?_⟩
  refine zl_loop (A := A.in1) (h₁ := s.heap) (lo := s.heap.objs.size) (s := s) hh P hn .none (fun h' tk acc c as hk hS' hl hG hacc => ⟨rfl, hQ h' tk acc c as (fun b o n1 n2 n3 n4 e => hk b o ⟨n1, n2, n3, n4, lt e⟩ e) hS' hl hG hacc⟩)
    (Nat.le_of_lt zl) (Nat.le_of_lt TOl) (Nat.le_of_lt i1l) (Nat.le_of_lt i2l) (Nat.le_refl _) _ 0 _ _ _ #[] [] rfl (Nat.zero_le _) (st0.push P fun b o _ e => k4 b o e) (fun b o _ e => k4 b o e) hS4 rfl rfl ⟨List.Pairwise.nil, (fun _ ha => nomatch ha), (fun j a hj => by simp at hj)⟩ (Heap.lt_size hS4)
end
end RZ
namespace RZ
open PySem PySem.Spec PyProof.Rows L2
/-- the pairs tracked at their addresses -/
def putP : Hp → List Addr → List (V × V) → Hp
  | H, a :: as, p :: ps => putP (upd H a (.tup [p.1, p.2])) as ps
  | H, _, _ => H
theorem putP_off {b : Addr} : ∀ (as : List Addr) (ps : List (V × V)) (H : Hp), b ∉ as → putP H as ps b = H b
  | [], _, _, _ => rfl
  | _ :: _, [], _, _ => rfl
  | a :: as, p :: ps, H, h => by
    show putP (upd H a (.tup [p.1, p.2])) as ps b = H b
    rw [putP_off as ps _ (fun z => h (List.mem_cons_of_mem _ z)), upd_ne (fun z => h (by rw [z]; exact List.mem_cons_self))]
theorem putP_at : ∀ (as : List Addr) (ps : List (V × V)) (H : Hp), as.length = ps.length → as.Nodup → Paired (fun (t : Addr) (p : V × V) => putP H as ps t = some (.tup [p.1, p.2])) as ps
  | [], [], _, _, _ => .nil
  | [], _ :: _, _, h, _ => by cases h
  | _ :: _, [], _, h, _ => by cases h
  | a :: as, p :: ps, H, h, hn => by
    have hn' := List.nodup_cons.mp hn
    have ih := putP_at as ps (upd H a (.tup [p.1, p.2])) (Nat.succ.inj h) hn'.2
    refine .cons ?_ ih
    show putP (upd H a (.tup [p.1, p.2])) as ps a = some (.tup [p.1, p.2])
    rw [putP_off as ps _ hn'.1, upd_same]
theorem vals_refs : ∀ as : List Addr, Vals (as.map V.ref) (as.map Value.ref)
  | [] => .nil
  | _ :: as => .cons rfl (vals_refs as)
theorem paired_ix {α β : Type} {F : α → β → Prop} : ∀ {xs : List α} {ys : List β}, Paired F xs ys → ∀ {x : α}, x ∈ xs → ∃ (j : Nat) (y : β), xs[j]? = some x ∧ ys[j]? = some y ∧ F x y
  | _, _, .cons h t, x, hx => by
    rcases List.mem_cons.mp hx with e | hx
    · rw [e]
      exact ⟨0, _, rfl, rfl, h⟩
    · obtain ⟨j, y, e1, e2, e3⟩ := paired_ix t hx
      exact ⟨j + 1, y, e1, e2, e3⟩
section
variable {X : Cx}
theorem pairs_laid {pins : List (Addr × Obj)} {σ : L2.St} {H : Hp} {s : Shared} {h' : Heap} {tk : Nat} {xs ys : List V} {ix iy : List Value} {acc : Array Value} {c : Nat} {as : List Addr} (I : Inv X pins σ H s) (hz : min xs.length ys.length ≤ sizeLine) (vx : Vals xs ix) (vy : Vals ys iy)
    {S : Addr} (hSs : s.heap.objs.size ≤ S) (hk : ∀ b o, s.heap.get? b = some o → h'.get? b = some o) (hS : h'.get? S = some { cls := .type "list", dict := none, data := .seq acc c, slots := #[] }) (hl : as.length = min ix.length iy.length) (hG : ZG ix.toArray iy.toArray S h' as) (hacc : acc.toList = as.map Value.ref) :
    H S = none ∧ (∀ t ∈ as, H t = none) ∧ S ∉ as ∧ as.Nodup ∧ as.length = (xs.zip ys).length ∧ Inv X pins σ (putP (upd H S (.lst (as.map V.ref))) as (xs.zip ys)) { s with heap := h', toks := tk } := by
  have lx := vx.length
  have ly := vy.length
  have lz : as.length = (xs.zip ys).length := by rw [List.length_zip]; omega
  have hSn : S ∉ as := fun z => Nat.lt_irrefl _ (hG.above _ z)
  have nd : as.Nodup := List.Pairwise.imp (fun {a b} (h : a < b) => Nat.ne_of_lt h) hG.rise
  have new : ∀ t ∈ as, H t = none := fun t ht => I.hok.fresh (Nat.le_trans hSs (Nat.le_of_lt (hG.above t ht)))
  have newS : H S = none := I.hok.fresh hSs
  have atP := putP_at as (xs.zip ys) (upd H S (.lst (as.map V.ref))) lz nd
  have off : ∀ b, b ∉ as → b ≠ S → putP (upd H S (.lst (as.map V.ref))) as (xs.zip ys) b = H b := fun b h1 h2 => by rw [putP_off as _ _ h1, upd_ne h2]
  have low : ∀ b o, s.heap.get? b = some o → b ∉ as ∧ b ≠ S := fun b o e => ⟨fun z => absurd (Heap.lt_size e) (Nat.not_lt.mpr (Nat.le_trans hSs (Nat.le_of_lt (hG.above b z)))), Nat.ne_of_lt (Nat.lt_of_lt_of_le (Heap.lt_size e) hSs)⟩
  have kp : ∀ b u, H b = some u → (putP (upd H S (.lst (as.map V.ref))) as (xs.zip ys)) b = some u := fun b u e => by
    rw [off b (fun z => by rw [new b z] at e; cases e) (fun z => by rw [z, newS] at e; cases e)]
    exact e
  have eS : putP (upd H S (.lst (as.map V.ref))) as (xs.zip ys) S = some (.lst (as.map V.ref)) := by rw [putP_off as _ _ hSn, upd_same]
  refine ⟨newS, new, hSn, nd, lz, ?_⟩
  refine I.call' (ch := []) rfl ⟨fun b o q _ _ _ => hk b o q, fun b o q _ _ _ => ⟨o.slots, hk b o q⟩, fun b o q n _ => ?_, fun b o q _ => ⟨o, hk b o q⟩, fun b xs q => kp b _ q, fun b o u q => kp b _ q, fun b ps q => ⟨#[], by rw [kp b _ q]; simp⟩⟩ (fun b u q => ?_) I.bare fun b z => by simp at z
  · obtain ⟨z1, z2⟩ := low b o q
    rw [off b z1 z2]
    exact n
  · by_cases hb : b ∈ as
    · obtain ⟨j, pk, e1, e2, e3⟩ := paired_ix atP hb
      rw [e3] at q
      cases q
      obtain ⟨x, y, f1, f2, f3⟩ := hG.pairs j b e1
      rw [List.getElem?_zip_eq_some] at e2
      obtain ⟨u, g1, g2⟩ := vx.get e2.1
      obtain ⟨u', g1', g2'⟩ := vy.get e2.2
      have h1 : ix[j]? = some x := by simpa using f1
      have h2 : iy[j]? = some y := by simpa using f2
      rw [g1] at h1; cases h1
      rw [g1'] at h2; cases h2
      exact ⟨by show 2 ≤ sizeLine; decide, [_, _], .cons g2 (.cons g2' .nil), ⟨_, f3, rfl, _, rfl⟩⟩
    · by_cases hb2 : b = S
      · rw [hb2] at q ⊢
        rw [eS] at q
        cases q
        refine ⟨by rw [List.length_map]; omega, acc.toList, c, by rw [hacc]; exact vals_refs as, ?_⟩
        rw [Array.toArray_toList]
        exact hS
      · rw [off b hb hb2] at q
        exact (I.hok b u q).stay (fun d v _ y => hk d v y) (fun d y => kp d _ y) fun d xs y => kp d _ y
def tListZip (K : PySem.W.Frag) (ta : TA) : TE := fun σ H Q => ta σ H fun vs H1 => ∃ (a b : Addr) (xs ys : List V), vs = [.ref a, .ref b] ∧ SqT K H1 a xs ∧ SqT K H1 b ys ∧ min xs.length ys.length ≤ sizeLine ∧
  ∀ (p : Addr) (ts : List Addr), H1 p = none → (∀ t ∈ ts, H1 t = none) → p ∉ ts → ts.Nodup → ts.length = (xs.zip ys).length → Q (.ref p) (putP (upd H1 p (.lst (ts.map V.ref))) ts (xs.zip ys))
theorem pe_listZip {e e2 : Expr} {ta : TA} {p p2 pos pos2 : Pos} (hc : X.calm = true) (ha : PA X [e, e2] ta) (hg : Gl X "list") (hm : X.mg "list" = none) (hg2 : Gl X "zip") (hm2 : X.mg "zip" = none)
    (hs : starEach [e, e2] X.env = (false, eval e X.env) :: starEach [e2] X.env := by rfl) (hpl : (backTo pos2 (starEach [e2] X.env)).any (·.1) = false := by rfl) :
    PE X (.Call (.Name "list" p) [.Call (.Name "zip" p2) [e, e2] [] pos2] [] pos) (tListZip X.K ta) := by
  refine ⟨fun pins s σ H Q I hq => ?_⟩
  have hs0 : starEach [.Call (.Name "zip" p2) [e, e2] [] pos2] X.env = (false, eval (.Call (.Name "zip" p2) [e, e2] [] pos2) X.env) :: starEach [] X.env := rfl
  refine wpAny_Call_Name_kw (ld_blt I hg hm PyProof.Rows.boot_list ?_)
  refine PyProof.Rows.callWith_type1 ?_ hs0 rfl
  rw [hs0]
  show wpAny _ _ (spliced ((false, eval (.Call (.Name "zip" p2) [e, e2] [] pos2) X.env) :: backTo pos (starEach [] X.env))) _ _ s
  refine Calls.spliced_cons ?_
  refine wpAny_Call_Name_kw (ld_blt I hg2 hm2 PyProof.Rows.boot_zip (PyProof.Rows.callWith_type1 (thn (ha.run pos2 pins s σ H _ I hq) fun us s1 ⟨vs, H1, I1, r1, q1⟩ => ?_) hs hpl))
  obtain ⟨a, b, xs, ys, ex, hqx, hqy, hle, q⟩ := q1
  subst ex
  cases r1 with
  | cons r rr =>
    cases rr with
    | cons r' rr =>
      cases rr
      cases r
      cases r'
      obtain ⟨its, rv, p1, _⟩ := I1.tuple hqx
      obtain ⟨its2, rv2, p3, _⟩ := I1.tuple hqy
      obtain ⟨o1, ho1, _⟩ := id p1
      obtain ⟨o2, ho2, _⟩ := id p3
      refine call_zipT (show s1.heap.IsTuple a its.toArray from p1) (show s1.heap.IsTuple b its2.toArray from p3) fun h' hz hTI hTO h1 h2 hsz hk => ?_
      have I2 : Inv X pins σ H1 { s1 with heap := h' } := I1.kept (t' := s1.toks) hk
      refine Calls.spliced_nil ?_
      have l1 := rv.length
      have l2 := rv2.length
      refine zl_call (s := { s1 with heap := h' }) (I1.ok.hd hc) (PySem.W.ktu_apart s1.heap.objs.size a b (Heap.lt_size ho1) (Heap.lt_size ho2)) hz hTI ⟨_, _, hTO⟩ h1 h2 (xs := its.toArray) (ys := its2.toArray) ((show s1.heap.IsTuple a its.toArray from p1).at fun o q => hk _ o q) ((show s1.heap.IsTuple b its2.toArray from p3).at fun o q => hk _ o q) (by simp only [List.size_toArray]; omega) fun h'' tk acc c as hk2 hS hl hG hacc => ?_
      have keep : ∀ b o, s1.heap.get? b = some o → h''.get? b = some o := fun b o q => hk2 b o (Nat.ne_of_lt (Nat.lt_of_lt_of_le (Heap.lt_size q) (Nat.le_add_right _ _))) (Nat.ne_of_lt (Nat.lt_of_lt_of_le (Heap.lt_size q) (Nat.le_add_right _ _))) (Nat.ne_of_lt (Heap.lt_size q)) (Nat.ne_of_lt (Nat.lt_of_lt_of_le (Heap.lt_size q) (Nat.le_add_right _ _))) (hk b o q)
      have hsz' : s1.heap.objs.size ≤ h'.objs.size := by rw [hsz]; omega
      obtain ⟨k1, k2, k3, k4, k5, J⟩ := pairs_laid (tk := tk) I1 hle rv rv2 hsz' keep hS (by simpa using hl) hG hacc
      exact ⟨.ref _, _, J, rfl, q _ as k1 k2 k3 k4 k5⟩
end
end RZ
namespace Rf
open PySem PySem.Spec PyProof.Rows L2
theorem walks_enumT {K : PySem.W.Frag} {G1 : Hp} {a : Addr} {xs : List V} {ds : List D} (ha : SqT K G1 a xs) (h : RpAll K G1 xs ds) : Walks K G1 (IteT K a) (count 0 ds) := fun G H i s1 s2 => by
  have hq : SqT K H a xs := s2.sqT (s1.sqT ha)
  refine ⟨fun d hd => ?_, fun hl => ⟨xs, hq, ?_⟩⟩
  · obtain ⟨x, e1, rfl⟩ := count_get hd
    obtain ⟨v, f1, r1⟩ := h.get e1
    refine ⟨⟨xs, v, hq, f1⟩, fun z H' q => ?_⟩
    obtain ⟨T, x1, rfl, n, rfl, q1⟩ := q
    have w1 := q1 xs hq
    rw [f1] at w1
    cases w1
    have sg := Sub.updF (HO.tup [V.int (i : Nat), v]) (s2.none n)
    have e0 : (0 : Int) + (i : Int) = ((i : Nat) : Int) := by omega
    rw [e0]
    exact ⟨_, .new s2 n _, .tup (.inl (.inl upd_same)) (.cons (.int _) (.cons (sg.rp (s1.rp r1)) .nil))⟩
  · rw [count_len] at hl
    rw [h.length]
    exact hl
theorem PI_no {X : Cx} {tg e : Expr} {K : PySem.W.Frag} {mg : Str → Option Value} {EX : XK} {G0 H0 : Hp} {ρ : Env} : PI X tg e (rdI K mg EX G0 H0 ρ .no) := ⟨fun _ _ _ _ _ _ ⟨_, _, p⟩ => p.elim⟩
theorem rdA_pe {X : Cx} {EX : XK} {G0 H0 : Hp} {ρ : Env} {ra : Res (List D)} {f : List D → Res D} {rr : List V → Hp → VK → Prop} (hr : ∀ xs ds G H Q, Sub G H → RpAll X.K G xs ds → PostE X.K X.mg EX (f ds) G H Q → rr xs H Q) {σ : L2.St} {H : Hp} {Q : VK}
    (q : rdE X.K X.mg EX G0 H0 ρ (ra >>= fun ds => f ds) σ H Q) : tCB rr (rdA X.K X.mg EX G0 H0 ρ ra) σ H Q := by
  obtain ⟨G, st, p⟩ := q
  exact ⟨G, st, Post.bind p fun xs ds G1 H1 e1 r1 er p1 => hr _ _ G1 H1 Q e1.inn r1 p1⟩
theorem rd_items {X : Cx} {tg e : Expr} {EX : XK} {G0 H0 : Hp} {ρ : Env} {r : Res D} (h : PE X e (rdE X.K X.mg EX G0 H0 ρ r)) : PI X tg e (rdI X.K X.mg EX G0 H0 ρ (r >>= fun x => itemsOf x)) := by
  cases r with
  | no => exact PI_no
  | er x => exact PI.imp (pi_list h) fun σ H R q => q
  | ok d =>
    cases d with
    | list ds =>
      refine PI.imp (pi_list h) fun σ H R ⟨G, st, p⟩ => ⟨G, st, fun v G' H' e r => ?_⟩
      have p1 : Post X.mg EX (fun G J ds => Walks X.K G J ds) (if ds.length ≤ LIM then .ok ds else .no) G H R := p
      split at p1
      · cases r
        rename_i a xs ha hds
        exact ⟨a, rfl, ⟨xs, (e.inn.ls ha).sq⟩, p1 _ _ _ e (walks_list ha hds)⟩
      · exact p1.elim
    | tuple ds =>
      refine PI.imp (pi_tup h) fun σ H R ⟨G, st, p⟩ => ⟨G, st, fun v G' H' e r => ?_⟩
      have p1 : Post X.mg EX (fun G J ds => Walks X.K G J ds) (if ds.length ≤ LIM then .ok ds else .no) G H R := p
      split at p1
      · cases r
        rename_i a xs ha hds
        exact ⟨a, rfl, ⟨xs, e.inn.sqT ha⟩, p1 _ _ _ e (walks_tup ha hds)⟩
      · exact p1.elim
    | _ => exact PI_no
theorem evEs_len {N : List Str} {sc : Scope} {ρ : Env} : ∀ {es : IEs} {xs : List Expr} {ds : List D}, evEs es ρ = .ok ds → chkEs N sc es xs = true → ds.length = xs.length
  | .nil, [], ds, h, _ => by simp only [evEs] at h; cases h; rfl
  | .nil, _ :: _, _, _, h => by simp [chkEs] at h
  | .cons a r, [], _, _, h => by simp [chkEs] at h
  | .cons a r, x :: xs, ds, h, h' => by
    simp only [chkEs, Bool.and_eq_true] at h'
    simp only [evEs] at h
    cases e : evE a ρ with
    | no => rw [e] at h; cases h
    | er x => rw [e] at h; cases h
    | ok d =>
      rw [e] at h
      simp only [Res.bind_ok] at h
      cases e2 : evEs r ρ with
      | no => rw [e2] at h; cases h
      | er x => rw [e2] at h; cases h
      | ok es =>
        rw [e2] at h
        cases h
        simp [evEs_len e2 h'.2.2]
theorem ext_putP {G0 H0 : Hp} : ∀ (ts : List Addr) (ps : List (V × V)) {G H : Hp}, Ext G0 H0 G H → (∀ t ∈ ts, H t = none) → ts.Nodup → Ext G0 H0 (RZ.putP G ts ps) (RZ.putP H ts ps)
  | [], _, _, _, e, _, _ => e
  | _ :: _, [], _, _, e, _, _ => e
  | t :: ts, p :: ps, G, H, e, hn, nd => by
    have nd' := List.nodup_cons.mp nd
    refine ext_putP ts ps (e.trans (.new e.inn (hn t List.mem_cons_self) (.tup [p.1, p.2]))) (fun u hu => ?_) nd'.2
    rw [upd_ne (fun z => nd'.1 (by rw [← z]; exact hu))]
    exact hn u (List.mem_cons_of_mem _ hu)
theorem rp_pairs {K : PySem.W.Frag} {G : Hp} : ∀ {xs ys : List V} {ts : List Addr} {ds es : List D}, Paired (fun (t : Addr) (q : V × V) => G t = some (.tup [q.1, q.2])) ts (xs.zip ys) → RpAll K G xs ds → RpAll K G ys es → RpAll K G (ts.map V.ref) (pairs ds es)
  | [], _, _, _, _, h, .nil, _ => by
    cases h
    cases ‹List D› <;> exact .nil
  | _ :: _, [], _, _, _, h, .cons _ _, .nil => by
    cases h
    exact .nil
  | x :: xs, y :: ys, _, _, _, h, .cons r1 r2, .cons q1 q2 => by
    cases h with
    | cons a b => exact .cons (.tup (.inl (.inl a)) (.cons r1 (.cons q1 .nil))) (rp_pairs b r2 q2)
theorem upto_rp {K : PySem.W.Frag} {G : Hp} (i : Int) : ∀ l : List Nat, RpAll K G (l.map fun (k : Nat) => V.int (i + (k : Int))) (l.map fun (k : Nat) => PyData.int (i + (k : Int)))
  | [] => .nil
  | k :: l => .cons (.int _) (upto_rp i l)
theorem neO_read {X : Cx} {EX : XK} {G0 H0 H : Hp} {ρ : Env} {σ : L2.St} {Q : VK} {i : Nat} {r : Res D} (hr : r = (match ρ[i]? with | some (.ow ds) => dCmp .NotEq (.list ds) (.list []) | some (.im d) => dCmp .NotEq d (.list []) | _ => .no)) (q : rdE X.K X.mg EX G0 H0 ρ r σ H Q) :
    ∃ v, σ[i]? = some (some v) ∧ ∀ a, H a = none → ∃ dx dy, Dp X.K (upd H a (.lst [])) v dx ∧ Dp X.K (upd H a (.lst [])) (.ref a) dy ∧ SeqAt.shaped dx = true ∧ SeqAt.shaped dy = true ∧ Q (.bl (!PyData.eqv dx dy)) (upd H a (.lst [])) := by
  subst hr
  obtain ⟨G, st, p⟩ := q
  have key : ∀ (v : V) (d : D), Rp X.K H v d → PostE X.K X.mg EX (dCmp .NotEq d (.list [])) G H Q → ∀ a, H a = none → ∃ dx dy, Dp X.K (upd H a (.lst [])) v dx ∧ Dp X.K (upd H a (.lst [])) (.ref a) dy ∧ SeqAt.shaped dx = true ∧ SeqAt.shaped dy = true ∧ Q (.bl (!PyData.eqv dx dy)) (upd H a (.lst [])) := by
    intro v d hv p a n
    have p1 : PostE X.K X.mg EX (if SeqAt.shaped d && SeqAt.shaped (.list []) then .ok (.bool (!PyData.eqv d (.list []))) else .no) G H Q := p
    split at p1
    · rename_i h
      rw [Bool.and_eq_true] at h
      refine ⟨d, .list [], ((Sub.upd _ n).rp hv).dp, (Rp.lst (.inl (.inl upd_same)) .nil).dp, h.1, h.2, ?_⟩
      exact p1 _ _ _ (Ext.new' st.subG n _) (.bl _)
    · exact p1.elim
  split at p
  · rename_i ds hd
    obtain ⟨a, vs, e1, e2, e3⟩ := own_read st hd
    exact ⟨_, e1, key _ _ (.lst (.inl (.inl e2)) (st.subG.rps e3)) p⟩
  · rename_i d hd
    obtain ⟨v, e1, e2⟩ := st.im i d hd
    exact ⟨_, e1, key _ _ (st.subG.rp e2) p⟩
  · exact p.elim
theorem keysC_some : ∀ {ks : List (Int ⊕ Str)} {es : List (Option Expr)}, keysC ks es = true → es.all (·.isSome) = true ∧ ks.length = es.length
  | [], [], _ => ⟨rfl, rfl⟩
  | k :: ks, some e :: es, h => by
    simp only [keysC, Bool.and_eq_true] at h
    obtain ⟨h1, h2⟩ := keysC_some h.2
    exact ⟨by simp only [List.all_cons, h1]; rfl, by simp [h2]⟩
  | [], _ :: _, h => by simp [keysC] at h
  | _ :: _, [], h => by simp [keysC] at h
  | _ :: _, none :: _, h => by simp [keysC] at h
def tKey (k : Int ⊕ Str) : TE := fun σ H Q => Q (kV k) H
theorem pe_key {X : Cx} {k : Int ⊕ Str} {e : Expr} (h : keyC k e = true) : PE X e (tKey k) := by
  cases k with
  | inl i =>
    unfold keyC at h
    split at h
    · rename_i j m p q heq
      cases heq
      rw [decide_eq_true_eq] at h
      subst h
      exact PE.imp pe_int fun σ H Q q => q
    · rename_i heq; cases heq
    · cases h
  | inr i =>
    unfold keyC at h
    split at h
    · rename_i heq; cases heq
    · rename_i j m p q heq
      cases heq
      rw [decide_eq_true_eq] at h
      subst h
      exact PE.imp pe_str fun σ H Q q => q
    · cases h
def trsOf (K : PySem.W.Frag) (mg : Str → Option Value) (EX : XK) (G0 H0 : Hp) (ρ : Env) : List (Int ⊕ Str) → IEs → List (TE × TE)
  | k :: ks, .cons e r => (tKey k, rdE K mg EX G0 H0 ρ (evE e ρ)) :: trsOf K mg EX G0 H0 ρ ks r
  | _, _ => []
theorem pairs_read {X : Cx} {EX : XK} {G0 H0 : Hp} {ρ : Env} {σ : L2.St} : ∀ (ks : List (Int ⊕ Str)) (vs : IEs) (es : List Expr) {N : List Str} {sc : Scope} {H : Hp} {Q : List (V × V) → Hp → Prop}, chkEs N sc vs es = true → ks.length = es.length →
    (∃ G, Stt X.K G0 H0 ρ σ G H ∧ PostA X.K X.mg EX (evEs vs ρ) G H fun xs H' => Q (ks.zip xs |>.map fun q => (kV q.1, q.2)) H') → tPairs (trsOf X.K X.mg EX G0 H0 ρ ks vs) σ H Q
  | [], .nil, es, N, sc, H, Q, hc, hl, ⟨G, st, p⟩ => by
    simp only [evEs] at p
    exact Post.now st.subG p .nil
  | [], .cons a r, [], N, sc, H, Q, hc, hl, _ => by simp [chkEs] at hc
  | [], .cons a r, _ :: _, N, sc, H, Q, hc, hl, _ => by simp at hl
  | k :: ks, .nil, [], N, sc, H, Q, hc, hl, _ => by simp at hl
  | k :: ks, .nil, _ :: _, N, sc, H, Q, hc, hl, _ => by simp [chkEs] at hc
  | k :: ks, .cons a r, [], N, sc, H, Q, hc, hl, _ => by simp at hl
  | k :: ks, .cons a r, e :: es, N, sc, H, Q, hc, hl, ⟨G, st, p⟩ => by
    simp only [chkEs, Bool.and_eq_true] at hc
    simp only [evEs] at p
    show tPairs ((tKey k, rdE X.K X.mg EX G0 H0 ρ (evE a ρ)) :: trsOf X.K X.mg EX G0 H0 ρ ks r) σ H Q
    rw [tPairs]
    refine ⟨G, st, Post.bind p fun x dx G1 H1 e1 r1 _ p1 => ?_⟩
    refine pairs_read ks r es hc.2.2 (by simpa using hl) ⟨G1, st.mono e1, Post.bind p1 fun xs dxs G2 H2 e2 r2 _ p2 => ?_⟩
    exact Post.now e2.inn p2 (.cons (e2.rp r1) r2)
theorem look_rp {K : PySem.W.Frag} {G : Hp} : ∀ {ks : List (Int ⊕ Str)} {xs : List V} {ds : List D} {j : Int ⊕ Str} {d : D}, RpAll K G xs ds → lookK ks ds j = some d → ∃ v, valV (ks.zip xs) j = some v ∧ Rp K G v d
  | [], xs, ds, j, d, _, h => by cases ds <;> simp [lookK] at h
  | k :: ks, _, _, j, d, .nil, h => by simp [lookK] at h
  | k :: ks, _, _, j, d, .cons a t, h => by
    simp only [lookK] at h
    split at h
    · rename_i e
      cases h
      exact ⟨_, valV_pos e, a⟩
    · rename_i e
      obtain ⟨v, h1, h2⟩ := look_rp t h
      exact ⟨v, by rw [List.zip_cons_cons, valV_neg e]; exact h1, h2⟩
theorem merge_nd : ∀ (kvs acc : List (L2.Key × V)), (acc.map (·.1) ++ kvs.map (·.1)).Nodup → mergeK acc kvs = acc ++ kvs
  | [], acc, _ => by simp [mergeK]
  | p :: r, acc, h => by
    have hn : valV acc p.1 = none := by
      cases e : valV acc p.1 with
      | none => rfl
      | some v =>
        have := valV_in e
        rw [List.nodup_append] at h
        exact absurd rfl (h.2.2 _ this p.1 (by simp))
    show mergeK (putK acc p.1 p.2) r = _
    rw [putK_new p.2 hn, merge_nd r]
    · simp
    · simpa using h
theorem look_none {K : PySem.W.Frag} {G : Hp} : ∀ {ks : List (Int ⊕ Str)} {xs : List V} {ds : List D} {j : Int ⊕ Str}, RpAll K G xs ds → lookK ks ds j = none → valV (ks.zip xs) j = none
  | [], xs, ds, j, _, _ => rfl
  | k :: ks, _, _, j, .nil, h => rfl
  | k :: ks, _, _, j, .cons a t, h => by
    simp only [lookK] at h
    split at h
    · cases h
    · rename_i e
      rw [List.zip_cons_cons, valV_neg e]
      exact look_none t h
/-- the display is made: what is known behind -/
theorem disp_read {X : Cx} {EX : XK} {G0 H0 H : Hp} {ρ : Env} {σ : L2.St} {Q : VK} {α β : Type} {R : Hp → β → α → Prop} {ks : List (Int ⊕ Str)} {vs : IEs} {es : List Expr} {N : List Str} {sc : Scope} {f : List D → Res α} {QQ : β → Hp → Prop} (hc : chkEs N sc vs es = true) (hl : ks.length = es.length) (nd : ks.Nodup) (h15 : ks.length ≤ 15) {G : Hp}
    (st : Stt X.K G0 H0 ρ σ G H) (p : Post X.mg EX R (evEs vs ρ >>= f) G H QQ)
    (k : ∀ (a : Addr) (xs : List V) (ds : List D) (G2 H2 : Hp), evEs vs ρ = .ok ds → RpAll X.K G2 xs ds → Ext G H G2 H2 → H2 a = some (.dK (ks.zip xs)) → Post X.mg EX R (f ds) G2 H2 QQ → Q (.ref a) H2) : tDisp (trsOf X.K X.mg EX G0 H0 ρ ks vs) σ H Q := by
  intro a na
  have ex0 : Ext G H G (upd H a (.dK [])) := Ext.new' st.subG na _
  refine pairs_read ks vs es hc hl ⟨G, st.mono ex0, Post.bind (Post.mono p ex0) fun xs ds G2 H2 e2 r2 er _ => ?_⟩
  have ha : H2 a = some (.dK []) := e2.sub.g upd_same
  have g2 : Fr G2 a := fun o q => by
    rw [e2.old a _ upd_same rfl] at q
    exact st.subG.none na o q
  have hz : ks.length = xs.length := by rw [r2.length, evEs_len er hc, hl]
  refine ⟨ha, ks.zip xs, rfl, by rw [List.length_zip]; omega, ?_⟩
  have nz : (ks.zip xs).map (·.1) = ks := by
    rw [List.map_fst_zip]; omega
  have em : mergeK [] (ks.zip xs) = ks.zip xs := by
    rw [merge_nd _ [] (by simpa [nz] using nd)]; rfl
  rw [em]
  have ex : Ext G H G2 (upd H2 a (.dK (ks.zip xs))) := by
    refine ⟨fun b o h t => ?_, ex0.subG.trans e2.subG, fun b o h t => ?_, fun b o h t => ?_, fun P h => tab_keep (fun b o h te => ?_) (e2.tab P (ex0.tab P h))⟩
    · rw [upd_ne (ne_of_none h na)]
      exact (ex0.sub.trans e2.sub).g h t
    · rw [upd_ne (g2.ne h t)]
      exact e2.inn.g h t
    · exact e2.old b o (ex0.sub.g h t) t
    · have hb : b ≠ a := fun z => by
        subst z; rw [ha] at h; cases h; cases te
      rw [upd_ne hb]; exact h
  rw [er] at p
  exact k a xs ds G2 _ er r2 ex upd_same (Post.mono (show Post X.mg EX R (f ds) G H QQ from p) ex)
theorem dix_read {X : Cx} {EX : XK} {G0 H0 H : Hp} {ρ : Env} {σ : L2.St} {Q : VK} {ks : List (Int ⊕ Str)} {vs : IEs} {es : List Expr} {N : List Str} {sc : Scope} {ra : Res D} (hc : chkEs N sc vs es = true) (hl : ks.length = es.length) (nd : ks.Nodup) (h15 : ks.length ≤ 15)
    (q : rdE X.K X.mg EX G0 H0 ρ (evEs vs ρ >>= fun ys => ra >>= fun x => dixK ks ys x) σ H Q) : tDGet (tDisp (trsOf X.K X.mg EX G0 H0 ρ ks vs)) (rdE X.K X.mg EX G0 H0 ρ ra) σ H Q := by
  obtain ⟨G, st, p⟩ := q
  refine disp_read hc hl nd h15 st p fun a xs ds G2 H2 er r2 ex ha p => ?_
  refine ⟨G2, st.mono ex, Post.bind p fun y dy G4 H4 e4 r4 _ p4 => ?_⟩
  have hk : ∃ k v d, y = kV k ∧ lookK ks ds k = some d ∧ dixK ks ds dy = .ok d ∧ valV (ks.zip xs) k = some v ∧ Rp X.K G2 v d := by
    have key : ∀ k, keyD dy = some k → y = kV k → ∃ k v d, y = kV k ∧ lookK ks ds k = some d ∧ dixK ks ds dy = .ok d ∧ valV (ks.zip xs) k = some v ∧ Rp X.K G2 v d := by
      intro k h1 h2
      cases h3 : lookK ks ds k with
      | none => simp only [dixK, h1, h3] at p4; exact p4.elim
      | some d =>
        obtain ⟨v, h4, h5⟩ := look_rp r2 h3
        exact ⟨k, v, d, h2, h3, by simp only [dixK, h1, h3], h4, h5⟩
    cases r4 <;> first | exact False.elim p4 | skip
    · exact key (.inl _) rfl rfl
    · exact key (.inr _) rfl rfl
  obtain ⟨k, v, d, h1, h2, h3, h4, h5⟩ := hk
  rw [h3] at p4
  exact ⟨a, v, rfl, .inl ⟨ks.zip xs, k, .inl (e4.sub.g ha), h1, h4.symm⟩, Post.now e4.inn p4 (e4.rp h5)⟩
theorem dgt_read {X : Cx} {EX : XK} {G0 H0 H : Hp} {ρ : Env} {σ : L2.St} {Q : VK} {ks : List (Int ⊕ Str)} {vs : IEs} {es : List Expr} {N : List Str} {sc : Scope} {ra rd : Res D} (hc : chkEs N sc vs es = true) (hl : ks.length = es.length) (nd : ks.Nodup) (h15 : ks.length ≤ 15)
    (q : rdE X.K X.mg EX G0 H0 ρ (evEs vs ρ >>= fun ys => ra >>= fun x => rd >>= fun z => dgtK ks ys x z) σ H Q) : tDGet2 (tDisp (trsOf X.K X.mg EX G0 H0 ρ ks vs)) (rdE X.K X.mg EX G0 H0 ρ ra) (rdE X.K X.mg EX G0 H0 ρ rd) σ H Q := by
  obtain ⟨G, st, p⟩ := q
  refine disp_read hc hl nd h15 st p fun a xs ds G2 H2 er r2 ex ha p => ?_
  refine ⟨a, rfl, .inl ⟨_, .inl ha⟩, G2, st.mono ex, Post.bind p fun y dy G3 H3 e3 r3 _ p3 => ⟨G3, (st.mono ex).mono e3, Post.bind p3 fun z dz G4 H4 e4 r4 _ p4 => ?_⟩⟩
  have ha4 := e4.sub.g (e3.sub.g ha)
  have key : ∀ k, keyD dy = some k → y = kV k → ∃ o, DGet H4 a y o ∧ Q (o.getD z) H4 := by
    intro k h1 h2
    cases h3 : lookK ks ds k with
    | none =>
      simp only [dgtK, h1, h3] at p4
      exact ⟨none, .inl ⟨ks.zip xs, k, .inl ha4, h2, (look_none r2 h3).symm⟩, Post.now e4.inn p4 r4⟩
    | some d =>
      obtain ⟨v, h4, h5⟩ := look_rp r2 h3
      simp only [dgtK, h1, h3] at p4
      exact ⟨some v, .inl ⟨ks.zip xs, k, .inl ha4, h2, h4.symm⟩, Post.now e4.inn p4 (e4.rp (e3.rp h5))⟩
  cases r3 <;> first | exact False.elim p4 | skip
  · exact key (.inl _) rfl rfl
  · exact key (.inr _) rfl rfl
theorem meth2 {X : Cx} {o e f : Expr} {m : Str} {ap cp : Pos} (hb : attributeBase o m X.env (eval o X.env) = eval o X.env) (h1 : notStar e = true) (h2 : notStar f = true) (hl : (ap.endLine == cp.line) = true) : M2 X o m ap e f cp := by
  refine ⟨hb, ?_, hl, ?_⟩
  · rw [star_cons h1, star_cons h2]; rfl
  · rw [star_cons h1, star_cons h2]; rfl
mutual
theorem sndE {N : List Str} {k : Nat} : ∀ (ie : IE) (X : Cx) (sc : Scope) (EX : XK) (e : Expr), Cok X N sc k EX → chkE N sc ie e = true → HypE (gamX X k) ie → ∀ G0 H0 ρ, Snd X EX G0 H0 ρ e (evE ie ρ)
  | .var i, X, sc, EX, e, o, h, hy, G0, H0, ρ => by
    simp only [chkE] at h
    split at h
    · rename_i x pos
      rw [Bool.and_eq_true, decide_eq_true_eq] at h
      obtain ⟨hv, hp⟩ := o.vis h.2
      refine snd_of (PE.imp (pe_var (i := i) (by rw [o.N]; exact h.1) hv (plain1 hp) (plain2 hp)) fun σ H Q ⟨G, st, p⟩ => ?_) rfl
      simp only [evE] at p
      split at p
      · rename_i d hd
        obtain ⟨v, h1, h2⟩ := st.im i d hd
        exact ⟨v, h1, Post.now st.subG p h2⟩
      · exact p.elim
    · cases h
  | .int n, X, sc, EX, e, o, h, hy, G0, H0, ρ => by
    simp only [chkE] at h
    split at h
    · rw [decide_eq_true_eq] at h
      subst h
      exact snd_of (PE.imp pe_int fun σ H Q q => rdE_now q fun _ => .int _) rfl
    · cases h
  | .str n, X, sc, EX, e, o, h, hy, G0, H0, ρ => by
    simp only [chkE] at h
    split at h
    · rw [decide_eq_true_eq] at h
      subst h
      exact snd_of (PE.imp pe_str fun σ H Q q => rdE_now q fun _ => .str _) rfl
    · cases h
  | .bl n, X, sc, EX, e, o, h, hy, G0, H0, ρ => by
    simp only [chkE] at h
    split at h
    · rw [decide_eq_true_eq] at h
      subst h
      exact snd_of (PE.imp pe_bl fun σ H Q q => rdE_now q fun _ => .bl _) rfl
    · cases h
  | .non, X, sc, EX, e, o, h, hy, G0, H0, ρ => by
    simp only [chkE] at h
    split at h
    · exact snd_of (PE.imp pe_non fun σ H Q q => rdE_now q fun _ => .non) rfl
    · cases h
  | .glo x d, X, sc, EX, e, o, h, hy, G0, H0, ρ => by
    simp only [chkE] at h
    split at h
    · rw [Bool.and_eq_true, decide_eq_true_eq] at h
      obtain ⟨h1, h2⟩ := h
      subst h1
      obtain ⟨hg, hp⟩ := o.gl h2
      obtain ⟨u, v, h1, h2, h3⟩ := (show GloOk X.K X.mg x d from hy)
      exact snd_of (PE.imp (pe_glob hg h1 h2 (plain1 hp)) fun σ H Q q => rdE_now q h3) rfl
    · cases h
  | .tup es, X, sc, EX, e, o, h, hy, G0, H0, ρ => by
    simp only [chkE] at h
    split at h
    · rename_i xs a pos
      rw [Bool.and_eq_true, decide_eq_true_eq] at h
      have ih := sndEs es X sc EX xs o h.1 (by simpa only [HypE] using hy) G0 H0 ρ
      refine snd_of (PE.imp (pe_tup ih) fun σ H Q q => ?_) rfl
      simp only [evE] at q
      obtain ⟨G, st, p⟩ := q
      refine ⟨G, st, Post.bind p fun vs ds G1 H1 e1 r1 er p1 => ⟨?_, fun q n => Post.new e1.inn p1 n _ (.tup (.inl (.inl upd_same)) ((Sub.updF _ (e1.inn.none n)).rps r1))⟩⟩
      rw [r1.length]
      have := evEs_len er h.1
      have : (1000 : Nat) ≤ sizeLine := by decide
      omega
    · cases h
  | .lst es, X, sc, EX, e, o, h, hy, G0, H0, ρ => by
    simp only [chkE] at h
    split at h
    · rename_i xs pos
      rw [Bool.and_eq_true, decide_eq_true_eq] at h
      have ih := sndEs es X sc EX xs o h.1 (by simpa only [HypE] using hy) G0 H0 ρ
      refine snd_of (PE.imp (pe_lst ih) fun σ H Q q => ?_) rfl
      simp only [evE] at q
      obtain ⟨G, st, p⟩ := q
      refine ⟨G, st, Post.bind p fun vs ds G1 H1 e1 r1 er p1 => ⟨?_, fun q n => Post.new e1.inn p1 n _ (.lst (.inl (.inl upd_same)) ((Sub.updF _ (e1.inn.none n)).rps r1))⟩⟩
      rw [r1.length]
      have := evEs_len er h.1
      have : (1000 : Nat) ≤ sizeLine := by decide
      omega
    · cases h
  | .bin op a b, X, sc, EX, e, o, h, hy, G0, H0, ρ => by
    simp only [chkE] at h
    split at h
    · rw [Bool.and_eq_true, Bool.and_eq_true, decide_eq_true_eq] at h
      obtain ⟨h1, h2, h3⟩ := h
      subst h1
      simp only [HypE] at hy
      have ha := sndE a X sc EX _ o h2 hy.1 G0 H0 ρ
      have hb := sndE b X sc EX _ o h3 hy.2 G0 H0 ρ
      obtain ⟨rr, hr1, hr2⟩ := bin_sound (X := X) (mg := X.mg) (EX := EX) op
      refine snd_of (PE.imp (pe_op hr1 ha.pe hb.pe) fun σ H Q q => ?_) rfl
      simp only [evE] at q
      exact rd2 hr2 q
    · cases h
  | .neg a, X, sc, EX, e, o, h, hy, G0, H0, ρ => by
    simp only [chkE] at h
    split at h
    · have ha := sndE a X sc EX _ o h (by simpa only [HypE] using hy) G0 H0 ρ
      refine snd_of (PE.imp (pe_un un_neg ha.pe) fun σ H Q q => ?_) rfl
      simp only [evE] at q
      obtain ⟨G, st, p⟩ := q
      refine ⟨G, st, Post.bind p fun v d G1 H1 e1 r1 er p1 => ?_⟩
      cases r1 <;> first | exact False.elim p1 | skip
      exact ⟨_, rfl, Post.now e1.inn p1 (.int _)⟩
    · cases h
  | .cmp op a b, X, sc, EX, e, o, h, hy, G0, H0, ρ => by
    simp only [chkE] at h
    split at h
    · rw [Bool.and_eq_true, Bool.and_eq_true, Bool.and_eq_true, decide_eq_true_eq] at h
      obtain ⟨h1, h4, h2, h3⟩ := h
      subst h1
      simp only [HypE] at hy
      have ha := sndE a X sc EX _ o h2 hy.1 G0 H0 ρ
      have hb := sndE b X sc EX _ o h3 hy.2 G0 H0 ρ
      obtain ⟨rr, hr1, hr2⟩ := cmp_sound (X := X) (mg := X.mg) (EX := EX) o.room.units op
      refine ⟨PE.imp (pe_cmpR hr1 ha.pe hb.pe (mark_plain h4)) fun σ H Q q => ?_, PT.imp (pt_cmpR hr1 ha.pe hb.pe (mark_plain h4)) fun σ H Q q => ?_, fun z => by cases z⟩
      · simp only [evE] at q
        exact rd2 hr2 q
      · simp only [evE] at q
        obtain ⟨G, st, p⟩ := q
        refine rd2 (f := fun x y => dCmp op x y) hr2 ⟨G, st, post_bool (fun d hd => ?_) p⟩
        cases qa : evE a ρ with
        | no => rw [qa] at hd; cases hd
        | er x => rw [qa] at hd; cases hd
        | ok x =>
          rw [qa] at hd
          have hd : (evE b ρ >>= fun y => dCmp op x y) = .ok d := hd
          cases qb : evE b ρ with
          | no => rw [qb] at hd; cases hd
          | er x => rw [qb] at hd; cases hd
          | ok y => rw [qb] at hd; exact dCmp_bool hd
    · cases h
  | .chn o1 o2 a b c, X, sc, EX, e, o, h, hy, G0, H0, ρ => by
    simp only [chkE] at h
    split at h
    · rename_i x p1 p2 y z pos
      rw [Bool.and_eq_true, Bool.and_eq_true, Bool.and_eq_true, Bool.and_eq_true, Bool.and_eq_true, decide_eq_true_eq, decide_eq_true_eq] at h
      obtain ⟨h1, h1', h4, h2, h3, h5⟩ := h
      subst h1 h1'
      simp only [HypE] at hy
      have ha := sndE a X sc EX _ o h2 hy.1 G0 H0 ρ
      have hb := sndE b X sc EX _ o h3 hy.2.1 G0 H0 ρ
      have hc := sndE c X sc EX _ o h5 hy.2.2 G0 H0 ρ
      obtain ⟨rr, hr1, hr2⟩ := cmp_sound (X := X) (mg := X.mg) (EX := EX) o.room.units o1
      obtain ⟨ss, hs1, hs2⟩ := cmp_sound (X := X) (mg := X.mg) (EX := EX) o.room.units o2
      have hm : lastMarks [o1, o2] [y, z] = false := by
        show lastMarks [o2] [z] = false
        exact mark_plain h4
      have read : ∀ (σ : L2.St) (H : Hp) (Q : VK) (G : Hp), Stt X.K G0 H0 ρ σ G H → PostE X.K X.mg EX (evE (.chn o1 o2 a b c) ρ) G H Q → tChain rr ss (rdE X.K X.mg EX G0 H0 ρ (evE a ρ)) (rdE X.K X.mg EX G0 H0 ρ (evE b ρ)) (rdE X.K X.mg EX G0 H0 ρ (evE c ρ)) σ H Q := by
        intro σ H Q G st p
        simp only [evE] at p
        refine ⟨G, st, Post.bind p fun x dx G1 H1 e1 r1 _ p1 => ⟨G1, st.mono e1, Post.bind p1 fun y dy G2 H2 e2 r2 _ p2 => hr2 _ _ _ _ G2 H2 _ e2.inn (e2.rp r1) r2 (Post.bind p2 fun w dw G3 H3 e3 r3 er3 p3 => ?_)⟩⟩
        obtain ⟨bb, rfl⟩ := dCmp_bool er3
        cases r3
        refine ⟨bb, rfl, ?_⟩
        cases bb with
        | false =>
          rw [if_neg (by decide)]
          exact Post.now e3.inn p3 (.bl _)
        | true =>
          rw [if_pos rfl]
          have p3 : PostE X.K X.mg EX (evE c ρ >>= fun z => dCmp o2 dy z) G3 H3 Q := p3
          exact ⟨G3, ((st.mono e1).mono e2).mono e3, Post.bind p3 fun u du G4 H4 e4 r4 _ p4 => hs2 _ _ _ _ G4 H4 Q e4.inn (e4.rp (e3.rp r2)) r4 p4⟩
      refine ⟨PE.imp (pe_chain hr1 hs1 ha.pe hb.pe hc.pe hm) fun σ H Q ⟨G, st, p⟩ => read σ H Q G st p, PT.imp (pt_chain hr1 hs1 ha.pe hb.pe hc.pe hm) fun σ H Q ⟨G, st, p⟩ => read σ H _ G st (post_bool (fun d hd => ?_) p), fun z => by cases z⟩
      simp only [evE] at hd
      cases qa : evE a ρ with
      | no => rw [qa] at hd; cases hd
      | er x => rw [qa] at hd; cases hd
      | ok x =>
        rw [qa] at hd
        simp only [Res.bind_ok] at hd
        cases qb : evE b ρ with
        | no => rw [qb] at hd; cases hd
        | er x => rw [qb] at hd; cases hd
        | ok y =>
          rw [qb] at hd
          simp only [Res.bind_ok] at hd
          cases q1 : dCmp o1 x y with
          | no => rw [q1] at hd; cases hd
          | er x => rw [q1] at hd; cases hd
          | ok w =>
            obtain ⟨bb, rfl⟩ := dCmp_bool q1
            rw [q1] at hd
            cases bb with
            | false => cases hd; exact ⟨_, rfl⟩
            | true =>
              have hd : (evE c ρ >>= fun z => dCmp o2 y z) = .ok d := hd
              cases qc : evE c ρ with
              | no => rw [qc] at hd; cases hd
              | er x => rw [qc] at hd; cases hd
              | ok z => rw [qc] at hd; exact dCmp_bool hd
    · cases h
  | .and a b, X, sc, EX, e, o, h, hy, G0, H0, ρ => by
    simp only [chkE] at h
    simp only [HypE] at hy
    split at h
    · rename_i x y pos
      rw [Bool.and_eq_true] at h
      have ha := sndE a X sc EX _ o h.1 hy.1 G0 H0 ρ
      have hb := sndE b X sc EX _ o h.2 hy.2 G0 H0 ρ
      have w := PW.imp (pw_and (pos := pos) ha.pt (pw_and1 hb.pt)) (fun σ H Q q => and_pt (by simpa only [evE] using q))
      exact ⟨PE.imp (pe_andT ha.pe (pe_one hb.pe)) fun σ H Q q => and_pe (by simpa only [evE] using q), w.pt, fun _ => w⟩
    · rw [Bool.and_eq_true] at h
      have ha := sndE a X sc EX _ o h.1 hy.1 G0 H0 ρ
      have hb := sndE b X sc EX _ o h.2 hy.2 G0 H0 ρ
      have w := PW.imp (pw_and ha.pt (hb.pw rfl)) (fun σ H Q q => and_pt (by simpa only [evE] using q))
      exact ⟨PE.imp (pe_andT ha.pe hb.pe) fun σ H Q q => and_pe (by simpa only [evE] using q), w.pt, fun _ => w⟩
    · cases h
  | .or a b, X, sc, EX, e, o, h, hy, G0, H0, ρ => by
    simp only [chkE] at h
    simp only [HypE] at hy
    split at h
    · rename_i x y pos
      rw [Bool.and_eq_true] at h
      have ha := sndE a X sc EX _ o h.1 hy.1 G0 H0 ρ
      have hb := sndE b X sc EX _ o h.2 hy.2 G0 H0 ρ
      have w := PW.imp (pw_or (pos := pos) ha.pt (pw_or1 hb.pt)) (fun σ H Q q => or_pt (by simpa only [evE] using q))
      exact ⟨PE.imp (pe_orT ha.pe (pe_one hb.pe)) fun σ H Q q => or_pe (by simpa only [evE] using q), w.pt, fun _ => w⟩
    · rw [Bool.and_eq_true] at h
      have ha := sndE a X sc EX _ o h.1 hy.1 G0 H0 ρ
      have hb := sndE b X sc EX _ o h.2 hy.2 G0 H0 ρ
      have w := PW.imp (pw_or ha.pt (hb.pw rfl)) (fun σ H Q q => or_pt (by simpa only [evE] using q))
      exact ⟨PE.imp (pe_orT ha.pe hb.pe) fun σ H Q q => or_pe (by simpa only [evE] using q), w.pt, fun _ => w⟩
    · cases h
  | .not a, X, sc, EX, e, o, h, hy, G0, H0, ρ => by
    simp only [chkE] at h
    split at h
    · have ha := sndE a X sc EX _ o h (by simpa only [HypE] using hy) G0 H0 ρ
      exact ⟨PE.imp (pe_notT ha.pe) fun σ H Q q => not_pe (by simpa only [evE] using q), PT.imp (pt_not ha.pt) fun σ H Q q => not_pt (by simpa only [evE] using q), fun z => by cases z⟩
    · cases h
  | .idx a b, X, sc, EX, e, o, h, hy, G0, H0, ρ => by
    simp only [chkE] at h
    split at h
    · rw [Bool.and_eq_true, Bool.and_eq_true] at h
      simp only [HypE] at hy
      have ha := sndE a X sc EX _ o h.2.1 hy.1 G0 H0 ρ
      have hb := sndE b X sc EX _ o h.2.2 hy.2 G0 H0 ρ
      obtain ⟨rr, hr1, hr2⟩ := idx_sound (X := X) (mg := X.mg) (EX := EX)
      refine snd_of (PE.imp (pe_ix hr1 ha.pe hb.pe (plain_ix h.1)) fun σ H Q q => ?_) rfl
      simp only [evE] at q
      exact rd2 hr2 q
    · cases h
  | .slc a lo hi, X, sc, EX, e, o, h, hy, G0, H0, ρ => by
    simp only [chkE] at h
    split at h
    · rw [Bool.and_eq_true, Bool.and_eq_true] at h
      simp only [HypE] at hy
      have ha := sndE a X sc EX _ o h.1 hy.1 G0 H0 ρ
      have hl := sndO lo X sc EX _ o h.2.1 hy.2.1 G0 H0 ρ
      have hh := sndO hi X sc EX _ o h.2.2 hy.2.2 G0 H0 ρ
      obtain ⟨rr, hr1, hr2⟩ := slc_sound (X := X) (mg := X.mg) (EX := EX)
      refine snd_of (PE.imp (pe_slice hr1 ha.pe hl hh) fun σ H Q q => ?_) rfl
      simp only [evE] at q
      obtain ⟨G, st, p⟩ := q
      refine ⟨G, st, Post.bind p fun x dx G1 H1 e1 r1 _ p1 => ⟨G1, st.mono e1, Post.bind p1 fun l dl G2 H2 e2 r2 _ p2 => ⟨G2, (st.mono e1).mono e2, Post.bind p2 fun u du G3 H3 e3 r3 _ p3 => ?_⟩⟩⟩
      cases r2
      cases r3
      exact hr2 _ _ _ _ G3 H3 Q e3.inn (e3.rp (e2.rp r1)) p3
    · cases h
  | .rev a, X, sc, EX, e, o, h, hy, G0, H0, ρ => by
    simp only [chkE] at h
    split at h
    · rename_i x m k1 p1 p2 p3 pos
      rw [Bool.and_eq_true, decide_eq_true_eq] at h
      obtain ⟨h0, h1⟩ := h
      subst h0
      have ha := sndE a X sc EX _ o h1 (by simpa only [HypE] using hy) G0 H0 ρ
      have w1 := PE.imp (t' := rdE X.K X.mg EX G0 H0 ρ (evE (.rev a) ρ)) (pe_revL (k := k1) (p1 := p1) (p2 := p2) (p3 := p3) (pos := pos) ha.pe)
      have w2 := PE.imp (t' := rdE X.K X.mg EX G0 H0 ρ (evE (.rev a) ρ)) (pe_revT (k := k1) (p1 := p1) (p2 := p2) (p3 := p3) (pos := pos) ha.pe)
      refine snd_of ?_ rfl
      cases hr : evE a ρ with
      | no => exact ⟨fun pins s σ H Q I ⟨G, st, p⟩ => by simp only [evE, hr] at p; exact p.elim⟩
      | er z =>
        refine w1 fun σ H Q ⟨G, st, p⟩ => ?_
        simp only [evE, hr] at p
        rw [hr]
        exact ⟨G, st, p⟩
      | ok d =>
        cases d with
        | list ds =>
          refine w1 fun σ H Q ⟨G, st, p⟩ => ?_
          simp only [evE, hr] at p
          rw [hr]
          refine ⟨G, st, fun v G1 H1 e1 r1 => ?_⟩
          cases r1
          rename_i b xs hb hds
          exact ⟨b, xs, rfl, (e1.inn.ls hb).sq, fun q n => Post.new e1.inn (Post.mono p e1) n _ (.lst (.inl (.inl upd_same)) ((Sub.updF _ (e1.inn.none n)).rps hds.rev))⟩
        | tuple ds =>
          refine w2 fun σ H Q ⟨G, st, p⟩ => ?_
          simp only [evE, hr] at p
          rw [hr]
          refine ⟨G, st, fun v G1 H1 e1 r1 => ?_⟩
          cases r1
          rename_i b xs hb hds
          exact ⟨b, xs, rfl, e1.inn.sqT hb, fun q n => Post.new e1.inn (Post.mono p e1) n _ (.tup (.inl (.inl upd_same)) ((Sub.updF _ (e1.inn.none n)).rps hds.rev))⟩
        | _ => exact ⟨fun pins s σ H Q I ⟨G, st, p⟩ => by simp only [evE, hr] at p; exact p.elim⟩
    · cases h
  | .alt a lo, X, sc, EX, e, o, h, hy, G0, H0, ρ => by cases h
  | .call x m es, X, sc, EX, e, o, h, hy, G0, H0, ρ => by
    simp only [chkE] at h
    split at h
    · rename_i y p as pos
      rw [Bool.and_eq_true, Bool.and_eq_true, decide_eq_true_eq] at h
      obtain ⟨h1, h2, h3⟩ := h
      subst h1
      simp only [HypE] at hy
      obtain ⟨hg, hp⟩ := o.gl h2
      obtain ⟨f, fd, ps, g1, g2, g3, g4⟩ := (show GoodFn X.prog X.w X.K X.mg X.base k x m from hy.1).ex
      have ih := sndEs es X sc EX as o h3 hy.2 G0 H0 ρ
      have read : ∀ (σ : L2.St) (H : Hp) (Q : VK), rdE X.K X.mg EX G0 H0 ρ (evE (.call x m es) ρ) σ H Q → tCall (spOf X.K X.mg m) [] EX (rdA X.K X.mg EX G0 H0 ρ (evEs es ρ)) σ H Q := by
        intro σ H Q q
        simp only [evE] at q
        obtain ⟨G, st, p⟩ := q
        refine ⟨G, st, Post.bind p fun vs ds G1 H1 e1 r1 _ p1 => ⟨G1, ds, e1.inn, ?_, p1⟩⟩
        rw [List.append_nil]
        exact r1
      cases as with
      | nil =>
        cases es with
        | cons a r => simp [chkEs] at h3
        | nil =>
          refine snd_of (PE.imp (pe_call0 g4 o.room hg g1 g2 g3 .nil (pass_of o) (plain1 hp)) fun σ H Q q => ?_) rfl
          have q1 := read σ H Q q
          obtain ⟨G, st, p⟩ := q1
          simp only [evEs] at p
          exact Post.now st.subG p RpAll.nil
      | cons a as =>
        have hst := chk_stars h3
        have hst1 : notStar a = true ∧ noStars as = true := by
          unfold noStars at hst ⊢
          rwa [List.all_cons, Bool.and_eq_true] at hst
        exact snd_of (PE.imp (pe_call g4 o.room hg g1 g2 g3 .nil (pass_of o) ih (plain1 hp) (star_cons hst1.1) (back_plain hst1.2)) read) rfl
    · cases h
  | .bi b es, X, sc, EX, e, o, h, hy, G0, H0, ρ => by
    simp only [HypE] at hy
    simp only [chkE] at h
    split at h
    · rename_i y p a as pos
      rw [Bool.and_eq_true, Bool.and_eq_true, decide_eq_true_eq] at h
      obtain ⟨h1, h2, h3⟩ := h
      subst h1
      obtain ⟨hg, hp⟩ := o.gl h2
      have ih := sndEs es X sc EX (a :: as) o h3 hy.2 G0 H0 ρ
      have hst := chk_stars h3
      have hst1 : notStar a = true ∧ noStars as = true := by
        unfold noStars at hst ⊢
        rwa [List.all_cons, Bool.and_eq_true] at hst
      obtain ⟨rr, hr1, hr2⟩ := bi_sound (X := X) (mg := X.mg) (EX := EX) o.calm b
      refine snd_of (PE.imp (pe_bi hr1 hg hy.1 ih hst1.1 hst1.2) fun σ H Q q => ?_) rfl
      simp only [evE] at q
      exact rdA_pe hr2 q
    · cases h
  | .isi T ea, X, sc, EX, e, o, h, hy, G0, H0, ρ => by
    simp only [HypE] at hy
    simp only [chkE] at h
    split at h
    · rename_i y p a t pt pos
      simp only [Bool.and_eq_true, decide_eq_true_eq] at h
      obtain ⟨h1, h2, h3, h4, h5, hn, h6, h7, h8⟩ := h
      subst h1 h3
      obtain ⟨hg, hp⟩ := o.gl h2
      obtain ⟨hg', hp'⟩ := o.gl h4
      have ih := sndE ea X sc EX a o h8 hy.2.2 G0 H0 ρ
      have hty : PE X (.Name (Str.ofString T) pt) (tC (.ty T)) := pe_bltn hg' hy.2.1 h5 rfl hn (plain1 hp')
      refine snd_of (PE.imp (pe_callB call_isi hg hy.1 (by decide +kernel) (pa_cons ih.pe (pa_cons hty pa_nil rfl) (star_cons h7)) (by decide) (plain1 hp) (star_cons h7) (back_plain rfl)) fun σ H Q q => ?_) rfl
      simp only [evE] at q
      obtain ⟨G, st, p⟩ := q
      exact ⟨G, st, Post.bind p fun x dx G1 H1 e1 r1 _ p1 => isi_sound h6 e1.inn r1 p1⟩
    · cases h
  | .neO i, X, sc, EX, e, o, h, hy, G0, H0, ρ => by
    simp only [chkE] at h
    split at h
    · rename_i x px op pl pos
      simp only [Bool.and_eq_true, decide_eq_true_eq] at h
      obtain ⟨h1, h2, h3⟩ := h
      subst h1
      obtain ⟨hv, hpx⟩ := o.vis h3
      have pv := pe_var (X := X) (i := i) (pos := px) (by rw [o.N]; exact h2) hv (plain1 hpx) (plain2 hpx)
      have pn : PE X (.List [] pl) _ := pe_lst (X := X) (pos := pl) (pa_nil (X := X))
      refine ⟨PE.imp (pe_cmpR (op_neD o.room.units) pv pn (mark_plain rfl)) fun σ H Q q => ?_, PT.imp (pt_cmpR (op_neD o.room.units) pv pn (mark_plain rfl)) fun σ H Q q => ?_, fun z => by cases z⟩
      · simp only [evE] at q
        obtain ⟨v, e1, e2⟩ := neO_read rfl q
        exact ⟨v, e1, Nat.zero_le _, e2⟩
      · simp only [evE] at q
        obtain ⟨G, st, p⟩ := q
        have q2 : rdE X.K X.mg EX G0 H0 ρ (match ρ[i]? with | some (.ow ds) => dCmp .NotEq (.list ds) (.list []) | some (.im d) => dCmp .NotEq d (.list []) | _ => .no) σ H (fun x H' => ∃ k, x = .bl k ∧ Q k H') := ⟨G, st, post_bool (fun d hd => by
          split at hd
          · exact dCmp_bool hd
          · exact dCmp_bool hd
          · cases hd) p⟩
        obtain ⟨v, e1, e2⟩ := neO_read rfl q2
        exact ⟨v, e1, Nat.zero_le _, e2⟩
    · cases h
  | .dix ks vs a, X, sc, EX, e, o, h, hy, G0, H0, ρ => by
    simp only [chkE] at h
    simp only [HypE] at hy
    split at h
    · rename_i keys values dp ie pos
      simp only [Bool.and_eq_true, decide_eq_true_eq] at h
      obtain ⟨h1, h2, h3, h4, h5, h6, h7, h8⟩ := h
      obtain ⟨k1, k2⟩ := keysC_some h1
      have pp := sndDs vs X sc EX ks keys values dp o h1 h5 h7 hy.1 G0 H0 ρ
      have ih := sndE a X sc EX ie o h8 hy.2 G0 H0 ρ
      have ne : keys ≠ [] := by intro z; subst z; simp at k2; rw [k2] at h3; simp at h3
      refine snd_of (PE.imp (pe_dget (by have := o.room.units; omega) (pe_disp pp k1 h5 ne (by rw [← k2]; exact h4)) ih.pe (plain_ix h6)) fun σ H Q q => ?_) rfl
      simp only [evE] at q
      exact dix_read h7 (by rw [k2, h5]) h2 h4 q
    · cases h
  | .dgt ks vs a d, X, sc, EX, e, o, h, hy, G0, H0, ρ => by
    simp only [chkE] at h
    simp only [HypE] at hy
    split at h
    · rename_i keys values dp m ap ie ze cp
      simp only [Bool.and_eq_true, decide_eq_true_eq] at h
      obtain ⟨hm, hln, h1, h2, h3, h4, h5, h6, h6', h7, h8, h9⟩ := h
      subst hm
      obtain ⟨k1, k2⟩ := keysC_some h1
      have pp := sndDs vs X sc EX ks keys values dp o h1 h5 h7 hy.1 G0 H0 ρ
      have ih := sndE a X sc EX ie o h8 hy.2.1 G0 H0 ρ
      have ih2 := sndE d X sc EX ze o h9 hy.2.2 G0 H0 ρ
      have ne : keys ≠ [] := by intro z; subst z; simp at k2; rw [k2] at h3; simp at h3
      refine snd_of (PE.imp (pe_dget2 (by have := o.room.units; omega) (pe_disp pp k1 h5 ne (by rw [← k2]; exact h4)) ih.pe ih2.pe (meth2 rfl h6 h6' hln)) fun σ H Q q => ?_) rfl
      simp only [evE] at q
      exact dgt_read h7 (by rw [k2, h5]) h2 h4 q
    · cases h
  | .lc own tg it c el, X, sc, EX, e, o, h, hy, G0, H0, ρ => by
    simp only [chkE] at h
    split at h
    · rename_i elt t i ifs a scope pos
      simp only [Bool.and_eq_true, decide_eq_true_eq] at h
      obtain ⟨h0, h1, h2, h3, h4, h5, h6, h7⟩ := h
      subst h0
      simp only [HypE] at hy
      have hi := sndI it X sc EX t i o h5 hy.1 G0 H0 ρ
      have hb := fun (s : Shared) (H : Hp) (C : Addr) (cl : List (Str × Addr)) (fp : List Addr) => o.blk h1 s H C cl fp
      refine snd_of (PE.imp (pe_lc (g := rdG X.K G0 H0 tg) o.calm o.nd hi (o.blkOk h1) (fun s H C cl fp => sndT tg _ scope EF t (hb s H C cl fp) h4 G0 H0) (fun s H C cl fp => PTs.ex (t := fun ρ' => rdT X.K X.mg EF G0 H0 ρ' (evC c ρ')) fun ρ' => sndC c _ scope EF ifs (hb s H C cl fp) h6 hy.2.1 G0 H0 ρ')
        (fun s H C cl fp => PE.ex (t := fun ρ' => rdE X.K X.mg EF G0 H0 ρ' (evE el ρ')) fun ρ' => (sndE el _ scope EF elt (hb s H C cl fp) h7 hy.2.2 G0 H0 ρ').pe) (fold_plain h2)) fun σ H Q q => ?_) rfl
      simp only [evE] at q
      refine lc_read (fun j hj => ?_) q
      rw [List.all_eq_true] at h3
      simpa using h3 j hj
    · cases h
  | .lenO i, X, sc, EX, e, o, h, hy, G0, H0, ρ => by
    simp only [chkE] at h
    split at h
    · rename_i y p x px pos
      simp only [Bool.and_eq_true, decide_eq_true_eq] at h
      obtain ⟨h1, h2, h3, h4⟩ := h
      subst h1
      obtain ⟨hg, hp⟩ := o.gl h2
      obtain ⟨hv, hpx⟩ := o.vis h4
      refine snd_of (PE.imp (pe_callB call_len_seq hg (show X.mg "len" = none from hy) (by decide +kernel) (pa_cons (pe_var (i := i) (by rw [o.N]; exact h3) hv (plain1 hpx) (plain2 hpx)) pa_nil rfl) (by decide) (plain1 hp) rfl rfl) fun σ H Q q => ?_) rfl
      simp only [evE] at q
      obtain ⟨G, st, p⟩ := q
      split at p
      · rename_i ds hd
        obtain ⟨a, vs, e1, e2, e3⟩ := own_read st hd
        refine ⟨_, e1, a, vs, rfl, .inl (.inl (.inl e2)), ?_⟩
        rw [e3.length]
        exact Post.now st.subG p (.int _)
      · rename_i ds hd
        obtain ⟨v, e1, e2⟩ := st.im i _ hd
        cases e2
        rename_i a vs ha hds
        refine ⟨_, e1, a, vs, rfl, .inl (st.subG.ls ha).sq, ?_⟩
        rw [hds.length]
        exact Post.now st.subG p (.int _)
      · exact p.elim
    · cases h
  | .idxO i kx, X, sc, EX, e, o, h, hy, G0, H0, ρ => by
    simp only [chkE] at h
    split at h
    · rename_i x px y pos
      simp only [Bool.and_eq_true, decide_eq_true_eq] at h
      obtain ⟨h1, h2, h3, h4⟩ := h
      obtain ⟨hv, hpx⟩ := o.vis h3
      have hb := sndE kx X sc EX _ o h4 (by simpa only [HypE] using hy) G0 H0 ρ
      refine snd_of (PE.imp (pe_ix ix_list (pe_var (i := i) (by rw [o.N]; exact h2) hv (plain1 hpx) (plain2 hpx)) hb.pe (plain_ix h1)) fun σ H Q q => ?_) rfl
      simp only [evE] at q
      obtain ⟨G, st, p⟩ := q
      split at p
      · rename_i ds hd
        obtain ⟨a, vs, e1, e2, e3⟩ := own_read st hd
        refine ⟨_, e1, G, st, Post.bind p fun y dy G2 H2 e4 r2 er p2 => ?_⟩
        cases r2 <;> first | exact False.elim p2 | skip
        rename_i j
        have p2 : PostE X.K X.mg EX (match atI ds j with | some d => .ok d | none => .no) G2 H2 Q := p2
        split at p2
        · rename_i d hj
          obtain ⟨v, f1, f2⟩ := atI_rp e3 hj
          exact ⟨a, vs, j, v, rfl, rfl, .inl (.inl (e4.sub.g e2)), f1, Post.now e4.inn p2 (e4.rp f2)⟩
        · exact p2.elim
      · rename_i ds hd
        obtain ⟨w, e1, e2⟩ := st.im i _ hd
        cases e2
        rename_i a vs ha hds
        refine ⟨_, e1, G, st, Post.bind p fun y dy G2 H2 e4 r2 er p2 => ?_⟩
        cases r2 <;> first | exact False.elim p2 | skip
        rename_i j
        have p2 : PostE X.K X.mg EX (match atI ds j with | some d => .ok d | none => .no) G2 H2 Q := p2
        split at p2
        · rename_i d hj
          obtain ⟨v, f1, f2⟩ := atI_rp hds hj
          exact ⟨a, vs, j, v, rfl, rfl, (e4.inn.ls (e4.subG.ls ha)).sq, f1, Post.now e4.inn p2 (e4.rp f2)⟩
        · exact p2.elim
      · exact p.elim
    · cases h
  | .lrg a b, X, sc, EX, e, o, h, hy, G0, H0, ρ => by
    simp only [HypE] at hy
    simp only [chkE] at h
    split at h
    · rename_i l pl z pz x y pos2 pos
      simp only [Bool.and_eq_true, decide_eq_true_eq] at h
      obtain ⟨h1, h2, h3, h4, h5, h6, h7, h8⟩ := h
      subst h1 h3
      obtain ⟨hg, hp⟩ := o.gl h2
      obtain ⟨hg', hp'⟩ := o.gl h4
      have ih := sndE a X sc EX _ o h7 hy.2.2.1 G0 H0 ρ
      have ih2 := sndE b X sc EX _ o h8 hy.2.2.2 G0 H0 ρ
      refine snd_of (PE.imp (pe_listRg o.calm hg hy.1 (prg_2 hg' hy.2.1 ih.pe ih2.pe (star_cons h5) (star_cons h6) (by rw [star_cons h6]; rfl)) rfl) fun σ H Q ⟨G, st, p⟩ => ?_) rfl
      simp only [evE] at p
      refine ⟨G, st, Post.bind p fun x dx G1 H1 e1 r1 er1 p1 => ⟨G1, st.mono e1, Post.bind p1 fun y dy G2 H2 e2 r2 er2 p2 => ?_⟩⟩
      clear er1 er2
      cases r1 <;> first | (cases r2 <;> exact False.elim p2) | skip
      cases r2 <;> first | exact False.elim p2 | skip
      rename_i i j
      have p2 : PostE X.K X.mg EX (if (-(2 ^ 62) ≤ i ∧ i < 2 ^ 62) ∧ (-(2 ^ 62) ≤ j ∧ j < 2 ^ 62) ∧ (j - i).toNat ≤ 2 ^ 24 then .ok (.list (upto (j - i).toNat i)) else .no) G2 H2 Q := p2
      split at p2
      · rename_i hlim
        refine ⟨i, j, rfl, rfl, ⟨hlim.1.1, hlim.1.2, hlim.2.1.1, hlim.2.1.2, hlim.2.2⟩, fun q n => Post.new e2.inn p2 n _ (.lst (.inl (.inl upd_same)) (upto_rp i _))⟩
      · exact p2.elim
    · cases h
  | .zipl a b, X, sc, EX, e, o, h, hy, G0, H0, ρ => by
    simp only [HypE] at hy
    simp only [chkE] at h
    split at h
    · rename_i l pl z pz x y pos2 pos
      simp only [Bool.and_eq_true, decide_eq_true_eq] at h
      obtain ⟨h1, h2, h3, h4, h5, h6, h7, h8⟩ := h
      subst h1 h3
      obtain ⟨hg, hp⟩ := o.gl h2
      obtain ⟨hg', hp'⟩ := o.gl h4
      have ih := sndE a X sc EX _ o h7 hy.2.2.1 G0 H0 ρ
      have ih2 := sndE b X sc EX _ o h8 hy.2.2.2 G0 H0 ρ
      refine snd_of (PE.imp (RZ.pe_listZip o.calm (pa_cons ih.pe (pa_cons ih2.pe pa_nil (star_cons h6)) (star_cons h5)) hg hy.1 hg' hy.2.1 (star_cons h5) (by rw [star_cons h6]; rfl)) fun σ H Q ⟨G, st, p⟩ => ?_) rfl
      simp only [evE] at p
      refine ⟨G, st, Post.bind p fun x dx G1 H1 e1 r1 er1 p1 => ⟨G1, st.mono e1, Post.bind p1 fun y dy G2 H2 e2 r2 er2 p2 => ?_⟩⟩
      clear er1 er2
      have r1 := e2.rp r1
      cases r1 <;> first | (cases r2 <;> exact False.elim p2) | skip
      cases r2 <;> first | exact False.elim p2 | skip
      rename_i a1 xs ds ha hds b1 ys es hb hes
      have p2 : PostE X.K X.mg EX (if ds.length ≤ LIM ∧ es.length ≤ LIM then .ok (.list (pairs ds es)) else .no) G2 H2 Q := p2
      split at p2
      · rename_i hlim
        have lx := hds.length
        have ly := hes.length
        have LL : LIM = sizeLine := rfl
        refine ⟨a1, b1, xs, ys, rfl, e2.inn.sqT ha, e2.inn.sqT hb, by omega, fun p ts n1 n2 n3 n4 n5 => ?_⟩
        have ex1 : Ext G2 H2 (upd G2 p (.lst (ts.map V.ref))) (upd H2 p (.lst (ts.map V.ref))) := .new e2.inn n1 _
        have nn : ∀ t ∈ ts, upd H2 p (.lst (ts.map V.ref)) t = none := fun t ht => by
          rw [upd_ne (fun z => n3 (by rw [← z]; exact ht))]; exact n2 t ht
        have ex := ext_putP ts (xs.zip ys) ex1 nn n4
        have at1 := RZ.putP_at ts (xs.zip ys) (upd G2 p (.lst (ts.map V.ref))) n5 n4
        have atp : RZ.putP (upd G2 p (.lst (ts.map V.ref))) ts (xs.zip ys) p = some (.lst (ts.map V.ref)) := by rw [RZ.putP_off ts _ _ n3, upd_same]
        exact p2 _ _ _ ex (.lst (.inl (.inl atp)) (rp_pairs at1 (ex.subG.rps hds) (ex.subG.rps hes)))
      · exact p2.elim
    · cases h
theorem sndEs {N : List Str} {k : Nat} : ∀ (ie : IEs) (X : Cx) (sc : Scope) (EX : XK) (es : List Expr), Cok X N sc k EX → chkEs N sc ie es = true → HypEs (gamX X k) ie → ∀ G0 H0 ρ, PA X es (rdA X.K X.mg EX G0 H0 ρ (evEs ie ρ))
  | .nil, X, sc, EX, es, o, h, hy, G0, H0, ρ => by
    cases es with
    | cons a b => simp [chkEs] at h
    | nil =>
      refine PA.imp pa_nil fun σ H Q ⟨G, st, p⟩ => ?_
      simp only [evEs] at p
      exact Post.now st.subG p .nil
  | .cons a r, X, sc, EX, es, o, h, hy, G0, H0, ρ => by
    cases es with
    | nil => simp [chkEs] at h
    | cons e es =>
      simp only [chkEs, Bool.and_eq_true] at h
      simp only [HypEs] at hy
      have h1 := sndE a X sc EX e o h.2.1 hy.1 G0 H0 ρ
      have h2 := sndEs r X sc EX es o h.2.2 hy.2 G0 H0 ρ
      refine PA.imp (pa_cons h1.pe h2 (star_cons h.1)) fun σ H Q ⟨G, st, p⟩ => ?_
      simp only [evEs] at p
      exact ⟨G, st, Post.bind p fun x dx G1 H1 e1 r1 _ p1 => ⟨G1, st.mono e1, Post.bind p1 fun xs dxs G2 H2 e2 r2 _ p2 => Post.now e2.inn p2 (.cons (e2.rp r1) r2)⟩⟩
theorem sndDs {N : List Str} {k : Nat} : ∀ (ie : IEs) (X : Cx) (sc : Scope) (EX : XK) (ks : List (Int ⊕ Str)) (keys : List (Option Expr)) (es : List Expr) (dp : Pos), Cok X N sc k EX → keysC ks keys = true → keys.length = es.length → chkEs N sc ie es = true → HypEs (gamX X k) ie → ∀ G0 H0 ρ, PPs X dp keys es (trsOf X.K X.mg EX G0 H0 ρ ks ie)
  | .nil, X, sc, EX, ks, keys, es, dp, o, hk, hl, h, hy, G0, H0, ρ => by
    cases es with
    | cons e es => simp [chkEs] at h
    | nil =>
      have hn : keys = [] := List.length_eq_zero_iff.mp hl
      subst hn
      cases ks with
      | cons z zs => simp [keysC] at hk
      | nil => exact pps_nil
  | .cons a r, X, sc, EX, ks, keys, es, dp, o, hk, hl, h, hy, G0, H0, ρ => by
    cases es with
    | nil => simp [chkEs] at h
    | cons e es =>
      cases keys with
      | nil => simp at hl
      | cons key keys =>
        cases ks with
        | nil => simp [keysC] at hk
        | cons z zs =>
          cases key with
          | none => simp [keysC] at hk
          | some key =>
            simp only [keysC, Bool.and_eq_true] at hk
            simp only [chkEs, Bool.and_eq_true] at h
            simp only [HypEs] at hy
            exact pps_cons (pe_key hk.1) (sndE a X sc EX e o h.2.1 hy.1 G0 H0 ρ).pe (sndDs r X sc EX zs keys es dp o hk.2 (by simpa using hl) h.2.2 hy.2 G0 H0 ρ)
theorem sndO {N : List Str} {k : Nat} : ∀ (ie : IO) (X : Cx) (sc : Scope) (EX : XK) (e : Option Expr), Cok X N sc k EX → chkO N sc ie e = true → HypO (gamX X k) ie → ∀ G0 H0 ρ, PO X e (rdO X.K X.mg EX G0 H0 ρ (evO ie ρ))
  | .none, X, sc, EX, e, o, h, hy, G0, H0, ρ => by
    cases e with
    | some e => simp [chkO] at h
    | none =>
      refine PO.imp po_none fun σ H Q ⟨G, st, p⟩ => ?_
      simp only [evO] at p
      exact Post.now st.subG p rfl
  | .some a, X, sc, EX, e, o, h, hy, G0, H0, ρ => by
    cases e with
    | none => simp [chkO] at h
    | some e =>
      simp only [chkO] at h
      simp only [HypO] at hy
      have h1 := sndE a X sc EX e o h hy G0 H0 ρ
      refine PO.imp (po_some h1.pe) fun σ H Q ⟨G, st, p⟩ => ?_
      simp only [evO] at p
      refine ⟨G, st, Post.bind p fun x dx G1 H1 e1 r1 er p1 => ?_⟩
      cases r1 <;> first | exact False.elim p1 | skip
      exact ⟨_, rfl, Post.now e1.inn p1 rfl⟩
theorem sndC {N : List Str} {k : Nat} : ∀ (ie : IO) (X : Cx) (sc : Scope) (EX : XK) (es : List Expr), Cok X N sc k EX → chkC N sc ie es = true → HypO (gamX X k) ie → ∀ G0 H0 ρ, PTs X es (rdT X.K X.mg EX G0 H0 ρ (evC ie ρ))
  | .none, X, sc, EX, es, o, h, hy, G0, H0, ρ => by
    cases es with
    | cons a b => simp [chkC] at h
    | nil =>
      refine ⟨fun pins s σ H Q I ⟨G, st, p⟩ => pts_nil.run pins s σ H Q I ?_⟩
      simp only [evC] at p
      exact Post.now st.subG p rfl
  | .some a, X, sc, EX, es, o, h, hy, G0, H0, ρ => by
    cases es with
    | nil => simp [chkC] at h
    | cons e es =>
      cases es with
      | cons a b => simp [chkC] at h
      | nil =>
        simp only [chkC] at h
        simp only [HypO] at hy
        have h1 := sndE a X sc EX e o h hy G0 H0 ρ
        refine ⟨fun pins s σ H Q I q => (pts_one h1.pt).run pins s σ H Q I (by simpa only [evC] using q)⟩
theorem sndI {N : List Str} {k : Nat} : ∀ (ie : II) (X : Cx) (sc : Scope) (EX : XK) (t e : Expr), Cok X N sc k EX → chkI N sc ie t e = true → HypI (gamX X k) ie → ∀ G0 H0 ρ, PI X t e (rdI X.K X.mg EX G0 H0 ρ (evI ie ρ))
  | .seq a, X, sc, EX, t, e, o, h, hy, G0, H0, ρ => by
    simp only [chkI] at h
    simp only [HypI] at hy
    have h1 := sndE a X sc EX e o h hy G0 H0 ρ
    simp only [evI]
    exact rd_items h1.pe
  | .rng1 a, X, sc, EX, t, e, o, h, hy, G0, H0, ρ => by
    simp only [chkI] at h
    simp only [HypI] at hy
    split at h
    · simp only [Bool.and_eq_true, decide_eq_true_eq] at h
      obtain ⟨h1, h2, h3, h4⟩ := h
      subst h1
      obtain ⟨hg, hp⟩ := o.gl h2
      have ih := sndE a X sc EX _ o h4 hy.2 G0 H0 ρ
      refine PI.imp (pi_range1 hg hy.1 (pa_cons ih.pe pa_nil (star_cons h3)) (star_cons h3)) fun σ H R ⟨G, st, p⟩ => ?_
      simp only [evI] at p
      refine ⟨G, st, Post.bind p fun x dx G1 H1 e1 r1 er p1 => ?_⟩
      cases r1 <;> first | exact False.elim p1 | skip
      rename_i j
      have p1 : Post X.mg EX (fun G J ds => Walks X.K G J ds) (if -(2 ^ 62) ≤ j ∧ j < 2 ^ 62 then .ok (upto j.toNat 0) else .no) G1 H1 R := p1
      split at p1
      · rename_i hj
        exact ⟨j, rfl, hj.1, hj.2, Post.now e1.inn p1 (walks_rng 0 _)⟩
      · exact p1.elim
    · cases h
  | .rng2 a b, X, sc, EX, t, e, o, h, hy, G0, H0, ρ => by
    simp only [chkI] at h
    simp only [HypI] at hy
    split at h
    · simp only [Bool.and_eq_true, decide_eq_true_eq] at h
      obtain ⟨h1, h2, h3, h4, h5, h6⟩ := h
      subst h1
      obtain ⟨hg, hp⟩ := o.gl h2
      have ih := sndE a X sc EX _ o h5 hy.2.1 G0 H0 ρ
      have ih2 := sndE b X sc EX _ o h6 hy.2.2 G0 H0 ρ
      refine PI.imp (pi_range2 hg hy.1 (pa_cons ih.pe (pa_cons ih2.pe pa_nil (star_cons h4)) (star_cons h3)) (by rw [star_cons h3, star_cons h4]; rfl) (by rw [star_cons h4]; rfl)) fun σ H R ⟨G, st, p⟩ => ?_
      simp only [evI] at p
      refine ⟨G, st, Post.bind p fun x dx G1 H1 e1 r1 er1 p1 => ⟨G1, st.mono e1, Post.bind p1 fun y dy G2 H2 e2 r2 er2 p2 => ?_⟩⟩
      clear er1 er2
      cases r1 <;> first | (cases r2 <;> exact False.elim p2) | skip
      cases r2 <;> first | exact False.elim p2 | skip
      rename_i i j
      have p2 : Post X.mg EX (fun G J ds => Walks X.K G J ds) (if -(2 ^ 62) ≤ i ∧ i < 2 ^ 62 ∧ -(2 ^ 62) ≤ j ∧ j < 2 ^ 62 then .ok (upto (j - i).toNat i) else .no) G2 H2 R := p2
      split at p2
      · rename_i hj
        exact ⟨i, j, rfl, hj, Post.now e2.inn p2 (walks_rng i _)⟩
      · exact p2.elim
    · cases h
  | .zip a b, X, sc, EX, t, e, o, h, hy, G0, H0, ρ => by
    simp only [chkI] at h
    simp only [HypI] at hy
    split at h
    · simp only [Bool.and_eq_true, decide_eq_true_eq] at h
      obtain ⟨h0, h1, h2, h3, h4, h5, h6⟩ := h
      subst h1
      obtain ⟨hg, hp⟩ := o.gl h2
      have ih := sndE a X sc EX _ o h5 hy.2.1 G0 H0 ρ
      have ih2 := sndE b X sc EX _ o h6 hy.2.2 G0 H0 ρ
      cases t <;> first | (cases h0; done) | skip
      refine PI.imp (RZ.pi_zipA hg hy.1 (pa_cons ih.pe (pa_cons ih2.pe pa_nil (star_cons h4)) (star_cons h3)) (star_cons h3) (by rw [star_cons h4]; rfl)) fun σ H R ⟨G, st, p⟩ => ?_
      simp only [evI] at p
      refine ⟨G, st, Post.bind p fun x dx G1 H1 e1 r1 er1 p1 => ⟨G1, st.mono e1, Post.bind p1 fun y dy G2 H2 e2 r2 er2 p2 => ?_⟩⟩
      clear er1 er2
      have r1 := e2.rp r1
      cases r1 <;> first | (cases r2 <;> exact False.elim p2) | skip
      · cases r2 <;> first | exact False.elim p2 | skip
        rename_i a1 xs ds ha hds b1 ys es hb hes
        have p2 : Post X.mg EX (fun G J ds => Walks X.K G J ds) (if ds.length ≤ LIM ∧ es.length ≤ LIM then .ok (pairs ds es) else .no) G2 H2 R := p2
        split at p2
        · exact ⟨a1, b1, xs, ys, rfl, .inl ⟨(e2.inn.ls ha).sq, (e2.inn.ls hb).sq, Post.now e2.inn p2 (walks_zipL ha hds hb hes)⟩⟩
        · exact p2.elim
      · cases r2 <;> first | exact False.elim p2 | skip
        rename_i a1 xs ds ha hds b1 ys es hb hes
        have p2 : Post X.mg EX (fun G J ds => Walks X.K G J ds) (if ds.length ≤ LIM ∧ es.length ≤ LIM then .ok (pairs ds es) else .no) G2 H2 R := p2
        split at p2
        · exact ⟨a1, b1, xs, ys, rfl, .inr ⟨e2.inn.sqT ha, e2.inn.sqT hb, Post.now e2.inn p2 (walks_zipT ha hds hb hes)⟩⟩
        · exact p2.elim
    · cases h
  | .enu a, X, sc, EX, t, e, o, h, hy, G0, H0, ρ => by
    simp only [chkI] at h
    simp only [HypI] at hy
    split at h
    · rename_i y p0 x pos
      simp only [Bool.and_eq_true, decide_eq_true_eq] at h
      obtain ⟨h0, h1, h2, h3, h4⟩ := h
      subst h1
      obtain ⟨hg, hp⟩ := o.gl h2
      have ih := sndE a X sc EX _ o h4 hy.2 G0 H0 ρ
      cases t <;> first | (cases h0; done) | skip
      rename_i elts kk tpos
      have w1 := PI.imp (t' := rdI X.K X.mg EX G0 H0 ρ (evI (.enu a) ρ)) (pi_enum (p := p0) (pos := pos) (elts := elts) (kk := kk) (tpos := tpos) hg hy.1 (pa_cons ih.pe pa_nil (star_cons h3)) (star_cons h3))
      have w2 := PI.imp (t' := rdI X.K X.mg EX G0 H0 ρ (evI (.enu a) ρ)) (pi_enumT (p := p0) (pos := pos) (elts := elts) (kk := kk) (tpos := tpos) hg hy.1 (pa_cons ih.pe pa_nil (star_cons h3)) (star_cons h3))
      cases hr : evE a ρ with
      | no => exact ⟨fun pins s σ H Q I ⟨G, st, p⟩ => by simp only [evI, hr] at p; exact p.elim⟩
      | er z =>
        refine w1 fun σ H Q ⟨G, st, p⟩ => ?_
        simp only [evI, hr] at p
        rw [hr]
        exact ⟨G, st, p⟩
      | ok d =>
        cases d with
        | list ds =>
          refine w1 fun σ H R ⟨G, st, p⟩ => ?_
          simp only [evI, hr] at p
          rw [hr]
          refine ⟨G, st, fun v G1 H1 e1 r1 => ?_⟩
          cases r1
          rename_i b xs hb hds
          have p1 : Post X.mg EX (fun G J ds => Walks X.K G J ds) ((if ds.length ≤ LIM then .ok ds else .no) >>= fun xs => .ok (count 0 xs)) G1 H1 R := Post.mono p e1
          split at p1
          · exact ⟨b, xs, rfl, (e1.inn.ls hb).sq, Post.now e1.inn p1 (walks_enumL hb hds)⟩
          · exact p1.elim
        | tuple ds =>
          refine w2 fun σ H R ⟨G, st, p⟩ => ?_
          simp only [evI, hr] at p
          rw [hr]
          refine ⟨G, st, fun v G1 H1 e1 r1 => ?_⟩
          cases r1
          rename_i b xs hb hds
          have p1 : Post X.mg EX (fun G J ds => Walks X.K G J ds) ((if ds.length ≤ LIM then .ok ds else .no) >>= fun xs => .ok (count 0 xs)) G1 H1 R := Post.mono p e1
          split at p1
          · exact ⟨b, xs, rfl, e1.inn.sqT hb, Post.now e1.inn p1 (walks_enumT hb hds)⟩
          · exact p1.elim
        | _ => exact ⟨fun pins s σ H Q I ⟨G, st, p⟩ => by simp only [evI, hr] at p; exact p.elim⟩
    · cases h
end
end Rf
namespace Rf
open PySem PySem.Spec PyProof.Rows L2 LamX

def notComp : Expr → Bool
  | .ListComp _ _ _ _ => false
  | .SetComp _ _ _ _ => false
  | .DictComp _ _ _ _ _ => false
  | _ => true
def lcFree : Expr → Str → Bool
  | .ListComp _ _ scope _, x => !(scope.names.any fun (n, k) => n == x && (k == .local || k == .cell))
  | _, _ => false
mutual
def chkS (N : List Str) (sc : Scope) : IS → Stmt → Bool
  | .set i e, s => match s with
    | .Assign [.Name x p] v _ => decide (N[i]? = some x) && (locB sc x && (chkE N sc e v && (notComp v || (match sc.names.lookup x with
      | some .cell => true
      | some .local => (p.line == v.pos.line) && lcFree v x
      | _ => false))))
    | _ => false
  | .new i es, s => match s with
    | .Assign [.Name x _] (.List xs _) _ => decide (N[i]? = some x) && (locB sc x && (chkEs N sc es xs && decide (xs.length ≤ 1000)))
    | _ => false
  | .tset ts e, s => match s with
    | .Assign [.Tuple es _ _] v _ => chkTs N sc ts es && (chkE N sc e v && !isTup v)
    | _ => false
  | .par2 i j a b, s => match s with
    | .Assign [.Tuple [.Name x px, .Name y py] _ _] (.Tuple [ea, eb] _ _) _ => decide (N[i]? = some x) && (decide (N[j]? = some y) && (decide (x ≠ y) && (decide (i ≠ j) && (decide (sc.names.lookup x = some .local) && (decide (sc.names.lookup y = some .local) &&
      (decide (py.line = px.line) && (!([ea, eb].all (foldedForSure 8)) && (!([ea, eb].all (constantsAlone 8)) && (notStar ea && (notStar eb && (chkE N sc a ea && chkE N sc b eb)))))))))))
    | _ => false
  | .app i e, s => match s with
    | .Expr (.Call (.Attribute (.Name x _) m ap) [v] [] cp) _ => decide (m = "append") && (decide (N[i]? = some x) && (visB sc x && (notStar v && ((ap.endLine == cp.line) && chkE N sc e v))))
    | _ => false
  | .ext i e, s => match s with
    | .Expr (.Call (.Attribute (.Name x _) m ap) [v] [] cp) _ => decide (m = "extend") && (decide (N[i]? = some x) && (visB sc x && (notStar v && ((ap.endLine == cp.line) && chkE N sc e v))))
    | _ => false
  | .pop i, s => match s with
    | .Expr (.Call (.Attribute (.Name x _) m ap) [] [] cp) _ => decide (m = "pop") && (decide (N[i]? = some x) && (visB sc x && (ap.endLine == cp.line)))
    | _ => false
  | .owa i a b, s => match s with
    | .Assign [.Name x _] (.BinOp l o r _) _ => decide (o = .Add) && (decide (N[i]? = some x) && (locB sc x && (chkE N sc a l && chkE N sc b r)))
    | _ => false
  | .ows i a lo hi, s => match s with
    | .Assign [.Name x _] (.Subscript v (.Slice l u none _) _) _ => decide (N[i]? = some x) && (locB sc x && (chkE N sc a v && (chkO N sc lo l && chkO N sc hi u)))
    | _ => false
  | .put i k e, s => match s with
    | .Assign [.Subscript (.Name x _) ke _] v _ => decide (N[i]? = some x) && (visB sc x && (notSlice ke && (notComp v && (chkE N sc k ke && chkE N sc e v))))
    | _ => false
  | .frz _, _ => false
  | .kil _, _ => false
  | .ret e, s => match s with
    | .Return (some v) _ => chkE N sc e v
    | _ => false
  | .exp e, s => match s with
    | .Expr v _ => notComp v && chkE N sc e v
    | _ => false
  | .ife c a b, s => match s with
    | .If t x y _ => chkE N sc c t && (chkSs N sc a x && chkSs N sc b y)
    | _ => false
  | .whl c b, s => match s with
    | .While t x [] _ => chkE N sc c t && chkSs N sc b x
    | _ => false
  | .fr tg it b, s => match s with
    | .For t i x [] _ => notSet i && (chkT N sc tg t && (chkI N sc it t i && chkSs N sc b x))
    | _ => false
  | .brk, s => match s with
    | .Break _ => true
    | _ => false
  | .cnt, s => match s with
    | .Continue _ => true
    | _ => false
  | .pass, s => match s with
    | .Pass _ => true
    | _ => false
  | .rse x, s => match s with
    | .Raise (some (.Call (.Name y _) [.Constant (.str _) _ _] [] _)) none _ => decide (x = y) && gloB sc y
    | _ => false
  | .tryb i e x _ c, s => match s with
    | .Try [.Assign [.Name v _] ve _] [.ExceptHandler (some (.Name z _)) none [.Assign [.Name v2 _] (.Constant (.bool cb) _ _) _] _] [] [] _ => decide (N[i]? = some v) && (decide (v2 = v) && (locB sc v && (notComp ve && (decide (z = x) && (gloB sc z && (decide (cb = c) && chkE N sc e ve))))))
    | _ => false
  | .tld i e, s => match s with
    | .Assign [.Name v _] (.Call (.Name y _) [.Lambda ⟨[], [], none, [], [], none, []⟩ body scope _] [] _) _ => decide (N[i]? = some v) && (locB sc v && (decide (y = "_law_told") && (gloB sc y && (lamSB sc scope && chkE N scope e body))))
    | _ => false
  | .tif e d a b, s => match s with
    | .If (.Compare (.Call (.Name y _) [.Lambda ⟨[], [], none, [], [], none, []⟩ body scope _] [] _) [o] [de] _) x z _ => decide (o = .NotEq) && (notSet de && (decide (y = "_law_told") && (gloB sc y && (lamSB sc scope && (chkE N scope e body && (chkE N sc d de && (chkSs N sc a x && chkSs N sc b z)))))))
    | _ => false
  | .par3 i j k a b c, s => match s with
    | .Assign [.Tuple [.Name x px, .Name y py, .Name z pz] _ _] (.Tuple [ea, eb, ec] _ _) _ => decide (N[i]? = some x) && (decide (N[j]? = some y) && (decide (N[k]? = some z) && (decide (x ≠ y ∧ x ≠ z ∧ y ≠ z) && (decide (i ≠ j ∧ i ≠ k ∧ j ≠ k) && (decide (sc.names.lookup x = some .local) && (decide (sc.names.lookup y = some .local) && (decide (sc.names.lookup z = some .local) &&
      (decide (py.line = px.line ∧ pz.line = px.line) && (!([ea, eb, ec].all (foldedForSure 8)) && (!([ea, eb, ec].all (constantsAlone 8)) && (notStar ea && (notStar eb && (notStar ec && (chkE N sc a ea && (chkE N sc b eb && chkE N sc c ec)))))))))))))))
    | _ => false
  | .nev, _ => true
def chkSs (N : List Str) (sc : Scope) : ISs → List Stmt → Bool
  | .nil, ss => ss.isEmpty
  | .cons s r, ss => match s with
    | .frz _ => chkSs N sc r ss
    | .kil _ => chkSs N sc r ss
    | s => (match ss with
      | t :: ts => chkS N sc s t && chkSs N sc r ts
      | [] => false)
end
def HypX (Γ : GamS) (x : Str) : List (Str × Bool) → Prop
  | [] => True
  | q :: r => Γ.exm q.1 x q.2 ∧ HypX Γ x r
theorem HypX.at {Γ : GamS} {x y : Str} {b : Bool} : ∀ {l : List (Str × Bool)}, HypX Γ x l → l.lookup y = some b → Γ.exm y x b
  | [], _, h => by simp at h
  | (z, c) :: r, hx, h => by
    rw [List.lookup_cons] at h
    split at h
    · rename_i e
      cases h
      rw [eq_of_beq e]
      exact hx.1
    · exact HypX.at hx.2 h
mutual
def HypS (Γ : GamS) : IS → Prop
  | .set _ e => HypE Γ.g e
  | .new _ es => HypEs Γ.g es
  | .tset _ e => HypE Γ.g e
  | .par2 _ _ a b => HypE Γ.g a ∧ HypE Γ.g b
  | .app _ e => HypE Γ.g e
  | .ext _ e => HypE Γ.g e
  | .pop _ => True
  | .owa _ a b => HypE Γ.g a ∧ HypE Γ.g b
  | .ows _ a lo hi => HypE Γ.g a ∧ HypO Γ.g lo ∧ HypO Γ.g hi
  | .put _ k e => HypE Γ.g k ∧ HypE Γ.g e
  | .frz _ => True
  | .kil _ => True
  | .ret e => HypE Γ.g e
  | .exp e => HypE Γ.g e
  | .ife c a b => HypE Γ.g c ∧ HypSs Γ a ∧ HypSs Γ b
  | .whl c b => HypE Γ.g c ∧ HypSs Γ b
  | .fr _ it b => HypI Γ.g it ∧ HypSs Γ b
  | .brk => True
  | .cnt => True
  | .pass => True
  | .rse x => Γ.exc x
  | .tryb _ e x ys _ => HypE Γ.g e ∧ Γ.exc x ∧ HypX Γ x ys
  | .tld _ e => Γ.lam ∧ Γ.low e
  | .tif e d a b => Γ.lam ∧ Γ.low e ∧ HypE Γ.g d ∧ HypSs Γ a ∧ HypSs Γ b
  | .par3 _ _ _ a b c => HypE Γ.g a ∧ HypE Γ.g b ∧ HypE Γ.g c
  | .nev => True
def HypSs (Γ : GamS) : ISs → Prop
  | .nil => True
  | .cons s r => HypS Γ s ∧ HypSs Γ r
end
def PostS (K : PySem.W.Frag) (mg : Str → Option Value) (EX : XK) (G0 H0 : Hp) (Gc : Hp) : Out → Ends → Prop
  | .no, _ => False
  | .nx ρ, F => ∀ σ G H, Stt K G0 H0 ρ σ G H → Sub Gc G → F.nx σ H
  | .rt d, F => ∀ v G H, Ext G0 H0 G H → Rp K G v d → F.rt v H
  | .bk ρ, F => ∀ σ G H, Stt K G0 H0 ρ σ G H → Sub Gc G → F.bk σ H
  | .ct ρ, F => ∀ σ G H, Stt K G0 H0 ρ σ G H → Sub Gc G → F.ct σ H
  | .er x, _ => ∃ C, mg x = some (.ref C) ∧ ∀ G H, Ext G0 H0 G H → EX (.ref C) none H
theorem PostS.mono {K : PySem.W.Frag} {mg : Str → Option Value} {EX : XK} {G0 H0 G G' : Hp} {o : Out} {F : Ends} (p : PostS K mg EX G0 H0 G o F) (s : Sub G G') : PostS K mg EX G0 H0 G' o F := by
  cases o with
  | nx ρ => exact fun σ G1 H st h => p σ G1 H st (s.trans h)
  | bk ρ => exact fun σ G1 H st h => p σ G1 H st (s.trans h)
  | ct ρ => exact fun σ G1 H st h => p σ G1 H st (s.trans h)
  | _ => exact p
def rdS (K : PySem.W.Frag) (mg : Str → Option Value) (EX : XK) (G0 H0 : Hp) (ρ : Env) (o : Out) : TS := fun F σ H => ∃ G, Stt K G0 H0 ρ σ G H ∧ PostS K mg EX G0 H0 G o F
section
variable {X : Cx} {EX : XK} {G0 H0 G H : Hp} {ρ : Env} {σ : L2.St} {F : Ends}
/-- an expression ahead of the rest -/
theorem ofE {α β : Type} {R : Hp → β → α → Prop} {r : Res α} {f : α → Out} {Q : β → Hp → Prop} (st : Stt X.K G0 H0 ρ σ G H) (p : PostS X.K X.mg EX G0 H0 G (Out.ofR r f) F)
    (h : ∀ b a G1 H1, Ext G H G1 H1 → R G1 b a → r = .ok a → PostS X.K X.mg EX G0 H0 G1 (f a) F → Q b H1) : Post X.mg EX R r G H Q := by
  cases r with
  | no => exact p
  | er x =>
    obtain ⟨C, h1, h2⟩ := p
    exact ⟨C, h1, fun G' H' e => h2 G' H' (st.ext.trans e)⟩
  | ok a => exact fun b G' H' e r => h b a G' H' e r rfl (PostS.mono (show PostS X.K X.mg EX G0 H0 G (f a) F from p) e.subG)
theorem swaps_plain {v : Expr} {t : Option Expr} {l : Nat} {env : PySem.Env} (h : notComp v = true) : swapsWith v t l env = pure false := by
  cases v <;> first | rfl | cases h
theorem swaps_cell {v : Expr} {x : Str} {p : Pos} {l : Nat} {env : PySem.Env} (h : env.kindOf x = some .cell) : swapsWith v (some (.Name x p)) l env = pure false := by
  have hb : (env.kindOf x == some NameKind.local) = false := by rw [h]; rfl
  by_cases hv : notComp v = true
  · exact swaps_plain hv
  · cases v <;> first | exact absurd rfl hv | skip
    all_goals
      unfold swapsWith
      show (pure (env.blockKind == .function && env.kindOf x == some .local && _ && _) : Sem Bool) = pure false
      rw [hb]
      simp
theorem swaps_tup {v : Expr} {es : List Expr} {k l : Nat} {p : Pos} {env : PySem.Env} : swapsWithSole [.Tuple es k p] v l env = pure false := by
  cases v <;> rfl
theorem stores_tup {v : Expr} {es : List Expr} {k : Nat} {p : Pos} {env : PySem.Env} (h : isTup v = false) : swappedStores [.Tuple es k p] v env = pure none := by
  cases v <;> first | rfl | cases h
theorem stores_sub {v o i : Expr} {p : Pos} {env : PySem.Env} : swappedStores [.Subscript o i p] v env = pure none := by
  cases v <;> rfl
theorem stores_par {x y : Str} {px py pt p2 : Pos} {kt k2 : Nat} {a b : Expr} {env : PySem.Env} (hk : env.scope.kind = .function) (hx : env.kindOf x = some .local) (hy : env.kindOf y = some .local) (hl : py.line = px.line) (ne : x ≠ y)
    (f1 : [a, b].all (foldedForSure 8) = false) (f2 : [a, b].all (constantsAlone 8) = false) (sa : notStar a = true) (sb : notStar b = true) :
    swappedStores [.Tuple [.Name x px, .Name y py] kt pt] (.Tuple [a, b] k2 p2) env = pure (some [x, y]) := by
  have hb : env.blockKind = .function := by unfold Env.blockKind; rw [hk]; rfl
  have st : ([a, b].any fun | .Starred .. => true | _ => false) = false := by
    cases a <;> first | (cases sa; done) | (cases b <;> first | (cases sb; done) | rfl)
  have nm : ([Expr.Name x px, Expr.Name y py].filterMap fun
    | .Name id pos => if env.kindOf id == some .local && pos.line == px.line then some id else none
    | _ => none) = [x, y] := by
    simp [hx, hy, hl]
  have ed : [x, y].eraseDups = [x, y] := by
    have hxy : (y == x) = false := beq_eq_false_iff_ne.mpr ne.symm
    simp [List.eraseDups_cons, List.filter, hxy]
  unfold swappedStores
  simp only [List.length_cons, List.length_nil, List.head?_cons, Option.map_some, Option.getD_some]
  have nm2 : ([Expr.Name x px, Expr.Name y py].filterMap fun
    | .Name id pos => if env.kindOf id == some .local && pos.line == (Expr.Name x px).pos.line then some id else none
    | _ => none) = [x, y] := nm
  simp only [hb, f1, f2]
  have key : ∀ l : List Str, l = [x, y] → (if (l.length != 0 + 1 + 1 || l.eraseDups.length != l.length) = true then pure none else if false = true then pure none else if false = true then (do unsupported "assign.tuple-of-constant-expressions:order-of-the-stores"; pure (some l)) else pure (some l) : Sem (Option (List Str))) = pure (some [x, y]) := by
    intro l e
    subst e
    rw [ed]
    rfl
  refine (if_neg (by decide)).trans ((if_neg (Bool.eq_false_iff.mp st)).trans ?_)
  exact key _ nm2
end
end Rf
namespace Rf
open PySem PySem.Spec PyProof.Rows L2 LamX
def rCntF (K : PySem.W.Frag) : V → List V → Hp → VK → Prop := fun x xs H Q => ∃ (a : Addr) (ys : List V) (y : V), x = V.ref a ∧ xs = [y] ∧ SqL K H a ys ∧ flatV y = true ∧ ys.all flatV = true ∧ Q (.int (ys.countP (fun z => eqV z y) : Nat)) H
theorem countU {y : V} : ∀ {ys : List V} {us : List Value}, Vals ys us → ys.all flatV = true → us.countP (eqU y) = ys.countP (fun z => eqV z y)
  | _, _, .nil, _ => rfl
  | z :: ys, u :: us, .cons r t, f => by
    rw [List.all_cons, Bool.and_eq_true] at f
    rw [List.countP_cons, List.countP_cons, countU t f.2, eqU_of r f.1]
theorem mt_cntF {X : Cx} : MtR X "list.count" (rCntF X.K) := by
  intro pins s σ H x xs v us Q I rx rxs h
  obtain ⟨a, ys, y, rfl, rfl, hs, fy, fys, q⟩ := h
  cases rx
  cases rxs with
  | cons ry rt =>
    rename_i uy ut
    cases rt
    obtain ⟨its, rv, ⟨⟨cls, dd, data, sl⟩, n, ho, hc, hdn, hd⟩, hlen⟩ := I.list hs
    simp only at hc hd
    subst hc hd
    refine call_meets PySem.F.slot_list_count ⟨_, ho, rfl⟩ PySem.F.entry_list_count (PySem.F.args_list_count_2 _ _)
      (SeqAt.list_countAt a its.toArray n dd sl uy (eqU y)) ⟨ho, fun u' hu' => mem_eqAt ry fy rv fys u' (by simpa using hu'), ?_⟩
    have ec : its.toArray.toList.countP (eqU y) = ys.countP (fun z => eqV z y) := countU rv fys
    refine ⟨.int (ys.countP (fun z => eqV z y) : Nat), H, I.tok _, ⟨s.toks, ?_⟩, q⟩
    show Value.int ((its.toArray.toList.countP (eqU y) : Nat) : Int) s.toks = _
    rw [ec]
def clsA (K : PySem.W.Frag) (x : Str) : Addr := match PySem.W.nsIn K mainGlobals x with
  | some (some (.ref a)) => a
  | _ => 0
def isRefB (K : PySem.W.Frag) (x : Str) : Bool := match PySem.W.nsIn K mainGlobals x with
  | some (some (.ref _)) => true
  | _ => false
def excCB (K : PySem.W.Frag) (D : Addr) : Bool :=
  (PySem.W.findIn K (.ref D) "__getattribute__" == some (some (.builtin "BaseException.__getattribute__"))) && ((PySem.W.findIn K (.ref D) "__getattr__" == some none) && ((PySem.W.subIn K (.ref D) (.type "BaseException") == some true) && (PySem.W.hasDictIn K D && ((PySem.W.findIn K (.ref D) "__class__" == some (some (.builtin "object.__class__"))) &&
  ((PySem.W.specialIn K (.builtin "object.__class__") "__get__" == some (some (.builtin "getset_descriptor.__get__"))) && ((PySem.W.takesIn K (.builtin "object.__class__") == some true) && (PySem.W.mroIn K D (.type "object") == some true)))))))
theorem excC_of {K : PySem.W.Frag} {D : Addr} (h : excCB K D = true) : ExcC K D := by
  unfold excCB at h
  simp only [Bool.and_eq_true, beq_iff_eq] at h
  obtain ⟨h1, h2, h3, h4, h5, h6, h7, h8⟩ := h
  exact ⟨h1, h2, h3, h4, h5, h6, h7, h8⟩
theorem mg_ref {K : PySem.W.Frag} {h : Heap} {mg : Str → Option Value} (X : K.In h) (N : h.Ns mainGlobals mg) {x : Str} (c : isRefB K x = true) : mg x = some (.ref (clsA K x)) := by
  unfold isRefB at c
  unfold clsA
  split at c
  · rename_i a e
    exact PySem.W.mg_of X N e
  · cases c
structure TldF (K : PySem.W.Frag) (mg : Str → Option Value) : Prop where
  ref : ∀ x ∈ excN, mg x = some (.ref (clsA K x))
  drw : mg "DrawError" = some (.ref (clsA K "DrawError"))
  exc : ∀ x ∈ excN, ExcC K (clsA K x)
  kit : ∀ x ∈ excN, ∀ y ∈ excN, PySem.W.kitOne K (.ref (clsA K x)) (.ref (clsA K y)) = some (decide (x = y))
  val : ∀ x ∈ excN, PySem.W.kitOne K (.ref (clsA K x)) (.type "ValueError") = some true
  exm : ∀ x ∈ excN, PySem.W.exmOne K (.ref (clsA K x)) (.ref (clsA K "DrawError")) = some true
  isi : mg "isinstance" = none
  ve : mg "ValueError" = none
def tldB (K : PySem.W.Frag) : Bool := isRefB K "DrawError" && excN.all fun x => isRefB K x && (excCB K (clsA K x) && ((excN.all fun y => PySem.W.kitOne K (.ref (clsA K x)) (.ref (clsA K y)) == some (decide (x = y))) &&
  ((PySem.W.kitOne K (.ref (clsA K x)) (.type "ValueError") == some true) && (PySem.W.exmOne K (.ref (clsA K x)) (.ref (clsA K "DrawError")) == some true))))
theorem tldF_of {K : PySem.W.Frag} {h : Heap} {mg : Str → Option Value} (X : K.In h) (N : h.Ns mainGlobals mg) (c : tldB K = true) (h1 : mg "isinstance" = none) (h2 : mg "ValueError" = none) : TldF K mg := by
  unfold tldB at c
  simp only [Bool.and_eq_true, List.all_eq_true, beq_iff_eq] at c
  obtain ⟨c0, c⟩ := c
  exact ⟨fun x hx => mg_ref X N (c x hx).1, mg_ref X N c0, fun x hx => excC_of (c x hx).2.1, fun x hx y hy => (c x hx).2.2.1 y hy, fun x hx => (c x hx).2.2.2.1, fun x hx => (c x hx).2.2.2.2, h1, h2⟩
theorem _root_.L2.PSs.pure_ {X : Cx} {ss : List Stmt} {t : TS} {φ : Prop} (h : φ → PSs X ss t) : PSs X ss (fun D σ H => φ ∧ t D σ H) := ⟨fun pins s σ H D I q => (h q.1).run pins s σ H D I q.2⟩
section
variable {X : Cx} {a D : Addr} {oe : Obj} {pn : List (Addr × Obj)}
def isiB (sc : Scope) (c : Str) (e : Expr) : Bool := match e with
  | .Call (.Name y _) [.Name v _, .Name z _] [] _ => decide (y = "isinstance") && (gloB sc y && (decide (v = "e") && (visB sc v && (decide (z = c) && gloB sc z))))
  | _ => false
theorem gl_of {sc : Scope} {x : Str} (hs : X.env.scope = sc) (h : gloB sc x = true) : Gl X x ∧ plainN x = true := by
  unfold gloB at h
  rw [Bool.and_eq_true] at h
  refine ⟨?_, h.1⟩
  have h2 := h.2
  split at h2
  · rename_i e
    show X.env.scope.names.lookup x = some .globalImplicit
    rw [hs]; exact e
  · cases h2
theorem vis_of {sc : Scope} {x : Str} (hs : X.env.scope = sc) (h : visB sc x = true) : Vis X.env.scope x ∧ plainN x = true := by
  unfold visB at h
  rw [Bool.and_eq_true] at h
  refine ⟨?_, h.1⟩
  rw [hs]
  have h2 := h.2
  split at h2
  · rename_i e; exact .inl e
  · rename_i e; exact .inr (.inl e)
  · rename_i e; exact .inr (.inr e)
  · cases h2
theorem loc_of {sc : Scope} {x : Str} (hs : X.env.scope = sc) (h : locB sc x = true) : Loc X.env.scope x := by
  unfold locB at h
  rw [hs]
  split at h
  · rename_i e; exact .inl e
  · rename_i e; exact .inr e
  · cases h
/-- isinstance(e, c) -/
theorem pe_isiE {sc : Scope} {c : Str} {e : Expr} {i : Nat} (hs : X.env.scope = sc) (hi : X.N[i]? = some ("e" : Str)) (T : TldF X.K X.mg) (C : ExcC X.K D) (hz : Zc (.ref D) none oe) (hf : ∃ vs, oe.data = .fields vs) (h : isiB sc c e = true) {cv : Value} (hc : ∃ v, RelV v cv ∧ (∀ u, RelV v u → u = cv) ∧ ((X.mg c = some cv) ∨ (X.mg c = none ∧ bootBuiltins c = some cv ∧ c ≠ "__name__"))) :
    PE (X.suite a ((a, oe) :: pn)) e (fun σ H Q => σ[i]? = some (some (.ref a)) ∧ ∃ b, PySem.W.kitOne X.K (.ref D) cv = some b ∧ Q (.bl b) H) := by
  unfold isiB at h
  split at h
  · rename_i y p v pv z pz pos
    simp only [Bool.and_eq_true, decide_eq_true_eq] at h
    obtain ⟨h1, h2, h3, h4, h5, h6⟩ := h
    subst h1 h3 h5
    obtain ⟨hg, hp⟩ := gl_of hs h2
    obtain ⟨hv, hpv⟩ := vis_of hs h4
    obtain ⟨hg', hp'⟩ := gl_of hs h6
    obtain ⟨vc, r1, r2, r3⟩ := hc
    have hcls : PE (X.suite a ((a, oe) :: pn)) (.Name z pz) (tC vc) := by
      rcases r3 with m | ⟨m, bb, nn⟩
      · exact pe_glob hg' m r1 (plain1 hp')
      · exact pe_bltn hg' m bb r1 nn (plain1 hp')
    refine PE.imp (pe_callB (X := X.suite a ((a, oe) :: pn)) (call_isE C hz hf) hg T.isi (by decide +kernel) (pa_cons (pe_var (i := i) hi hv (plain1 hpv) (plain2 hpv)) (pa_cons hcls pa_nil rfl) rfl) (by decide) (plain1 hp) rfl rfl) fun σ H Q q => ?_
    obtain ⟨q1, b, q2, q3⟩ := q
    exact ⟨_, q1, vc, cv, b, rfl, r2, q2, q3⟩
  · cases h
theorem isi_plain {sc : Scope} {c : Str} {e : Expr} (h : isiB sc c e = true) : plainTest e = true := by
  unfold isiB at h
  split at h
  · rfl
  · cases h
/-- a list of five questions or less -/
def isiBs (sc : Scope) : List Str → List Expr → Bool
  | [], [] => true
  | c :: cs, e :: es => notStar e && (isiB sc c e && isiBs sc cs es)
  | _, _ => false
theorem pa_isi {sc : Scope} {i : Nat} (hs : X.env.scope = sc) (hi : X.N[i]? = some ("e" : Str)) (T : TldF X.K X.mg) (C : ExcC X.K D) (hz : Zc (.ref D) none oe) (hf : ∃ vs, oe.data = .fields vs) {x : Str} (hx : x ∈ excN) (hD : D = clsA X.K x) : ∀ {cs : List Str} {es : List Expr}, (∀ c ∈ cs, c ∈ excN) → isiBs sc cs es = true →
    PA (X.suite a ((a, oe) :: pn)) es (fun σ H Q => σ[i]? = some (some (.ref a)) ∧ Q (cs.map fun c => V.bl (decide (x = c))) H)
  | [], [], _, _ => PA.imp pa_nil fun σ H Q q => q.2
  | [], _ :: _, _, h => by simp [isiBs] at h
  | _ :: _, [], _, h => by simp [isiBs] at h
  | c :: cs, e :: es, hc, h => by
    simp only [isiBs, Bool.and_eq_true] at h
    have h1 := pe_isiE (a := a) (pn := pn) (cv := .ref (clsA X.K c)) hs hi T C hz hf h.2.1 ⟨.ref (clsA X.K c), rfl, fun u r => r, .inl (T.ref c (hc c List.mem_cons_self))⟩
    have h2 := pa_isi hs hi T C hz hf hx hD (fun c hcc => hc c (List.mem_cons_of_mem _ hcc)) h.2.2
    refine PA.imp (pa_cons h1 h2 (star_cons h.1)) fun σ H Q q => ?_
    refine ⟨q.1, decide (x = c), ?_, q.1, q.2⟩
    rw [hD]
    exact T.kit x hx c (hc c List.mem_cons_self)
def cls4 : List Str := ["NoText", "NoNumber", "NoStroke", "NoMap"]
def cls2 : List Str := ["NoPen", "NoDeed"]
/-- the suite's text: N = [deed, found, kinds, e] -/
def suiteB (sc : Scope) : List Stmt → Bool
  | [.Assign [.Name k1 _] (.List l4 _) _, .Assign [.Name k2 _] (.BinOp (.Name k3 _) o1 (.List l2 _) _) _, .Assign [.Name f1 _] (.Tuple [.Constant (.str w1) _ _, .UnaryOp .USub (.Constant (.int m1) _ _) _] _ _) _,
     .If (.BoolOp .And [i1, .Compare (.Call (.Attribute (.Name k4 _) m _ap) [.Constant (.bool bt) _ _] [] _cp) [o2] [.Constant (.int m2) _ _] _] _) [.Assign [.Name f2 _] (.Tuple [.Constant (.str w2) _ _, .Call (.Attribute (.Name k5 _) m3 _ap2) [.Constant (.bool bt2) _ _] [] _cp2] _ _) _] [] _] =>
    isiBs sc cls4 l4 && (isiBs sc cls2 l2 && (isiB sc "ValueError" i1 && (decide (k1 = "_law_kinds") && (decide (k2 = "_law_kinds") && (decide (k3 = "_law_kinds") && (decide (k4 = "_law_kinds") && (decide (k5 = "_law_kinds") && (decide (f1 = "_law_found") && (decide (f2 = "_law_found") &&
    (decide (o1 = .Add) && (decide (o2 = .Eq) && (decide (w1 = "refused") && (decide (w2 = "refused") && (decide (m1 = 1) && (decide (m2 = 1) && (bt && (bt2 && (decide (m = "count") && (decide (m3 = "index") && ((_ap.endLine == _cp.line) && ((_ap2.endLine == _cp2.line) &&
    (decide (l4.length = 4) && (decide (l2.length = 2) && (visB sc "_law_kinds" && (locB sc "_law_kinds" && locB sc "_law_found")))))))))))))))))))))))))
  | _ => false
/-- behind the suite: the refusal's tuple stands in slot 1 -/
def endTold (K : PySem.W.Frag) (i : Nat) (a : Addr) : TS := fun F σ H => σ[3]? = some (some (.ref a)) ∧ σ.length = 4 ∧ ∃ G, Sub G H ∧ ∀ p G' H' σ', Ext G H G' H' → Rp K G' (.ref p) (.tuple [.str "refused", .int (i : Nat)]) → σ'.length = 4 → σ'[1]? = some (some (.ref p)) → F.nx σ' H'
theorem pss_suite {sc : Scope} (hN : X.N = ([("_law_deed" : Str), ("_law_found" : Str), ("_law_kinds" : Str), ("e" : Str)] : List Str)) (hs : X.env.scope = sc) (hfn : ∀ x, locB sc x = true → X.fn x = true ∨ X.env.scope.names.lookup x = some .local) (T : TldF X.K X.mg) (hz : Zc (.ref D) none oe) (hf : ∃ vs, oe.data = .fields vs) {x : Str} {n : Nat} (hn : excN[n]? = some x) (hD : D = clsA X.K x) {ss : List Stmt} (h : suiteB sc ss = true) :
    PSs (X.suite a ((a, oe) :: pn)) ss (endTold X.K n a) := by
  have hx : x ∈ excN := List.mem_of_getElem? hn
  have C : ExcC X.K D := by rw [hD]; exact T.exc x hx
  have hi : X.N[3]? = some ("e" : Str) := by rw [hN]; rfl
  have nd : X.N.Nodup := by rw [hN]; decide
  unfold suiteB at h
  split at h
  · rename_i k1 q1 l4 q2 q3 k2 q4 k3 q5 o1 l2 q6 q7 q8 f1 q9 w1 q10 q11 m1 q12 q13 q14 q15 q16 q17 i1 k4 q18 m ap bt q19 q20 cp o2 m2 q21 q22 q23 q24 f2 q25 w2 q26 q27 k5 q28 m3 ap2 bt2 q29 q30 cp2 q31 q32 q33 q34
    simp only [Bool.and_eq_true, decide_eq_true_eq] at h
    obtain ⟨hl4, hl2, hve, rfl, rfl, rfl, rfl, rfl, rfl, rfl, rfl, rfl, rfl, rfl, rfl, rfl, rfl, rfl, rfl, rfl, hap, hap2, h4, h2, vk, lk, lf⟩ := h
    obtain ⟨hvk, hpk⟩ := vis_of hs vk
    have n2 : X.N[2]? = some ("_law_kinds" : Str) := by rw [hN]; rfl
    have n1 : X.N[1]? = some ("_law_found" : Str) := by rw [hN]; rfl
    have kv : ∀ p : Pos, PE (X.suite a ((a, oe) :: pn)) (.Name "_law_kinds" p) (tVar 2) := fun p => pe_var (i := 2) n2 hvk (plain1 hpk) (plain2 hpk)
    have i4 := pa_isi (a := a) (pn := pn) hs hi T C hz hf hx hD (cs := cls4) (by decide) hl4
    have i2 := pa_isi (a := a) (pn := pn) hs hi T C hz hf hx hD (cs := cls2) (by decide) hl2
    have s1 := ps_set (X := X.suite a ((a, oe) :: pn)) (i := 2) (pos' := q1) (pos := q3) nd n2 (loc_of hs lk) (pe_lst (pos := q2) i4) (swaps_plain rfl) (hfn _ lk)
    have s2 := ps_set (X := X.suite a ((a, oe) :: pn)) (i := 2) (pos' := q4) (pos := q8) nd n2 (loc_of hs lk) (pe_op (pos := q7) op_catR (kv q5) (pe_lst (pos := q6) i2)) (swaps_plain rfl) (hfn _ lk)
    have s3 := ps_set (X := X.suite a ((a, oe) :: pn)) (i := 1) (pos' := q9) (pos := q17) nd n1 (loc_of hs lf) (pe_tup (pos := q16) (x1 := q15) (pa_cons (pe_str (x := "refused") (pos := q11) (j := q10)) (pa_cons (pe_un (pos := q14) un_neg (pe_int (i := 1) (j := q12) (pos := q13))) pa_nil rfl) rfl)) (swaps_plain rfl) (hfn _ lf)
    have t1 := pt_val (pe_isiE (a := a) (pn := pn) (cv := .type "ValueError") hs hi T C hz hf hve ⟨.ty "ValueError", rfl, fun u r => r, .inr ⟨T.ve, by decide +kernel, by decide⟩⟩) (isTrue_plain (isi_plain hve))
    have t2 := pt_cmpR (X := X.suite a ((a, oe) :: pn)) (pos := q23) op_eq (pe_bm (apos := ap) (cpos := cp) PySem.F.plainAttrs_list PySem.F.slot_list_count PySem.F.type_list_count mt_cntF (kv q18) (pa_cons (pe_bl (b := true) (j := q19) (pos := q20)) pa_nil rfl) rfl rfl hap rfl rfl) (pe_int (i := 1) (j := q21) (pos := q22)) (mark_plain rfl)
    have s5 := ps_set (X := X.suite a ((a, oe) :: pn)) (i := 1) (pos' := q25) (pos := q33) nd n1 (loc_of hs lf) (pe_tup (pos := q32) (x1 := q31) (pa_cons (pe_str (x := "refused") (pos := q27) (j := q26)) (pa_cons (pe_bm (apos := ap2) (cpos := cp2) PySem.F.plainAttrs_list PySem.F.slot_list_index PySem.F.type_list_index mt_index (kv q28) (pa_cons (pe_bl (b := true) (j := q29) (pos := q30)) pa_nil rfl) rfl rfl hap2 rfl rfl) pa_nil rfl) rfl)) (swaps_plain rfl) (hfn _ lf)
    have B6 : ∃ B : List V, cls4.map (fun c => V.bl (decide (x = c))) ++ cls2.map (fun c => V.bl (decide (x = c))) = B ∧ B.length = 6 ∧ B.all flatV = true ∧ B.countP (fun z => eqV z (.bl true)) = 1 ∧ B[n]? = some (.bl true) ∧ ∀ (m : Nat) (z' : V), m < n → B[m]? = some z' → eqV z' (.bl true) = false := by
      rcases n with _ | _ | _ | _ | _ | _ | n
      · cases hn
        exact ⟨[.bl true, .bl false, .bl false, .bl false, .bl false, .bl false], by decide, rfl, rfl, rfl, rfl, fun m z hm => by omega⟩
      · cases hn
        refine ⟨[.bl false, .bl true, .bl false, .bl false, .bl false, .bl false], by decide, rfl, rfl, rfl, rfl, fun m z hm hz => ?_⟩
        obtain rfl : m = 0 := by omega
        cases hz; rfl
      · cases hn
        refine ⟨[.bl false, .bl false, .bl true, .bl false, .bl false, .bl false], by decide, rfl, rfl, rfl, rfl, fun m z hm hz => ?_⟩
        have : m = 0 ∨ m = 1 := by omega
        rcases this with rfl | rfl <;> (cases hz; rfl)
      · cases hn
        refine ⟨[.bl false, .bl false, .bl false, .bl true, .bl false, .bl false], by decide, rfl, rfl, rfl, rfl, fun m z hm hz => ?_⟩
        have : m = 0 ∨ m = 1 ∨ m = 2 := by omega
        rcases this with rfl | rfl | rfl <;> (cases hz; rfl)
      · cases hn
        refine ⟨[.bl false, .bl false, .bl false, .bl false, .bl true, .bl false], by decide, rfl, rfl, rfl, rfl, fun m z hm hz => ?_⟩
        have : m = 0 ∨ m = 1 ∨ m = 2 ∨ m = 3 := by omega
        rcases this with rfl | rfl | rfl | rfl <;> (cases hz; rfl)
      · cases hn
        refine ⟨[.bl false, .bl false, .bl false, .bl false, .bl false, .bl true], by decide, rfl, rfl, rfl, rfl, fun m z hm hz => ?_⟩
        have : m = 0 ∨ m = 1 ∨ m = 2 ∨ m = 3 ∨ m = 4 := by omega
        rcases this with rfl | rfl | rfl | rfl | rfl <;> (cases hz; rfl)
      · cases hn
    obtain ⟨B, b0, b1, b2, b3, b4, b5⟩ := B6
    refine PSs.imp (pss_cons s1 (pss_cons s2 (pss_cons s3 (pss_one (ps_if (PW.pt (pw_and t1 (pw_and1 t2))) (pss_one s5) pss_nil))))) fun F σ H q => ?_
    obtain ⟨he, hlen, G, sG, fin⟩ := q
    have e1 : ∀ (v : Option V), (σ.set 2 v)[3]? = some (some (.ref a)) := fun v => by rw [List.getElem?_set_ne (by decide)]; exact he
    have g2 : ∀ (v : Option V) (τ : L2.St), τ.length = 4 → (τ.set 2 v)[2]? = some v := fun v τ h => List.getElem?_set_self (by omega)
    refine ⟨he, by show 4 ≤ sizeLine; decide, fun l1 f1 => ?_⟩
    have x1 := Ext.new' sG f1 (.lst (cls4.map fun c => V.bl (decide (x = c))))
    refine ⟨_, g2 _ _ hlen, e1 _, by show 2 ≤ sizeLine; decide, fun l2 f2 => ?_⟩
    have x2 := Ext.new' x1.inn f2 (.lst (cls2.map fun c => V.bl (decide (x = c))))
    refine ⟨l1, l2, _, _, rfl, rfl, .inl (.inl (x2.sub.g upd_same)), .inl (.inl upd_same), by show 6 ≤ sizeLine; decide, fun l3 f3 => ?_⟩
    rw [b0]
    have x3 := Ext.new' x2.inn f3 (.lst B)
    refine ⟨1, rfl, by show 2 ≤ sizeLine; decide, fun t1 f4 => ?_⟩
    have x4 := Ext.new' x3.inn f4 (.tup [.str "refused", .int (-1)])
    have hB : upd _ t1 (HO.tup [.str "refused", .int (-1)]) l3 = some (.lst B) := x4.sub.g upd_same
    have h2s : (((σ.set 2 (some (.ref l1))).set 2 (some (.ref l3))).set 1 (some (.ref t1)))[2]? = some (some (.ref l3)) := by
      rw [List.getElem?_set_ne (by decide)]; exact g2 _ _ (by simp [hlen])
    have h3s : (((σ.set 2 (some (.ref l1))).set 2 (some (.ref l3))).set 1 (some (.ref t1)))[3]? = some (some (.ref a)) := by
      rw [List.getElem?_set_ne (by decide), List.getElem?_set_ne (by decide)]; exact e1 _
    refine ⟨h3s, true, by rw [hD]; exact T.val x hx, true, rfl, ?_⟩
    dsimp only
    rw [if_pos rfl]
    refine ⟨_, h2s, .inl ⟨rfl, _, SqL.of hB⟩, l3, B, .bl true, rfl, rfl, SqL.of hB, rfl, b2, ?_⟩
    rw [b3]
    refine ⟨rfl, true, by rfl, ?_⟩
    dsimp only
    rw [if_pos rfl]
    refine ⟨_, h2s, .inl ⟨rfl, _, SqL.of hB⟩, l3, B, .bl true, n, .bl true, rfl, rfl, SqL.of hB, rfl, b2, b4, rfl, b5, ?_⟩
    refine ⟨by show 2 ≤ sizeLine; decide, fun t2 f5 => ?_⟩
    have x5 := Ext.new x4.inn f5 (.tup [.str "refused", .int (n : Nat)])
    refine fin t2 _ _ _ ((((x1.trans x2).trans x3).trans x4).trans x5) (.tup (.inl (.inl upd_same)) (.cons (.str _) (.cons (.int _) .nil))) (by simp [hlen]) ?_
    exact List.getElem?_set_self (by simp [hlen])
  · cases h
end
def toldN : List Str := [("_law_deed" : Str), ("_law_found" : Str), ("_law_kinds" : Str), ("e" : Str)]
def toldB (sg : Scope) : List Stmt → Bool
  | [.Try [.Assign [.Name f1 _] (.Tuple [.Constant (.str w) _ _, .Call (.Name d _) [] [] _] _ _) _] [.ExceptHandler (some (.Name x _)) (some n) (b₀ :: suite) _] [] [] _, .Return (some (.Name f2 _)) _] =>
    decide (f1 = "_law_found") && (decide (w = "told") && (decide (d = "_law_deed") && (decide (x = "DrawError") && (decide (n = "e") && (decide (f2 = "_law_found") && (suiteB sg (b₀ :: suite) && (gloB sg "DrawError" && (decide (sg.names.lookup ("e" : Str) = some .local) && (locB sg "_law_found" && (visB sg "_law_found" && visB sg "_law_deed"))))))))))
  | _ => false
def EXt (K : PySem.W.Frag) (Q : VK) : XK := fun cls d H' => ∃ n x, excN[n]? = some x ∧ cls = .ref (clsA K x) ∧ d = none ∧ ∃ G, Sub G H' ∧ ∀ p G' H'', Ext G H' G' H'' → Rp K G' (.ref p) (.tuple [.str "refused", .int (n : Nat)]) → Q (.ref p) H''
def TTt (K : PySem.W.Frag) : (XK → Hp → VK → Prop) → Hp → VK → Prop := fun tl H Q => ∀ (E : XK) (Q2 : VK), (∀ cls d H', EXt K Q cls d H' → E cls d H') → (∀ v H', (∀ p, H' p = none → Q (.ref p) (upd H' p (.tup [.str "told", v]))) → Q2 v H') → tl E H Q2
theorem told_gives {X : Cx} {g : Addr} {cdg : Value} {sg : Scope} {bg : List Stmt} {q : Str} (T : TldF X.K X.mg) (h : toldB sg bg = true) : GivesTo X toldN "_law_told" sg g cdg bg "_law_deed" q (TTt X.K) := by
  unfold toldB at h
  split at h
  · rename_i f1 q1 w q2 q3 d q4 q5 q6 q7 q8 x q9 n b₀ suite q10 q11 f2 q12 q13
    simp only [Bool.and_eq_true, decide_eq_true_eq] at h
    obtain ⟨rfl, rfl, rfl, rfl, rfl, rfl, hsu, hgl, he, hlf, hvf, hvd⟩ := h
    intro f c' s H Q tl act hc hT
    obtain ⟨hgl, hpl⟩ := gl_of (X := (cxOf C8.CX0 X.prog X.w X.K X.mg X.base toldN "_law_told" sg g cdg X.A X.stack s H C8.E0).nox) (sc := sg) rfl hgl
    obtain ⟨hvf, hpf⟩ := vis_of (X := (cxOf C8.CX0 X.prog X.w X.K X.mg X.base toldN "_law_told" sg g cdg X.A X.stack s H C8.E0).nox) (sc := sg) rfl hvf
    have nd : toldN.Nodup := by decide
    refine ⟨_, pss_cons (ps_try_as (X := (cxOf C8.CX0 X.prog X.w X.K X.mg X.base toldN "_law_told" sg g cdg X.A X.stack s H C8.E0).nox) (i := 3) (c := .ref (clsA X.K "DrawError"))
      (tb := fun W D σ H => ∃ Ech : XK, (∀ cls d σ' H', Ech cls d H' → W cls d σ' H') ∧ σ[0]? = some (some (.ref f)) ∧ H c' = some (CodeO c' q) ∧ ∀ Q2 : VK, (∀ v H', (∀ p, H' p = none → D.nx (σ.set 1 (some (.ref p))) (upd H' p (.tup [.str "told", v]))) → Q2 v H') → tl Ech H Q2)
      (ts := fun a cls d F σ H => ∃ n x, excN[n]? = some x ∧ cls = .ref (clsA X.K x) ∧ d = none ∧ (σ.length = 4 → endTold X.K n a F σ H))
      rfl rfl nd rfl he ⟨hgl, by decide, .inl T.drw⟩ LamX.takes0 (fun W pn xe tk _ => ?_) (fun a oe cls d pn hz hf => ?_)) (pss_one (ps_ret (pe_var (i := 1) rfl hvf (plain1 hpf) (plain2 hpf)))), ?_⟩
    · refine ⟨fun pins s' σ H' D I h' => ?_⟩
      obtain ⟨Ech, hW, h1, h2, h3⟩ := h'
      have hp := act W pn xe Ech q4 q5 tk hW
      have hq := pss_one (ps_set (X := (cxOf C8.CX0 X.prog X.w X.K X.mg X.base toldN "_law_told" sg g cdg X.A X.stack s H C8.E0).tr pn xe) (i := 1) (pos' := q1) (pos := q8) nd rfl (loc_of (X := (cxOf C8.CX0 X.prog X.w X.K X.mg X.base toldN "_law_told" sg g cdg X.A X.stack s H C8.E0).tr pn xe) rfl hlf) (pe_tup (pos := q7) (x1 := q6) (pa_cons (pe_str (x := "told") (pos := q3) (j := q2)) (pa_cons hp pa_nil rfl) rfl)) (swaps_plain rfl) (.inl rfl))
      exact hq.run pins s' σ H' D I ⟨h1, h2, h3 _ fun v H1 k => ⟨by show 2 ≤ sizeLine; decide, fun p n => k p n⟩⟩
    · refine ⟨fun pins s' σ H' D I h' => ?_⟩
      obtain ⟨n, x, hn, hD, hd, k⟩ := h'
      subst hD hd
      exact (pss_suite (X := (cxOf C8.CX0 X.prog X.w X.K X.mg X.base toldN "_law_told" sg g cdg X.A X.stack s H C8.E0).nox) (sc := sg) rfl rfl (fun y _ => .inl rfl) T hz hf hn rfl hsu).run pins s' σ H' D I (k I.len)
    · refine ⟨EXt X.K Q, fun cls d σ' H' hE => ?_, rfl, hc, fun Q2 k => hT _ Q2 (fun _ _ _ h => h) fun v H' k2 => k v H' fun p n => ⟨.ref p, rfl, k2 p n⟩⟩
      obtain ⟨n, x, hn, hcls, hd, G, sG, fin⟩ := hE
      refine ⟨true, by rw [hcls]; exact T.exm x (List.mem_of_getElem? hn), fun _ a na => ⟨n, x, hn, hcls, hd, fun hl => ?_⟩, fun z => by cases z⟩
      have hl' : σ'.length = 4 := by simpa using hl
      refine ⟨List.getElem?_set_self (by omega), hl, G, sG, fun p G' H2 σ2 ex rp hl2 h1 => ⟨.ref p, ?_, fin p G' H2 ex rp⟩⟩
      rw [List.getElem?_set_ne (by decide)]
      exact h1
  · cases h
def tPar3 (i j k : Nat) (ta : TA) : TS := fun D σ H => ta σ H fun vs H1 => ∃ a b c, vs = [a, b, c] ∧ D.nx (((σ.set i (some a)).set j (some b)).set k (some c)) H1
theorem ps_par3 {X : Cx} {i j k : Nat} {x y z : Str} {a b c : Expr} {ta : TA} {px py pz pt pos : Pos} {kt k2 pt2} (hc : X.calm = true) (hN : X.N.Nodup) (hi : X.N[i]? = some x) (hj : X.N[j]? = some y) (hk : X.N[k]? = some z) (hij : i ≠ j ∧ i ≠ k ∧ j ≠ k)
    (hx : X.env.scope.names.lookup x = some .local) (hy : X.env.scope.names.lookup y = some .local) (hz : X.env.scope.names.lookup z = some .local) (ha : PA X [a, b, c] ta)
    (hw : swappedStores [.Tuple [.Name x px, .Name y py, .Name z pz] kt pt] (.Tuple [a, b, c] k2 pt2) X.env = pure (some [x, y, z])) :
    PS X (.Assign [.Tuple [.Name x px, .Name y py, .Name z pz] kt pt] (.Tuple [a, b, c] k2 pt2) pos) (tPar3 i j k ta) := by
  have hs : swapsWithSole [.Tuple [.Name x px, .Name y py, .Name z pz] kt pt] (.Tuple [a, b, c] k2 pt2) pos.line X.env = pure false := rfl
  constructor
  intro pins s σ H D I h
  rw [exec_Assign_arm]
  apply wpAny_bind
  apply wpAny_standAt
  rw [hs]
  apply wpAny_bind
  apply wpAny_pure
  rw [if_neg Bool.false_ne_true]
  apply wpAny_bind
  refine Tuple_ (thn (ha.run _ pins s σ H _ I h) fun us s1 hq => ?_)
  obtain ⟨vs, H1, I1, r1, va, vb, vc, e1, q1⟩ := hq
  subst e1
  obtain ⟨u1, u2, u3, rfl, ra, rb, rc⟩ : ∃ u1 u2 u3, us = [u1, u2, u3] ∧ RelV va u1 ∧ RelV vb u2 ∧ RelV vc u3 := by
    rcases r1 with _ | ⟨p1, _ | ⟨p2, _ | ⟨p3, p4⟩⟩⟩
    cases p4
    exact ⟨_, _, _, rfl, p1, p2, p3⟩
  refine wpAny_newObj_type ?_ (by show 3 ≤ sizeLine; decide)
  have I2 : Inv X pins σ H1 { s1 with heap := s1.heap.push { cls := .type "tuple", data := .seq [u1, u2, u3].toArray } } := I1.kept (t' := s1.toks) fun _ _ e => Heap.get?_push_of_some _ e
  rw [hw]
  apply wpAny_bind
  apply wpAny_pure
  show wpAny _ _ (do rule "assign.swapped-stores"; let items ← unpackItems (.ref s1.heap.objs.size) 3 none; assignInOrder [fun v => bindName X.env z v, fun v => bindName X.env y v, fun v => bindName X.env x v] items.reverse; pure Flow.next) _ _ _
  refine wpAny_bind (wpAny_rule (wpAny_bind (unpackItems_tuple (items := #[u1, u2, u3]) (I.ok.hd hc) (IsTup.new s1.heap _) fun h' hx' => ?_)))
  have I3 := I2.kept (h' := h') (t' := s1.toks) fun b o e => hx' b o (fun z => by rw [z] at e; exact Nat.lt_irrefl _ (Heap.lt_size e)) e
  show wpAny _ _ (assignInOrder [fun v => bindName X.env z v, fun v => bindName X.env y v, fun v => bindName X.env x v] [u3, u2, u1] >>= fun _ => pure Flow.next) _ _ _
  refine wpAny_bind (assignInOrder_cons (wpAny_bindName (store_ok I3 hN hk (.inl hz) rc (fun s2 I4 => ?_) (.inr hz))))
  refine assignInOrder_cons (wpAny_bindName (store_ok I4 hN hj (.inl hy) rb (fun s3 I5 => ?_) (.inr hy)))
  refine assignInOrder_cons (wpAny_bindName (store_ok I5 hN hi (.inl hx) ra (fun s4 I6 => assignInOrder_nil (wpAny_pure ?_)) (.inr hx)))
  have e : ((σ.set k (some vc)).set j (some vb)).set i (some va) = ((σ.set i (some va)).set j (some vb)).set k (some vc) := by
    rw [List.set_comm _ _ (Ne.symm hij.2.2), List.set_comm _ _ (Ne.symm hij.2.1), List.set_comm _ _ (Ne.symm hij.1)]
  rw [e] at I6
  exact ⟨_, H1, I6, q1⟩
theorem stores_par3 {x y z : Str} {px py pz pt p2 : Pos} {kt k2 : Nat} {a b c : Expr} {env : PySem.Env} (hk : env.scope.kind = .function) (hx : env.kindOf x = some .local) (hy : env.kindOf y = some .local) (hz : env.kindOf z = some .local) (hl : py.line = px.line ∧ pz.line = px.line) (ne : x ≠ y ∧ x ≠ z ∧ y ≠ z)
    (f1 : [a, b, c].all (foldedForSure 8) = false) (f2 : [a, b, c].all (constantsAlone 8) = false) (sa : notStar a = true) (sb : notStar b = true) (sc : notStar c = true) :
    swappedStores [.Tuple [.Name x px, .Name y py, .Name z pz] kt pt] (.Tuple [a, b, c] k2 p2) env = pure (some [x, y, z]) := by
  have hb : env.blockKind = .function := by unfold Env.blockKind; rw [hk]; rfl
  have st : ([a, b, c].any fun | .Starred .. => true | _ => false) = false := by
    cases a <;> first | (cases sa; done) | (cases b <;> first | (cases sb; done) | (cases c <;> first | (cases sc; done) | rfl))
  have ed : [x, y, z].eraseDups = [x, y, z] := by
    have h1 : (y == x) = false := beq_eq_false_iff_ne.mpr ne.1.symm
    have h2 : (z == x) = false := beq_eq_false_iff_ne.mpr ne.2.1.symm
    have h3 : (z == y) = false := beq_eq_false_iff_ne.mpr ne.2.2.symm
    simp [List.eraseDups_cons, List.filter, h1, h2, h3]
  unfold swappedStores
  simp only [List.length_cons, List.length_nil, List.head?_cons, Option.map_some, Option.getD_some]
  have nm2 : ([Expr.Name x px, Expr.Name y py, Expr.Name z pz].filterMap fun
    | .Name id pos => if env.kindOf id == some .local && pos.line == (Expr.Name x px).pos.line then some id else none
    | _ => none) = [x, y, z] := by
    have e0 : (Expr.Name x px).pos.line = px.line := rfl
    simp [hx, hy, hz, hl.1, hl.2, e0]
  simp only [hb, f1, f2]
  have key : ∀ l : List Str, l = [x, y, z] → (if (l.length != 0 + 1 + 1 + 1 || l.eraseDups.length != l.length) = true then pure none else if false = true then pure none else if false = true then (do unsupported "assign.tuple-of-constant-expressions:order-of-the-stores"; pure (some l)) else pure (some l) : Sem (Option (List Str))) = pure (some [x, y, z]) := by
    intro l e
    subst e
    rw [ed]
    rfl
  refine (if_neg (by decide)).trans ((if_neg (Bool.eq_false_iff.mp st)).trans ?_)
  exact key _ nm2
structure DefFact (K : PySem.W.Frag) (mg : Str → Option Value) (x : Str) (st : Stmt) : Prop where
  ex : ∃ f fd, mg x = some (.ref f) ∧ FunD K x x (defArgs st) (defBody st) (defScope st) [] [] f fd
def BindOk (x : Str) (ps : List Str) (st : Stmt) : Prop := ∀ (kV doc pm : Value) (an : Option Addr) (cdv ct : Value) (us : List Value), us.length = ps.length → bindArgs (PySem.W.fnOf x x (defArgs st) (defBody st) (defScope st) .none kV doc pm an cdv ct) ⟨us, []⟩ = pure (ps.zip us)

/-- what a def that makes lambdas must know -/
structure LamOk (X : Cx) (k : Nat) (H0 : Hp) : Prop where
  k2 : 2 ≤ k
  qual : X.env.qual ++ "<lambda>" = lamQ
  T : TldF X.K X.mg
  told : ∃ st, DefFact X.K X.mg "_law_told" st ∧ BindOk "_law_told" ["_law_deed"] st ∧ toldB (defScope st) (defBody st) = true ∧ FnScope toldN ["_law_deed"] (defScope st)
  tab : ∃ c P, X.env.code = .ref c ∧ TabB X.base X.mg c P ∧ TabS H0 P lamQ
/-- a def's own frame -/
structure DefOk (L : Prop) (X : Cx) (k : Nat) (H0 : Hp) : Prop where
  stk : X.stack = X.env :: X.outer
  frm : X.env.frame = some X.env.locals
  lam : L → LamOk X k H0
open Classical in
theorem pe_told {X : Cx} {N : List Str} {sc scope : Scope} {k : Nat} {L : Prop} {EX : XK} {G0 H0 : Hp} {ρ : Env} {ie : IE} {body : Expr} {p lpos pos : Pos} (o : Cok X N sc k EX) (lo : LamOk X k H0) (hgl : gloB sc "_law_told" = true) (hls : lamSB sc scope = true) (hb : chkE N scope ie body = true) (hy : (gamSX X k L).low ie) :
    PE X (.Call (.Name "_law_told" p) [.Lambda ⟨[], [], none, [], [], none, []⟩ body scope lpos] [] pos) (rdE X.K X.mg EX G0 H0 ρ (tldR (evE ie ρ))) := by
  obtain ⟨st, F, hbd, htb, hsc⟩ := lo.told
  obtain ⟨c, P, hcode, TB, tab0⟩ := lo.tab
  obtain ⟨g, fd, hm, F⟩ := F.ex
  have k2 := lo.k2
  obtain ⟨j, rfl⟩ : ∃ j, k = j + 2 := ⟨k - 2, by omega⟩
  have hyb : HypE (gamX X j) ie := hy
  have hbn := F.bindsN hbd
  obtain ⟨oc, od, dV, kV, doc, pm, an, cdv, ct, osl, e0, lk, hcg, _, _⟩ := F.ex
  subst e0
  obtain ⟨hg, hp⟩ := o.gl hgl
  have L0 := lamS_by hls
  have LS : LamS X.env.scope scope := by
    refine ⟨L0.kind, L0.co, L0.gen, L0.own, fun y hy e => ?_⟩
    rcases L0.free y hy e with q | q
    · obtain ⟨kd, w1, w2⟩ := o.nm _ _ q
      rcases w2 with rfl | ⟨z, _⟩
      · exact .inl w1
      · cases z
    · obtain ⟨kd, w1, w2⟩ := o.nm _ _ q
      rcases w2 with rfl | ⟨_, rfl⟩
      · exact .inr w1
      · exact .inl w1
  have hva : Vis (defScope st) "_law_deed" := by
    rcases hsc.par _ (List.mem_cons_self ..) with q | q
    · exact .inl q
    · exact .inr (.inl q)
  have hbody : ∀ (A : Around) (outer : List PySem.Env) (s : Shared) (H : Hp) (E : XK) (f c' : Addr), Room j (A.deeper (lamEnv X scope s.heap.objs.size f c')) → PE (lamCx X A outer s H E scope f c') body (rdE X.K X.mg E G0 H0 ρ (evE ie ρ)) := fun A outer s H E f c' hr => by
    have o' : Cok (lamCx X A outer s H E scope f c') N scope j E := by
      refine ⟨o.N, o.nd, LS.kind, fun y kd e => ⟨kd, e, .inl rfl⟩, rfl, hr, passes_of rfl, takes_of rfl rfl rfl rfl, fun y e => ?_⟩
      exfalso
      unfold locB at e
      split at e
      · rename_i q
        exact (LS.own _ (PySem.mem_of_lookup q)).1 rfl
      · rename_i q
        exact (LS.own _ (PySem.mem_of_lookup q)).2 rfl
      · cases e
    exact (sndE ie (lamCx X A outer s H E scope f c') scope E body o' hb hyb G0 H0 ρ).pe
  refine ⟨fun pins s σ H Q I h => ?_⟩
  obtain ⟨G, stt, pq⟩ := h
  let TL : List (Addr × Str) := (List.range s.heap.objs.size).filterMap fun b => if TabS H b lamQ then some (b, lamQ) else none
  have mem : ∀ b, TabS H b lamQ → (b, lamQ) ∈ TL := fun b hb => by
    obtain ⟨ps, h1, _⟩ := id hb
    have hh : s.heap.get? b = some { cls := .none, data := .fields ps } := I.hok b _ h1
    exact List.mem_filterMap.mpr ⟨b, List.mem_range.mpr (Heap.lt_size hh), by rw [if_pos hb]⟩
  have all : ∀ q ∈ TL, q.2 = lamQ ∧ TabS H q.1 lamQ := fun q hq => by
    obtain ⟨b, _, hb⟩ := List.mem_filterMap.mp hq
    split at hb
    · rename_i ht; cases hb; exact ⟨rfl, ht⟩
    · cases hb
  have tabH : TabS H P lamQ := stt.ext.tab P tab0
  refine (pe_lamcall (T := TL) (TT := TTt X.K) (t := fun E => rdE X.K X.mg E G0 H0 ρ (evE ie ρ)) (Ng := toldN) (a := "_law_deed") hg hm F.kp lk hcg hbn hsc rfl hva (told_gives lo.T htb) TB hcode (by rw [lo.qual]; exact mem P tabH) (fun q hq _ => by rw [lo.qual]; exact (all q hq).1) o.room LS rfl (fun q cl pm cv ctv => rfl) hbody (plain1 hp) (by decide) (by decide)).run pins s σ H Q I ⟨fun q hq => by rw [(all q hq).1]; exact (all q hq).2, fun H1 eN T1 => ?_⟩
  have ext : Ext G H G H1 := by
    have sub : Sub H H1 := fun b o' h n => eN b o' h fun ps e => by rw [e] at n; cases n
    exact ⟨sub, .refl _, stt.subG.trans sub, fun _ _ _ _ => rfl, fun P' hP' => T1 _ (mem P' hP')⟩
  intro E Q2 hE hQ2
  refine ⟨G, stt.mono ext, ?_⟩
  cases hr : evE ie ρ with
  | no => rw [hr] at pq; exact pq.elim
  | ok d =>
    rw [hr] at pq
    have pq : PostE X.K X.mg EX (.ok (.tuple [.str "told", d])) G H Q := pq
    exact fun v G' H' e r => hQ2 v H' fun q n => pq _ _ _ ((ext.trans e).trans (.new e.inn n _)) (.tup (.inl (.inl upd_same)) (.cons (.str _) (.cons ((Sub.updF _ (e.inn.none n)).rp r) .nil)))
  | er x =>
    rw [hr] at pq
    have pq : PostE X.K X.mg EX (match exIx x with | some i => .ok (.tuple [.str "refused", .int (i : Nat)]) | none => .no) G H Q := pq
    cases hx : exIx x with
    | none => rw [hx] at pq; exact pq.elim
    | some i =>
      rw [hx] at pq
      have hi : excN[i]? = some x := by
        unfold exIx at hx
        rw [List.idxOf?_eq_some_iff] at hx
        obtain ⟨w1, w2, _⟩ := hx
        rw [List.getElem?_eq_getElem w1, w2]
      exact ⟨clsA X.K x, lo.T.ref x (List.mem_of_getElem? hi), fun G' H' e => hE _ _ _ ⟨i, x, hi, rfl, rfl, G', e.inn, fun q G2 H2 e2 r2 => pq _ _ _ ((ext.trans e).trans e2) r2⟩⟩
end Rf
namespace L2
open PySem PySem.Spec PyProof.Rows Rf
def rExtR (K : PySem.W.Frag) : V → List V → Hp → VK → Prop := fun x vs H Q => ∃ l b xs zs, x = .ref l ∧ vs = [.ref b] ∧ H l = some (.lst xs) ∧ LsR K H b zs ∧ xs.length + zs.length ≤ sizeLine ∧ Q .non (upd H l (.lst (xs ++ zs)))
theorem mt_extR {X : Cx} : MtR X "list.extend" (rExtR X.K) := by
  intro pins s σ H x vs v us Q I rx rv h
  obtain ⟨l, b, xs, zs, rfl, rfl, hH, hB, hz, q⟩ := h
  cases rx
  obtain ⟨u, rfl, ru⟩ := rv.one
  cases ru
  obtain ⟨z, its, n, r, hl, e⟩ := I.lstM hH
  obtain ⟨z2, its2, n2, r2, hl2, e2⟩ := Rf.Inv.rdL I hB
  have hsz : its.toArray.size + its2.toArray.size ≤ sizeLine := by rw [List.size_toArray, List.size_toArray]; omega
  have hlong : ¬ (!its.toArray.isEmpty && Builtin.List.listTooLong (its.toArray.size + its2.toArray.size)) = true := by
    rw [notLongL hsz, Bool.and_false]
    exact Bool.false_ne_true
  refine call_meets F.slot_list_extend ⟨_, e, rfl⟩ F.entry_list_extend (F.args_list_extend_2 _ _)
    (AutoSeq1.list_extend_list_list_0 l its.toArray n b its2.toArray n2 hlong (by rw [List.size_toArray]; omega) (by omega)) ⟨e, e2, ?_⟩
  refine ⟨.non, _, I.lset (its' := its ++ its2) hH e (by simp) (r.append r2) ?_, rfl, q⟩
  rw [List.length_append]
  omega
end L2
namespace Rf
open PySem PySem.Spec PyProof.Rows L2 LamX
mutual
theorem asT_er : ∀ {t : IT} {d : D} {ρ : Env} (x : Str), asT t d ρ ≠ .er x
  | .nm i, d, ρ, x, h => by simp only [asT] at h; cases h
  | .tu ts, d, ρ, x, h => by
    cases d <;> simp only [asT] at h <;> first | (cases h; done) | exact asTs_er x h
theorem asTs_er : ∀ {t : ITs} {d : List D} {ρ : Env} (x : Str), asTs t d ρ ≠ .er x
  | .nil, [], ρ, x, h => by simp only [asTs] at h; cases h
  | .nil, _ :: _, ρ, x, h => by simp [asTs] at h
  | .cons t r, [], ρ, x, h => by simp [asTs] at h
  | .cons t r, d :: ds, ρ, x, h => by
    simp only [asTs] at h
    cases e : asT t d ρ with
    | no => rw [e] at h; cases h
    | er z => exact asT_er z e
    | ok ρ1 =>
      rw [e] at h
      exact asTs_er x h
end
section
variable {X : Cx} {EX : XK} {G0 H0 G H : Hp} {ρ : Env} {σ : L2.St} {F : Ends}
theorem PS_no {s : Stmt} : PS X s (rdS X.K X.mg EX G0 H0 ρ .no) := ⟨fun _ _ _ _ _ _ ⟨_, _, p⟩ => p.elim⟩
theorem for_read {tg : IT} {ri : Res (List D)} {bd : Env → Out}
    (q : rdS X.K X.mg EX G0 H0 ρ (Out.ofR ri fun ds => forGo (fun d ρ => Out.ofR (asT tg d ρ) fun ρ' => bd ρ') ds ρ) F σ H) :
    tFor (rdI X.K X.mg EX G0 H0 ρ ri) (rdG X.K G0 H0 tg) (fun F σ H => ∃ ρ', rdS X.K X.mg EX G0 H0 ρ' (bd ρ') F σ H) F σ H := by
  obtain ⟨G, st, p⟩ := q
  refine ⟨G, st, ofE st p fun J ds G1 H1 e1 hw _ p1 => ?_⟩
  refine ⟨fun i m σ H => ∃ ρ G, Stt X.K G0 H0 ρ σ G H ∧ Sub G1 G ∧ i ≤ ds.length ∧ m = ds.length - i ∧ PostS X.K X.mg EX G0 H0 G (forGo (fun d ρ => Out.ofR (asT tg d ρ) fun ρ' => bd ρ') (ds.drop i) ρ) F, ⟨ds.length, ρ, G1, st.mono e1, .refl _, Nat.zero_le _, rfl, p1⟩, ?_⟩
  rintro i m σ H ⟨ρ, G, st, sg, hi, hm, p⟩
  by_cases hend : i = ds.length
  · left
    refine ⟨(hw G H i sg st.subG).2 (by omega), ?_⟩
    rw [hend, List.drop_length] at p
    exact p σ G H st (.refl _)
  · right
    have hlt : i < ds.length := by omega
    have hd : ds[i]? = some ds[i] := List.getElem?_eq_getElem hlt
    rw [List.drop_eq_getElem_cons hlt] at p
    obtain ⟨go, yl⟩ := (hw G H i sg st.subG).1 _ hd
    refine ⟨go, fun σ H => ∃ ρ G, Stt X.K G0 H0 ρ σ G H ∧ Sub G1 G ∧ PostS X.K X.mg EX G0 H0 G (forGo (fun d ρ => Out.ofR (asT tg d ρ) fun ρ' => bd ρ') (ds.drop (i + 1)) ρ) F, ?_, ?_⟩
    · rintro σ' H' ⟨ρ', G', a1, a2, a3⟩
      exact ⟨ds.length - (i + 1), by omega, ρ', G', a1, a2, hlt, rfl, a3⟩
    · intro x H' y
      obtain ⟨G', e2, rp⟩ := yl x H' y
      refine ⟨ρ, G', ds[i], st.mono e2, rp, ?_⟩
      simp only [forGo] at p
      cases ea : asT tg ds[i] ρ with
      | no => rw [ea] at p; exact p.elim
      | er x => exact absurd ea (asT_er x)
      | ok ρ' =>
        rw [ea] at p
        intro σ2 st2 _
        have sg' : Sub G1 G' := sg.trans e2.subG
        refine ⟨ρ', G', st2, ?_⟩
        simp only [Out.ofR] at p
        cases hb : bd ρ' with
        | no => rw [hb] at p; exact p
        | nx r =>
          rw [hb] at p
          exact fun σ3 G3 H3 st3 s3 => ⟨r, G3, st3, sg'.trans s3, PostS.mono p (e2.subG.trans s3)⟩
        | ct r =>
          rw [hb] at p
          exact fun σ3 G3 H3 st3 s3 => ⟨r, G3, st3, sg'.trans s3, PostS.mono p (e2.subG.trans s3)⟩
        | bk r =>
          rw [hb] at p
          exact fun σ3 G3 H3 st3 s3 => p σ3 G3 H3 st3 (e2.subG.trans s3)
        | rt d => rw [hb] at p; exact p
        | er x => rw [hb] at p; exact p
theorem whl_read {cd : Env → Res Bool} {bd : Env → Out} {n : Nat} (q : rdS X.K X.mg EX G0 H0 ρ (whlGo cd bd n ρ) F σ H) :
    tWhile (fun σ H Q => ∃ ρ', rdT X.K X.mg EX G0 H0 ρ' (cd ρ') σ H Q) (fun F σ H => ∃ ρ', rdS X.K X.mg EX G0 H0 ρ' (bd ρ') F σ H) F σ H := by
  refine ⟨fun m σ H => ∃ ρ G, Stt X.K G0 H0 ρ σ G H ∧ PostS X.K X.mg EX G0 H0 G (whlGo cd bd m ρ) F, ⟨n, ρ, q⟩, ?_⟩
  rintro m σ H ⟨ρ, G, st, p⟩
  cases m with
  | zero => exact p.elim
  | succ m =>
    simp only [whlGo] at p
    refine ⟨ρ, G, st, ?_⟩
    cases hc : cd ρ with
    | no => rw [hc] at p; exact p
    | er x =>
      rw [hc] at p
      obtain ⟨C, h1, h2⟩ := p
      exact ⟨C, h1, fun G' H' e => h2 G' H' (st.ext.trans e)⟩
    | ok b =>
      rw [hc] at p
      intro b' G1 H1 e1 hb
      subst hb
      cases b' with
      | false =>
        rw [if_neg (by decide)]
        exact p σ G1 H1 (st.mono e1) e1.subG
      | true =>
        rw [if_pos rfl]
        refine ⟨fun σ H => ∃ ρ G, Stt X.K G0 H0 ρ σ G H ∧ PostS X.K X.mg EX G0 H0 G (whlGo cd bd m ρ) F, fun σ' H' h => ⟨m, Nat.lt_succ_self m, h⟩, ρ, G1, st.mono e1, ?_⟩
        have p := PostS.mono p e1.subG
        cases hb : bd ρ with
        | no => rw [hb] at p; exact p
        | nx r =>
          rw [hb] at p
          exact fun σ3 G3 H3 st3 s3 => ⟨r, G3, st3, PostS.mono p s3⟩
        | ct r =>
          rw [hb] at p
          exact fun σ3 G3 H3 st3 s3 => ⟨r, G3, st3, PostS.mono p s3⟩
        | bk r =>
          rw [hb] at p
          exact fun σ3 G3 H3 st3 s3 => p σ3 G3 H3 st3 s3
        | rt d => rw [hb] at p; exact p
        | er x => rw [hb] at p; exact p
theorem meth_few {e : Expr} {cp : Pos} {env : PySem.Env} (h : notStar e = true) : ((backTo cp (starEach [e] env)).all (fun x => !x.1) && (backToKw cp (keywordEach [] env)).all (fun x => x.1.isSome)
      && decide ([e].length + ([] : List Keyword).length + (if ([] : List Keyword).isEmpty then 0 else 1) < 30)) = true := by
  rw [star_cons h]
  rfl
end
theorem owa_read {X : Cx} {EX : XK} {G0 H0 H : Hp} {ρ : Env} {σ : L2.St} {F : Ends} {a b : Res D} {i : Nat} (q : rdS X.K X.mg EX G0 H0 ρ (Out.ofR a fun x => Out.ofR b fun y => Out.ofR (dCat x y) fun ds => .nx (ρ.set i (.ow ds))) F σ H) : tOp (rCatR X.K) (rdE X.K X.mg EX G0 H0 ρ a) (rdE X.K X.mg EX G0 H0 ρ b) σ H fun x H1 => gName i x σ H1 F.nx := by
  obtain ⟨G, st, p⟩ := q
  refine ⟨G, st, ofE st p fun v dv G1 H1 e1 r1 er p1 => ⟨G1, st.mono e1, ofE (st.mono e1) p1 fun u du G2 H2 e2 r2 er2 p2 => ?_⟩⟩
  have r1 := e2.rp r1
  cases r1 <;> cases r2 <;> first | exact p2.elim | skip
  rename_i a1 xs ds ha hds b1 ys es hb hes
  have p2 : PostS X.K X.mg EX G0 H0 G2 (Out.ofR (if ds.length + es.length ≤ LIM then Res.ok (ds ++ es) else .no) fun ds => .nx (ρ.set i (.ow ds))) F := p2
  split at p2
  · rename_i hlq
    exact ⟨a1, b1, xs, ys, rfl, rfl, e2.inn.ls ha, e2.inn.ls hb, by rw [hds.length, hes.length]; exact hlq, fun q n => p2 _ _ _ (((st.mono e1).mono e2).setOw (hds.app hes) n i) (.refl _)⟩
  · exact p2.elim
theorem ows_read {X : Cx} {EX : XK} {G0 H0 H : Hp} {ρ : Env} {σ : L2.St} {F : Ends} {a : Res D} {lo hi : Res (Option Int)} {i : Nat} (q : rdS X.K X.mg EX G0 H0 ρ (Out.ofR a fun x => Out.ofR lo fun l => Out.ofR hi fun h => Out.ofR (dCut x l h) fun ds => .nx (ρ.set i (.ow ds))) F σ H) : tSl (rSlL X.K) (rdE X.K X.mg EX G0 H0 ρ a) (rdO X.K X.mg EX G0 H0 ρ lo) (rdO X.K X.mg EX G0 H0 ρ hi) σ H fun x H1 => gName i x σ H1 F.nx := by
  obtain ⟨G, st, p⟩ := q
  refine ⟨G, st, ofE st p fun v dv G1 H1 e1 r1 er p1 => ⟨G1, st.mono e1, ofE (st.mono e1) p1 fun u du G2 H2 e2 r2 er2 p2 => ⟨G2, (st.mono e1).mono e2, ofE ((st.mono e1).mono e2) p2 fun t dt G3 H3 e3 r3 er3 p3 => ?_⟩⟩⟩
  cases r2
  cases r3
  have r1 := e3.rp (e2.rp r1)
  cases r1 <;> first | exact p3.elim | skip
  rename_i a1 xs ds ha hds
  exact ⟨a1, xs, rfl, (e3.inn.ls ha).sq, fun q n => p3 _ _ _ ((((st.mono e1).mono e2).mono e3).setOw (cut_rp hds u t) n i) (.refl _)⟩
/-- try: x = e, except X: x = c -/
theorem stt_none {K : PySem.W.Frag} {G0 H0 G H : Hp} {σ : L2.St} (e : Ext G0 H0 G H) {n : Nat} (hl : σ.length = n) : Stt K G0 H0 (List.replicate n .un) σ G H := by
  refine ⟨by simp [hl], e, fun i d h => ?_, fun i d h => ?_, fun i j di dj a h _ _ _ => ?_⟩
  all_goals
    have := List.mem_of_getElem? h
    rw [List.mem_replicate] at this
    cases this.2
theorem try_sound {X : Cx} {N : List Str} {sc : Scope} {k : Nat} {L : Prop} {EX : XK} {G0 H0 : Hp} {ρ : Env} {i : Nat} {e : IE} {x v : Str} {ys : List (Str × Bool)} {c : Bool} {ve : Expr} {p1 p2 p3 p4 p5 p6 p7 p8 : Pos} {j : Nat} (o : Cok X N sc k EX) (stk : X.stack = X.env :: X.outer) (frm : X.env.frame = some X.env.locals) (h1 : N[i]? = some v) (h3 : locB sc v = true) (h4 : notComp ve = true) (hg : Gl X x) (hp : plainN x = true) (h8 : chkE N sc e ve = true) (hy : HypE (gamX X k) e) (hxc : ExcF X.K X.mg x) (hx : HypX (gamSX X k L) x ys)
    (ih : ∀ (EX' : XK) (pn : List (Addr × Obj)) (xe : Value → Shared → Prop), Takes (X.tr pn xe) (fun cls d _ H => EX' cls d H) → PassesOwn (model X.prog X.w) X.A X.env xe → PE (X.tr pn xe) ve (rdE X.K X.mg EX' G0 H0 ρ (evE e ρ))) :
    PS X (.Try [.Assign [.Name v p1] ve p2] [.ExceptHandler (some (.Name x p3)) none [.Assign [.Name v p4] (.Constant (.bool c) j p5) p6] p7] [] [] p8) (rdS X.K X.mg EX G0 H0 ρ (evS (.tryb i e x ys c) ρ)) := by
  obtain ⟨D, d1, _⟩ := hxc
  have hi : X.N[i]? = some v := by rw [o.N]; exact h1
  refine ⟨fun pins s σ H F I q => ?_⟩
  obtain ⟨G, st, p⟩ := q
  have hln : σ.length = X.N.length := I.len
  refine (ps_try_only (pos := p8) stk frm ⟨hg, plain1 hp, .inl d1⟩ o.tk
    (tb := fun W F σ H => ∃ EX' : XK, (∀ cls d σ' H', EX' cls d H' → W cls d σ' H') ∧ rdE X.K X.mg EX' G0 H0 ρ (evE e ρ) σ H fun x H1 => gName i x σ H1 F.nx)
    (ts := fun a cls d F σ H => σ.length = X.N.length → F.nx (σ.set i (some (.bl c))) H)
    (fun W pn xe tk po => ?_) (fun a oe cls d pn _ _ => ?_)).run pins s σ H F I ?_
  · refine ⟨fun pins s σ H F I h => ?_⟩
    obtain ⟨EX', hW, q⟩ := h
    have tk' : Takes (X.tr pn xe) (fun cls d _ H => EX' cls d H) := fun u s' xx => by
      obtain ⟨a, B, sI, pins, σ', H', cls, d, w1, w2, w3, w4, w5, w6, w7, w8, w9⟩ := xx
      exact tk u s' ⟨a, B, sI, pins, σ', H', cls, d, w1, w2, w3, w4, w5, w6, w7, w8, hW _ _ _ _ w9⟩
    exact (pss_one (ps_set (X := X.tr pn xe) (i := i) (pos' := p1) (pos := p2) o.nd hi (o.loc h3) (ih EX' pn xe tk' po) (swaps_plain h4) (o.stn _ h3))).run pins s σ H F I q
  · refine ⟨fun pins s σ H F I h => ?_⟩
    exact (pss_one (ps_set (X := X.suite a ((a, oe) :: pn)) (i := i) (pos' := p4) (pos := p6) o.nd hi (o.loc h3) (pe_bl (b := c) (j := j) (pos := p5)) (swaps_plain rfl) (o.stn _ h3))).run pins s σ H F I (h I.len)
  · refine ⟨fun cls d H' => ∀ σ', wOnly X.K (.ref D) (fun a cls d F σ H => σ.length = X.N.length → F.nx (σ.set i (some (.bl c))) H) (fun cls d _ H => EX cls d H) F cls d σ' H', fun cls d σ' H' h => h σ', G, st, ?_⟩
    simp only [evS] at p
    cases hr : evE e ρ with
    | no => rw [hr] at p; exact p.elim
    | ok d =>
      rw [hr] at p
      exact fun v G' H' ex r => p _ _ _ ((st.mono ex).setIm r i) ex.subG
    | er y =>
      rw [hr] at p
      simp only at p
      cases hl : ys.lookup y with
      | none => rw [hl] at p; exact p.elim
      | some b =>
        rw [hl] at p
        obtain ⟨C, D', m1, m2, m3⟩ := (show ExmF X.K X.mg y x b from hx.at hl)
        rw [d1] at m2
        cases m2
        refine ⟨C, m1, fun G' H' ex σ' => ⟨b, m3, fun hb a na hln' => ?_, fun hb => ?_⟩⟩
        · subst hb
          refine p _ G' H' ((stt_none (st.ext.trans ex) (n := ρ.length) ?_).setIm (.bl c) i) ex.subG
          rw [st.len, hln', hln]
        · subst hb
          obtain ⟨C', n1, n2⟩ := p
          rw [m1] at n1
          cases n1
          exact n2 _ _ (st.ext.trans ex)
mutual
theorem sndS {N : List Str} {k : Nat} {L : Prop} : ∀ (ie : IS) (X : Cx) (sc : Scope) (EX : XK) (s : Stmt), Cok X N sc k EX → chkS N sc ie s = true → HypS (gamSX X k L) ie → ∀ G0 H0 ρ, DefOk L X k H0 → PS X s (rdS X.K X.mg EX G0 H0 ρ (evS ie ρ))
  | .set i e, X, sc, EX, s, o, h, hy, G0, H0, ρ, hl => by
    simp only [chkS] at h
    simp only [HypS] at hy
    split at h
    · rename_i x p v pos
      simp only [Bool.and_eq_true, decide_eq_true_eq] at h
      obtain ⟨h1, h2, h3, h4⟩ := h
      have ih := sndE e X sc EX v o h3 hy G0 H0 ρ
      have fin : ∀ F σ H, rdS X.K X.mg EX G0 H0 ρ (evS (.set i e) ρ) F σ H → rdE X.K X.mg EX G0 H0 ρ (evE e ρ) σ H fun x H1 => gName i x σ H1 F.nx := fun F σ H ⟨G, st, p⟩ => by
        simp only [evS] at p
        exact ⟨G, st, ofE st p fun b a G1 H1 e1 r1 _ p1 => p1 _ _ _ ((st.mono e1).setIm r1 i) (.refl _)⟩
      by_cases hn : notComp v = true
      · exact PS.imp (ps_set (i := i) o.nd (by rw [o.N]; exact h1) (o.loc h2) ih.pe (swaps_plain hn) (o.stn _ h2)) fin
      · have h4 : (match sc.names.lookup x with | some .cell => true | some .local => (p.line == v.pos.line) && lcFree v x | _ => false) = true := by
          rw [Bool.or_eq_true] at h4
          rcases h4 with q | q
          · exact absurd q hn
          · exact q
        split at h4
        · rename_i q
          obtain ⟨kd, w1, w2⟩ := o.nm _ _ q
          have hk : X.env.kindOf x = some .cell := by
            rcases w2 with rfl | ⟨z, _⟩
            · exact w1
            · cases z
          exact PS.imp (ps_set (i := i) o.nd (by rw [o.N]; exact h1) (o.loc h2) ih.pe (swaps_cell hk) (o.stn _ h2)) fin
        · rename_i q
          obtain ⟨kd, w1, w2⟩ := o.nm _ _ q
          have hk : X.env.scope.names.lookup x = some .local := by
            rcases w2 with rfl | ⟨z, _⟩
            · exact w1
            · cases z
          rw [Bool.and_eq_true] at h4
          obtain ⟨elt, gens, scope, lpos, rfl⟩ : ∃ elt gens scope lpos, v = .ListComp elt gens scope lpos := by
            have z := h4.2
            cases v <;> first | exact ⟨_, _, _, _, rfl⟩ | (simp [lcFree] at z; done)
          obtain ⟨own, tg, it, c, el, rfl⟩ : ∃ own tg it c el, e = .lc own tg it c el := by
            clear ih fin hy
            cases e <;> first | exact ⟨_, _, _, _, _, rfl⟩ | (simp [chkE] at h3; done)
          simp only [chkE] at h3
          split at h3
          · rename_i elt t i0 ifs a scope pos0 heq
            cases heq
            simp only [Bool.and_eq_true, decide_eq_true_eq] at h3
            obtain ⟨g0, g1, g2, g3, g4, g5, g6, g7⟩ := h3
            subst g0
            simp only [HypE] at hy
            have hi := sndI it X sc EX t i0 o g5 hy.1 G0 H0 ρ
            have hb := fun (s : Shared) (H : Hp) (C : Addr) (cl : List (Str × Addr)) (fp : List Addr) => o.blk g1 s H C cl fp
            have hsw : swapsWith (.ListComp elt [⟨t, i0, ifs, 0⟩] scope lpos) (some (.Name x p)) pos.line X.env = pure true := sw_true o.kind hk h4.1 (by
              have := h4.2
              simp only [lcFree, Bool.not_eq_true'] at this
              exact this)
            refine PS.imp (ps_setLc (i := i) (g := rdG X.K G0 H0 tg) o.calm o.nd (by rw [o.N]; exact h1) hk hsw hi (o.blkOk g1) (fun s H C cl fp => sndT tg _ scope EF t (hb s H C cl fp) g4 G0 H0) (fun s H C cl fp => PTs.ex (t := fun ρ' => rdT X.K X.mg EF G0 H0 ρ' (evC c ρ')) fun ρ' => sndC c _ scope EF ifs (hb s H C cl fp) g6 hy.2.1 G0 H0 ρ')
              (fun s H C cl fp => PE.ex (t := fun ρ' => rdE X.K X.mg EF G0 H0 ρ' (evE el ρ')) fun ρ' => (sndE el _ scope EF elt (hb s H C cl fp) g7 hy.2.2 G0 H0 ρ').pe) (fold_plain g2)) fun F σ H q => ?_
            have q1 := fin F σ H q
            simp only [evE] at q1
            refine lc_read (fun j hj => ?_) q1
            rw [List.all_eq_true] at g3
            simpa using g3 j hj
          · cases h3
        · cases h4
    · cases h
  | .new i es, X, sc, EX, s, o, h, hy, G0, H0, ρ, hl => by
    simp only [chkS] at h
    simp only [HypS] at hy
    split at h
    · rename_i x p xs lp pos
      simp only [Bool.and_eq_true, decide_eq_true_eq] at h
      obtain ⟨h1, h2, h3, h4⟩ := h
      have ih := sndEs es X sc EX xs o h3 hy G0 H0 ρ
      refine PS.imp (ps_set (i := i) o.nd (by rw [o.N]; exact h1) (o.loc h2) (pe_lst ih) (swaps_plain rfl) (o.stn _ h2)) fun F σ H ⟨G, st, p⟩ => ?_
      simp only [evS] at p
      refine ⟨G, st, ofE st p fun vs ds G1 H1 e1 r1 er p1 => ⟨?_, fun q n => p1 _ _ _ ((st.mono e1).setOw r1 n i) (.refl _)⟩⟩
      rw [r1.length]
      have := evEs_len er h3
      have : (1000 : Nat) ≤ sizeLine := by decide
      omega
    · cases h
  | .tset ts e, X, sc, EX, s, o, h, hy, G0, H0, ρ, hl => by
    simp only [chkS] at h
    simp only [HypS] at hy
    split at h
    · rename_i es kk tp v pos
      simp only [Bool.and_eq_true, Bool.not_eq_true'] at h
      obtain ⟨h1, h2, h3⟩ := h
      have ih := sndE e X sc EX v o h2 hy G0 H0 ρ
      have hg := sndT (.tu ts) X sc EX (.Tuple es kk tp) o (by simpa only [chkT] using h1) G0 H0
      refine PS.imp (ps_asg ih.pe hg swaps_tup (stores_tup h3) rfl) fun F σ H ⟨G, st, p⟩ => ?_
      simp only [evS] at p
      refine ⟨G, st, ofE st p fun v d G1 H1 e1 r1 er p1 => ⟨ρ, G1, d, st.mono e1, r1, ?_⟩⟩
      cases ea : asT (.tu ts) d ρ with
      | no => rw [ea] at p1; exact p1.elim
      | er x => exact absurd ea (asT_er x)
      | ok ρ' =>
        rw [ea] at p1
        exact fun σ' st' _ => p1 _ _ _ st' (.refl _)
    · cases h
  | .par2 i j a b, X, sc, EX, s, o, h, hy, G0, H0, ρ, hl => by
    simp only [chkS] at h
    simp only [HypS] at hy
    split at h
    · rename_i x px y py kt tp ea eb k2 p2 pos
      simp only [Bool.and_eq_true, decide_eq_true_eq, Bool.not_eq_true'] at h
      obtain ⟨h1, h2, h3, h4, h5, h6, h7, h8, h9, h10, h11, h12, h13⟩ := h
      have iha := sndE a X sc EX ea o h12 hy.1 G0 H0 ρ
      have ihb := sndE b X sc EX eb o h13 hy.2 G0 H0 ρ
      have lc : ∀ {z : Str}, sc.names.lookup z = some .local → X.env.scope.names.lookup z = some .local := fun {z} q => by
        obtain ⟨kd, w1, w2⟩ := o.nm _ _ q
        rcases w2 with rfl | ⟨z, _⟩
        · exact w1
        · cases z
      refine PS.imp (ps_par (i := i) (j := j) o.calm o.nd (by rw [o.N]; exact h1) (by rw [o.N]; exact h2) h4 (lc h5) (lc h6) (pa_cons iha.pe (pa_cons ihb.pe pa_nil (star_cons h11)) (star_cons h10)) (stores_par o.kind (lc h5) (lc h6) h7 h3 h8 h9 h10 h11) swaps_tup) fun F σ H ⟨G, st, p⟩ => ?_
      simp only [evS] at p
      refine ⟨G, st, ofE st p fun v d G1 H1 e1 r1 er p1 => ⟨G1, st.mono e1, ofE (st.mono e1) p1 fun u e G2 H2 e2 r2 er2 p2 => ⟨v, u, rfl, ?_⟩⟩⟩
      exact p2 _ _ _ ((((st.mono e1).mono e2).setIm (e2.rp r1) i).setIm r2 j) (.refl _)
    · cases h
  | .app i e, X, sc, EX, s, o, h, hy, G0, H0, ρ, hl => by
    simp only [chkS] at h
    simp only [HypS] at hy
    split at h
    · rename_i x xp m ap v cp pos
      simp only [Bool.and_eq_true, decide_eq_true_eq] at h
      obtain ⟨h1, h2, h3, h4, h5, h6⟩ := h
      subst h1
      obtain ⟨hv, hp⟩ := o.vis h3
      have ih := sndE e X sc EX v o h6 hy G0 H0 ρ
      refine PS.imp (ps_expr (pe_bm PySem.F.plainAttrs_list PySem.F.slot_list_append PySem.F.type_list_append mt_append (pe_var (i := i) (by rw [o.N]; exact h2) hv (plain1 hp) (plain2 hp)) (pa_cons ih.pe pa_nil (star_cons h4)) rfl (meth_few h4) h5 (star_cons h4) rfl) (swaps_plain rfl)) fun F σ H ⟨G, st, p⟩ => ?_
      simp only [evS] at p
      split at p
      · rename_i ds hd
        obtain ⟨a, vs, e1, e2, e3, _⟩ := st.ow i ds hd
        refine ⟨_, e1, .inl ⟨rfl, vs, .inl (.inl e2)⟩, G, st, ofE st p fun y d G1 H1 ex r1 er p1 => ?_⟩
        split at p1
        · rename_i hlq
          refine ⟨a, vs, y, rfl, rfl, ex.sub.g e2, by rw [e3.length]; exact hlq, ?_⟩
          exact p1 _ _ _ ((st.mono ex).write hd e1 ((ex.rps e3).app (.cons r1 .nil))) (.refl _)
        · exact p1.elim
      · exact p.elim
    · cases h
  | .ext i e, X, sc, EX, s, o, h, hy, G0, H0, ρ, hl => by
    simp only [chkS] at h
    simp only [HypS] at hy
    split at h
    · rename_i x xp m ap v cp pos
      simp only [Bool.and_eq_true, decide_eq_true_eq] at h
      obtain ⟨h1, h2, h3, h4, h5, h6⟩ := h
      subst h1
      obtain ⟨hv, hp⟩ := o.vis h3
      have ih := sndE e X sc EX v o h6 hy G0 H0 ρ
      refine PS.imp (ps_expr (pe_bm PySem.F.plainAttrs_list PySem.F.slot_list_extend PySem.F.type_list_extend mt_extR (pe_var (i := i) (by rw [o.N]; exact h2) hv (plain1 hp) (plain2 hp)) (pa_cons ih.pe pa_nil (star_cons h4)) rfl (meth_few h4) h5 (star_cons h4) rfl) (swaps_plain rfl)) fun F σ H ⟨G, st, p⟩ => ?_
      simp only [evS] at p
      split at p
      · rename_i ds hd
        obtain ⟨a, vs, e1, e2, e3, e4, _⟩ := st.ow i ds hd
        refine ⟨_, e1, .inl ⟨rfl, vs, .inl (.inl e2)⟩, G, st, ofE st p fun y d G1 H1 ex r1 er p1 => ?_⟩
        cases r1 <;> first | exact False.elim p1 | skip
        rename_i b xs es hb hes
        have p1 : PostS X.K X.mg EX G0 H0 G1 (Out.ofR (if ds.length + es.length ≤ LIM then .ok (ds ++ es) else .no) fun es => .nx (ρ.set i (.ow es))) F := p1
        split at p1
        · rename_i hlq
          refine ⟨a, b, vs, xs, rfl, rfl, ex.sub.g e2, ex.inn.ls hb, by rw [e3.length, hes.length]; exact hlq, ?_⟩
          exact p1 _ _ _ ((st.mono ex).write hd e1 ((ex.rps e3).app hes)) (.refl _)
        · exact p1.elim
      · exact p.elim
    · cases h
  | .pop i, X, sc, EX, s, o, h, hy, G0, H0, ρ, hl => by
    simp only [chkS] at h
    split at h
    · rename_i x xp m ap cp pos
      simp only [Bool.and_eq_true, decide_eq_true_eq] at h
      obtain ⟨h1, h2, h3, h5⟩ := h
      subst h1
      obtain ⟨hv, hp⟩ := o.vis h3
      refine PS.imp (ps_expr (pe_bm0 PySem.F.plainAttrs_list PySem.F.slot_list_pop PySem.F.type_list_pop mt_pop (pe_var (i := i) (by rw [o.N]; exact h2) hv (plain1 hp) (plain2 hp)) rfl h5) (swaps_plain rfl)) fun F σ H ⟨G, st, p⟩ => ?_
      simp only [evS] at p
      split at p
      · rename_i ds hd
        obtain ⟨a, vs, e1, e2, e3, _⟩ := st.ow i ds hd
        split at p
        · exact p.elim
        · rename_i hne
          have hpos : 0 < vs.length := by
            rw [e3.length]
            cases ds with
            | nil => exact absurd rfl hne
            | cons a b => simp
          refine ⟨_, e1, .inl ⟨rfl, vs, .inl (.inl e2)⟩, a, vs, vs[vs.length - 1], rfl, rfl, e2, List.getElem?_eq_getElem (by omega), ?_⟩
          exact p _ _ _ (st.write hd e1 e3.dropLast) (.refl _)
      · exact p.elim
    · cases h
  | .owa i a b, X, sc, EX, s, o, h, hy, G0, H0, ρ, hl => by
    simp only [chkS] at h
    simp only [HypS] at hy
    split at h
    · rename_i x p l op r bp pos
      simp only [Bool.and_eq_true, decide_eq_true_eq] at h
      obtain ⟨h0, h1, h2, h3, h4⟩ := h
      subst h0
      have iha := (sndE a X sc EX l o h3 hy.1 G0 H0 ρ).pe
      have ihb := (sndE b X sc EX r o h4 hy.2 G0 H0 ρ).pe
      exact PS.imp (ps_set (i := i) o.nd (by rw [o.N]; exact h1) (o.loc h2) (pe_op op_catR iha ihb) (swaps_plain rfl) (o.stn _ h2)) fun F σ H q => owa_read (by simpa only [evS] using q)
    · cases h
  | .ows i a lo hi, X, sc, EX, s, o, h, hy, G0, H0, ρ, hl => by
    simp only [chkS] at h
    simp only [HypS] at hy
    split at h
    · rename_i x p v l u sp bp pos
      simp only [Bool.and_eq_true, decide_eq_true_eq] at h
      obtain ⟨h1, h2, h3, h4, h5⟩ := h
      have iha := (sndE a X sc EX v o h3 hy.1 G0 H0 ρ).pe
      have hl := sndO lo X sc EX _ o h4 hy.2.1 G0 H0 ρ
      have hh := sndO hi X sc EX _ o h5 hy.2.2 G0 H0 ρ
      exact PS.imp (ps_set (i := i) o.nd (by rw [o.N]; exact h1) (o.loc h2) (pe_slice sl_list iha hl hh) (swaps_plain rfl) (o.stn _ h2)) fun F σ H q => ows_read (by simpa only [evS] using q)
    · cases h
  | .put i kx e, X, sc, EX, s, o, h, hy, G0, H0, ρ, hl => by
    simp only [chkS] at h
    simp only [HypS] at hy
    split at h
    · rename_i x xp ke sp v pos
      simp only [Bool.and_eq_true, decide_eq_true_eq] at h
      obtain ⟨h1, h2, h3, h4, h5, h6⟩ := h
      obtain ⟨hv, hp⟩ := o.vis h2
      have ihk := sndE kx X sc EX ke o h5 hy.1 G0 H0 ρ
      have ih := sndE e X sc EX v o h6 hy.2 G0 H0 ρ
      have hasg : ∀ v, assign (.Subscript (.Name x xp) ke sp) X.env v = (do
          let ov ← holding [v] (eval (.Name x xp) X.env)
          let iv ← holding [v, ov] (eval ke X.env)
          standAt sp
          holding [v, ov, iv] (setItem ov iv v)
          release [v, ov, iv] []) := by
        intro v
        cases ke <;> first | (cases h3; done) | rfl
      have hsw : swapsWithSole [.Subscript (.Name x xp) ke sp] v pos.line X.env = pure false := by
        show swapsWith v (some (.Subscript (.Name x xp) ke sp)) pos.line X.env = pure false
        exact swaps_plain h4
      refine PS.imp (ps_asg ih.pe (pg_sub (pe_var (i := i) (by rw [o.N]; exact h1) hv (plain1 hp) (plain2 hp)) ihk.pe set_list hasg) hsw stores_sub rfl) fun F σ H ⟨G, st, p⟩ => ?_
      simp only [evS] at p
      split at p
      · rename_i ds hd
        obtain ⟨a, vs, e1, e2, e3, _⟩ := st.ow i ds hd
        refine ⟨G, st, ofE st p fun y d G1 H1 ex r1 er p1 => ⟨_, e1, G1, st.mono ex, ofE (st.mono ex) p1 fun z dk G2 H2 ex2 r2 er2 p2 => ?_⟩⟩
        clear er er2
        cases r2 <;> first | exact False.elim p2 | skip
        rename_i kk
        have p2 : PostS X.K X.mg EX G0 H0 G2 (Out.ofR (match L2.ixN ds.length kk with | some j => .ok (ds.set j d) | none => .no) fun es => .nx (ρ.set i (.ow es))) F := p2
        split at p2
        · rename_i j hj
          refine ⟨a, vs, kk, j, rfl, rfl, ex2.sub.g (ex.sub.g e2), by rw [e3.length]; exact hj, ?_⟩
          exact p2 _ _ _ (((st.mono ex).mono ex2).write hd e1 (RpAll.set (ex2.rp r1) j (ex2.rps (ex.rps e3)))) (.refl _)
        · exact p2.elim
      · exact p.elim
    · cases h
  | .frz i, X, sc, EX, s, o, h, hy, G0, H0, ρ, hl => by simp [chkS] at h
  | .kil vs, X, sc, EX, s, o, h, hy, G0, H0, ρ, hl => by simp [chkS] at h
  | .ret e, X, sc, EX, s, o, h, hy, G0, H0, ρ, hl => by
    simp only [chkS] at h
    simp only [HypS] at hy
    split at h
    · rename_i v pos
      have ih := sndE e X sc EX v o h hy G0 H0 ρ
      refine PS.imp (ps_ret ih.pe) fun F σ H ⟨G, st, p⟩ => ?_
      simp only [evS] at p
      exact ⟨G, st, ofE st p fun v d G1 H1 e1 r1 er p1 => p1 v G1 H1 (st.ext.trans e1) r1⟩
    · cases h
  | .exp e, X, sc, EX, s, o, h, hy, G0, H0, ρ, hl => by
    simp only [chkS] at h
    simp only [HypS] at hy
    split at h
    · rename_i v pos
      rw [Bool.and_eq_true] at h
      have ih := sndE e X sc EX v o h.2 hy G0 H0 ρ
      refine PS.imp (ps_expr ih.pe (swaps_plain h.1)) fun F σ H ⟨G, st, p⟩ => ?_
      simp only [evS] at p
      exact ⟨G, st, ofE st p fun v d G1 H1 e1 r1 er p1 => p1 σ G1 H1 (st.mono e1) (.refl _)⟩
    · cases h
  | .ife c a b, X, sc, EX, s, o, h, hy, G0, H0, ρ, hl => by
    simp only [chkS] at h
    simp only [HypS] at hy
    split at h
    · rename_i t x y pos
      simp only [Bool.and_eq_true] at h
      obtain ⟨h1, h2, h3⟩ := h
      have ihc := sndE c X sc EX t o h1 hy.1 G0 H0 ρ
      have iha := sndSs a X sc EX x o h2 hy.2.1 G0 H0 ρ hl
      have ihb := sndSs b X sc EX y o h3 hy.2.2 G0 H0 ρ hl
      refine PS.imp (ps_if ihc.pt iha ihb) fun F σ H ⟨G, st, p⟩ => ?_
      simp only [evS] at p
      refine ⟨G, st, ofE st p fun b1 b2 G1 H1 e1 r1 er p1 => ?_⟩
      subst r1
      cases b1 with
      | false => rw [if_neg (by decide)]; exact ⟨G1, st.mono e1, p1⟩
      | true => rw [if_pos rfl]; exact ⟨G1, st.mono e1, p1⟩
    · cases h
  | .whl c b, X, sc, EX, s, o, h, hy, G0, H0, ρ, hl => by
    simp only [chkS] at h
    simp only [HypS] at hy
    split at h
    · rename_i t x pos
      simp only [Bool.and_eq_true] at h
      refine PS.imp (ps_while o.po (PT.ex fun ρ' => (sndE c X sc EX t o h.1 hy.1 G0 H0 ρ').pt) (PSs.ex fun ρ' => sndSs b X sc EX x o h.2 hy.2 G0 H0 ρ' hl)) fun F σ H q => ?_
      simp only [evS] at q
      exact whl_read q
    · cases h
  | .fr tg it b, X, sc, EX, s, o, h, hy, G0, H0, ρ, hl => by
    simp only [chkS] at h
    simp only [HypS] at hy
    split at h
    · rename_i t i x pos
      simp only [Bool.and_eq_true] at h
      obtain ⟨h1, h2, h3, h4⟩ := h
      refine PS.imp (ps_for o.po o.calm (sndI it X sc EX t i o h3 hy.1 G0 H0 ρ) (sndT tg X sc EX t o h2 G0 H0) (PSs.ex fun ρ' => sndSs b X sc EX x o h4 hy.2 G0 H0 ρ' hl) (fold_plain h1)) fun F σ H q => ?_
      simp only [evS] at q
      exact for_read q
    · cases h
  | .brk, X, sc, EX, s, o, h, hy, G0, H0, ρ, hl => by
    simp only [chkS] at h
    split at h
    · refine PS.imp ps_break fun F σ H ⟨G, st, p⟩ => ?_
      simp only [evS] at p
      exact p σ G H st (.refl _)
    · cases h
  | .cnt, X, sc, EX, s, o, h, hy, G0, H0, ρ, hl => by
    simp only [chkS] at h
    split at h
    · refine PS.imp ps_continue fun F σ H ⟨G, st, p⟩ => ?_
      simp only [evS] at p
      exact p σ G H st (.refl _)
    · cases h
  | .pass, X, sc, EX, s, o, h, hy, G0, H0, ρ, hl => by
    simp only [chkS] at h
    split at h
    · refine PS.imp ps_pass fun F σ H ⟨G, st, p⟩ => ?_
      simp only [evS] at p
      exact p σ G H st (.refl _)
    · cases h
  | .rse x, X, sc, EX, s, o, h, hy, G0, H0, ρ, hl => by
    simp only [chkS] at h
    simp only [HypS] at hy
    split at h
    · rename_i y p1 m j p2 p3 pos
      rw [Bool.and_eq_true, decide_eq_true_eq] at h
      obtain ⟨h1, h2⟩ := h
      subst h1
      obtain ⟨hg, hp⟩ := o.gl h2
      obtain ⟨C, c1, c2, c3, c4, c5⟩ := (show ExcF X.K X.mg x from hy)
      refine PS.imp (ps_raise o.calm o.tk (pmk_own PySem.F.excBase_ValueError c2 c1 c3 (raises_own c4 c5) hg (plain1 hp))) fun F σ H ⟨G, st, p⟩ => ?_
      simp only [evS] at p
      obtain ⟨C', d1, d2⟩ := p
      rw [c1] at d1
      cases d1
      exact d2 G H st.ext
    · cases h
  | .tryb i e x ys c, X, sc, EX, s, o, h, hy, G0, H0, ρ, hl => by
    simp only [chkS] at h
    simp only [HypS] at hy
    split at h
    · rename_i v p1 ve p2 z p3 v2 p4 cb j p5 p6 p7 p8
      simp only [Bool.and_eq_true, decide_eq_true_eq] at h
      obtain ⟨h1, h2, h3, h4, h5, h6, h7, h8⟩ := h
      subst h2 h5 h7
      obtain ⟨hg, hp⟩ := o.gl h6
      exact try_sound (L := L) o hl.stk hl.frm h1 h3 h4 hg hp h8 hy.1 hy.2.1 hy.2.2 (fun EX' pn xe tk po => (sndE e (X.tr pn xe) sc EX' ve ⟨o.N, o.nd, o.kind, o.nm, o.calm, o.room, po, tk, o.stn⟩ h8 hy.1 G0 H0 ρ).pe)
    · cases h
  | .tld i e, X, sc, EX, s, o, h, hy, G0, H0, ρ, hl => by
    simp only [chkS] at h
    simp only [HypS] at hy
    split at h
    · rename_i v p1 y p2 body scope p3 p4 pos
      simp only [Bool.and_eq_true, decide_eq_true_eq] at h
      obtain ⟨h1, h2, h3, h4, h5, h6⟩ := h
      subst h3
      have ih := pe_told (G0 := G0) (H0 := H0) (ρ := ρ) (p := p2) (lpos := p3) (pos := p4) o (hl.lam hy.1) h4 h5 h6 hy.2
      refine PS.imp (ps_set (i := i) o.nd (by rw [o.N]; exact h1) (o.loc h2) ih (swaps_plain rfl) (o.stn _ h2)) fun F σ H ⟨G, st, p⟩ => ?_
      simp only [evS] at p
      exact ⟨G, st, ofE st p fun b a G1 H1 e1 r1 _ p1 => p1 _ _ _ ((st.mono e1).setIm r1 i) (.refl _)⟩
    · cases h
  | .tif e d a b, X, sc, EX, s, o, h, hy, G0, H0, ρ, hl => by
    simp only [chkS] at h
    simp only [HypS] at hy
    split at h
    · rename_i y p2 body scope p3 p4 op de p5 xs zs pos
      simp only [Bool.and_eq_true, decide_eq_true_eq] at h
      obtain ⟨h0, h1, h3, h4, h5, h6, h7, h8, h9⟩ := h
      subst h0 h3
      have ih := pe_told (G0 := G0) (H0 := H0) (ρ := ρ) (p := p2) (lpos := p3) (pos := p4) o (hl.lam hy.1) h4 h5 h6 hy.2.1
      have ihd := (sndE d X sc EX de o h7 hy.2.2.1 G0 H0 ρ).pe
      have iha := sndSs a X sc EX xs o h8 hy.2.2.2.1 G0 H0 ρ hl
      have ihb := sndSs b X sc EX zs o h9 hy.2.2.2.2 G0 H0 ρ hl
      obtain ⟨rr, hr1, hr2⟩ := cmp_sound (X := X) (mg := X.mg) (EX := EX) o.room.units .NotEq
      refine PS.imp (ps_if (pt_cmpR (pos := p5) hr1 ih ihd (mark_plain h1)) iha ihb) fun F σ H ⟨G, st, p⟩ => ?_
      simp only [evS] at p
      have p' : Post X.mg EX (fun _ b c => b = c) (tldR (evE e ρ) >>= fun x => evE d ρ >>= fun y => dCmp .NotEq x y >>= fun z => dTru z) G H (fun b1 H1 => if b1 = true then rdS X.K X.mg EX G0 H0 ρ (evSs a ρ) F σ H1 else rdS X.K X.mg EX G0 H0 ρ (evSs b ρ) F σ H1) := ofE st p fun b1 b2 G1 H1 e1 r1 er p1 => by
        subst r1
        cases b1 with
        | false => rw [if_neg (by decide)]; exact ⟨G1, st.mono e1, p1⟩
        | true => rw [if_pos rfl]; exact ⟨G1, st.mono e1, p1⟩
      refine ⟨G, st, Post.bind p' fun x dx G1 H1 e1 r1 _ p1 => ⟨G1, st.mono e1, Post.bind p1 fun y dy G2 H2 e2 r2 _ p2 => hr2 _ _ _ _ G2 H2 _ e2.inn (e2.rp r1) r2 (Post.bind p2 fun w dw G3 H3 e3 r3 er3 p3 => ?_)⟩⟩
      obtain ⟨bb, rfl⟩ := dCmp_bool er3
      cases r3
      exact ⟨bb, rfl, Post.now e3.inn p3 rfl⟩
    · cases h
  | .par3 i j k1 a b c, X, sc, EX, s, o, h, hy, G0, H0, ρ, hl => by
    simp only [chkS] at h
    simp only [HypS] at hy
    split at h
    · rename_i x px y py z pz kt tp ea eb ec k2 p2 pos
      simp only [Bool.and_eq_true, decide_eq_true_eq, Bool.not_eq_true'] at h
      obtain ⟨h1, h2, h3, h4, h5, h6, h7, h8, h9, h10, h11, h12, h13, h14, h15, h16, h17⟩ := h
      have iha := sndE a X sc EX ea o h15 hy.1 G0 H0 ρ
      have ihb := sndE b X sc EX eb o h16 hy.2.1 G0 H0 ρ
      have ihc := sndE c X sc EX ec o h17 hy.2.2 G0 H0 ρ
      have lc : ∀ {z : Str}, sc.names.lookup z = some .local → X.env.scope.names.lookup z = some .local := fun {z} q => by
        obtain ⟨kd, w1, w2⟩ := o.nm _ _ q
        rcases w2 with rfl | ⟨z, _⟩
        · exact w1
        · cases z
      refine PS.imp (ps_par3 (i := i) (j := j) (k := k1) o.calm o.nd (by rw [o.N]; exact h1) (by rw [o.N]; exact h2) (by rw [o.N]; exact h3) h5 (lc h6) (lc h7) (lc h8) (pa_cons iha.pe (pa_cons ihb.pe (pa_cons ihc.pe pa_nil (star_cons h14)) (star_cons h13)) (star_cons h12)) (stores_par3 o.kind (lc h6) (lc h7) (lc h8) h9 h4 h10 h11 h12 h13 h14)) fun F σ H ⟨G, st, p⟩ => ?_
      simp only [evS] at p
      refine ⟨G, st, ofE st p fun v d G1 H1 e1 r1 er p1 => ⟨G1, st.mono e1, ofE (st.mono e1) p1 fun u e G2 H2 e2 r2 er2 p2 => ⟨G2, (st.mono e1).mono e2, ofE ((st.mono e1).mono e2) p2 fun t f G3 H3 e3 r3 er3 p3 => ⟨v, u, t, rfl, ?_⟩⟩⟩⟩
      exact p3 _ _ _ ((((((st.mono e1).mono e2).mono e3).setIm (e3.rp (e2.rp r1)) i).setIm (e3.rp r2) j).setIm r3 k1) (.refl _)
    · cases h
  | .nev, X, sc, EX, s, o, h, hy, G0, H0, ρ, hl => by
    simp only [evS]
    exact PS_no
theorem sndSs {N : List Str} {k : Nat} {L : Prop} : ∀ (ie : ISs) (X : Cx) (sc : Scope) (EX : XK) (ss : List Stmt), Cok X N sc k EX → chkSs N sc ie ss = true → HypSs (gamSX X k L) ie → ∀ G0 H0 ρ, DefOk L X k H0 → PSs X ss (rdS X.K X.mg EX G0 H0 ρ (evSs ie ρ))
  | .nil, X, sc, EX, ss, o, h, hy, G0, H0, ρ, hl => by
    cases ss with
    | cons a b => simp [chkSs] at h
    | nil =>
      refine PSs.imp pss_nil fun F σ H ⟨G, st, p⟩ => ?_
      simp only [evSs] at p
      exact p σ G H st (.refl _)
  | .cons s r, X, sc, EX, ss, o, h, hy, G0, H0, ρ, hl => by
    simp only [HypSs] at hy
    by_cases hf : ∃ i, s = .frz i
    · obtain ⟨i, rfl⟩ := hf
      simp only [chkSs] at h
      refine PSs.imp (PSs.ex fun ρ' => sndSs r X sc EX ss o h hy.2 G0 H0 ρ' hl) fun F σ H ⟨G, st, p⟩ => ?_
      simp only [evSs, evS] at p
      cases hr : ρ[i]? with
      | none => rw [hr] at p; exact ⟨ρ, G, st, p⟩
      | some c =>
        rw [hr] at p
        cases c with
        | ow ds =>
          obtain ⟨G', sg, st'⟩ := st.freeze hr
          exact ⟨_, G', st', PostS.mono p sg⟩
        | _ => exact ⟨ρ, G, st, p⟩
    · by_cases hk : ∃ vs, s = .kil vs
      · obtain ⟨vs, rfl⟩ := hk
        simp only [chkSs] at h
        refine PSs.imp (PSs.ex fun ρ' => sndSs r X sc EX ss o h hy.2 G0 H0 ρ' hl) fun F σ H ⟨G, st, p⟩ => ?_
        simp only [evSs, evS] at p
        exact ⟨_, G, st.wipe vs, p⟩
      · cases ss with
        | nil =>
          exfalso
          cases s <;> first | exact hf ⟨_, rfl⟩ | exact hk ⟨_, rfl⟩ | (simp [chkSs] at h; done)
        | cons t ts =>
          have h : (chkS N sc s t && chkSs N sc r ts) = true := by
            cases s <;> first | exact absurd ⟨_, rfl⟩ hf | exact absurd ⟨_, rfl⟩ hk | (simpa only [chkSs] using h)
          rw [Bool.and_eq_true] at h
          have h1 := sndS s X sc EX t o h.1 hy.1 G0 H0 ρ hl
          refine PSs.imp (pss_cons h1 (PSs.ex fun ρ' => sndSs r X sc EX ts o h.2 hy.2 G0 H0 ρ' hl)) fun F σ H ⟨G, st, p⟩ => ?_
          simp only [evSs] at p
          refine ⟨G, st, ?_⟩
          cases hs : evS s ρ with
          | no => rw [hs] at p; exact p
          | nx ρ' => rw [hs] at p; exact fun σ' G' H' st' sg => ⟨ρ', G', st', PostS.mono p sg⟩
          | rt d => rw [hs] at p; exact p
          | bk ρ' => rw [hs] at p; exact p
          | ct ρ' => rw [hs] at p; exact p
          | er x => rw [hs] at p; exact p
end
end Rf
namespace Rf
open PySem PySem.Spec PyProof.Rows L2
def scopeB (N ps : List Str) (sc : Scope) : Bool := decide (sc.kind = .function) && (!sc.isCoroutine && (!sc.isGenerator && (decide N.Nodup && (decide (N.take ps.length = ps) && (ps.all (fun x => locB sc x) && sc.names.all fun y => decide (y.2 ≠ .free))))))
theorem scope_of {N ps : List Str} {sc : Scope} (h : scopeB N ps sc = true) : FnScope N ps sc := by
  unfold scopeB at h
  simp only [Bool.and_eq_true, decide_eq_true_eq, Bool.not_eq_true', List.all_eq_true] at h
  obtain ⟨h1, h2, h3, h4, h5, h6, h7⟩ := h
  refine ⟨h1, h2, h3, h4, h5, fun x hx => ?_, h7⟩
  have := h6 x hx
  unfold locB at this
  split at this
  · rename_i e; exact .inl e
  · rename_i e; exact .inr e
  · cases this
def chkD (N ps : List Str) (st : Stmt) (b : ISs) : Bool := scopeB N ps (defScope st) && (decide (ps.length ≤ N.length) && chkSs N (defScope st) b (defBody st))
section
variable {P : Program} {w : World} {K : PySem.W.Frag} {mg : Str → Option Value} {base : Heap} {k : Nat}
theorem stt_start {G H : Hp} {vs : List V} {ds : List D} {n : Nat} {N : List Str} (s : Sub G H) (r : RpAll K G vs ds) (hn : N.length = n) (hl : vs.length ≤ n) :
    Stt K G H (ds.map Cell.im ++ List.replicate (n - ds.length) .un) (L2.start N vs) G H := by
  have e := r.length
  refine ⟨by simp [L2.start, hn, e], .refl s, fun i d h => ?_, fun i d h => ?_, fun i j di dj a h h' _ _ => ?_⟩
  · by_cases hi : i < ds.length
    · rw [List.getElem?_append_left (by simpa using hi), List.getElem?_map] at h
      cases q : ds[i]? with
      | none => rw [q] at h; cases h
      | some d' =>
        rw [q] at h
        cases h
        obtain ⟨v, h1, h2⟩ := r.get q
        refine ⟨v, ?_, h2⟩
        unfold L2.start
        rw [List.getElem?_append_left (by simp; omega), List.getElem?_map, h1]; rfl
    · rw [List.getElem?_append_right (by simpa using hi)] at h
      have := List.mem_of_getElem? h
      rw [List.mem_replicate] at this
      cases this.2
  · exfalso
    have := List.mem_of_getElem? h
    rw [List.mem_append, List.mem_map, List.mem_replicate] at this
    rcases this with ⟨_, _, q⟩ | ⟨_, q⟩ <;> cases q
  · exfalso
    have := List.mem_of_getElem? h
    rw [List.mem_append, List.mem_map, List.mem_replicate] at this
    rcases this with ⟨_, _, q⟩ | ⟨_, q⟩ <;> cases q
theorem fn_def {x : Str} {st : Stmt} {N ps : List Str} {b : ISs} {f : Addr} {fd : FuncData} (F : FunD K x x (defArgs st) (defBody st) (defScope st) [] [] f fd) (hc : chkD N ps st b = true) (hy : HypSs (gamS P w K mg base k False) b) : FnOk P w K mg base (L2.CX P w) (k + 1) f fd ps (spOf K mg (runFn ps.length N.length b)) := by
  unfold chkD at hc
  rw [Bool.and_eq_true, Bool.and_eq_true, decide_eq_true_eq] at hc
  obtain ⟨hsc, hlen, hck⟩ := hc
  have S := scope_of hsc
  refine F.ok S (fun vs H Q E h => ?_) (fun cdv A outer s H vs Q E hr h => ?_)
  · obtain ⟨G, ds, h1, h2, h3⟩ := h
    rw [h2.length]
    unfold runFn at h3
    split at h3
    · assumption
    · exact h3.elim
  · obtain ⟨G, ds, h1, h2, h3⟩ := h
    unfold runFn at h3
    split at h3
    · rename_i hd
      have o : Cok (cxOf (L2.CX P w) P w K mg base N x (defScope st) f cdv A outer s H E) N (defScope st) k E := by
        refine ⟨rfl, S.nd, S.kind, fun y kd e => ⟨kd, e, .inl rfl⟩, rfl, hr, passes_of rfl, takes_of rfl rfl rfl rfl, fun y _ => .inl rfl⟩
      have ih := sndSs b _ (defScope st) E (defBody st) o hck hy G H (ds.map Cell.im ++ List.replicate (N.length - ps.length) .un) ⟨rfl, rfl, False.elim⟩
      refine ⟨_, ih, G, ?_, ?_⟩
      · rw [← hd]
        exact stt_start h1 h2 rfl (by rw [h2.length]; omega)
      · show PostS K mg E G H G (evSs b (ds.map Cell.im ++ List.replicate (N.length - ps.length) .un)) { nx := fun _ H' => Q .non H', rt := Q }
        cases e : evSs b (ds.map Cell.im ++ List.replicate (N.length - ps.length) .un) with
        | no => rw [e] at h3; exact h3
        | nx ρ => rw [e] at h3; exact fun σ G' H' st' sg => h3 .non G' H' st'.ext .non
        | rt d => rw [e] at h3; exact fun v G' H' ex r => h3 v G' H' ex r
        | bk ρ => rw [e] at h3; exact h3.elim
        | ct ρ => rw [e] at h3; exact h3.elim
        | er z =>
          rw [e] at h3
          obtain ⟨C, g1, g2⟩ := h3
          exact ⟨C, g1, fun G' H' ex => g2 G' H' ex⟩
    · exact h3.elim
/-- the law that makes lambdas -/
theorem fn_defL {st st2 : Stmt} {N ps : List Str} {b : ISs} {f c T : Addr} {fd : FuncData} (F : FunD K "law" "law" (defArgs st) (defBody st) (defScope st) [] [] f fd) (hc : chkD N ps st b = true) (hy : HypSs (gamS P w K mg base k True) b) (k2 : 2 ≤ k) (tf : TldF K mg)
    (D2 : DefFact K mg "_law_told" st2) (b2 : BindOk "_law_told" ["_law_deed"] st2) (t2 : toldB (defScope st2) (defBody st2) = true) (s2 : scopeB toldN ["_law_deed"] (defScope st2) = true) (hcode : fd.code = .ref c) (TB : LamX.TabB base mg c T) :
    FnOk P w K mg base (L2.CX P w) (k + 1) f fd ps (fun vs H Q E => LamX.TabS H T lamQ ∧ spOf K mg (runFn ps.length N.length b) vs H Q E) := by
  unfold chkD at hc
  rw [Bool.and_eq_true, Bool.and_eq_true, decide_eq_true_eq] at hc
  obtain ⟨hsc, hlen, hck⟩ := hc
  have S := scope_of hsc
  obtain ⟨oc, od, dV, kV, doc, pm, an, cdv, ct, osl, rfl, lk, hcd, _, _⟩ := F.ex
  refine fn_of lk hcd S (fun vs H Q E h => ?_) (fun A outer s H vs Q E hr h => ?_)
  · obtain ⟨_, G, ds, h1, h2, h3⟩ := h
    rw [h2.length]
    unfold runFn at h3
    split at h3
    · assumption
    · exact h3.elim
  · obtain ⟨ht, G, ds, h1, h2, h3⟩ := h
    unfold runFn at h3
    split at h3
    · rename_i hd
      have o : Cok (cxOf (L2.CX P w) P w K mg base N "law" (defScope st) f cdv A outer s H E) N (defScope st) k E := by
        refine ⟨rfl, S.nd, S.kind, fun y kd e => ⟨kd, e, .inl rfl⟩, rfl, hr, passes_of rfl, takes_of rfl rfl rfl rfl, fun y _ => .inl rfl⟩
      have lam : LamOk (cxOf (L2.CX P w) P w K mg base N "law" (defScope st) f cdv A outer s H E) k H := ⟨k2, by rfl, tf, ⟨st2, D2, b2, t2, scope_of s2⟩, ⟨c, T, hcode, TB, ht⟩⟩
      have ih := sndSs b _ (defScope st) E (defBody st) o hck hy G H (ds.map Cell.im ++ List.replicate (N.length - ps.length) .un) ⟨rfl, rfl, fun _ => lam⟩
      refine ⟨_, ih, G, ?_, ?_⟩
      · rw [← hd]
        exact stt_start h1 h2 rfl (by rw [h2.length]; omega)
      · show PostS K mg E G H G (evSs b (ds.map Cell.im ++ List.replicate (N.length - ps.length) .un)) { nx := fun _ H' => Q .non H', rt := Q }
        cases e : evSs b (ds.map Cell.im ++ List.replicate (N.length - ps.length) .un) with
        | no => rw [e] at h3; exact h3
        | nx ρ => rw [e] at h3; exact fun σ G' H' st' sg => h3 .non G' H' st'.ext .non
        | rt d => rw [e] at h3; exact fun v G' H' ex r => h3 v G' H' ex r
        | bk ρ => rw [e] at h3; exact h3.elim
        | ct ρ => rw [e] at h3; exact h3.elim
        | er z =>
          rw [e] at h3
          obtain ⟨C, g1, g2⟩ := h3
          exact ⟨C, g1, fun G' H' ex => g2 G' H' ex⟩
    · exact h3.elim
theorem good_def {x : Str} {st : Stmt} {N ps : List Str} {b : ISs} (F : DefFact K mg x st) (hb : BindOk x ps st) (hc : chkD N ps st b = true) (hy : HypSs (gamS P w K mg base k False) b) : GoodFn P w K mg base (k + 1) x (runFn ps.length N.length b) := by
  obtain ⟨f, fd, hm, F⟩ := F.ex
  exact ⟨f, fd, ps, hm, F.kp, F.bindsN hb, fn_def F hc hy⟩
end
/-- a value of the written part stands for data -/
def repB (K : PySem.W.Frag) : Nat → Value → D → Bool
  | _, .none, .none => true
  | _, .bool b, .bool c => b == c
  | _, .int i _, .int j => decide (i = j)
  | _, .str x _, .str y => decide (x = y)
  | n + 1, .ref a, .tuple ds => (match K.lookup a with
    | some ⟨.type c, _, .seq its _, _⟩ => decide (c = "tuple") && (decide (its.size ≤ sizeLine) && (decide (its.toList.length = ds.length) && (its.toList.zip ds).all fun p => repB K n p.1 p.2))
    | _ => false)
  | _, _, _ => false
def gloOkB (K : PySem.W.Frag) (x : Str) (d : D) : Bool := match PySem.W.nsIn K mainGlobals x with
  | some (some u) => repB K 8 u d
  | _ => false
theorem repB_ok {K : PySem.W.Frag} : ∀ (n : Nat) (u : Value) (d : D), repB K n u d = true → ∃ v, RelV v u ∧ ∀ G, Rp K G v d
  | n, u, .none, h => by
    cases u <;> first | (cases n <;> cases h; done) | skip
    exact ⟨.non, rfl, fun _ => .non⟩
  | n, u, .bool c, h => by
    cases u <;> first | (cases n <;> cases h; done) | skip
    rename_i b
    have h1 : (b == c) = true := by cases n <;> exact h
    rw [eq_of_beq h1]
    exact ⟨.bl c, rfl, fun _ => .bl c⟩
  | n, u, .int j, h => by
    cases u <;> first | (cases n <;> cases h; done) | skip
    rename_i i t
    have h1 : decide (i = j) = true := by cases n <;> exact h
    rw [of_decide_eq_true h1]
    exact ⟨.int j, ⟨t, rfl⟩, fun _ => .int j⟩
  | n, u, .str j, h => by
    cases u <;> first | (cases n <;> cases h; done) | skip
    rename_i i t
    have h1 : decide (i = j) = true := by cases n <;> exact h
    rw [of_decide_eq_true h1]
    exact ⟨.str j, ⟨t, rfl⟩, fun _ => .str j⟩
  | n, u, .list ds, h => by cases u <;> cases n <;> cases h
  | n, u, .dict ds, h => by cases u <;> cases n <;> cases h
  | 0, u, .tuple ds, h => by cases u <;> cases h
  | n + 1, u, .tuple ds, h => by
    cases u <;> first | (cases h; done) | skip
    rename_i a
    have h1 : (match K.lookup a with
      | some ⟨.type c, _, .seq its _, _⟩ => decide (c = "tuple") && (decide (its.size ≤ sizeLine) && (decide (its.toList.length = ds.length) && (its.toList.zip ds).all fun p => repB K n p.1 p.2))
      | _ => false) = true := h
    split at h1
    · rename_i c od its m sl q
      simp only [Bool.and_eq_true, decide_eq_true_eq] at h1
      obtain ⟨h2, h3, h4, h5⟩ := h1
      subst h2
      have all : ∀ (us : List Value) (ds : List D), us.length = ds.length → ((us.zip ds).all fun p => repB K n p.1 p.2) = true → ∃ vs, Vals vs us ∧ ∀ G, RpAll K G vs ds := by
        intro us
        induction us with
        | nil =>
          intro ds hl _
          cases ds with
          | nil => exact ⟨[], .nil, fun _ => .nil⟩
          | cons a b => cases hl
        | cons u us ih =>
          intro ds hl hz
          cases ds with
          | nil => cases hl
          | cons d ds =>
            rw [List.zip_cons_cons, List.all_cons, Bool.and_eq_true] at hz
            obtain ⟨v, r1, r2⟩ := repB_ok n u d hz.1
            obtain ⟨vs, r3, r4⟩ := ih ds (by simpa using hl) hz.2
            exact ⟨v :: vs, .cons r1 r3, fun G => .cons (r2 G) (r4 G)⟩
      obtain ⟨vs, r1, r2⟩ := all _ _ h4 h5
      exact ⟨.ref a, rfl, fun G => .tup (.inr ⟨_, its, m, q, rfl, rfl, h3, r1⟩) (r2 G)⟩
    · cases h1
theorem gloOk_of {K : PySem.W.Frag} {h : Heap} {mg : Str → Option Value} (X : K.In h) (N : h.Ns mainGlobals mg) {x : Str} {d : D} (c : gloOkB K x d = true) : GloOk K mg x d := by
  unfold gloOkB at c
  split at c
  · rename_i u e
    obtain ⟨v, r1, r2⟩ := repB_ok 8 u d c
    exact ⟨u, v, PySem.W.mg_of X N e, r1, r2⟩
  · cases c
def excFB (K : PySem.W.Frag) (x : Str) : Bool := isRefB K x && (PySem.W.excIn K (clsA K x) [.type "ValueError", .type "Exception", .type "BaseException", .type "object"] "ValueError.__new__" && (PySem.W.keepIn K (.ref (clsA K x)) && ((PySem.W.subIn K (.ref (clsA K x)) (.type "BaseException") == some true) && (PySem.W.typeIn K (.ref (clsA K x)) == some (.type "type")))))
theorem excF_of {K : PySem.W.Frag} {h : Heap} {mg : Str → Option Value} (X : K.In h) (N : h.Ns mainGlobals mg) {x : Str} (c : excFB K x = true) : ExcF K mg x := by
  unfold excFB at c
  simp only [Bool.and_eq_true, beq_iff_eq] at c
  obtain ⟨c1, c2, c3, c4, c5⟩ := c
  exact ⟨clsA K x, mg_ref X N c1, c2, c3, c4, c5⟩
def exmFB (K : PySem.W.Frag) (x y : Str) (b : Bool) : Bool := isRefB K x && (isRefB K y && (PySem.W.exmOne K (.ref (clsA K x)) (.ref (clsA K y)) == some b))
theorem exmF_of {K : PySem.W.Frag} {h : Heap} {mg : Str → Option Value} (X : K.In h) (N : h.Ns mainGlobals mg) {x y : Str} {b : Bool} (c : exmFB K x y b = true) : ExmF K mg x y b := by
  unfold exmFB at c
  simp only [Bool.and_eq_true, beq_iff_eq] at c
  obtain ⟨c1, c2, c3⟩ := c
  exact ⟨clsA K x, clsA K y, mg_ref X N c1, mg_ref X N c2, c3⟩
/-- the law's table is left out of K -/
def lawTabB (K : PySem.W.Frag) : Bool := match PySem.W.tabIn K "law" with
  | some (_, T) => (K.lookup T).isNone
  | none => false
def hookR (n : Nat) (fa : List He.Fa) (fn : List He.DefD) (ck : PySem.W.Frag → Bool) : PySem.W.Hook where
  α := He.AlD × Bool
  obs := fun s => (He.obsD fa fn (He.frT s.heap.get? (He.asD s.heap.get? n)), ck (He.frT s.heap.get? (He.asD s.heap.get? n)))
  val := fun _ => (He.valD fn, true)
  says := fun _ h => ∃ K : PySem.W.Frag, K.In h ∧ He.SaysD fa fn K ∧ ck K = true
  of := fun _ _ e => ⟨_, He.frT_in, congrArg (fun z : He.AlD × Bool => z.1) e, congrArg (fun z : He.AlD × Bool => z.2) e⟩
  keeps := fun _ _ _ ⟨K, hK, c⟩ k => ⟨K, PySem.W.Frag.In.keeps hK k, c⟩
def obR (n : Nat) (fa : List He.Fa) (fn : List He.DefD) (ck : PySem.W.Frag → Bool) (g : Addr → Option Obj) : He.AlD × Bool := (He.obsD fa fn (He.frT g (He.asD g n)), ck (He.frT g (He.asD g n)))
theorem obR_eq {n : Nat} {fa : List He.Fa} {fn : List He.DefD} {ck : PySem.W.Frag → Bool} {g : Addr → Option Obj} {s : Shared} (h : ∀ a, g a = s.heap.get? a) : obR n fa fn ck g = (hookR n fa fn ck).obs s := by
  have e : g = s.heap.get? := funext h
  rw [e] <;> rfl
end Rf
namespace L2
open PySem PySem.Spec PyProof.Rows
theorem walk_ofX {l : PySem.W.OpenLaw} {n k : Nat} {q : Program} {loose : List Str} {XP : (Str → Option Value) → Heap → Prop} {YP : World → Heap → Prop} {d : DefRec} {x : Str}
    (hn : l.most = some n) (hn2 : n ≤ sizeLine) (hdf : d.params.defaults = []) (hr : Room k callerA)
    (F : ∀ (w : World) (mg : Str → Option Value) (fa : Addr) (h : Heap), YP w h → h.Ns mainGlobals mg → mg d.name = some (.ref fa) →
      ∃ (K : PySem.W.Frag) (fd : FuncData) (sp : Sp), K.In h ∧ (∀ (s : Shared) (u : Value), BindsTo s fd ⟨[u], []⟩ [(x, u)]) ∧
        (∀ (H : Hp) (a : Addr) (ns : List Int), ns.length ≤ n → Rf.LsR K H a (ns.map V.int) → sp [.ref a] H (fun v _ => v = .bl true) fun _ _ _ => False) ∧
        ∀ base : Heap, K.In base → base.Ns mainGlobals mg → FnOk l.prog w K mg base (L2.CX l.prog w) k fa fd [x] sp) :
    PySem.W.WalkO q loose XP YP l.row.toRowW d [] (fun f vs => PySem.call f vs) := by
  refine Att.attach_call hn hdf fun w s₀ s₁ mg mb fa o pm cd doc a vs ns G Y ho hd hcd hmg hobj hints hlen hg => ?_
  obtain ⟨K, fd, sp, KX, hb, hsp, hF⟩ := F w mg fa _ Y G.T.g hmg
  have lsr_of : ∀ {H : Hp}, SqL K H a (ns.map V.int) → Rf.LsR K H a (ns.map V.int) := fun {H} hS => by
    rcases hS with h | ⟨ob, its, m, h1, h2, h3, h4, h5, h6⟩
    · exact .inl h
    · have e := KX a ob h1
      rw [hobj] at e
      cases e
      cases h4
      exact .inr ⟨_, _, h1, h5, h6⟩
  refine law_call KX G.T.g G.T.b G.T.builtins G.T.nolimit hg hobj hints (Nat.le_trans hlen hn2) hr hF hb (fun H hO hS => hsp H a ns hlen (lsr_of hS)) fun H e s' h => ?_
  obtain ⟨_, _, _, _, _, _, _, _, _, _, _, _, z⟩ := h
  exact z
/-- .. where the law has a table of code objects -/
theorem walk_ofXL {l : PySem.W.OpenLaw} {n k : Nat} {q : Program} {loose : List Str} {XP : (Str → Option Value) → Heap → Prop} {YP : World → Heap → Prop} {d dL : DefRec} {x : Str}
    (hn : l.most = some n) (hn2 : n ≤ sizeLine) (hdf : d.params.defaults = []) (hr : Room k callerA) (hname : d.name = "law") (hrec : (recsOf q).find? (fun e => e.name == ("law" : Str)) = some dL)
    (F : ∀ (w : World) (mg : Str → Option Value) (fa : Addr) (h : Heap), YP w h → h.Ns mainGlobals mg → mg "law" = some (.ref fa) →
      ∃ (K : PySem.W.Frag) (fd : FuncData) (c T : Addr) (sp : Sp), K.In h ∧ PySem.W.tabIn K "law" = some (c, T) ∧ K.lookup T = none ∧ (∀ (s : Shared) (u : Value), BindsTo s fd ⟨[u], []⟩ [(x, u)]) ∧
        (∀ (H : Hp) (a : Addr) (ns : List Int), ns.length ≤ n → H T = some (.tbl #[]) → Rf.LsR K H a (ns.map V.int) → sp [.ref a] H (fun v _ => v = .bl true) fun _ _ _ => False) ∧
        ∀ base : Heap, K.In base → base.Ns mainGlobals mg → LamX.TabB base mg c T → FnOk l.prog w K mg base (L2.CX l.prog w) k fa fd [x] sp) :
    PySem.W.WalkO q loose XP YP l.row.toRowW d [] (fun f vs => PySem.call f vs) := by
  refine Att.attach_callB hn hdf fun w s₀ s₁ mg mb fa o pm cd doc a vs ns G Y ho hd hcd hmg hobj hints hlen hbits hg => ?_
  rw [hname] at hmg
  obtain ⟨K, fd, c, T, sp, KX, ht, hT, hb, hsp, hF⟩ := F w mg fa _ Y G.T.g hmg
  obtain ⟨hc1, hc2⟩ := PySem.W.tab_of G.T KX hrec ht
  have one : ∀ p ∈ [(c, T)], p = (c, T) := fun p hp => by simpa using hp
  have lsr_of : ∀ {H : Hp}, SqL K H a (ns.map V.int) → Rf.LsR K H a (ns.map V.int) := fun {H} hS => by
    rcases hS with h | ⟨ob, its, m, h1, h2, h3, h4, h5, h6⟩
    · exact .inl h
    · have e := KX a ob h1
      rw [hobj] at e
      cases e
      cases h4
      exact .inr ⟨_, _, h1, h5, h6⟩
  refine LamX.law_callTs (cs := [(c, T)]) (sp := sp) KX G.T.g G.T.b G.T.builtins G.T.nolimit hg (fun p hp => by rw [one p hp]; exact hc2) (fun p hp => by rw [one p hp]; exact hT) (fun p hp => by rw [one p hp]; exact hc1) G.T.bmain hobj hints (Nat.le_trans hlen hn2) hr (fun base h1 h2 h3 => hF base h1 h2 (h3 (c, T) (by simp))) hb (fun H hH hS => hsp H a ns hlen (hH (c, T) (by simp)) (lsr_of hS)) fun H e s' h => ?_
  obtain ⟨_, _, _, _, _, _, _, _, _, _, _, _, z⟩ := h
  exact z
end L2
namespace Rf
open PySem PySem.Spec PyProof.Rows L2
theorem law_end {K : PySem.W.Frag} {h : Heap} {mg : Str → Option Value} {P : Program} {w : World} {st : Stmt} {fa : Addr} {k : Nat} {m : Fn} (KX : K.In h) (F : DefFact K mg "law" st) (hmg : mg "law" = some (.ref fa)) (hb : BindOk "law" ["_law_script"] st)
    (G : ∀ (base : Heap) (f : Addr) (fd : FuncData), FunD K "law" "law" (defArgs st) (defBody st) (defScope st) [] [] f fd → FnOk P w K mg base (L2.CX P w) k f fd ["_law_script"] (spOf K mg m))
    (Hlaw : ∀ ns : List Int, ns.length ≤ 63 → m [.list (ns.map PyData.int)] = .ok (.bool true)) :
    ∃ (K : PySem.W.Frag) (fd : FuncData) (sp : Sp), K.In h ∧ (∀ (s : Shared) (u : Value), BindsTo s fd ⟨[u], []⟩ [("_law_script", u)]) ∧
      (∀ (H : Hp) (a : Addr) (ns : List Int), ns.length ≤ 63 → LsR K H a (ns.map V.int) → sp [.ref a] H (fun v _ => v = .bl true) fun _ _ _ => False) ∧
      ∀ base : Heap, K.In base → base.Ns mainGlobals mg → FnOk P w K mg base (L2.CX P w) k fa fd ["_law_script"] sp := by
  obtain ⟨f, fd, hm, D⟩ := F.ex
  have e : f = fa := by
    rw [hmg] at hm
    exact (Value.ref.inj (Option.some.inj hm)).symm
  subst e
  refine ⟨K, fd, spOf K mg m, KX, fun s u => FunD.bindsA D hb s [u] rfl, fun H a ns hl hS => ?_, fun base _ _ => G base f fd D⟩
  refine ⟨H, [.list (ns.map PyData.int)], .refl H, .cons (.lst hS ?_) .nil, ?_⟩
  · have : ∀ l : List Int, RpAll K H (l.map V.int) (l.map PyData.int) := by
      intro l
      induction l with
      | nil => exact .nil
      | cons a l ih => exact .cons (.int a) ih
    exact this ns
  · rw [Hlaw ns hl]
    intro v G' H' _ r
    cases r
    rfl
/-- .. where the law makes lambdas -/
theorem law_endL {K : PySem.W.Frag} {h : Heap} {mg : Str → Option Value} {P : Program} {w : World} {st : Stmt} {fa : Addr} {k : Nat} {m : Fn} (KX : K.In h) (HN : h.Ns mainGlobals mg) (F : DefFact K mg "law" st) (hmg : mg "law" = some (.ref fa)) (hb : BindOk "law" ["_law_script"] st) (hl : lawTabB K = true)
    (G : ∀ (base : Heap) (f c T : Addr) (fd : FuncData), FunD K "law" "law" (defArgs st) (defBody st) (defScope st) [] [] f fd → fd.code = .ref c → LamX.TabB base mg c T → FnOk P w K mg base (L2.CX P w) k f fd ["_law_script"] (fun vs H Q E => LamX.TabS H T lamQ ∧ spOf K mg m vs H Q E))
    (Hlaw : ∀ ns : List Int, ns.length ≤ 63 → m [.list (ns.map PyData.int)] = .ok (.bool true)) :
    ∃ (K : PySem.W.Frag) (fd : FuncData) (c T : Addr) (sp : Sp), K.In h ∧ PySem.W.tabIn K "law" = some (c, T) ∧ K.lookup T = none ∧ (∀ (s : Shared) (u : Value), BindsTo s fd ⟨[u], []⟩ [("_law_script", u)]) ∧
      (∀ (H : Hp) (a : Addr) (ns : List Int), ns.length ≤ 63 → H T = some (.tbl #[]) → LsR K H a (ns.map V.int) → sp [.ref a] H (fun v _ => v = .bl true) fun _ _ _ => False) ∧
      ∀ base : Heap, K.In base → base.Ns mainGlobals mg → LamX.TabB base mg c T → FnOk P w K mg base (L2.CX P w) k fa fd ["_law_script"] sp := by
  obtain ⟨f, fd, hm, D⟩ := F.ex
  have e : f = fa := by
    rw [hmg] at hm
    exact (Value.ref.inj (Option.some.inj hm)).symm
  subst e
  unfold lawTabB at hl
  split at hl
  case h_2 => cases hl
  rename_i c T ht
  have hcode : fd.code = .ref c := by
    unfold PySem.W.tabIn at ht
    split at ht
    · rename_i f' hf
      have e1 := PySem.W.mg_of KX HN hf
      rw [hmg] at e1
      cases e1
      obtain ⟨oc, od, dV, kV, doc, pm, an, cdv, ct, osl, e2, lk, _⟩ := D.ex
      rw [lk] at ht
      simp only at ht
      split at ht
      · rename_i c' hc'
        split at ht
        · split at ht
          · cases ht; exact hc'
          · cases ht
        · cases ht
      · cases ht
    · cases ht
  refine ⟨K, fd, c, T, _, KX, ht, by simpa using hl, fun s u => FunD.bindsA D hb s [u] rfl, fun H a ns hl hT hS => ⟨LamX.TabS.nil hT, H, [.list (ns.map PyData.int)], .refl H, .cons (.lst hS ?_) .nil, ?_⟩, fun base _ _ TB => G base f c T fd D hcode TB⟩
  · have : ∀ l : List Int, RpAll K H (l.map V.int) (l.map PyData.int) := by
      intro l
      induction l with
      | nil => exact .nil
      | cons a l ih => exact .cons (.int a) ih
    exact this ns
  · rw [Hlaw ns hl]
    intro v G' H' _ r
    cases r
    rfl
end Rf
namespace Dw
open PySem PySem.W PySem.Calls PySem.Spec PyProof.Rows L2 Rf Dp
def top (i : Nat) : Stmt := PySem.Challenge.pw_drawways_k40_maps.main.body.getD i (.Pass ⟨0, 0, 0, 0⟩)
theorem c_divisor : chkD ["one", "other"] ["one", "other"] (top 10) b_divisor = true := by decide +kernel
theorem c_fraction : chkD ["upper", "lower", "by"] ["upper", "lower"] (top 11) b_fraction = true := by decide +kernel
theorem c_plus : chkD ["one", "other"] ["one", "other"] (top 12) b_plus = true := by decide +kernel
theorem c_minus : chkD ["one", "other"] ["one", "other"] (top 13) b_minus = true := by decide +kernel
theorem c_times : chkD ["one", "other"] ["one", "other"] (top 14) b_times = true := by decide +kernel
theorem c_over : chkD ["one", "other"] ["one", "other"] (top 15) b_over = true := by decide +kernel
theorem c_apart : chkD ["point", "other"] ["point", "other"] (top 16) b_apart = true := by decide +kernel
theorem c_led : chkD ["point", "by", "a", "b", "c", "d", "e", "f", "right", "up", "first"] ["point", "by"] (top 18) b_led = true := by decide +kernel
theorem c_mapped : chkD ["way", "by", "stroke", "point"] ["way", "by"] (top 19) b_mapped = true := by decide +kernel
theorem c_behind : chkD ["one", "other", "bare", "first", "second"] ["one", "other"] (top 20) b_behind = true := by decide +kernel
theorem c_spread : chkD ["by"] ["by"] (top 21) b_spread = true := by decide +kernel
theorem c_undone : chkD ["by", "whole", "a", "b", "c", "d", "e", "f", "first", "second", "back"] ["by"] (top 22) b_undone = true := by decide +kernel
theorem c_from_corner : chkD ["three", "begin", "first", "second"] ["three"] (top 23) b_from_corner = true := by decide +kernel
theorem c_map_from : chkD ["three", "others"] ["three", "others"] (top 24) b_map_from = true := by decide +kernel
theorem c__law_cell_at : chkD ["_law_script", "_law_k"] ["_law_script", "_law_k"] (top 26) b__law_cell_at = true := by decide +kernel
theorem c__law_mixed : chkD ["_law_script", "_law_k", "_law_drawn_here"] ["_law_script", "_law_k"] (top 27) b__law_mixed = true := by decide +kernel
theorem c__law_drawn : chkD ["_law_number_here", "_law_k", "_law_drawn_here"] ["_law_number_here", "_law_k"] (top 28) b__law_drawn = true := by decide +kernel
theorem c__law_fr : chkD ["_law_upper", "_law_lower", "_law_one", "_law_other"] ["_law_upper", "_law_lower"] (top 29) b__law_fr = true := by decide +kernel
theorem c__law_plus : chkD ["_law_one", "_law_other"] ["_law_one", "_law_other"] (top 30) b__law_plus = true := by decide +kernel
theorem c__law_times : chkD ["_law_one", "_law_other"] ["_law_one", "_law_other"] (top 31) b__law_times = true := by decide +kernel
theorem c__law_minus : chkD ["_law_one", "_law_other"] ["_law_one", "_law_other"] (top 32) b__law_minus = true := by decide +kernel
theorem c__law_add : chkD ["_law_point_here", "_law_other"] ["_law_point_here", "_law_other"] (top 33) b__law_add = true := by decide +kernel
theorem c__law_sub : chkD ["_law_point_here", "_law_other"] ["_law_point_here", "_law_other"] (top 34) b__law_sub = true := by decide +kernel
theorem c__law_scale : chkD ["_law_number_here", "_law_point_here"] ["_law_number_here", "_law_point_here"] (top 35) b__law_scale = true := by decide +kernel
theorem c__law_number : chkD ["_law_number_here", "_law_lower", "_law_wide"] ["_law_number_here"] (top 36) b__law_number = true := by decide +kernel
theorem c__law_point : chkD ["_law_number_here"] ["_law_number_here"] (top 37) b__law_point = true := by decide +kernel
theorem c__law_goal : chkD ["_law_number_here", "_law_pen", "_law_begin", "_law_kind", "_law_point_here"] ["_law_number_here", "_law_pen", "_law_begin"] (top 38) b__law_goal = true := by decide +kernel
theorem c__law_stroke : chkD ["_law_number_here", "_law_pen", "_law_begin", "_law_ahead", "_law_kind", "_law_goal_here", "_law_first", "_law_second"] ["_law_number_here", "_law_pen", "_law_begin", "_law_ahead"] (top 39) b__law_stroke = true := by decide +kernel
theorem c__law_way : chkD ["_law_number_here", "_law_most", "_law_way_here", "_law_pen", "_law_begin", "_law_k", "_law_drawn_here", "_law_stroke_here"] ["_law_number_here", "_law_most"] (top 40) b__law_way = true := by decide +kernel
theorem c__law_pens : chkD ["_law_way_here", "_law_found", "_law_begin", "_law_stroke_here"] ["_law_way_here"] (top 41) b__law_pens = true := by decide +kernel
theorem c__law_map : chkD ["_law_number_here", "_law_found", "_law_k"] ["_law_number_here"] (top 42) b__law_map = true := by decide +kernel
theorem c__law_led : chkD ["_law_point_here", "_law_by", "_law_right"] ["_law_point_here", "_law_by"] (top 43) b__law_led = true := by decide +kernel
theorem c__law_is_back : chkD ["_law_by", "_law_other", "_law_points", "_law_point_here"] ["_law_by", "_law_other", "_law_points"] (top 45) b__law_is_back = true := by decide +kernel
theorem c_law : chkD ["_law_script", "_law_one", "_law_other", "_law_way_here", "_law_points", "_law_k", "_law_ends", "_law_point_here", "_law_due", "_law_stroke_here", "_law_points_led", "_law_whole", "_law_got", "_law_three", "_law_first", "_law_second"] ["_law_script"] (top 46) b_law = true := by decide +kernel
abbrev dOf (x : Str) (i : Nat) : He.DefD := ⟨(x, none), x, x, defArgs (top i), defBody (top i), defScope (top i), [], []⟩
def fn : List He.DefD := [dOf "divisor" 10, dOf "fraction" 11, dOf "plus" 12, dOf "minus" 13, dOf "times" 14, dOf "over" 15, dOf "apart" 16, dOf "led" 18, dOf "mapped" 19, dOf "behind" 20, dOf "spread" 21, dOf "undone" 22, dOf "from_corner" 23, dOf "map_from" 24, dOf "_law_cell_at" 26, dOf "_law_mixed" 27, dOf "_law_drawn" 28, dOf "_law_fr" 29, dOf "_law_plus" 30, dOf "_law_times" 31, dOf "_law_minus" 32, dOf "_law_add" 33, dOf "_law_sub" 34, dOf "_law_scale" 35, dOf "_law_number" 36, dOf "_law_point" 37, dOf "_law_goal" 38, dOf "_law_stroke" 39, dOf "_law_way" 40, dOf "_law_pens" 41, dOf "_law_map" 42, dOf "_law_led" 43, dOf "_law_is_back" 45, dOf "law" 46, dOf "_law_told" 44]
def fa : List He.Fa := [.glo "divisor", .glo "fraction", .glo "plus", .glo "minus", .glo "times", .glo "over", .glo "apart", .glo "led", .glo "mapped", .glo "behind", .glo "spread", .glo "undone", .glo "from_corner", .glo "map_from", .glo "_law_cell_at", .glo "_law_mixed", .glo "_law_drawn", .glo "_law_fr", .glo "_law_plus", .glo "_law_times", .glo "_law_minus", .glo "_law_add", .glo "_law_sub", .glo "_law_scale", .glo "_law_number", .glo "_law_point", .glo "_law_goal", .glo "_law_stroke", .glo "_law_way", .glo "_law_pens", .glo "_law_map", .glo "_law_led", .glo "_law_is_back", .glo "law", .glo "_law_told", .free "abs", .free "tuple", .free "len", .free "range", .free "int", .free "list", .free "isinstance", .free "ValueError"]
def gs : List (Str × D) := [("NONE", g_NONE)]
def exs : List Str := ["NoMap"]
def exm : List (Str × Str × Bool) := []
def ck (K : PySem.W.Frag) : Bool := (gs.all fun q => gloOkB K q.1 q.2) && ((exs.all fun x => excFB K x) && ((exm.all fun q => exmFB K q.1 q.2.1 q.2.2) && (tldB K && lawTabB K)))
abbrev R : PySem.W.OpenRow := PySem.W.OpenLaw.row PySem.Challenge.rw_drawways_k40_maps
abbrev hk : PySem.W.Hook := hookR 4 fa fn ck
def ob (s : PySem.W.SharedT) : He.AlD × Bool := obR 4 fa fn ck (HandSHeadRun.getT s)
theorem ob_eq (s : PySem.W.SharedT) : ob s = hk.obs s.abs := obR_eq (HandSHeadRun.getT_eq s)
def loose0 : List Str := ["DrawError", "NoText", "NoNumber", "NoStroke", "NoMap", "NoPen", "NoDeed", "NONE", "divisor", "fraction", "plus", "minus", "times", "over", "apart", "led", "mapped", "behind", "spread", "undone"]
def loose1 : List Str := ["from_corner", "map_from", "_law_cell_at", "_law_mixed", "_law_drawn", "_law_fr", "_law_plus", "_law_times", "_law_minus", "_law_add", "_law_sub", "_law_scale", "_law_number", "_law_point", "_law_goal", "_law_stroke", "_law_way", "_law_pens", "_law_map", "_law_led"]
def loose2 : List Str := ["_law_told", "_law_is_back"]
def loose : List Str := loose0 ++ loose1 ++ loose2
theorem run (w : World) : HandSHeadRun.RunEq R (PySem.W.view R.prog [46]) hk ob 4000 loose w := by
  intro os
  kernel_rfl
section
variable {P : Program} {w : World} {K : PySem.W.Frag} {mg : Str → Option Value} {base : Heap}
def places : List Nat := [10, 11, 12, 13, 14, 15, 16, 18, 19, 20, 21, 22, 23, 24, 26, 27, 28, 29, 30, 31, 32, 33, 34, 35, 36, 37, 38, 39, 40, 41, 42, 43, 45, 46, 44]
def free : List Str := ["abs", "tuple", "len", "range", "int", "list", "isinstance", "ValueError"]
structure Facts (K : PySem.W.Frag) (mg : Str → Option Value) : Prop where
  dfs : ∀ (i : Nat) (d : He.DefD), fn[i]? = some d → DefFact K mg d.name (top (places.getD i 0))
  fre : ∀ (i : Nat) (x : Str), free[i]? = some x → mg x = none
  glo : ∀ (i : Nat) (q : Str × D), gs[i]? = some q → GloOk K mg q.1 q.2
  exc : ∀ (i : Nat) (x : Str), exs[i]? = some x → ExcF K mg x
  exm : ∀ (i : Nat) (q : Str × Str × Bool), exm[i]? = some q → ExmF K mg q.1 q.2.1 q.2.2
  tld : TldF K mg
theorem hy_divisor (F : Facts K mg) : HypSs (gamS P w K mg base 0 False) b_divisor := by
  have h0 : mg "abs" = none := F.fre 0 "abs" rfl
  simp only [b_divisor, HypSs, HypS, HypX, HypEs, HypE, HypO, HypI, true_and, and_true, and_self, biName]
  repeat' apply And.intro
  all_goals first | exact h0
theorem ok_divisor (F : Facts K mg) : GoodFn P w K mg base 1 "divisor" f_divisor :=
  good_def (F.dfs 0 (dOf "divisor" 10) rfl) (fun _ _ _ _ _ _ us hl => match us, hl with | [_, _], _ => rfl) c_divisor (hy_divisor F)
theorem hy_fraction (F : Facts K mg) : HypSs (gamS P w K mg base 1 False) b_fraction := by
  have h0 : GoodFn P w K mg base 1 "divisor" f_divisor := (ok_divisor F).mono (by decide)
  simp only [b_fraction, HypSs, HypS, HypX, HypEs, HypE, HypO, HypI, true_and, and_true, and_self, biName]
  repeat' apply And.intro
  all_goals first | exact h0
theorem ok_fraction (F : Facts K mg) : GoodFn P w K mg base 2 "fraction" f_fraction :=
  good_def (F.dfs 1 (dOf "fraction" 11) rfl) (fun _ _ _ _ _ _ us hl => match us, hl with | [_, _], _ => rfl) c_fraction (hy_fraction F)
theorem hy_plus (F : Facts K mg) : HypSs (gamS P w K mg base 2 False) b_plus := by
  have h0 : GoodFn P w K mg base 2 "fraction" f_fraction := (ok_fraction F).mono (by decide)
  simp only [b_plus, HypSs, HypS, HypX, HypEs, HypE, HypO, HypI, true_and, and_true, and_self, biName]
  repeat' apply And.intro
  all_goals first | exact h0
theorem ok_plus (F : Facts K mg) : GoodFn P w K mg base 3 "plus" f_plus :=
  good_def (F.dfs 2 (dOf "plus" 12) rfl) (fun _ _ _ _ _ _ us hl => match us, hl with | [_, _], _ => rfl) c_plus (hy_plus F)
theorem hy_minus (F : Facts K mg) : HypSs (gamS P w K mg base 2 False) b_minus := by
  have h0 : GoodFn P w K mg base 2 "fraction" f_fraction := (ok_fraction F).mono (by decide)
  simp only [b_minus, HypSs, HypS, HypX, HypEs, HypE, HypO, HypI, true_and, and_true, and_self, biName]
  repeat' apply And.intro
  all_goals first | exact h0
theorem ok_minus (F : Facts K mg) : GoodFn P w K mg base 3 "minus" f_minus :=
  good_def (F.dfs 3 (dOf "minus" 13) rfl) (fun _ _ _ _ _ _ us hl => match us, hl with | [_, _], _ => rfl) c_minus (hy_minus F)
theorem hy_times (F : Facts K mg) : HypSs (gamS P w K mg base 2 False) b_times := by
  have h0 : GoodFn P w K mg base 2 "fraction" f_fraction := (ok_fraction F).mono (by decide)
  simp only [b_times, HypSs, HypS, HypX, HypEs, HypE, HypO, HypI, true_and, and_true, and_self, biName]
  repeat' apply And.intro
  all_goals first | exact h0
theorem ok_times (F : Facts K mg) : GoodFn P w K mg base 3 "times" f_times :=
  good_def (F.dfs 4 (dOf "times" 14) rfl) (fun _ _ _ _ _ _ us hl => match us, hl with | [_, _], _ => rfl) c_times (hy_times F)
theorem hy_over (F : Facts K mg) : HypSs (gamS P w K mg base 2 False) b_over := by
  have h0 : GoodFn P w K mg base 2 "fraction" f_fraction := (ok_fraction F).mono (by decide)
  simp only [b_over, HypSs, HypS, HypX, HypEs, HypE, HypO, HypI, true_and, and_true, and_self, biName]
  repeat' apply And.intro
  all_goals first | exact h0
theorem ok_over (F : Facts K mg) : GoodFn P w K mg base 3 "over" f_over :=
  good_def (F.dfs 5 (dOf "over" 15) rfl) (fun _ _ _ _ _ _ us hl => match us, hl with | [_, _], _ => rfl) c_over (hy_over F)
theorem hy_apart (F : Facts K mg) : HypSs (gamS P w K mg base 3 False) b_apart := by
  have h0 : GoodFn P w K mg base 3 "minus" f_minus := (ok_minus F).mono (by decide)
  simp only [b_apart, HypSs, HypS, HypX, HypEs, HypE, HypO, HypI, true_and, and_true, and_self, biName]
  repeat' apply And.intro
  all_goals first | exact h0
theorem ok_apart (F : Facts K mg) : GoodFn P w K mg base 4 "apart" f_apart :=
  good_def (F.dfs 6 (dOf "apart" 16) rfl) (fun _ _ _ _ _ _ us hl => match us, hl with | [_, _], _ => rfl) c_apart (hy_apart F)
theorem hy_led (F : Facts K mg) : HypSs (gamS P w K mg base 3 False) b_led := by
  have h0 : GoodFn P w K mg base 3 "plus" f_plus := (ok_plus F).mono (by decide)
  have h1 : GoodFn P w K mg base 3 "times" f_times := (ok_times F).mono (by decide)
  simp only [b_led, HypSs, HypS, HypX, HypEs, HypE, HypO, HypI, true_and, and_true, and_self, biName]
  repeat' apply And.intro
  all_goals first | exact h0 | exact h1
theorem ok_led (F : Facts K mg) : GoodFn P w K mg base 4 "led" f_led :=
  good_def (F.dfs 7 (dOf "led" 18) rfl) (fun _ _ _ _ _ _ us hl => match us, hl with | [_, _], _ => rfl) c_led (hy_led F)
theorem hy_mapped (F : Facts K mg) : HypSs (gamS P w K mg base 4 False) b_mapped := by
  have h0 : GoodFn P w K mg base 4 "led" f_led := (ok_led F).mono (by decide)
  have h1 : mg "tuple" = none := F.fre 1 "tuple" rfl
  simp only [b_mapped, HypSs, HypS, HypX, HypEs, HypE, HypO, HypI, true_and, and_true, and_self, biName]
  repeat' apply And.intro
  all_goals first | exact h0 | exact h1
theorem ok_mapped (F : Facts K mg) : GoodFn P w K mg base 5 "mapped" f_mapped :=
  good_def (F.dfs 8 (dOf "mapped" 19) rfl) (fun _ _ _ _ _ _ us hl => match us, hl with | [_, _], _ => rfl) c_mapped (hy_mapped F)
theorem hy_behind (F : Facts K mg) : HypSs (gamS P w K mg base 4 False) b_behind := by
  have h0 : GoodFn P w K mg base 4 "led" f_led := (ok_led F).mono (by decide)
  have h1 : GloOk K mg "NONE" g_NONE := F.glo 0 ("NONE", g_NONE) rfl
  simp only [b_behind, HypSs, HypS, HypX, HypEs, HypE, HypO, HypI, true_and, and_true, and_self, biName]
  repeat' apply And.intro
  all_goals first | exact h0 | exact h1
theorem ok_behind (F : Facts K mg) : GoodFn P w K mg base 5 "behind" f_behind :=
  good_def (F.dfs 9 (dOf "behind" 20) rfl) (fun _ _ _ _ _ _ us hl => match us, hl with | [_, _], _ => rfl) c_behind (hy_behind F)
theorem hy_spread (F : Facts K mg) : HypSs (gamS P w K mg base 3 False) b_spread := by
  have h0 : GoodFn P w K mg base 3 "minus" f_minus := (ok_minus F).mono (by decide)
  have h1 : GoodFn P w K mg base 3 "times" f_times := (ok_times F).mono (by decide)
  simp only [b_spread, HypSs, HypS, HypX, HypEs, HypE, HypO, HypI, true_and, and_true, and_self, biName]
  repeat' apply And.intro
  all_goals first | exact h0 | exact h1
theorem ok_spread (F : Facts K mg) : GoodFn P w K mg base 4 "spread" f_spread :=
  good_def (F.dfs 10 (dOf "spread" 21) rfl) (fun _ _ _ _ _ _ us hl => match us, hl with | [_], _ => rfl) c_spread (hy_spread F)
theorem hy_undone (F : Facts K mg) : HypSs (gamS P w K mg base 4 False) b_undone := by
  have h0 : GoodFn P w K mg base 4 "spread" f_spread := (ok_spread F).mono (by decide)
  have h1 : GoodFn P w K mg base 4 "minus" f_minus := (ok_minus F).mono (by decide)
  have h2 : GoodFn P w K mg base 4 "over" f_over := (ok_over F).mono (by decide)
  have h3 : GoodFn P w K mg base 4 "led" f_led := (ok_led F).mono (by decide)
  have h4 : GloOk K mg "NONE" g_NONE := F.glo 0 ("NONE", g_NONE) rfl
  have h5 : ExcF K mg "NoMap" := F.exc 0 "NoMap" rfl
  simp only [b_undone, HypSs, HypS, HypX, HypEs, HypE, HypO, HypI, true_and, and_true, and_self, biName]
  repeat' apply And.intro
  all_goals first | exact h0 | exact h1 | exact h2 | exact h3 | exact h4 | exact h5
theorem ok_undone (F : Facts K mg) : GoodFn P w K mg base 5 "undone" f_undone :=
  good_def (F.dfs 11 (dOf "undone" 22) rfl) (fun _ _ _ _ _ _ us hl => match us, hl with | [_], _ => rfl) c_undone (hy_undone F)
theorem hy_from_corner (F : Facts K mg) : HypSs (gamS P w K mg base 4 False) b_from_corner := by
  have h0 : GoodFn P w K mg base 4 "apart" f_apart := (ok_apart F).mono (by decide)
  simp only [b_from_corner, HypSs, HypS, HypX, HypEs, HypE, HypO, HypI, true_and, and_true, and_self, biName]
  repeat' apply And.intro
  all_goals first | exact h0
theorem ok_from_corner (F : Facts K mg) : GoodFn P w K mg base 5 "from_corner" f_from_corner :=
  good_def (F.dfs 12 (dOf "from_corner" 23) rfl) (fun _ _ _ _ _ _ us hl => match us, hl with | [_], _ => rfl) c_from_corner (hy_from_corner F)
theorem hy_map_from (F : Facts K mg) : HypSs (gamS P w K mg base 5 False) b_map_from := by
  have h0 : GoodFn P w K mg base 5 "behind" f_behind := (ok_behind F).mono (by decide)
  have h1 : GoodFn P w K mg base 5 "from_corner" f_from_corner := (ok_from_corner F).mono (by decide)
  have h2 : GoodFn P w K mg base 5 "undone" f_undone := (ok_undone F).mono (by decide)
  simp only [b_map_from, HypSs, HypS, HypX, HypEs, HypE, HypO, HypI, true_and, and_true, and_self, biName]
  repeat' apply And.intro
  all_goals first | exact h0 | exact h1 | exact h2
theorem ok_map_from (F : Facts K mg) : GoodFn P w K mg base 6 "map_from" f_map_from :=
  good_def (F.dfs 13 (dOf "map_from" 24) rfl) (fun _ _ _ _ _ _ us hl => match us, hl with | [_, _], _ => rfl) c_map_from (hy_map_from F)
theorem hy__law_cell_at (F : Facts K mg) : HypSs (gamS P w K mg base 0 False) b__law_cell_at := by
  have h0 : mg "len" = none := F.fre 2 "len" rfl
  simp only [b__law_cell_at, HypSs, HypS, HypX, HypEs, HypE, HypO, HypI, true_and, and_true, and_self, biName]
  repeat' apply And.intro
  all_goals first | exact h0
theorem ok__law_cell_at (F : Facts K mg) : GoodFn P w K mg base 1 "_law_cell_at" f__law_cell_at :=
  good_def (F.dfs 14 (dOf "_law_cell_at" 26) rfl) (fun _ _ _ _ _ _ us hl => match us, hl with | [_, _], _ => rfl) c__law_cell_at (hy__law_cell_at F)
theorem hy__law_mixed (F : Facts K mg) : HypSs (gamS P w K mg base 1 False) b__law_mixed := by
  have h0 : GoodFn P w K mg base 1 "_law_cell_at" f__law_cell_at := (ok__law_cell_at F).mono (by decide)
  simp only [b__law_mixed, HypSs, HypS, HypX, HypEs, HypE, HypO, HypI, true_and, and_true, and_self, biName]
  repeat' apply And.intro
  all_goals first | exact h0
theorem ok__law_mixed (F : Facts K mg) : GoodFn P w K mg base 2 "_law_mixed" f__law_mixed :=
  good_def (F.dfs 15 (dOf "_law_mixed" 27) rfl) (fun _ _ _ _ _ _ us hl => match us, hl with | [_, _], _ => rfl) c__law_mixed (hy__law_mixed F)
theorem hy__law_drawn (F : Facts K mg) : HypSs (gamS P w K mg base 0 False) b__law_drawn := by
  simp only [b__law_drawn, HypSs, HypS, HypX, HypEs, HypE, HypO, HypI, true_and, and_true, and_self, biName]
theorem ok__law_drawn (F : Facts K mg) : GoodFn P w K mg base 1 "_law_drawn" f__law_drawn :=
  good_def (F.dfs 16 (dOf "_law_drawn" 28) rfl) (fun _ _ _ _ _ _ us hl => match us, hl with | [_, _], _ => rfl) c__law_drawn (hy__law_drawn F)
theorem hy__law_fr (F : Facts K mg) : HypSs (gamS P w K mg base 0 False) b__law_fr := by
  have h0 : mg "abs" = none := F.fre 0 "abs" rfl
  simp only [b__law_fr, HypSs, HypS, HypX, HypEs, HypE, HypO, HypI, true_and, and_true, and_self, biName]
  repeat' apply And.intro
  all_goals first | exact h0
theorem ok__law_fr (F : Facts K mg) : GoodFn P w K mg base 1 "_law_fr" f__law_fr :=
  good_def (F.dfs 17 (dOf "_law_fr" 29) rfl) (fun _ _ _ _ _ _ us hl => match us, hl with | [_, _], _ => rfl) c__law_fr (hy__law_fr F)
theorem hy__law_plus (F : Facts K mg) : HypSs (gamS P w K mg base 1 False) b__law_plus := by
  have h0 : GoodFn P w K mg base 1 "_law_fr" f__law_fr := (ok__law_fr F).mono (by decide)
  simp only [b__law_plus, HypSs, HypS, HypX, HypEs, HypE, HypO, HypI, true_and, and_true, and_self, biName]
  repeat' apply And.intro
  all_goals first | exact h0
theorem ok__law_plus (F : Facts K mg) : GoodFn P w K mg base 2 "_law_plus" f__law_plus :=
  good_def (F.dfs 18 (dOf "_law_plus" 30) rfl) (fun _ _ _ _ _ _ us hl => match us, hl with | [_, _], _ => rfl) c__law_plus (hy__law_plus F)
theorem hy__law_times (F : Facts K mg) : HypSs (gamS P w K mg base 1 False) b__law_times := by
  have h0 : GoodFn P w K mg base 1 "_law_fr" f__law_fr := (ok__law_fr F).mono (by decide)
  simp only [b__law_times, HypSs, HypS, HypX, HypEs, HypE, HypO, HypI, true_and, and_true, and_self, biName]
  repeat' apply And.intro
  all_goals first | exact h0
theorem ok__law_times (F : Facts K mg) : GoodFn P w K mg base 2 "_law_times" f__law_times :=
  good_def (F.dfs 19 (dOf "_law_times" 31) rfl) (fun _ _ _ _ _ _ us hl => match us, hl with | [_, _], _ => rfl) c__law_times (hy__law_times F)
theorem hy__law_minus (F : Facts K mg) : HypSs (gamS P w K mg base 2 False) b__law_minus := by
  have h0 : GoodFn P w K mg base 2 "_law_plus" f__law_plus := (ok__law_plus F).mono (by decide)
  simp only [b__law_minus, HypSs, HypS, HypX, HypEs, HypE, HypO, HypI, true_and, and_true, and_self, biName]
  repeat' apply And.intro
  all_goals first | exact h0
theorem ok__law_minus (F : Facts K mg) : GoodFn P w K mg base 3 "_law_minus" f__law_minus :=
  good_def (F.dfs 20 (dOf "_law_minus" 32) rfl) (fun _ _ _ _ _ _ us hl => match us, hl with | [_, _], _ => rfl) c__law_minus (hy__law_minus F)
theorem hy__law_add (F : Facts K mg) : HypSs (gamS P w K mg base 2 False) b__law_add := by
  have h0 : GoodFn P w K mg base 2 "_law_plus" f__law_plus := (ok__law_plus F).mono (by decide)
  simp only [b__law_add, HypSs, HypS, HypX, HypEs, HypE, HypO, HypI, true_and, and_true, and_self, biName]
  repeat' apply And.intro
  all_goals first | exact h0
theorem ok__law_add (F : Facts K mg) : GoodFn P w K mg base 3 "_law_add" f__law_add :=
  good_def (F.dfs 21 (dOf "_law_add" 33) rfl) (fun _ _ _ _ _ _ us hl => match us, hl with | [_, _], _ => rfl) c__law_add (hy__law_add F)
theorem hy__law_sub (F : Facts K mg) : HypSs (gamS P w K mg base 3 False) b__law_sub := by
  have h0 : GoodFn P w K mg base 3 "_law_minus" f__law_minus := (ok__law_minus F).mono (by decide)
  simp only [b__law_sub, HypSs, HypS, HypX, HypEs, HypE, HypO, HypI, true_and, and_true, and_self, biName]
  repeat' apply And.intro
  all_goals first | exact h0
theorem ok__law_sub (F : Facts K mg) : GoodFn P w K mg base 4 "_law_sub" f__law_sub :=
  good_def (F.dfs 22 (dOf "_law_sub" 34) rfl) (fun _ _ _ _ _ _ us hl => match us, hl with | [_, _], _ => rfl) c__law_sub (hy__law_sub F)
theorem hy__law_scale (F : Facts K mg) : HypSs (gamS P w K mg base 2 False) b__law_scale := by
  have h0 : GoodFn P w K mg base 2 "_law_times" f__law_times := (ok__law_times F).mono (by decide)
  simp only [b__law_scale, HypSs, HypS, HypX, HypEs, HypE, HypO, HypI, true_and, and_true, and_self, biName]
  repeat' apply And.intro
  all_goals first | exact h0
theorem ok__law_scale (F : Facts K mg) : GoodFn P w K mg base 3 "_law_scale" f__law_scale :=
  good_def (F.dfs 23 (dOf "_law_scale" 35) rfl) (fun _ _ _ _ _ _ us hl => match us, hl with | [_, _], _ => rfl) c__law_scale (hy__law_scale F)
theorem hy__law_number (F : Facts K mg) : HypSs (gamS P w K mg base 1 False) b__law_number := by
  have h0 : GoodFn P w K mg base 1 "_law_fr" f__law_fr := (ok__law_fr F).mono (by decide)
  simp only [b__law_number, HypSs, HypS, HypX, HypEs, HypE, HypO, HypI, true_and, and_true, and_self, biName]
  repeat' apply And.intro
  all_goals first | exact h0
theorem ok__law_number (F : Facts K mg) : GoodFn P w K mg base 2 "_law_number" f__law_number :=
  good_def (F.dfs 24 (dOf "_law_number" 36) rfl) (fun _ _ _ _ _ _ us hl => match us, hl with | [_], _ => rfl) c__law_number (hy__law_number F)
theorem hy__law_point (F : Facts K mg) : HypSs (gamS P w K mg base 2 False) b__law_point := by
  have h0 : GoodFn P w K mg base 2 "_law_number" f__law_number := (ok__law_number F).mono (by decide)
  have h1 : GoodFn P w K mg base 2 "_law_drawn" f__law_drawn := (ok__law_drawn F).mono (by decide)
  simp only [b__law_point, HypSs, HypS, HypX, HypEs, HypE, HypO, HypI, true_and, and_true, and_self, biName]
  repeat' apply And.intro
  all_goals first | exact h0 | exact h1
theorem ok__law_point (F : Facts K mg) : GoodFn P w K mg base 3 "_law_point" f__law_point :=
  good_def (F.dfs 25 (dOf "_law_point" 37) rfl) (fun _ _ _ _ _ _ us hl => match us, hl with | [_], _ => rfl) c__law_point (hy__law_point F)
theorem hy__law_goal (F : Facts K mg) : HypSs (gamS P w K mg base 3 False) b__law_goal := by
  have h0 : GoodFn P w K mg base 3 "_law_point" f__law_point := (ok__law_point F).mono (by decide)
  simp only [b__law_goal, HypSs, HypS, HypX, HypEs, HypE, HypO, HypI, true_and, and_true, and_self, biName]
  repeat' apply And.intro
  all_goals first | exact h0
theorem ok__law_goal (F : Facts K mg) : GoodFn P w K mg base 4 "_law_goal" f__law_goal :=
  good_def (F.dfs 26 (dOf "_law_goal" 38) rfl) (fun _ _ _ _ _ _ us hl => match us, hl with | [_, _, _], _ => rfl) c__law_goal (hy__law_goal F)
theorem hy__law_stroke (F : Facts K mg) : HypSs (gamS P w K mg base 4 False) b__law_stroke := by
  have h0 : GoodFn P w K mg base 4 "_law_goal" f__law_goal := (ok__law_goal F).mono (by decide)
  have h1 : GoodFn P w K mg base 4 "_law_point" f__law_point := (ok__law_point F).mono (by decide)
  have h2 : GoodFn P w K mg base 4 "_law_sub" f__law_sub := (ok__law_sub F).mono (by decide)
  have h3 : GoodFn P w K mg base 4 "_law_scale" f__law_scale := (ok__law_scale F).mono (by decide)
  simp only [b__law_stroke, HypSs, HypS, HypX, HypEs, HypE, HypO, HypI, true_and, and_true, and_self, biName]
  repeat' apply And.intro
  all_goals first | exact h0 | exact h1 | exact h2 | exact h3
theorem ok__law_stroke (F : Facts K mg) : GoodFn P w K mg base 5 "_law_stroke" f__law_stroke :=
  good_def (F.dfs 27 (dOf "_law_stroke" 39) rfl) (fun _ _ _ _ _ _ us hl => match us, hl with | [_, _, _, _], _ => rfl) c__law_stroke (hy__law_stroke F)
theorem hy__law_way (F : Facts K mg) : HypSs (gamS P w K mg base 5 False) b__law_way := by
  have h0 : GoodFn P w K mg base 5 "_law_drawn" f__law_drawn := (ok__law_drawn F).mono (by decide)
  have h1 : GoodFn P w K mg base 5 "_law_point" f__law_point := (ok__law_point F).mono (by decide)
  have h2 : GoodFn P w K mg base 5 "_law_stroke" f__law_stroke := (ok__law_stroke F).mono (by decide)
  have h3 : mg "range" = none := F.fre 3 "range" rfl
  simp only [b__law_way, HypSs, HypS, HypX, HypEs, HypE, HypO, HypI, true_and, and_true, and_self, biName]
  repeat' apply And.intro
  all_goals first | exact h0 | exact h1 | exact h2 | exact h3
theorem ok__law_way (F : Facts K mg) : GoodFn P w K mg base 6 "_law_way" f__law_way :=
  good_def (F.dfs 28 (dOf "_law_way" 40) rfl) (fun _ _ _ _ _ _ us hl => match us, hl with | [_, _], _ => rfl) c__law_way (hy__law_way F)
theorem hy__law_pens (F : Facts K mg) : HypSs (gamS P w K mg base 0 False) b__law_pens := by
  have h0 : mg "len" = none := F.fre 2 "len" rfl
  have h1 : mg "int" = none := F.fre 4 "int" rfl
  simp only [b__law_pens, HypSs, HypS, HypX, HypEs, HypE, HypO, HypI, true_and, and_true, and_self, biName]
  repeat' apply And.intro
  all_goals first | exact h0 | exact h1
theorem ok__law_pens (F : Facts K mg) : GoodFn P w K mg base 1 "_law_pens" f__law_pens :=
  good_def (F.dfs 29 (dOf "_law_pens" 41) rfl) (fun _ _ _ _ _ _ us hl => match us, hl with | [_], _ => rfl) c__law_pens (hy__law_pens F)
theorem hy__law_map (F : Facts K mg) : HypSs (gamS P w K mg base 2 False) b__law_map := by
  have h0 : GoodFn P w K mg base 2 "_law_number" f__law_number := (ok__law_number F).mono (by decide)
  have h1 : GoodFn P w K mg base 2 "_law_drawn" f__law_drawn := (ok__law_drawn F).mono (by decide)
  have h2 : mg "range" = none := F.fre 3 "range" rfl
  simp only [b__law_map, HypSs, HypS, HypX, HypEs, HypE, HypO, HypI, true_and, and_true, and_self, biName]
  repeat' apply And.intro
  all_goals first | exact h0 | exact h1 | exact h2
theorem ok__law_map (F : Facts K mg) : GoodFn P w K mg base 3 "_law_map" f__law_map :=
  good_def (F.dfs 30 (dOf "_law_map" 42) rfl) (fun _ _ _ _ _ _ us hl => match us, hl with | [_], _ => rfl) c__law_map (hy__law_map F)
theorem hy__law_led (F : Facts K mg) : HypSs (gamS P w K mg base 2 False) b__law_led := by
  have h0 : GoodFn P w K mg base 2 "_law_plus" f__law_plus := (ok__law_plus F).mono (by decide)
  have h1 : GoodFn P w K mg base 2 "_law_times" f__law_times := (ok__law_times F).mono (by decide)
  simp only [b__law_led, HypSs, HypS, HypX, HypEs, HypE, HypO, HypI, true_and, and_true, and_self, biName]
  repeat' apply And.intro
  all_goals first | exact h0 | exact h1
theorem ok__law_led (F : Facts K mg) : GoodFn P w K mg base 3 "_law_led" f__law_led :=
  good_def (F.dfs 31 (dOf "_law_led" 43) rfl) (fun _ _ _ _ _ _ us hl => match us, hl with | [_, _], _ => rfl) c__law_led (hy__law_led F)
theorem hy__law_is_back (F : Facts K mg) : HypSs (gamS P w K mg base 3 False) b__law_is_back := by
  have h0 : GoodFn P w K mg base 3 "_law_led" f__law_led := (ok__law_led F).mono (by decide)
  simp only [b__law_is_back, HypSs, HypS, HypX, HypEs, HypE, HypO, HypI, true_and, and_true, and_self, biName]
  repeat' apply And.intro
  all_goals first | exact h0
theorem ok__law_is_back (F : Facts K mg) : GoodFn P w K mg base 4 "_law_is_back" f__law_is_back :=
  good_def (F.dfs 32 (dOf "_law_is_back" 45) rfl) (fun _ _ _ _ _ _ us hl => match us, hl with | [_, _, _], _ => rfl) c__law_is_back (hy__law_is_back F)
theorem hy_law (F : Facts K mg) : HypSs (gamS P w K mg base 8 True) b_law := by
  have h0 : GoodFn P w K mg base 8 "_law_map" f__law_map := (ok__law_map F).mono (by decide)
  have h1 : GoodFn P w K mg base 8 "_law_mixed" f__law_mixed := (ok__law_mixed F).mono (by decide)
  have h2 : GoodFn P w K mg base 8 "_law_way" f__law_way := (ok__law_way F).mono (by decide)
  have h3 : GoodFn P w K mg base 8 "_law_point" f__law_point := (ok__law_point F).mono (by decide)
  have h4 : GoodFn P w K mg base 8 "led" f_led := (ok_led F).mono (by decide)
  have h5 : GoodFn P w K mg base 8 "_law_led" f__law_led := (ok__law_led F).mono (by decide)
  have h6 : GoodFn P w K mg base 8 "behind" f_behind := (ok_behind F).mono (by decide)
  have h7 : GoodFn P w K mg base 8 "_law_minus" f__law_minus := (ok__law_minus F).mono (by decide)
  have h8 : GoodFn P w K mg base 8 "_law_times" f__law_times := (ok__law_times F).mono (by decide)
  have h9 : GoodFn P w K mg base 8 "mapped" f_mapped := (ok_mapped F).mono (by decide)
  have h10 : GoodFn P w K mg base 8 "spread" f_spread := (ok_spread F).mono (by decide)
  have h11 : GoodFn P w K mg base 8 "_law_is_back" f__law_is_back := (ok__law_is_back F).mono (by decide)
  have h12 : GoodFn P w K mg base 8 "_law_add" f__law_add := (ok__law_add F).mono (by decide)
  have h13 : GoodFn P w K mg base 8 "_law_scale" f__law_scale := (ok__law_scale F).mono (by decide)
  have h14 : GoodFn P w K mg base 8 "_law_sub" f__law_sub := (ok__law_sub F).mono (by decide)
  have h15 : mg "tuple" = none := F.fre 1 "tuple" rfl
  have h16 : mg "range" = none := F.fre 3 "range" rfl
  have h17 : mg "list" = none := F.fre 5 "list" rfl
  have hT : (gamS P w K mg base 8 True).lam := True.intro
  have hc0 : GoodFn P w K mg base 6 "undone" f_undone := (ok_undone F).mono (by decide)
  have hc1 : GoodFn P w K mg base 6 "map_from" f_map_from := (ok_map_from F).mono (by decide)
  have hl0 : HypE (gam P w K mg base 6) l_law_1 := by
    simp only [l_law_1, HypEs, HypE, HypO, HypI, true_and, and_true, and_self, biName]
    repeat' apply And.intro
    all_goals first | exact hc0 | exact hc1 | exact h0 | exact h1 | exact h2 | exact h3 | exact h4 | exact h5 | exact h6 | exact h7 | exact h8 | exact h9 | exact h10 | exact h11 | exact h12 | exact h13 | exact h14 | exact h15 | exact h16 | exact h17
  have hl1 : HypE (gam P w K mg base 6) l_law_2 := by
    simp only [l_law_2, HypEs, HypE, HypO, HypI, true_and, and_true, and_self, biName]
    repeat' apply And.intro
    all_goals first | exact hc0 | exact hc1 | exact h0 | exact h1 | exact h2 | exact h3 | exact h4 | exact h5 | exact h6 | exact h7 | exact h8 | exact h9 | exact h10 | exact h11 | exact h12 | exact h13 | exact h14 | exact h15 | exact h16 | exact h17
  simp only [b_law, q_law_1, q_law_2, HypSs, HypS, HypX, HypEs, HypE, HypO, HypI, true_and, and_true, and_self, biName]
  repeat' (first | exact hT | exact hl0 | exact hl1 | apply And.intro)
  all_goals first | exact h0 | exact h1 | exact h2 | exact h3 | exact h4 | exact h5 | exact h6 | exact h7 | exact h8 | exact h9 | exact h10 | exact h11 | exact h12 | exact h13 | exact h14 | exact h15 | exact h16 | exact h17
end
theorem fa_glo : ∀ (i : Nat) (d : He.DefD), fn[i]? = some d → fa[i]? = some (.glo d.name) ∧ d = dOf d.name (places.getD i 0) := by
  intro i d h
  have hi : i < 35 := by
    have := List.getElem?_eq_some_iff.mp h
    exact this.1
  iterate 35 (rcases i with _ | i; · cases h; exact ⟨rfl, rfl⟩)
  omega
theorem fa_free : ∀ (i : Nat) (x : Str), free[i]? = some x → fa[35 + i]? = some (.free x) := by
  intro i x h
  have hi : i < 8 := by
    have := List.getElem?_eq_some_iff.mp h
    exact this.1
  iterate 8 (rcases i with _ | i; · cases h; rfl)
  omega
theorem facts_of {K : PySem.W.Frag} {h : Heap} {mg : Str → Option Value} (X : K.In h) (G : h.Ns mainGlobals mg) (c : He.SaysD fa fn K) (cg : ck K = true) : Facts K mg := by
  unfold ck at cg
  simp only [Bool.and_eq_true] at cg
  obtain ⟨cg, c2, c3, c4⟩ := cg
  have ff : ∀ (i : Nat) (x : Str), free[i]? = some x → mg x = none := fun i x h => He.free_ok X G (c.fact (35 + i) (fa_free i x h))
  refine ⟨fun i d h => ?_, ff, fun i q h => ?_, fun i x h => ?_, fun i q h => ?_, tldF_of X G c4.1 (ff 6 "isinstance" rfl) (ff 7 "ValueError" rfl)⟩
  · obtain ⟨fd, F⟩ := c.def_ i h
    have e1 : (fa[i]? = some (.glo d.name)) ∧ d = dOf d.name (places.getD i 0) := fa_glo i d h
    have g := He.glo_ok X G (c.fact i e1.1)
    have e2 := e1.2
    refine ⟨He.ga K d.name, fd, g, ?_⟩
    rw [e2] at F
    exact F
  · rw [List.all_eq_true] at cg
    exact gloOk_of X G (cg q (List.mem_of_getElem? h))
  · rw [List.all_eq_true] at c2
    exact excF_of X G (c2 x (List.mem_of_getElem? h))
  · rw [List.all_eq_true] at c3
    exact exmF_of X G (c3 q (List.mem_of_getElem? h))
theorem recL : (recsOf (view (OpenLaw.row PySem.Challenge.rw_drawways_k40_maps).prog [46])).find? (fun e => e.name == ("law" : PySem.Str)) = some (HandSHeadRun.topDef (OpenLaw.row PySem.Challenge.rw_drawways_k40_maps).prog 46) := by kernel_rfl
theorem end_ (H : ∀ ns : List Int, ns.length ≤ 63 → f_law [.list (ns.map PyData.int)] = .ok (.bool true)) : (PySem.Challenge.rw_drawways_k40_maps).Holds := by
  w_on; o_law
  refine HandSHeadRun.head_any (r := OpenLaw.row PySem.Challenge.rw_drawways_k40_maps) (q := view (OpenLaw.row PySem.Challenge.rw_drawways_k40_maps).prog [46]) (H := hk) (ob := ob) (M := 4000) (loose := loose) (d := HandSHeadRun.topDef (OpenLaw.row PySem.Challenge.rw_drawways_k40_maps).prog 46) (kwd := []) ob_eq
    (by kernel_rfl) (fun s => by kernel_rfl) run (by kernel_rfl) (by kernel_rfl) (by kernel_rfl) (by rfl) (by first | assumption | decide +kernel) (by decide +kernel) ⟨rfl, rfl, rfl, rfl, rfl, by decide +kernel⟩ ?hw ?hc
  case hw => w_witness2
  case hc =>
    refine L2.walk_ofXL (l := PySem.Challenge.rw_drawways_k40_maps) (n := 63) (k := 9) (x := "_law_script") rfl (by decide) (by kernel_rfl) ⟨rfl, by decide, by decide⟩ (by kernel_rfl) recL ?F
    intro w mg fa h Y G hmg
    obtain ⟨K, KX, c, cg⟩ := Y
    have F : Facts K mg := facts_of KX G c cg
    unfold ck at cg
    simp only [Bool.and_eq_true] at cg
    refine law_endL KX G (F.dfs 33 (dOf "law" 46) rfl) hmg (fun _ _ _ _ _ _ us hl => match us, hl with | [_], _ => rfl) cg.2.2.2.2 (fun base f c T fd D hcode TB => fn_defL D c_law (hy_law F) (by decide) F.tld (F.dfs 34 (dOf "_law_told" 44) rfl) (fun _ _ _ _ _ _ us hl => match us, hl with | [_], _ => rfl) (by decide +kernel) (by decide +kernel) hcode TB) H
end Dw
theorem PySem.Challenge.cw_drawways_k40_maps_holds : PySem.Challenge.rw_drawways_k40_maps.Holds := by
  exact Dw.end_ fun ns hn => Dw.law_ok ns
