import PyProof.Rows.All
import Wide.All
import OpenK.AllK
import Wide.FinOn
import HandS.ForMost
import HandS.Wide
import HandS.ForExc
import HandS.More
import HandS.TupAny
import HandS.TupMul
import HandS.TupLe
import HandS.Style
import HandS.IsInst
import HandS.StrMore
import HandS.CallSlots
import HandS.Defaults
import HandS.Iter
import HandS.Zip
import HandS.HeadEnd
import KE.GoesMore
import HandS.HeadHook3
import HandS.Sort
import KE.KRevSl
import HandS.ExcInit
import HandS.ExcIs
import HandS.ExcField
import KE.KExcSuper
import KE.KExcIs
import HandS.Head0
import HandS.Head1
import HandS.Head2
import HandS.Text
import PySem.Challenge.RW_touchroad_k53_one_row_runs_beside_plain
set_option Elab.async false
set_option linter.all false
/-! MPDef: a small language over data (PyData), its values, its state, its run. -/
namespace MP
open PySem
/-- a value of a local: data, or a mutable object of the state -/
inductive W where
  | val (d : PyData) | ref (i : Nat) | exn (c : Nat) (d : PyData)
/-- a mutable object: a list; a dict with text or int keys -/
inductive Ob where
  | lst (xs : List PyData) | dct (kvs : List (L2.Key × PyData))
abbrev Stk := List Ob
abbrev Ve := List (Option W)
/-- what a call hands back: data, or a list of its own -/
inductive Rv where
  | val (d : PyData) | new (xs : List PyData)
/-- how a run ends -/
inductive Res (α : Type) where
  | ok (a : α) (s : Stk) | exc (c : Nat) (d : PyData) (s : Stk) | stuck
def Res.bind {α β : Type} (r : Res α) (f : α → Stk → Res β) : Res β := match r with
  | .ok a s => f a s
  | .exc c d s => .exc c d s
  | .stuck => .stuck
/-- what is there, or stuck -/
def Res.of {α : Type} (s : Stk) (o : Option α) : Res α := match o with
  | some a => .ok a s
  | none => .stuck
inductive Op where
  | add | sub | mul | fdiv | mod | pow | and | or | xor | shl | shr
inductive Cp where
  | eq | ne | lt | le | gt | ge | in_ | notIn | isV (d : PyData) | isNotV (d : PyData)
inductive Ty where
  | int | bool | str | tuple | list
  deriving DecidableEq
/-- built-ins of values -/
inductive Bi where
  | len | int | abs | all | any | sum | tuple | repr | isa (t : Ty) | min2 | max2
/-- methods of texts and lists -/
inductive Me where
  | upper
mutual
inductive Tg where
  | name (i : Nat) | tup (is : List Nat) | nest (ts : Tgs)
inductive Tgs where
  | nil | cons (t : Tg) (ts : Tgs)
end
mutual
inductive E where
  | var (i : Nat)
  | cst (d : PyData)
  | bin (o : Op) (a b : E)
  | neg (a : E)
  | cmp (o : Cp) (a b : E)
  | cmp2 (o p : Cp) (a b c : E)
  | not (t : T)
  | and (a b : E)
  | or (a b : E)
  | ite (t : T) (a b : E)
  | tup (es : Es)
  | frz (n : N)
  | thw (n : N)
  | dnew (kvs : Ks)
  | sub (a i : E)
  | slc (a : E) (lo hi : Oe)
  | call (f : Nat) (es : Es)
  | callK (f : Nat) (es ks : Es) (perm : List Nat)
  | bi (b : Bi) (es : Es)
  | meth (m : Me) (a : E) (es : Es)
  | dget (a k : E)
  | din (a k : E)
  | dnin (a k : E)
  | kget (kvs : List (Str × PyData)) (k : E)
  | kin (kvs : List (Str × PyData)) (k : E)
  | knin (kvs : List (Str × PyData)) (k : E)
  | rev (a : E)
  | inR (neg : Bool) (a n : E)
  | xval (a : E)
  | xis (a : E) (cs : List Nat)
inductive Es where
  | nil | cons (e : E) (es : Es)
/-- a dict's written entries -/
inductive Ks where
  | nil | cons (k v : E) (ks : Ks)
inductive Oe where
  | none | some (e : E)
/-- tests -/
inductive T where
  | val (e : E)
  | not (t : T)
  | and (a b : T)
  | or (a b : T)
/-- lists that are made -/
inductive N where
  | lst (es : Es)
  | comp (own : List Nat) (g : Tg) (i : I) (c : Tt) (e : E)
  | list (e : E)
  | slc (a : E) (lo hi : Oe)
  | add (a b : E)
  | call (f : Nat) (es : Es)
/-- a comprehension's tests -/
inductive Tt where
  | none | some (t : T)
/-- what is walked -/
inductive I where
  | seq (e : E)
  | range1 (a : E)
  | range2 (a b : E)
  | zip (a b : E)
end
mutual
inductive S where
  | expr (e : E)
  | asg (g : Tg) (e : E)
  | par (is : List Nat) (es : Es)
  | app (a e : E)
  | put (o i v : E)
  | dput (o i v : E)
  | ifs (t : T) (a b : Ss)
  | forS (g : Tg) (i : I) (b : Ss)
  | whileS (t : T) (b : Ss)
  | ret (e : E)
  | retN (n : N)
  | brk | ct | pass
  | raise (c : Nat) (e : E)
  | tryS (b : Ss) (i : Nat) (h : Ss)
inductive Ss where
  | nil | cons (s : S) (ss : Ss)
end
/-- a def: its parameters, its slots, its body -/
structure Fd where
  ar : Nat
  slots : Nat
  body : Ss
/-! ### operations on data -/
/-- what a value shows of data now -/
def W.view (s : Stk) : W → Option PyData
  | .val d => some d
  | .ref i => match s[i]? with
    | some (.lst xs) => some (.list xs)
    | _ => none
  | .exn _ _ => none
def mulOk (i j : Int) : Bool := (decide (-(2 ^ 64) < i) && decide (i < 2 ^ 64)) || (decide (-(2 ^ 64) < j) && decide (j < 2 ^ 64)) || decide (i.natAbs.log2 + j.natAbs.log2 < 1000000)
def powOk (i j : Int) : Bool := decide (0 ≤ j) && decide (j ≤ 1000000) && decide (i.natAbs < 2 ^ 64)
def lenOk (n : Nat) : Bool := decide (n ≤ sizeLine)
/-- some a, under a condition -/
def iff' {α : Type} (c : Bool) (a : α) : Option α := match c with
  | true => some a
  | false => none
def bop : Op → PyData → PyData → Option PyData
  | .add, .int i, .int j => some (.int (i + j))
  | .add, .str x, .str y => iff' (lenOk (x.length + y.length)) (.str (x ++ y))
  | .add, .tuple xs, .tuple ys => iff' (lenOk (xs.length + ys.length)) (.tuple (xs ++ ys))
  | .sub, .int i, .int j => some (.int (i - j))
  | .mul, .int i, .int j => iff' (mulOk i j) (.int (i * j))
  | .mul, .tuple xs, .int k => iff' (!xs.isEmpty && decide (2 ≤ k) && decide (k ≤ 1000) && decide (xs.length ≤ 1000)) (.tuple (List.replicate k.toNat xs).flatten)
  | .fdiv, .int i, .int j => iff' (decide (0 < j) && decide (j < 1073741824)) (.int (i / j))
  | .mod, .int i, .int j => iff' (decide (0 < j)) (.int (i % j))
  | .pow, .int i, .int j => iff' (powOk i j) (.int (i ^ j.toNat))
  | .and, .int i, .int j => some (.int (Builtin.bitAnd i j))
  | .or, .int i, .int j => some (.int (Builtin.bitOr i j))
  | .xor, .int i, .int j => some (.int (Builtin.bitXor i j))
  | .shl, .int i, .int j => iff' (powOk i j) (.int (i * 2 ^ j.toNat))
  | .shr, .int i, .int j => iff' (decide (0 ≤ j)) (.int (i / 2 ^ j.toNat))
  | _, _, _ => none
/-- how deep a comparison of both goes -/
def isDict : PyData → Bool
  | .dict _ => true
  | _ => false
def depthOk (d e : PyData) : Bool := decide (min d.depth e.depth ≤ 60) && !isDict d && !isDict e
def isB (c : PyData) (d : PyData) : Option Bool := match c, d with
  | .none, .none => some true
  | .none, _ => some false
  | .bool b, .bool k => some (decide (k = b))
  | _, _ => none
def cop : Cp → PyData → PyData → Option Bool
  | .eq, d, e => iff' (depthOk d e) (PyData.eqv d e)
  | .ne, d, e => iff' (depthOk d e) (!PyData.eqv d e)
  | .lt, .int i, .int j => some (decide (i < j))
  | .le, .int i, .int j => some (decide (i ≤ j))
  | .gt, .int i, .int j => some (decide (j < i))
  | .ge, .int i, .int j => some (decide (j ≤ i))
  | .in_, d, .tuple xs => iff' (depthOk d (.tuple xs)) (xs.any fun y => PyData.eqv y d)
  | .in_, d, .list xs => iff' (depthOk d (.list xs)) (xs.any fun y => PyData.eqv y d)
  | .notIn, d, .tuple xs => iff' (depthOk d (.tuple xs)) (!xs.any fun y => PyData.eqv y d)
  | .notIn, d, .list xs => iff' (depthOk d (.list xs)) (!xs.any fun y => PyData.eqv y d)
  | .isV c, d, _ => isB c d
  | .isNotV c, d, _ => (isB c d).map not
  | _, _, _ => none
def truth : PyData → Option Bool
  | .none => some false
  | .bool b => some b
  | .int i => some (i != 0)
  | .str x => some ((x.length : Int) != 0)
  | .list xs => some (!xs.isEmpty)
  | .tuple xs => some (!xs.isEmpty)
  | .dict _ => none
def isTy : Ty → PyData → Option Bool
  | .int, d => match d with
    | .int _ => some true
    | .bool _ => some true
    | .dict _ => none
    | _ => some false
  | .bool, d => match d with
    | .bool _ => some true
    | .dict _ => none
    | _ => some false
  | .str, d => match d with
    | .str _ => some true
    | .dict _ => none
    | _ => some false
  | .tuple, d => match d with
    | .tuple _ => some true
    | .dict _ => none
    | _ => some false
  | .list, d => match d with
    | .list _ => some true
    | .dict _ => none
    | _ => some false
def bools : List PyData → Option (List Bool)
  | [] => some []
  | .bool b :: r => (bools r).map (b :: ·)
  | _ :: _ => none
def intsD : List PyData → Option (List Int)
  | [] => some []
  | .int b :: r => (intsD r).map (b :: ·)
  | _ :: _ => none
/-- the items of a sequence -/
def items : PyData → Option (List PyData)
  | .list xs => some xs
  | .tuple xs => some xs
  | _ => none
/-- the items that a walk yields -/
def walked : PyData → Option (List PyData)
  | .list xs => some xs
  | .tuple xs => some xs
  | .str z => some (z.cps.toList.map fun c => .str ⟨#[c]⟩)
  | _ => none
def cutL {α : Type} (xs : List α) (lo hi : Option Int) : List α := (xs.drop (HT.sIx xs.length 0 lo)).take (HT.sIx xs.length xs.length hi - HT.sIx xs.length 0 lo)
def slice : PyData → Option Int → Option Int → Option PyData
  | .list xs, lo, hi => some (.list (cutL xs lo hi))
  | .tuple xs, lo, hi => some (.tuple (cutL xs lo hi))
  | .str z, lo, hi => some (.str (L2.cutS z lo hi))
  | _, _, _ => none
def subD : PyData → PyData → Option PyData
  | .list xs, .int i => L2.atI xs i
  | .tuple xs, .int i => L2.atI xs i
  | .str z, .int i => (L2.atI z.cps.toList i).map fun c => .str ⟨#[c]⟩
  | _, _ => none
/-- a text as texts lie -/
def strFit (x : Str) : Bool := PyData.strOk x && decide (x.length ≤ sizeLine)
def reprOk (d : PyData) : Bool := d.showable && !d.hasDict && decide (d.depth ≤ 60) && strFit d.shown
def bfn : Bi → List PyData → Option PyData
  | .len, [.list xs] => some (.int xs.length)
  | .len, [.tuple xs] => some (.int xs.length)
  | .len, [.str z] => some (.int z.length)
  | .int, [.int i] => some (.int i)
  | .int, [.bool b] => some (.int (if b then 1 else 0))
  | .abs, [.int i] => some (.int (if i < 0 then -i else i))
  | .all, [.list xs] => (bools xs).map fun bs => .bool (bs.all id)
  | .any, [.list xs] => (bools xs).map fun bs => .bool (bs.any id)
  | .sum, [.list xs] => (intsD xs).map fun ns => .int ns.sum
  | .tuple, [.list xs] => some (.tuple xs)
  | .tuple, [.tuple xs] => some (.tuple xs)
  | .repr, [d] => iff' (reprOk d) (.str d.shown)
  | .isa t, [d] => (isTy t d).map .bool
  | .min2, [.int i, .int j] => some (.int (if j < i then j else i))
  | .max2, [.int i, .int j] => some (.int (if j > i then j else i))
  | _, _ => none
def mef : Me → PyData → List PyData → Option PyData
  | .upper, .str z, [] => iff' (decide (z.length ≤ 5592405) && strFit (Txt.upper z)) (.str (Txt.upper z))
  | _, _, _ => none
/-- a table's entry, its keys texts -/
def dlookS (kvs : List (PyData × PyData)) (z : Str) : Option PyData := (kvs.find? fun p => match p.1 with
  | .str x => decide (x = z)
  | _ => false).map (·.2)
/-- a dict's entry; a dict with an entry put -/
def dlook (kvs : List (L2.Key × PyData)) (k : L2.Key) : Option PyData := (kvs.find? fun kv => decide (kv.1 = k)).map (·.2)
def dputK (kvs : List (L2.Key × PyData)) (k : L2.Key) (d : PyData) : List (L2.Key × PyData) := if kvs.any (fun kv => decide (kv.1 = k)) then kvs.map (fun kv => if kv.1 = k then (kv.1, d) else kv) else kvs ++ [(k, d)]
def mergeD (kvs : List (L2.Key × PyData)) : List (L2.Key × PyData) := kvs.foldl (fun acc kv => dputK acc kv.1 kv.2) []
/-- views of values -/
def views (s : Stk) : List W → Option (List PyData)
  | [] => some []
  | w :: ws => match w.view s, views s ws with
    | some d, some ds => some (d :: ds)
    | _, _ => none
def keyOf : PyData → Option L2.Key
  | .int i => some (.inl i)
  | .str x => some (.inr x)
  | _ => none
/-- how written values come to the parameters: the i-th parameter is the (perm i)-th written value -/
def pick {α : Type} (perm : List Nat) (xs : List α) : List α := perm.filterMap fun i => xs[i]?
/-! ### the run -/
abbrev Callf := Nat → List W → Stk → Res Rv
/-- how a statement ends -/
inductive Out where
  | nx (env : Ve) | rt (w : W) | rtN (xs : List PyData) | brk (env : Ve) | ct (env : Ve)
mutual
def bindTg : Tg → PyData → Ve → Option Ve
  | .name i, d, env => some (env.set i (some (.val d)))
  | .tup is, .tuple ds, env => if is.length = ds.length then some ((is.zip ds).foldl (fun e p => e.set p.1 (some (.val p.2))) env) else none
  | .nest ts, .tuple ds, env => bindTgs ts ds env
  | _, _, _ => none
def bindTgs : Tgs → List PyData → Ve → Option Ve
  | .nil, [], env => some env
  | .cons t ts, d :: ds, env => match bindTg t d env with
    | some e => bindTgs ts ds e
    | none => none
  | _, _, _ => none
end
def wipeE (env : Ve) : List Nat → Ve
  | [] => env
  | v :: vs => (wipeE env vs).set v none
/-- a comprehension over items -/
def compL (f : PyData → Stk → Res (Option PyData)) : List PyData → Stk → Res (List PyData)
  | [], s => .ok [] s
  | d :: ds, s => match f d s with
    | .ok o s1 => (compL f ds s1).bind fun r s2 => .ok (match o with | some y => y :: r | none => r) s2
    | _ => .stuck
/-- a for over items -/
def forL (f : PyData → Ve → Stk → Res Out) : List PyData → Ve → Stk → Res Out
  | [], env, s => .ok (.nx env) s
  | d :: ds, env, s => (f d env s).bind fun o s1 => match o with
    | .nx e => forL f ds e s1
    | .ct e => forL f ds e s1
    | .brk e => .ok (.nx e) s1
    | .rt w => .ok (.rt w) s1
    | .rtN xs => .ok (.rtN xs) s1
/-- a while, by its fuel -/
def whileL (t : Ve → Stk → Res Bool) (b : Ve → Stk → Res Out) : Nat → Ve → Stk → Res Out
  | 0, _, _ => .stuck
  | n + 1, env, s => (t env s).bind fun c s1 => match c with
    | false => .ok (.nx env) s1
    | true => (b env s1).bind fun o s2 => match o with
      | .nx e => whileL t b n e s2
      | .ct e => whileL t b n e s2
      | .brk e => .ok (.nx e) s2
      | .rt w => .ok (.rt w) s2
      | .rtN xs => .ok (.rtN xs) s2
def zipD : List PyData → List PyData → List PyData
  | x :: xs, y :: ys => .tuple [x, y] :: zipD xs ys
  | _, _ => []
def rangeD (lo : Int) : Nat → List PyData
  | 0 => []
  | n + 1 => .int lo :: rangeD (lo + 1) n
def rngOk (i : Int) : Bool := decide (-(2 ^ 62) ≤ i) && decide (i < 2 ^ 62)
def putL (xs : List PyData) (i : Int) (d : PyData) : Option (List PyData) := (L2.ixN xs.length i).map fun j => xs.set j d
/-- all values are data -/
def vals : List W → Option (List PyData)
  | [] => some []
  | .val d :: ws => match isDict d with
    | true => none
    | false => (vals ws).map (d :: ·)
  | .ref _ :: _ => none
  | .exn _ _ :: _ => none
section
variable (C : Callf)
mutual
def evE : E → Ve → Stk → Res W
  | .var i, env, s => match env[i]? with
    | some (some w) => .ok w s
    | _ => .stuck
  | .cst d, _, s => .ok (.val d) s
  | .bin o a b, env, s => (evE a env s).bind fun x s1 => (evE b env s1).bind fun y s2 => match x.view s2, y.view s2 with
    | some d, some e => (Res.of s2 (bop o d e)).bind fun r s3 => .ok (.val r) s3
    | _, _ => .stuck
  | .neg a, env, s => (evE a env s).bind fun x s1 => match x with
    | .val (.int i) => .ok (.val (.int (-i))) s1
    | _ => .stuck
  | .cmp o a b, env, s => (evE a env s).bind fun x s1 => (evE b env s1).bind fun y s2 => match x.view s2, y.view s2 with
    | some d, some e => (Res.of s2 (cop o d e)).bind fun r s3 => .ok (.val (.bool r)) s3
    | _, _ => .stuck
  | .cmp2 o p a b c, env, s => (evE a env s).bind fun x s1 => (evE b env s1).bind fun y s2 => match x.view s2, y.view s2 with
    | some d, some e => (Res.of s2 (cop o d e)).bind fun r s3 => match r with
      | false => .ok (.val (.bool false)) s3
      | true => (evE c env s3).bind fun z s4 => match y.view s4, z.view s4 with
        | some e', some g => (Res.of s4 (cop p e' g)).bind fun r s5 => .ok (.val (.bool r)) s5
        | _, _ => .stuck
    | _, _ => .stuck
  | .not t, env, s => (evT t env s).bind fun b s1 => .ok (.val (.bool (!b))) s1
  | .and a b, env, s => (evE a env s).bind fun x s1 => match x with
    | .val (.bool false) => .ok (.val (.bool false)) s1
    | .val (.bool true) => evE b env s1
    | _ => .stuck
  | .or a b, env, s => (evE a env s).bind fun x s1 => match x with
    | .val (.bool true) => .ok (.val (.bool true)) s1
    | .val (.bool false) => evE b env s1
    | _ => .stuck
  | .ite t a b, env, s => (evT t env s).bind fun c s1 => match c with
    | true => evE a env s1
    | false => evE b env s1
  | .tup es, env, s => (evEs es env s).bind fun ws s1 => match vals ws with
    | some ds => .ok (.val (.tuple ds)) s1
    | none => .stuck
  | .frz n, env, s => (evN n env s).bind fun xs s1 => .ok (.val (.list xs)) s1
  | .thw n, env, s => (evN n env s).bind fun xs s1 => .ok (.ref s1.length) (s1 ++ [.lst xs])
  | .dnew ks, env, s => (evKs ks env s).bind fun kvs s1 => .ok (.ref s1.length) (s1 ++ [.dct (mergeD kvs)])
  | .sub a i, env, s => (evE a env s).bind fun x s1 => (evE i env s1).bind fun y s2 => match x.view s2, y.view s2 with
    | some d, some e => (Res.of s2 (subD d e)).bind fun r s3 => .ok (.val r) s3
    | _, _ => .stuck
  | .slc a lo hi, env, s => (evE a env s).bind fun x s1 => (evO lo env s1).bind fun l s2 => (evO hi env s2).bind fun h s3 => match x with
    | .val d => (Res.of s3 (slice d l h)).bind fun r s4 => .ok (.val r) s4
    | _ => .stuck
  | .call f es, env, s => (evEs es env s).bind fun ws s1 => (C f ws s1).bind fun r s2 => match r with
    | .val d => .ok (.val d) s2
    | .new xs => .ok (.val (.list xs)) s2
  | .callK f es ks perm, env, s => (evEs es env s).bind fun ws s1 => (evEs ks env s1).bind fun zs s2 => (C f (pick perm (ws ++ zs)) s2).bind fun r s3 => match r with
    | .val d => .ok (.val d) s3
    | .new xs => .ok (.val (.list xs)) s3
  | .bi b es, env, s => (evEs es env s).bind fun ws s1 => match views s1 ws with
    | some ds => (Res.of s1 (bfn b ds)).bind fun r s2 => .ok (.val r) s2
    | none => .stuck
  | .meth m a es, env, s => (evE a env s).bind fun x s1 => (evEs es env s1).bind fun ws s2 => match x.view s2, views s2 ws with
    | some d, some ds => (Res.of s2 (mef m d ds)).bind fun r s3 => .ok (.val r) s3
    | _, _ => .stuck
  | .dget a k, env, s => (evE a env s).bind fun x s1 => (evE k env s1).bind fun y s2 => match x, y with
    | .ref i, .val kd => match s2[i]?, keyOf kd with
      | some (.dct kvs), some key => match dlook kvs key with
        | some d => .ok (.val d) s2
        | none => .stuck
      | _, _ => .stuck
    | _, _ => .stuck
  | .din a k, env, s => (evE k env s).bind fun y s1 => (evE a env s1).bind fun x s2 => match x, y with
    | .ref i, .val kd => match s2[i]?, keyOf kd with
      | some (.dct kvs), some key => .ok (.val (.bool (dlook kvs key).isSome)) s2
      | _, _ => .stuck
    | _, _ => .stuck
  | .dnin a k, env, s => (evE k env s).bind fun y s1 => (evE a env s1).bind fun x s2 => match x, y with
    | .ref i, .val kd => match s2[i]?, keyOf kd with
      | some (.dct kvs), some key => .ok (.val (.bool (!(dlook kvs key).isSome))) s2
      | _, _ => .stuck
    | _, _ => .stuck
  | .kget kvs k, env, s => (evE k env s).bind fun y s1 => match y with
    | .val (.str z) => match kvs.lookup z with
      | some d => .ok (.val d) s1
      | none => .stuck
    | _ => .stuck
  | .kin kvs k, env, s => (evE k env s).bind fun y s1 => match y with
    | .val (.str z) => .ok (.val (.bool (kvs.lookup z).isSome)) s1
    | _ => .stuck
  | .knin kvs k, env, s => (evE k env s).bind fun y s1 => match y with
    | .val (.str z) => .ok (.val (.bool (!(kvs.lookup z).isSome))) s1
    | _ => .stuck
  | .rev a, env, s => (evE a env s).bind fun x s1 => match x with
    | .val (.tuple xs) => .ok (.val (.tuple xs.reverse)) s1
    | _ => .stuck
  | .inR neg a n, env, s => (evE a env s).bind fun x s1 => (evE n env s1).bind fun y s2 => match x, y with
    | .val (.int i), .val (.int j) => .ok (.val (.bool (neg != decide (0 ≤ i ∧ i < j)))) s2
    | _, _ => .stuck
  | .xval a, env, s => (evE a env s).bind fun x s1 => match x with
    | .exn _ d => .ok (.val d) s1
    | _ => .stuck
  | .xis a cs, env, s => (evE a env s).bind fun x s1 => match x with
    | .exn c _ => .ok (.val (.bool (cs.contains c))) s1
    | _ => .stuck
def evEs : Es → Ve → Stk → Res (List W)
  | .nil, _, s => .ok [] s
  | .cons e es, env, s => (evE e env s).bind fun w s1 => (evEs es env s1).bind fun ws s2 => .ok (w :: ws) s2
def evKs : Ks → Ve → Stk → Res (List (L2.Key × PyData))
  | .nil, _, s => .ok [] s
  | .cons k v ks, env, s => (evE k env s).bind fun x s1 => (evE v env s1).bind fun y s2 => match x, y with
    | .val kd, .val d => match keyOf kd, isDict d with
      | some key, false => (evKs ks env s2).bind fun r s3 => .ok ((key, d) :: r) s3
      | _, _ => .stuck
    | _, _ => .stuck
def evO : Oe → Ve → Stk → Res (Option Int)
  | .none, _, s => .ok none s
  | .some e, env, s => (evE e env s).bind fun x s1 => match x with
    | .val (.int i) => .ok (some i) s1
    | _ => .stuck
def evT : T → Ve → Stk → Res Bool
  | .val e, env, s => (evE e env s).bind fun x s1 => match x.view s1 with
    | some d => Res.of s1 (truth d)
    | none => .stuck
  | .not t, env, s => (evT t env s).bind fun b s1 => .ok (!b) s1
  | .and a b, env, s => (evT a env s).bind fun c s1 => match c with
    | true => evT b env s1
    | false => .ok false s1
  | .or a b, env, s => (evT a env s).bind fun c s1 => match c with
    | true => .ok true s1
    | false => evT b env s1
def evN : N → Ve → Stk → Res (List PyData)
  | .lst es, env, s => (evEs es env s).bind fun ws s1 => Res.of s1 (vals ws)
  | .comp own g i c e, env, s => (evI i env s).bind fun ds s1 => (Res.of s1 (iff' (lenOk ds.length) ds)).bind fun ds s1 => compL (fun d s2 => match bindTg g d (wipeE env own) with
    | some env' => (evTt c env' s2).bind fun b s3 => match b with
      | true => (evE e env' s3).bind fun w s4 => match w with
        | .val y => (Res.of s4 (iff' (!isDict y) y)).bind fun z s5 => .ok (some z) s5
        | _ => .stuck
      | false => .ok none s3
    | none => .stuck) ds s1
  | .list e, env, s => (evE e env s).bind fun x s1 => match x.view s1 with
    | some d => Res.of s1 (items d)
    | none => .stuck
  | .slc a lo hi, env, s => (evE a env s).bind fun x s1 => (evO lo env s1).bind fun l s2 => (evO hi env s2).bind fun h s3 => match x.view s3 with
    | some (.list xs) => .ok (cutL xs l h) s3
    | _ => .stuck
  | .add a b, env, s => (evE a env s).bind fun x s1 => (evE b env s1).bind fun y s2 => match x.view s2, y.view s2 with
    | some (.list xs), some (.list ys) => Res.of s2 (iff' (lenOk (xs.length + ys.length)) (xs ++ ys))
    | _, _ => .stuck
  | .call f es, env, s => (evEs es env s).bind fun ws s1 => (C f ws s1).bind fun r s2 => match r with
    | .new xs => .ok xs s2
    | .val _ => .stuck
def evTt : Tt → Ve → Stk → Res Bool
  | .none, _, s => .ok true s
  | .some t, env, s => evT t env s
def evI : I → Ve → Stk → Res (List PyData)
  | .seq e, env, s => (evE e env s).bind fun x s1 => match x with
    | .val d => Res.of s1 (walked d)
    | _ => .stuck
  | .range1 a, env, s => (evE a env s).bind fun x s1 => match x with
    | .val (.int j) => Res.of s1 (iff' (rngOk j) (rangeD 0 j.toNat))
    | _ => .stuck
  | .range2 a b, env, s => (evE a env s).bind fun x s1 => (evE b env s1).bind fun y s2 => match x, y with
    | .val (.int i), .val (.int j) => Res.of s2 (iff' (rngOk i && rngOk j) (rangeD i (j - i).toNat))
    | _, _ => .stuck
  | .zip a b, env, s => (evE a env s).bind fun x s1 => (evE b env s1).bind fun y s2 => match x, y with
    | .val d, .val e => match walked d, walked e with
      | some xs, some ys => .ok (zipD xs ys) s2
      | _, _ => .stuck
    | _, _ => .stuck
end
/-- turns that a while may take -/
def fuel : Nat := 2 ^ 40
def setAll (env : Ve) : List Nat → List W → Ve
  | i :: is, w :: ws => setAll (env.set i (some w)) is ws
  | _, _ => env
/-- the errors in hand are let go -/
def noX : Option W → Option W
  | some (.exn _ _) => none
  | o => o
def noExn (env : Ve) : Ve := env.map noX
mutual
def evS : S → Ve → Stk → Res Out
  | .expr e, env, s => (evE C e env s).bind fun _ s1 => .ok (.nx env) s1
  | .asg g e, env, s => (evE C e env s).bind fun x s1 => match g, x with
    | .name i, w => .ok (.nx (env.set i (some w))) s1
    | .tup is, .val d => (Res.of s1 (bindTg (.tup is) d env)).bind fun env' s2 => .ok (.nx env') s2
    | .tup _, .ref _ => .stuck
    | .tup _, .exn _ _ => .stuck
    | .nest ts, .val d => (Res.of s1 (bindTg (.nest ts) d env)).bind fun env' s2 => .ok (.nx env') s2
    | .nest _, .ref _ => .stuck
    | .nest _, .exn _ _ => .stuck
  | .par is es, env, s => (evEs C es env s).bind fun ws s1 => if is.length = ws.length then .ok (.nx (setAll env is ws)) s1 else .stuck
  | .app a e, env, s => (evE C a env s).bind fun x s1 => match x with
    | .ref i => match s1[i]? with
      | some (.lst _) => (evE C e env s1).bind fun y s2 => match y, s2[i]? with
        | .val d, some (.lst xs) => (Res.of s2 (iff' (decide (xs.length < sizeLine) && !isDict d) (Ob.lst (xs ++ [d])))).bind fun ob s3 => .ok (.nx env) (s3.set i ob)
        | _, _ => .stuck
      | _ => .stuck
    | .val _ => .stuck
    | .exn _ _ => .stuck
  | .put o i v, env, s => (evE C v env s).bind fun z s1 => (evE C o env s1).bind fun x s2 => (evE C i env s2).bind fun y s3 => match x, y, z with
    | .ref k, .val (.int j), .val d => match s3[k]?, isDict d with
      | some (.lst xs), false => (Res.of s3 (putL xs j d)).bind fun ys s4 => .ok (.nx env) (s4.set k (.lst ys))
      | _, _ => .stuck
    | _, _, _ => .stuck
  | .dput o i v, env, s => (evE C v env s).bind fun z s1 => (evE C o env s1).bind fun x s2 => (evE C i env s2).bind fun y s3 => match x, y, z with
    | .ref k, .val kd, .val d => match s3[k]?, keyOf kd, isDict d with
      | some (.dct kvs), some key, false => (Res.of s3 (iff' (decide (kvs.length < sizeLine)) (Ob.dct (dputK kvs key d)))).bind fun ob s4 => .ok (.nx env) (s4.set k ob)
      | _, _, _ => .stuck
    | _, _, _ => .stuck
  | .ifs t a b, env, s => (evT C t env s).bind fun c s1 => match c with
    | true => evSs a env s1
    | false => evSs b env s1
  | .forS g i b, env, s => (evI C i env s).bind fun ds s1 => forL (fun d e s2 => match bindTg g d e with
    | some e' => evSs b e' s2
    | none => .stuck) ds env s1
  | .whileS t b, env, s => whileL (fun e s1 => evT C t e s1) (fun e s1 => evSs b e s1) fuel env s
  | .ret e, env, s => (evE C e env s).bind fun w s1 => .ok (.rt w) s1
  | .retN n, env, s => (evN C n env s).bind fun xs s1 => .ok (.rtN xs) s1
  | .brk, env, s => .ok (.brk env) s
  | .ct, env, s => .ok (.ct env) s
  | .pass, env, s => .ok (.nx env) s
  | .raise c e, env, s => (evE C e env s).bind fun x s1 => match x with
    | .val d => match isDict d with
      | false => .exc c d s1
      | true => .stuck
    | _ => .stuck
  | .tryS b i h, env, s => match evSs b env s with
    | .ok o s1 => match o with
      | .brk _ => .stuck
      | .ct _ => .stuck
      | o => .ok o s1
    | .exc c d s1 => match evSs h (env.set i (some (.exn c d))) s1 with
      | .ok o s2 => match o with
        | .nx e => .ok (.nx (noExn (e.set i none))) s2
        | .brk e => .ok (.brk (noExn (e.set i none))) s2
        | .ct e => .ok (.ct (noExn (e.set i none))) s2
        | .rt (.val d) => .ok (.rt (.val d)) s2
        | .rt (.ref j) => .ok (.rt (.ref j)) s2
        | .rt (.exn _ _) => .stuck
        | .rtN xs => .ok (.rtN xs) s2
      | _ => .stuck
    | .stuck => .stuck
def evSs : Ss → Ve → Stk → Res Out
  | .nil, env, s => .ok (.nx env) s
  | .cons st ss, env, s => (evS st env s).bind fun o s1 => match o with
    | .nx e => evSs ss e s1
    | .rt w => .ok (.rt w) s1
    | .rtN xs => .ok (.rtN xs) s1
    | .brk e => .ok (.brk e) s1
    | .ct e => .ok (.ct e) s1
end
/-- a def's run -/
def runFd (fd : Fd) (args : List W) (s : Stk) : Res Rv := if args.length = fd.ar then
  match evSs C fd.body (args.map some ++ List.replicate (fd.slots - fd.ar) none) s with
    | .ok o s1 => match o with
      | .nx _ => .ok (.val .none) (s1.take s.length)
      | .rt (.val d) => .ok (.val d) (s1.take s.length)
      | .rt (.ref i) => if s.length ≤ i then match s1[i]? with
        | some (.lst xs) => .ok (.new xs) (s1.take s.length)
        | _ => .stuck
        else .stuck
      | .rt (.exn _ _) => .stuck
      | .rtN xs => .ok (.new xs) (s1.take s.length)
      | .brk _ => .stuck
      | .ct _ => .stuck
    | .exc c d s1 => .exc c d (s1.take s.length)
    | .stuck => .stuck
  else .stuck
end
/-- the calls of a program, so many deep -/
def callAt (P : List Fd) : Nat → Callf
  | 0, _, _, _ => .stuck
  | n + 1, f, args, s => match P[f]? with
    | some fd => runFd (callAt P n) fd args s
    | none => .stuck
end MP
/-! MPSimp: how a run is reckoned. -/
namespace MP
open PySem
section
variable {α β : Type} {a : α} {f : α → Stk → Res β} {s : Stk} {c : Nat} {d e : PyData} {C : Callf} {env : Ve}
@[simp] theorem bind_ok : (Res.ok a s).bind f = f a s := (rfl)
@[simp] theorem bind_exc : (Res.exc c d s : Res α).bind f = .exc c d s := (rfl)
@[simp] theorem bind_stuck : (Res.stuck : Res α).bind f = .stuck := (rfl)
@[simp] theorem of_some : Res.of s (some a) = .ok a s := (rfl)
@[simp] theorem of_none : (Res.of s (none : Option α)) = .stuck := (rfl)
@[simp] theorem iff_true : iff' true a = some a := (rfl)
@[simp] theorem iff_false : iff' false a = none := (rfl)
@[simp] theorem view_val : W.view s (.val d) = some d := (rfl)
theorem view_ref {i : Nat} : W.view s (.ref i) = match s[i]? with
    | some (.lst xs) => some (.list xs)
    | _ => none := (rfl)
@[simp] theorem views_nil : views s [] = some [] := (rfl)
@[simp] theorem views_cons {w : W} {ws : List W} : views s (w :: ws) = match w.view s, views s ws with
    | some d, some ds => some (d :: ds)
    | _, _ => none := (rfl)
@[simp] theorem vals_nil : vals [] = some [] := (rfl)
@[simp] theorem vals_val {ws : List W} : vals (.val d :: ws) = match isDict d with
    | true => none
    | false => (vals ws).map (d :: ·) := (rfl)
@[simp] theorem isDict_non : isDict .none = false := (rfl)
@[simp] theorem isDict_bl {b : Bool} : isDict (.bool b) = false := (rfl)
@[simp] theorem isDict_int {i : Int} : isDict (.int i) = false := (rfl)
@[simp] theorem isDict_str {x : Str} : isDict (.str x) = false := (rfl)
@[simp] theorem isDict_lst {xs : List PyData} : isDict (.list xs) = false := (rfl)
@[simp] theorem isDict_tup {xs : List PyData} : isDict (.tuple xs) = false := (rfl)
@[simp] theorem vals_ref {i : Nat} {ws : List W} : vals (.ref i :: ws) = none := (rfl)
@[simp] theorem keyOf_str {x : Str} : keyOf (.str x) = some (.inr x) := (rfl)
@[simp] theorem keyOf_int {i : Int} : keyOf (.int i) = some (.inl i) := (rfl)
/-! operations -/
section
variable {i j : Int} {x y : Str} {xs ys : List PyData} {p q : Bool}
@[simp] theorem bop_addI : bop .add (.int i) (.int j) = some (.int (i + j)) := (rfl)
@[simp] theorem bop_addS : bop .add (.str x) (.str y) = iff' (lenOk (x.length + y.length)) (.str (x ++ y)) := (rfl)
@[simp] theorem bop_addT : bop .add (.tuple xs) (.tuple ys) = iff' (lenOk (xs.length + ys.length)) (.tuple (xs ++ ys)) := (rfl)
@[simp] theorem bop_sub : bop .sub (.int i) (.int j) = some (.int (i - j)) := (rfl)
@[simp] theorem bop_mul : bop .mul (.int i) (.int j) = iff' (mulOk i j) (.int (i * j)) := (rfl)
@[simp] theorem bop_mulT : bop .mul (.tuple xs) (.int j) = iff' (!xs.isEmpty && decide (2 ≤ j) && decide (j ≤ 1000) && decide (xs.length ≤ 1000)) (.tuple (List.replicate j.toNat xs).flatten) := (rfl)
@[simp] theorem bop_fdiv : bop .fdiv (.int i) (.int j) = iff' (decide (0 < j) && decide (j < 1073741824)) (.int (i / j)) := (rfl)
@[simp] theorem bop_mod : bop .mod (.int i) (.int j) = iff' (decide (0 < j)) (.int (i % j)) := (rfl)
@[simp] theorem bop_pow : bop .pow (.int i) (.int j) = iff' (powOk i j) (.int (i ^ j.toNat)) := (rfl)
@[simp] theorem bop_and : bop .and (.int i) (.int j) = some (.int (Builtin.bitAnd i j)) := (rfl)
@[simp] theorem bop_or : bop .or (.int i) (.int j) = some (.int (Builtin.bitOr i j)) := (rfl)
@[simp] theorem bop_xor : bop .xor (.int i) (.int j) = some (.int (Builtin.bitXor i j)) := (rfl)
@[simp] theorem cop_eq : cop .eq d e = iff' (depthOk d e) (PyData.eqv d e) := by cases d <;> cases e <;> rfl
@[simp] theorem cop_ne : cop .ne d e = iff' (depthOk d e) (!PyData.eqv d e) := by cases d <;> cases e <;> rfl
@[simp] theorem cop_lt : cop .lt (.int i) (.int j) = some (decide (i < j)) := (rfl)
@[simp] theorem cop_le : cop .le (.int i) (.int j) = some (decide (i ≤ j)) := (rfl)
@[simp] theorem cop_gt : cop .gt (.int i) (.int j) = some (decide (j < i)) := (rfl)
@[simp] theorem cop_ge : cop .ge (.int i) (.int j) = some (decide (j ≤ i)) := (rfl)
@[simp] theorem cop_inT : cop .in_ d (.tuple xs) = iff' (depthOk d (.tuple xs)) (xs.any fun y => PyData.eqv y d) := by cases d <;> rfl
@[simp] theorem cop_inL : cop .in_ d (.list xs) = iff' (depthOk d (.list xs)) (xs.any fun y => PyData.eqv y d) := by cases d <;> rfl
@[simp] theorem cop_ninT : cop .notIn d (.tuple xs) = iff' (depthOk d (.tuple xs)) (!xs.any fun y => PyData.eqv y d) := by cases d <;> rfl
@[simp] theorem cop_ninL : cop .notIn d (.list xs) = iff' (depthOk d (.list xs)) (!xs.any fun y => PyData.eqv y d) := by cases d <;> rfl
@[simp] theorem cop_is {c : PyData} : cop (.isV c) d e = isB c d := by cases d <;> cases e <;> rfl
@[simp] theorem cop_isnt {c : PyData} : cop (.isNotV c) d e = (isB c d).map not := by cases d <;> cases e <;> rfl
@[simp] theorem truth_non : truth .none = some false := (rfl)
@[simp] theorem truth_bl : truth (.bool p) = some p := (rfl)
@[simp] theorem truth_int : truth (.int i) = some (i != 0) := (rfl)
@[simp] theorem truth_str : truth (.str x) = some ((x.length : Int) != 0) := (rfl)
@[simp] theorem truth_list : truth (.list xs) = some (!xs.isEmpty) := (rfl)
@[simp] theorem truth_tup : truth (.tuple xs) = some (!xs.isEmpty) := (rfl)
@[simp] theorem bfn_lenL : bfn .len [.list xs] = some (.int xs.length) := (rfl)
@[simp] theorem bfn_lenT : bfn .len [.tuple xs] = some (.int xs.length) := (rfl)
@[simp] theorem bfn_lenS : bfn .len [.str x] = some (.int x.length) := (rfl)
@[simp] theorem bfn_int : bfn .int [.int i] = some (.int i) := (rfl)
@[simp] theorem bfn_intB : bfn .int [.bool p] = some (.int (if p then 1 else 0)) := (rfl)
@[simp] theorem bfn_abs : bfn .abs [.int i] = some (.int (if i < 0 then -i else i)) := (rfl)
@[simp] theorem bfn_all : bfn .all [.list xs] = (bools xs).map fun bs => .bool (bs.all id) := (rfl)
@[simp] theorem bfn_any : bfn .any [.list xs] = (bools xs).map fun bs => .bool (bs.any id) := (rfl)
@[simp] theorem bfn_sum : bfn .sum [.list xs] = (intsD xs).map fun ns => .int ns.sum := (rfl)
@[simp] theorem bfn_tupL : bfn .tuple [.list xs] = some (.tuple xs) := (rfl)
@[simp] theorem bfn_tupT : bfn .tuple [.tuple xs] = some (.tuple xs) := (rfl)
@[simp] theorem bfn_repr : bfn .repr [d] = iff' (reprOk d) (.str d.shown) := (rfl)
@[simp] theorem bfn_isa {t : Ty} : bfn (.isa t) [d] = (isTy t d).map .bool := (rfl)
@[simp] theorem mef_upper : mef .upper (.str x) [] = iff' (decide (x.length ≤ 5592405) && strFit (Txt.upper x)) (.str (Txt.upper x)) := (rfl)
@[simp] theorem subD_L : subD (.list xs) (.int i) = L2.atI xs i := (rfl)
@[simp] theorem subD_T : subD (.tuple xs) (.int i) = L2.atI xs i := (rfl)
@[simp] theorem subD_S : subD (.str x) (.int i) = (L2.atI x.cps.toList i).map fun c => .str ⟨#[c]⟩ := (rfl)
@[simp] theorem walked_L : walked (.list xs) = some xs := (rfl)
@[simp] theorem walked_T : walked (.tuple xs) = some xs := (rfl)
@[simp] theorem items_L : items (.list xs) = some xs := (rfl)
@[simp] theorem items_T : items (.tuple xs) = some xs := (rfl)
@[simp] theorem slice_L {lo hi : Option Int} : slice (.list xs) lo hi = some (.list (cutL xs lo hi)) := (rfl)
@[simp] theorem slice_T {lo hi : Option Int} : slice (.tuple xs) lo hi = some (.tuple (cutL xs lo hi)) := (rfl)
end
end
/-- a call, by the def -/
theorem call_at {P : List Fd} {n f : Nat} {args : List W} {s : Stk} {fd : Fd} (h : P[f]? = some fd) : callAt P (n + 1) f args s = runFd (callAt P n) fd args s := by
  show (match P[f]? with
    | some fd => runFd (callAt P n) fd args s
    | none => .stuck) = _
  rw [h]
end MP
set_option maxRecDepth 10000
/-! MPRel: how data and the state of a run lie in the abstract heap. -/
namespace MP
open PySem PySem.Spec PyProof.Rows L2
/-! ### data at a value -/
/-- a written table: its keys are texts -/
structure KTab (K : PySem.W.Frag) (w : World) (a : Addr) (kvs : List (Str × V × PyData)) : Prop where
  kd : ∃ es n, KDict K w a es n
  look : ∀ z : Str, ∃ r, PySem.W.nsIn K a z = some r ∧ RelO ((kvs.lookup z).map (·.1)) r
theorem strFit.ok {x : Str} (h : strFit x = true) : PyData.strOk x = true := (Bool.and_eq_true_iff.mp h).1
theorem strFit.le {x : Str} (h : strFit x = true) : x.length ≤ sizeLine := of_decide_eq_true (Bool.and_eq_true_iff.mp h).2
mutual
inductive Rp (K : PySem.W.Frag) (M : List Addr) (H : Hp) : V → PyData → Prop
  | non : Rp K M H .non .none
  | bl (b : Bool) : Rp K M H (.bl b) (.bool b)
  | int (i : Int) : Rp K M H (.int i) (.int i)
  | str (x : Str) (h : strFit x = true) : Rp K M H (.str x) (.str x)
  | lst {a : Addr} {xs : List V} {ds : List PyData} : a ∉ M → Rd H a (.lst xs) → RpAll K M H xs ds → Rp K M H (.ref a) (.list ds)
  | lstK {a : Addr} {xs : List V} {ds : List PyData} : (∀ H', SqL K H' a xs) → RpAll K M H xs ds → Rp K M H (.ref a) (.list ds)
  | tup {a : Addr} {xs : List V} {ds : List PyData} : a ∉ M → Rd H a (.tup xs) → RpAll K M H xs ds → Rp K M H (.ref a) (.tuple ds)
  | tupK {a : Addr} {xs : List V} {ds : List PyData} : (∀ H', SqT K H' a xs) → RpAll K M H xs ds → Rp K M H (.ref a) (.tuple ds)
inductive RpAll (K : PySem.W.Frag) (M : List Addr) (H : Hp) : List V → List PyData → Prop
  | nil : RpAll K M H [] []
  | cons {v : V} {vs : List V} {d : PyData} {ds : List PyData} : Rp K M H v d → RpAll K M H vs ds → RpAll K M H (v :: vs) (d :: ds)
end
/-- what may have come between: M grows by new places, what stands outside M stands -/
structure Step (M : List Addr) (H : Hp) (M' : List Addr) (H' : Hp) : Prop where
  grow : ∃ l, M' = M ++ l ∧ ∀ b ∈ l, H b = none
  keep : ∀ b o, H b = some o → b ∉ M → H' b = some o
theorem Step.refl (M : List Addr) (H : Hp) : Step M H M H := ⟨⟨[], by simp, by simp⟩, fun _ _ h _ => h⟩
theorem Step.out {M M' : List Addr} {H H' : Hp} (s : Step M H M' H') {b : Addr} {o : HO} (hb : b ∉ M) (h : H b = some o) : b ∉ M' := by
  obtain ⟨l, e, hl⟩ := s.grow
  subst e
  intro hm
  rcases List.mem_append.mp hm with z | z
  · exact hb z
  · rw [hl b z] at h
    cases h
theorem Step.trans {M1 M2 M3 : List Addr} {H1 H2 H3 : Hp} (s : Step M1 H1 M2 H2) (t : Step M2 H2 M3 H3) (old : ∀ b, H1 b = none → b ∉ M2 → True) (hn : ∀ b o, H1 b = some o → b ∈ M1 → (H2 b).isSome = true) : Step M1 H1 M3 H3 := by
  refine ⟨?_, fun b o h hb => t.keep b o (s.keep b o h hb) (s.out hb h)⟩
  obtain ⟨l, e, hl⟩ := s.grow
  obtain ⟨l', e', hl'⟩ := t.grow
  refine ⟨l ++ l', by rw [e', e, List.append_assoc], fun b hb => ?_⟩
  rcases List.mem_append.mp hb with z | z
  · exact hl b z
  · cases q : H1 b with
    | none => rfl
    | some o =>
      have h2 := hl' b z
      by_cases hm : b ∈ M1
      · have := hn b o q hm
        rw [h2] at this
        cases this
      · rw [s.keep b o q hm] at h2
        cases h2
/-- what stands outside A stands outside A' -/
def Mv (A : List Addr) (H : Hp) (A' : List Addr) (H' : Hp) : Prop := ∀ b o, b ∉ A → H b = some o → b ∉ A' ∧ H' b = some o
theorem Rd.move {A A' : List Addr} {H H' : Hp} (s : Mv A H A' H') {a : Addr} {u : HO} (ha : a ∉ A) (h : Rd H a u) : a ∉ A' ∧ Rd H' a u := by
  rcases h with h | ⟨o, h⟩
  · exact ⟨(s a _ ha h).1, .inl (s a _ ha h).2⟩
  · exact ⟨(s a _ ha h).1, .inr ⟨o, (s a _ ha h).2⟩⟩
section
variable {K : PySem.W.Frag} {M M' : List Addr} {H H' : Hp}
mutual
theorem Rp.move (s : Mv M H M' H') : ∀ (d : PyData) {v : V}, Rp K M H v d → Rp K M' H' v d
  | .none, _, h => by cases h; exact .non
  | .bool b, _, h => by cases h; exact .bl b
  | .int i, _, h => by cases h; exact .int i
  | .str x, _, h => by
    cases h with
    | str _ hx => exact .str x hx
  | .list ds, _, h => by
    cases h with
    | lst h1 h2 h3 =>
      obtain ⟨k1, k2⟩ := Rd.move s h1 h2
      exact .lst k1 k2 (RpAll.move s ds h3)
    | lstK h1 h2 => exact .lstK h1 (RpAll.move s ds h2)
  | .tuple ds, _, h => by
    cases h with
    | tup h1 h2 h3 =>
      obtain ⟨k1, k2⟩ := Rd.move s h1 h2
      exact .tup k1 k2 (RpAll.move s ds h3)
    | tupK h1 h2 => exact .tupK h1 (RpAll.move s ds h2)
  | .dict ds, _, h => by cases h
theorem RpAll.move (s : Mv M H M' H') : ∀ (ds : List PyData) {vs : List V}, RpAll K M H vs ds → RpAll K M' H' vs ds
  | [], _, h => by cases h; exact .nil
  | d :: ds, _, h => by
    cases h with
    | cons h1 h2 => exact .cons (Rp.move s d h1) (RpAll.move s ds h2)
end
theorem Step.mv (t : Step M H M' H') (U : List Addr) : Mv (M ++ U) H (M' ++ U) H' := fun b o hb h => by
  have h1 : b ∉ M := fun z => hb (List.mem_append_left _ z)
  refine ⟨fun z => ?_, t.keep b o h h1⟩
  rcases List.mem_append.mp z with z | z
  · exact t.out h1 h z
  · exact hb (List.mem_append_right _ z)
theorem Mv.less (s : ∀ b ∈ M', b ∈ M) : Mv M H M' H := fun b o hb h => ⟨fun z => hb (s b z), h⟩
theorem Rp.step {U : List Addr} {d : PyData} {v : V} (t : Step M H M' H') (h : Rp K (M ++ U) H v d) : Rp K (M' ++ U) H' v d := h.move (t.mv U)
theorem RpAll.step {U : List Addr} {d : List PyData} {v : List V} (t : Step M H M' H') (h : RpAll K (M ++ U) H v d) : RpAll K (M' ++ U) H' v d := h.move (t.mv U)
/-! to the layer's own relation -/
theorem Rp.sqL {v : V} {ds : List PyData} (h : Rp K M H v (.list ds)) : ∃ a xs, v = .ref a ∧ SqL K H a xs ∧ RpAll K M H xs ds := by
  cases h with
  | lst h1 h2 h3 => exact ⟨_, _, rfl, .inl h2, h3⟩
  | lstK h1 h2 => exact ⟨_, _, rfl, h1 H, h2⟩
theorem Rp.sqT {v : V} {ds : List PyData} (h : Rp K M H v (.tuple ds)) : ∃ a xs, v = .ref a ∧ SqT K H a xs ∧ RpAll K M H xs ds := by
  cases h with
  | tup h1 h2 h3 => exact ⟨_, _, rfl, .inl h2, h3⟩
  | tupK h1 h2 => exact ⟨_, _, rfl, h1 H, h2⟩
theorem Rp.intI {v : V} {i : Int} (h : Rp K M H v (.int i)) : v = .int i := by cases h; rfl
theorem Rp.blI {v : V} {i : Bool} (h : Rp K M H v (.bool i)) : v = .bl i := by cases h; rfl
theorem Rp.nonI {v : V} (h : Rp K M H v .none) : v = .non := by cases h; rfl
theorem Rp.strI {v : V} {x : Str} (h : Rp K M H v (.str x)) : v = .str x ∧ strFit x = true := by cases h; exact ⟨rfl, by assumption⟩
theorem RpAll.length : ∀ {vs : List V} {ds : List PyData}, RpAll K M H vs ds → vs.length = ds.length
  | _, _, .nil => rfl
  | _, _, .cons _ h => congrArg Nat.succ (RpAll.length h)
theorem RpAll.get : ∀ {vs : List V} {ds : List PyData} {i : Nat} {d : PyData}, RpAll K M H vs ds → ds[i]? = some d → ∃ v, vs[i]? = some v ∧ Rp K M H v d
  | _, _, _, _, .nil, e => by simp at e
  | _, _, 0, _, .cons r _, e => by
    simp at e
    subst e
    exact ⟨_, rfl, r⟩
  | _, _, i + 1, _, .cons _ t, e => by
    obtain ⟨v, h1, h2⟩ := RpAll.get (i := i) t (by simpa using e)
    exact ⟨v, by simpa using h1, h2⟩
theorem RpAll.getV : ∀ {vs : List V} {ds : List PyData} {i : Nat} {v : V}, RpAll K M H vs ds → vs[i]? = some v → ∃ d, ds[i]? = some d ∧ Rp K M H v d
  | _, _, _, _, .nil, e => by simp at e
  | _, _, 0, _, .cons r _, e => by
    simp at e
    subst e
    exact ⟨_, rfl, r⟩
  | _, _, i + 1, _, .cons _ t, e => by
    obtain ⟨d, h1, h2⟩ := RpAll.getV (i := i) t (by simpa using e)
    exact ⟨d, by simpa using h1, h2⟩
theorem RpAll.append : ∀ {vs us : List V} {ds es : List PyData}, RpAll K M H vs ds → RpAll K M H us es → RpAll K M H (vs ++ us) (ds ++ es)
  | _, _, _, _, .nil, s => s
  | _, _, _, _, .cons r t, s => .cons r (RpAll.append t s)
theorem RpAll.drop : ∀ {vs : List V} {ds : List PyData} (n : Nat), RpAll K M H vs ds → RpAll K M H (vs.drop n) (ds.drop n)
  | _, _, 0, r => r
  | _, _, _ + 1, .nil => .nil
  | _, _, n + 1, .cons _ t => RpAll.drop n t
theorem RpAll.take : ∀ {vs : List V} {ds : List PyData} (n : Nat), RpAll K M H vs ds → RpAll K M H (vs.take n) (ds.take n)
  | _, _, 0, _ => .nil
  | _, _, _ + 1, .nil => .nil
  | _, _, n + 1, .cons r t => .cons r (RpAll.take n t)
theorem RpAll.set {v : V} {d : PyData} (r : Rp K M H v d) : ∀ {vs : List V} {ds : List PyData} (i : Nat), RpAll K M H vs ds → RpAll K M H (vs.set i v) (ds.set i d)
  | _, _, _, .nil => .nil
  | _, _, 0, .cons _ t => .cons r t
  | _, _, i + 1, .cons q t => .cons q (RpAll.set r i t)
theorem RpAll.cut {vs : List V} {ds : List PyData} (lo hi : Option Int) (r : RpAll K M H vs ds) : RpAll K M H (cutV vs lo hi) (cutL ds lo hi) := by
  unfold cutV cutL
  rw [r.length]
  exact (r.drop _).take _
theorem RpAll.ints : ∀ {vs : List V} {ds : List PyData} {ns : List Int}, RpAll K M H vs ds → intsD ds = some ns → vs = ns.map V.int
  | _, _, _, .nil, e => by
    cases e
    rfl
  | _, _, _, .cons (d := d) r t, e => by
    cases d with
    | int i =>
      simp [intsD] at e
      obtain ⟨ms, q, e⟩ := e
      subst e
      rw [r.intI, RpAll.ints t q]
      rfl
    | _ => cases e
theorem RpAll.bools : ∀ {vs : List V} {ds : List PyData} {ns : List Bool}, RpAll K M H vs ds → MP.bools ds = some ns → vs = ns.map V.bl
  | _, _, _, .nil, e => by
    cases e
    rfl
  | _, _, _, .cons (d := d) r t, e => by
    cases d with
    | bool i =>
      simp [MP.bools] at e
      obtain ⟨ms, q, e⟩ := e
      subst e
      rw [r.blI, RpAll.bools t q]
      rfl
    | _ => cases e
mutual
theorem Rp.dp : ∀ (d : PyData) {v : V}, Rp K M H v d → Dp K H v d ∧ d.canLay0 = true
  | .none, _, h => by cases h; exact ⟨.non, rfl⟩
  | .bool b, _, h => by cases h; exact ⟨.bl b, rfl⟩
  | .int i, _, h => by cases h; exact ⟨.int i, rfl⟩
  | .str x, _, h => by
    cases h with
    | str _ hx => exact ⟨.str x, by simpa [PyData.canLay0] using strFit.ok hx⟩
  | .list ds, _, h => by
    obtain ⟨a, xs, rfl, h1, h2⟩ := h.sqL
    obtain ⟨k1, k2⟩ := RpAll.dp ds h2
    exact ⟨.lst h1 k1, by simpa [PyData.canLay0] using k2⟩
  | .tuple ds, _, h => by
    obtain ⟨a, xs, rfl, h1, h2⟩ := h.sqT
    obtain ⟨k1, k2⟩ := RpAll.dp ds h2
    exact ⟨.tup h1 k1, by simpa [PyData.canLay0] using k2⟩
  | .dict ds, _, h => by cases h
theorem RpAll.dp : ∀ (ds : List PyData) {vs : List V}, RpAll K M H vs ds → DpAll K H vs ds ∧ PyData.canLayAll0 ds = true
  | [], _, h => by cases h; exact ⟨.nil, rfl⟩
  | d :: ds, _, h => by
    cases h with
    | cons h1 h2 =>
      obtain ⟨k1, k2⟩ := Rp.dp d h1
      obtain ⟨k3, k4⟩ := RpAll.dp ds h2
      exact ⟨.cons k1 k3, by simp [PyData.canLayAll0, k2, k4]⟩
end
end
/-- a value that is data or a written table; U: what is out of reach -/
def RV (w : World) (K : PySem.W.Frag) (U M : List Addr) (H : Hp) (v : V) : PyData → Prop
  | .dict ds => ∃ a kvs, v = .ref a ∧ KTab K w a kvs ∧ ds = kvs.map (fun p => (PyData.str p.1, p.2.2)) ∧ ∀ p ∈ kvs, Rp K (M ++ U) H p.2.1 p.2.2
  | d => Rp K (M ++ U) H v d
end MP
set_option maxRecDepth 10000
/-! MPPost: what is wanted behind a run, over the abstract heap. -/
namespace MP
open PySem PySem.Spec L2
open PyProof.Rows hiding St
/-- a mutable object at an address -/
def RO (K : PySem.W.Frag) (A : List Addr) (H : Hp) (a : Addr) : Ob → Prop
  | .lst xs => ∃ vs, H a = some (.lst vs) ∧ RpAll K A H vs xs
  | .dct kvs => ∃ vs : List (Key × V), H a = some (.dK vs) ∧ Paired (fun (p : Key × V) (q : Key × PyData) => p.1 = q.1 ∧ Rp K A H p.2 q.2) vs kvs
structure RelS (K : PySem.W.Frag) (U M : List Addr) (H : Hp) (s : Stk) : Prop where
  un : ∀ u ∈ U, u ∉ M ∧ (H u).isSome = true
  nd : M.Nodup
  len : M.length = s.length
  ob : ∀ (i : Nat) (a : Addr) (o : Ob), M[i]? = some a → s[i]? = some o → RO K (M ++ U) H a o
/-- the classes of errors; the error that is in hand: where it lies, where its dict lies -/
structure CT where
  n : Nat
  cls : Nat → Addr
  cur : Option (Addr × Addr × Nat)
def RW (ct : CT) (w : World) (K : PySem.W.Frag) (U M : List Addr) (H : Hp) (v : V) : W → Prop
  | .val d => RV w K U M H v d
  | .ref i => ∃ a, M[i]? = some a ∧ v = .ref a
  | .exn c d => ∃ a dd x, ct.cur = some (a, dd, c) ∧ v = .ref a ∧ dd ∉ M ++ U ∧ H dd = some (.xd [(("value" : Str), x)]) ∧ Rp K (M ++ U) H x d
structure REnv (ct : CT) (w : World) (K : PySem.W.Frag) (U M : List Addr) (H : Hp) (σ : St) (env : Ve) : Prop where
  len : σ.length = env.length
  at_ : ∀ (i : Nat) (x : W), env[i]? = some (some x) → ∃ v, σ[i]? = some (some v) ∧ RW ct w K U M H v x
inductive RWs (ct : CT) (w : World) (K : PySem.W.Frag) (U M : List Addr) (H : Hp) : List V → List W → Prop
  | nil : RWs ct w K U M H [] []
  | cons {v : V} {vs : List V} {x : W} {xs : List W} : RW ct w K U M H v x → RWs ct w K U M H vs xs → RWs ct w K U M H (v :: vs) (x :: xs)
section
variable {ct : CT} {w : World} {K : PySem.W.Frag} {U M M' M1 M2 : List Addr} {H H' H1 H2 : Hp} {s s1 : Stk}
theorem RelS.there (r : RelS K U M H s) {a : Addr} (h : a ∈ M) : (H a).isSome = true := by
  obtain ⟨i, hi, e⟩ := List.getElem_of_mem h
  have h2 : i < s.length := by rw [← r.len]; exact hi
  have ho := r.ob i a s[i] (by rw [← e]; exact List.getElem?_eq_getElem hi) (List.getElem?_eq_getElem h2)
  cases q : s[i] with
  | lst xs =>
    rw [q] at ho
    obtain ⟨vs, h3, _⟩ := ho
    rw [h3]
    rfl
  | dct kvs =>
    rw [q] at ho
    obtain ⟨vs, h3, _⟩ := ho
    rw [h3]
    rfl
theorem Step.mem (t : Step M H M' H') {a : Addr} (h : a ∈ M) : a ∈ M' := by
  obtain ⟨l, e, _⟩ := t.grow
  rw [e]
  exact List.mem_append_left _ h
theorem Step.ix (t : Step M H M' H') {i : Nat} {a : Addr} (h : M[i]? = some a) : M'[i]? = some a := by
  obtain ⟨l, e, _⟩ := t.grow
  rw [e, List.getElem?_append_left (List.getElem?_eq_some_iff.mp h).1]
  exact h
theorem Step.comp (t : Step M H M1 H1) (r : RelS K U M1 H1 s1) (u : Step M1 H1 M2 H2) : Step M H M2 H2 :=
  t.trans u (fun _ _ _ => trivial) fun b o _ hb => r.there (t.mem hb)
theorem RV.step (t : Step M H M' H') {d : PyData} {v : V} (h : RV w K U M H v d) : RV w K U M' H' v d := by
  cases d with
  | dict ds =>
    obtain ⟨a, kvs, e1, e2, e3, e4⟩ := h
    exact ⟨a, kvs, e1, e2, e3, fun p hp => (e4 p hp).step t⟩
  | _ => exact Rp.step t (show Rp K (M ++ U) H v _ from h)
theorem RV.rp {d : PyData} {v : V} (h : RV w K U M H v d) (hd : isDict d = false) : Rp K (M ++ U) H v d := by
  cases d with
  | dict ds => cases hd
  | _ => exact h
theorem Rp.rv {d : PyData} {v : V} (h : Rp K (M ++ U) H v d) : RV w K U M H v d := by
  cases d with
  | dict ds => cases h
  | _ => exact h
theorem Rp.noDict {d : PyData} {v : V} (h : Rp K (M ++ U) H v d) : isDict d = false := by
  cases d with
  | dict ds => cases h
  | _ => rfl
theorem RW.step (t : Step M H M' H') {x : W} {v : V} (h : RW ct w K U M H v x) : RW ct w K U M' H' v x := by
  cases x with
  | val d => exact RV.step t (show RV w K U M H v d from h)
  | ref i =>
    obtain ⟨a, h1, h2⟩ := h
    exact ⟨a, t.ix h1, h2⟩
  | exn c d =>
    obtain ⟨a, dd, x, h1, h2, h3, h4, h5⟩ := h
    obtain ⟨k1, k2⟩ := t.mv U dd _ h3 h4
    exact ⟨a, dd, x, h1, h2, k1, k2, h5.step t⟩
theorem RWs.step (t : Step M H M' H') : ∀ {vs : List V} {xs : List W}, RWs ct w K U M H vs xs → RWs ct w K U M' H' vs xs
  | _, _, .nil => .nil
  | _, _, .cons r q => .cons (r.step t) (RWs.step t q)
theorem RWs.length : ∀ {vs : List V} {xs : List W}, RWs ct w K U M H vs xs → vs.length = xs.length
  | _, _, .nil => rfl
  | _, _, .cons _ q => congrArg Nat.succ (RWs.length q)
theorem REnv.step {σ : St} {env : Ve} (t : Step M H M' H') (h : REnv ct w K U M H σ env) : REnv ct w K U M' H' σ env :=
  ⟨h.len, fun i x e => let ⟨v, h1, h2⟩ := h.at_ i x e; ⟨v, h1, h2.step t⟩⟩
theorem REnv.set {σ : St} {env : Ve} {i : Nat} {v : V} {x : W} (h : REnv ct w K U M H σ env) (r : RW ct w K U M H v x) : REnv ct w K U M H (σ.set i (some v)) (env.set i (some x)) := by
  refine ⟨by rw [List.length_set, List.length_set]; exact h.len, fun j y e => ?_⟩
  by_cases hj : i = j
  · subst hj
    have hl : i < env.length := by
      have := (List.getElem?_eq_some_iff.mp e).1
      rwa [List.length_set] at this
    rw [List.getElem?_set_self hl] at e
    cases e
    exact ⟨v, by rw [List.getElem?_set_self (by rw [h.len]; exact hl)], r⟩
  · rw [List.getElem?_set_ne hj] at e
    obtain ⟨u, h1, h2⟩ := h.at_ j y e
    exact ⟨u, by rw [List.getElem?_set_ne hj]; exact h1, h2⟩
theorem REnv.unset {σ : St} {env : Ve} {i : Nat} {o : Option V} (h : REnv ct w K U M H σ env) : REnv ct w K U M H (σ.set i o) (env.set i none) := by
  refine ⟨by rw [List.length_set, List.length_set]; exact h.len, fun j y e => ?_⟩
  by_cases hj : i = j
  · subst hj
    have hl : i < env.length := by
      have := (List.getElem?_eq_some_iff.mp e).1
      rwa [List.length_set] at this
    rw [List.getElem?_set_self hl] at e
    cases e
  · rw [List.getElem?_set_ne hj] at e
    obtain ⟨u, h1, h2⟩ := h.at_ j y e
    exact ⟨u, by rw [List.getElem?_set_ne hj]; exact h1, h2⟩
theorem REnv.wipe {σ : St} {env : Ve} (h : REnv ct w K U M H σ env) : ∀ vs : List Nat, REnv ct w K U M H (L2.wipe σ vs) (wipeE env vs)
  | [] => h
  | v :: vs => (REnv.wipe h vs).unset
/-- what a value shows -/
theorem RW.view {x : W} {v : V} {d : PyData} (r : RelS K U M H s) (h : RW ct w K U M H v x) (e : x.view s = some d) : RV w K U M H v d ∨ ∃ (i : Nat) (a : Addr) (xs : List PyData) (vs : List V), x = .ref i ∧ M[i]? = some a ∧ s[i]? = some (.lst xs) ∧ v = .ref a ∧ d = .list xs ∧ H a = some (.lst vs) ∧ RpAll K (M ++ U) H vs xs := by
  cases x with
  | val d' =>
    cases e
    exact .inl h
  | ref i =>
    obtain ⟨a, h1, h2⟩ := h
    have e' : (match s[i]? with
      | some (.lst xs) => some (PyData.list xs)
      | _ => none) = some d := e
    cases q : s[i]? with
    | none =>
      rw [q] at e'
      cases e'
    | some o =>
      rw [q] at e'
      cases o with
      | dct kvs => cases e'
      | lst xs =>
        cases e'
        obtain ⟨vs, h3, h4⟩ := r.ob i a _ h1 q
        exact .inr ⟨i, a, xs, vs, rfl, h1, q, h2, rfl, h3, h4⟩
  | exn c d => cases e
/-- .. read as a sequence by the layer -/
theorem RW.sqL {x : W} {v : V} {xs : List PyData} (r : RelS K U M H s) (h : RW ct w K U M H v x) (e : x.view s = some (.list xs)) : ∃ a vs, v = .ref a ∧ SqL K H a vs ∧ RpAll K (M ++ U) H vs xs := by
  rcases h.view r e with q | ⟨i, a, ys, vs, _, _, _, e1, e2, e3, e4⟩
  · exact Rp.sqL q
  · cases e2
    exact ⟨a, vs, e1, .of e3, e4⟩
theorem RW.sqT {x : W} {v : V} {xs : List PyData} (r : RelS K U M H s) (h : RW ct w K U M H v x) (e : x.view s = some (.tuple xs)) : ∃ a vs, v = .ref a ∧ SqT K H a vs ∧ RpAll K (M ++ U) H vs xs := by
  rcases h.view r e with q | ⟨i, a, ys, vs, _, _, _, e1, e2, e3, e4⟩
  · exact Rp.sqT q
  · cases e2
theorem RW.intV {x : W} {v : V} {i : Int} (r : RelS K U M H s) (h : RW ct w K U M H v x) (e : x.view s = some (.int i)) : v = .int i := by
  rcases h.view r e with q | ⟨_, _, _, _, _, _, _, _, e2, _⟩
  · exact Rp.intI q
  · cases e2
theorem RW.blV {x : W} {v : V} {i : Bool} (r : RelS K U M H s) (h : RW ct w K U M H v x) (e : x.view s = some (.bool i)) : v = .bl i := by
  rcases h.view r e with q | ⟨_, _, _, _, _, _, _, _, e2, _⟩
  · exact Rp.blI q
  · cases e2
theorem RW.nonV {x : W} {v : V} (r : RelS K U M H s) (h : RW ct w K U M H v x) (e : x.view s = some .none) : v = .non := by
  rcases h.view r e with q | ⟨_, _, _, _, _, _, _, _, e2, _⟩
  · exact Rp.nonI q
  · cases e2
theorem RW.strV {x : W} {v : V} {i : Str} (r : RelS K U M H s) (h : RW ct w K U M H v x) (e : x.view s = some (.str i)) : v = .str i ∧ strFit i = true := by
  rcases h.view r e with q | ⟨_, _, _, _, _, _, _, _, e2, _⟩
  · exact Rp.strI q
  · cases e2
theorem RW.dpV {x : W} {v : V} {d : PyData} (r : RelS K U M H s) (h : RW ct w K U M H v x) (e : x.view s = some d) (hd : isDict d = false) : Dp K H v d ∧ d.canLay0 = true := by
  rcases h.view r e with q | ⟨_, a, xs, vs, _, _, _, e1, e2, e3, e4⟩
  · exact (q.rp hd).dp
  · subst e1
    subst e2
    obtain ⟨k1, k2⟩ := e4.dp
    exact ⟨.lst (.of e3) k1, by simpa [PyData.canLay0] using k2⟩
/-! ### new objects -/
theorem RelS.fresh0 {p : Addr} (r : RelS K U M H s) (hp : H p = none) : p ∉ M := fun hm => by
  have := r.there hm
  rw [hp] at this
  cases this
theorem RelS.fresh {p : Addr} (r : RelS K U M H s) (hp : H p = none) : p ∉ M ++ U := fun hm => by
  rcases List.mem_append.mp hm with z | z
  · exact r.fresh0 hp z
  · have := (r.un p z).2
    rw [hp] at this
    cases this
theorem isSome_upd {H : Hp} {p u : Addr} {o : HO} (h : (H u).isSome = true) : (L2.upd H p o u).isSome = true := by
  unfold L2.upd
  split
  · rfl
  · exact h
/-- a new object beside -/
theorem RelS.upd {p : Addr} {o : HO} (r : RelS K U M H s) (hp : H p = none) : RelS K U M (upd H p o) s ∧ Step M H M (L2.upd H p o) := by
  have t : Step M H M (L2.upd H p o) := ⟨⟨[], by simp, by simp⟩, fun b u h _ => by rw [upd_ne (ne_of_none h hp)]; exact h⟩
  refine ⟨⟨fun u hu => ⟨(r.un u hu).1, isSome_upd (r.un u hu).2⟩, r.nd, r.len, fun i a ob h1 h2 => ?_⟩, t⟩
  have := r.ob i a ob h1 h2
  cases ob with
  | lst xs =>
    obtain ⟨vs, h3, h4⟩ := this
    exact ⟨vs, by rw [upd_ne (ne_of_none h3 hp)]; exact h3, RpAll.step t h4⟩
  | dct kvs =>
    obtain ⟨vs, h3, h4⟩ := this
    exact ⟨vs, by rw [upd_ne (ne_of_none h3 hp)]; exact h3, Paired.mapP h4 fun p q z => ⟨z.1, z.2.step t⟩⟩
/-- a new mutable object -/
theorem RelS.push {p : Addr} {o : HO} {ob : Ob} (r : RelS K U M H s) (hp : H p = none) (hob : RO K ((M ++ [p]) ++ U) (L2.upd H p o) p ob) : RelS K U (M ++ [p]) (L2.upd H p o) (s ++ [ob]) ∧ Step M H (M ++ [p]) (L2.upd H p o) := by
  have t : Step M H (M ++ [p]) (L2.upd H p o) := ⟨⟨[p], rfl, by simpa using hp⟩, fun b u h _ => by rw [upd_ne (ne_of_none h hp)]; exact h⟩
  refine ⟨⟨fun u hu => ⟨fun z => ?_, isSome_upd (r.un u hu).2⟩, ?_, by simp [r.len], fun i a ob' h1 h2 => ?_⟩, t⟩
  · rcases List.mem_append.mp z with z | z
    · exact (r.un u hu).1 z
    · have e : u = p := by simpa using z
      have := (r.un u hu).2
      rw [e, hp] at this
      cases this
  · rw [List.nodup_append]
    refine ⟨r.nd, by simp, fun a ha b hb => ?_⟩
    have : b = p := by simpa using hb
    subst this
    intro e
    subst e
    exact r.fresh0 hp ha
  · by_cases hi : i < M.length
    · rw [List.getElem?_append_left hi] at h1
      rw [List.getElem?_append_left (by rw [← r.len]; exact hi)] at h2
      have := r.ob i a ob' h1 h2
      cases ob' with
      | lst xs =>
        obtain ⟨vs, h3, h4⟩ := this
        exact ⟨vs, by rw [upd_ne (ne_of_none h3 hp)]; exact h3, RpAll.step t h4⟩
      | dct kvs =>
        obtain ⟨vs, h3, h4⟩ := this
        exact ⟨vs, by rw [upd_ne (ne_of_none h3 hp)]; exact h3, Paired.mapP h4 fun p q z => ⟨z.1, z.2.step t⟩⟩
    · rw [List.getElem?_append_right (by omega)] at h1
      rw [List.getElem?_append_right (by rw [← r.len]; omega)] at h2
      rw [← r.len] at h2
      cases e : i - M.length with
      | zero =>
        rw [e] at h1 h2
        simp at h1 h2
        subst h1
        subst h2
        exact hob
      | succ n =>
        rw [e] at h1
        simp at h1
/-- a mutable object written -/
theorem RelS.write {i : Nat} {p : Addr} {o : HO} {ob : Ob} (r : RelS K U M H s) (hp : M[i]? = some p) (hob : ∀ t : Step M H M (L2.upd H p o), RO K (M ++ U) (L2.upd H p o) p ob) : RelS K U M (L2.upd H p o) (s.set i ob) ∧ Step M H M (L2.upd H p o) := by
  have hm : p ∈ M := List.mem_of_getElem? hp
  have t : Step M H M (L2.upd H p o) := ⟨⟨[], by simp, by simp⟩, fun b u h hb => by
    have : b ≠ p := fun e => hb (e ▸ hm)
    rw [upd_ne this]
    exact h⟩
  refine ⟨⟨fun u hu => ⟨(r.un u hu).1, isSome_upd (r.un u hu).2⟩, r.nd, by rw [List.length_set]; exact r.len, fun j a ob' h1 h2 => ?_⟩, t⟩
  by_cases hj : i = j
  · subst hj
    have hl : i < s.length := by rw [← r.len]; exact (List.getElem?_eq_some_iff.mp hp).1
    rw [List.getElem?_set_self hl] at h2
    cases h2
    rw [hp] at h1
    cases h1
    exact hob t
  · rw [List.getElem?_set_ne hj] at h2
    have ne : a ≠ p := fun e => by
      subst e
      have h3 := (List.getElem?_eq_some_iff.mp h1)
      have h4 := (List.getElem?_eq_some_iff.mp hp)
      obtain ⟨l3, e3⟩ := h3
      obtain ⟨l4, e4⟩ := h4
      exact hj ((List.getElem_inj r.nd).mp (e4.trans e3.symm))
    have := r.ob j a ob' h1 h2
    cases ob' with
    | lst xs =>
      obtain ⟨vs, h3, h4⟩ := this
      exact ⟨vs, by rw [upd_ne ne]; exact h3, RpAll.step t h4⟩
    | dct kvs =>
      obtain ⟨vs, h3, h4⟩ := this
      exact ⟨vs, by rw [upd_ne ne]; exact h3, Paired.mapP h4 fun p q z => ⟨z.1, z.2.step t⟩⟩
end
/-! ### what is wanted behind a run -/
/-- how an error lies: its class, its own dict that holds the value -/
def ExcR (ct : CT) (K : PySem.W.Frag) (U M : List Addr) (H : Hp) (c : Nat) (d : PyData) (cls : Value) (dd : Option Addr) : Prop :=
  (c < ct.n ∧ cls = .ref (ct.cls c)) ∧ ∃ x v, dd = some x ∧ x ∉ M ++ U ∧ H x = some (.xd [(("value" : Str), v)]) ∧ Rp K (M ++ U) H v d
/-- from M, H: how the run ends is met -/
def Post (ct : CT) (K : PySem.W.Frag) (U : List Addr) (Wx : WX) (σ : St) (M : List Addr) (H : Hp) {α : Type} (r : Res α) (Q : α → List Addr → Hp → Stk → Prop) : Prop := match r with
  | .ok a s => ∀ M' H', Step M H M' H' → RelS K U M' H' s → Q a M' H' s
  | .exc c d s => ∀ M' H' cls dd, Step M H M' H' → RelS K U M' H' s → ExcR ct K U M' H' c d cls dd → Wx cls dd σ H'
  | .stuck => False
section
variable {ct : CT} {K : PySem.W.Frag} {Wx : WX} {σ : St} {U M M1 : List Addr} {H H1 : Hp} {s s1 : Stk} {α β : Type} {r : Res α} {f : α → Stk → Res β} {Q : β → List Addr → Hp → Stk → Prop} {R R' : α → List Addr → Hp → Stk → Prop}
theorem Post.mono (h : Post ct K U Wx σ M H r R) (hi : ∀ a M' H' s', Step M H M' H' → RelS K U M' H' s' → R a M' H' s' → R' a M' H' s') : Post ct K U Wx σ M H r R' := by
  cases r with
  | ok a s => exact fun M' H' t q => hi a M' H' s t q (h M' H' t q)
  | exc c d s => exact h
  | stuck => exact h
theorem Post.from (h : Post ct K U Wx σ M H r R) (t : Step M H M1 H1) (q : RelS K U M1 H1 s1) : Post ct K U Wx σ M1 H1 r R := by
  cases r with
  | ok a s => exact fun M' H' u p => h M' H' (t.comp q u) p
  | exc c d s => exact fun M' H' cls dd u p => h M' H' cls dd (t.comp q u) p
  | stuck => exact h
theorem Post.bind (h : Post ct K U Wx σ M H (r.bind f) Q) : Post ct K U Wx σ M H r fun a M1 H1 s1 => Post ct K U Wx σ M1 H1 (f a s1) Q := by
  cases r with
  | ok a s => exact fun M' H' t q => Post.from (show Post ct K U Wx σ M H (f a s) Q from h) t q
  | exc c d s => exact h
  | stuck => exact h
theorem Post.here {a : α} (h : Post ct K U Wx σ M H (.ok a s) R) (q : RelS K U M H s) : R a M H s := h M H (Step.refl _ _) q
end
end MP
set_option maxRecDepth 10000
/-! MPVop: the operators upon data. -/
namespace MP
open PySem PySem.Spec L2
open PyProof.Rows hiding St
def r2D (ct : CT) (w : World) (K : PySem.W.Frag) (g : PyData → PyData → Option PyData) : R2 := fun x y H Q => ∃ U M s wx wy d e r, RelS K U M H s ∧ RW ct w K U M H x wx ∧ RW ct w K U M H y wy ∧ wx.view s = some d ∧ wy.view s = some e ∧ g d e = some r ∧
  ∀ v H', Step M H M H' → RelS K U M H' s → RV w K U M H' v r → Q v H'
theorem OpR.imp {X : Cx} {f : Value → Value → Sem Value} {r r' : R2} (h : OpR X f r) (i : ∀ x y H Q, r' x y H Q → r x y H Q) : OpR X f r' := fun pins s σ H x y v u Q I rx ry q => h pins s σ H x y v u Q I rx ry (i x y H Q q)
theorem OpR.impI {X : Cx} {f : Value → Value → Sem Value} {r' : R2}
    (i : ∀ (pins : List (Addr × Obj)) (s : Shared) (σ : L2.St) (H : Hp) (x y : V) (Q : VK), Inv X pins σ H s → r' x y H Q → ∃ r, OpR X f r ∧ r x y H Q) : OpR X f r' := fun pins s σ H x y v u Q I rx ry q => by
  obtain ⟨r, h, q'⟩ := i pins s σ H x y Q I q
  exact h pins s σ H x y v u Q I rx ry q'
theorem iff_some {α : Type} {c : Bool} {a b : α} (h : iff' c a = some b) : c = true ∧ a = b := by
  cases c with
  | true => exact ⟨rfl, Option.some.inj h⟩
  | false => cases h
theorem RV.of {w : World} {K : PySem.W.Frag} {U M : List Addr} {H : Hp} {v : V} {d : PyData} (h : Rp K (M ++ U) H v d) : RV w K U M H v d := h.rv
theorem fit_append {x y : Str} (h1 : strFit x = true) (h2 : strFit y = true) (h : x.length + y.length ≤ sizeLine) : strFit (x ++ y) = true := by
  have o1 := strFit.ok h1
  have o2 := strFit.ok h2
  unfold strFit
  rw [Bool.and_eq_true]
  refine ⟨?_, decide_eq_true ?_⟩
  · unfold PyData.strOk at *
    show (x.cps ++ y.cps).all _ = true
    simp only [Array.all_append, o1, o2, Bool.and_self]
  · show (x.cps ++ y.cps).size ≤ _
    rw [Array.size_append]
    exact h
def opA : Op → Operator
  | .add => .Add | .sub => .Sub | .mul => .Mult | .fdiv => .FloorDiv | .mod => .Mod | .pow => .Pow | .and => .BitAnd | .or => .BitOr | .xor => .BitXor | .shl => .LShift | .shr => .RShift
section
variable {X : Cx} {ct : CT}
theorem mulOk_c {i j : Int} (h : mulOk i j = true) : CMul i j ∨ CMulW i j := by
  simp only [mulOk, Bool.or_eq_true, Bool.and_eq_true, decide_eq_true_eq] at h
  rcases h with (h | h) | h
  · exact .inl (.inl h)
  · exact .inl (.inr h)
  · exact .inr h
theorem new_tup {w : World} {K : PySem.W.Frag} {U M : List Addr} {H : Hp} {s : Stk} {p : Addr} {vs : List V} {ds : List PyData} (rs : RelS K U M H s) (hp : H p = none) (h : RpAll K (M ++ U) H vs ds) :
    Step M H M (upd H p (.tup vs)) ∧ RelS K U M (upd H p (.tup vs)) s ∧ RV w K U M (upd H p (.tup vs)) (.ref p) (.tuple ds) := by
  obtain ⟨r', t⟩ := rs.upd (o := .tup vs) hp
  exact ⟨t, r', (Rp.tup (rs.fresh hp) (.inl upd_same) (RpAll.step t h) : Rp K (M ++ U) _ _ _)⟩
theorem new_lst {w : World} {K : PySem.W.Frag} {U M : List Addr} {H : Hp} {s : Stk} {p : Addr} {vs : List V} {ds : List PyData} (rs : RelS K U M H s) (hp : H p = none) (h : RpAll K (M ++ U) H vs ds) :
    Step M H M (upd H p (.lst vs)) ∧ RelS K U M (upd H p (.lst vs)) s ∧ RV w K U M (upd H p (.lst vs)) (.ref p) (.list ds) := by
  obtain ⟨r', t⟩ := rs.upd (o := .lst vs) hp
  exact ⟨t, r', (Rp.lst (rs.fresh hp) (.inl upd_same) (RpAll.step t h) : Rp K (M ++ U) _ _ _)⟩
theorem RpAll.replicate {K : PySem.W.Frag} {U M : List Addr} {H : Hp} {vs : List V} {ds : List PyData} (h : RpAll K (M ++ U) H vs ds) : ∀ n : Nat, RpAll K (M ++ U) H (List.replicate n vs).flatten (List.replicate n ds).flatten
  | 0 => .nil
  | n + 1 => by
    rw [List.replicate_succ, List.replicate_succ, List.flatten_cons, List.flatten_cons]
    exact h.append (RpAll.replicate h n)
theorem RpAll.ne {K : PySem.W.Frag} {U M : List Addr} {H : Hp} {vs : List V} {ds : List PyData} (h : RpAll K (M ++ U) H vs ds) : vs ≠ [] ↔ ds ≠ [] := by
  cases h with
  | nil => simp
  | cons _ _ => simp
/-- a tuple is no mutable object -/
theorem RW.tupV {ct : CT} {w : World} {K : PySem.W.Frag} {U M : List Addr} {H : Hp} {s : Stk} {x : W} {v : V} {xs : List PyData} (r : RelS K U M H s) (h : RW ct w K U M H v x) (e : x.view s = some (.tuple xs)) : Rp K (M ++ U) H v (.tuple xs) := by
  rcases h.view r e with q | ⟨_, _, _, _, _, _, _, _, e2, _⟩
  · exact q
  · cases e2
theorem vop_bin (o : Op) : OpR X (binaryOp (opA o)) (r2D ct X.w X.K (bop o)) := by
  refine OpR.impI fun pins s σ H x y Q I h => ?_
  obtain ⟨U, M, st, wx, wy, d, e, r, rs, rx, ry, vx, vy, hg, q⟩ := h
  have fin : ∀ {v : V}, Rp X.K (M ++ U) H v r → Q v H := fun h => q _ H (Step.refl _ _) rs h.rv
  have two : ∀ {i j : Int}, d = .int i → e = .int j → x = .int i ∧ y = .int j := fun h1 h2 => ⟨rx.intV rs (h1 ▸ vx), ry.intV rs (h2 ▸ vy)⟩
  have ff : ∀ {k : Int}, r = .int k → Q (.int k) H := fun h => fin (by rw [h]; exact .int _)
  cases o with
  | add =>
    cases d with
    | int i =>
      cases e with
      | int j =>
        cases hg
        obtain ⟨e1, e2⟩ := two rfl rfl
        exact ⟨_, op_add, i, j, e1, e2, ff rfl⟩
      | _ => cases hg
    | str i =>
      cases e with
      | str j =>
        obtain ⟨c, e⟩ := iff_some hg
        subst e
        obtain ⟨e1, o1⟩ := rx.strV rs vx
        obtain ⟨e2, o2⟩ := ry.strV rs vy
        exact ⟨_, op_add_str, i, j, e1, e2, of_decide_eq_true c, fin (.str _ (fit_append o1 o2 (of_decide_eq_true c)))⟩
      | _ => cases hg
    | tuple xs =>
      cases e with
      | tuple ys =>
        obtain ⟨c, e⟩ := iff_some hg
        subst e
        have c' : xs.length + ys.length ≤ sizeLine := of_decide_eq_true c
        have zx := rx.tupV rs vx
        have zy := ry.tupV rs vy
        obtain ⟨a, vs, e1, h1, h2⟩ := Rp.sqT zx
        obtain ⟨b, us, e2, h3, h4⟩ := Rp.sqT zy
        refine ⟨_, op_catA, a, b, vs, us, e1, e2, h1, h3, by rw [h2.length, h4.length]; exact c', fun hv => ?_, fun hv hu => ?_, fun hv hu p hp => ?_⟩
        · subst hv
          cases h2
          rw [← e2]
          exact fin zy
        · subst hu
          cases h4
          rw [← e1, ] 
          exact fin (by rw [List.append_nil]; exact zx)
        · obtain ⟨t, r', v'⟩ := new_tup (w := X.w) rs hp (h2.append h4)
          exact q _ _ t r' v'
      | _ => cases hg
    | _ => cases e <;> cases hg
  | mul =>
    cases d with
    | int i =>
      cases e with
      | int j =>
        obtain ⟨c, e⟩ := iff_some hg
        subst e
        obtain ⟨e1, e2⟩ := two rfl rfl
        rcases mulOk_c c with c | c
        · exact ⟨_, op_mul, i, j, e1, e2, c, ff rfl⟩
        · exact ⟨_, op_mulW, i, j, e1, e2, c, ff rfl⟩
      | _ => cases hg
    | tuple xs =>
      cases e with
      | int k =>
        obtain ⟨c, e⟩ := iff_some hg
        subst e
        simp only [Bool.and_eq_true, decide_eq_true_eq, Bool.not_eq_true'] at c
        obtain ⟨⟨⟨c1, c2⟩, c3⟩, c4⟩ := c
        obtain ⟨a, vs, e1, h1, h2⟩ := Rp.sqT (rx.tupV rs vx)
        refine ⟨_, op_repT, a, k, vs, e1, ry.intV rs vy, h1, h2.ne.mpr (by intro z; subst z; cases c1), c2, c3, by rw [h2.length]; exact c4, fun p hp => ?_⟩
        obtain ⟨t, r', v'⟩ := new_tup (w := X.w) rs hp (h2.replicate k.toNat)
        exact q _ _ t r' v'
      | _ => cases hg
    | _ => cases e <;> cases hg
  | fdiv =>
    cases d with
    | int i =>
      cases e with
      | int j =>
        obtain ⟨c, e⟩ := iff_some hg
        subst e
        simp only [Bool.and_eq_true, decide_eq_true_eq] at c
        obtain ⟨e1, e2⟩ := two rfl rfl
        exact ⟨_, op_fdiv, i, j, e1, e2, c, ff rfl⟩
      | _ => cases hg
    | _ => cases e <;> cases hg
  | mod =>
    cases d with
    | int i =>
      cases e with
      | int j =>
        obtain ⟨c, e⟩ := iff_some hg
        subst e
        obtain ⟨e1, e2⟩ := two rfl rfl
        exact ⟨_, op_mod, i, j, e1, e2, of_decide_eq_true c, ff rfl⟩
      | _ => cases hg
    | _ => cases e <;> cases hg
  | pow =>
    cases d with
    | int i =>
      cases e with
      | int j =>
        obtain ⟨c, e⟩ := iff_some hg
        subst e
        simp only [powOk, Bool.and_eq_true, decide_eq_true_eq] at c
        obtain ⟨e1, e2⟩ := two rfl rfl
        exact ⟨_, op_pow, i, j, e1, e2, ⟨c.1.1, c.1.2, c.2⟩, ff rfl⟩
      | _ => cases hg
    | _ => cases e <;> cases hg
  | shl =>
    cases d with
    | int i =>
      cases e with
      | int j =>
        obtain ⟨c, e⟩ := iff_some hg
        subst e
        simp only [powOk, Bool.and_eq_true, decide_eq_true_eq] at c
        obtain ⟨e1, e2⟩ := two rfl rfl
        exact ⟨_, op_shl, i, j, e1, e2, ⟨c.1.1, c.1.2, c.2⟩, ff rfl⟩
      | _ => cases hg
    | _ => cases e <;> cases hg
  | shr =>
    cases d with
    | int i =>
      cases e with
      | int j =>
        obtain ⟨c, e⟩ := iff_some hg
        subst e
        obtain ⟨e1, e2⟩ := two rfl rfl
        exact ⟨_, op_shr, i, j, e1, e2, of_decide_eq_true c, ff rfl⟩
      | _ => cases hg
    | _ => cases e <;> cases hg
  | sub =>
    cases d with
    | int i =>
      cases e with
      | int j =>
        cases hg
        obtain ⟨e1, e2⟩ := two rfl rfl
        exact ⟨_, op_sub, i, j, e1, e2, ff rfl⟩
      | _ => cases hg
    | _ => cases e <;> cases hg
  | and =>
    cases d with
    | int i =>
      cases e with
      | int j =>
        cases hg
        obtain ⟨e1, e2⟩ := two rfl rfl
        exact ⟨_, op_and, i, j, e1, e2, ff rfl⟩
      | _ => cases hg
    | _ => cases e <;> cases hg
  | or =>
    cases d with
    | int i =>
      cases e with
      | int j =>
        cases hg
        obtain ⟨e1, e2⟩ := two rfl rfl
        exact ⟨_, op_or, i, j, e1, e2, ff rfl⟩
      | _ => cases hg
    | _ => cases e <;> cases hg
  | xor =>
    cases d with
    | int i =>
      cases e with
      | int j =>
        cases hg
        obtain ⟨e1, e2⟩ := two rfl rfl
        exact ⟨_, op_xor, i, j, e1, e2, ff rfl⟩
      | _ => cases hg
    | _ => cases e <;> cases hg
/-! ### comparisons -/
def rCD (ct : CT) (w : World) (K : PySem.W.Frag) (o : Cp) : R2 := r2D ct w K fun d e => (cop o d e).map PyData.bool
def cmpA : Cp → CmpOp
  | .eq => .Eq | .ne => .NotEq | .lt => .Lt | .le => .LtE | .gt => .Gt | .ge => .GtE | .in_ => .In | .notIn => .NotIn | .isV _ => .Is | .isNotV _ => .IsNot
def isIs : Cp → Bool
  | .isV _ => true
  | .isNotV _ => true
  | _ => false
theorem RW.nonE {ct : CT} {w : World} {K : PySem.W.Frag} {U M : List Addr} {H : Hp} {s : Stk} {x : W} {v : V} {d : PyData} (r : RelS K U M H s) (h : RW ct w K U M H v x) (e : x.view s = some d) : isB .none d = some (decide (v = .non)) := by
  rcases h.view r e with q | ⟨_, a, _, _, _, _, _, e1, e2, _⟩
  · cases d with
    | none => rw [Rp.nonI q] <;> rfl
    | bool b => rw [Rp.blI q] <;> rfl
    | int b => rw [Rp.intI q] <;> rfl
    | str b => rw [(Rp.strI q).1] <;> rfl
    | list b =>
      obtain ⟨a, _, e, _⟩ := Rp.sqL q
      rw [e] <;> rfl
    | tuple b =>
      obtain ⟨a, _, e, _⟩ := Rp.sqT q
      rw [e] <;> rfl
    | dict b =>
      obtain ⟨a, _, e, _⟩ := q
      rw [e] <;> rfl
  · rw [e1, e2] <;> rfl
theorem vop_cmp (o : Cp) (hu : X.A.units + 64 < cLine) (hi : isIs o = false) : OpR X (compareOp (cmpA o)) (rCD ct X.w X.K o) := by
  intro pins sh σ H x y v u Q I ax ay h
  obtain ⟨U, M, st, wx, wy, d, e, r, rs, rx, ry, vx, vy, hg, q⟩ := h
  have fb : ∀ {b : Bool}, r = .bool b → Q (.bl b) H := fun h => q _ H (Step.refl _ _) rs (by rw [h]; exact .bl _)
  obtain ⟨b, hb, er⟩ := Option.map_eq_some_iff.mp hg
  have qb := fb er.symm
  have fin : ∀ {k : Bool}, k = b → EP X pins σ Q (.bool k) sh := fun h => ⟨.bl b, H, I, by rw [h]; rfl, qb⟩
  have two : ∀ {i j : Int}, d = .int i → e = .int j → (∃ t, v = .int i t) ∧ ∃ t, u = .int j t := fun h1 h2 => by
    have e1 := rx.intV rs (h1 ▸ vx)
    have e2 := ry.intV rs (h2 ▸ vy)
    subst e1
    subst e2
    exact ⟨ax, ay⟩
  cases o with
  | eq =>
    rw [cop_eq] at hb
    obtain ⟨c, e1⟩ := iff_some hb
    simp only [depthOk, Bool.and_eq_true, decide_eq_true_eq, Bool.not_eq_true'] at c
    obtain ⟨p1, p2⟩ := rx.dpV rs vx c.1.2
    obtain ⟨p3, p4⟩ := ry.dpV rs vy c.2
    obtain ⟨as, r1⟩ := Dp.reads I d x v p1 ax
    obtain ⟨bs, r2⟩ := Dp.reads I e y u p3 ay
    exact SeqAt.compareEq_reads r1 r2 p2 p4 (by omega) (fin e1)
  | ne =>
    rw [cop_ne] at hb
    obtain ⟨c, e1⟩ := iff_some hb
    simp only [depthOk, Bool.and_eq_true, decide_eq_true_eq, Bool.not_eq_true'] at c
    obtain ⟨p1, p2⟩ := rx.dpV rs vx c.1.2
    obtain ⟨p3, p4⟩ := ry.dpV rs vy c.2
    obtain ⟨as, r1⟩ := Dp.reads I d x v p1 ax
    obtain ⟨bs, r2⟩ := Dp.reads I e y u p3 ay
    exact SeqAt.compareNe_reads r1 r2 p2 p4 (by omega) (fin e1)
  | lt =>
    cases d with
    | int i =>
      cases e with
      | int j =>
        obtain ⟨⟨t, rfl⟩, t', rfl⟩ := two rfl rfl
        exact lt_int (fin (Option.some.inj hb))
      | _ => cases hb
    | _ => cases e <;> cases hb
  | le =>
    cases d with
    | int i =>
      cases e with
      | int j =>
        obtain ⟨⟨t, rfl⟩, t', rfl⟩ := two rfl rfl
        exact le_int (fin (Option.some.inj hb))
      | _ => cases hb
    | _ => cases e <;> cases hb
  | gt =>
    cases d with
    | int i =>
      cases e with
      | int j =>
        obtain ⟨⟨t, rfl⟩, t', rfl⟩ := two rfl rfl
        exact gt_int (fin (Option.some.inj hb))
      | _ => cases hb
    | _ => cases e <;> cases hb
  | ge =>
    cases d with
    | int i =>
      cases e with
      | int j =>
        obtain ⟨⟨t, rfl⟩, t', rfl⟩ := two rfl rfl
        exact ge_int (fin (Option.some.inj hb))
      | _ => cases hb
    | _ => cases e <;> cases hb
  | in_ =>
    cases e with
    | tuple xs =>
      rw [cop_inT] at hb
      obtain ⟨c, e1⟩ := iff_some hb
      simp only [depthOk, Bool.and_eq_true, decide_eq_true_eq, Bool.not_eq_true'] at c
      have c1 : min d.depth (PyData.depthAll xs + 1) ≤ 60 := by
        have := c.1.1
        simpa only [PyData.depth] using this
      obtain ⟨p1, p2⟩ := rx.dpV rs vx c.1.2
      obtain ⟨p3, p4⟩ := ry.dpV rs vy c.2
      obtain ⟨as, r1⟩ := Dp.reads I d x v p1 ax
      obtain ⟨bs, r2⟩ := Dp.reads I _ y u p3 ay
      exact SeqAt.in_tuple_reads r2 r1 (by simpa [PyData.canLay0] using p4) p2 (by omega) (fin e1)
    | list xs =>
      rw [cop_inL] at hb
      obtain ⟨c, e1⟩ := iff_some hb
      simp only [depthOk, Bool.and_eq_true, decide_eq_true_eq, Bool.not_eq_true'] at c
      have c1 : min d.depth (PyData.depthAll xs + 1) ≤ 60 := by
        have := c.1.1
        simpa only [PyData.depth] using this
      obtain ⟨p1, p2⟩ := rx.dpV rs vx c.1.2
      obtain ⟨p3, p4⟩ := ry.dpV rs vy c.2
      obtain ⟨as, r1⟩ := Dp.reads I d x v p1 ax
      obtain ⟨bs, r2⟩ := Dp.reads I _ y u p3 ay
      exact SeqAt.in_list_reads r2 r1 (by simpa [PyData.canLay0] using p4) p2 (by omega) (fin e1)
    | _ => cases d <;> cases hb
  | notIn =>
    cases e with
    | tuple xs =>
      rw [cop_ninT] at hb
      obtain ⟨c, e1⟩ := iff_some hb
      simp only [depthOk, Bool.and_eq_true, decide_eq_true_eq, Bool.not_eq_true'] at c
      have c1 : min d.depth (PyData.depthAll xs + 1) ≤ 60 := by
        have := c.1.1
        simpa only [PyData.depth] using this
      obtain ⟨p1, p2⟩ := rx.dpV rs vx c.1.2
      obtain ⟨p3, p4⟩ := ry.dpV rs vy c.2
      obtain ⟨as, r1⟩ := Dp.reads I d x v p1 ax
      obtain ⟨bs, r2⟩ := Dp.reads I _ y u p3 ay
      exact SeqAt.notIn_tuple_reads r2 r1 (by simpa [PyData.canLay0] using p4) p2 (by omega) (fin e1)
    | list xs =>
      rw [cop_ninL] at hb
      obtain ⟨c, e1⟩ := iff_some hb
      simp only [depthOk, Bool.and_eq_true, decide_eq_true_eq, Bool.not_eq_true'] at c
      have c1 : min d.depth (PyData.depthAll xs + 1) ≤ 60 := by
        have := c.1.1
        simpa only [PyData.depth] using this
      obtain ⟨p1, p2⟩ := rx.dpV rs vx c.1.2
      obtain ⟨p3, p4⟩ := ry.dpV rs vy c.2
      obtain ⟨as, r1⟩ := Dp.reads I d x v p1 ax
      obtain ⟨bs, r2⟩ := Dp.reads I _ y u p3 ay
      exact SeqAt.notIn_list_reads r2 r1 (by simpa [PyData.canLay0] using p4) p2 (by omega) (fin e1)
    | _ => cases d <;> cases hb
  | isV c => cases hi
  | isNotV c => cases hi
/-- is None, is not None -/
theorem vop_isN : OpR X (compareOp .Is) (fun x y H Q => y = .non ∧ rCD ct X.w X.K (.isV .none) x y H Q) := by
  refine OpR.impI fun pins s σ H x y Q I h => ?_
  obtain ⟨hy, U, M, st, wx, wy, d, e, r, rs, rx, ry, vx, vy, hg, q⟩ := h
  obtain ⟨b, hb, er⟩ := Option.map_eq_some_iff.mp hg
  rw [cop_is, rx.nonE rs vx] at hb
  cases hb
  exact ⟨_, op_isN, hy, q _ H (Step.refl _ _) rs (by rw [← er]; exact .bl _)⟩
theorem vop_notN : OpR X (compareOp .IsNot) (fun x y H Q => y = .non ∧ rCD ct X.w X.K (.isNotV .none) x y H Q) := by
  refine OpR.impI fun pins s σ H x y Q I h => ?_
  obtain ⟨hy, U, M, st, wx, wy, d, e, r, rs, rx, ry, vx, vy, hg, q⟩ := h
  obtain ⟨b, hb, er⟩ := Option.map_eq_some_iff.mp hg
  rw [cop_isnt, rx.nonE rs vx] at hb
  cases hb
  exact ⟨_, op_notN, hy, q _ H (Step.refl _ _) rs (by rw [← er]; exact .bl _)⟩
/-- is True, is False, of truth values -/
theorem isB_bool {b : Bool} {d : PyData} {r : Bool} (h : isB (.bool b) d = some r) : ∃ k, d = .bool k ∧ r = decide (k = b) := by
  cases d with
  | bool k =>
    cases h
    exact ⟨k, rfl, rfl⟩
  | _ => cases h
theorem vop_isB (b : Bool) : OpR X (compareOp .Is) (fun x y H Q => y = .bl b ∧ rCD ct X.w X.K (.isV (.bool b)) x y H Q) := by
  refine OpR.impI fun pins s σ H x y Q I h => ?_
  obtain ⟨hy, U, M, st, wx, wy, d, e, r, rs, rx, ry, vx, vy, hg, q⟩ := h
  obtain ⟨c, hb, er⟩ := Option.map_eq_some_iff.mp hg
  rw [cop_is] at hb
  obtain ⟨k, e1, e2⟩ := isB_bool hb
  exact ⟨_, op_is_bl, k, b, rx.blV rs (e1 ▸ vx), hy, q _ H (Step.refl _ _) rs (by rw [← er, e2]; exact .bl _)⟩
theorem vop_notB (b : Bool) : OpR X (compareOp .IsNot) (fun x y H Q => y = .bl b ∧ rCD ct X.w X.K (.isNotV (.bool b)) x y H Q) := by
  refine OpR.impI fun pins s σ H x y Q I h => ?_
  obtain ⟨hy, U, M, st, wx, wy, d, e, r, rs, rx, ry, vx, vy, hg, q⟩ := h
  obtain ⟨c, hb, er⟩ := Option.map_eq_some_iff.mp hg
  rw [cop_isnt] at hb
  obtain ⟨c', hb', ec⟩ := Option.map_eq_some_iff.mp hb
  obtain ⟨k, e1, e2⟩ := isB_bool hb'
  exact ⟨_, op_isnot_bl, k, b, rx.blV rs (e1 ▸ vx), hy, q _ H (Step.refl _ _) rs (by rw [← er, ← ec, e2]; exact .bl _)⟩
end
end MP
set_option maxRecDepth 10000
/-! MPVbi: built-ins, methods, subscripts, slices upon data. -/
namespace MP
open PySem PySem.Spec L2
open PyProof.Rows hiding St
/-- a built-in of data -/
def rBi (ct : CT) (w : World) (K : PySem.W.Frag) (b : Bi) : List V → Hp → VK → Prop := fun vs H Q => ∃ U M s ws ds r, RelS K U M H s ∧ RWs ct w K U M H vs ws ∧ views s ws = some ds ∧ bfn b ds = some r ∧
  ∀ v H', Step M H M H' → RelS K U M H' s → RV w K U M H' v r → Q v H'
theorem CallR.impI {X : Cx} {f : Value} {r' : List V → Hp → VK → Prop}
    (i : ∀ (pins : List (Addr × Obj)) (s : Shared) (σ : L2.St) (H : Hp) (xs : List V) (Q : VK), Inv X pins σ H s → r' xs H Q → ∃ r, CallR X f r ∧ r xs H Q) : CallR X f r' := fun pins s σ H xs us Q I rx q => by
  obtain ⟨r, h, q'⟩ := i pins s σ H xs Q I q
  exact h pins s σ H xs us Q I rx q'
theorem views1 {ct : CT} {w : World} {K : PySem.W.Frag} {U M : List Addr} {H : Hp} {s : Stk} {vs : List V} {ws : List W} {d : PyData} (r : RWs ct w K U M H vs ws) (e : views s ws = some [d]) : ∃ v x, vs = [v] ∧ RW ct w K U M H v x ∧ x.view s = some d := by
  cases r with
  | nil => cases e
  | cons r t =>
    rename_i v vs' x xs'
    rw [views_cons] at e
    cases hx : x.view s with
    | none =>
      rw [hx] at e
      cases e
    | some d' =>
      rw [hx] at e
      cases ht : views s xs' with
      | none =>
        rw [ht] at e
        cases e
      | some ds =>
        rw [ht] at e
        cases t with
        | nil =>
          cases e
          exact ⟨v, x, rfl, r, hx⟩
        | cons r2 t2 =>
          rename_i v2 vs2 x2 xs2
          rw [views_cons] at ht
          cases h2 : x2.view s with
          | none =>
            rw [h2] at ht
            cases ht
          | some d2 =>
            rw [h2] at ht
            cases h3 : views s xs2 with
            | none =>
              rw [h3] at ht
              cases ht
            | some ds3 =>
              rw [h3] at ht
              cases ht
              cases e
theorem views2 {ct : CT} {w : World} {K : PySem.W.Frag} {U M : List Addr} {H : Hp} {s : Stk} {vs : List V} {ws : List W} {d e : PyData} (r : RWs ct w K U M H vs ws) (q : views s ws = some [d, e]) :
    ∃ v x u y, vs = [v, u] ∧ RW ct w K U M H v x ∧ x.view s = some d ∧ RW ct w K U M H u y ∧ y.view s = some e := by
  cases r with
  | nil => cases q
  | cons r t =>
    rename_i v vs' x xs'
    rw [views_cons] at q
    cases hx : x.view s with
    | none =>
      rw [hx] at q
      cases q
    | some d' =>
      rw [hx] at q
      cases ht : views s xs' with
      | none =>
        rw [ht] at q
        cases q
      | some ds =>
        rw [ht] at q
        cases q
        obtain ⟨u, y, e1, r2, h2⟩ := views1 t ht
        subst e1
        exact ⟨v, x, u, y, rfl, r, hx, r2, h2⟩
def tyN : Ty → String
  | .int => "int" | .bool => "bool" | .str => "str" | .tuple => "tuple" | .list => "list"
/-- a datum's type -/
def tyOf : PyData → String
  | .none => "NoneType" | .bool _ => "bool" | .int _ => "int" | .str _ => "str" | .list _ => "list" | .tuple _ => "tuple" | .dict _ => "dict"
theorem Rd.tyL {K : PySem.W.Frag} {H : Hp} {a : Addr} {xs : List V} (h : Rd H a (.lst xs)) : TyX K H (.ref a) (.type "list") := by
  rcases h with h | ⟨o, h⟩
  · exact .base (.lst h)
  · exact .base (.frz h)
theorem Rd.tyT {K : PySem.W.Frag} {H : Hp} {a : Addr} {xs : List V} (h : Rd H a (.tup xs)) : TyX K H (.ref a) (.type "tuple") := by
  rcases h with h | ⟨o, h⟩
  · exact .base (.tup h)
  · exact .fTuple h
theorem RW.ty {ct : CT} {w : World} {K : PySem.W.Frag} {U M : List Addr} {H : Hp} {s : Stk} {x : W} {v : V} {d : PyData} (r : RelS K U M H s) (h : RW ct w K U M H v x) (e : x.view s = some d) (hd : isDict d = false) : TyX K H v (.type (tyOf d)) := by
  rcases h.view r e with q | ⟨_, a, _, _, _, _, _, e1, e2, e3, _⟩
  · have q := q.rp hd
    cases q with
    | non => exact .base .non
    | bl b => exact .base (.bl b)
    | int b => exact .base (.int b)
    | str b => exact .base (.str b)
    | lst h1 h2 h3 => exact Rd.tyL h2
    | lstK h1 h2 =>
      rcases h1 (fun _ => none) with (z | ⟨_, z⟩) | ⟨o, its, n, k1, k2, _⟩
      · cases z
      · cases z
      · exact .kList k1 k2
    | tup h1 h2 h3 => exact Rd.tyT h2
    | tupK h1 h2 =>
      rcases h1 (fun _ => none) with (z | ⟨_, z⟩) | ⟨o, its, n, k1, k2, _⟩
      · cases z
      · cases z
      · exact .kTuple k1 k2
  · subst e1 e2
    exact .base (.lst e3)
section
variable {X : Cx} {ct : CT}
def kitX (t : Ty) (n : String) : Bool := n == tyN t || (n == "bool" && tyN t == "int")
theorem kit_tab (t : Ty) (n : String) (h : n ∈ ["NoneType", "bool", "int", "str", "list", "tuple"]) : kitB n (tyN t) = some (kitX t n) := by
  simp only [List.mem_cons, List.not_mem_nil, or_false] at h
  rcases h with rfl | rfl | rfl | rfl | rfl | rfl <;> cases t <;> decide +kernel
theorem kit_all (t : Ty) (d : PyData) (hd : isDict d = false) : kitB (tyOf d) (tyN t) = isTy t d := by
  have h : tyOf d ∈ ["NoneType", "bool", "int", "str", "list", "tuple"] := by cases d <;> first | (simp [tyOf]; done) | cases hd
  rw [kit_tab t _ h]
  cases d <;> cases t <;> first | rfl | cases hd
theorem isTy_nd {t : Ty} {d : PyData} {b : Bool} (h : isTy t d = some b) : isDict d = false := by
  cases d with
  | dict _ => cases t <;> cases h
  | _ => rfl
def fnV : Bi → Value
  | .len => .builtin "len" | .int => .type "int" | .abs => .builtin "abs" | .all => .builtin "all" | .any => .builtin "any" | .sum => .builtin "sum" | .tuple => .type "tuple"
  | .repr => .builtin "repr" | .isa _ => .builtin "isinstance" | .min2 => .builtin "min" | .max2 => .builtin "max"
def isIsa : Bi → Bool
  | .isa _ => true
  | .repr => true
  | _ => false
theorem vop_bi (b : Bi) (hc : X.calm = true) (hb : isIsa b = false) : CallR X (fnV b) (rBi ct X.w X.K b) := by
  refine CallR.impI fun pins s σ H vs Q I h => ?_
  obtain ⟨U, M, st, ws, ds, r, rs, rx, vx, hg, q⟩ := h
  have fin : ∀ {v : V}, Rp X.K (M ++ U) H v r → Q v H := fun h => q _ H (Step.refl _ _) rs h.rv
  cases b with
  | isa t => cases hb
  | repr => cases hb
  | len =>
    cases ds with
    | nil => cases hg
    | cons d ds =>
      cases ds with
      | cons e es => cases d <;> cases hg
      | nil =>
        obtain ⟨v, x, e1, r1, v1⟩ := views1 rx vx
        cases d with
        | list xs =>
          cases hg
          obtain ⟨a, us, e2, h1, h2⟩ := r1.sqL rs v1
          refine ⟨_, call_len_seq, a, us, by rw [e1, e2], .inl h1, ?_⟩
          rw [h2.length]
          exact fin (.int _)
        | tuple xs =>
          cases hg
          obtain ⟨a, us, e2, h1, h2⟩ := r1.sqT rs v1
          refine ⟨_, call_len_seq, a, us, by rw [e1, e2], .inr h1, ?_⟩
          rw [h2.length]
          exact fin (.int _)
        | str z =>
          cases hg
          obtain ⟨e2, h2⟩ := r1.strV rs v1
          exact ⟨_, call_len_str, z, by rw [e1, e2], strFit.le h2, fin (.int _)⟩
        | _ => cases hg
  | int =>
    cases ds with
    | nil => cases hg
    | cons d ds =>
      cases ds with
      | cons e es => cases d <;> cases hg
      | nil =>
        obtain ⟨v, x, e1, r1, v1⟩ := views1 rx vx
        cases d with
        | int i =>
          cases hg
          exact ⟨_, call_int1, .inl ⟨i, by rw [e1, r1.intV rs v1], fin (.int _)⟩⟩
        | bool k =>
          cases hg
          exact ⟨_, call_int1, .inr ⟨k, by rw [e1, r1.blV rs v1], fin (.int _)⟩⟩
        | _ => cases hg
  | abs =>
    cases ds with
    | nil => cases hg
    | cons d ds =>
      cases ds with
      | cons e es => cases d <;> cases hg
      | nil =>
        obtain ⟨v, x, e1, r1, v1⟩ := views1 rx vx
        cases d with
        | int i =>
          cases hg
          exact ⟨_, call_abs, i, by rw [e1, r1.intV rs v1], fin (.int _)⟩
        | _ => cases hg
  | all =>
    cases ds with
    | nil => cases hg
    | cons d ds =>
      cases ds with
      | cons e es => cases d <;> cases hg
      | nil =>
        obtain ⟨v, x, e1, r1, v1⟩ := views1 rx vx
        cases d with
        | list xs =>
          rw [bfn_all] at hg
          obtain ⟨bs, hbs, er⟩ := Option.map_eq_some_iff.mp hg
          obtain ⟨a, us, e2, h1, h2⟩ := r1.sqL rs v1
          have e3 := h2.bools hbs
          exact ⟨_, cr_all hc, a, bs, by rw [e1, e2], e3 ▸ h1, fin (by rw [← er]; exact .bl _)⟩
        | _ => cases hg
  | any =>
    cases ds with
    | nil => cases hg
    | cons d ds =>
      cases ds with
      | cons e es => cases d <;> cases hg
      | nil =>
        obtain ⟨v, x, e1, r1, v1⟩ := views1 rx vx
        cases d with
        | list xs =>
          rw [bfn_any] at hg
          obtain ⟨bs, hbs, er⟩ := Option.map_eq_some_iff.mp hg
          obtain ⟨a, us, e2, h1, h2⟩ := r1.sqL rs v1
          have e3 := h2.bools hbs
          exact ⟨_, cr_any hc, a, bs, by rw [e1, e2], e3 ▸ h1, fin (by rw [← er]; exact .bl _)⟩
        | _ => cases hg
  | sum =>
    cases ds with
    | nil => cases hg
    | cons d ds =>
      cases ds with
      | cons e es => cases d <;> cases hg
      | nil =>
        obtain ⟨v, x, e1, r1, v1⟩ := views1 rx vx
        cases d with
        | list xs =>
          rw [bfn_sum] at hg
          obtain ⟨bs, hbs, er⟩ := Option.map_eq_some_iff.mp hg
          obtain ⟨a, us, e2, h1, h2⟩ := r1.sqL rs v1
          have e3 := h2.ints hbs
          exact ⟨_, cr_sum hc, a, bs, by rw [e1, e2], e3 ▸ h1, fin (by rw [← er]; exact .int _)⟩
        | _ => cases hg
  | tuple =>
    cases ds with
    | nil => cases hg
    | cons d ds =>
      cases ds with
      | cons e es => cases d <;> cases hg
      | nil =>
        obtain ⟨v, x, e1, r1, v1⟩ := views1 rx vx
        cases d with
        | list xs =>
          cases hg
          obtain ⟨a, us, e2, h1, h2⟩ := r1.sqL rs v1
          refine ⟨_, call_tuple_of, a, us, by rw [e1, e2], .inl ⟨h1, fun p hp => ?_⟩⟩
          obtain ⟨t, r', v'⟩ := new_tup (w := X.w) rs hp h2
          exact q _ _ t r' v'
        | tuple xs =>
          cases hg
          have z := r1.tupV rs v1
          obtain ⟨a, us, e2, h1, h2⟩ := Rp.sqT z
          exact ⟨_, call_tuple_of, a, us, by rw [e1, e2], .inr ⟨h1, by rw [← e2]; exact fin z⟩⟩
        | _ => cases hg
  | min2 =>
    cases ds with
    | nil => cases hg
    | cons d ds =>
      cases ds with
      | nil => cases d <;> cases hg
      | cons e es =>
        cases es with
        | cons _ _ => cases d <;> cases e <;> cases hg
        | nil =>
          obtain ⟨v, x, u, y, e1, r1, v1, r2, v2⟩ := views2 rx vx
          cases d with
          | int i =>
            cases e with
            | int j =>
              cases hg
              exact ⟨_, call_min2 hc, i, j, by rw [e1, r1.intV rs v1, r2.intV rs v2], fin (.int _)⟩
            | _ => cases hg
          | _ => cases e <;> cases hg
  | max2 =>
    cases ds with
    | nil => cases hg
    | cons d ds =>
      cases ds with
      | nil => cases d <;> cases hg
      | cons e es =>
        cases es with
        | cons _ _ => cases d <;> cases e <;> cases hg
        | nil =>
          obtain ⟨v, x, u, y, e1, r1, v1, r2, v2⟩ := views2 rx vx
          cases d with
          | int i =>
            cases e with
            | int j =>
              cases hg
              exact ⟨_, call_max2 hc, i, j, by rw [e1, r1.intV rs v1, r2.intV rs v2], fin (.int _)⟩
            | _ => cases hg
          | _ => cases e <;> cases hg
/-- isinstance(x, T) -/
theorem vop_isa (t : Ty) : CallR X (.builtin "isinstance") fun vs H Q => ∃ v, vs = [v, .ty (tyN t)] ∧ rBi ct X.w X.K (.isa t) [v] H Q := by
  refine CallR.impI fun pins s σ H vs Q I h => ?_
  obtain ⟨v, ev, U, M, st, ws, ds, r, rs, rx, vx, hg, q⟩ := h
  cases ds with
  | nil => cases hg
  | cons d ds =>
    cases ds with
    | cons e es => cases d <;> cases hg
    | nil =>
      obtain ⟨v', x, e1, r1, v1⟩ := views1 rx vx
      cases e1
      rw [bfn_isa] at hg
      obtain ⟨b, hb, er⟩ := Option.map_eq_some_iff.mp hg
      have hd := isTy_nd hb
      exact ⟨_, call_isi, v, .ty (tyN t), .type (tyOf d), .type (tyN t), b, ev, .ty _, r1.ty rs v1 hd, kit_ty ((kit_all t d hd).trans hb), q _ H (Step.refl _ _) rs (by rw [← er]; exact (.bl _ : Rp X.K (M ++ U) H _ _))⟩
theorem shown_ok (d : PyData) : True := trivial
/-- repr(x) -/
theorem vop_repr (hg0 : X.A.guards = some []) (hu : X.A.units + 64 < cLine) : CallR X (.builtin "repr") (rBi ct X.w X.K .repr) := by
  intro pins s σ H xs us Q I rv h
  obtain ⟨U, M, st, ws, ds, r, rs, rx, vx, hg, q⟩ := h
  cases ds with
  | nil => cases hg
  | cons d ds =>
    cases ds with
    | cons e es => cases d <;> cases hg
    | nil =>
      obtain ⟨v', x, e1, r1, v1⟩ := views1 rx vx
      subst e1
      rw [bfn_repr] at hg
      obtain ⟨c, e2⟩ := iff_some hg
      subst e2
      simp only [reprOk, Bool.and_eq_true, decide_eq_true_eq, Bool.not_eq_true'] at c
      obtain ⟨⟨⟨c1, c2⟩, c3⟩, hf⟩ := c
      have c4 := strFit.le hf
      have qs : Q (.str d.shown) H := q _ H (Step.refl _ _) rs (by exact (Rp.str _ hf : Rp X.K (M ++ U) H _ _))
      have hd : isDict d = false := by
        cases d with
        | dict _ => simp [PyData.hasDict] at c2
        | _ => rfl
      obtain ⟨p1, p2⟩ := r1.dpV rs v1 hd
      cases rv with
      | cons ra rt =>
        cases rt
        obtain ⟨as, rd⟩ := Dp.reads I d v' _ p1 ra
        cases p1 with
        | non =>
          cases ra
          exact PySem.P.repr_of_none ⟨.str _, H, I.tok _, ⟨_, rfl⟩, qs⟩
        | bl b =>
          cases ra
          exact PySem.P.repr_of_bool ⟨.str _, H, I.tok _, ⟨_, rfl⟩, qs⟩
        | int i =>
          obtain ⟨t, rfl⟩ := ra
          exact PySem.P.repr_of_int (by simpa [PyData.showable] using c1) ⟨.str _, H, I.tok _, ⟨_, rfl⟩, qs⟩
        | str z =>
          obtain ⟨t, rfl⟩ := ra
          exact PySem.P.repr_of_str ⟨.str _, H, I.tok _, ⟨_, rfl⟩, qs⟩ c4
        | lst h1 h2 =>
          cases ra
          exact repr_of_reads' rd c1 (fun z => by rw [c2] at z; cases z) hg0 (by omega) (fun _ _ e => e) (fun h' u tk hk => ⟨.str _, H, I.kept hk, ⟨_, rfl⟩, qs⟩) c4
        | tup h1 h2 =>
          cases ra
          exact repr_of_reads' rd c1 (fun z => by rw [c2] at z; cases z) hg0 (by omega) (fun _ _ e => e) (fun h' u tk hk => ⟨.str _, H, I.kept hk, ⟨_, rfl⟩, qs⟩) c4
/-! ### subscripts -/
theorem IxR.impI {r' : R2} (i : ∀ (pins : List (Addr × Obj)) (s : Shared) (σ : L2.St) (H : Hp) (x y : V) (Q : VK), Inv X pins σ H s → r' x y H Q → ∃ r, IxR X r ∧ r x y H Q) : IxR X r' := fun va sl pins s σ H x y v u Q I rx ry q hs => by
  obtain ⟨r, h, q'⟩ := i pins s σ H x y Q I q
  exact h va sl pins s σ H x y v u Q I rx ry q' hs
theorem RpAll.atI {K : PySem.W.Frag} {U M : List Addr} {H : Hp} {vs : List V} {ds : List PyData} {i : Int} {d : PyData} (h : RpAll K (M ++ U) H vs ds) (e : L2.atI ds i = some d) : ∃ v, L2.atI vs i = some v ∧ Rp K (M ++ U) H v d := by
  unfold L2.atI at *
  rw [h.length]
  cases q : ixN ds.length i with
  | none =>
    rw [q] at e
    cases e
  | some j =>
    rw [q] at e
    exact h.get e
theorem fit_one {z : Str} {c : Nat} (h : strFit z = true) (hc : c ∈ z.cps.toList) : strFit ⟨#[c]⟩ = true := by
  have o := strFit.ok h
  unfold PyData.strOk at o
  have o1 := (Array.all_eq_true'.mp o) c (by simpa using hc)
  unfold strFit PyData.strOk
  rw [Bool.and_eq_true]
  exact ⟨by simpa using o1, decide_eq_true (show 1 ≤ sizeLine by decide)⟩
theorem atI_mem {α : Type} {xs : List α} {i : Int} {x : α} (h : L2.atI xs i = some x) : x ∈ xs := by
  unfold L2.atI at h
  cases q : ixN xs.length i with
  | none =>
    rw [q] at h
    cases h
  | some j =>
    rw [q] at h
    exact List.mem_of_getElem? h
theorem vop_sub : IxR X (r2D ct X.w X.K subD) := by
  refine IxR.impI fun pins s σ H x y Q I h => ?_
  obtain ⟨U, M, st, wx, wy, d, e, r, rs, rx, ry, vx, vy, hg, q⟩ := h
  have fin : ∀ {v : V}, Rp X.K (M ++ U) H v r → Q v H := fun h => q _ H (Step.refl _ _) rs h.rv
  cases d with
  | list xs =>
    cases e with
    | int i =>
      obtain ⟨a, vs, e1, h1, h2⟩ := rx.sqL rs vx
      obtain ⟨v, h3, h4⟩ := h2.atI (show L2.atI xs i = some r from hg)
      exact ⟨_, ix_list, a, vs, i, v, e1, ry.intV rs vy, h1, h3, fin h4⟩
    | _ => cases hg
  | tuple xs =>
    cases e with
    | int i =>
      obtain ⟨a, vs, e1, h1, h2⟩ := rx.sqT rs vx
      obtain ⟨v, h3, h4⟩ := h2.atI (show L2.atI xs i = some r from hg)
      exact ⟨_, ix_tup, a, vs, i, v, e1, ry.intV rs vy, h1, h3, fin h4⟩
    | _ => cases hg
  | str z =>
    cases e with
    | int i =>
      rw [subD_S] at hg
      obtain ⟨c, hc, er⟩ := Option.map_eq_some_iff.mp hg
      obtain ⟨e1, f1⟩ := rx.strV rs vx
      exact ⟨_, ix_str, z, i, c, e1, ry.intV rs vy, strFit.le f1, hc, fin (by rw [← er]; exact .str _ (fit_one f1 (atI_mem hc)))⟩
    | _ => cases hg
  | _ => cases e <;> cases hg
/-! ### slices -/
theorem SlR.impI {r' : V → Option Int → Option Int → Hp → VK → Prop} (i : ∀ (pins : List (Addr × Obj)) (s : Shared) (σ : L2.St) (H : Hp) (x : V) (lo hi : Option Int) (Q : VK), Inv X pins σ H s → r' x lo hi H Q → ∃ r, SlR X r ∧ r x lo hi H Q) : SlR X r' :=
  fun pins s σ H x v vl vu lo hi sl Q I rx hs pl pu q => by
    obtain ⟨r, h, q'⟩ := i pins s σ H x lo hi Q I q
    exact h pins s σ H x v vl vu lo hi sl Q I rx hs pl pu q'
def rSlD (w : World) (K : PySem.W.Frag) : V → Option Int → Option Int → Hp → VK → Prop := fun x lo hi H Q => ∃ U M s d r, RelS K U M H s ∧ RV w K U M H x d ∧ slice d lo hi = some r ∧ ∀ v H', Step M H M H' → RelS K U M H' s → RV w K U M H' v r → Q v H'
theorem cutL_whole {α : Type} {xs : List α} {lo hi : Option Int} (h : HT.sIx xs.length 0 lo = 0 ∧ HT.sIx xs.length xs.length hi = xs.length) : cutL xs lo hi = xs := by
  unfold cutL
  rw [h.1, h.2]
  simp
theorem fit_cut {z : Str} (h : strFit z = true) (lo hi : Option Int) : strFit (cutS z lo hi) = true := by
  have o := strFit.ok h
  unfold PyData.strOk at o
  unfold strFit PyData.strOk cutS
  rw [Bool.and_eq_true]
  constructor
  · rw [Array.all_eq_true']
    intro c hc
    refine (Array.all_eq_true'.mp o) c ?_
    have h1 : c ∈ ((z.cps.toList.drop (HT.sIx z.length 0 lo)).take (HT.sIx z.length z.length hi - HT.sIx z.length 0 lo)) := by simpa using hc
    have h2 : c ∈ z.cps.toList := List.mem_of_mem_drop (List.mem_of_mem_take h1)
    simpa using h2
  · refine decide_eq_true ?_
    have h1 := strFit.le h
    have h2 : ((z.cps.toList.drop (HT.sIx z.length 0 lo)).take (HT.sIx z.length z.length hi - HT.sIx z.length 0 lo)).length ≤ z.cps.toList.length := by
      rw [List.length_take, List.length_drop]
      omega
    show (List.toArray _).size ≤ _
    rw [List.size_toArray]
    refine Nat.le_trans h2 ?_
    rw [Array.length_toList]
    exact h1
theorem vop_slc : SlR X (rSlD X.w X.K) := by
  refine SlR.impI fun pins s σ H x lo hi Q I h => ?_
  obtain ⟨U, M, st, d, r, rs, rx, hg, q⟩ := h
  have fin : ∀ {v : V}, Rp X.K (M ++ U) H v r → Q v H := fun h => q _ H (Step.refl _ _) rs h.rv
  cases d with
  | tuple xs =>
    cases hg
    obtain ⟨a, vs, e1, h1, h2⟩ := Rp.sqT rx
    refine ⟨_, sl_tupA, a, vs, e1, h1, fun hw => ?_, fun hw p hp => ?_⟩
    · rw [← e1]
      refine fin ?_
      rw [cutL_whole (by rw [← h2.length]; exact hw)]
      exact rx
    · obtain ⟨t, r', v'⟩ := new_tup (w := X.w) rs hp (h2.cut lo hi)
      exact q _ _ t r' v'
  | str z =>
    cases hg
    obtain ⟨e1, f1⟩ := Rp.strI rx
    exact ⟨_, sl_str, z, e1, strFit.le f1, fin (.str _ (fit_cut f1 lo hi))⟩
  | list xs =>
    cases hg
    obtain ⟨a, vs, e1, h1, h2⟩ := Rp.sqL rx
    refine ⟨_, sl_list, a, vs, e1, h1, fun p hp => ?_⟩
    obtain ⟨t, r', v'⟩ := new_lst (w := X.w) rs hp (h2.cut lo hi)
    exact q _ _ t r' v'
  | _ => cases hg
end
end MP
set_option maxRecDepth 10000
/-! MPExp: expressions: the run of an E stands for the run of the text. -/
namespace MP
open PySem PySem.Spec L2
open PyProof.Rows hiding St
theorem pei {X : Cx} {e : Expr} {t t' : TE} (h : PE X e t) (i : ∀ σ H Q, t' σ H Q → t σ H Q) : PE X e t' := ⟨fun pins s σ H Q I q => h.run pins s σ H Q I (i σ H Q q)⟩
theorem pti {X : Cx} {e : Expr} {t t' : TT} (h : PT X e t) (i : ∀ σ H Q, t' σ H Q → t σ H Q) : PT X e t' := ⟨fun pins s σ H Q I q => h.run pins s σ H Q I (i σ H Q q)⟩
theorem pai {X : Cx} {e : List Expr} {t t' : TA} (h : PA X e t) (i : ∀ σ H Q, t' σ H Q → t σ H Q) : PA X e t' := ⟨fun pos pins s σ H Q I q => h.run pos pins s σ H Q I (i σ H Q q)⟩
/-- the run of r is met, from some reach -/
def rd (w : World) (K : PySem.W.Frag) (ct : CT) (Wx : WX) {α : Type} (run : Ve → Stk → Res α) (σ : St) (H : Hp) (Q : List Addr → α → List Addr → Hp → Stk → Prop) : Prop :=
  ∃ U M s env, RelS K U M H s ∧ REnv ct w K U M H σ env ∧ Post ct K U Wx σ M H (run env s) (Q U)
def tE (w : World) (K : PySem.W.Frag) (ct : CT) (Wx : WX) (C : Callf) (e : E) : TE := fun σ H Q => rd w K ct Wx (evE C e) σ H fun U x M' H' _ => ∀ v, RW ct w K U M' H' v x → Q v H'
def tT (w : World) (K : PySem.W.Frag) (ct : CT) (Wx : WX) (C : Callf) (e : T) : TT := fun σ H Q => rd w K ct Wx (evT C e) σ H fun _ b _ H' _ => Q b H'
def tEs (w : World) (K : PySem.W.Frag) (ct : CT) (Wx : WX) (C : Callf) (e : Es) : TA := fun σ H Q => rd w K ct Wx (evEs C e) σ H fun U x M' H' _ => ∀ v, RWs ct w K U M' H' v x → Q v H'
/-- a list that is made: it stands new at a -/
def tN (w : World) (K : PySem.W.Frag) (ct : CT) (Wx : WX) (C : Callf) (e : N) : TE := fun σ H Q => rd w K ct Wx (evN C e) σ H fun U xs M' H' _ => ∀ a vs, H a = none → a ∉ M' ++ U → H' a = some (.lst vs) → RpAll K (M' ++ (a :: U)) H' vs xs → Q (.ref a) H'
section
variable {X : Cx} {ct : CT} {Wx : WX} {C : Callf} {a b c : Expr} {ea eb ec : E} {pos : Pos}
/-- the reading's shape: what is known, then what is wanted -/
theorem rd.go {ct : CT} {w : World} {K : PySem.W.Frag} {α : Type} {run : Ve → Stk → Res α} {σ : St} {H : Hp} {R : List Addr → α → List Addr → Hp → Stk → Prop} {P : Prop} (h : rd w K ct Wx run σ H R)
    (k : ∀ U M s env, RelS K U M H s → REnv ct w K U M H σ env → Post ct K U Wx σ M H (run env s) (R U) → P) : P := by
  obtain ⟨U, M, s, env, h1, h2, h3⟩ := h
  exact k U M s env h1 h2 h3
/-! ### names and constants -/
theorem x_var {i : Nat} {x : Str} (h : PE X (.Name x pos) (tVar i)) : PE X (.Name x pos) (tE X.w X.K ct Wx C (.var i)) := by
  refine pei h fun σ H Q h => h.go fun U M s env r n p => ?_
  cases e : env[i]? with
  | none =>
    simp only [evE, e] at p
    exact p.elim
  | some o =>
    cases o with
    | none =>
      simp only [evE, e] at p
      exact p.elim
    | some x =>
      simp only [evE, e] at p
      obtain ⟨v, h1, h2⟩ := n.at_ i x e
      exact ⟨v, h1, p.here r v h2⟩
theorem x_cst {v : V} {d : PyData} {e : Expr} (h : PE X e (tC v)) (hd : ∀ U M H, RV X.w X.K U M H v d) : PE X e (tE X.w X.K ct Wx C (.cst d)) := by
  refine pei h fun σ H Q h => h.go fun U M s env r n p => ?_
  simp only [evE] at p
  exact p.here r v (hd U M H)
theorem x_int {i : Int} {j : Nat} : PE X (.Constant (.int i) j pos) (tE X.w X.K ct Wx C (.cst (.int i))) := x_cst pe_int fun U M H => (.int i : Rp X.K _ H _ _)
theorem x_bl {i : Bool} {j : Nat} : PE X (.Constant (.bool i) j pos) (tE X.w X.K ct Wx C (.cst (.bool i))) := x_cst pe_bl fun U M H => (.bl i : Rp X.K _ H _ _)
theorem x_non {j : Nat} : PE X (.Constant .none j pos) (tE X.w X.K ct Wx C (.cst .none)) := x_cst pe_non fun U M H => (.non : Rp X.K _ H _ _)
theorem x_str {z : Str} {j : Nat} (h : strFit z = true) : PE X (.Constant (.str z) j pos) (tE X.w X.K ct Wx C (.cst (.str z))) := x_cst pe_str fun U M H => (.str z h : Rp X.K _ H _ _)
/-! ### two operands -/
/-- two operands one after the other -/
theorem two_go {ct : CT} {w : World} {K : PySem.W.Frag} {σ : St} {H : Hp} {β : Type} {f : W → W → Stk → Res β} {R : List Addr → β → List Addr → Hp → Stk → Prop} {S : V → V → Hp → Prop}
    (h : rd w K ct Wx (fun env s => (evE C ea env s).bind fun x s1 => (evE C eb env s1).bind fun y s2 => f x y s2) σ H R)
    (k : ∀ U M1 H1 s1 x y v u, RelS K U M1 H1 s1 → RW ct w K U M1 H1 v x → RW ct w K U M1 H1 u y → Post ct K U Wx σ M1 H1 (f x y s1) (R U) → S v u H1) :
    tE w K ct Wx C ea σ H fun v H1 => tE w K ct Wx C eb σ H1 fun u H2 => S v u H2 := by
  obtain ⟨U, M, s, env, r, n, p⟩ := h
  refine ⟨U, M, s, env, r, n, p.bind.mono fun x M1 H1 s1 t1 r1 p1 v rv => ?_⟩
  refine ⟨U, M1, s1, env, r1, n.step t1, p1.bind.mono fun y M2 H2 s2 t2 r2 p2 u ru => ?_⟩
  exact k U M2 H2 s2 x y v u r2 (rv.step t2) ru p2
/-- .. whose views meet an operation -/
theorem op_go {ct : CT} {w : World} {K : PySem.W.Frag} {σ : St} {H : Hp} {g : PyData → PyData → Option PyData} {Q : VK}
    (h : rd w K ct Wx (fun env s => (evE C ea env s).bind fun x s1 => (evE C eb env s1).bind fun y s2 => match x.view s2, y.view s2 with
      | some d, some e => (Res.of s2 (g d e)).bind fun r s3 => (.ok (.val r) s3 : Res W)
      | _, _ => .stuck) σ H fun U x M' H' _ => ∀ v, RW ct w K U M' H' v x → Q v H') :
    tE w K ct Wx C ea σ H fun v H1 => tE w K ct Wx C eb σ H1 fun u H2 => r2D ct w K g v u H2 Q := by
  refine two_go (f := fun x y s2 => match x.view s2, y.view s2 with
      | some d, some e => (Res.of s2 (g d e)).bind fun r s3 => (.ok (.val r) s3 : Res W)
      | _, _ => .stuck) h fun U M1 H1 s x y v u r rx ry p => ?_
  cases hx : x.view s with
  | none =>
    simp only [hx] at p
    exact p.elim
  | some d =>
    cases hy : y.view s with
    | none =>
      simp only [hx, hy] at p
      exact p.elim
    | some e =>
      simp only [hx, hy] at p
      cases hg : g d e with
      | none =>
        simp only [hg] at p
        exact p.elim
      | some z =>
        simp only [hg] at p
        exact ⟨U, M1, s, x, y, d, e, z, r, rx, ry, hx, hy, hg, fun v' H' t r' rv => p _ H' t r' v' rv⟩
theorem x_bin {o : Op} (ha : PE X a (tE X.w X.K ct Wx C ea)) (hb : PE X b (tE X.w X.K ct Wx C eb)) : PE X (.BinOp a (opA o) b pos) (tE X.w X.K ct Wx C (.bin o ea eb)) :=
  pei (pe_op (vop_bin o) ha hb) fun σ H Q h => op_go h
theorem x_sub (ha : PE X a (tE X.w X.K ct Wx C ea)) (hb : PE X b (tE X.w X.K ct Wx C eb)) (hs : PlainIx b) : PE X (.Subscript a b pos) (tE X.w X.K ct Wx C (.sub ea eb)) :=
  pei (pe_ix vop_sub ha hb hs) fun σ H Q h => op_go h
theorem cop_bind {o : Cp} {s : Stk} {d e : PyData} : ((Res.of s (cop o d e)).bind fun r s3 => (.ok (.val (.bool r)) s3 : Res W)) = (Res.of s ((cop o d e).map PyData.bool)).bind fun r s3 => .ok (.val r) s3 := by
  cases cop o d e <;> rfl
theorem cmp_go {ct : CT} {w : World} {K : PySem.W.Frag} {σ : St} {H : Hp} {o : Cp} {Q : VK} (h : tE w K ct Wx C (.cmp o ea eb) σ H Q) : tE w K ct Wx C ea σ H fun v H1 => tE w K ct Wx C eb σ H1 fun u H2 => rCD ct w K o v u H2 Q := by
  refine op_go ?_
  obtain ⟨U, M, s, env, r, n, p⟩ := h
  refine ⟨U, M, s, env, r, n, ?_⟩
  simp only [evE, cop_bind] at p
  exact p
theorem x_cmp {o : Cp} (hu : X.A.units + 64 < cLine) (hi : isIs o = false) (ha : PE X a (tE X.w X.K ct Wx C ea)) (hb : PE X b (tE X.w X.K ct Wx C eb)) (hm : behindInMarks (cmpA o) b = false) :
    PE X (.Compare a [cmpA o] [b] pos) (tE X.w X.K ct Wx C (.cmp o ea eb)) :=
  pei (pe_cmpR (vop_cmp o hu hi) ha hb hm) fun σ H Q h => cmp_go h
/-- .. as a test -/
theorem tB_of {ct : CT} {w : World} {K : PySem.W.Frag} {σ : St} {H : Hp} {e : E} {Q : Bool → Hp → Prop} (hb : ∀ env s x s1, evE C e env s = .ok x s1 → ∃ k, x = .val (.bool k)) (h : tT w K ct Wx C (.val e) σ H Q) :
    tE w K ct Wx C e σ H fun v H1 => ∃ k, v = .bl k ∧ Q k H1 := by
  obtain ⟨U, M, s, env, r, n, p⟩ := h
  refine ⟨U, M, s, env, r, n, ?_⟩
  cases q : evE C e env s with
  | stuck =>
    simp only [evT, q] at p
    exact p.elim
  | exc c d s1 =>
    simp only [evT, q] at p
    exact p
  | ok x s1 =>
    obtain ⟨k, rfl⟩ := hb env s x s1 q
    simp only [evT, q] at p
    intro M' H' t r' v rv
    exact ⟨k, Rp.blI rv, p M' H' t r'⟩
theorem of_ok {α : Type} {o : Option α} {s s1 : Stk} {a : α} (h : Res.of s o = .ok a s1) : o = some a ∧ s = s1 := by
  cases o with
  | none => cases h
  | some b =>
    cases h
    exact ⟨rfl, rfl⟩
theorem bind_okI {α β : Type} {r : Res α} {f : α → Stk → Res β} {b : β} {s1 : Stk} (h : r.bind f = .ok b s1) : ∃ a s, r = .ok a s ∧ f a s = .ok b s1 := by
  cases r with
  | ok a s => exact ⟨a, s, rfl, h⟩
  | exc c d s => cases h
  | stuck => cases h
theorem cmp_bool {o : Cp} (env : Ve) (s : Stk) (x : W) (s1 : Stk) (h : evE C (.cmp o ea eb) env s = .ok x s1) : ∃ k, x = .val (.bool k) := by
  simp only [evE] at h
  obtain ⟨y, s2, _, h⟩ := bind_okI h
  obtain ⟨z, s3, _, h⟩ := bind_okI h
  split at h
  · obtain ⟨k, s4, _, h⟩ := bind_okI h
    cases h
    exact ⟨k, rfl⟩
  · cases h
theorem x_cmpT {o : Cp} (hu : X.A.units + 64 < cLine) (hi : isIs o = false) (ha : PE X a (tE X.w X.K ct Wx C ea)) (hb : PE X b (tE X.w X.K ct Wx C eb)) (hm : behindInMarks (cmpA o) b = false) :
    PT X (.Compare a [cmpA o] [b] pos) (tT X.w X.K ct Wx C (.val (.cmp o ea eb))) :=
  pti (pt_cmpR (vop_cmp o hu hi) ha hb hm) fun σ H Q h => cmp_go (tB_of cmp_bool h)
theorem tE.mono {ct : CT} {w : World} {K : PySem.W.Frag} {σ : St} {H : Hp} {e : E} {Q Q' : VK} (h : tE w K ct Wx C e σ H Q) (k : ∀ v H, Q v H → Q' v H) : tE w K ct Wx C e σ H Q' := by
  obtain ⟨U, M, s, env, r, n, p⟩ := h
  exact ⟨U, M, s, env, r, n, p.mono fun x M' H' s' t r' q v rv => k v H' (q v rv)⟩
theorem tE_cst {ct : CT} {w : World} {K : PySem.W.Frag} {σ : St} {H : Hp} {d : PyData} {S : VK} {v : V} (h : tE w K ct Wx C (.cst d) σ H S) (hd : ∀ U M, RV w K U M H v d) : S v H := by
  obtain ⟨U, M, s, env, r, n, p⟩ := h
  simp only [evE] at p
  exact p.here r v (hd U M)
theorem x_isN {j : Nat} {p2 : Pos} (ha : PE X a (tE X.w X.K ct Wx C ea)) : PE X (.Compare a [.Is] [.Constant .none j p2] pos) (tE X.w X.K ct Wx C (.cmp (.isV .none) ea (.cst .none))) :=
  pei (pe_cmpR vop_isN ha pe_non (nobehind _ (by decide) (by decide))) fun σ H Q h => (cmp_go h).mono fun v H1 q => ⟨rfl, tE_cst (v := .non) q fun U M => (.non : Rp X.K _ _ _ _)⟩
theorem x_notN {j : Nat} {p2 : Pos} (ha : PE X a (tE X.w X.K ct Wx C ea)) : PE X (.Compare a [.IsNot] [.Constant .none j p2] pos) (tE X.w X.K ct Wx C (.cmp (.isNotV .none) ea (.cst .none))) :=
  pei (pe_cmpR vop_notN ha pe_non (nobehind _ (by decide) (by decide))) fun σ H Q h => (cmp_go h).mono fun v H1 q => ⟨rfl, tE_cst (v := .non) q fun U M => (.non : Rp X.K _ _ _ _)⟩
theorem x_isB {k : Bool} {j : Nat} {p2 : Pos} (ha : PE X a (tE X.w X.K ct Wx C ea)) : PE X (.Compare a [.Is] [.Constant (.bool k) j p2] pos) (tE X.w X.K ct Wx C (.cmp (.isV (.bool k)) ea (.cst (.bool k)))) :=
  pei (pe_cmpR (vop_isB k) ha pe_bl (nobehind _ (by decide) (by decide))) fun σ H Q h => (cmp_go h).mono fun v H1 q => ⟨rfl, tE_cst (v := .bl k) q fun U M => (.bl k : Rp X.K _ _ _ _)⟩
theorem x_notB {k : Bool} {j : Nat} {p2 : Pos} (ha : PE X a (tE X.w X.K ct Wx C ea)) : PE X (.Compare a [.IsNot] [.Constant (.bool k) j p2] pos) (tE X.w X.K ct Wx C (.cmp (.isNotV (.bool k)) ea (.cst (.bool k)))) :=
  pei (pe_cmpR (vop_notB k) ha pe_bl (nobehind _ (by decide) (by decide))) fun σ H Q h => (cmp_go h).mono fun v H1 q => ⟨rfl, tE_cst (v := .bl k) q fun U M => (.bl k : Rp X.K _ _ _ _)⟩
theorem x_isNT {j : Nat} {p2 : Pos} (ha : PE X a (tE X.w X.K ct Wx C ea)) : PT X (.Compare a [.Is] [.Constant .none j p2] pos) (tT X.w X.K ct Wx C (.val (.cmp (.isV .none) ea (.cst .none)))) :=
  pti (pt_cmpR vop_isN ha pe_non (nobehind _ (by decide) (by decide))) fun σ H Q h => (cmp_go (tB_of cmp_bool h)).mono fun v H1 q => ⟨rfl, tE_cst (v := .non) q fun U M => (.non : Rp X.K _ _ _ _)⟩
theorem x_notNT {j : Nat} {p2 : Pos} (ha : PE X a (tE X.w X.K ct Wx C ea)) : PT X (.Compare a [.IsNot] [.Constant .none j p2] pos) (tT X.w X.K ct Wx C (.val (.cmp (.isNotV .none) ea (.cst .none)))) :=
  pti (pt_cmpR vop_notN ha pe_non (nobehind _ (by decide) (by decide))) fun σ H Q h => (cmp_go (tB_of cmp_bool h)).mono fun v H1 q => ⟨rfl, tE_cst (v := .non) q fun U M => (.non : Rp X.K _ _ _ _)⟩
theorem x_isBT {k : Bool} {j : Nat} {p2 : Pos} (ha : PE X a (tE X.w X.K ct Wx C ea)) : PT X (.Compare a [.Is] [.Constant (.bool k) j p2] pos) (tT X.w X.K ct Wx C (.val (.cmp (.isV (.bool k)) ea (.cst (.bool k))))) :=
  pti (pt_cmpR (vop_isB k) ha pe_bl (nobehind _ (by decide) (by decide))) fun σ H Q h => (cmp_go (tB_of cmp_bool h)).mono fun v H1 q => ⟨rfl, tE_cst (v := .bl k) q fun U M => (.bl k : Rp X.K _ _ _ _)⟩
theorem x_notBT {k : Bool} {j : Nat} {p2 : Pos} (ha : PE X a (tE X.w X.K ct Wx C ea)) : PT X (.Compare a [.IsNot] [.Constant (.bool k) j p2] pos) (tT X.w X.K ct Wx C (.val (.cmp (.isNotV (.bool k)) ea (.cst (.bool k))))) :=
  pti (pt_cmpR (vop_notB k) ha pe_bl (nobehind _ (by decide) (by decide))) fun σ H Q h => (cmp_go (tB_of cmp_bool h)).mono fun v H1 q => ⟨rfl, tE_cst (v := .bl k) q fun U M => (.bl k : Rp X.K _ _ _ _)⟩
/-! ### a chain of two comparisons -/
theorem chain_go {ct : CT} {w : World} {K : PySem.W.Frag} {σ : St} {H : Hp} {o p : Cp} {Q : VK} (h : tE w K ct Wx C (.cmp2 o p ea eb ec) σ H Q) : tChain (rCD ct w K o) (rCD ct w K p) (tE w K ct Wx C ea) (tE w K ct Wx C eb) (tE w K ct Wx C ec) σ H Q := by
  obtain ⟨U, M, s, env, r, n, q⟩ := h
  simp only [evE] at q
  refine ⟨U, M, s, env, r, n, q.bind.mono fun x M1 H1 s1 t1 r1 q1 v rv => ?_⟩
  refine ⟨U, M1, s1, env, r1, n.step t1, q1.bind.mono fun y M2 H2 s2 t2 r2 q2 u ru => ?_⟩
  have rv2 := rv.step t2
  have n2 := (n.step t1).step t2
  cases hx : x.view s2 with
  | none =>
    simp only [hx] at q2
    exact q2.elim
  | some d =>
    cases hy : y.view s2 with
    | none =>
      simp only [hx, hy] at q2
      exact q2.elim
    | some e =>
      simp only [hx, hy] at q2
      cases hg : cop o d e with
      | none =>
        simp only [hg] at q2
        exact q2.elim
      | some k =>
        simp only [hg, of_some, bind_ok] at q2
        refine ⟨U, M2, s2, x, y, d, e, .bool k, r2, rv2, ru, hx, hy, by
          show (cop o d e).map PyData.bool = _
          rw [hg] <;> rfl, fun z H3 t3 r3 rz => ?_⟩
        refine ⟨k, Rp.blI rz, ?_⟩
        cases k with
        | false =>
          rw [if_neg (by decide)]
          exact q2 M2 H3 t3 r3 _ (.bl false : Rp K _ _ _ _)
        | true =>
          rw [if_pos rfl]
          dsimp only at q2
          refine ⟨U, M2, s2, env, r3, n2.step t3, (q2.from t3 r3).bind.mono fun z2 M4 H4 s4 t4 r4 q4 u4 ru4 => ?_⟩
          have ry4 := (ru.step t3).step t4
          cases hy4 : y.view s4 with
          | none =>
            simp only [hy4] at q4
            exact q4.elim
          | some e4 =>
            cases hz4 : z2.view s4 with
            | none =>
              simp only [hy4, hz4] at q4
              exact q4.elim
            | some g4 =>
              simp only [hy4, hz4] at q4
              cases hg4 : cop p e4 g4 with
              | none =>
                simp only [hg4] at q4
                exact q4.elim
              | some k4 =>
                simp only [hg4] at q4
                exact ⟨U, M4, s4, y, z2, e4, g4, .bool k4, r4, ry4, ru4, hy4, hz4, by
                  show (cop p e4 g4).map PyData.bool = _
                  rw [hg4] <;> rfl, fun z5 H5 t5 r5 rz5 => q4 M4 H5 t5 r5 _ rz5⟩
theorem x_cmp2 {o p : Cp} (hu : X.A.units + 64 < cLine) (hi : isIs o = false) (hi' : isIs p = false) (ha : PE X a (tE X.w X.K ct Wx C ea)) (hb : PE X b (tE X.w X.K ct Wx C eb)) (hc : PE X c (tE X.w X.K ct Wx C ec)) (hm : lastMarks [cmpA o, cmpA p] [b, c] = false) :
    PE X (.Compare a [cmpA o, cmpA p] [b, c] pos) (tE X.w X.K ct Wx C (.cmp2 o p ea eb ec)) :=
  pei (pe_chain (vop_cmp o hu hi) (vop_cmp p hu hi') ha hb hc hm) fun σ H Q h => chain_go h
theorem cmp2_bool {o p : Cp} (env : Ve) (s : Stk) (x : W) (s1 : Stk) (h : evE C (.cmp2 o p ea eb ec) env s = .ok x s1) : ∃ k, x = .val (.bool k) := by
  simp only [evE] at h
  obtain ⟨y, s2, _, h⟩ := bind_okI h
  obtain ⟨z, s3, _, h⟩ := bind_okI h
  split at h
  · obtain ⟨k, s4, _, h⟩ := bind_okI h
    split at h
    · cases h
      exact ⟨_, rfl⟩
    · obtain ⟨z2, s5, _, h⟩ := bind_okI h
      split at h
      · obtain ⟨k, s4, _, h⟩ := bind_okI h
        cases h
        exact ⟨_, rfl⟩
      · cases h
  · cases h
theorem x_cmp2T {o p : Cp} (hu : X.A.units + 64 < cLine) (hi : isIs o = false) (hi' : isIs p = false) (ha : PE X a (tE X.w X.K ct Wx C ea)) (hb : PE X b (tE X.w X.K ct Wx C eb)) (hc : PE X c (tE X.w X.K ct Wx C ec)) (hm : lastMarks [cmpA o, cmpA p] [b, c] = false) :
    PT X (.Compare a [cmpA o, cmpA p] [b, c] pos) (tT X.w X.K ct Wx C (.val (.cmp2 o p ea eb ec))) :=
  pti (pt_chain (vop_cmp o hu hi) (vop_cmp p hu hi') ha hb hc hm) fun σ H Q h => chain_go (tB_of cmp2_bool h)
/-! ### truth -/
theorem RW.tru {ct : CT} {w : World} {K : PySem.W.Frag} {U M : List Addr} {H : Hp} {s : Stk} {x : W} {v : V} {d : PyData} {k : Bool} (r : RelS K U M H s) (h : RW ct w K U M H v x) (e : x.view s = some d) (ht : truth d = some k) : TruV K v H k := by
  cases d with
  | none =>
    rw [h.nonV r e]
    cases ht
    rfl
  | bool b =>
    rw [h.blV r e]
    cases ht
    rfl
  | int b =>
    rw [h.intV r e]
    cases ht
    rfl
  | str z =>
    obtain ⟨e1, f⟩ := h.strV r e
    rw [e1]
    cases ht
    exact ⟨strFit.le f, rfl⟩
  | list xs =>
    obtain ⟨a, vs, e1, h1, h2⟩ := h.sqL r e
    rw [e1]
    cases ht
    refine .inl ⟨vs, h1, ?_⟩
    cases h2 <;> rfl
  | tuple xs =>
    obtain ⟨a, vs, e1, h1, h2⟩ := h.sqT r e
    rw [e1]
    cases ht
    refine .inr (.inl ⟨vs, h1, ?_⟩)
    cases h2 <;> rfl
  | dict _ => cases ht
theorem tru_go {ct : CT} {w : World} {K : PySem.W.Frag} {σ : St} {H : Hp} {Q : Bool → Hp → Prop} (h : tT w K ct Wx C (.val ea) σ H Q) : tE w K ct Wx C ea σ H fun v H1 => ∃ k, TruV K v H1 k ∧ Q k H1 := by
  obtain ⟨U, M, s, env, r, n, p⟩ := h
  simp only [evT] at p
  refine ⟨U, M, s, env, r, n, p.bind.mono fun x M1 H1 s1 t1 r1 p1 v rv => ?_⟩
  cases hx : x.view s1 with
  | none =>
    simp only [hx] at p1
    exact p1.elim
  | some d =>
    simp only [hx] at p1
    cases ht : truth d with
    | none =>
      simp only [ht] at p1
      exact p1.elim
    | some k =>
      simp only [ht] at p1
      exact ⟨k, rv.tru r1 hx ht, p1.here r1⟩
theorem x_tru (ha : PE X a (tE X.w X.K ct Wx C ea)) (he : ∀ whole, isTrue a X.env whole = (do let v ← whole; standAt a.pos; holding [v] (truthy v))) : PT X a (tT X.w X.K ct Wx C (.val ea)) :=
  pti (pt_truth ha he) fun σ H Q h => tru_go h
variable {ta tb : T}
theorem x_notT (ha : PT X a (tT X.w X.K ct Wx C ta)) : PT X (.UnaryOp .Not a pos) (tT X.w X.K ct Wx C (.not ta)) := pti (pt_not ha) fun σ H Q h => by
  obtain ⟨U, M, s, env, r, n, p⟩ := h
  simp only [evT] at p
  exact ⟨U, M, s, env, r, n, p.bind.mono fun x M1 H1 s1 t1 r1 p1 => p1.here r1⟩
theorem x_not (ha : PE X a (tE X.w X.K ct Wx C ea)) : PE X (.UnaryOp .Not a pos) (tE X.w X.K ct Wx C (.not (.val ea))) := by
  refine ⟨fun pins s σ H Q I h => ?_⟩
  obtain ⟨U, M, st, env, r, n, p⟩ := h
  have h2 : tT X.w X.K ct Wx C (.val ea) σ H fun k H1 => Q (.bl (!k)) H1 := by
    refine ⟨U, M, st, env, r, n, ?_⟩
    simp only [evE] at p
    exact p.bind.mono fun x M1 H1 s1 t1 r1 p1 => p1.here r1 _ (.bl _ : Rp X.K _ _ _ _)
  refine UnaryOp_ (thn (ha.run pins s σ H _ I (tru_go h2)) fun v s1 ⟨x, H1, I1, r1, k, hk, q1⟩ => not_of ?_)
  exact thn (tru_ok pins s1 σ H1 x v (fun k H2 => Q (.bl (!k)) H2) I1 r1 ⟨k, hk, q1⟩) fun b s2 ⟨H2, I2, q2⟩ => ⟨.bl (!b), H2, I2, rfl, q2⟩
end
end MP
set_option maxRecDepth 10000
/-! MPCall: calls of defs: what a def keeps, and its call. -/
namespace MP
open PySem PySem.Spec L2
open PyProof.Rows hiding St
/-- a def keeps sp, whoever calls it where nothing is guarded -/
structure FnM (P : Program) (w : World) (K : PySem.W.Frag) (mg : Str → Option Value) (base : Heap) (k : Nat) (f : Addr) (fd : FuncData) (ps : List Str) (sp : Sp) : Prop where
  len : ∀ vs H Q E, sp vs H Q E → vs.length = ps.length
  run : ∀ (A : Around) (outer : List Env) (s : Shared) (H : Hp) (args : Args) (us : List Value) (vs : List V) (Q : VK) (E : XK), Room k A → A.guards = some [] → Env0 P w K mg base A outer s H → BindsTo s fd args (ps.zip us) →
    Vals vs us → sp vs H Q E → codeAny (model P w) A (.call (.ref f) args) (CR (L2.CX P w) outer P w H s Q E) s
/-- what is known where a body runs -/
structure XOk (X : Cx) (k : Nat) (Wx : WX) : Prop where
  room : Room k X.A
  gs : X.A.guards = some []
  calm : X.calm = true
  tk : Takes X Wx
  nd : X.N.Nodup
theorem XOk.hu {X : Cx} {k : Nat} {Wx : WX} (o : XOk X k Wx) : X.A.units + 64 < cLine := o.room.units
/-- no error -/
abbrev WF : WX := fun _ _ _ _ => False
theorem takesF {X : Cx} : Takes X WF := fun _ _ x => by
  obtain ⟨_, _, _, _, _, _, _, _, _, _, _, _, _, _, _, _, z⟩ := x
  exact z.elim
theorem XOk.blk {X : Cx} {k : Nat} {Wx : WX} (o : XOk X k Wx) (s : Shared) (H : Hp) (scope : Scope) (cenv : Env) (fp : List Addr) : XOk (X.blk s H scope cenv fp) k WF := ⟨o.room, o.gs, o.calm, takesF, o.nd⟩
/-- what a def's run hands back -/
def CPost (w : World) (K : PySem.W.Frag) (ct : CT) (U M : List Addr) (H : Hp) (Q : VK) (E : XK) : Res Rv → Prop
  | .ok (.val d) s' => ∀ v M' H', Step M H M' H' → RelS K U M' H' s' → RV w K U M' H' v d → Q v H'
  | .ok (.new xs) s' => ∀ a vs M' H', H a = none → Step M H M' H' → RelS K (a :: U) M' H' s' → H' a = some (.lst vs) → RpAll K (M' ++ (a :: U)) H' vs xs → Q (.ref a) H'
  | .exc c d s' => ∀ M' H' cls dd, Step M H M' H' → RelS K U M' H' s' → ExcR ct K U M' H' c d cls dd → E cls dd H'
  | .stuck => False
def spM (w : World) (K : PySem.W.Frag) (ct : CT) (C : Callf) (ar f : Nat) : Sp := fun vs H Q E => vs.length = ar ∧ ∃ U M s args, RelS K U M H s ∧ RWs ct w K U M H vs args ∧ CPost w K ct U M H Q E (C f args s)
section
variable {X : Cx} {ct : CT} {Wx : WX} {C : Callf} {k n : Nat} {f : Addr} {fd : FuncData} {ps ks : List Str} {x : Str} {p pos : Pos}
theorem run_M {sp : Sp} {pins : List (Addr × Obj)} {σ : St} {H : Hp} {s : Shared} {Q : VK} {us zs : List Value} {ys : List V} {kw : List (Str × Value)} (F : FnM X.prog X.w X.K X.mg X.base k f fd ps sp) (o : XOk X k Wx) (I : Inv X pins σ H s)
    (hb : BindsTo s fd ⟨us, kw⟩ (ps.zip zs)) (rz : Vals ys zs) (h : sp ys H Q (WE Wx σ)) : wpAny (model X.prog X.w) X.A (call (.ref f) us kw) (EP X pins σ Q) X.xe s := by
  refine wpAny_call (codeAny_mono (F.run X.A X.stack s H ⟨us, kw⟩ zs ys Q (WE Wx σ) o.room o.gs I.env0 hb rz h) fun r s' hq => ?_)
  cases r with
  | error e => exact passAt o.tk σ pins H s e s' I hq
  | ok fl => cases fl with
    | ret u => exact I.after hq
    | next => exact False.elim hq
    | brk => exact False.elim hq
    | cont => exact False.elim hq
theorem pick_vals {vs : List V} {us : List Value} (r : Vals vs us) : ∀ perm : List Nat, Vals (pick perm vs) (pick perm us)
  | [] => .nil
  | i :: r' => by
    unfold pick
    rw [List.filterMap_cons, List.filterMap_cons]
    cases e : vs[i]? with
    | none =>
      rw [r.none_of e]
      exact pick_vals r r'
    | some v =>
      obtain ⟨u, h1, h2⟩ := r.get e
      rw [h1]
      exact .cons h2 (pick_vals r r')
theorem pick_rws {ct : CT} {w : World} {K : PySem.W.Frag} {U M : List Addr} {H : Hp} {vs : List V} {xs : List W} (r : RWs ct w K U M H vs xs) : ∀ perm : List Nat, RWs ct w K U M H (pick perm vs) (pick perm xs) := by
  have get : ∀ {vs : List V} {xs : List W} (_ : RWs ct w K U M H vs xs) (i : Nat), (vs[i]? = none ∧ xs[i]? = none) ∨ ∃ v x, vs[i]? = some v ∧ xs[i]? = some x ∧ RW ct w K U M H v x := by
    intro vs xs r
    induction r with
    | nil => exact fun i => .inl ⟨by simp, by simp⟩
    | cons r t ih =>
      intro i
      cases i with
      | zero => exact .inr ⟨_, _, rfl, rfl, r⟩
      | succ i => simpa using ih i
  intro perm
  induction perm with
  | nil => exact .nil
  | cons i r' ih =>
    unfold pick
    rw [List.filterMap_cons, List.filterMap_cons]
    rcases get r i with ⟨h1, h2⟩ | ⟨v, x, h1, h2, h3⟩
    · rw [h1, h2]
      exact ih
    · rw [h1, h2]
      exact .cons h3 ih
def BindsP (K : PySem.W.Frag) (fd : FuncData) (ps : List Str) (n : Nat) (ks : List Str) (perm : List Nat) : Prop :=
  ∀ (s : Shared) (us ws : List Value), K.In s.heap → us.length = n → ws.length = ks.length → BindsTo s fd ⟨us, ks.zip ws⟩ (ps.zip (pick perm (us ++ ws)))
/-- all positional -/
def BindsN (K : PySem.W.Frag) (fd : FuncData) (ps : List Str) : Prop := ∀ (s : Shared) (us : List Value), K.In s.heap → us.length = ps.length → BindsTo s fd ⟨us, []⟩ (ps.zip us)
theorem call_go {ct : CT} {w : World} {K : PySem.W.Frag} {U M : List Addr} {H : Hp} {σ : St} {f : Nat} {ws : List W} {s : Stk} {Q : VK} {vs : List V} (r : RelS K U M H s) (rv : RWs ct w K U M H vs ws) (ar : Nat) (hl : vs.length = ar)
    (p : Post ct K U Wx σ M H ((C f ws s).bind fun r s2 => match r with
      | .val d => .ok (.val d) s2
      | .new xs => .ok (.val (.list xs)) s2) fun x M' H' _ => ∀ v, RW ct w K U M' H' v x → Q v H') : spM w K ct C ar f vs H Q (WE Wx σ) := by
  refine ⟨hl, U, M, s, ws, r, rv, ?_⟩
  cases e : C f ws s with
  | stuck =>
    rw [e] at p
    exact p
  | exc c d s' =>
    rw [e] at p
    exact fun M' H' cls dd t r' h => p M' H' cls dd t r' h
  | ok rr s' =>
    rw [e] at p
    cases rr with
    | val d => exact fun v M' H' t r' h => p M' H' t r' v h
    | new xs =>
      intro a vs' M' H' hn t r' h1 h2
      have r2 : RelS K U M' H' s' := ⟨fun u hu => r'.un u (List.mem_cons_of_mem _ hu), r'.nd, r'.len, fun i b ob h3 h4 => by
        have := r'.ob i b ob h3 h4
        have mv : Mv (M' ++ (a :: U)) H' (M' ++ U) H' := Mv.less fun z hz => by
          rcases List.mem_append.mp hz with q | q
          · exact List.mem_append_left _ q
          · exact List.mem_append_right _ (List.mem_cons_of_mem _ q)
        cases ob with
        | lst ys =>
          obtain ⟨us, h5, h6⟩ := this
          exact ⟨us, h5, h6.move mv⟩
        | dct kvs =>
          obtain ⟨us, h5, h6⟩ := this
          exact ⟨us, h5, Paired.mapP h6 fun p q z => ⟨z.1, z.2.move mv⟩⟩⟩
      have hU : a ∉ U := fun z => by
        have := (r.un a z).2
        rw [hn] at this
        cases this
      have hM : a ∉ M' := (r'.un a (List.mem_cons_self ..)).1
      refine p M' H' t r2 (.ref a) ?_
      show Rp K (M' ++ U) H' (.ref a) (.list xs)
      refine .lst (fun z => ?_) (.inl h1) (h2.move (Mv.less fun z hz => ?_))
      · rcases List.mem_append.mp z with q | q
        · exact hM q
        · exact hU q
      · rcases List.mem_append.mp hz with q | q
        · exact List.mem_append_left _ q
        · exact List.mem_append_right _ (List.mem_cons_of_mem _ q)
def esLen : Es → Nat
  | .nil => 0
  | .cons _ es => esLen es + 1
theorem evEs_len : ∀ (es : Es) (env : Ve) (s : Stk) (ws : List W) (s1 : Stk), evEs C es env s = .ok ws s1 → ws.length = esLen es
  | .nil, _, _, _, _, h => by
    simp only [evEs] at h
    cases h
    rfl
  | .cons e es, env, s, ws, s1, h => by
    simp only [evEs] at h
    obtain ⟨w, s2, _, h⟩ := bind_okI h
    obtain ⟨ws2, s3, h2, h⟩ := bind_okI h
    cases h
    exact congrArg Nat.succ (evEs_len es env s2 ws2 _ h2)
theorem Post.eq {K : PySem.W.Frag} {U M : List Addr} {H : Hp} {σ : St} {α : Type} {r : Res α} {R : α → List Addr → Hp → Stk → Prop} (h : Post ct K U Wx σ M H r R) : Post ct K U Wx σ M H r fun a M' H' s' => r = .ok a s' ∧ R a M' H' s' := by
  cases r with
  | ok a s => exact fun M' H' t q => ⟨rfl, h M' H' t q⟩
  | exc c d s => exact h
  | stuck => exact h
/-- arguments, then what follows -/
theorem es_go {ct : CT} {w : World} {K : PySem.W.Frag} {σ : St} {H : Hp} {es : Es} {β : Type} {g : List W → Stk → Res β} {R : List Addr → β → List Addr → Hp → Stk → Prop} {S : List V → Hp → Prop}
    (h : rd w K ct Wx (fun env s => (evEs C es env s).bind g) σ H R)
    (q : ∀ U M s env M1 H1 s1 ws vs, RelS K U M H s → REnv ct w K U M H σ env → Step M H M1 H1 → RelS K U M1 H1 s1 → RWs ct w K U M1 H1 vs ws → ws.length = esLen es → Post ct K U Wx σ M1 H1 (g ws s1) (R U) → Post ct K U Wx σ M H (g ws s1) (R U) → S vs H1) :
    tEs w K ct Wx C es σ H S := by
  obtain ⟨U, M, s, env, r, n, p⟩ := h
  refine ⟨U, M, s, env, r, n, ?_⟩
  replace p : Post ct K U Wx σ M H ((evEs C es env s).bind g) (R U) := p
  show Post ct K U Wx σ M H (evEs C es env s) _
  cases e : evEs C es env s with
  | stuck =>
    rw [e] at p
    exact p
  | exc c d s' =>
    rw [e] at p
    exact p
  | ok ws s1 =>
    rw [e] at p
    intro M1 H1 t1 r1 vs rv
    exact q U M s env M1 H1 s1 ws vs r n t1 r1 rv (evEs_len es env s ws s1 e) (Post.from (show Post ct K U Wx σ M H (g ws s1) _ from p) t1 r1) p
/-! argument lists -/
theorem xs_nil : PA X [] (tEs X.w X.K ct Wx C .nil) := pai pa_nil fun σ H Q h => by
  obtain ⟨U, M, s, env, r, n, p⟩ := h
  simp only [evEs] at p
  exact p.here r [] .nil
theorem xs_cons {e : Expr} {es : List Expr} {ee : E} {ees : Es} (he : PE X e (tE X.w X.K ct Wx C ee)) (hes : PA X es (tEs X.w X.K ct Wx C ees)) (hs : starEach (e :: es) X.env = (false, eval e X.env) :: starEach es X.env) :
    PA X (e :: es) (tEs X.w X.K ct Wx C (.cons ee ees)) := pai (pa_cons he hes hs) fun σ H Q h => by
  obtain ⟨U, M, s, env, r, n, p⟩ := h
  simp only [evEs] at p
  refine ⟨U, M, s, env, r, n, p.bind.mono fun w M1 H1 s1 t1 r1 p1 v rv => ?_⟩
  refine ⟨U, M1, s1, env, r1, n.step t1, p1.bind.mono fun ws M2 H2 s2 t2 r2 p2 vs rvs => ?_⟩
  exact p2.here r2 (v :: vs) (.cons (rv.step t2) rvs)
/-! ### a def's call -/
theorem x_call {i : Nat} {e : Expr} {es : List Expr} {ees : Es} (o : XOk X k Wx) (F : FnM X.prog X.w X.K X.mg X.base k f fd ps (spM X.w X.K ct C ps.length i)) (hg : Gl X x) (hm : X.mg x = some (.ref f)) (hk : PySem.W.keepIn X.K (.ref f) = true)
    (hb : BindsN X.K fd ps) (hl : esLen ees = ps.length) (ha : PA X (e :: es) (tEs X.w X.K ct Wx C ees)) (hdb : (x == ("__debug__" : Str)) = false) (he : starEach (e :: es) X.env = (false, eval e X.env) :: starEach es X.env)
    (hpl : (backTo pos (starEach es X.env)).any (·.1) = false) : PE X (.Call (.Name x p) (e :: es) [] pos) (tE X.w X.K ct Wx C (.call i ees)) := by
  refine ⟨fun pins s σ H Q I h => ?_⟩
  refine wpAny_Call_Name_kw (ld_glob I hg hm ?_ hdb)
  have h' : rd X.w X.K ct Wx (fun env s => (evEs C ees env s).bind fun ws s1 => (C i ws s1).bind fun r s2 => match r with
      | .val d => (.ok (.val d) s2 : Res W)
      | .new xs => .ok (.val (.list xs)) s2) σ H fun U x M' H' _ => ∀ v, RW ct X.w X.K U M' H' v x → Q v H' := by
    obtain ⟨U, M, st, env, r, n, p⟩ := h
    refine ⟨U, M, st, env, r, n, ?_⟩
    simp only [evE] at p
    exact p
  have h2 := es_go (S := fun vs H1 => spM X.w X.K ct C ps.length i vs H1 Q (WE Wx σ)) h' fun U M s env M1 H1 s1 ws vs r n t1 r1 rv hlen p1 _ => call_go r1 rv ps.length (by rw [rv.length, hlen, hl]) p1
  refine PySem.W.callWith_K (h₀ := X.base) I.ok.mod.kin hk (thn (ha.run pos pins s σ H _ I h2) fun us s1 ⟨vs, H1, I1, r, q⟩ => ⟨I1.kIn, ?_⟩) he hpl
  exact run_M F o I1 (hb s1 us I1.kIn (by rw [← r.length]; exact q.1)) r q
theorem x_call0 {i : Nat} (o : XOk X k Wx) (F : FnM X.prog X.w X.K X.mg X.base k f fd ps (spM X.w X.K ct C ps.length i)) (hg : Gl X x) (hm : X.mg x = some (.ref f)) (hk : PySem.W.keepIn X.K (.ref f) = true)
    (hb : BindsN X.K fd ps) (hl : ps = []) (hdb : (x == ("__debug__" : Str)) = false) : PE X (.Call (.Name x p) [] [] pos) (tE X.w X.K ct Wx C (.call i .nil)) := by
  refine ⟨fun pins s σ H Q I h => ?_⟩
  refine wpAny_Call_Name_kw (ld_glob I hg hm ?_ hdb)
  obtain ⟨U, M, st, env, r, n, p⟩ := h
  simp only [evE, evEs, bind_ok] at p
  have q := call_go (ar := ps.length) (vs := []) r (.nil) (by rw [hl] <;> rfl) p
  exact PySem.W.callWith_K0 I.kIn hk (run_M (us := []) F o I (hb s [] I.kIn (by rw [hl] <;> rfl)) .nil q)
/-! keywords -/
theorem ks_nil : PK X [] (tEs X.w X.K ct Wx C .nil) := ⟨fun pos pins s σ H Q I h => pk_nil.run pos pins s σ H Q I (by
  obtain ⟨U, M, st, env, r, n, p⟩ := h
  simp only [evEs] at p
  exact p.here r [] .nil)⟩
theorem ks_cons {e : Expr} {nm : Option Str} {kpos : Pos} {es : List Keyword} {ee : E} {ees : Es} (he : PE X e (tE X.w X.K ct Wx C ee)) (hes : PK X es (tEs X.w X.K ct Wx C ees)) : PK X (⟨nm, e, kpos⟩ :: es) (tEs X.w X.K ct Wx C (.cons ee ees)) :=
  ⟨fun pos pins s σ H Q I h => (pk_cons he hes).run pos pins s σ H Q I (by
    obtain ⟨U, M, st, env, r, n, p⟩ := h
    simp only [evEs] at p
    refine ⟨U, M, st, env, r, n, p.bind.mono fun w M1 H1 s1 t1 r1 p1 v rv => ?_⟩
    refine ⟨U, M1, s1, env, r1, n.step t1, p1.bind.mono fun ws M2 H2 s2 t2 r2 p2 vs rvs => ?_⟩
    exact p2.here r2 (v :: vs) (.cons (rv.step t2) rvs))⟩
theorem RWs.app {ct : CT} {w : World} {K : PySem.W.Frag} {U M : List Addr} {H : Hp} : ∀ {vs us : List V} {xs ys : List W}, RWs ct w K U M H vs xs → RWs ct w K U M H us ys → RWs ct w K U M H (vs ++ us) (xs ++ ys)
  | _, _, _, _, .nil, s => s
  | _, _, _, _, .cons r t, s => .cons r (RWs.app t s)
theorem pick_len {α β : Type} {xs : List α} {ys : List β} (h : xs.length = ys.length) : ∀ perm : List Nat, (pick perm xs).length = (pick perm ys).length
  | [] => rfl
  | i :: r => by
    unfold pick
    rw [List.filterMap_cons, List.filterMap_cons]
    by_cases hi : i < xs.length
    · rw [List.getElem?_eq_getElem hi, List.getElem?_eq_getElem (by rw [← h]; exact hi)]
      exact congrArg Nat.succ (pick_len h r)
    · rw [List.getElem?_eq_none (by omega), List.getElem?_eq_none (by omega)]
      exact pick_len h r
/-- what follows the written values -/
theorem callK_go {σ : St} {H : Hp} {i ar : Nat} {ees eks : Es} {perm : List Nat} {Q : VK} (hl : (pick perm (List.range (esLen ees + esLen eks))).length = ar) (h : tE X.w X.K ct Wx C (.callK i ees eks perm) σ H Q) :
    tEs X.w X.K ct Wx C ees σ H fun vs H1 => tEs X.w X.K ct Wx C eks σ H1 fun us H2 => vs.length = esLen ees ∧ us.length = esLen eks ∧ spM X.w X.K ct C ar i (pick perm (vs ++ us)) H2 Q (WE Wx σ) := by
  obtain ⟨U, M, s, env, r, n, p⟩ := h
  simp only [evE] at p
  refine ⟨U, M, s, env, r, n, p.bind.eq.mono fun ws M1 H1 s1 t1 r1 q1 vs rv => ?_⟩
  obtain ⟨e1, p1⟩ := q1
  refine ⟨U, M1, s1, env, r1, n.step t1, p1.bind.eq.mono fun zs M2 H2 s2 t2 r2 q2 us ru => ?_⟩
  obtain ⟨e2, p2⟩ := q2
  have l1 : vs.length = esLen ees := rv.length.trans (evEs_len _ _ _ _ _ e1)
  have l2 : us.length = esLen eks := ru.length.trans (evEs_len _ _ _ _ _ e2)
  refine ⟨l1, l2, call_go r2 (pick_rws ((rv.step t2).app ru) perm) ar ?_ p2⟩
  rw [← hl]
  exact pick_len (by rw [List.length_append, List.length_range, l1, l2]) perm
theorem x_callK {i : Nat} {e : Expr} {es : List Expr} {kws : List Keyword} {ees eks : Es} {perm : List Nat} (o : XOk X k Wx) (F : FnM X.prog X.w X.K X.mg X.base k f fd ps (spM X.w X.K ct C ps.length i)) (hg : Gl X x) (hm : X.mg x = some (.ref f)) (hk : PySem.W.keepIn X.K (.ref f) = true)
    (hb : BindsP X.K fd ps (esLen ees) ks perm) (hl : (pick perm (List.range (esLen ees + esLen eks))).length = ps.length) (hlk : esLen eks = ks.length) (ha : PA X (e :: es) (tEs X.w X.K ct Wx C ees)) (hkw : PK X kws (tEs X.w X.K ct Wx C eks))
    (hall : (backToKw pos (keywordEach kws X.env)).all (·.1.isSome) = true) (hks : (backToKw pos (keywordEach kws X.env)).filterMap (·.1) = ks) (hdb : (x == ("__debug__" : Str)) = false)
    (he : starEach (e :: es) X.env = (false, eval e X.env) :: starEach es X.env) (hpl : ((backTo pos (starEach (e :: es) X.env)).any (·.1) || (backToKw pos (keywordEach kws X.env)).any (·.1.isNone)) = false) :
    PE X (.Call (.Name x p) (e :: es) kws pos) (tE X.w X.K ct Wx C (.callK i ees eks perm)) := by
  refine ⟨fun pins s σ H Q I h => ?_⟩
  refine wpAny_Call_Name_kw (ld_glob I hg hm ?_ hdb)
  refine PySem.W.callWith_KW (h₀ := X.base) I.ok.mod.kin hk hall (thn (ha.run pos pins s σ H _ I (callK_go hl h)) fun us s1 ⟨vs, H1, I1, r, q⟩ => ?_) hpl he
  refine thn (hkw.run pos pins s1 σ H1 _ I1 q) fun ws s2 ⟨zs, H2, I2, rz, l1, l2, q2⟩ => ⟨I2.kIn, ?_⟩
  rw [hks]
  exact run_M F o I2 (hb s2 us ws I2.kIn (by rw [← r.length]; exact l1) (by rw [← rz.length, l2, hlk])) (pick_vals (r.append rz) perm) q2
theorem x_callK0 {i : Nat} {kws : List Keyword} {eks : Es} {perm : List Nat} (o : XOk X k Wx) (F : FnM X.prog X.w X.K X.mg X.base k f fd ps (spM X.w X.K ct C ps.length i)) (hg : Gl X x) (hm : X.mg x = some (.ref f)) (hk : PySem.W.keepIn X.K (.ref f) = true)
    (hb : BindsP X.K fd ps 0 ks perm) (hl : (pick perm (List.range (0 + esLen eks))).length = ps.length) (hlk : esLen eks = ks.length) (hkw : PK X kws (tEs X.w X.K ct Wx C eks))
    (hall : (backToKw pos (keywordEach kws X.env)).all (·.1.isSome) = true) (hks : (backToKw pos (keywordEach kws X.env)).filterMap (·.1) = ks) (hdb : (x == ("__debug__" : Str)) = false)
    (hpl : ((backTo pos (starEach [] X.env)).any (·.1) || (backToKw pos (keywordEach kws X.env)).any (·.1.isNone)) = false) :
    PE X (.Call (.Name x p) [] kws pos) (tE X.w X.K ct Wx C (.callK i .nil eks perm)) := by
  refine ⟨fun pins s σ H Q I h => ?_⟩
  refine wpAny_Call_Name_kw (ld_glob I hg hm ?_ hdb)
  have h2 := callK_go (ees := .nil) hl h
  obtain ⟨U, M, st, env, r, n, p2⟩ := h2
  simp only [evEs] at p2
  have h3 := p2.here r [] .nil
  refine PySem.W.callWith_KW0 (h₀ := X.base) I.ok.mod.kin hk hall (thn (hkw.run pos pins s σ H _ I h3) fun ws s2 ⟨zs, H2, I2, rz, l1, l2, q2⟩ => ⟨I2.kIn, ?_⟩) hpl
  rw [hks]
  exact run_M (us := []) F o I2 (hb s2 [] ws I2.kIn rfl (by rw [← rz.length, l2, hlk])) (pick_vals (vs := [] ++ zs) (us := [] ++ ws) rz perm) q2
end
end MP
set_option maxRecDepth 10000
/-! MPMore: further expressions. -/
namespace MP
open PySem PySem.Spec L2
open PyProof.Rows hiding St
theorem pwi {X : Cx} {e : Expr} {t t' : TT} (h : PW X e t) (i : ∀ σ H Q, t' σ H Q → t σ H Q) : PW X e t' := ⟨fun wh pins s σ H Q I q => h.run wh pins s σ H Q I (i σ H Q q)⟩
section
variable {X : Cx} {ct : CT} {Wx : WX} {C : Callf} {a b c : Expr} {rest : List Expr} {ea eb ec : E} {ta tb : T} {pos : Pos} {k : Nat}
/-! ### and, or -/
theorem x_one {op : BoolOp} (ha : PE X a (tE X.w X.K ct Wx C ea)) : PE X (.BoolOp op [a] pos) (tE X.w X.K ct Wx C ea) := pe_one ha
theorem x_and (ha : PE X a (tE X.w X.K ct Wx C ea)) (hb : PE X (.BoolOp .And (b :: rest) pos) (tE X.w X.K ct Wx C eb)) : PE X (.BoolOp .And (a :: b :: rest) pos) (tE X.w X.K ct Wx C (.and ea eb)) :=
  pei (pe_and ha hb) fun σ H Q h => by
    obtain ⟨U, M, s, env, r, n, p⟩ := h
    simp only [evE] at p
    refine ⟨U, M, s, env, r, n, p.bind.mono fun x M1 H1 s1 t1 r1 p1 v rv => ?_⟩
    cases x with
    | ref i => exact p1.elim
    | exn _ _ => exact p1.elim
    | val d =>
      cases d with
      | bool k =>
        refine ⟨k, Rp.blI rv, ?_⟩
        cases k with
        | true =>
          rw [if_pos rfl]
          exact ⟨U, M1, s1, env, r1, n.step t1, p1⟩
        | false =>
          rw [if_neg (by decide)]
          exact p1.here r1 _ (.bl _ : Rp X.K _ _ _ _)
      | _ => exact p1.elim
theorem x_or (ha : PE X a (tE X.w X.K ct Wx C ea)) (hb : PE X (.BoolOp .Or (b :: rest) pos) (tE X.w X.K ct Wx C eb)) : PE X (.BoolOp .Or (a :: b :: rest) pos) (tE X.w X.K ct Wx C (.or ea eb)) :=
  pei (pe_or ha hb) fun σ H Q h => by
    obtain ⟨U, M, s, env, r, n, p⟩ := h
    simp only [evE] at p
    refine ⟨U, M, s, env, r, n, p.bind.mono fun x M1 H1 s1 t1 r1 p1 v rv => ?_⟩
    cases x with
    | ref i => exact p1.elim
    | exn _ _ => exact p1.elim
    | val d =>
      cases d with
      | bool k =>
        refine ⟨k, Rp.blI rv, ?_⟩
        cases k with
        | true =>
          rw [if_pos rfl]
          exact p1.here r1 _ (.bl _ : Rp X.K _ _ _ _)
        | false =>
          rw [if_neg (by decide)]
          exact ⟨U, M1, s1, env, r1, n.step t1, p1⟩
      | _ => exact p1.elim
theorem x_and1T (ha : PT X a (tT X.w X.K ct Wx C ta)) : PW X (.BoolOp .And [a] pos) (tT X.w X.K ct Wx C ta) := pw_and1 ha
theorem x_or1T (ha : PT X a (tT X.w X.K ct Wx C ta)) : PW X (.BoolOp .Or [a] pos) (tT X.w X.K ct Wx C ta) := pw_or1 ha
theorem x_andT (ha : PT X a (tT X.w X.K ct Wx C ta)) (hb : PW X (.BoolOp .And (b :: rest) pos) (tT X.w X.K ct Wx C tb)) : PW X (.BoolOp .And (a :: b :: rest) pos) (tT X.w X.K ct Wx C (.and ta tb)) :=
  pwi (pw_and ha hb) fun σ H Q h => by
    obtain ⟨U, M, s, env, r, n, p⟩ := h
    simp only [evT] at p
    refine ⟨U, M, s, env, r, n, p.bind.mono fun k M1 H1 s1 t1 r1 p1 => ?_⟩
    cases k with
    | true =>
      rw [if_pos rfl]
      exact ⟨U, M1, s1, env, r1, n.step t1, p1⟩
    | false =>
      rw [if_neg (by decide)]
      exact p1.here r1
theorem x_orT (ha : PT X a (tT X.w X.K ct Wx C ta)) (hb : PW X (.BoolOp .Or (b :: rest) pos) (tT X.w X.K ct Wx C tb)) : PW X (.BoolOp .Or (a :: b :: rest) pos) (tT X.w X.K ct Wx C (.or ta tb)) :=
  pwi (pw_or ha hb) fun σ H Q h => by
    obtain ⟨U, M, s, env, r, n, p⟩ := h
    simp only [evT] at p
    refine ⟨U, M, s, env, r, n, p.bind.mono fun k M1 H1 s1 t1 r1 p1 => ?_⟩
    cases k with
    | true =>
      rw [if_pos rfl]
      exact p1.here r1
    | false =>
      rw [if_neg (by decide)]
      exact ⟨U, M1, s1, env, r1, n.step t1, p1⟩
theorem x_ite (hc : PT X c (tT X.w X.K ct Wx C ta)) (ha : PE X a (tE X.w X.K ct Wx C ea)) (hb : PE X b (tE X.w X.K ct Wx C eb)) : PE X (.IfExp c a b pos) (tE X.w X.K ct Wx C (.ite ta ea eb)) :=
  pei (pe_ifExp hc ha hb) fun σ H Q h => by
    obtain ⟨U, M, s, env, r, n, p⟩ := h
    simp only [evE] at p
    refine ⟨U, M, s, env, r, n, p.bind.mono fun k M1 H1 s1 t1 r1 p1 => ?_⟩
    cases k with
    | true =>
      rw [if_pos rfl]
      exact ⟨U, M1, s1, env, r1, n.step t1, p1⟩
    | false =>
      rw [if_neg (by decide)]
      exact ⟨U, M1, s1, env, r1, n.step t1, p1⟩
theorem x_neg (ha : PE X a (tE X.w X.K ct Wx C ea)) : PE X (.UnaryOp .USub a pos) (tE X.w X.K ct Wx C (.neg ea)) := pei (pe_un un_neg ha) fun σ H Q h => by
  obtain ⟨U, M, s, env, r, n, p⟩ := h
  simp only [evE] at p
  refine ⟨U, M, s, env, r, n, p.bind.mono fun x M1 H1 s1 t1 r1 p1 v rv => ?_⟩
  cases x with
  | ref i => exact p1.elim
  | exn _ _ => exact p1.elim
  | val d =>
    cases d with
    | int i => exact ⟨i, Rp.intI rv, p1.here r1 _ (.int _ : Rp X.K _ _ _ _)⟩
    | _ => exact p1.elim
/-! ### displays -/
theorem RWs.vals {ct : CT} {w : World} {K : PySem.W.Frag} {U M : List Addr} {H : Hp} : ∀ {vs : List V} {ws : List W} {ds : List PyData}, RWs ct w K U M H vs ws → MP.vals ws = some ds → RpAll K (M ++ U) H vs ds
  | _, _, _, .nil, e => by
    cases e
    exact .nil
  | _, _, _, .cons (x := x) (xs := xs) r t, e => by
    cases x with
    | ref i => cases e
    | exn _ _ => cases e
    | val d =>
      rw [vals_val] at e
      cases hd : isDict d with
      | true =>
        rw [hd] at e
        cases e
      | false =>
        rw [hd] at e
        obtain ⟨es, h1, h2⟩ := Option.map_eq_some_iff.mp e
        subst h2
        exact .cons (RV.rp r hd) (RWs.vals t h1)
theorem x_tup {es : List Expr} {kk : Nat} {ees : Es} (hl : esLen ees ≤ sizeLine) (h : PA X es (tEs X.w X.K ct Wx C ees)) : PE X (.Tuple es kk pos) (tE X.w X.K ct Wx C (.tup ees)) := pei (pe_tup h) fun σ H Q h => by
  obtain ⟨U, M, s, env, r, n, p⟩ := h
  simp only [evE] at p
  refine ⟨U, M, s, env, r, n, p.bind.eq.mono fun ws M1 H1 s1 t1 r1 q1 vs rv => ?_⟩
  obtain ⟨e1, p1⟩ := q1
  refine ⟨by rw [rv.length, evEs_len _ _ _ _ _ e1]; exact hl, fun a ha => ?_⟩
  cases hv : MP.vals ws with
  | none =>
    rw [hv] at p1
    exact p1.elim
  | some ds =>
    rw [hv] at p1
    obtain ⟨t2, r2, v2⟩ := new_tup (w := X.w) r1 ha (rv.vals hv)
    exact p1 _ _ t2 r2 _ v2
/-- behind a run nothing old is gone -/
theorem Step.none {M M' : List Addr} {H H' : Hp} {K : PySem.W.Frag} {U : List Addr} {s : Stk} (t : Step M H M' H') (r' : RelS K U M' H' s) {a : Addr} (h : H' a = none) : H a = none := by
  cases e : H a with
  | none => rfl
  | some o =>
    by_cases hm : a ∈ M
    · have := r'.there (t.mem hm)
      rw [h] at this
      cases this
    · rw [t.keep a o e hm] at h
      cases h
/-- one more place out of reach -/
theorem RelS.more {K : PySem.W.Frag} {U M : List Addr} {H : Hp} {s : Stk} {p : Addr} {o : HO} (r : RelS K U M H s) (hp : H p = none) : RelS K (p :: U) M (L2.upd H p o) s := by
  have mv : Mv (M ++ U) H (M ++ (p :: U)) (L2.upd H p o) := fun b u hb h => by
    have ne : b ≠ p := ne_of_none h hp
    refine ⟨fun z => ?_, by rw [upd_ne ne]; exact h⟩
    rcases List.mem_append.mp z with q | q
    · exact hb (List.mem_append_left _ q)
    · rcases List.mem_cons.mp q with q | q
      · exact ne q
      · exact hb (List.mem_append_right _ q)
  refine ⟨fun u hu => ?_, r.nd, r.len, fun i a ob h1 h2 => ?_⟩
  · rcases List.mem_cons.mp hu with q | q
    · subst q
      exact ⟨r.fresh0 hp, by rw [upd_same]; rfl⟩
    · exact ⟨(r.un u q).1, isSome_upd (r.un u q).2⟩
  · have := r.ob i a ob h1 h2
    cases ob with
    | lst xs =>
      obtain ⟨vs, h3, h4⟩ := this
      exact ⟨vs, by rw [upd_ne (ne_of_none h3 hp)]; exact h3, h4.move mv⟩
    | dct kvs =>
      obtain ⟨vs, h3, h4⟩ := this
      exact ⟨vs, by rw [upd_ne (ne_of_none h3 hp)]; exact h3, Paired.mapP h4 fun p q z => ⟨z.1, z.2.move mv⟩⟩
theorem RpAll.more {K : PySem.W.Frag} {U M : List Addr} {H : Hp} {p : Addr} {o : HO} {vs : List V} {ds : List PyData} (h : RpAll K (M ++ U) H vs ds) (hp : H p = none) : RpAll K (M ++ (p :: U)) (upd H p o) vs ds :=
  h.move fun b u hb h => by
    have ne : b ≠ p := ne_of_none h hp
    refine ⟨fun z => ?_, by rw [upd_ne ne]; exact h⟩
    rcases List.mem_append.mp z with q | q
    · exact hb (List.mem_append_left _ q)
    · rcases List.mem_cons.mp q with q | q
      · exact ne q
      · exact hb (List.mem_append_right _ q)
end
/-! ### lists that are made -/
/-- a list that is made stands new at a -/
def tNw (w : World) (K : PySem.W.Frag) (ct : CT) (Wx : WX) (C : Callf) (e : N) : TE := fun σ H Q => rd w K ct Wx (evN C e) σ H fun U xs M' H' s' => ∀ a vs, H a = none → RelS K (a :: U) M' H' s' → H' a = some (.lst vs) → RpAll K (M' ++ (a :: U)) H' vs xs → Q (.ref a) H'
section
variable {X : Cx} {ct : CT} {Wx : WX} {C : Callf} {a b c : Expr} {rest : List Expr} {ea eb ec : E} {ta tb : T} {pos : Pos} {k : Nat} {nn : N}
/-- a new list of vs at p, behind a run -/
theorem nw_new {K : PySem.W.Frag} {U M M1 : List Addr} {H H1 : Hp} {s1 : Stk} {p : Addr} {vs : List V} {ds : List PyData} {Q : VK} {R : Prop} (t1 : Step M H M1 H1) (r1 : RelS K U M1 H1 s1) (hp : H1 p = none) (hv : RpAll K (M1 ++ U) H1 vs ds)
    (q : ∀ M' H', Step M H M' H' → RelS K U M' H' s1 → ∀ a vs, H a = none → RelS K (a :: U) M' H' s1 → H' a = some (.lst vs) → RpAll K (M' ++ (a :: U)) H' vs ds → Q (.ref a) H') : Q (.ref p) (upd H1 p (.lst vs)) := by
  obtain ⟨r2, t2⟩ := r1.upd (o := .lst vs) hp
  exact q M1 _ (t1.comp r1 t2) r2 p vs (t1.none r1 hp) (r1.more hp) upd_same (hv.more hp)
theorem n_lst {es : List Expr} {ees : Es} (hl : esLen ees ≤ sizeLine) (h : PA X es (tEs X.w X.K ct Wx C ees)) : PE X (.List es pos) (tNw X.w X.K ct Wx C (.lst ees)) := pei (pe_lst h) fun σ H Q h => by
  obtain ⟨U, M, s, env, r, n, p⟩ := h
  simp only [evN] at p
  refine ⟨U, M, s, env, r, n, ?_⟩
  cases e : evEs C ees env s with
  | stuck =>
    rw [e] at p
    exact p.elim
  | exc c d s1 =>
    rw [e] at p
    exact p
  | ok ws s1 =>
    rw [e] at p
    intro M1 H1 t1 r1 vs rv
    refine ⟨by rw [rv.length, evEs_len _ _ _ _ _ e]; exact hl, fun a ha => ?_⟩
    cases hv : MP.vals ws with
    | none =>
      simp only [bind_ok, hv] at p
      exact p.elim
    | some ds =>
      simp only [bind_ok, hv] at p
      exact nw_new (R := True) t1 r1 ha (rv.vals hv) p
/-- a list that stands by itself is data -/
theorem nw_val {ct : CT} {w : World} {K : PySem.W.Frag} {U M : List Addr} {H : Hp} {s : Stk} {a : Addr} {vs : List V} {xs : List PyData} (hU : a ∉ U) (r : RelS K (a :: U) M H s) (h1 : H a = some (.lst vs)) (h2 : RpAll K (M ++ (a :: U)) H vs xs) : RW ct w K U M H (.ref a) (.val (.list xs)) := by
  show Rp K (M ++ U) H (.ref a) (.list xs)
  refine .lst (fun z => ?_) (.inl h1) (h2.move (Mv.less fun z hz => ?_))
  · rcases List.mem_append.mp z with q | q
    · exact (r.un a (List.mem_cons_self ..)).1 q
    · exact hU q
  · rcases List.mem_append.mp hz with q | q
    · exact List.mem_append_left _ q
    · exact List.mem_append_right _ (List.mem_cons_of_mem _ q)
theorem notU {K : PySem.W.Frag} {U M : List Addr} {H : Hp} {s : Stk} (r : RelS K U M H s) {a : Addr} (hn : H a = none) : a ∉ U := fun z => by
  have := (r.un a z).2
  rw [hn] at this
  cases this
theorem frz_go {ct : CT} {w : World} {K : PySem.W.Frag} {σ : St} {H : Hp} {Q : VK} (h : tE w K ct Wx C (.frz nn) σ H Q) : tNw w K ct Wx C nn σ H Q := by
  obtain ⟨U, M, s, env, r, n, p⟩ := h
  simp only [evE] at p
  refine ⟨U, M, s, env, r, n, ?_⟩
  cases e : evN C nn env s with
  | stuck =>
    rw [e] at p
    exact p.elim
  | exc c d s1 =>
    rw [e] at p
    exact p
  | ok xs s1 =>
    rw [e] at p
    intro M1 H1 t1 r1 a vs hn r2 h1 h2
    exact p M1 H1 t1 r1 (.ref a) (nw_val (notU r hn) r2 h1 h2)
theorem x_frz {e : Expr} (h : PE X e (tNw X.w X.K ct Wx C nn)) : PE X e (tE X.w X.K ct Wx C (.frz nn)) := pei h fun σ H Q h => frz_go h
theorem thw_go {ct : CT} {w : World} {K : PySem.W.Frag} {σ : St} {H : Hp} {Q : VK} (h : tE w K ct Wx C (.thw nn) σ H Q) : tNw w K ct Wx C nn σ H Q := by
  obtain ⟨U, M, s, env, r, n, p⟩ := h
  simp only [evE] at p
  refine ⟨U, M, s, env, r, n, ?_⟩
  cases e : evN C nn env s with
  | stuck =>
    rw [e] at p
    exact p.elim
  | exc c d s1 =>
    rw [e] at p
    exact p
  | ok xs s1 =>
    rw [e] at p
    intro M1 H1 t1 r1 a vs hn r2 h1 h2
    have hM : a ∉ M1 := (r2.un a (List.mem_cons_self ..)).1
    have mv : Mv (M1 ++ (a :: U)) H1 ((M1 ++ [a]) ++ U) H1 := Mv.less fun z hz => by
      simp only [List.mem_append, List.mem_cons, List.not_mem_nil, or_false] at hz ⊢
      rcases hz with (q | q) | q
      · exact .inl q
      · exact .inr (.inl q)
      · exact .inr (.inr q)
    have t3 : Step M H (M1 ++ [a]) H1 := by
      obtain ⟨l, e1, hl⟩ := t1.grow
      refine ⟨⟨l ++ [a], by rw [e1, List.append_assoc], fun b hb => ?_⟩, t1.keep⟩
      rcases List.mem_append.mp hb with q | q
      · exact hl b q
      · have : b = a := by simpa using q
        rw [this]
        exact hn
    have r3 : RelS K U (M1 ++ [a]) H1 (s1 ++ [.lst xs]) := by
      refine ⟨fun u hu => ⟨fun z => ?_, (r1.un u hu).2⟩, ?_, by simp [r1.len], fun i b ob h3 h4 => ?_⟩
      · rcases List.mem_append.mp z with q | q
        · exact (r1.un u hu).1 q
        · have : u = a := by simpa using q
          subst this
          exact notU r hn hu
      · rw [List.nodup_append]
        refine ⟨r1.nd, by simp, fun x hx y hy => ?_⟩
        have : y = a := by simpa using hy
        subst this
        exact fun e => hM (e ▸ hx)
      · by_cases hi : i < M1.length
        · rw [List.getElem?_append_left hi] at h3
          rw [List.getElem?_append_left (by rw [← r1.len]; exact hi)] at h4
          have := r2.ob i b ob h3 h4
          cases ob with
          | lst ys =>
            obtain ⟨us, h5, h6⟩ := this
            exact ⟨us, h5, h6.move mv⟩
          | dct kvs =>
            obtain ⟨us, h5, h6⟩ := this
            exact ⟨us, h5, Paired.mapP h6 fun p q z => ⟨z.1, z.2.move mv⟩⟩
        · rw [List.getElem?_append_right (by omega)] at h3
          rw [List.getElem?_append_right (by rw [← r1.len]; omega)] at h4
          rw [← r1.len] at h4
          cases q : i - M1.length with
          | zero =>
            rw [q] at h3 h4
            simp at h3 h4
            subst h3
            subst h4
            exact ⟨vs, h1, h2.move mv⟩
          | succ m =>
            rw [q] at h3
            simp at h3
    refine p (M1 ++ [a]) H1 t3 r3 (.ref a) ⟨a, ?_, rfl⟩
    rw [← r1.len, List.getElem?_append_right (Nat.le_refl _)]
    simp
theorem x_thw {e : Expr} (h : PE X e (tNw X.w X.K ct Wx C nn)) : PE X e (tE X.w X.K ct Wx C (.thw nn)) := pei h fun σ H Q h => thw_go h
end
end MP
set_option maxRecDepth 10000
/-! MPMore2: slices, built-ins, methods, dicts. -/
namespace MP
open PySem PySem.Spec L2
open PyProof.Rows hiding St
def tO (w : World) (K : PySem.W.Frag) (ct : CT) (Wx : WX) (C : Callf) (e : Oe) : St → Hp → (Option Int → Hp → Prop) → Prop := fun σ H Q => rd w K ct Wx (evO C e) σ H fun _ l _ H' _ => Q l H'
theorem poi {X : Cx} {e : Option Expr} {t t' : TO} (h : PO X e t) (i : ∀ σ H Q, t' σ H Q → t σ H Q) : PO X e t' := ⟨fun pins s σ H Q I q => h.run pins s σ H Q I (i σ H Q q)⟩
section
variable {X : Cx} {ct : CT} {Wx : WX} {C : Callf} {a b c e : Expr} {rest es : List Expr} {ea eb ec : E} {ees : Es} {oa ob : Oe} {lo hi : Option Expr} {pos p p2 : Pos} {k : Nat} {x : Str} {id T : String}
theorem o_none : PO X none (tO X.w X.K ct Wx C .none) := poi po_none fun σ H Q h => by
  obtain ⟨U, M, s, env, r, n, p⟩ := h
  simp only [evO] at p
  exact p.here r
theorem o_some (ha : PE X a (tE X.w X.K ct Wx C ea)) : PO X (some a) (tO X.w X.K ct Wx C (.some ea)) := poi (po_some ha) fun σ H Q h => by
  obtain ⟨U, M, s, env, r, n, p⟩ := h
  simp only [evO] at p
  refine ⟨U, M, s, env, r, n, p.bind.mono fun x M1 H1 s1 t1 r1 p1 v rv => ?_⟩
  cases x with
  | ref i => exact p1.elim
  | exn _ _ => exact p1.elim
  | val d =>
    cases d with
    | int i => exact ⟨i, Rp.intI rv, p1.here r1⟩
    | _ => exact p1.elim
theorem x_slc (ha : PE X a (tE X.w X.K ct Wx C ea)) (hl : PO X lo (tO X.w X.K ct Wx C oa)) (hu : PO X hi (tO X.w X.K ct Wx C ob)) : PE X (.Subscript a (.Slice lo hi none p2) pos) (tE X.w X.K ct Wx C (.slc ea oa ob)) :=
  pei (pe_slice vop_slc ha hl hu) fun σ H Q h => by
    obtain ⟨U, M, s, env, r, n, p⟩ := h
    simp only [evE] at p
    refine ⟨U, M, s, env, r, n, p.bind.mono fun x M1 H1 s1 t1 r1 p1 v rv => ?_⟩
    refine ⟨U, M1, s1, env, r1, n.step t1, p1.bind.mono fun l M2 H2 s2 t2 r2 p2 => ?_⟩
    refine ⟨U, M2, s2, env, r2, (n.step t1).step t2, p2.bind.mono fun u M3 H3 s3 t3 r3 p3 => ?_⟩
    have rv3 := (rv.step t2).step t3
    cases x with
    | ref i => exact p3.elim
    | exn _ _ => exact p3.elim
    | val d =>
      cases hs : slice d l u with
      | none =>
        simp only [hs] at p3
        exact p3.elim
      | some z =>
        simp only [hs] at p3
        exact ⟨U, M3, s3, d, z, r3, rv3, hs, fun v' H' t' r' rv' => p3 _ H' t' r' v' rv'⟩
theorem n_slc (ha : PE X a (tE X.w X.K ct Wx C ea)) (hl : PO X lo (tO X.w X.K ct Wx C oa)) (hu : PO X hi (tO X.w X.K ct Wx C ob)) : PE X (.Subscript a (.Slice lo hi none p2) pos) (tNw X.w X.K ct Wx C (.slc ea oa ob)) :=
  pei (pe_slice sl_list ha hl hu) fun σ H Q h => by
    obtain ⟨U, M, s, env, r, n, p⟩ := h
    simp only [evN] at p
    refine ⟨U, M, s, env, r, n, p.bind.mono fun x M1 H1 s1 t1 r1 p1 v rv => ?_⟩
    refine ⟨U, M1, s1, env, r1, n.step t1, p1.bind.mono fun l M2 H2 s2 t2 r2 p2 => ?_⟩
    refine ⟨U, M2, s2, env, r2, (n.step t1).step t2, p2.bind.mono fun u M3 H3 s3 t3 r3 p3 => ?_⟩
    have rv3 := (rv.step t2).step t3
    cases hx : x.view s3 with
    | none =>
      simp only [hx] at p3
      exact p3.elim
    | some d =>
      cases d with
      | list xs =>
        simp only [hx] at p3
        obtain ⟨q, vs, e1, h1, h2⟩ := rv3.sqL r3 hx
        refine ⟨q, vs, e1, h1, fun np hp => nw_new (R := True) (Step.refl M3 H3) r3 hp (h2.cut l u) fun M' H' t' r' aa us hn rr hh hr => ?_⟩
        exact p3 M' H' t' r' aa us (t1.none r1 (t2.none r2 (t3.none r3 hn))) rr hh hr
      | _ =>
        simp only [hx] at p3
        exact p3.elim
/-! ### built-ins -/
theorem bi_go {ct : CT} {w : World} {K : PySem.W.Frag} {σ : St} {H : Hp} {bb : Bi} {Q : VK} (h : tE w K ct Wx C (.bi bb ees) σ H Q) : tEs w K ct Wx C ees σ H fun vs H1 => rBi ct w K bb vs H1 Q := by
  obtain ⟨U, M, s, env, r, n, p⟩ := h
  simp only [evE] at p
  refine ⟨U, M, s, env, r, n, p.bind.mono fun ws M1 H1 s1 t1 r1 p1 vs rv => ?_⟩
  cases hv : views s1 ws with
  | none =>
    simp only [hv] at p1
    exact p1.elim
  | some ds =>
    simp only [hv] at p1
    cases hb : bfn bb ds with
    | none =>
      simp only [hb] at p1
      exact p1.elim
    | some z =>
      simp only [hb] at p1
      exact ⟨U, M1, s1, ws, ds, z, r1, rv, hv, hb, fun v H' t' r' rv' => p1 _ H' t' r' v rv'⟩
theorem x_biB {bb : Bi} (hid : CallR X (.builtin id) (rBi ct X.w X.K bb)) (hg : Gl X x) (hm : X.mg x = none) (hv : bootBuiltins x = some (.builtin id)) (ha : PA X (e :: es) (tEs X.w X.K ct Wx C ees)) (hn : x ≠ "__name__") (hdb : (x == ("__debug__" : Str)) = false)
    (he : starEach (e :: es) X.env = (false, eval e X.env) :: starEach es X.env) (hpl : (backTo pos (starEach es X.env)).any (·.1) = false) : PE X (.Call (.Name x p) (e :: es) [] pos) (tE X.w X.K ct Wx C (.bi bb ees)) :=
  pei (pe_callB hid hg hm hv ha hn hdb he hpl) fun σ H Q h => bi_go h
theorem x_biT {bb : Bi} (hid : CallR X (.type T) (rBi ct X.w X.K bb)) (hg : Gl X x) (hm : X.mg x = none) (hv : bootBuiltins x = some (.type T)) (ha : PA X (e :: es) (tEs X.w X.K ct Wx C ees)) (hn : x ≠ "__name__") (hdb : (x == ("__debug__" : Str)) = false)
    (he : starEach (e :: es) X.env = (false, eval e X.env) :: starEach es X.env) (hpl : (backTo pos (starEach es X.env)).any (·.1) = false) : PE X (.Call (.Name x p) (e :: es) [] pos) (tE X.w X.K ct Wx C (.bi bb ees)) :=
  pei (pe_callTy hid hg hm hv ha hn hdb he hpl) fun σ H Q h => bi_go h
theorem x_isa {t : Ty} {te : Expr} (hm : X.mg "isinstance" = none) (hg : Gl X "isinstance") (ht : PE X te (tC (.ty (tyN t)))) (ha : PE X a (tE X.w X.K ct Wx C ea)) (h1 : starEach [a, te] X.env = (false, eval a X.env) :: starEach [te] X.env) (h2 : starEach [te] X.env = (false, eval te X.env) :: starEach [] X.env) :
    PE X (.Call (.Name "isinstance" p) [a, te] [] pos) (tE X.w X.K ct Wx C (.bi (.isa t) (.cons ea .nil))) :=
  pei (pe_callB (vop_isa t) hg hm (by decide +kernel) (pa_cons ha (pa_cons ht pa_nil h2) h1) (by decide) (by decide) h1 (by rw [h2] <;> rfl)) fun σ H Q h => by
    obtain ⟨U, M, s, env, r, n, p⟩ := bi_go h
    simp only [evEs] at p
    refine ⟨U, M, s, env, r, n, p.bind.mono fun w M1 H1 s1 t1 r1 p1 v rv => ?_⟩
    exact ⟨v, rfl, p1.here r1 [v] (.cons rv .nil)⟩
/-- list(e) -/
theorem n_list (hm : X.mg "list" = none) (hg : Gl X "list") (ha : PE X a (tE X.w X.K ct Wx C ea)) (h1 : starEach [a] X.env = (false, eval a X.env) :: starEach [] X.env) : PE X (.Call (.Name "list" p) [a] [] pos) (tNw X.w X.K ct Wx C (.list ea)) :=
  pei (pe_callTy call_list_of hg hm (by decide +kernel) (pa_cons ha pa_nil h1) (by decide) (by decide) h1 rfl) fun σ H Q h => by
    obtain ⟨U, M, s, env, r, n, p⟩ := h
    simp only [evN] at p
    refine ⟨U, M, s, env, r, n, p.bind.mono fun x M1 H1 s1 t1 r1 p1 v rv => ?_⟩
    cases hx : x.view s1 with
    | none =>
      simp only [hx] at p1
      exact p1.elim
    | some d =>
      simp only [hx] at p1
      cases d with
      | list xs =>
        obtain ⟨q, vs, e1, h1, h2⟩ := rv.sqL r1 hx
        refine ⟨q, vs, by rw [e1], .inl h1, fun np hp => nw_new (R := True) (Step.refl M1 H1) r1 hp h2 fun M' H' t' r' aa us hn rr hh hr => ?_⟩
        exact p1 M' H' t' r' aa us (t1.none r1 hn) rr hh hr
      | tuple xs =>
        obtain ⟨q, vs, e1, h1, h2⟩ := rv.sqT r1 hx
        refine ⟨q, vs, by rw [e1], .inr h1, fun np hp => nw_new (R := True) (Step.refl M1 H1) r1 hp h2 fun M' H' t' r' aa us hn rr hh hr => ?_⟩
        exact p1 M' H' t' r' aa us (t1.none r1 hn) rr hh hr
      | _ => exact p1.elim
/-- xs + ys of lists -/
theorem op_catL : OpR X (binaryOp .Add) (fun x y H Q => ∃ l b xs zs, x = .ref l ∧ y = .ref b ∧ SqL X.K H l xs ∧ SqL X.K H b zs ∧ xs.length + zs.length ≤ sizeLine ∧ ∀ p, H p = none → Q (.ref p) (upd H p (.lst (xs ++ zs)))) := by
  intro pins s σ H x y v u Q I rx ry h
  obtain ⟨l, b, xs, zs, e1, e2, h1, h2, hz, q⟩ := h
  subst e1 e2
  cases rx
  cases ry
  obtain ⟨its, r1, p1, _⟩ := I.list h1
  obtain ⟨its2, r2, p2, _⟩ := I.list h2
  obtain ⟨⟨c1, d1, w1, sl1⟩, n1, g1, k1, j1, q1⟩ := p1
  obtain ⟨⟨c2, d2, w2, sl2⟩, n2, g2, k2, j2, q2⟩ := p2
  simp only at k1 j1 q1 k2 j2 q2
  subst k1 j1 q1 k2 j2 q2
  have hz' : its.toArray.size + its2.toArray.size ≤ sizeLine := by
    rw [List.size_toArray, List.size_toArray, ← r1.length, ← r2.length]
    exact hz
  refine concat_meets ⟨_, g1, rfl⟩ ⟨_, g2, rfl⟩ noFill_list_add seq_list_add PySem.F.slot_list_add PySem.F.entry_list_add (PySem.F.args_list_add_2 _ _)
    (list_addW l b its.toArray its2.toArray n1 n2 none none sl1 sl2 hz') ⟨g1, g2, ?_⟩
  have ea : its.toArray ++ its2.toArray = (its ++ its2).toArray := by simp
  rw [ea]
  exact ⟨.ref _, _, I.lnew (t' := s.toks) (r1.append r2) (by rw [List.length_append]; exact hz), rfl, q _ I.fresh⟩
theorem n_add (ha : PE X a (tE X.w X.K ct Wx C ea)) (hb : PE X b (tE X.w X.K ct Wx C eb)) : PE X (.BinOp a .Add b pos) (tNw X.w X.K ct Wx C (.add ea eb)) := pei (pe_op op_catL ha hb) fun σ H Q h => by
  obtain ⟨U, M, s, env, r, n, p⟩ := h
  simp only [evN] at p
  refine ⟨U, M, s, env, r, n, p.bind.mono fun x M1 H1 s1 t1 r1 p1 v rv => ?_⟩
  refine ⟨U, M1, s1, env, r1, n.step t1, p1.bind.mono fun y M2 H2 s2 t2 r2 p2 u ru => ?_⟩
  have rv2 := rv.step t2
  cases hx : x.view s2 with
  | none =>
    simp only [hx] at p2
    exact p2.elim
  | some d =>
    cases hy : y.view s2 with
    | none =>
      cases d <;> (simp only [hx, hy] at p2; exact p2.elim)
    | some e =>
      cases d with
      | list xs =>
        cases e with
        | list ys =>
          simp only [hx, hy] at p2
          cases hc : lenOk (xs.length + ys.length) with
          | false =>
            rw [hc] at p2
            exact p2.elim
          | true =>
            rw [hc] at p2
            obtain ⟨q, vs, e1, h1, h2⟩ := rv2.sqL r2 hx
            obtain ⟨q', us, e2, h3, h4⟩ := ru.sqL r2 hy
            refine ⟨q, q', vs, us, e1, e2, h1, h3, by rw [h2.length, h4.length]; exact of_decide_eq_true hc, fun np hp => nw_new (R := True) (Step.refl M2 H2) r2 hp (h2.append h4) fun M' H' t' r' aa us hn rr hh hr => ?_⟩
            exact p2 M' H' t' r' aa us (t1.none r1 (t2.none r2 hn)) rr hh hr
        | _ =>
          simp only [hx, hy] at p2
          exact p2.elim
      | _ =>
        simp only [hx, hy] at p2
        exact p2.elim
/-! ### methods of texts -/
theorem x_upper {apos : Pos} (ha : PE X a (tE X.w X.K ct Wx C ea)) (hbase : attributeBase a "upper" X.env (eval a X.env) = eval a X.env) (hline : (apos.endLine == pos.line) = true) :
    PE X (.Call (.Attribute a "upper" apos) [] [] pos) (tE X.w X.K ct Wx C (.meth .upper ea .nil)) :=
  pei (pe_bm0 PySem.F.plainAttrs_str PySem.F.slot_str_upper PySem.F.type_str_upper mt_upper ha hbase hline) fun σ H Q h => by
    obtain ⟨U, M, s, env, r, n, p⟩ := h
    simp only [evE, evEs] at p
    refine ⟨U, M, s, env, r, n, p.bind.mono fun x M1 H1 s1 t1 r1 p1 v rv => ?_⟩
    simp only [bind_ok, views_nil] at p1
    cases hx : x.view s1 with
    | none =>
      simp only [hx] at p1
      exact p1.elim
    | some d =>
      simp only [hx] at p1
      cases hg : mef .upper d [] with
      | none =>
        simp only [hg] at p1
        exact p1.elim
      | some z =>
        simp only [hg] at p1
        cases d with
        | str y =>
          obtain ⟨c1, e1⟩ := iff_some (show iff' (decide (y.length ≤ 5592405) && strFit (Txt.upper y)) (PyData.str (Txt.upper y)) = some z from hg)
          subst e1
          simp only [Bool.and_eq_true, decide_eq_true_eq] at c1
          obtain ⟨e2, f2⟩ := rv.strV r1 hx
          subst e2
          exact ⟨rfl, y, rfl, rfl, c1.1, p1.here r1 _ (.str _ c1.2 : Rp X.K _ _ _ _)⟩
        | _ => cases hg
/-! ### dicts -/
theorem paired_look {K : PySem.W.Frag} {A : List Addr} {H : Hp} {key : Key} : ∀ {vs : List (Key × V)} {kvs : List (Key × PyData)}, Paired (fun (p : Key × V) (q : Key × PyData) => p.1 = q.1 ∧ Rp K A H p.2 q.2) vs kvs →
    (valV vs key = none ∧ dlook kvs key = none) ∨ ∃ v d, valV vs key = some v ∧ dlook kvs key = some d ∧ Rp K A H v d
  | _, _, .nil => .inl ⟨rfl, rfl⟩
  | _, _, .cons (a := p) (b := q) (l₁ := l1) (l₂ := l2) r t => by
    obtain ⟨e, rp⟩ := r
    by_cases hk : p.1 = key
    · refine .inr ⟨p.2, q.2, valV_pos hk, ?_, rp⟩
      unfold dlook
      rw [List.find?_cons, show decide (q.1 = key) = true from decide_eq_true (e ▸ hk)]
      rfl
    · have h1 : valV (p :: l1) key = valV l1 key := valV_neg hk
      rw [h1]
      have h2 : dlook (q :: l2) key = dlook l2 key := by
        unfold dlook
        rw [List.find?_cons, show decide (q.1 = key) = false from decide_eq_false (e ▸ hk)]
      rw [h2]
      exact paired_look t
theorem paired_any {K : PySem.W.Frag} {A : List Addr} {H : Hp} {key : Key} : ∀ {vs : List (Key × V)} {kvs : List (Key × PyData)}, Paired (fun (p : Key × V) (q : Key × PyData) => p.1 = q.1 ∧ Rp K A H p.2 q.2) vs kvs →
    (vs.any fun kv => decide (kv.1 = key)) = kvs.any fun kv => decide (kv.1 = key)
  | _, _, .nil => rfl
  | _, _, .cons r t => by
    rw [List.any_cons, List.any_cons, r.1, paired_any t]
theorem paired_put {K : PySem.W.Frag} {A : List Addr} {H : Hp} {key : Key} {v : V} {d : PyData} (rv : Rp K A H v d) {vs : List (Key × V)} {kvs : List (Key × PyData)} (h : Paired (fun (p : Key × V) (q : Key × PyData) => p.1 = q.1 ∧ Rp K A H p.2 q.2) vs kvs) :
    Paired (fun (p : Key × V) (q : Key × PyData) => p.1 = q.1 ∧ Rp K A H p.2 q.2) (putK vs key v) (dputK kvs key d) := by
  have hm : ∀ {vs : List (Key × V)} {kvs : List (Key × PyData)}, Paired (fun (p : Key × V) (q : Key × PyData) => p.1 = q.1 ∧ Rp K A H p.2 q.2) vs kvs →
      Paired (fun (p : Key × V) (q : Key × PyData) => p.1 = q.1 ∧ Rp K A H p.2 q.2) (vs.map fun kv => if kv.1 = key then (kv.1, v) else kv) (kvs.map fun kv => if kv.1 = key then (kv.1, d) else kv) := by
    intro vs kvs h
    induction h with
    | nil => exact .nil
    | cons r t ih =>
      rename_i p q l1 l2
      refine .cons ?_ ih
      dsimp only
      by_cases hk : p.1 = key
      · rw [if_pos hk, if_pos (r.1 ▸ hk)]
        exact ⟨r.1, rv⟩
      · rw [if_neg hk, if_neg (r.1 ▸ hk)]
        exact r
  have hs : ∀ {vs : List (Key × V)} {kvs : List (Key × PyData)}, Paired (fun (p : Key × V) (q : Key × PyData) => p.1 = q.1 ∧ Rp K A H p.2 q.2) vs kvs →
      Paired (fun (p : Key × V) (q : Key × PyData) => p.1 = q.1 ∧ Rp K A H p.2 q.2) (vs ++ [(key, v)]) (kvs ++ [(key, d)]) := by
    intro vs kvs h
    induction h with
    | nil => exact .cons ⟨rfl, rv⟩ .nil
    | cons r t ih => exact .cons r ih
  unfold putK dputK
  rw [paired_any h]
  cases kvs.any (fun kv => decide (kv.1 = key)) with
  | true =>
    rw [if_pos rfl, if_pos rfl]
    exact hm h
  | false =>
    rw [if_neg (by decide), if_neg (by decide)]
    exact hs h
theorem keyOf_kV {w : World} {K : PySem.W.Frag} {U M : List Addr} {H : Hp} {v : V} {d : PyData} {key : Key} (rv : RV w K U M H v d) (h : keyOf d = some key) : v = kV key := by
  cases d with
  | int i =>
    cases h
    exact Rp.intI rv
  | str x =>
    cases h
    exact (Rp.strI rv).1
  | _ => cases h
theorem x_dget (o : XOk X k Wx) (ha : PE X a (tE X.w X.K ct Wx C ea)) (hb : PE X b (tE X.w X.K ct Wx C eb)) (hs : NoSl b) : PE X (.Subscript a b pos) (tE X.w X.K ct Wx C (.dget ea eb)) :=
  pei (pe_dget (by have := o.hu; omega) ha hb hs) fun σ H Q h => by
    refine two_go (S := fun v u H2 => ∃ a v', v = .ref a ∧ DGet H2 a u (some v') ∧ Q v' H2) (R := fun U x M' H' _ => ∀ v, RW ct X.w X.K U M' H' v x → Q v H') (f := fun x y s2 => match x, y with
      | .ref i, .val kd => match s2[i]?, keyOf kd with
        | some (.dct kvs), some key => match dlook kvs key with
          | some d => (.ok (.val d) s2 : Res W)
          | none => .stuck
        | _, _ => .stuck
      | _, _ => .stuck) ?_ fun U M1 H1 s1 x y v u r rx ry p => ?_
    · obtain ⟨U, M, s, env, r, n, p⟩ := h
      simp only [evE] at p
      exact ⟨U, M, s, env, r, n, p⟩
    · cases x with
      | val d => exact p.elim
      | exn _ _ => exact p.elim
      | ref i =>
        cases y with
        | ref j => exact p.elim
        | exn _ _ => exact p.elim
        | val kd =>
          obtain ⟨aa, h1, h2⟩ := rx
          cases hs : s1[i]? with
          | none =>
            simp only [hs] at p
            exact p.elim
          | some ob =>
            cases ob with
            | lst xs =>
              simp only [hs] at p
              exact p.elim
            | dct kvs =>
              cases hk : keyOf kd with
              | none =>
                simp only [hs, hk] at p
                exact p.elim
              | some key =>
                simp only [hs, hk] at p
                obtain ⟨vs, h3, h4⟩ := r.ob i aa _ h1 hs
                rcases paired_look (key := key) h4 with ⟨_, q2⟩ | ⟨v', d', q1, q2, q3⟩
                · simp only [q2] at p
                  exact p.elim
                · simp only [q2] at p
                  refine ⟨aa, v', h2, ?_, p.here r _ q3.rv⟩
                  rw [keyOf_kV ry hk, ← q1]
                  exact .k h3
theorem din_go {σ : St} {H : Hp} {Q : VK} (h : tE X.w X.K ct Wx C (.din ea eb) σ H Q) : tDIn (tE X.w X.K ct Wx C eb) (tE X.w X.K ct Wx C ea) σ H Q := by
    refine two_go (S := fun u v H2 => ∃ a v', v = .ref a ∧ DGet H2 a u v' ∧ Q (.bl v'.isSome) H2) (R := fun U x M' H' _ => ∀ v, RW ct X.w X.K U M' H' v x → Q v H') (f := fun y x s2 => match x, y with
      | .ref i, .val kd => match s2[i]?, keyOf kd with
        | some (.dct kvs), some key => (.ok (.val (.bool (dlook kvs key).isSome)) s2 : Res W)
        | _, _ => .stuck
      | _, _ => .stuck) ?_ fun U M1 H1 s1 y x u v r ry rx p => ?_
    · obtain ⟨U, M, s, env, r, n, p⟩ := h
      simp only [evE] at p
      exact ⟨U, M, s, env, r, n, p⟩
    · cases x with
      | val d => exact p.elim
      | exn _ _ => exact p.elim
      | ref i =>
        cases y with
        | ref j => exact p.elim
        | exn _ _ => exact p.elim
        | val kd =>
          obtain ⟨aa, h1, h2⟩ := rx
          cases hs : s1[i]? with
          | none =>
            simp only [hs] at p
            exact p.elim
          | some ob =>
            cases ob with
            | lst xs =>
              simp only [hs] at p
              exact p.elim
            | dct kvs =>
              cases hk : keyOf kd with
              | none =>
                simp only [hs, hk] at p
                exact p.elim
              | some key =>
                simp only [hs, hk] at p
                obtain ⟨vs, h3, h4⟩ := r.ob i aa _ h1 hs
                refine ⟨aa, valV vs key, h2, ?_, ?_⟩
                · rw [keyOf_kV ry hk]
                  exact .k h3
                · rcases paired_look (key := key) h4 with ⟨q1, q2⟩ | ⟨v', d', q1, q2, q3⟩
                  · simp only [q2] at p
                    rw [q1]
                    exact p.here r _ (.bl _ : Rp X.K _ _ _ _)
                  · simp only [q2] at p
                    rw [q1]
                    exact p.here r _ (.bl _ : Rp X.K _ _ _ _)
theorem x_din (o : XOk X k Wx) (ha : PE X a (tE X.w X.K ct Wx C ea)) (hb : PE X b (tE X.w X.K ct Wx C eb)) (hm : behindInMarks .In a = false) : PE X (.Compare b [.In] [a] pos) (tE X.w X.K ct Wx C (.din ea eb)) :=
  pei (pe_cmp (pc_din (by have := o.hu; omega) hb ha) hm) fun σ H Q h => din_go h
theorem evB_din (env : Ve) (s : Stk) (x : W) (s1 : Stk) (h : evE C (.din ea eb) env s = .ok x s1) : ∃ k, x = .val (.bool k) := by
  simp only [evE] at h
  obtain ⟨y, s2, _, h⟩ := bind_okI h
  obtain ⟨z, s3, _, h⟩ := bind_okI h
  cases z with
  | val d => cases h
  | exn _ _ => cases h
  | ref i =>
    cases y with
    | ref j => cases h
    | exn _ _ => cases h
    | val kd =>
      cases hs : s3[i]? with
      | none =>
        simp only [hs] at h
        cases h
      | some ob =>
        cases ob with
        | lst xs =>
          simp only [hs] at h
          cases h
        | dct kvs =>
          cases hk : keyOf kd with
          | none =>
            simp only [hs, hk] at h
            cases h
          | some key =>
            simp only [hs, hk] at h
            cases h
            exact ⟨_, rfl⟩
theorem x_dinT (o : XOk X k Wx) (ha : PE X a (tE X.w X.K ct Wx C ea)) (hb : PE X b (tE X.w X.K ct Wx C eb)) (hm : behindInMarks .In a = false) : PT X (.Compare b [.In] [a] pos) (tT X.w X.K ct Wx C (.val (.din ea eb))) :=
  pti (pt_cmp (pc_din (by have := o.hu; omega) hb ha) hm) fun σ H Q h => din_go (tB_of evB_din h)
theorem dnin_go {σ : St} {H : Hp} {Q : VK} (h : tE X.w X.K ct Wx C (.dnin ea eb) σ H Q) : tDNotIn (tE X.w X.K ct Wx C eb) (tE X.w X.K ct Wx C ea) σ H Q := by
    refine two_go (S := fun u v H2 => ∃ a v', v = .ref a ∧ DGet H2 a u v' ∧ Q (.bl (!v'.isSome)) H2) (R := fun U x M' H' _ => ∀ v, RW ct X.w X.K U M' H' v x → Q v H') (f := fun y x s2 => match x, y with
      | .ref i, .val kd => match s2[i]?, keyOf kd with
        | some (.dct kvs), some key => (.ok (.val (.bool (!(dlook kvs key).isSome))) s2 : Res W)
        | _, _ => .stuck
      | _, _ => .stuck) ?_ fun U M1 H1 s1 y x u v r ry rx p => ?_
    · obtain ⟨U, M, s, env, r, n, p⟩ := h
      simp only [evE] at p
      exact ⟨U, M, s, env, r, n, p⟩
    · cases x with
      | val d => exact p.elim
      | exn _ _ => exact p.elim
      | ref i =>
        cases y with
        | ref j => exact p.elim
        | exn _ _ => exact p.elim
        | val kd =>
          obtain ⟨aa, h1, h2⟩ := rx
          cases hs : s1[i]? with
          | none =>
            simp only [hs] at p
            exact p.elim
          | some ob =>
            cases ob with
            | lst xs =>
              simp only [hs] at p
              exact p.elim
            | dct kvs =>
              cases hk : keyOf kd with
              | none =>
                simp only [hs, hk] at p
                exact p.elim
              | some key =>
                simp only [hs, hk] at p
                obtain ⟨vs, h3, h4⟩ := r.ob i aa _ h1 hs
                refine ⟨aa, valV vs key, h2, ?_, ?_⟩
                · rw [keyOf_kV ry hk]
                  exact .k h3
                · rcases paired_look (key := key) h4 with ⟨q1, q2⟩ | ⟨v', d', q1, q2, q3⟩
                  · simp only [q2] at p
                    rw [q1]
                    exact p.here r _ (.bl _ : Rp X.K _ _ _ _)
                  · simp only [q2] at p
                    rw [q1]
                    exact p.here r _ (.bl _ : Rp X.K _ _ _ _)
theorem x_dnin (o : XOk X k Wx) (ha : PE X a (tE X.w X.K ct Wx C ea)) (hb : PE X b (tE X.w X.K ct Wx C eb)) (hm : behindInMarks .NotIn a = false) : PE X (.Compare b [.NotIn] [a] pos) (tE X.w X.K ct Wx C (.dnin ea eb)) :=
  pei (pe_cmp (pc_dnotin (by have := o.hu; omega) hb ha) hm) fun σ H Q h => dnin_go h
theorem evB_dnin (env : Ve) (s : Stk) (x : W) (s1 : Stk) (h : evE C (.dnin ea eb) env s = .ok x s1) : ∃ k, x = .val (.bool k) := by
  simp only [evE] at h
  obtain ⟨y, s2, _, h⟩ := bind_okI h
  obtain ⟨z, s3, _, h⟩ := bind_okI h
  cases z with
  | val d => cases h
  | exn _ _ => cases h
  | ref i =>
    cases y with
    | ref j => cases h
    | exn _ _ => cases h
    | val kd =>
      cases hs : s3[i]? with
      | none =>
        simp only [hs] at h
        cases h
      | some ob =>
        cases ob with
        | lst xs =>
          simp only [hs] at h
          cases h
        | dct kvs =>
          cases hk : keyOf kd with
          | none =>
            simp only [hs, hk] at h
            cases h
          | some key =>
            simp only [hs, hk] at h
            cases h
            exact ⟨_, rfl⟩
theorem x_dninT (o : XOk X k Wx) (ha : PE X a (tE X.w X.K ct Wx C ea)) (hb : PE X b (tE X.w X.K ct Wx C eb)) (hm : behindInMarks .NotIn a = false) : PT X (.Compare b [.NotIn] [a] pos) (tT X.w X.K ct Wx C (.val (.dnin ea eb))) :=
  pti (pt_cmp (pc_dnotin (by have := o.hu; omega) hb ha) hm) fun σ H Q h => dnin_go (tB_of evB_dnin h)
end
end MP
set_option maxRecDepth 10000
/-! MPStmt: statements. -/
namespace MP
open PySem PySem.Spec L2
open PyProof.Rows hiding St
abbrev wE (Er : XK) : WX := fun cls d _ H => Er cls d H
theorem psi {X : Cx} {e : Stmt} {t t' : TS} (h : PS X e t) (i : ∀ D σ H, t' D σ H → t D σ H) : PS X e t' := ⟨fun pins s σ H D I q => h.run pins s σ H D I (i D σ H q)⟩
theorem pssi {X : Cx} {e : List Stmt} {t t' : TS} (h : PSs X e t) (i : ∀ D σ H, t' D σ H → t D σ H) : PSs X e t' := ⟨fun pins s σ H D I q => h.run pins s σ H D I (i D σ H q)⟩
/-- an end is met -/
def OutR (ct : CT) (w : World) (K : PySem.W.Frag) (U : List Addr) (D : Ends) (H : Hp) (M' : List Addr) (H' : Hp) (s' : Stk) : Out → Prop
  | .nx env => ∀ σ', REnv ct w K U M' H' σ' env → D.nx σ' H'
  | .rt x => ∀ v, RW ct w K U M' H' v x → D.rt v H'
  | .rtN xs => ∀ a vs, H a = none → RelS K (a :: U) M' H' s' → H' a = some (.lst vs) → RpAll K (M' ++ (a :: U)) H' vs xs → D.rt (.ref a) H'
  | .brk env => ∀ σ', REnv ct w K U M' H' σ' env → D.bk σ' H'
  | .ct env => ∀ σ', REnv ct w K U M' H' σ' env → D.ct σ' H'
def tSt (w : World) (K : PySem.W.Frag) (ct : CT) (Er : XK) (run : Ve → Stk → Res Out) : TS := fun D σ H => rd w K ct (wE Er) run σ H fun U o M' H' s' => OutR ct w K U D H M' H' s' o
abbrev tS (w : World) (K : PySem.W.Frag) (ct : CT) (Er : XK) (C : Callf) (st : S) : TS := tSt w K ct Er (evS C st)
abbrev tSs (w : World) (K : PySem.W.Frag) (ct : CT) (Er : XK) (C : Callf) (ss : Ss) : TS := tSt w K ct Er (evSs C ss)
theorem Post.sg {ct : CT} {K : PySem.W.Frag} {Er : XK} {σ σ' : St} {U M : List Addr} {H : Hp} {α : Type} {r : Res α} {R : α → List Addr → Hp → Stk → Prop} (h : Post ct K U (wE Er) σ M H r R) : Post ct K U (wE Er) σ' M H r R := by
  cases r with
  | ok a s => exact h
  | exc c d s => exact h
  | stuck => exact h
/-- an end behind a first run -/
theorem OutR.from {ct : CT} {w : World} {K : PySem.W.Frag} {U : List Addr} {D : Ends} {H H1 : Hp} {M M1 M' : List Addr} {H' : Hp} {s1 s' : Stk} {o : Out} (t : Step M H M1 H1) (r : RelS K U M1 H1 s1) (h : OutR ct w K U D H M' H' s' o) : OutR ct w K U D H1 M' H' s' o := by
  cases o with
  | rtN xs => exact fun a vs hn => h a vs (t.none r hn)
  | _ => exact h
section
variable {X : Cx} {ct : CT} {Er : XK} {C : Callf} {a b c e : Expr} {st : Stmt} {rest body sa sb : List Stmt} {ea eb ec : E} {ees : Es} {ta : T} {ss ss' : Ss} {s1 : S} {pos p p2 : Pos} {k : Nat} {x : Str} {i j : Nat}
theorem ss_nil : PSs X [] (tSs X.w X.K ct Er C .nil) := pssi pss_nil fun D σ H h => by
  obtain ⟨U, M, s, env, r, n, p⟩ := h
  simp only [evSs] at p
  exact p.here r σ n
theorem ss_cons (h1 : PS X st (tS X.w X.K ct Er C s1)) (h2 : PSs X rest (tSs X.w X.K ct Er C ss)) : PSs X (st :: rest) (tSs X.w X.K ct Er C (.cons s1 ss)) := pssi (pss_cons h1 h2) fun D σ H h => by
  obtain ⟨U, M, s, env, r, n, p⟩ := h
  simp only [evSs] at p
  refine ⟨U, M, s, env, r, n, p.bind.mono fun o M1 H1 s1 t1 r1 p1 => ?_⟩
  cases o with
  | nx env1 => exact fun σ' n' => ⟨U, M1, s1, env1, r1, n', (Post.sg p1).mono fun o M2 H2 s2 t2 r2 q => q.from t1 r1⟩
  | rt w => exact p1.here r1
  | rtN xs => exact p1.here r1
  | brk w => exact p1.here r1
  | ct xs => exact p1.here r1
/-- the last statement -/
theorem ss_one (h1 : PS X st (tS X.w X.K ct Er C s1)) : PSs X [st] (tSs X.w X.K ct Er C (.cons s1 .nil)) := ss_cons h1 ss_nil
theorem s_pass : PS X (.Pass pos) (tS X.w X.K ct Er C .pass) := psi ps_pass fun D σ H h => by
  obtain ⟨U, M, s, env, r, n, p⟩ := h
  simp only [evS] at p
  exact p.here r σ n
theorem s_doc {z j pos'} : PS X (.Expr (.Constant (.str z) j pos) pos') (tS X.w X.K ct Er C .pass) := psi ps_doc fun D σ H h => by
  obtain ⟨U, M, s, env, r, n, p⟩ := h
  simp only [evS] at p
  exact p.here r σ n
theorem s_brk : PS X (.Break pos) (tS X.w X.K ct Er C .brk) := psi ps_break fun D σ H h => by
  obtain ⟨U, M, s, env, r, n, p⟩ := h
  simp only [evS] at p
  exact p.here r σ n
theorem s_ct : PS X (.Continue pos) (tS X.w X.K ct Er C .ct) := psi ps_continue fun D σ H h => by
  obtain ⟨U, M, s, env, r, n, p⟩ := h
  simp only [evS] at p
  exact p.here r σ n
theorem s_expr (he : PE X e (tE X.w X.K ct (wE Er) C ea)) (hs : swapsWith e none pos.line X.env = pure false) : PS X (.Expr e pos) (tS X.w X.K ct Er C (.expr ea)) := psi (ps_expr he hs) fun D σ H h => by
  obtain ⟨U, M, s, env, r, n, p⟩ := h
  simp only [evS] at p
  exact ⟨U, M, s, env, r, n, p.bind.mono fun x M1 H1 s1 t1 r1 p1 v rv => p1.here r1 σ (n.step t1)⟩
theorem s_ret (he : PE X e (tE X.w X.K ct (wE Er) C ea)) : PS X (.Return (some e) pos) (tS X.w X.K ct Er C (.ret ea)) := psi (ps_ret he) fun D σ H h => by
  obtain ⟨U, M, s, env, r, n, p⟩ := h
  simp only [evS] at p
  exact ⟨U, M, s, env, r, n, p.bind.mono fun x M1 H1 s1 t1 r1 p1 v rv => p1.here r1 v rv⟩
theorem s_retN {nn : N} (he : PE X e (tNw X.w X.K ct (wE Er) C nn)) : PS X (.Return (some e) pos) (tS X.w X.K ct Er C (.retN nn)) := psi (ps_ret he) fun D σ H h => by
  obtain ⟨U, M, s, env, r, n, p⟩ := h
  simp only [evS] at p
  refine ⟨U, M, s, env, r, n, p.bind.mono fun x M1 H1 s1 t1 r1 p1 a vs hn r2 h1 h2 => ?_⟩
  exact p1.here r1 a vs hn r2 h1 h2
theorem s_ret0 : PS X (.Return none pos) (tS X.w X.K ct Er C (.ret (.cst .none))) := psi ps_retN fun D σ H h => by
  obtain ⟨U, M, s, env, r, n, p⟩ := h
  simp only [evS, evE, bind_ok] at p
  exact p.here r .non (.non : Rp X.K _ _ _ _)
theorem s_if (hc : PT X c (tT X.w X.K ct (wE Er) C ta)) (ha : PSs X sa (tSs X.w X.K ct Er C ss)) (hb : PSs X sb (tSs X.w X.K ct Er C ss')) : PS X (.If c sa sb pos) (tS X.w X.K ct Er C (.ifs ta ss ss')) := psi (ps_if hc ha hb) fun D σ H h => by
  obtain ⟨U, M, s, env, r, n, p⟩ := h
  simp only [evS] at p
  refine ⟨U, M, s, env, r, n, p.bind.mono fun b M1 H1 s1 t1 r1 p1 => ?_⟩
  cases b with
  | true =>
    rw [if_pos rfl]
    exact ⟨U, M1, s1, env, r1, n.step t1, p1.mono fun o M2 H2 s2 t2 r2 q => q.from t1 r1⟩
  | false =>
    rw [if_neg (by decide)]
    exact ⟨U, M1, s1, env, r1, n.step t1, p1.mono fun o M2 H2 s2 t2 r2 q => q.from t1 r1⟩
/-! ### names are set -/
theorem set_go {D : Ends} {σ : St} {H : Hp} (h : tS X.w X.K ct Er C (.asg (.name i) ea) D σ H) : tAsg (tE X.w X.K ct (wE Er) C ea) (gName i) D σ H := by
  obtain ⟨U, M, s, env, r, n, p⟩ := h
  simp only [evS] at p
  exact ⟨U, M, s, env, r, n, p.bind.mono fun x M1 H1 s1 t1 r1 p1 v rv => p1.here r1 _ ((n.step t1).set rv)⟩
theorem s_set {pos' : Pos} (o : X.N.Nodup) (hi : X.N[i]? = some x) (hx : Loc X.env.scope x) (hf : X.fn x = true ∨ X.env.scope.names.lookup x = some .local) (he : PE X e (tE X.w X.K ct (wE Er) C ea)) (hs : swapsWith e (some (.Name x pos')) pos.line X.env = pure false) :
    PS X (.Assign [.Name x pos'] e pos) (tS X.w X.K ct Er C (.asg (.name i) ea)) := psi (ps_set o hi hx he hs hf) fun D σ H h => set_go h
/-! several names -/
/-- targets that are names, by their slots -/
inductive Nms (X : Cx) : List Expr → List Nat → Prop
  | nil : Nms X [] []
  | cons {y : Str} {i : Nat} {q : Pos} {es : List Expr} {is : List Nat} : X.N[i]? = some y → Loc X.env.scope y → (X.fn y = true ∨ X.env.scope.names.lookup y = some .local) → Nms X es is → (assignEach (.Name y q :: es) X.env).map (·.2) = assign (.Name y q) X.env :: (assignEach es X.env).map (·.2) → Nms X (.Name y q :: es) (i :: is)
def putAll (σ : St) : List Nat → List V → St
  | i :: is, v :: vs => putAll (σ.set i (some v)) is vs
  | _, _ => σ
theorem nms_pg (o : X.N.Nodup) : ∀ {es : List Expr} {is : List Nat}, Nms X es is → PGs X es fun vs σ H Q => vs.length = is.length ∧ Q (putAll σ is vs) H
  | _, _, .nil => ⟨fun pins s σ H vs us Q I r h => by
    obtain ⟨h1, h2⟩ := h
    have : vs = [] := List.length_eq_zero_iff.mp h1
    subst this
    exact pgs_nil.run pins s σ H [] us Q I r ⟨rfl, h2⟩⟩
  | _, _, .cons (i := i) hi hl hf t hs => ⟨fun pins s σ H vs us Q I r h => by
    refine (pgs_cons (pg_name (i := i) o hi hl hf) (nms_pg o t) hs).run pins s σ H vs us Q I r ?_
    obtain ⟨h1, h2⟩ := h
    cases vs with
    | nil => cases h1
    | cons v vs => exact ⟨v, vs, rfl, Nat.succ.inj h1, h2⟩⟩
theorem RWs.ofRp {ct : CT} {w : World} {K : PySem.W.Frag} {U M : List Addr} {H : Hp} : ∀ {vs : List V} {ds : List PyData}, RpAll K (M ++ U) H vs ds → RWs ct w K U M H vs (ds.map W.val)
  | _, _, .nil => .nil
  | _, _, .cons r t => .cons (show RV w K U M H _ _ from r.rv) (RWs.ofRp t)
theorem REnv.putAll {ct : CT} {w : World} {K : PySem.W.Frag} {U M : List Addr} {H : Hp} : ∀ {is : List Nat} {vs : List V} {ws : List W} {σ : St} {env : Ve}, REnv ct w K U M H σ env → RWs ct w K U M H vs ws → REnv ct w K U M H (MP.putAll σ is vs) (setAll env is ws)
  | [], _, _, _, _, n, _ => n
  | _ :: _, _, _, _, _, n, .nil => n
  | i :: is, _, _, _, _, n, .cons r t => by
    have q := REnv.putAll (is := is) (n.set (i := i) r) t
    exact q
theorem setAll_zip : ∀ (is : List Nat) (ds : List PyData) (env : Ve), (is.zip ds).foldl (fun e p => e.set p.1 (some (.val p.2))) env = setAll env is (ds.map W.val)
  | [], _, _ => rfl
  | _ :: _, [], _ => rfl
  | i :: is, d :: ds, env => setAll_zip is ds _
mutual
def slotsT : Tg → List Nat
  | .name i => [i]
  | .tup is => is
  | .nest ts => slotsTs ts
def slotsTs : Tgs → List Nat
  | .nil => []
  | .cons t ts => slotsT t ++ slotsTs ts
end
/-- a target, with a value -/
def gT (ct : CT) (w : World) (K : PySem.W.Frag) (g : Tg) : TG := fun v σ H Q => ∃ U M env d env', RW ct w K U M H v (.val d) ∧ REnv ct w K U M H σ env ∧ bindTg g d env = some env' ∧ ∀ vs, vs.length = (slotsT g).length → REnv ct w K U M H (putAll σ (slotsT g) vs) env' → Q (putAll σ (slotsT g) vs) H
theorem g_name {y : Str} (o : X.N.Nodup) (hi : X.N[i]? = some y) (hx : Loc X.env.scope y) (hf : X.fn y = true ∨ X.env.scope.names.lookup y = some .local) : PG X (.Name y pos) (gT ct X.w X.K (.name i)) := ⟨fun pins s σ H v u Q I r h => by
  refine (pg_name o hi hx hf).run pins s σ H v u Q I r ?_
  obtain ⟨U, M, env, d, env', rv, n, hb, q⟩ := h
  simp only [bindTg] at hb
  cases hb
  have q1 := q [v] rfl
  simp only [slotsT] at q1
  exact q1 (n.set rv)⟩
theorem g_tup {es : List Expr} {is : List Nat} {k2 : Nat} (o : X.N.Nodup) (hc : X.calm = true) (hn : Nms X es is) (hl : (assignEach es X.env).length = is.length) (hst : (assignEach es X.env).findIdx? (·.1) = none) : PG X (.Tuple es k2 pos) (gT ct X.w X.K (.tup is)) := ⟨fun pins s σ H v u Q I r h => by
  refine (pg_tup hc (nms_pg o hn) hl hst).run pins s σ H v u Q I r ?_
  obtain ⟨U, M, env, d, env', rv, n, hb, q⟩ := h
  cases d with
  | tuple ds =>
    obtain ⟨a, vs, e1, h1, h2⟩ := Rp.sqT rv
    simp only [bindTg] at hb
    by_cases hlen : is.length = ds.length
    · rw [if_pos hlen] at hb
      cases hb
      have q1 := q vs
      simp only [slotsT] at q1
      refine ⟨a, vs, e1, h1, by rw [h2.length, hlen], by rw [h2.length, hlen], q1 (by rw [h2.length, hlen]) ?_⟩
      rw [setAll_zip]
      exact n.putAll (RWs.ofRp h2)
    · rw [if_neg hlen] at hb
      cases hb
  | _ => simp [bindTg] at hb⟩
theorem putAll_append : ∀ (is js : List Nat) (us vs : List V) (σ : St), us.length = is.length → putAll σ (is ++ js) (us ++ vs) = putAll (putAll σ is us) js vs
  | [], _, [], _, _, _ => rfl
  | [], _, _ :: _, _, _, h => by cases h
  | _ :: _, _, [], _, _, h => by cases h
  | i :: is, js, u :: us, vs, σ, h => putAll_append is js us vs (σ.set i (some u)) (Nat.succ.inj h)
/-- several targets, with values -/
def gTs (ct : CT) (w : World) (K : PySem.W.Frag) (ts : Tgs) : TGs := fun vs σ H Q => ∃ U M env ds env', RpAll K (M ++ U) H vs ds ∧ REnv ct w K U M H σ env ∧ bindTgs ts ds env = some env' ∧ ∀ us, us.length = (slotsTs ts).length → REnv ct w K U M H (putAll σ (slotsTs ts) us) env' → Q (putAll σ (slotsTs ts) us) H
theorem gs_nil : PGs X [] (gTs ct X.w X.K .nil) := ⟨fun pins s σ H vs us Q I r h => by
  refine pgs_nil.run pins s σ H vs us Q I r ?_
  obtain ⟨U, M, env, ds, env', rv, n, hb, q⟩ := h
  cases rv with
  | nil =>
    simp only [bindTgs] at hb
    cases hb
    exact ⟨rfl, q [] rfl n⟩
  | cons _ _ => simp [bindTgs] at hb⟩
theorem gs_cons {e : Expr} {es : List Expr} {t : Tg} {ts : Tgs} (h1 : PG X e (gT ct X.w X.K t)) (h2 : PGs X es (gTs ct X.w X.K ts)) (hs : (assignEach (e :: es) X.env).map (·.2) = assign e X.env :: (assignEach es X.env).map (·.2)) : PGs X (e :: es) (gTs ct X.w X.K (.cons t ts)) := ⟨fun pins s σ H vs us Q I r h => by
  refine (pgs_cons h1 h2 hs).run pins s σ H vs us Q I r ?_
  obtain ⟨U, M, env, ds, env', rv, n, hb, q⟩ := h
  cases rv with
  | nil => simp [bindTgs] at hb
  | @cons v vs d ds rd rr =>
    simp only [bindTgs] at hb
    cases h3 : bindTg t d env with
    | none =>
      rw [h3] at hb
      cases hb
    | some env1 =>
      rw [h3] at hb
      refine ⟨v, vs, rfl, U, M, env, d, env1, (show RV X.w X.K U M H v d from rd.rv), n, h3, fun u1 l1 n1 => ⟨U, M, env1, ds, env', rr, n1, hb, fun u2 l2 n2 => ?_⟩⟩
      have q1 := q (u1 ++ u2)
      simp only [slotsTs] at q1
      rw [putAll_append _ _ _ _ _ l1] at q1
      exact q1 (by rw [List.length_append, List.length_append, l1, l2]) n2⟩
def lenTs : Tgs → Nat
  | .nil => 0
  | .cons _ ts => lenTs ts + 1
theorem bindTgs_len : ∀ {ts : Tgs} {ds : List PyData} {env env' : Ve}, bindTgs ts ds env = some env' → ds.length = lenTs ts
  | .nil, [], _, _, _ => rfl
  | .nil, _ :: _, _, _, h => by simp [bindTgs] at h
  | .cons _ _, [], _, _, h => by simp [bindTgs] at h
  | .cons t ts, d :: ds, env, env', h => by
    simp only [bindTgs] at h
    cases h3 : bindTg t d env with
    | none =>
      rw [h3] at h
      cases h
    | some e1 =>
      rw [h3] at h
      exact congrArg Nat.succ (bindTgs_len h)
theorem g_nest {es : List Expr} {ts : Tgs} {k2 : Nat} (hc : X.calm = true) (hn : PGs X es (gTs ct X.w X.K ts)) (hl : (assignEach es X.env).length = lenTs ts) (hst : (assignEach es X.env).findIdx? (·.1) = none) : PG X (.Tuple es k2 pos) (gT ct X.w X.K (.nest ts)) := ⟨fun pins s σ H v u Q I r h => by
  refine (pg_tup hc hn hl hst).run pins s σ H v u Q I r ?_
  obtain ⟨U, M, env, d, env', rv, n, hb, q⟩ := h
  cases d with
  | tuple ds =>
    obtain ⟨a, vs, e1, h1, h2⟩ := Rp.sqT rv
    simp only [bindTg] at hb
    refine ⟨a, vs, e1, h1, by rw [h2.length, bindTgs_len hb], U, M, env, ds, env', h2, n, hb, fun us hl n' => ?_⟩
    have q1 := q us
    simp only [slotsT] at q1
    exact q1 hl n'
  | _ => simp [bindTg] at hb⟩
theorem s_asgN {es : List Expr} {ts : Tgs} {k2 : Nat} {pt : Pos} (hc : X.calm = true) (hn : PGs X es (gTs ct X.w X.K ts)) (hl : (assignEach es X.env).length = lenTs ts) (hst : (assignEach es X.env).findIdx? (·.1) = none) (he : PE X e (tE X.w X.K ct (wE Er) C ea))
    (hs : swapsWithSole [.Tuple es k2 pt] e pos.line X.env = pure false) (hw : swappedStores [.Tuple es k2 pt] e X.env = pure none)
    (h1 : (assignEach [.Tuple es k2 pt] X.env).map (·.2) = [assign (.Tuple es k2 pt) X.env]) : PS X (.Assign [.Tuple es k2 pt] e pos) (tS X.w X.K ct Er C (.asg (.nest ts) ea)) :=
  psi (ps_asg he (g_nest hc hn hl hst) hs hw h1) fun D σ H h => by
    obtain ⟨U, M, s, env, r, n, p⟩ := h
    simp only [evS] at p
    refine ⟨U, M, s, env, r, n, p.bind.mono fun x M1 H1 s1 t1 r1 p1 v rv => ?_⟩
    cases x with
    | ref i => exact p1.elim
    | exn _ _ => exact p1.elim
    | val d =>
      simp only at p1
      cases hb : bindTg (.nest ts) d env with
      | none =>
        simp only [hb] at p1
        exact p1.elim
      | some env' =>
        simp only [hb] at p1
        exact ⟨U, M1, env, d, env', rv, n.step t1, hb, fun vs _ n' => p1.here r1 _ n'⟩
theorem s_asgT {es : List Expr} {is : List Nat} {k2 : Nat} {pt : Pos} (o : X.N.Nodup) (hc : X.calm = true) (hn : Nms X es is) (hl : (assignEach es X.env).length = is.length) (hst : (assignEach es X.env).findIdx? (·.1) = none) (he : PE X e (tE X.w X.K ct (wE Er) C ea))
    (hs : swapsWithSole [.Tuple es k2 pt] e pos.line X.env = pure false) (hw : swappedStores [.Tuple es k2 pt] e X.env = pure none)
    (h1 : (assignEach [.Tuple es k2 pt] X.env).map (·.2) = [assign (.Tuple es k2 pt) X.env]) : PS X (.Assign [.Tuple es k2 pt] e pos) (tS X.w X.K ct Er C (.asg (.tup is) ea)) :=
  psi (ps_asg he (g_tup o hc hn hl hst) hs hw h1) fun D σ H h => by
    obtain ⟨U, M, s, env, r, n, p⟩ := h
    simp only [evS] at p
    refine ⟨U, M, s, env, r, n, p.bind.mono fun x M1 H1 s1 t1 r1 p1 v rv => ?_⟩
    cases x with
    | ref i => exact p1.elim
    | exn _ _ => exact p1.elim
    | val d =>
      simp only at p1
      cases hb : bindTg (.tup is) d env with
      | none =>
        simp only [hb] at p1
        exact p1.elim
      | some env' =>
        simp only [hb] at p1
        exact ⟨U, M1, env, d, env', rv, n.step t1, hb, fun vs _ n' => p1.here r1 _ n'⟩
/-- a, b = x, y, stored from the right -/
theorem s_par2 {x y : Str} {px py pt : Pos} {kt k2 pt2} (hc : X.calm = true) (o : X.N.Nodup) (hi : X.N[i]? = some x) (hj : X.N[j]? = some y) (hij : i ≠ j)
    (hx : X.env.scope.names.lookup x = some .local) (hy : X.env.scope.names.lookup y = some .local) (ha : PA X [a, b] (tEs X.w X.K ct (wE Er) C ees))
    (hw : swappedStores [.Tuple [.Name x px, .Name y py] kt pt] (.Tuple [a, b] k2 pt2) X.env = pure (some [x, y]))
    (hs : swapsWithSole [.Tuple [.Name x px, .Name y py] kt pt] (.Tuple [a, b] k2 pt2) pos.line X.env = pure false) :
    PS X (.Assign [.Tuple [.Name x px, .Name y py] kt pt] (.Tuple [a, b] k2 pt2) pos) (tS X.w X.K ct Er C (.par [i, j] ees)) :=
  psi (ps_par hc o hi hj hij hx hy ha hw hs) fun D σ H h => by
    obtain ⟨U, M, s, env, r, n, p⟩ := h
    simp only [evS] at p
    refine ⟨U, M, s, env, r, n, p.bind.mono fun ws M1 H1 s1 t1 r1 p1 vs rv => ?_⟩
    by_cases hl : [i, j].length = ws.length
    · rw [if_pos hl] at p1
      cases rv with
      | nil => cases hl
      | cons q1 rv =>
        cases rv with
        | nil => cases hl
        | cons q2 rv =>
          cases rv with
          | cons _ _ => cases hl
          | nil => exact ⟨_, _, rfl, p1.here r1 _ (((n.step t1).set q1).set q2)⟩
    · rw [if_neg hl] at p1
      exact p1.elim
theorem s_par3 {l : Nat} {x y z : Str} {px py pz pt : Pos} {kt k2 pt2} (hc : X.calm = true) (o : X.N.Nodup) (hi : X.N[i]? = some x) (hj : X.N[j]? = some y) (hl : X.N[l]? = some z) (hij : i ≠ j) (hil : i ≠ l) (hjl : j ≠ l)
    (hx : X.env.scope.names.lookup x = some .local) (hy : X.env.scope.names.lookup y = some .local) (hz : X.env.scope.names.lookup z = some .local) (ha : PA X [a, b, c] (tEs X.w X.K ct (wE Er) C ees))
    (hw : swappedStores [.Tuple [.Name x px, .Name y py, .Name z pz] kt pt] (.Tuple [a, b, c] k2 pt2) X.env = pure (some [x, y, z]))
    (hs : swapsWithSole [.Tuple [.Name x px, .Name y py, .Name z pz] kt pt] (.Tuple [a, b, c] k2 pt2) pos.line X.env = pure false) :
    PS X (.Assign [.Tuple [.Name x px, .Name y py, .Name z pz] kt pt] (.Tuple [a, b, c] k2 pt2) pos) (tS X.w X.K ct Er C (.par [i, j, l] ees)) :=
  psi (ps_par3 hc o hi hj hl hij hil hjl hx hy hz ha hw hs) fun D σ H h => by
    obtain ⟨U, M, s, env, r, n, p⟩ := h
    simp only [evS] at p
    refine ⟨U, M, s, env, r, n, p.bind.mono fun ws M1 H1 s1 t1 r1 p1 vs rv => ?_⟩
    by_cases hl : [i, j, l].length = ws.length
    · rw [if_pos hl] at p1
      cases rv with
      | nil => cases hl
      | cons q1 rv =>
        cases rv with
        | nil => cases hl
        | cons q2 rv =>
          cases rv with
          | nil => cases hl
          | cons q3 rv =>
            cases rv with
            | cons _ _ => cases hl
            | nil => exact ⟨_, _, _, rfl, p1.here r1 _ ((((n.step t1).set q1).set q2).set q3)⟩
    · rw [if_neg hl] at p1
      exact p1.elim
/-! ### mutable objects are written -/
theorem s_app {o : Expr} {apos cpos : Pos} {eo : E} (ho : PE X o (tE X.w X.K ct (wE Er) C eo)) (he : PE X e (tE X.w X.K ct (wE Er) C ea))
    (hbase : attributeBase o "append" X.env (eval o X.env) = eval o X.env)
    (hfew : ((backTo cpos (starEach [e] X.env)).all (fun x => !x.1) && (backToKw cpos (keywordEach [] X.env)).all (fun x => x.1.isSome)
      && decide (([e] : List Expr).length + ([] : List Keyword).length + (if ([] : List Keyword).isEmpty then 0 else 1) < 30)) = true)
    (hline : (apos.endLine == cpos.line) = true) (hst : starEach [e] X.env = (false, eval e X.env) :: starEach [] X.env) (hsw : swapsWith (.Call (.Attribute o "append" apos) [e] [] cpos) none pos.line X.env = pure false) :
    PS X (.Expr (.Call (.Attribute o "append" apos) [e] [] cpos) pos) (tS X.w X.K ct Er C (.app eo ea)) :=
  psi (ps_expr (pe_bm PySem.F.plainAttrs_list PySem.F.slot_list_append PySem.F.type_list_append mt_append ho (pa_cons he pa_nil hst) hbase hfew hline hst rfl) hsw) fun D σ H h => by
    obtain ⟨U, M, s, env, r, n, p⟩ := h
    simp only [evS] at p
    refine ⟨U, M, s, env, r, n, p.bind.mono fun x M1 H1 s1 t1 r1 p1 v rv => ?_⟩
    cases x with
    | val d => exact p1.elim
    | exn _ _ => exact p1.elim
    | ref i =>
      obtain ⟨q, hM, e1⟩ := rv
      subst e1
      cases hs : s1[i]? with
      | none =>
        simp only [hs] at p1
        exact p1.elim
      | some ob =>
        cases ob with
        | dct kvs =>
          simp only [hs] at p1
          exact p1.elim
        | lst xs0 =>
          simp only [hs] at p1
          obtain ⟨vs0, h0, _⟩ := r1.ob i q _ hM hs
          refine ⟨.inl ⟨rfl, vs0, .of h0⟩, U, M1, s1, env, r1, n.step t1, p1.bind.mono fun y M2 H2 s2 t2 r2 p2 u ru => ?_⟩
          have hM2 := t2.ix hM
          cases y with
          | ref j => exact p2.elim
          | exn _ _ => exact p2.elim
          | val d =>
            cases hs2 : s2[i]? with
            | none =>
              simp only [hs2] at p2
              exact p2.elim
            | some ob2 =>
              cases ob2 with
              | dct kvs =>
                simp only [hs2] at p2
                exact p2.elim
              | lst xs =>
                simp only [hs2] at p2
                cases hc : (decide (xs.length < sizeLine) && !isDict d) with
                | false =>
                  rw [hc] at p2
                  exact p2.elim
                | true =>
                  rw [hc] at p2
                  simp only [iff_true, of_some, bind_ok] at p2
                  simp only [Bool.and_eq_true, decide_eq_true_eq, Bool.not_eq_true'] at hc
                  obtain ⟨vs, h1, h2⟩ := r2.ob i q _ hM2 hs2
                  obtain ⟨r3, t3⟩ := r2.write (o := .lst (vs ++ [u])) (ob := .lst (xs ++ [d])) hM2 fun t => ⟨_, upd_same, (RpAll.step t h2).append (.cons (RpAll.step t (.cons (RV.rp ru hc.2) .nil) |> fun z => by cases z; assumption) .nil)⟩
                  refine ⟨q, vs, u, rfl, rfl, h1, by rw [h2.length]; exact hc.1, ?_⟩
                  exact p2 M2 _ t3 r3 σ (((n.step t1).step t2).step t3)
theorem s_put {o i' : Expr} {ppos : Pos} {eo ei ev : E} (ho : PE X o (tE X.w X.K ct (wE Er) C eo)) (hi : PE X i' (tE X.w X.K ct (wE Er) C ei)) (he : PE X e (tE X.w X.K ct (wE Er) C ev))
    (ha : ∀ v, assign (.Subscript o i' ppos) X.env v = (do
      let ov ← holding [v] (eval o X.env)
      let iv ← holding [v, ov] (eval i' X.env)
      standAt ppos
      holding [v, ov, iv] (setItem ov iv v)
      release [v, ov, iv] []))
    (hs : swapsWithSole [.Subscript o i' ppos] e pos.line X.env = pure false) (hw : swappedStores [.Subscript o i' ppos] e X.env = pure none)
    (h1 : (assignEach [.Subscript o i' ppos] X.env).map (·.2) = [assign (.Subscript o i' ppos) X.env]) : PS X (.Assign [.Subscript o i' ppos] e pos) (tS X.w X.K ct Er C (.put eo ei ev)) :=
  psi (ps_asg he (pg_sub ho hi set_list ha) hs hw h1) fun D σ H h => by
    obtain ⟨U, M, s, env, r, n, p⟩ := h
    simp only [evS] at p
    refine ⟨U, M, s, env, r, n, p.bind.mono fun z M1 H1 s1 t1 r1 p1 v rv => ?_⟩
    refine ⟨U, M1, s1, env, r1, n.step t1, p1.bind.mono fun x M2 H2 s2 t2 r2 p2 vo ro => ?_⟩
    refine ⟨U, M2, s2, env, r2, (n.step t1).step t2, p2.bind.mono fun y M3 H3 s3 t3 r3 p3 vi ri => ?_⟩
    have rv3 := (rv.step t2).step t3
    have ro3 := ro.step t3
    cases x with
    | val d => exact p3.elim
    | exn _ _ => exact p3.elim
    | ref k =>
      cases y with
      | ref k2 => exact p3.elim
      | exn _ _ => exact p3.elim
      | val dy =>
        cases dy with
        | int j =>
          cases z with
          | ref k2 => exact p3.elim
          | exn _ _ => exact p3.elim
          | val d =>
            obtain ⟨q, hM, e1⟩ := ro3
            subst e1
            cases hd : isDict d with
            | true =>
              simp only [hd] at p3
              cases hs : s3[k]? with
              | none =>
                simp only [hs] at p3
                exact p3.elim
              | some ob =>
                cases ob <;> (simp only [hs] at p3; exact p3.elim)
            | false =>
              simp only [hd] at p3
              cases hs : s3[k]? with
              | none =>
                simp only [hs] at p3
                exact p3.elim
              | some ob =>
                cases ob with
                | dct kvs =>
                  simp only [hs] at p3
                  exact p3.elim
                | lst xs =>
                  simp only [hs] at p3
                  cases hp : putL xs j d with
                  | none =>
                    simp only [hp] at p3
                    exact p3.elim
                  | some ys =>
                    simp only [hp, of_some, bind_ok] at p3
                    obtain ⟨vs, h1, h2⟩ := r3.ob k q _ hM hs
                    unfold putL at hp
                    cases hj : L2.ixN xs.length j with
                    | none =>
                      rw [hj] at hp
                      cases hp
                    | some m =>
                      rw [hj] at hp
                      cases hp
                      obtain ⟨r4, t4⟩ := r3.write (o := .lst (vs.set m v)) (ob := .lst (xs.set m d)) hM fun t => ⟨_, upd_same, RpAll.set ((RpAll.step t (.cons (RV.rp rv3 hd) .nil)) |> fun z => by cases z; assumption) m (RpAll.step t h2)⟩
                      refine ⟨q, vs, j, m, rfl, Rp.intI ri, h1, by rw [h2.length]; exact hj, ?_⟩
                      exact p3 M3 _ t4 r4 σ ((((n.step t1).step t2).step t3).step t4)
        | _ => exact p3.elim
theorem s_dput {o i' : Expr} {ppos : Pos} {eo ei ev : E} (hu : X.A.units + 64 < cLine) (ho : PE X o (tE X.w X.K ct (wE Er) C eo)) (hi : PE X i' (tE X.w X.K ct (wE Er) C ei)) (he : PE X e (tE X.w X.K ct (wE Er) C ev))
    (hs : swapsWith e (some (.Subscript o i' ppos)) pos.line X.env = pure false) : PS X (.Assign [.Subscript o i' ppos] e pos) (tS X.w X.K ct Er C (.dput eo ei ev)) :=
  psi (ps_dput (by omega) ho hi he hs) fun D σ H h => by
    obtain ⟨U, M, s, env, r, n, p⟩ := h
    simp only [evS] at p
    refine ⟨U, M, s, env, r, n, p.bind.mono fun z M1 H1 s1 t1 r1 p1 v rv => ?_⟩
    refine ⟨U, M1, s1, env, r1, n.step t1, p1.bind.mono fun x M2 H2 s2 t2 r2 p2 vo ro => ?_⟩
    refine ⟨U, M2, s2, env, r2, (n.step t1).step t2, p2.bind.mono fun y M3 H3 s3 t3 r3 p3 vi ri => ?_⟩
    have rv3 := (rv.step t2).step t3
    have ro3 := ro.step t3
    cases x with
    | val d => exact p3.elim
    | exn _ _ => exact p3.elim
    | ref k =>
      cases y with
      | ref k2 => exact p3.elim
      | exn _ _ => exact p3.elim
      | val dy =>
        cases z with
        | ref k2 => exact p3.elim
        | exn _ _ => exact p3.elim
        | val d =>
          obtain ⟨q, hM, e1⟩ := ro3
          subst e1
          cases hs : s3[k]? with
          | none =>
            simp only [hs] at p3
            exact p3.elim
          | some ob =>
            cases ob with
            | lst xs =>
              simp only [hs] at p3
              exact p3.elim
            | dct kvs =>
              cases hk : keyOf dy with
              | none =>
                simp only [hs, hk] at p3
                exact p3.elim
              | some key =>
                cases hd : isDict d with
                | true =>
                  simp only [hs, hk, hd] at p3
                  exact p3.elim
                | false =>
                  simp only [hs, hk, hd] at p3
                  cases hc : decide (kvs.length < sizeLine) with
                  | false =>
                    rw [hc] at p3
                    exact p3.elim
                  | true =>
                    rw [hc] at p3
                    simp only [iff_true, of_some, bind_ok] at p3
                    obtain ⟨vs, h1, h2⟩ := r3.ob k q _ hM hs
                    obtain ⟨r4, t4⟩ := r3.write (o := .dK (putK vs key v)) (ob := .dct (dputK kvs key d)) hM fun t => ⟨_, upd_same, paired_put ((RpAll.step t (.cons (RV.rp rv3 hd) .nil)) |> fun z => by cases z; assumption) (Paired.mapP h2 fun p q z => ⟨z.1, z.2.step t⟩)⟩
                    refine ⟨q, _, rfl, ?_, p3 M3 _ t4 r4 σ ((((n.step t1).step t2).step t3).step t4)⟩
                    rw [keyOf_kV ri hk]
                    exact DPut.k h1 (by rw [Paired.length h2]; exact of_decide_eq_true hc)
end
end MP
set_option maxRecDepth 10000
/-! MPIter: what is walked; loops; comprehensions. -/
namespace MP
open PySem PySem.Spec L2
open PyProof.Rows hiding St
/-- one new thing at most -/
def Ext1 (H H2 : Hp) : Prop := H2 = H ∨ ∃ T o, H T = none ∧ H2 = upd H T o
/-- J walks ds, whatever comes -/
def Wk (w : World) (K : PySem.W.Frag) (J : It) (ds : List PyData) (A : List Addr) (H : Hp) : Prop :=
  ∀ A' H', Mv A H A' H' → (∀ b ∈ A', (H' b).isSome = true) → ∀ i, (i = ds.length → J.stop i H') ∧ ∀ d, ds[i]? = some d → J.go i H' ∧ ∀ x H2, J.yld i H' x H2 → Ext1 H' H2 ∧ Rp K A' H2 x d
theorem Mv.refl (A : List Addr) (H : Hp) : Mv A H A H := fun _ _ h e => ⟨h, e⟩
theorem Mv.trans {A B D : List Addr} {H G F : Hp} (s : Mv A H B G) (t : Mv B G D F) : Mv A H D F := fun b o h e => t b o (s b o h e).1 (s b o h e).2
theorem Wk.mv {w : World} {K : PySem.W.Frag} {J : It} {ds : List PyData} {A A' : List Addr} {H H' : Hp} (h : Wk w K J ds A H) (m : Mv A H A' H') : Wk w K J ds A' H' := fun B G t hb => h B G (m.trans t) hb
/-- a reading of what is walked -/
def tI (w : World) (K : PySem.W.Frag) (ct : CT) (Wx : WX) (C : Callf) (i : I) : TI := fun σ H R => rd w K ct Wx (evI C i) σ H fun U ds M' H' _ => ∀ J, Wk w K J ds (M' ++ U) H' → R J H'
theorem pii {X : Cx} {tg e : Expr} {t t' : TI} (h : PI X tg e t) (i : ∀ σ H Q, t' σ H Q → t σ H Q) : PI X tg e t' := ⟨fun pins s σ H Q I q => h.run pins s σ H Q I (i σ H Q q)⟩
section
variable {X : Cx} {ct : CT} {Wx : WX} {C : Callf} {a b c e tg : Expr} {ea eb ec : E} {pos p p2 : Pos} {k : Nat} {x : Str} {i j : Nat}
/-- a list, a tuple or a text is walked -/
def iAny (K : PySem.W.Frag) (te : TE) : TI := fun σ H R => te σ H fun x H1 => (∃ a, x = .ref a ∧ (∃ xs, SqL K H1 a xs) ∧ R (Itl K a) H1) ∨ (∃ a, x = .ref a ∧ (∃ xs, SqT K H1 a xs) ∧ R (Itt K a) H1) ∨ ∃ z, x = .str z ∧ R (Its z) H1
theorem pi_any {te : TE} (he : PE X e te) : PI X tg e (iAny X.K te) := by
  refine ⟨fun pins s σ H R I h => ?_⟩
  refine thn (he.run pins s σ H _ I h) fun v s1 ⟨x, H1, I1, r1, q1⟩ => ?_
  rcases q1 with ⟨a, e, ⟨xs, hq⟩, q⟩ | ⟨a, e, ⟨xs, hq⟩, q⟩ | ⟨z, e, q⟩
  · subst e
    cases r1
    obtain ⟨its, rv, p, hz⟩ := I1.list hq
    exact wpAny_pyIter_list p.isList (pi_one (tk := s1.toks) I1 _ (turn_list a _) ⟨_, Heap.get?_push_size _ rfl, rfl, rfl⟩ q)
  · subst e
    cases r1
    obtain ⟨its, rv, p, hz⟩ := I1.tuple hq
    exact wpAny_pyIter_tuple (show s1.heap.IsTuple a its.toArray from p) (pi_one (tk := s1.toks) I1 _ (turn_tuple a _) ⟨_, Heap.get?_push_size _ rfl, rfl, rfl⟩ q)
  · subst e
    obtain ⟨t, rfl⟩ := r1
    cases ha : z.cps.all (· < 128)
    · exact wpAny_pyIter_wide ha (pi_one (tk := s1.toks) I1 _ (turn_str _ z t "str_iterator" (.inr rfl)) ⟨_, Heap.get?_push_size _ rfl, rfl, rfl⟩ q)
    · exact wpAny_pyIter_ascii ha (pi_one (tk := s1.toks) I1 _ (turn_str _ z t "str_ascii_iterator" (.inl rfl)) ⟨_, Heap.get?_push_size _ rfl, rfl, rfl⟩ q)
theorem strFit_one (c : Nat) (z : Str) (i : Nat) (h : strFit z = true) (e : z.cps[i]? = some c) : strFit ⟨#[c]⟩ = true := by
  have h1 := strFit.ok h
  unfold PyData.strOk at h1
  have hc : decide (c < 1114112) = true := by
    have := Array.all_eq_true.mp h1 i (by have := Array.getElem?_eq_some_iff.mp e; exact this.1)
    obtain ⟨hi, e'⟩ := Array.getElem?_eq_some_iff.mp e
    rw [← e']
    exact this
  simp only [strFit, PyData.strOk, Bool.and_eq_true]
  refine ⟨by simpa using hc, decide_eq_true (by show 1 ≤ sizeLine; decide)⟩
theorem wk_any {w : World} {K : PySem.W.Frag} {A : List Addr} {H : Hp} {v : V} {d : PyData} {ds : List PyData} {Q : It → Prop} (rv : Rp K A H v d) (hd : walked d = some ds) (q : ∀ J, Wk w K J ds A H → Q J) :
    (∃ a, v = .ref a ∧ (∃ xs, SqL K H a xs) ∧ Q (Itl K a)) ∨ (∃ a, v = .ref a ∧ (∃ xs, SqT K H a xs) ∧ Q (Itt K a)) ∨ ∃ z, v = .str z ∧ Q (Its z) := by
  cases d with
  | list xs =>
    cases hd
    obtain ⟨a, vs, e, h1, h2⟩ := rv.sqL
    refine .inl ⟨a, e, ⟨vs, h1⟩, q _ fun A' H' m hb i => ?_⟩
    obtain ⟨a', us, e', h3, h4⟩ := (rv.move m).sqL
    rw [e] at e'
    cases e'
    refine ⟨fun e => ⟨us, h3, by rw [e, h4.length]; exact Nat.le_refl _⟩, fun d hd => ?_⟩
    obtain ⟨u, hu, ru⟩ := h4.get hd
    refine ⟨⟨us, u, h3, hu⟩, fun x H2 y => ?_⟩
    obtain ⟨e2, y⟩ := y
    subst e2
    have := y us h3
    rw [hu] at this
    cases this
    exact ⟨.inl rfl, ru⟩
  | tuple xs =>
    cases hd
    obtain ⟨a, vs, e, h1, h2⟩ := rv.sqT
    refine .inr (.inl ⟨a, e, ⟨vs, h1⟩, q _ fun A' H' m hb i => ?_⟩)
    obtain ⟨a', us, e', h3, h4⟩ := (rv.move m).sqT
    rw [e] at e'
    cases e'
    refine ⟨fun e => ⟨us, h3, by rw [e, h4.length]; exact Nat.le_refl _⟩, fun d hd => ?_⟩
    obtain ⟨u, hu, ru⟩ := h4.get hd
    refine ⟨⟨us, u, h3, hu⟩, fun x H2 y => ?_⟩
    obtain ⟨e2, y⟩ := y
    subst e2
    have := y us h3
    rw [hu] at this
    cases this
    exact ⟨.inl rfl, ru⟩
  | str z =>
    cases hd
    obtain ⟨e, f⟩ := rv.strI
    refine .inr (.inr ⟨z, e, q _ fun A' H' m hb i => ?_⟩)
    refine ⟨fun e => by rw [e]; show z.cps.size ≤ _; simp, fun d hd => ?_⟩
    simp only [List.getElem?_map, Array.getElem?_toList] at hd
    obtain ⟨c, h1, h2⟩ := Option.map_eq_some_iff.mp hd
    subst h2
    refine ⟨(Array.getElem?_eq_some_iff.mp h1).1, fun x H2 y => ?_⟩
    obtain ⟨e2, c', h3, e3⟩ := y
    subst e2 e3
    rw [h1] at h3
    cases h3
    exact ⟨.inl rfl, .str _ (strFit_one c z i f h1)⟩
  | _ => cases hd
theorem i_seq (he : PE X e (tE X.w X.K ct Wx C ea)) : PI X tg e (tI X.w X.K ct Wx C (.seq ea)) := pii (pi_any he) fun σ H R h => by
  obtain ⟨U, M, s, env, r, n, p⟩ := h
  simp only [evI] at p
  refine ⟨U, M, s, env, r, n, p.bind.mono fun x M1 H1 s1 t1 r1 p1 v rv => ?_⟩
  cases x with
  | ref i => exact p1.elim
  | exn _ _ => exact p1.elim
  | val d =>
    cases hd : walked d with
    | none =>
      simp only [hd] at p1
      exact p1.elim
    | some ds =>
      simp only [hd] at p1
      refine wk_any (w := X.w) (RV.rp rv ?_) hd (p1.here r1)
      cases d with
      | dict _ => cases hd
      | _ => rfl
theorem rangeD_get : ∀ (n : Nat) (lo : Int) (i : Nat) (d : PyData), (rangeD lo n)[i]? = some d → i < n ∧ d = .int (lo + i)
  | 0, _, _, _, h => by simp [rangeD] at h
  | n + 1, lo, 0, d, h => by
    simp [rangeD] at h
    exact ⟨Nat.succ_pos _, by rw [← h]; simp⟩
  | n + 1, lo, i + 1, d, h => by
    simp [rangeD] at h
    obtain ⟨h1, h2⟩ := rangeD_get n (lo + 1) i d h
    refine ⟨Nat.succ_lt_succ h1, ?_⟩
    rw [h2]
    congr 1
    push_cast
    omega
theorem rangeD_len : ∀ (n : Nat) (lo : Int), (rangeD lo n).length = n
  | 0, _ => rfl
  | n + 1, lo => congrArg Nat.succ (rangeD_len n (lo + 1))
theorem wk_rng {w : World} {K : PySem.W.Frag} {A : List Addr} {H : Hp} (lo : Int) (n : Nat) : Wk w K (Itr lo n) (rangeD lo n) A H := fun A' H' m hb i =>
  ⟨fun e => by rw [e, rangeD_len]; exact Nat.le_refl n, fun d hd => by
    obtain ⟨h1, h2⟩ := rangeD_get n lo i d hd
    refine ⟨h1, fun x H2 y => ?_⟩
    obtain ⟨e1, e2⟩ := y
    subst e1 e2 h2
    exact ⟨.inl rfl, .int _⟩⟩
theorem rngOk.le {i : Int} (h : rngOk i = true) : -(2 ^ 62) ≤ i ∧ i < 2 ^ 62 := by
  unfold rngOk at h
  simpa [Bool.and_eq_true] using h
theorem i_range1 {p : Pos} (hg : Gl X "range") (hm : X.mg "range" = none) (ha : PE X a (tE X.w X.K ct Wx C ea)) (hs : starEach [a] X.env = (false, eval a X.env) :: starEach [] X.env) : PI X tg (.Call (.Name "range" p) [a] [] pos) (tI X.w X.K ct Wx C (.range1 ea)) :=
  pii (pi_range1 hg hm (pa_cons ha pa_nil hs) hs) fun σ H R h => by
    obtain ⟨U, M, s, env, r, n, p⟩ := h
    simp only [evI] at p
    refine ⟨U, M, s, env, r, n, p.bind.mono fun x M1 H1 s1 t1 r1 p1 v rv => ?_⟩
    cases x with
    | ref i => exact p1.elim
    | exn _ _ => exact p1.elim
    | val d =>
      cases d with
      | int j =>
        simp only at p1
        cases hc : rngOk j with
        | false =>
          rw [hc] at p1
          exact p1.elim
        | true =>
          rw [hc] at p1
          obtain ⟨c1, c2⟩ := rngOk.le hc
          exact ⟨j, by rw [Rp.intI rv], c1, c2, p1.here r1 _ (wk_rng 0 _)⟩
      | _ => exact p1.elim
theorem i_range2 {p : Pos} (hg : Gl X "range") (hm : X.mg "range" = none) (ha : PE X a (tE X.w X.K ct Wx C ea)) (hb : PE X b (tE X.w X.K ct Wx C eb)) (hs : starEach [a, b] X.env = (false, eval a X.env) :: starEach [b] X.env) (hs2 : starEach [b] X.env = (false, eval b X.env) :: starEach [] X.env) :
    PI X tg (.Call (.Name "range" p) [a, b] [] pos) (tI X.w X.K ct Wx C (.range2 ea eb)) :=
  pii (pi_range2 hg hm (pa_cons ha (pa_cons hb pa_nil hs2) hs) (by rw [hs, hs2] <;> rfl) hs2) fun σ H R h => by
    obtain ⟨U, M, s, env, r, n, p⟩ := h
    simp only [evI] at p
    refine ⟨U, M, s, env, r, n, p.bind.mono fun x M1 H1 s1 t1 r1 p1 v rv => ?_⟩
    refine ⟨U, M1, s1, env, r1, n.step t1, p1.bind.mono fun y M2 H2 s2 t2 r2 p2 u ru => ?_⟩
    cases x with
    | ref i => exact p2.elim
    | exn _ _ => exact p2.elim
    | val d =>
      cases d with
      | int i =>
        cases y with
        | ref k => exact p2.elim
        | exn _ _ => exact p2.elim
        | val e =>
          cases e with
          | int j =>
            simp only at p2
            cases hc : (rngOk i && rngOk j) with
            | false =>
              rw [hc] at p2
              exact p2.elim
            | true =>
              rw [hc] at p2
              simp only [Bool.and_eq_true] at hc
              obtain ⟨c1, c2⟩ := rngOk.le hc.1
              obtain ⟨c3, c4⟩ := rngOk.le hc.2
              exact ⟨i, j, by rw [Rp.intI rv, Rp.intI ru], ⟨c1, c2, c3, c4⟩, p2.here r2 _ (wk_rng i _)⟩
          | _ => exact p2.elim
      | _ => exact p2.elim
end
end MP
set_option maxRecDepth 10000
/-! MPLoop: loops and comprehensions. -/
namespace MP
open PySem PySem.Spec L2
open PyProof.Rows hiding St
theorem Ext1.step {K : PySem.W.Frag} {U M : List Addr} {H H2 : Hp} {s : Stk} (h : Ext1 H H2) (r : RelS K U M H s) : RelS K U M H2 s ∧ Step M H M H2 := by
  rcases h with e | ⟨T, o, hn, e⟩
  · subst e
    exact ⟨r, Step.refl _ _⟩
  · subst e
    exact r.upd hn
theorem RelS.all {K : PySem.W.Frag} {U M : List Addr} {H : Hp} {s : Stk} (r : RelS K U M H s) : ∀ b ∈ M ++ U, (H b).isSome = true := fun b hb => by
  rcases List.mem_append.mp hb with z | z
  · exact r.there z
  · exact (r.un b z).2
theorem Post.ext {ct : CT} {K : PySem.W.Frag} {Wx : WX} {σ : St} {U M : List Addr} {H H2 : Hp} {s : Stk} {α : Type} {r : Res α} {R : α → List Addr → Hp → Stk → Prop} (h : Post ct K U Wx σ M H r R) (x : Ext1 H H2) (q : RelS K U M H s) : Post ct K U Wx σ M H2 r R := by
  obtain ⟨q2, t⟩ := x.step q
  exact h.from t q2
section
variable {X : Cx} {ct : CT} {Er : XK} {C : Callf} {a b c e tg iter : Expr} {body : List Stmt} {ea eb ec : E} {ii : I} {gg : Tg} {ta : T} {ss : Ss} {pos p p2 : Pos} {k : Nat} {x : Str} {i j : Nat}
theorem s_for (hp : PassesOwn (model X.prog X.w) X.A X.env X.xe) (hc : X.calm = true) (hi : PI X tg iter (tI X.w X.K ct (wE Er) C ii)) (hg : PG X tg (gT ct X.w X.K gg)) (hb : PSs X body (tSs X.w X.K ct Er C ss))
    (hs : ∀ x, foldedSetIterable iter X.env x = pure x) : PS X (.For tg iter body [] pos) (tS X.w X.K ct Er C (.forS gg ii ss)) := psi (ps_for hp hc hi hg hb hs) fun D σ H h => by
  obtain ⟨U, M, s, env, r, n, p⟩ := h
  simp only [evS] at p
  refine ⟨U, M, s, env, r, n, p.bind.mono fun ds M1 H1 s1 t1 r1 p1 J wk => ?_⟩
  generalize hf : (fun (d : PyData) (e : Ve) (s2 : Stk) => match bindTg gg d e with
    | some e' => evSs C ss e' s2
    | none => Res.stuck) = f at p1
  -- the invariant
  let W : Nat → Nat → St → Hp → Prop := fun i m σ' H' => ∃ M' s' env', RelS X.K U M' H' s' ∧ REnv ct X.w X.K U M' H' σ' env' ∧ Wk X.w X.K J ds (M' ++ U) H' ∧ i ≤ ds.length ∧ m = ds.length - i ∧
    Post ct X.K U (wE Er) σ' M' H' (forL f (ds.drop i) env' s') fun o M2 H2 s2 => OutR ct X.w X.K U D H' M2 H2 s2 o
  refine ⟨W, ⟨ds.length, M1, s1, env, r1, n.step t1, wk, Nat.zero_le _, rfl, p1.mono fun o M2 H2 s2 t2 r2 q => q.from t1 r1⟩, ?_⟩
  rintro i m σ2 H2 ⟨M2, s2, env2, r2, n2, wk2, hi2, hm, p2⟩
  obtain ⟨w1, w2⟩ := wk2 _ _ (Mv.refl _ _) r2.all i
  by_cases hlt : i < ds.length
  · refine .inr ?_
    have hd : ds[i]? = some ds[i] := List.getElem?_eq_getElem hlt
    obtain ⟨go, yl⟩ := w2 _ hd
    have e1 : ds.drop i = ds[i] :: ds.drop (i + 1) := List.drop_eq_getElem_cons hlt
    rw [e1] at p2
    simp only [forL] at p2
    refine ⟨go, W (i + 1) (ds.length - (i + 1)), fun σ' H' h' => ⟨ds.length - (i + 1), by omega, h'⟩, fun x H3 y => ?_⟩
    obtain ⟨ex, rx⟩ := yl x H3 y
    obtain ⟨r3, t3⟩ := ex.step r2
    have p3 := p2.ext ex r2
    rw [← hf] at p3
    cases hb : bindTg gg ds[i] env2 with
    | none =>
      simp only [hb] at p3
      exact p3.elim
    | some env3 =>
      simp only [hb] at p3
      refine ⟨U, M2, env2, ds[i], env3, rx.rv, n2.step t3, hb, fun vs _ n3 => ⟨U, M2, s2, env3, r3, n3, (Post.sg p3).bind.mono fun o M4 H4 s4 t4 r4 p4 => ?_⟩⟩
      have again : ∀ (env4 : Ve) (σ' : St), REnv ct X.w X.K U M4 H4 σ' env4 → Post ct X.K U (wE Er) σ' M4 H4 (forL f (ds.drop (i + 1)) env4 s4) (fun o M2_1 H2_1 s2 => OutR ct X.w X.K U D H2 M2_1 H2_1 s2 o) → W (i + 1) (ds.length - (i + 1)) σ' H4 := fun env4 σ' n4 p5 => by
        refine ⟨M4, s4, env4, r4, n4, (wk2.mv (t3.mv U)).mv (t4.mv U), hlt, rfl, p5.mono fun o M2' H2' s2' t5 r5 q => ?_⟩
        exact q.from (t3.comp r3 t4) r4
      cases o with
      | nx env4 =>
        refine fun σ' n4 => again env4 σ' n4 ?_
        rw [← hf]
        exact Post.sg p4
      | ct env4 =>
        refine fun σ' n4 => again env4 σ' n4 ?_
        rw [← hf]
        exact Post.sg p4
      | brk env4 => exact fun σ' n4 => p4.here r4 σ' n4
      | rt w => exact p4.here r4
      | rtN xs => exact fun a vs hn => p4.here r4 a vs (t3.none r3 hn)
  · have e : i = ds.length := by omega
    subst e
    refine .inl ⟨w1 rfl, ?_⟩
    rw [List.drop_length] at p2
    simp only [forL] at p2
    exact p2.here r2 σ2 n2
theorem s_while (hp : PassesOwn (model X.prog X.w) X.A X.env X.xe) (hc : PT X c (tT X.w X.K ct (wE Er) C ta)) (hb : PSs X body (tSs X.w X.K ct Er C ss)) : PS X (.While c body [] pos) (tS X.w X.K ct Er C (.whileS ta ss)) := psi (ps_while hp hc hb) fun D σ H h => by
  obtain ⟨U, M, s, env, r, n, p⟩ := h
  simp only [evS] at p
  let W : Nat → St → Hp → Prop := fun m σ' H' => ∃ M' s' env', RelS X.K U M' H' s' ∧ REnv ct X.w X.K U M' H' σ' env' ∧
    Post ct X.K U (wE Er) σ' M' H' (whileL (fun e s1 => evT C ta e s1) (fun e s1 => evSs C ss e s1) m env' s') fun o M2 H2 s2 => OutR ct X.w X.K U D H' M2 H2 s2 o
  refine ⟨W, ⟨fuel, M, s, env, r, n, p⟩, ?_⟩
  rintro m σ2 H2 ⟨M2, s2, env2, r2, n2, p2⟩
  cases m with
  | zero => exact p2.elim
  | succ m =>
    simp only [whileL] at p2
    refine ⟨U, M2, s2, env2, r2, n2, p2.bind.mono fun b M3 H3 s3 t3 r3 p3 => ?_⟩
    cases b with
    | false =>
      rw [if_neg (by decide)]
      exact p3.here r3 σ2 (n2.step t3)
    | true =>
      rw [if_pos rfl]
      refine ⟨W m, fun σ' H' h' => ⟨m, Nat.lt_succ_self m, h'⟩, U, M3, s3, env2, r3, n2.step t3, p3.bind.mono fun o M4 H4 s4 t4 r4 p4 => ?_⟩
      have again : ∀ (env4 : Ve) (σ' : St), REnv ct X.w X.K U M4 H4 σ' env4 → Post ct X.K U (wE Er) σ' M4 H4 (whileL (fun e s1 => evT C ta e s1) (fun e s1 => evSs C ss e s1) m env4 s4) (fun o M2_1 H2_1 s2 => OutR ct X.w X.K U D H2 M2_1 H2_1 s2 o) → W m σ' H4 := fun env4 σ' n4 p5 =>
        ⟨M4, s4, env4, r4, n4, p5.mono fun o M2' H2' s2' t5 r5 q => q.from (t3.comp r3 t4) r4⟩
      cases o with
      | nx env4 => exact fun σ' n4 => again env4 σ' n4 (Post.sg p4)
      | ct env4 => exact fun σ' n4 => again env4 σ' n4 (Post.sg p4)
      | brk env4 => exact fun σ' n4 => p4.here r4 σ' n4
      | rt w => exact p4.here r4
      | rtN xs => exact fun a vs hn => p4.here r4 a vs (t3.none r3 hn)
end
/-! ### comprehensions -/
def tTt (w : World) (K : PySem.W.Frag) (ct : CT) (Wx : WX) (C : Callf) (e : Tt) : TT := fun σ H Q => rd w K ct Wx (evTt C e) σ H fun _ b _ H' _ => Q b H'
section
variable {X : Cx} {ct : CT} {Wx : WX} {C : Callf} {a b c e elt tg iter : Expr} {ifs : List Expr} {ea eb ec ee : E} {ii : I} {gg : Tg} {tt : Tt} {ta : T} {pos p p2 : Pos} {k : Nat} {x : Str} {i j : Nat}
theorem ptsi {X : Cx} {e : List Expr} {t t' : TT} (h : PTs X e t) (i : ∀ σ H Q, t' σ H Q → t σ H Q) : PTs X e t' := ⟨fun pins s σ H Q I q => h.run pins s σ H Q I (i σ H Q q)⟩
theorem tt_none : PTs X [] (tTt X.w X.K ct Wx C .none) := ptsi pts_nil fun σ H Q h => by
  obtain ⟨U, M, s, env, r, n, p⟩ := h
  simp only [evTt] at p
  exact p.here r
theorem tt_some (h : PT X c (tT X.w X.K ct Wx C ta)) : PTs X [c] (tTt X.w X.K ct Wx C (.some ta)) := ptsi (pts_one h) fun σ H Q h => by
  obtain ⟨U, M, s, env, r, n, p⟩ := h
  simp only [evTt] at p
  exact ⟨U, M, s, env, r, n, p⟩
theorem RW.mv {ct : CT} {w : World} {K : PySem.W.Frag} {U U' M : List Addr} {H H' : Hp} (m : Mv (M ++ U) H (M ++ U') H') {v : V} {x : W} (h : RW ct w K U M H v x) : RW ct w K U' M H' v x := by
  cases x with
  | ref i => exact h
  | exn c d =>
    obtain ⟨a, dd, x, h1, h2, h3, h4, h5⟩ := h
    obtain ⟨k1, k2⟩ := m dd _ h3 h4
    exact ⟨a, dd, x, h1, h2, k1, k2, h5.move m⟩
  | val d =>
    cases d with
    | dict ds =>
      obtain ⟨a, kvs, e1, e2, e3, e4⟩ := h
      exact ⟨a, kvs, e1, e2, e3, fun p hp => (e4 p hp).move m⟩
    | _ => exact Rp.move m _ (show Rp K (M ++ U) H v _ from h)
theorem REnv.mv {ct : CT} {w : World} {K : PySem.W.Frag} {U U' M : List Addr} {H H' : Hp} {σ : St} {env : Ve} (m : Mv (M ++ U) H (M ++ U') H') (h : REnv ct w K U M H σ env) : REnv ct w K U' M H' σ env :=
  ⟨h.len, fun i x e => let ⟨v, h1, h2⟩ := h.at_ i x e; ⟨v, h1, h2.mv m⟩⟩
theorem mv_more {U M : List Addr} {H : Hp} {p : Addr} {o : HO} (hp : H p = none) : Mv (M ++ U) H (M ++ (p :: U)) (L2.upd H p o) := fun b u hb h => by
  have ne : b ≠ p := ne_of_none h hp
  refine ⟨fun z => ?_, by rw [upd_ne ne]; exact h⟩
  rcases List.mem_append.mp z with q | q
  · exact hb (List.mem_append_left _ q)
  · rcases List.mem_cons.mp q with q | q
    · exact ne q
    · exact hb (List.mem_append_right _ q)
theorem mv_less {U M : List Addr} {H : Hp} {p : Addr} : Mv (M ++ (p :: U)) H (M ++ U) H := Mv.less fun z hz => by
  rcases List.mem_append.mp hz with q | q
  · exact List.mem_append_left _ q
  · exact List.mem_append_right _ (List.mem_cons_of_mem _ q)
theorem RelS.less {K : PySem.W.Frag} {U M : List Addr} {H : Hp} {s : Stk} {p : Addr} (r : RelS K (p :: U) M H s) : RelS K U M H s := ⟨fun u hu => r.un u (List.mem_cons_of_mem _ hu), r.nd, r.len, fun i b ob h3 h4 => by
  have := r.ob i b ob h3 h4
  cases ob with
  | lst ys =>
    obtain ⟨us, h5, h6⟩ := this
    exact ⟨us, h5, h6.move mv_less⟩
  | dct kvs =>
    obtain ⟨us, h5, h6⟩ := this
    exact ⟨us, h5, Paired.mapP h6 fun p q z => ⟨z.1, z.2.move mv_less⟩⟩⟩
theorem Post.wx {K : PySem.W.Frag} {Wx' : WX} {σ σ' : St} {U U' M M' : List Addr} {H H' : Hp} {α : Type} {x : α} {s : Stk} {r : Res α} {R : α → List Addr → Hp → Stk → Prop} (e : r = .ok x s) (h : ∀ M2 H2, Step M' H' M2 H2 → RelS K U' M2 H2 s → R x M2 H2 s) : Post ct K U' Wx' σ' M' H' r R := by
  subst e
  exact h
/-- D is written: it stands out of reach -/
theorem RelS.wr {K : PySem.W.Frag} {U M : List Addr} {H : Hp} {s : Stk} {D : Addr} {o : HO} (r : RelS K (D :: U) M H s) : RelS K (D :: U) M (L2.upd H D o) s ∧ Mv (M ++ (D :: U)) H (M ++ (D :: U)) (L2.upd H D o) := by
  have hD : D ∉ M := (r.un D (List.mem_cons_self ..)).1
  have m : Mv (M ++ (D :: U)) H (M ++ (D :: U)) (L2.upd H D o) := fun b u hb h => ⟨hb, by
    rw [upd_ne (fun z => hb (List.mem_append_right _ (by rw [z]; exact List.mem_cons_self ..)))]
    exact h⟩
  refine ⟨⟨fun u hu => ⟨(r.un u hu).1, isSome_upd (r.un u hu).2⟩, r.nd, r.len, fun i b ob h3 h4 => ?_⟩, m⟩
  have ne : b ≠ D := fun z => hD (z ▸ List.mem_of_getElem? h3)
  have := r.ob i b ob h3 h4
  cases ob with
  | lst ys =>
    obtain ⟨us, h5, h6⟩ := this
    exact ⟨us, by rw [upd_ne ne]; exact h5, h6.move m⟩
  | dct kvs =>
    obtain ⟨us, h5, h6⟩ := this
    exact ⟨us, by rw [upd_ne ne]; exact h5, Paired.mapP h6 fun p q z => ⟨z.1, z.2.move m⟩⟩
theorem wipe_set {σ : St} {v : Nat} {o : Option V} : ∀ {vs : List Nat}, v ∈ vs → L2.wipe (σ.set v o) vs = L2.wipe σ vs
  | u :: vs, h => by
    show (L2.wipe (σ.set v o) vs).set u none = (L2.wipe σ vs).set u none
    by_cases hu : v ∈ vs
    · rw [wipe_set hu]
    · have e : v = u := by
        rcases List.mem_cons.mp h with z | z
        · exact z
        · exact absurd z hu
      subst e
      have gen : ∀ (ws : List Nat) (σ : St), v ∉ ws → (L2.wipe (σ.set v o) ws) = (L2.wipe σ ws).set v o := by
        intro ws
        induction ws with
        | nil => intro σ _; rfl
        | cons x ws ih =>
          intro σ hx
          show (L2.wipe (σ.set v o) ws).set x none = ((L2.wipe σ ws).set x none).set v o
          rw [ih σ (fun z => hx (List.mem_cons_of_mem _ z)), List.set_comm _ _ (fun z => hx (by rw [z]; exact List.mem_cons_self ..))]
      rw [gen vs σ hu, List.set_set]
theorem wipe_putAll : ∀ {is : List Nat} {us : List V} {σ : St} {vs : List Nat}, (∀ i ∈ is, i ∈ vs) → L2.wipe (putAll σ is us) vs = L2.wipe σ vs
  | [], _, _, _, _ => rfl
  | _ :: _, [], _, _, _ => rfl
  | i :: is, u :: us, σ, vs, h => by
    show L2.wipe (putAll (σ.set i (some u)) is us) vs = _
    rw [wipe_putAll fun j hj => h j (List.mem_cons_of_mem _ hj), wipe_set (h i (List.mem_cons_self ..))]
theorem wipe_wipe (σ : St) : ∀ vs ws : List Nat, (∀ i ∈ ws, i ∈ vs) → L2.wipe (L2.wipe σ ws) vs = L2.wipe σ vs
  | _, [], _ => rfl
  | vs, w :: ws, h => by
    show L2.wipe ((L2.wipe σ ws).set w none) vs = _
    rw [wipe_set (h w (List.mem_cons_self ..)), wipe_wipe σ vs ws fun j hj => h j (List.mem_cons_of_mem _ hj)]
/-- the reading of a comprehension is met -/
theorem comp_go {σ : St} {H : Hp} {Q : VK} {ct : CT} {w : World} {K : PySem.W.Frag} {own : List Nat} (hown : ∀ i ∈ slotsT gg, i ∈ own) (h : tNw w K ct Wx C (.comp own gg ii tt ee) σ H Q) :
    tLc (tI w K ct Wx C ii) (gT ct w K gg) (tTt w K ct WF C tt) (tE w K ct WF C ee) own σ H Q := by
  obtain ⟨U, M, s, env, r, n, p⟩ := h
  simp only [evN] at p
  refine ⟨U, M, s, env, r, n, p.bind.mono fun ds M1 H1 s1 t1 r1 p1 J wk D hD => ?_⟩
  generalize hf : (fun (d : PyData) (s2 : Stk) => match bindTg gg d (wipeE env own) with
    | some env' => (evTt C tt env' s2).bind fun b s3 => match b with
      | true => (evE C ee env' s3).bind fun w s4 => match w with
        | .val y => (Res.of s4 (iff' (!isDict y) y)).bind fun z s5 => .ok (some z) s5
        | _ => .stuck
      | false => .ok none s3
    | none => Res.stuck) = f at p1
  cases hlen : lenOk ds.length with
  | false =>
    rw [hlen] at p1
    exact p1.elim
  | true =>
    rw [hlen] at p1
    simp only [iff_true, of_some, bind_ok] at p1
    have hl : ds.length ≤ sizeLine := of_decide_eq_true hlen
    have hD0 : H D = none := t1.none r1 hD
    generalize hR : (fun (xs : List PyData) (M' : List Addr) (H' : Hp) (s' : Stk) => ∀ (a : Addr) (vs : List V), H a = none → RelS K (a :: U) M' H' s' → H' a = some (.lst vs) → RpAll K (M' ++ (a :: U)) H' vs xs → Q (.ref a) H') = R at p1
    let W : Nat → Nat → Hp → Prop := fun i m H' => ∃ M' s' acc done, RelS K (D :: U) M' H' s' ∧ REnv ct w K (D :: U) M' H' σ env ∧ Wk w K J ds (M' ++ (D :: U)) H' ∧ i ≤ ds.length ∧ m = ds.length - i ∧ H' D = some (.lst acc) ∧ RpAll K (M' ++ (D :: U)) H' acc done ∧ done.length ≤ i ∧ Step M1 H1 M' H' ∧
      Post ct K U Wx σ M1 H1 ((compL f (ds.drop i) s').bind fun r s2 => .ok (done ++ r) s2) R
    refine ⟨W, ⟨ds.length, M1, s1, [], [], r1.more hD, (n.step t1).mv (mv_more hD), wk.mv (mv_more hD), Nat.zero_le _, rfl, upd_same, .nil, Nat.zero_le _, (r1.upd hD).2, ?_⟩, ?_⟩
    · rw [List.drop_zero]
      cases hc : compL f ds s1 with
      | ok r s2 =>
        rw [hc] at p1
        exact p1
      | exc c d s2 =>
        rw [hc] at p1
        exact p1
      | stuck =>
        rw [hc] at p1
        exact p1
    rintro i m H2 ⟨M2, s2, acc, done, r2, n2, wk2, hi2, hm, hacc, hrp, hdl, tt2, p2⟩
    have hDM : D ∉ M2 := (r2.un D (List.mem_cons_self ..)).1
    obtain ⟨w1, w2⟩ := wk2 _ _ (Mv.refl _ _) r2.all i
    by_cases hlt : i < ds.length
    · refine .inr ?_
      have hd : ds[i]? = some ds[i] := List.getElem?_eq_getElem hlt
      obtain ⟨go, yl⟩ := w2 _ hd
      have e1 : ds.drop i = ds[i] :: ds.drop (i + 1) := List.drop_eq_getElem_cons hlt
      rw [e1] at p2
      simp only [compL] at p2
      refine ⟨go, W (i + 1) (ds.length - (i + 1)), fun H' h' => ⟨ds.length - (i + 1), by omega, h'⟩, fun x H3 y => ?_⟩
      obtain ⟨ex, rx⟩ := yl x H3 y
      obtain ⟨r3, t3⟩ := ex.step r2
      cases hfd : f ds[i] s2 with
      | exc c d s' =>
        rw [hfd] at p2
        exact p2.elim
      | stuck =>
        rw [hfd] at p2
        exact p2.elim
      | ok o s3 =>
        rw [hfd] at p2
        simp only at p2
        rw [← hf] at hfd
        cases hb : bindTg gg ds[i] (wipeE env own) with
        | none =>
          simp only [hb] at hfd
          cases hfd
        | some env3 =>
          simp only [hb] at hfd
          obtain ⟨b, s4, e2, hfd⟩ := bind_okI hfd
          refine ⟨D :: U, M2, wipeE env own, ds[i], env3, rx.rv, (n2.step t3).wipe own, hb, fun vs _ n3 => ⟨?_, D :: U, M2, s2, env3, r3, n3, Post.wx (U := U) (M := M2) (H := H2) (σ := σ) e2 fun M4 H4 t4 r4 => ?_⟩⟩
          · rw [wipe_putAll hown, wipe_wipe σ own own fun _ h => h]
          have hD4 : H4 D = some (.lst acc) := t4.keep D _ (t3.keep D _ hacc hDM) hDM
          dsimp only
          cases b with
          | false =>
            rw [if_neg (by decide)]
            cases hfd
            refine ⟨M4, _, acc, done, r4, (n2.step t3).step t4, (wk2.mv (t3.mv _)).mv (t4.mv _), hlt, rfl, hD4, (hrp.step t3).step t4, Nat.le_succ_of_le hdl, (tt2.comp r2.less t3).comp r3.less t4, ?_⟩
            cases hc : compL f (ds.drop (i + 1)) s3 with
            | ok r s5 =>
              rw [hc] at p2
              exact p2
            | exc c d s5 =>
              rw [hc] at p2
              exact p2
            | stuck =>
              rw [hc] at p2
              exact p2
          | true =>
            rw [if_pos rfl]
            obtain ⟨ww, s5, e3, hfd⟩ := bind_okI hfd
            refine ⟨D :: U, M4, s4, env3, r4, n3.step t4, Post.wx (U := U) (M := M2) (H := H2) (σ := σ) e3 fun M5 H5 t5 r5 v rv => ?_⟩
            have hDM4 : D ∉ M4 := (r4.un D (List.mem_cons_self ..)).1
            have hD5 : H5 D = some (.lst acc) := t5.keep D _ hD4 hDM4
            have hal : acc.length < sizeLine := by
              rw [hrp.length]
              omega
            refine ⟨acc, hD5, hal, ?_⟩
            cases ww with
            | ref j => cases hfd
            | exn _ _ => cases hfd
            | val yv =>
              cases hdi : isDict yv with
              | true =>
                simp only [hdi] at hfd
                cases hfd
              | false =>
                simp only [hdi, Bool.not_false, iff_true, of_some, bind_ok] at hfd
                cases hfd
                obtain ⟨r6, m6⟩ := r5.wr (o := .lst (acc ++ [v]))
                have ha5 := ((hrp.step t3).step t4).step t5
                have h15 : Step M1 H1 M5 H5 := ((tt2.comp r2.less t3).comp r3.less t4).comp r4.less t5
                refine ⟨M5, _, acc ++ [v], done ++ [yv], r6, (((n2.step t3).step t4).step t5).mv m6, (((wk2.mv (t3.mv _)).mv (t4.mv _)).mv (t5.mv _)).mv m6, hlt, rfl, upd_same, (ha5.append (.cons (RV.rp rv hdi) .nil)).move m6, by rw [List.length_append]; exact Nat.succ_le_succ hdl, ⟨h15.grow, fun b u hb hbm => ?_⟩, ?_⟩
                · rw [upd_ne (ne_of_none hb hD)]
                  exact h15.keep b u hb hbm
                · cases hc : compL f (ds.drop (i + 1)) s3 with
                  | ok r s6 =>
                    rw [hc] at p2
                    simp only [bind_ok] at p2 ⊢
                    rw [List.append_assoc]
                    exact p2
                  | exc c d s6 =>
                    rw [hc] at p2
                    exact p2
                  | stuck =>
                    rw [hc] at p2
                    exact p2
    · have e : i = ds.length := by omega
      subst e
      refine .inl ⟨w1 rfl, ?_⟩
      rw [List.drop_length] at p2
      simp only [compL, bind_ok, List.append_nil] at p2
      have p3 := p2 M2 H2 tt2 r2.less
      rw [← hR] at p3
      exact p3 D acc hD0 r2 hacc hrp
/-- a comprehension as a new list -/
theorem n_comp {scope : Scope} {own : List (Str × Nat)} (hc : X.calm = true) (hN : X.N.Nodup) (hi : PI X tg iter (tI X.w X.K ct Wx C ii)) (ok : BlkOk X.N X.env.scope scope own)
    (hg : ∀ (s : Shared) (H : Hp) (D : Addr) (cl : List (Str × Addr)) (fp : List Addr), PG (X.blk s H scope (compEnvC scope cl D X.env) fp) tg (gT ct X.w X.K gg))
    (ht : ∀ (s : Shared) (H : Hp) (D : Addr) (cl : List (Str × Addr)) (fp : List Addr), PTs (X.blk s H scope (compEnvC scope cl D X.env) fp) ifs (tTt X.w X.K ct WF C tt))
    (he : ∀ (s : Shared) (H : Hp) (D : Addr) (cl : List (Str × Addr)) (fp : List Addr), PE (X.blk s H scope (compEnvC scope cl D X.env) fp) elt (tE X.w X.K ct WF C ee))
    (hs : ∀ x, foldedSetIterable iter X.env x = pure x) (hown : ∀ i ∈ slotsT gg, i ∈ own.map (·.2)) :
    PE X (.ListComp elt [⟨tg, iter, ifs, 0⟩] scope pos) (tNw X.w X.K ct Wx C (.comp (own.map (·.2)) gg ii tt ee)) :=
  pei (pe_lc hc hN hi ok hg ht he hs) fun σ H Q h => comp_go hown h
/-- name = [..] on one line, the name a local: the block ends by the store -/
theorem s_comp {Er : XK} {m : Nat} {y : Str} {py spos : Pos} {scope : Scope} {own : List (Str × Nat)} (hc : X.calm = true) (hN : X.N.Nodup) (hy : X.N[m]? = some y) (hyl : X.env.scope.names.lookup y = some .local)
    (hsw : swapsWith (.ListComp elt [⟨tg, iter, ifs, 0⟩] scope pos) (some (.Name y py)) spos.line X.env = pure true) (hi : PI X tg iter (tI X.w X.K ct (wE Er) C ii)) (ok : BlkOk X.N X.env.scope scope own)
    (hg : ∀ (s : Shared) (H : Hp) (D : Addr) (cl : List (Str × Addr)) (fp : List Addr), PG (X.blk s H scope (compEnvC scope cl D X.env) fp) tg (gT ct X.w X.K gg))
    (ht : ∀ (s : Shared) (H : Hp) (D : Addr) (cl : List (Str × Addr)) (fp : List Addr), PTs (X.blk s H scope (compEnvC scope cl D X.env) fp) ifs (tTt X.w X.K ct WF C tt))
    (he : ∀ (s : Shared) (H : Hp) (D : Addr) (cl : List (Str × Addr)) (fp : List Addr), PE (X.blk s H scope (compEnvC scope cl D X.env) fp) elt (tE X.w X.K ct WF C ee))
    (hs : ∀ x, foldedSetIterable iter X.env x = pure x) (hown : ∀ i ∈ slotsT gg, i ∈ own.map (·.2)) :
    PS X (.Assign [.Name y py] (.ListComp elt [⟨tg, iter, ifs, 0⟩] scope pos) spos) (tS X.w X.K ct Er C (.asg (.name m) (.frz (.comp (own.map (·.2)) gg ii tt ee)))) :=
  psi (ps_setLc hc hN hy hyl hsw hi ok hg ht he hs) fun D σ H h => comp_go hown (frz_go (set_go h))
theorem s_compW {Er : XK} {m : Nat} {y : Str} {py spos : Pos} {scope : Scope} {own : List (Str × Nat)} (hc : X.calm = true) (hN : X.N.Nodup) (hy : X.N[m]? = some y) (hyl : X.env.scope.names.lookup y = some .local)
    (hsw : swapsWith (.ListComp elt [⟨tg, iter, ifs, 0⟩] scope pos) (some (.Name y py)) spos.line X.env = pure true) (hi : PI X tg iter (tI X.w X.K ct (wE Er) C ii)) (ok : BlkOk X.N X.env.scope scope own)
    (hg : ∀ (s : Shared) (H : Hp) (D : Addr) (cl : List (Str × Addr)) (fp : List Addr), PG (X.blk s H scope (compEnvC scope cl D X.env) fp) tg (gT ct X.w X.K gg))
    (ht : ∀ (s : Shared) (H : Hp) (D : Addr) (cl : List (Str × Addr)) (fp : List Addr), PTs (X.blk s H scope (compEnvC scope cl D X.env) fp) ifs (tTt X.w X.K ct WF C tt))
    (he : ∀ (s : Shared) (H : Hp) (D : Addr) (cl : List (Str × Addr)) (fp : List Addr), PE (X.blk s H scope (compEnvC scope cl D X.env) fp) elt (tE X.w X.K ct WF C ee))
    (hs : ∀ x, foldedSetIterable iter X.env x = pure x) (hown : ∀ i ∈ slotsT gg, i ∈ own.map (·.2)) :
    PS X (.Assign [.Name y py] (.ListComp elt [⟨tg, iter, ifs, 0⟩] scope pos) spos) (tS X.w X.K ct Er C (.asg (.name m) (.thw (.comp (own.map (·.2)) gg ii tt ee)))) :=
  psi (ps_setLc hc hN hy hyl hsw hi ok hg ht he hs) fun D σ H h => comp_go hown (thw_go (set_go h))
end
end MP
set_option maxRecDepth 10000
/-! MPEnd: a def by its body; all defs, so many deep; the law's call. -/
namespace MP
open PySem PySem.Spec L2
open PyProof.Rows hiding St
section
variable {P : Program} {w : World} {K : PySem.W.Frag} {mg : Str → Option Value} {base : Heap} {N ps : List Str} {qual x : Str} {scope : Scope} {f : Addr} {cdv : Value} {A : Around} {outer : List Env} {s : Shared} {H : Hp} {Er : XK} {k : Nat}
abbrev cxM (P : Program) (w : World) (K : PySem.W.Frag) (mg : Str → Option Value) (base : Heap) (N : List Str) (qual : Str) (scope : Scope) (f : Addr) (cdv : Value) (A : Around) (outer : List Env) (s : Shared) (H : Hp) (Er : XK) : Cx := cxOf (L2.CX P w) P w K mg base N qual scope f cdv A outer s H Er
theorem takesM : Takes (cxM P w K mg base N qual scope f cdv A outer s H Er) (wE Er) := takes_of (X := cxM P w K mg base N qual scope f cdv A outer s H Er) (E := Er) rfl rfl rfl (E₁ := fun e' s'' => L2.CX P w outer H s Er e' s'') rfl
theorem ownsM : PassesOwn (model P w) (cxM P w K mg base N qual scope f cdv A outer s H Er).A (cxM P w K mg base N qual scope f cdv A outer s H Er).env (cxM P w K mg base N qual scope f cdv A outer s H Er).xe :=
  passes_of (X := cxM P w K mg base N qual scope f cdv A outer s H Er) (K := fun e s'' => L2.CX P w outer H s Er e s'') (E₁ := fun e' s'' => L2.CX P w outer H s Er e' s'') rfl
theorem deeper_guards {env : Env} (h : A.guards = some []) : (A.deeper env).guards = some [] := by
  rw [← h]
  first
    | rfl
    | (obtain ⟨hd, d, fr, gs, u⟩ := A
       simp at h
       subst h
       rfl)
theorem okM (S : FnScope N ps scope) (hr : Room k (A.deeper (envOfC qual scope s.heap.objs.size f cdv))) (hg : A.guards = some []) : XOk (cxM P w K mg base N qual scope f cdv A outer s H Er) k (wE Er) :=
  ⟨hr, deeper_guards hg, rfl, takesM, S.nd⟩
/-- a def keeps sp, by its body -/
theorem fnM_of {params : Arguments} {body : List Stmt} {dvs : List V} {kws : List (Str × V)} {fd : FuncData} {sp : Sp} (F : FunD K x qual params body scope dvs kws f fd) (S : FnScope N ps scope) (len : ∀ vs H Q E, sp vs H Q E → vs.length = ps.length)
    (hb : ∀ (cdv : Value) (A : Around) (outer : List Env) (s : Shared) (H : Hp) (vs : List V) (Q : VK) (Er : XK), XOk (cxM P w K mg base N qual scope f cdv A outer s H Er) k (wE Er) → sp vs H Q Er →
      ∃ t, PSs (cxM P w K mg base N qual scope f cdv A outer s H Er) body t ∧ t { nx := fun _ H' => Q .non H', rt := Q } (start N vs) H) : FnM P w K mg base (k + 1) f fd ps sp := by
  obtain ⟨oc, od, dV, kV, doc, pm, an, cdv, ct, osl, rfl, lk, hcd, _, _⟩ := F.ex
  constructor
  · exact len
  intro A outer s H args us vs Q Er room gs e0 bind rel hsp
  have size := len _ _ _ _ hsp
  have KIn : K.In s.heap := e0.mod.kin.keeps fun b o e => (e0.bs b o e).1
  have free : s.heap.NoLimit := e0.mod.nolimit.keeps fun b o e => (e0.bs b o e).1
  have kinds : ∀ y ∈ ps.zip us, scope.names.lookup y.1 = some .local ∨ (scope.names.lookup y.1 = some .cell ∧ ((cellsFrom (s.heap.objs.size + 1) scope.names []).lookup y.1).isSome = true) := by
    rintro ⟨n, v⟩ hy
    rcases S.par n (List.of_mem_zip hy).1 with loc | cel
    · exact Or.inl loc
    · exact Or.inr ⟨cel, PySem.W.cellsFrom_some _ _ _ (Or.inl cel)⟩
  refine codeAny_call_function room.depth (KIn _ _ lk) rfl S.co S.gen rfl (PySem.W.codeRec_of KIn hcd) (bind _ _ _ _ (wpAny_newFunctionEnv_cells S.kind kinds ?_))
  rintro env rfl s1 ic
  refine And.intro (free.keeps ic.toInCall.keep) (codeAny_func ?_)
  obtain ⟨t, body_ok, start_ok⟩ := hb cdv A outer s H vs Q Er (okM S (room.deeper _) gs) hsp
  have I0 : Inv (cxM P w K mg base N qual scope f cdv A outer s H Er) [] (start N vs) H s1 := inv_start S room.hd e0 size rel ic
  refine wpAny_mono (body_ok.run [] s1 (start N vs) H _ I0 start_ok) (fun fl s' ended => ?_) fun e s' err => err
  cases fl with
  | brk =>
    obtain ⟨_, _, _, bad⟩ := ended
    cases bad
  | cont =>
    obtain ⟨_, _, _, bad⟩ := ended
    cases bad
  | next =>
    obtain ⟨σ', H', J, q⟩ := ended
    exact (⟨.non, H', J.os, J.bare, J.base, J.hok, rfl, q⟩ : CE outer P w H s Q Value.none s')
  | ret u =>
    obtain ⟨v, σ', H', J, rv, q⟩ := ended
    exact (⟨v, H', J.os, J.bare, J.base, J.hok, rv, q⟩ : CE outer P w H s Q u s')
end
/-! ### a body's run is a def's run -/
section
variable {w : World} {K : PySem.W.Frag} {ct : CT} {C : Callf} {fd : Fd}
theorem REnv.start {U M : List Addr} {H : Hp} {N : List Str} {vs : List V} {args : List W} (rv : RWs ct w K U M H vs args) (h2 : args.length ≤ N.length) : REnv ct w K U M H (L2.start N vs) (args.map some ++ List.replicate (N.length - args.length) none) := by
  have hl := rv.length
  refine ⟨?_, fun i x e => ?_⟩
  · unfold L2.start
    simp [hl]
  · have hi : i < args.length := by
      by_cases hi : i < args.length
      · exact hi
      · rw [List.getElem?_append_right (by simpa using hi), List.getElem?_replicate] at e
        split at e <;> cases e
    rw [List.getElem?_append_left (by simpa using hi), List.getElem?_map] at e
    have get : ∀ {vs : List V} {args : List W}, RWs ct w K U M H vs args → ∀ (i : Nat) (x : W), args[i]? = some x → ∃ v : V, vs[i]? = some v ∧ RW ct w K U M H v x := by
      intro vs args r
      induction r with
      | nil => intro i x h; simp at h
      | cons r t ih =>
        intro i x h
        cases i with
        | zero =>
          simp at h
          subst h
          exact ⟨_, rfl, r⟩
        | succ i =>
          obtain ⟨v, h1, h2⟩ := ih i x (by simpa using h)
          exact ⟨v, by simpa using h1, h2⟩
    cases ha : args[i]? with
    | none =>
      rw [ha] at e
      cases e
    | some y =>
      rw [ha] at e
      cases e
      obtain ⟨v, h1, h2⟩ := get rv i x ha
      refine ⟨v, ?_, h2⟩
      unfold L2.start
      rw [List.getElem?_append_left (by simpa using (List.getElem?_eq_some_iff.mp h1).1), List.getElem?_map, h1]
      rfl
/-- the state cut back to what stood before -/
theorem RelS.cut {U M M' : List Addr} {H H' : Hp} {s s' : Stk} (r : RelS K U M H s) (t : Step M H M' H') (r' : RelS K U M' H' s') : RelS K U M H' (s'.take s.length) ∧ Step M H M H' ∧ ∀ b ∈ M, b ∈ M' := by
  obtain ⟨l, e, hl⟩ := t.grow
  have sub : ∀ b ∈ M, b ∈ M' := fun b hb => by
    rw [e]
    exact List.mem_append_left _ hb
  have mv : Mv (M' ++ U) H' (M ++ U) H' := Mv.less fun b hb => by
    rcases List.mem_append.mp hb with z | z
    · exact List.mem_append_left _ (sub b z)
    · exact List.mem_append_right _ z
  have ml : M'.length = s'.length := r'.len
  have le : s.length ≤ s'.length := by
    rw [← ml, e, List.length_append, r.len]
    omega
  refine ⟨⟨fun u hu => ⟨(r.un u hu).1, (r'.un u hu).2⟩, r.nd, by rw [List.length_take, r.len]; omega, fun i a ob h1 h2 => ?_⟩, ⟨⟨[], by simp, by simp⟩, t.keep⟩, sub⟩
  have hi : i < s.length := by
    rw [← r.len]
    exact (List.getElem?_eq_some_iff.mp h1).1
  rw [List.getElem?_take_of_lt hi] at h2
  have h3 : M'[i]? = some a := by
    rw [e, List.getElem?_append_left (by rw [r.len]; exact hi)]
    exact h1
  have := r'.ob i a ob h3 h2
  cases ob with
  | lst xs =>
    obtain ⟨vs, h4, h5⟩ := this
    exact ⟨vs, h4, h5.move mv⟩
  | dct kvs =>
    obtain ⟨vs, h4, h5⟩ := this
    exact ⟨vs, h4, Paired.mapP h5 fun p q z => ⟨z.1, z.2.move mv⟩⟩
theorem fd_go {U M : List Addr} {H : Hp} {s : Stk} {args : List W} {vs : List V} {Q : VK} {Er : XK} {N : List Str} (hs : fd.slots = N.length) (ha : fd.ar ≤ N.length) (r : RelS K U M H s) (rv : RWs ct w K U M H vs args) (p : CPost w K ct U M H Q Er (runFd C fd args s)) :
    tSs w K ct Er C fd.body { nx := fun _ H' => Q .non H', rt := Q } (start N vs) H := by
  unfold runFd at p
  by_cases hl : args.length = fd.ar
  · rw [if_pos hl] at p
    refine ⟨U, M, s, args.map some ++ List.replicate (fd.slots - fd.ar) none, r, ?_, ?_⟩
    · have := REnv.start (N := N) rv (by omega)
      rw [hl, ← hs] at this
      exact this
    · cases e : evSs C fd.body (args.map some ++ List.replicate (fd.slots - fd.ar) none) s with
      | stuck =>
        rw [e] at p
        exact p
      | exc c d s1 =>
        rw [e] at p
        intro M' H' cls dd t r' x
        obtain ⟨r2, t2, sub⟩ := r.cut t r'
        refine p M H' cls dd t2 r2 ?_
        obtain ⟨e1, x1, v, e2, h1, h2, h3⟩ := x
        exact ⟨e1, x1, v, e2, fun z => h1 (by
          rcases List.mem_append.mp z with z | z
          · exact List.mem_append_left _ (sub x1 z)
          · exact List.mem_append_right _ z), h2, h3.move (Mv.less fun b hb => by
          rcases List.mem_append.mp hb with z | z
          · exact List.mem_append_left _ (sub b z)
          · exact List.mem_append_right _ z)⟩
      | ok o s1 =>
        rw [e] at p
        intro M' H' t r'
        obtain ⟨r2, t2, sub⟩ := r.cut t r'
        have mv : Mv (M' ++ U) H' (M ++ U) H' := Mv.less fun b hb => by
          rcases List.mem_append.mp hb with z | z
          · exact List.mem_append_left _ (sub b z)
          · exact List.mem_append_right _ z
        cases o with
        | nx env => exact fun σ' _ => p .non M H' t2 r2 (.non : Rp K _ _ _ _)
        | rt x =>
          cases x with
          | exn c d => exact p.elim
          | val d =>
            intro v h
            refine p v M H' t2 r2 ?_
            cases d with
            | dict ds =>
              obtain ⟨a, kvs, e1, e2, e3, e4⟩ := h
              exact ⟨a, kvs, e1, e2, e3, fun p hp => (e4 p hp).move mv⟩
            | _ => exact Rp.move mv _ (show Rp K (M' ++ U) H' v _ from h)
          | ref i =>
            rintro v ⟨a, h1, rfl⟩
            simp only at p
            by_cases hi : s.length ≤ i
            · rw [if_pos hi] at p
              cases hs1 : s1[i]? with
              | none =>
                rw [hs1] at p
                exact p.elim
              | some ob =>
                rw [hs1] at p
                cases ob with
                | dct kvs => exact p.elim
                | lst xs =>
                  obtain ⟨us, h3, h4⟩ := r'.ob i a _ h1 hs1
                  obtain ⟨l, el, hn⟩ := t.grow
                  have hal : a ∈ l := by
                    rw [el, List.getElem?_append_right (by rw [r.len]; exact hi)] at h1
                    exact List.mem_of_getElem? h1
                  have ha0 : H a = none := hn a hal
                  have haM : a ∉ M := r.fresh0 ha0
                  have haU : a ∉ U := fun z => by
                    have := (r.un a z).2
                    rw [ha0] at this
                    cases this
                  have mv2 : Mv (M' ++ U) H' (M ++ (a :: U)) H' := Mv.less fun b hb => by
                    rcases List.mem_append.mp hb with z | z
                    · exact List.mem_append_left _ (sub b z)
                    · rcases List.mem_cons.mp z with q | q
                      · rw [q]
                        exact List.mem_append_left _ (List.mem_of_getElem? h1)
                      · exact List.mem_append_right _ q
                  refine p a us M H' ha0 t2 ⟨fun u hu => ?_, r2.nd, r2.len, fun j b ob h5 h6 => ?_⟩ h3 (h4.move mv2)
                  · rcases List.mem_cons.mp hu with q | q
                    · subst q
                      exact ⟨haM, by rw [h3]; rfl⟩
                    · exact r2.un u q
                  · have hj : j < s.length := by
                      rw [← r.len]
                      exact (List.getElem?_eq_some_iff.mp h5).1
                    rw [List.getElem?_take_of_lt hj] at h6
                    have h7 : M'[j]? = some b := t.ix h5
                    have := r'.ob j b ob h7 h6
                    cases ob with
                    | lst xs =>
                      obtain ⟨vs, h8, h9⟩ := this
                      exact ⟨vs, h8, h9.move mv2⟩
                    | dct kvs =>
                      obtain ⟨vs, h8, h9⟩ := this
                      exact ⟨vs, h8, Paired.mapP h9 fun p q z => ⟨z.1, z.2.move mv2⟩⟩
            · rw [if_neg hi] at p
              exact p.elim
        | rtN xs =>
          intro a us hn rr h3 h4
          have haM : a ∉ M' := (rr.un a (List.mem_cons_self ..)).1
          have mv2 : Mv (M' ++ (a :: U)) H' (M ++ (a :: U)) H' := Mv.less fun b hb => by
            rcases List.mem_append.mp hb with z | z
            · exact List.mem_append_left _ (sub b z)
            · exact List.mem_append_right _ z
          refine p a us M H' hn t2 ⟨fun u hu => ⟨fun z => (rr.un u hu).1 (sub u z), (rr.un u hu).2⟩, r2.nd, r2.len, fun j b ob h5 h6 => ?_⟩ h3 (h4.move mv2)
          have hj : j < s.length := by
            rw [← r.len]
            exact (List.getElem?_eq_some_iff.mp h5).1
          rw [List.getElem?_take_of_lt hj] at h6
          have := rr.ob j b ob (t.ix h5) h6
          cases ob with
          | lst xs =>
            obtain ⟨vs, h8, h9⟩ := this
            exact ⟨vs, h8, h9.move mv2⟩
          | dct kvs =>
            obtain ⟨vs, h8, h9⟩ := this
            exact ⟨vs, h8, Paired.mapP h9 fun p q z => ⟨z.1, z.2.move mv2⟩⟩
        | brk env => exact p.elim
        | ct env => exact p.elim
  · rw [if_neg hl] at p
    exact p.elim
end
/-! ### all defs -/
/-- a def's name, parameters, text -/
abbrev Sig := Str × List Str × Stmt
structure DefF (K : PySem.W.Frag) (mg : Str → Option Value) (g : Sig) (f : Addr) (fd : FuncData) : Prop where
  fn : FunD K g.1 g.1 (defArgs g.2.2) (defBody g.2.2) (defScope g.2.2) [] [] f fd
  mg : mg g.1 = some (.ref f)
  bn : BindsN K fd g.2.1
/-- all defs keep what they run, n calls deep -/
def Lev (P : Program) (w : World) (K : PySem.W.Frag) (mg : Str → Option Value) (base : Heap) (ct : CT) (sig : List Sig) (PT : List Fd) (fa : Nat → Addr) (fv : Nat → FuncData) (k n : Nat) : Prop :=
  ∀ i g, sig[i]? = some g → DefF K mg g (fa i) (fv i) ∧ FnM P w K mg base k (fa i) (fv i) g.2.1 (spM w K ct (callAt PT n) g.2.1.length i)
/-- a def's body runs as told -/
def Body (P : Program) (w : World) (K : PySem.W.Frag) (mg : Str → Option Value) (base : Heap) (ct : CT) (sig : List Sig) (PT : List Fd) (fa : Nat → Addr) (fv : Nat → FuncData) (i : Nat) (g : Sig) : Prop :=
  ∃ (N : List Str) (fd : Fd), PT[i]? = some fd ∧ fd.ar = g.2.1.length ∧ fd.slots = N.length ∧ fd.ar ≤ N.length ∧ FnScope N g.2.1 (defScope g.2.2) ∧
    ∀ (k n : Nat), Lev P w K mg base ct sig PT fa fv k n → ∀ (f : Addr) (cdv : Value) (A : Around) (outer : List Env) (s : Shared) (H : Hp) (Er : XK), XOk (cxM P w K mg base N g.1 (defScope g.2.2) f cdv A outer s H Er) k (wE Er) →
      PSs (cxM P w K mg base N g.1 (defScope g.2.2) f cdv A outer s H Er) (defBody g.2.2) (tSs w K ct Er (callAt PT n) fd.body)
section
variable {P : Program} {w : World} {K : PySem.W.Frag} {mg : Str → Option Value} {base : Heap} {ct : CT} {sig : List Sig} {PT : List Fd} {fa : Nat → Addr} {fv : Nat → FuncData}
theorem lev_zero (k : Nat) (D : ∀ i g, sig[i]? = some g → DefF K mg g (fa i) (fv i)) : Lev P w K mg base ct sig PT fa fv k 0 := fun i g h => ⟨D i g h, fun _ _ _ _ q => q.1, fun A outer s H args us vs Q E _ _ _ _ _ q => by
  obtain ⟨_, U, M, st, as, _, _, p⟩ := q
  exact p.elim⟩
theorem lev_succ {k n : Nat} (B : ∀ i g, sig[i]? = some g → Body P w K mg base ct sig PT fa fv i g) (L : Lev P w K mg base ct sig PT fa fv k n) : Lev P w K mg base ct sig PT fa fv (k + 1) (n + 1) := fun i g h => by
  obtain ⟨D, _⟩ := L i g h
  obtain ⟨N, fd, h1, h2, h3, h4, S, hb⟩ := B i g h
  refine ⟨D, fnM_of D.fn S (fun _ _ _ _ q => q.1) fun cdv A outer s H vs Q Er o q => ⟨_, hb k n L _ cdv A outer s H Er o, ?_⟩⟩
  obtain ⟨hl, U, M, st, as, r, rv, p⟩ := q
  rw [call_at h1] at p
  exact fd_go h3 h4 r rv p
theorem lev_all (B : ∀ i g, sig[i]? = some g → Body P w K mg base ct sig PT fa fv i g) (D : ∀ i g, sig[i]? = some g → DefF K mg g (fa i) (fv i)) : ∀ n, Lev P w K mg base ct sig PT fa fv n n
  | 0 => lev_zero 0 D
  | n + 1 => lev_succ B (lev_all B D n)
end
end MP
set_option maxRecDepth 10000
/-! MPLaw: the law's call, over defs that keep a run. -/
namespace MP
open PySem PySem.Spec L2
open PyProof.Rows hiding St
section
variable {P : Program} {w : World} {K : PySem.W.Frag} {mg mb : Str → Option Value} {k : Nat} {fa a : Addr} {fd : FuncData} {x : Str} {sp : Sp} {s₁ : Shared} {vs : List Value} {ns : List Int}
/-- what the law is to leave -/
abbrev Done (s₁ : Shared) : Result → Shared → Prop := fun r s' => r = .ok (.ret (.bool true)) ∧ OldK s₁.heap s'.heap ∧ s'.os = s₁.os ∧ AllBare s'.gens
/-- the call, the script tracked (frozen) or not -/
theorem law_at (G : Hp) (top : s₁.heap.Ns mainGlobals mg) (blt : s₁.heap.Ns builtinsNs mb) (boot : ∀ x : Str, x ≠ "__name__" → mb x = bootBuiltins x) (free : s₁.heap.NoLimit) (still : s₁.gens = #[])
    (obj : s₁.heap.get? a = some { cls := .type "list", data := .seq vs.toArray }) (room : Room k callerA) (KIn : ∀ b o, K.lookup b = some o → s₁.heap.get? b = some o ∧ G b = none)
    (frz : ∀ b u, G b = some u → b = a ∧ ∃ o xs, u = .frz o (.lst xs)) (lies : HOk P w G s₁.heap)
    (F : ∀ base : Heap, K.In base → base.Ns mainGlobals mg → FnM P w K mg base k fa fd [x] sp) (bind : ∀ (s : Shared) (u : Value), BindsTo s fd ⟨[u], []⟩ [(x, u)]) (run : sp [.ref a] G (fun v _ => v = .bl true) fun _ _ _ => False) :
    codeAny (model P w) callerA (.call (.ref fa) ⟨[.ref a], []⟩) (Done s₁) s₁ := by
  have out : ∀ {b : Addr} {o : Obj} {es : Array DictEntry} {ep : Nat}, s₁.heap.get? b = some o → o.data = .dict es ep → G b = none := by
    intro b o es ep ho hd
    cases hG : G b with
    | none => rfl
    | some u =>
      have same := (frz b u hG).1
      subst same
      rw [obj] at ho
      cases ho
      cases (show Data.seq vs.toArray _ = Data.dict es ep from hd)
  have keep : ∀ {b : Addr} {m : Str → Option Value}, s₁.heap.Ns b m → (hidT s₁.heap G).Ns b m := by
    rintro b m ⟨o, es, ep, ho, hd, rest⟩
    exact ⟨o, es, ep, hidT_get ho (out ho hd), hd, rest⟩
  have base : K.In (hidT s₁.heap G) := fun b o hK => hidT_get (KIn b o hK).1 (KIn b o hK).2
  obtain ⟨ml, free1, free2⟩ := free
  have world : Env0 P w K mg (hidT s₁.heap G) callerA [] s₁ G := by
    constructor
    · rfl
    · exact ⟨base, keep top, ⟨mb, keep blt, boot⟩, ⟨ml, keep free1, free2⟩⟩
    · exact fun b o ho => of_hidT ho
    · exact Nat.le_of_eq (hidT_size _ _)
    · trivial
    · exact fun b hb => absurd (show b ∈ ([] : List Addr) from hb) (by simp)
    · exact lies
    · exact .of_eq still
  have called := (F _ base (keep top)).run callerA [] s₁ G ⟨[.ref a], []⟩ [.ref a] [.ref a] _ _ room rfl world (bind s₁ (.ref a)) (.cons rfl .nil) run
  refine codeAny_mono called fun r s' ended => ?_
  cases r with
  | error e =>
    obtain ⟨_, _, _, _, _, _, _, _, _, _, _, _, bad⟩ := ended
    exact bad.elim
  | ok fl =>
    cases fl with
    | ret u =>
      obtain ⟨v, G', os, bare, un, lies', rv, told⟩ := ended
      cases (show v = .bl true from told)
      cases (show u = Value.bool true from rv)
      refine ⟨rfl, OldK.of_keep fun b o ho => ?_, os, bare⟩
      cases hG : G b with
      | none => exact un.keep b o ho hG (fun z => absurd (show b ∈ ([] : List Addr) from z) (by simp)) (by simp)
      | some u =>
        obtain ⟨_, ob, xs, eu⟩ := frz b u hG
        subst eu
        have was := (lies b _ hG).1
        rw [ho] at was
        cases was
        exact (lies' b _ (un.frzs b _ _ hG)).1
    | next => exact (show False from ended).elim
    | brk => exact (show False from ended).elim
    | cont => exact (show False from ended).elim
/-- the call: the script is one of the module's own things, or it is tracked -/
theorem law_M (KX : K.In s₁.heap) (top : s₁.heap.Ns mainGlobals mg) (blt : s₁.heap.Ns builtinsNs mb) (boot : ∀ x : Str, x ≠ "__name__" → mb x = bootBuiltins x) (free : s₁.heap.NoLimit) (still : s₁.gens = #[])
    (obj : s₁.heap.get? a = some { cls := .type "list", data := .seq vs.toArray }) (hin : IntsAre vs ns) (most : ns.length ≤ sizeLine) (room : Room k callerA)
    (F : ∀ base : Heap, K.In base → base.Ns mainGlobals mg → FnM P w K mg base k fa fd [x] sp) (bind : ∀ (s : Shared) (u : Value), BindsTo s fd ⟨[u], []⟩ [(x, u)])
    (run : ∀ G : Hp, SqL K G a (ns.map V.int) → sp [.ref a] G (fun v _ => v = .bl true) fun _ _ _ => False) : codeAny (model P w) callerA (.call (.ref fa) ⟨[.ref a], []⟩) (Done s₁) s₁ := by
  have rel := vals_ints hin
  have size := hin.length
  cases hK : K.lookup a with
  | some o =>
    have same := KX a o hK
    rw [obj] at same
    cases same
    have seq : SqL K (fun _ => none) a (ns.map V.int) := .inr ⟨_, vs.toArray, _, hK, rfl, rfl, rfl, by rw [List.size_toArray, size]; exact most, by simpa using rel⟩
    exact law_at (fun _ => none) top blt boot free still obj room (fun b o h => ⟨KX b o h, rfl⟩) (fun b u z => nomatch (show (none : Option HO) = some u from z)) (fun b u z => nomatch (show (none : Option HO) = some u from z)) F bind (run _ seq)
  | none =>
    obtain ⟨G, hG⟩ : ∃ G : Hp, G = fun b => if b = a then some (.frz { cls := .type "list", data := .seq vs.toArray } (.lst (ns.map V.int))) else none := ⟨_, rfl⟩
    have at_ : G a = some (.frz { cls := .type "list", data := .seq vs.toArray } (.lst (ns.map V.int))) := by rw [hG]; exact if_pos rfl
    have off : ∀ b, b ≠ a → G b = none := fun b hb => by rw [hG]; exact if_neg hb
    refine law_at G top blt boot free still obj room (fun b o h => ⟨KX b o h, off b fun e => ?_⟩) (fun b u z => ?_) (fun b u z => ?_) F bind (run G (.inl (.inr ⟨_, at_⟩)))
    · rw [e, hK] at h
      cases h
    · by_cases hb : b = a
      · subst hb
        rw [at_] at z
        cases z
        exact ⟨rfl, _, _, rfl⟩
      · rw [off b hb] at z
        cases z
    · by_cases hb : b = a
      · subst hb
        rw [at_] at z
        cases z
        exact ⟨obj, by rw [List.length_map]; exact most, vs, _, rel, obj⟩
      · rw [off b hb] at z
        cases z
end
/-- a law by its def's run: F gives the written part and the def at every base -/
theorem walkM {l : PySem.W.OpenLaw} {n k : Nat} {q : Program} {loose : List Str} {XP : (Str → Option Value) → Heap → Prop} {YP : World → Heap → Prop} {d : DefRec} {x : Str}
    (hn : l.most = some n) (hn2 : n ≤ sizeLine) (hdf : d.params.defaults = []) (room : Room k callerA)
    (F : ∀ (w : World) (mg : Str → Option Value) (fa : Addr) (h : Heap), YP w h → h.Ns mainGlobals mg → mg d.name = some (.ref fa) → ∃ (K : PySem.W.Frag) (fd : FuncData) (sp : Sp), K.In h ∧ (∀ (s : Shared) (u : Value), BindsTo s fd ⟨[u], []⟩ [(x, u)]) ∧
      (∀ (G : Hp) (a : Addr) (ns : List Int), ns.length ≤ n → SqL K G a (ns.map V.int) → sp [.ref a] G (fun v _ => v = .bl true) fun _ _ _ => False) ∧ ∀ base : Heap, K.In base → base.Ns mainGlobals mg → FnM l.prog w K mg base k fa fd [x] sp) :
    PySem.W.WalkO q loose XP YP l.row.toRowW d [] (fun f vs => PySem.call f vs) := by
  refine Att.attach_call hn hdf ?_
  intro w s₀ s₁ mg mb fa o pm cd doc a vs ns ground Y ho hd hcd hmg obj hin len still
  obtain ⟨K, fd, sp, KX, bind, run, hF⟩ := F w mg fa _ Y ground.T.g hmg
  exact law_M KX ground.T.g ground.T.b ground.T.builtins ground.T.nolimit still obj hin (Nat.le_trans len hn2) room hF bind fun G hS => run G a ns len hS
/-- the script's run is the law's promise -/
theorem law_sp {w : World} {K : PySem.W.Frag} {ct : CT} {C : Callf} {f : Nat} {G : Hp} {a : Addr} {ns : List Int} (hS : SqL K G a (ns.map V.int)) (h : ∃ s', C f [.val (.list (ns.map PyData.int))] [] = .ok (.val (.bool true)) s') :
    spM w K ct C 1 f [.ref a] G (fun v _ => v = .bl true) fun _ _ _ => False := by
  have all : ∀ ns : List Int, RpAll K ([] ++ []) G (ns.map V.int) (ns.map PyData.int) := by
    intro ns
    induction ns with
    | nil => exact .nil
    | cons n ns ih => exact .cons (.int n) ih
  obtain ⟨s', e⟩ := h
  refine ⟨rfl, [], [], [], [.val (.list (ns.map PyData.int))], ⟨fun u hu => (nomatch hu), List.nodup_nil, rfl, fun i a o h => by simp at h⟩, .cons ?_ .nil, ?_⟩
  · rcases hS with h | ⟨o, its, m, h⟩
    · exact (.lst (by simp) h (all ns) : Rp K _ G _ _)
    · exact (.lstK (fun H' => .inr ⟨o, its, m, h⟩) (all ns) : Rp K _ G _ _)
  · rw [e]
    exact fun v M' H' _ _ h => Rp.blI h
end MP
set_option maxRecDepth 10000
/-! MPDict: written tables, dict displays, calls that hand back a new list. -/
namespace MP
open PySem PySem.Spec L2
open PyProof.Rows hiding St
/-- a written table -/
structure KT (K : PySem.W.Frag) (w : World) (a : Addr) (kvs : List (Str × PyData)) : Prop where
  kd : ∃ es n, KDict K w a es n
  look : ∀ z : Str, (kvs.lookup z = none ∧ PySem.W.nsIn K a z = some none) ∨ ∃ d u v, kvs.lookup z = some d ∧ PySem.W.nsIn K a z = some (some u) ∧ L2.RelV v u ∧ ∀ A H, Rp K A H v d
section
variable {X : Cx} {ct : CT} {Wx : WX} {C : Callf} {a b c e tn : Expr} {es : List Expr} {ea eb ec : E} {ees : Es} {pos p p2 : Pos} {k : Nat} {x : Str} {i j : Nat} {d : Addr} {kvs : List (Str × PyData)}
/-- a key, then its table -/
theorem k_go {ct : CT} {w : World} {K : PySem.W.Frag} {σ : St} {H : Hp} {e1 : E} {f : Option PyData → Stk → Res W} {Q : VK} (T : KT K w d kvs)
    (h : rd w K ct Wx (fun env s => (evE C eb env s).bind fun y s1 => match y with
      | .val (.str z) => f (kvs.lookup z) s1
      | _ => .stuck) σ H fun U x M' H' _ => ∀ v, RW ct w K U M' H' v x → Q v H') :
    tE w K ct Wx C eb σ H fun v H1 => ∃ z U M1 s1, v = .str z ∧ RelS K U M1 H1 s1 ∧ Post ct K U Wx σ M1 H1 (f (kvs.lookup z) s1) fun x M' H' _ => ∀ v, RW ct w K U M' H' v x → Q v H' := by
  obtain ⟨U, M, s, env, r, n, p⟩ := h
  refine ⟨U, M, s, env, r, n, p.bind.mono fun x M1 H1 s1 t1 r1 p1 v rv => ?_⟩
  cases x with
  | ref i => exact p1.elim
  | exn _ _ => exact p1.elim
  | val dd =>
    cases dd with
    | str z => exact ⟨z, U, M1, s1, (Rp.strI rv).1, r1, p1⟩
    | _ => exact p1.elim
theorem x_kin (T : KT X.K X.w d kvs) (hd : PE X tn (tC (.ref d))) (hb : PE X b (tE X.w X.K ct Wx C eb)) (hm : behindInMarks .In tn = false) : PE X (.Compare b [.In] [tn] pos) (tE X.w X.K ct Wx C (.kin kvs eb)) := by
  obtain ⟨es, n, D⟩ := T.kd
  refine pei (pe_cmpR (op_in_kd D) hb hd hm) fun σ H Q h => ?_
  obtain ⟨U, M, s, env, r, nn, p⟩ := h
  simp only [evE] at p
  obtain ⟨U, M, s, env, r, nn, p⟩ := k_go (w := X.w) (e1 := eb) (f := fun o s1 => .ok (.val (.bool o.isSome)) s1) T ⟨U, M, s, env, r, nn, p⟩
  refine ⟨U, M, s, env, r, nn, p.mono fun x M1 H1 s1 t1 r1 p1 v rv => ?_⟩
  obtain ⟨z, U2, M2, s2, rfl, r2, p2⟩ := p1 v rv
  rcases T.look z with ⟨h1, h2⟩ | ⟨dd, u, v', h1, h2, h3, h4⟩
  · rw [h1] at p2
    exact ⟨z, none, rfl, rfl, h2, p2.here r2 _ (.bl _ : Rp X.K _ _ _ _)⟩
  · rw [h1] at p2
    exact ⟨z, some u, rfl, rfl, h2, p2.here r2 _ (.bl _ : Rp X.K _ _ _ _)⟩
theorem x_knin (T : KT X.K X.w d kvs) (hd : PE X tn (tC (.ref d))) (hb : PE X b (tE X.w X.K ct Wx C eb)) (hm : behindInMarks .NotIn tn = false) : PE X (.Compare b [.NotIn] [tn] pos) (tE X.w X.K ct Wx C (.knin kvs eb)) := by
  obtain ⟨es, n, D⟩ := T.kd
  refine pei (pe_cmpR (op_notIn_kd D) hb hd hm) fun σ H Q h => ?_
  obtain ⟨U, M, s, env, r, nn, p⟩ := h
  simp only [evE] at p
  obtain ⟨U, M, s, env, r, nn, p⟩ := k_go (w := X.w) (e1 := eb) (f := fun o s1 => .ok (.val (.bool (!o.isSome))) s1) T ⟨U, M, s, env, r, nn, p⟩
  refine ⟨U, M, s, env, r, nn, p.mono fun x M1 H1 s1 t1 r1 p1 v rv => ?_⟩
  obtain ⟨z, U2, M2, s2, rfl, r2, p2⟩ := p1 v rv
  rcases T.look z with ⟨h1, h2⟩ | ⟨dd, u, v', h1, h2, h3, h4⟩
  · rw [h1] at p2
    exact ⟨z, none, rfl, rfl, h2, p2.here r2 _ (.bl _ : Rp X.K _ _ _ _)⟩
  · rw [h1] at p2
    exact ⟨z, some u, rfl, rfl, h2, p2.here r2 _ (.bl _ : Rp X.K _ _ _ _)⟩
theorem evB_kin {kvs : List (Str × PyData)} (env : Ve) (s : Stk) (x : W) (s1 : Stk) (h : evE C (.kin kvs eb) env s = .ok x s1) : ∃ k, x = .val (.bool k) := by
  simp only [evE] at h
  obtain ⟨y, s2, _, h⟩ := bind_okI h
  cases y with
  | ref i => cases h
  | exn _ _ => cases h
  | val d =>
    cases d with
    | str z =>
      cases h
      exact ⟨_, rfl⟩
    | _ => cases h
theorem evB_knin {kvs : List (Str × PyData)} (env : Ve) (s : Stk) (x : W) (s1 : Stk) (h : evE C (.knin kvs eb) env s = .ok x s1) : ∃ k, x = .val (.bool k) := by
  simp only [evE] at h
  obtain ⟨y, s2, _, h⟩ := bind_okI h
  cases y with
  | ref i => cases h
  | exn _ _ => cases h
  | val d =>
    cases d with
    | str z =>
      cases h
      exact ⟨_, rfl⟩
    | _ => cases h
theorem x_kinT (T : KT X.K X.w d kvs) (hd : PE X tn (tC (.ref d))) (hb : PE X b (tE X.w X.K ct Wx C eb)) (hm : behindInMarks .In tn = false) : PT X (.Compare b [.In] [tn] pos) (tT X.w X.K ct Wx C (.val (.kin kvs eb))) := by
  obtain ⟨es, n, D⟩ := T.kd
  refine pti (pt_cmpR (op_in_kd D) hb hd hm) fun σ H Q h => ?_
  replace h := tB_of evB_kin h
  obtain ⟨U, M, s, env, r, nn, p⟩ := h
  simp only [evE] at p
  obtain ⟨U, M, s, env, r, nn, p⟩ := k_go (w := X.w) (e1 := eb) (f := fun o s1 => .ok (.val (.bool o.isSome)) s1) T ⟨U, M, s, env, r, nn, p⟩
  refine ⟨U, M, s, env, r, nn, p.mono fun x M1 H1 s1 t1 r1 p1 v rv => ?_⟩
  obtain ⟨z, U2, M2, s2, rfl, r2, p2⟩ := p1 v rv
  rcases T.look z with ⟨h1, h2⟩ | ⟨dd, u, v', h1, h2, h3, h4⟩
  · rw [h1] at p2
    exact ⟨z, none, rfl, rfl, h2, p2.here r2 _ (.bl _ : Rp X.K _ _ _ _)⟩
  · rw [h1] at p2
    exact ⟨z, some u, rfl, rfl, h2, p2.here r2 _ (.bl _ : Rp X.K _ _ _ _)⟩
theorem x_kninT (T : KT X.K X.w d kvs) (hd : PE X tn (tC (.ref d))) (hb : PE X b (tE X.w X.K ct Wx C eb)) (hm : behindInMarks .NotIn tn = false) : PT X (.Compare b [.NotIn] [tn] pos) (tT X.w X.K ct Wx C (.val (.knin kvs eb))) := by
  obtain ⟨es, n, D⟩ := T.kd
  refine pti (pt_cmpR (op_notIn_kd D) hb hd hm) fun σ H Q h => ?_
  replace h := tB_of evB_knin h
  obtain ⟨U, M, s, env, r, nn, p⟩ := h
  simp only [evE] at p
  obtain ⟨U, M, s, env, r, nn, p⟩ := k_go (w := X.w) (e1 := eb) (f := fun o s1 => .ok (.val (.bool (!o.isSome))) s1) T ⟨U, M, s, env, r, nn, p⟩
  refine ⟨U, M, s, env, r, nn, p.mono fun x M1 H1 s1 t1 r1 p1 v rv => ?_⟩
  obtain ⟨z, U2, M2, s2, rfl, r2, p2⟩ := p1 v rv
  rcases T.look z with ⟨h1, h2⟩ | ⟨dd, u, v', h1, h2, h3, h4⟩
  · rw [h1] at p2
    exact ⟨z, none, rfl, rfl, h2, p2.here r2 _ (.bl _ : Rp X.K _ _ _ _)⟩
  · rw [h1] at p2
    exact ⟨z, some u, rfl, rfl, h2, p2.here r2 _ (.bl _ : Rp X.K _ _ _ _)⟩
theorem x_kget (T : KT X.K X.w d kvs) (hd : PE X tn (tC (.ref d))) (hb : PE X b (tE X.w X.K ct Wx C eb)) (hs : NoSl b) : PE X (.Subscript tn b pos) (tE X.w X.K ct Wx C (.kget kvs eb)) := by
  obtain ⟨es, n, D⟩ := T.kd
  refine ⟨fun pins s σ H Q I h => ?_⟩
  obtain ⟨U, M, st, env, r, nn, p⟩ := h
  simp only [evE] at p
  have h2 := k_go (w := X.w) (e1 := eb) (f := fun o s1 => match o with
    | some d => .ok (.val d) s1
    | none => .stuck) T ⟨U, M, st, env, r, nn, p⟩
  refine subD_of PySem.F.slot_dict_getitem.lookup hs (thn (hd.run pins s σ H _ I (show tC (.ref d) σ H (fun v H1 => v = .ref d ∧ H1 = H) from ⟨rfl, rfl⟩)) fun u s1 ⟨x, H1, I1, rx, e1, e2⟩ => ?_)
  subst e1 e2
  refine thn (hb.run pins s1 σ H1 _ I1 h2) fun iv s2 ⟨y, H2, I2, ry, z, U2, M2, s3, ez, r2, p2⟩ => ?_
  subst ez
  cases rx
  refine ⟨kd_type D I2, op_item_kd D pins s2 σ H2 (.ref d) (.str z) _ iv Q I2 rfl ry ?_⟩
  rcases T.look z with ⟨h1, h2⟩ | ⟨dd, u, v', h1, h2, h3, h4⟩
  · rw [h1] at p2
    exact p2.elim
  · rw [h1] at p2
    exact ⟨z, u, v', rfl, rfl, h2, h3, p2.here r2 _ (h4 _ _).rv⟩
/-! ### calls that hand back a new list -/
theorem callN_go {ct : CT} {w : World} {K : PySem.W.Frag} {U M : List Addr} {H : Hp} {σ : St} {f : Nat} {ws : List W} {s : Stk} {Q : VK} {vs : List V} (r : RelS K U M H s) (rv : RWs ct w K U M H vs ws) (ar : Nat) (hl : vs.length = ar)
    (p : Post ct K U Wx σ M H ((C f ws s).bind fun r s2 => match r with
      | .new xs => .ok xs s2
      | .val _ => .stuck) fun xs M' H' s' => ∀ a vs, H a = none → RelS K (a :: U) M' H' s' → H' a = some (.lst vs) → RpAll K (M' ++ (a :: U)) H' vs xs → Q (.ref a) H') : spM w K ct C ar f vs H Q (WE Wx σ) := by
  refine ⟨hl, U, M, s, ws, r, rv, ?_⟩
  cases e : C f ws s with
  | stuck =>
    rw [e] at p
    exact p
  | exc c d s' =>
    rw [e] at p
    exact fun M' H' cls dd t r' h => p M' H' cls dd t r' h
  | ok rr s' =>
    rw [e] at p
    cases rr with
    | val d => exact p.elim
    | new xs => exact fun a vs' M' H' hn t r' h1 h2 => p M' H' t r'.less a vs' hn r' h1 h2
theorem n_call {fd : FuncData} {f : Addr} {ps : List Str} (o : XOk X k Wx) (F : FnM X.prog X.w X.K X.mg X.base k f fd ps (spM X.w X.K ct C ps.length i)) (hg : Gl X x) (hm : X.mg x = some (.ref f)) (hk : PySem.W.keepIn X.K (.ref f) = true)
    (hb : BindsN X.K fd ps) (hl : esLen ees = ps.length) (ha : PA X (e :: es) (tEs X.w X.K ct Wx C ees)) (hdb : (x == ("__debug__" : Str)) = false) (he : starEach (e :: es) X.env = (false, eval e X.env) :: starEach es X.env)
    (hpl : (backTo pos (starEach es X.env)).any (·.1) = false) : PE X (.Call (.Name x p) (e :: es) [] pos) (tNw X.w X.K ct Wx C (.call i ees)) := by
  refine ⟨fun pins s σ H Q I h => ?_⟩
  refine wpAny_Call_Name_kw (ld_glob I hg hm ?_ hdb)
  obtain ⟨U, M, st, env, r, n, p⟩ := h
  simp only [evN] at p
  have h2 : tEs X.w X.K ct Wx C ees σ H fun vs H1 => spM X.w X.K ct C ps.length i vs H1 Q (WE Wx σ) := ⟨U, M, st, env, r, n, p.bind.eq.mono fun ws M1 H1 s1 t1 r1 q1 vs rv => callN_go r1 rv ps.length (by rw [rv.length, evEs_len _ _ _ _ _ q1.1, hl]) (q1.2.mono fun xs M2 H2 s2 t2 r2 q a vs hn rr h1 h2 => q a vs (t1.none r1 hn) rr h1 h2)⟩
  refine PySem.W.callWith_K (h₀ := X.base) I.ok.mod.kin hk (thn (ha.run pos pins s σ H _ I h2) fun us s1 ⟨vs, H1, I1, r, q⟩ => ⟨I1.kIn, ?_⟩) he hpl
  exact run_M F o I1 (hb s1 us I1.kIn (by rw [← r.length]; exact q.1)) r q
/-! ### dict displays -/
def ksLen : Ks → Nat
  | .nil => 0
  | .cons _ _ ks => ksLen ks + 1
def ksTrs (w : World) (K : PySem.W.Frag) (ct : CT) (Wx : WX) (C : Callf) : Ks → List (TE × TE)
  | .nil => []
  | .cons k v ks => (tE w K ct Wx C k, tE w K ct Wx C v) :: ksTrs w K ct Wx C ks
theorem ks_pairs {ct : CT} {w : World} {K : PySem.W.Frag} {σ : St} : ∀ {ks : Ks} {H : Hp} {S : List (V × V) → Hp → Prop},
    rd w K ct Wx (evKs C ks) σ H (fun U r M' H' s' => RelS K U M' H' s' → ∀ kvs : List (Key × V), kvs.length = ksLen ks → Paired (fun (p : Key × V) (q : Key × PyData) => p.1 = q.1 ∧ Rp K (M' ++ U) H' p.2 q.2) kvs r → S (kvs.map fun kv => (kV kv.1, kv.2)) H') →
    tPairs (ksTrs w K ct Wx C ks) σ H S
  | .nil, H, S, h => by
    obtain ⟨U, M, s, env, r, n, p⟩ := h
    simp only [evKs] at p
    exact p.here r r [] rfl .nil
  | .cons k v ks, H, S, h => by
    obtain ⟨U, M, s, env, r, n, p⟩ := h
    simp only [evKs] at p
    refine ⟨U, M, s, env, r, n, p.bind.mono fun x M1 H1 s1 t1 r1 p1 vk rk => ?_⟩
    refine ⟨U, M1, s1, env, r1, n.step t1, p1.bind.mono fun y M2 H2 s2 t2 r2 p2 vv ry => ?_⟩
    cases x with
    | ref i => exact p2.elim
    | exn _ _ => exact p2.elim
    | val kd =>
      cases y with
      | ref i => exact p2.elim
      | exn _ _ => exact p2.elim
      | val d =>
        cases hk : keyOf kd with
        | none =>
          simp only [hk] at p2
          exact p2.elim
        | some key =>
          cases hd : isDict d with
          | true =>
            simp only [hk, hd] at p2
            exact p2.elim
          | false =>
            simp only [hk, hd] at p2
            have ek := keyOf_kV rk hk
            subst ek
            exact ks_pairs (w := w) (K := K) (σ := σ) (ks := ks) (H := H2) (S := fun ps H' => S ((kV key, vv) :: ps) H') ⟨U, M2, s2, env, r2, (n.step t1).step t2, p2.bind.mono fun rr M3 H3 s3 t3 r3 p3 rr3 kvs hl hp =>
              p3.here r3 r3 ((key, vv) :: kvs) (congrArg Nat.succ hl) (.cons ⟨rfl, (RV.rp ry hd).step t3⟩ hp)⟩
/-- what stood out of reach becomes a thing of the state -/
theorem RelS.adopt {K : PySem.W.Frag} {U M : List Addr} {H : Hp} {s : Stk} {p : Addr} {ob : Ob} (r : RelS K (p :: U) M H s) (hu : p ∉ U) (h : RO K (M ++ (p :: U)) H p ob) : RelS K U (M ++ [p]) H (s ++ [ob]) ∧ Mv (M ++ (p :: U)) H ((M ++ [p]) ++ U) H := by
  have hM : p ∉ M := (r.un p (List.mem_cons_self ..)).1
  have mv : Mv (M ++ (p :: U)) H ((M ++ [p]) ++ U) H := Mv.less fun z hz => by
    simp only [List.mem_append, List.mem_cons, List.not_mem_nil, or_false] at hz ⊢
    rcases hz with (q | q) | q
    · exact .inl q
    · exact .inr (.inl q)
    · exact .inr (.inr q)
  have up : ∀ {q : Addr} {o : Ob}, RO K (M ++ (p :: U)) H q o → RO K ((M ++ [p]) ++ U) H q o := fun {q o} h => by
    cases o with
    | lst ys =>
      obtain ⟨us, h5, h6⟩ := h
      exact ⟨us, h5, h6.move mv⟩
    | dct kvs =>
      obtain ⟨us, h5, h6⟩ := h
      exact ⟨us, h5, Paired.mapP h6 fun p q z => ⟨z.1, z.2.move mv⟩⟩
  refine ⟨⟨fun u hu' => ⟨fun z => ?_, (r.un u (List.mem_cons_of_mem _ hu')).2⟩, ?_, by simp [r.len], fun i b o h3 h4 => ?_⟩, mv⟩
  · rcases List.mem_append.mp z with q | q
    · exact (r.un u (List.mem_cons_of_mem _ hu')).1 q
    · have : u = p := by simpa using q
      subst this
      exact hu hu'
  · rw [List.nodup_append]
    refine ⟨r.nd, by simp, fun x hx y hy => ?_⟩
    have : y = p := by simpa using hy
    subst this
    exact fun e => hM (e ▸ hx)
  · by_cases hi : i < M.length
    · rw [List.getElem?_append_left hi] at h3
      rw [List.getElem?_append_left (by rw [← r.len]; exact hi)] at h4
      exact up (r.ob i b o h3 h4)
    · rw [List.getElem?_append_right (by omega)] at h3
      rw [List.getElem?_append_right (by rw [← r.len]; omega)] at h4
      rw [← r.len] at h4
      cases q : i - M.length with
      | zero =>
        rw [q] at h3 h4
        simp at h3 h4
        subst h3
        subst h4
        exact up h
      | succ m =>
        rw [q] at h3
        simp at h3
theorem paired_merge {K : PySem.W.Frag} {A : List Addr} {H : Hp} : ∀ {vs acc : List (Key × V)} {kvs bcc : List (Key × PyData)}, Paired (fun (p : Key × V) (q : Key × PyData) => p.1 = q.1 ∧ Rp K A H p.2 q.2) vs kvs →
    Paired (fun (p : Key × V) (q : Key × PyData) => p.1 = q.1 ∧ Rp K A H p.2 q.2) acc bcc →
    Paired (fun (p : Key × V) (q : Key × PyData) => p.1 = q.1 ∧ Rp K A H p.2 q.2) (mergeK acc vs) (kvs.foldl (fun acc kv => dputK acc kv.1 kv.2) bcc)
  | _, _, _, _, .nil, h => h
  | _, _, _, _, .cons (a := p) (b := q) r t, h => by
    have h2 := paired_put (key := p.1) r.2 h
    have e : q.1 = p.1 := r.1.symm
    show Paired _ (mergeK (putK _ p.1 p.2) _) (List.foldl _ (dputK _ q.1 q.2) _)
    rw [e]
    exact paired_merge t h2
theorem x_dnew {keys : List (Option Expr)} {values : List Expr} {ks : Ks} (h : PPs X pos keys values (ksTrs X.w X.K ct Wx C ks)) (hall : keys.all (·.isSome) = true) (hl : keys.length = values.length) (h0 : keys ≠ []) (h15 : keys.length ≤ 15) (hks : ksLen ks ≤ 15) :
    PE X (.Dict keys values pos) (tE X.w X.K ct Wx C (.dnew ks)) := pei (pe_disp h hall hl h0 h15) fun σ H Q h => by
  obtain ⟨U, M, s, env, r, n, pp⟩ := h
  simp only [evE] at pp
  intro q hq
  refine ks_pairs ⟨q :: U, M, s, env, r.more hq, n.mv (mv_more hq), ?_⟩
  cases e : evKs C ks env s with
  | stuck =>
    rw [e] at pp
    exact pp.elim
  | exc c d s1 =>
    rw [e] at pp
    intro M' H' cls dd t r' x
    have t0 := (r.upd (o := .dK []) hq).2
    refine pp M' H' cls dd (t0.comp (r.upd hq).1 t) r'.less ?_
    obtain ⟨e1, x1, v, e2, h1, h2, h3⟩ := x
    exact ⟨e1, x1, v, e2, fun z => h1 (by
      rcases List.mem_append.mp z with z | z
      · exact List.mem_append_left _ z
      · exact List.mem_append_right _ (List.mem_cons_of_mem _ z)), h2, h3.move mv_less⟩
  | ok kvs s1 =>
    rw [e] at pp
    simp only [bind_ok] at pp
    intro M2 H2 t2 r2 _ vs hl hv
    have hM : q ∉ M := r.fresh0 hq
    have hq2 : H2 q = some (.dK []) := t2.keep q _ upd_same hM
    refine ⟨hq2, vs, rfl, by rw [hl]; exact hks, ?_⟩
    obtain ⟨r3, m3⟩ := r2.wr (o := .dK (mergeK [] vs))
    have hro : RO X.K (M2 ++ (q :: U)) (upd H2 q (.dK (mergeK [] vs))) q (.dct (mergeD kvs)) := ⟨_, upd_same, paired_merge (Paired.mapP hv fun p q z => ⟨z.1, z.2.move m3⟩) .nil⟩
    obtain ⟨r4, _⟩ := r3.adopt (notU r hq) hro
    have t0 := (r.upd (o := .dK []) hq).2
    have t02 := t0.comp (r.upd hq).1 t2
    have t4 : Step M H (M2 ++ [q]) (upd H2 q (.dK (mergeK [] vs))) := by
      obtain ⟨l, e1, hl'⟩ := t02.grow
      refine ⟨⟨l ++ [q], by rw [e1, List.append_assoc], fun b hb => ?_⟩, fun b o hb hbm => ?_⟩
      · rcases List.mem_append.mp hb with z | z
        · exact hl' b z
        · have : b = q := by simpa using z
          rw [this]
          exact hq
      · rw [upd_ne (ne_of_none hb hq)]
        exact t02.keep b o hb hbm
    refine pp _ _ t4 r4 (.ref q) ⟨q, ?_, rfl⟩
    rw [← r2.len, List.getElem?_append_right (Nat.le_refl _)]
    simp
theorem kk_nil {pos : Pos} : PPs X pos [] [] (ksTrs X.w X.K ct Wx C .nil) := pps_nil
theorem kk_cons {pos : Pos} {kx vx : Expr} {keys : List (Option Expr)} {values : List Expr} {ks : Ks} (hk : PE X kx (tE X.w X.K ct Wx C ea)) (hv : PE X vx (tE X.w X.K ct Wx C eb)) (hr : PPs X pos keys values (ksTrs X.w X.K ct Wx C ks)) :
    PPs X pos (some kx :: keys) (vx :: values) (ksTrs X.w X.K ct Wx C (.cons ea eb ks)) := pps_cons hk hv hr
end
end MP
set_option maxRecDepth 10000
/-! MPZip: zip of two: lists, tuples, texts. -/
namespace MP
open PySem PySem.Spec L2
open PyProof.Rows hiding St
theorem vals_getV : ∀ {xs : List V} {us : List Value} {j : Nat} {u : Value}, Vals xs us → us[j]? = some u → ∃ x, xs[j]? = some x ∧ L2.RelV x u
  | _, _, _, _, .nil, e => by simp at e
  | _, _, 0, _, .cons r _, e => by
    simp at e
    subst e
    exact ⟨_, rfl, r⟩
  | _, _, j + 1, _, .cons _ t, e => by
    obtain ⟨x, h1, h2⟩ := vals_getV (j := j) t (by simpa using e)
    exact ⟨x, by simpa using h1, h2⟩
/-- one side -/
inductive Sd where
  | lst (a : Addr) | tup (a : Addr) | str (z : Str)
def Sd.val : Sd → V
  | .lst a => .ref a
  | .tup a => .ref a
  | .str z => .str z
def Sd.adr : Sd → List Addr
  | .lst a => [a]
  | .tup a => [a]
  | .str _ => []
def Sd.has (K : PySem.W.Frag) (H : Hp) (xs : List V) : Sd → Prop
  | .lst a => SqL K H a xs
  | .tup a => SqT K H a xs
  | .str z => xs = z.cps.toList.map fun c => V.str ⟨#[c]⟩
def Sd.it (it : Addr) (i : Nat) (h : Heap) : Sd → Prop
  | .lst a => h.IsListIter it a i
  | .tup a => h.IsTupleIter it a i
  | .str z => ∃ t, h.IsStrIter it (strIterType z) z t i
theorem Sd.it_at {it : Addr} {i : Nat} {h h' : Heap} (k : ∀ o, h.get? it = some o → h'.get? it = some o) : ∀ {sd : Sd}, sd.it it i h → sd.it it i h'
  | .lst a, q => Heap.IsListIter.at q k
  | .tup a, q => Heap.IsTupleIter.at q k
  | .str z, q => by
    obtain ⟨t, o, e, c, d⟩ := q
    exact ⟨t, o, k o e, c, d⟩
theorem Sd.it_obj {it : Addr} {i : Nat} {h : Heap} : ∀ {sd : Sd}, sd.it it i h → ∃ o, h.get? it = some o ∧ ∀ v, o.data ≠ .cell v
  | .lst a, ⟨o, e, c, d⟩ => ⟨o, e, fun v z => by rw [d] at z; cases z⟩
  | .tup a, ⟨o, e, c, d⟩ => ⟨o, e, fun v z => by rw [d] at z; cases z⟩
  | .str z, ⟨t, o, e, c, d⟩ => ⟨o, e, fun v z => by rw [d] at z; cases z⟩
section
variable {X : Cx} {pins : List (Addr × Obj)} {σ : St} {H : Hp} {s : Shared}
theorem Sd.inj (I : Inv X pins σ H s) {xs ys : List V} : ∀ {sd : Sd}, sd.has X.K H xs → sd.has X.K H ys → xs = ys
  | .lst a, h, h' => I.list_inj h h'
  | .tup a, h, h' => I.tuple_inj h h'
  | .str z, h, h' => (show xs = _ from h).trans (show ys = _ from h').symm
theorem Sd.lt (I : Inv X pins σ H s) {xs : List V} : ∀ {sd : Sd}, sd.has X.K H xs → ∀ a ∈ sd.adr, a < s.heap.objs.size
  | .lst a, h, b, hb => by
    obtain ⟨its, rv, p, _⟩ := I.list h
    have e : b = a := by simpa [Sd.adr] using hb
    subst e
    exact p.lt
  | .tup a, h, b, hb => by
    obtain ⟨its, rv, ⟨o, e, _⟩, _⟩ := I.tuple h
    have e : b = a := by simpa [Sd.adr] using hb
    subst e
    exact Heap.lt_size (by assumption)
  | .str z, _, b, hb => by simp [Sd.adr] at hb
/-- what it draws -/
theorem Sd.draw (I : Inv X pins σ H s) (hh : X.A.handled = none) {xs : List V} {it : Addr} {i : Nat} : ∀ {sd : Sd}, it ∉ sd.adr → sd.has X.K H xs → sd.it it i s.heap → ∃ fp n P S, Draws X.prog X.w X.A.in1 it fp n P S ∧ S i s.heap ∧ n = xs.length ∧
    (∀ j v, P j v → ∃ x, xs[j]? = some x ∧ L2.RelV x v) ∧ (∀ j h, S j h → sd.it it j h) ∧ it ∈ fp ∧ ∀ b ∈ fp, b = it ∨ b ∈ sd.adr
  | .lst a, hn, h, q => by
    obtain ⟨its, rv, p, _⟩ := I.list h
    refine ⟨_, _, _, _, Draws.list (A := X.A.in1) hh it a (fun e => hn (by simp [Sd.adr, e])) its.toArray, ⟨q, p.isList⟩, by simp [rv.length], fun j v hv => ?_, fun j h s => s.1, by simp, fun b hb => by simpa [Sd.adr] using hb⟩
    exact vals_getV rv (by simpa using hv)
  | .tup a, hn, h, q => by
    obtain ⟨its, rv, p, _⟩ := I.tuple h
    refine ⟨_, _, _, _, Draws.tuple (A := X.A.in1) hh it a (fun e => hn (by simp [Sd.adr, e])) its.toArray, ⟨q, show s.heap.IsTuple a its.toArray from p⟩, by simp [rv.length], fun j v hv => ?_, fun j h s => s.1, by simp, fun b hb => by simpa [Sd.adr] using hb⟩
    exact vals_getV rv (by simpa using hv)
  | .str z, hn, h, q => by
    obtain ⟨t, q⟩ := q
    refine ⟨_, _, _, _, Draws.text (A := X.A.in1) hh it z t, q, by rw [show xs = _ from h]; simp, fun j v hv => ?_, fun j h s => ⟨t, s⟩, by simp, fun b hb => by simpa [Sd.adr] using hb⟩
    obtain ⟨c, u, h1, h2⟩ := hv
    refine ⟨.str ⟨#[c]⟩, ?_, u, h2⟩
    rw [show xs = _ from h]
    simp [h1]
/-- how it begins -/
theorem Sd.begin (I : Inv X pins σ H s) {xs : List V} {u : Value} : ∀ {sd : Sd}, sd.has X.K H xs → L2.RelV sd.val u → ∃ o G, Begins u o G ∧ G s.heap ∧ ∀ h it, h.get? it = some o → sd.it it 0 h
  | .lst a, h, r => by
    obtain ⟨its, rv, p, _⟩ := I.list h
    cases r
    exact ⟨_, _, begins_list a its.toArray, p.isList, fun h it e => ⟨_, e, rfl, rfl⟩⟩
  | .tup a, h, r => by
    obtain ⟨its, rv, p, _⟩ := I.tuple h
    cases r
    exact ⟨_, _, begins_tuple a its.toArray, show s.heap.IsTuple a its.toArray from p, fun h it e => ⟨_, e, rfl, rfl⟩⟩
  | .str z, h, r => by
    obtain ⟨t, rfl⟩ := r
    exact ⟨_, _, begins_text z t, trivial, fun h it e => ⟨t, _, e, rfl, rfl⟩⟩
end
/-- both sides, as they stand at each turn -/
def Itp (K : PySem.W.Frag) (A B : Sd) : It :=
  ⟨fun i H => ∃ (xs ys : List V) (x y : V), A.has K H xs ∧ B.has K H ys ∧ xs[i]? = some x ∧ ys[i]? = some y,
    fun i H v H' => ∃ T x y, v = .ref T ∧ H T = none ∧ H' = upd H T (.tup [x, y]) ∧ (∀ xs, A.has K H xs → xs[i]? = some x) ∧ ∀ ys, B.has K H ys → ys[i]? = some y,
    fun i H => ∃ xs ys : List V, A.has K H xs ∧ B.has K H ys ∧ i ≤ xs.length ∧ i ≤ ys.length ∧ (i = xs.length ∨ i = ys.length)⟩
/-- the places lie apart -/
structure Far (A B : Sd) (z TI TO i1 i2 : Addr) : Prop where
  a1 : i1 ∉ A.adr
  a2 : i2 ∉ A.adr
  az : z ∉ A.adr
  aT : TO ∉ A.adr
  b1 : i1 ∉ B.adr
  b2 : i2 ∉ B.adr
  bz : z ∉ B.adr
  bT : TO ∉ B.adr
  n12 : i1 ≠ i2
  z1 : z ≠ i1
  z2 : z ≠ i2
  T1 : TO ≠ i1
  T2 : TO ≠ i2
  TIz : TI ≠ z
  TOz : TO ≠ z
  TITO : TI ≠ TO
  TI1 : TI ≠ i1
  TI2 : TI ≠ i2
theorem Far.sep {A B : Sd} {z TI TO i1 i2 : Addr} {fp1 fp2 : List Addr} (D : Far A B z TI TO i1 i2) (m1 : i1 ∈ fp1) (m2 : i2 ∈ fp2) (s1 : ∀ b ∈ fp1, b = i1 ∨ b ∈ A.adr) (s2 : ∀ b ∈ fp2, b = i2 ∨ b ∈ B.adr) : ZipSep2 z TI TO i1 i2 fp1 fp2 where
  TIz := D.TIz
  TOz := D.TOz
  TITO := D.TITO
  TIi1 := D.TI1
  TIi2 := D.TI2
  mem1 := m1
  mem2 := m2
  zf1 := fun h => (s1 _ h).elim D.z1 D.az
  Tf1 := fun h => (s1 _ h).elim D.T1 D.aT
  zf2 := fun h => (s2 _ h).elim D.z2 D.bz
  Tf2 := fun h => (s2 _ h).elim D.T2 D.bT
  sep1_2 := fun h => (s2 _ h).elim D.n12 D.b1
  sep2_1 := fun h => (s1 _ h).elim (fun e => D.n12 e.symm) D.a2
theorem turn_pair {P : Program} {w : World} {K : PySem.W.Frag} {elts : List Expr} {kk : Nat} {tpos : Pos} {A B : Sd} {z TI TO i1 i2 : Addr} (D : Far A B z TI TO i1 i2) :
    Turn P w K (.Tuple elts kk tpos) (Itp K A B) [z, TI, TO, i1, i2] z (fun i h => IsZip h z TI TO .none ∧ IsTupOf2 h TI (.ref i1) (.ref i2) ∧ (∃ x y, IsTupOf2 h TO x y) ∧ A.it i1 i h ∧ B.it i2 i h) where
  mem := List.mem_cons_self ..
  obj := by
    rintro i h ⟨hz, hTI, ⟨x, y, hTO⟩, st1, st2⟩ c hc
    simp only [List.mem_cons, List.not_mem_nil, or_false] at hc
    rcases hc with rfl | rfl | rfl | rfl | rfl
    · exact ⟨_, hz, nofun⟩
    · exact ⟨_, hTI, nofun⟩
    · exact ⟨_, hTO, nofun⟩
    · exact Sd.it_obj st1
    · exact Sd.it_obj st2
  keep := by
    rintro i h h' ⟨hz, hTI, ⟨x, y, hTO⟩, st1, st2⟩ k
    exact ⟨k _ (by simp) _ hz, k _ (by simp) _ hTI, ⟨x, y, k _ (by simp) _ hTO⟩, Sd.it_at (k _ (by simp)) st1, Sd.it_at (k _ (by simp)) st2⟩
  item := by
    rintro X rfl rfl rfl hc i pins s σ H E I hf ⟨hz, hTI, ⟨x0, y0, hTO⟩, st1, st2⟩ ⟨xs, ys, x, y, hA, hB, hx, hy⟩
    obtain ⟨fp1, n1, P1, S1, D1, g1, e1, v1, k1, m1, b1⟩ := Sd.draw I (I.ok.hd hc) D.a1 hA st1
    obtain ⟨fp2, n2, P2, S2, D2, g2, e2, v2, k2, m2, b2⟩ := Sd.draw I (I.ok.hd hc) D.b2 hB st2
    have old : ∀ c ∈ [z, TI, TO, i1, i2], c < s.heap.objs.size := by
      intro c hc'
      simp only [List.mem_cons, List.not_mem_nil, or_false] at hc'
      rcases hc' with rfl | rfl | rfl | rfl | rfl
      · exact Heap.lt_size hz
      · exact Heap.lt_size hTI
      · exact Heap.lt_size hTO
      · obtain ⟨_, q, _⟩ := Sd.it_obj st1
        exact Heap.lt_size q
      · obtain ⟨_, q, _⟩ := Sd.it_obj st2
        exact Heap.lt_size q
    have hlt1 : i < n1 := by rw [e1]; exact (List.getElem?_eq_some_iff.mp hx).1
    have hlt2 : i < n2 := by rw [e2]; exact (List.getElem?_eq_some_iff.mp hy).1
    refine wpAny_pyNext_zipD2_item (D.sep m1 m2 b1 b2) D1 D2 hz hTI hTO g1 g2 hlt1 hlt2 fun u1 u2 h' tk q1 q2 hz' hTO' st1' st2' hT hsz hk => ?_
    obtain ⟨x', hx', rx⟩ := v1 _ _ q1
    obtain ⟨y', hy', ry⟩ := v2 _ _ q2
    rw [hx] at hx'
    rw [hy] at hy'
    cases hx'
    cases hy'
    refine ⟨_, rfl, wpAny_letOwnedTupleGo_zip (s := { s with heap := h', toks := tk }) hz' fun h'' hz'' sb => ?_⟩
    have all : ∀ c o, c ∉ [z, TI, TO, i1, i2] → s.heap.get? c = some o → h''.get? c = some o := fun c o hc' e => by
      simp only [List.mem_cons, List.not_mem_nil, or_false, not_or] at hc'
      exact (sb.2 c hc'.1).trans (hk c o hc'.1 hc'.2.2.1 hc'.2.2.2.1 hc'.2.2.2.2 e)
    have hT2 : h''.get? s.heap.objs.size = some { cls := .type "tuple", data := .seq #[u1, u2] } := (sb.2 _ (Nat.ne_of_gt (old z (by simp)))).trans hT
    have made : ObjOk X.prog X.w (upd H s.heap.objs.size (.tup [x, y])) h'' s.heap.objs.size (.tup [x, y]) := ⟨by show 2 ≤ sizeLine; decide, [u1, u2], .cons rx (.cons ry .nil), _, hT2, rfl, _, rfl⟩
    have I1 : Inv X pins σ (upd H s.heap.objs.size (.tup [x, y])) { s with heap := h'', toks := tk } := I.turnedNew (ch := [z, TI, TO, i1, i2]) all hf (Nat.le_refl _) made
    refine ⟨.ref s.heap.objs.size, _, I1, rfl, ⟨_, x, y, rfl, I.hok.fresh (Nat.le_refl _), rfl, fun l hl => ?_, fun l hl => ?_⟩, ⟨hz'', (sb.2 _ D.TIz).trans (hk _ _ D.TIz D.TITO D.TI1 D.TI2 hTI), ⟨u1, u2, (sb.2 _ D.TOz).trans hTO'⟩, ?_, ?_⟩, fun c hcm => ?_⟩
    · rw [Sd.inj I hl hA]
      exact hx
    · rw [Sd.inj I hl hB]
      exact hy
    · exact Sd.it_at (fun o q => (sb.2 _ (Ne.symm D.z1)).trans q) (k1 _ _ st1')
    · exact Sd.it_at (fun o q => (sb.2 _ (Ne.symm D.z2)).trans q) (k2 _ _ st2')
    · rw [upd_ne (Nat.ne_of_lt (old c hcm))]
      exact (hf c hcm).1
  done := by
    rintro X rfl rfl rfl hc i pins s σ H E I hf ⟨hz, hTI, ⟨x0, y0, hTO⟩, st1, st2⟩ ⟨xs, ys, hA, hB, l1, l2, hend⟩
    obtain ⟨fp1, n1, P1, S1, D1, g1, e1, v1, k1, m1, b1⟩ := Sd.draw I (I.ok.hd hc) D.a1 hA st1
    obtain ⟨fp2, n2, P2, S2, D2, g2, e2, v2, k2, m2, b2⟩ := Sd.draw I (I.ok.hd hc) D.b2 hB st2
    refine wpAny_pyNext_zipD2_end (D.sep m1 m2 b1 b2) D1 D2 hz hTI hTO g1 g2 (by rw [e1]; exact l1) (by rw [e2]; exact l2) (by rw [e1, e2]; exact hend) fun h' tk hk => ⟨rfl, I.turnedL (ch := [z, TI, TO, i1, i2]) (fun c o hc' e => ?_) hf⟩
    simp only [List.mem_cons, List.not_mem_nil, or_false, not_or] at hc'
    exact hk c o hc'.1 hc'.2.2.1 hc'.2.2.2.1 hc'.2.2.2.2 e
  self := fun A i s Q E st h => wpAny_pyIter_zip st.1 h
def iPair (K : PySem.W.Frag) (ta : TA) : TI := fun σ H R => ta σ H fun vs H1 => ∃ (A B : Sd) (xs ys : List V), vs = [A.val, B.val] ∧ A.has K H1 xs ∧ B.has K H1 ys ∧ R (Itp K A B) H1
section
variable {X : Cx} {ct : CT} {Wx : WX} {C : Callf} {a b : Expr} {ea eb : E} {p pos tpos : Pos} {elts : List Expr} {kk : Nat}
theorem pi_pair {ta : TA} (hg : Gl X "zip") (hm : X.mg "zip" = none) (ha : PA X [a, b] ta) (hs : starEach [a, b] X.env = (false, eval a X.env) :: starEach [b] X.env) (hpl : (backTo pos (starEach [b] X.env)).any (·.1) = false) :
    PI X (.Tuple elts kk tpos) (.Call (.Name "zip" p) [a, b] [] pos) (iPair X.K ta) := by
  constructor
  intro pins s σ H R I h
  refine Call_ (ld_blt I hg hm PyProof.Rows.boot_zip (PyProof.Rows.callWith_type1 (thn (ha.run pos pins s σ H _ I h) ?_) hs hpl))
  rintro us s1 ⟨vs, H1, I1, rel, A, B, xs, ys, rfl, hA, hB, q⟩
  obtain ⟨u1, u2, rfl, r1, r2⟩ := rel.two
  obtain ⟨o1, G1, B1, g1, k1⟩ := Sd.begin I1 hA r1
  obtain ⟨o2, G2, B2, g2, k2⟩ := Sd.begin I1 hB r2
  refine zip_begins2 B1 B2 g1 g2 fun h' hz hTI hTO c1 c2 hsz hk => wpAny_pyIter_zip hz ?_
  have la := Sd.lt I1 hA
  have lb := Sd.lt I1 hB
  have nA : ∀ n, s1.heap.objs.size + n ∉ A.adr := fun n z => Nat.not_lt.mpr (Nat.le_add_right _ n) (la _ z)
  have nB : ∀ n, s1.heap.objs.size + n ∉ B.adr := fun n z => Nat.not_lt.mpr (Nat.le_add_right _ n) (lb _ z)
  have far : Far A B (s1.heap.objs.size + 4) (s1.heap.objs.size + 2) (s1.heap.objs.size + 3) s1.heap.objs.size (s1.heap.objs.size + 1) := by
    constructor <;> first
      | exact nA _
      | exact nB _
      | exact nA 0
      | exact nB 0
      | (intro e; have e' := (show @Eq Nat _ _ from e); omega)
  refine ⟨_, _, _, _, H1, rfl, I1.kept (t' := s1.toks) hk, turn_pair far, ⟨hz, hTI, ⟨_, _, hTO⟩, k1 _ _ c1, k2 _ _ c2⟩, fun c hc => ?_, q⟩
  have up : s1.heap.objs.size ≤ c := by
    simp only [List.mem_cons, List.not_mem_nil, or_false] at hc
    rcases hc with rfl | rfl | rfl | rfl | rfl
    · exact Nat.le_add_right _ 4
    · exact Nat.le_add_right _ 2
    · exact Nat.le_add_right _ 3
    · exact Nat.le_refl _
    · exact Nat.le_add_right _ 1
  exact I1.fpOk up (I1.hok.fresh up)
theorem side_of {K : PySem.W.Frag} {A : List Addr} {H : Hp} {v : V} {d : PyData} {ds : List PyData} (rv : Rp K A H v d) (hd : walked d = some ds) : ∃ (sd : Sd), v = sd.val ∧ ∀ A' H', Mv A H A' H' → ∃ xs : List V, sd.has K H' xs ∧ RpAll K A' H' xs ds := by
  cases d with
  | list xs =>
    cases hd
    obtain ⟨a, vs, e, _, _⟩ := rv.sqL
    refine ⟨.lst a, e, fun A' H' m => ?_⟩
    obtain ⟨a', us, e', h3, h4⟩ := (rv.move m).sqL
    rw [e] at e'
    cases e'
    exact ⟨us, h3, h4⟩
  | tuple xs =>
    cases hd
    obtain ⟨a, vs, e, _, _⟩ := rv.sqT
    refine ⟨.tup a, e, fun A' H' m => ?_⟩
    obtain ⟨a', us, e', h3, h4⟩ := (rv.move m).sqT
    rw [e] at e'
    cases e'
    exact ⟨us, h3, h4⟩
  | str z =>
    cases hd
    obtain ⟨e, f⟩ := rv.strI
    refine ⟨.str z, e, fun A' H' m => ⟨_, rfl, ?_⟩⟩
    have all : ∀ l : List Nat, (∀ c ∈ l, strFit ⟨#[c]⟩ = true) → RpAll K A' H' (l.map fun c => V.str ⟨#[c]⟩) (l.map fun c => PyData.str ⟨#[c]⟩) := by
      intro l
      induction l with
      | nil => exact fun _ => .nil
      | cons c l ih => exact fun h => .cons (.str _ (h c (List.mem_cons_self ..))) (ih fun c hc => h c (List.mem_cons_of_mem _ hc))
    refine all _ fun c hc => ?_
    obtain ⟨i, hi⟩ := List.getElem?_of_mem hc
    exact strFit_one c z i f (by simpa using hi)
  | _ => cases hd
theorem zipD_len : ∀ xs ys : List PyData, (zipD xs ys).length = min xs.length ys.length
  | [], _ => by simp [zipD]
  | _ :: _, [] => by simp [zipD]
  | x :: xs, y :: ys => by
    simp only [zipD, List.length_cons, zipD_len xs ys]
    omega
theorem zipD_get : ∀ (xs ys : List PyData) (i : Nat) (d : PyData), (zipD xs ys)[i]? = some d → ∃ x y, xs[i]? = some x ∧ ys[i]? = some y ∧ d = .tuple [x, y]
  | [], _, _, _, h => by simp [zipD] at h
  | _ :: _, [], _, _, h => by simp [zipD] at h
  | x :: xs, y :: ys, 0, d, h => by
    simp [zipD] at h
    exact ⟨x, y, rfl, rfl, h.symm⟩
  | x :: xs, y :: ys, i + 1, d, h => zipD_get xs ys i d (by simpa [zipD] using h)
theorem i_zip (hg : Gl X "zip") (hm : X.mg "zip" = none) (ha : PE X a (tE X.w X.K ct Wx C ea)) (hb : PE X b (tE X.w X.K ct Wx C eb)) (hs : starEach [a, b] X.env = (false, eval a X.env) :: starEach [b] X.env) (hs2 : starEach [b] X.env = (false, eval b X.env) :: starEach [] X.env) :
    PI X (.Tuple elts kk tpos) (.Call (.Name "zip" p) [a, b] [] pos) (tI X.w X.K ct Wx C (.zip ea eb)) :=
  pii (pi_pair hg hm (pa_cons ha (pa_cons hb pa_nil hs2) hs) hs (by rw [hs2] <;> rfl)) fun σ H R h => by
    obtain ⟨U, M, s, env, r, n, p⟩ := h
    simp only [evI] at p
    refine ⟨U, M, s, env, r, n, p.bind.mono fun x M1 H1 s1 t1 r1 p1 v rv => ?_⟩
    refine ⟨U, M1, s1, env, r1, n.step t1, p1.bind.mono fun y M2 H2 s2 t2 r2 p2 u ru => ?_⟩
    have rv2 := rv.step t2
    cases x with
    | ref i => exact p2.elim
    | exn _ _ => exact p2.elim
    | val d =>
      cases y with
      | ref i => exact p2.elim
      | exn _ _ => exact p2.elim
      | val e =>
        cases hd : walked d with
        | none =>
          simp only [hd] at p2
          exact p2.elim
        | some xs =>
          cases he : walked e with
          | none =>
            simp only [hd, he] at p2
            exact p2.elim
          | some ys =>
            simp only [hd, he] at p2
            have nd : isDict d = false := by cases d <;> first | rfl | cases hd
            have ne : isDict e = false := by cases e <;> first | rfl | cases he
            obtain ⟨A, eA, kA⟩ := side_of (RV.rp rv2 nd) hd
            obtain ⟨B, eB, kB⟩ := side_of (RV.rp ru ne) he
            obtain ⟨vs, hA, _⟩ := kA _ _ (Mv.refl _ _)
            obtain ⟨us, hB, _⟩ := kB _ _ (Mv.refl _ _)
            refine ⟨A, B, vs, us, by rw [eA, eB], hA, hB, p2.here r2 _ fun A' H' m hall i => ?_⟩
            obtain ⟨vs', hA', rA⟩ := kA _ _ m
            obtain ⟨us', hB', rB⟩ := kB _ _ m
            refine ⟨fun e => ⟨vs', us', hA', hB', ?_⟩, fun d hd => ?_⟩
            · have l1 := rA.length
              have l2 := rB.length
              rw [zipD_len] at e
              omega
            · obtain ⟨x, y, h1, h2, rfl⟩ := zipD_get _ _ _ _ hd
              obtain ⟨x', hx, rx⟩ := rA.get h1
              obtain ⟨y', hy, ry⟩ := rB.get h2
              refine ⟨⟨vs', us', x', y', hA', hB', hx, hy⟩, fun v H2 yl => ?_⟩
              obtain ⟨T, x2, y2, rfl, hT, rfl, f1, f2⟩ := yl
              have g1 := f1 _ hA'
              have g2 := f2 _ hB'
              rw [hx] at g1
              rw [hy] at g2
              cases g1
              cases g2
              have hTA : T ∉ A' := fun z => by
                have := hall T z
                rw [hT] at this
                cases this
              have mv : Mv A' H' A' (upd H' T (.tup [x', y'])) := fun b o hb h => ⟨hb, by rw [upd_ne (ne_of_none h hT)]; exact h⟩
              exact ⟨.inr ⟨T, _, hT, rfl⟩, .tup hTA (.inl upd_same) (.cons (rx.move mv) (.cons (ry.move mv) .nil))⟩
end
end MP
set_option maxRecDepth 10000
/-! MPAug: name += e, name -= e over ints. -/
namespace MP
open PySem PySem.Spec L2
open PyProof.Rows hiding St
section
variable {X : Cx} {ct : CT} {Er : XK} {C : Callf} {e : Expr} {ea : E} {pos pos' : Pos} {x : Str} {i : Nat}
/-- the name's value less what comes -/
theorem sub_go {D : Ends} {σ : St} {H : Hp} (h : tS X.w X.K ct Er C (.asg (.name i) (.bin .sub (.var i) ea)) D σ H) : tAug i (tE X.w X.K ct (wE Er) C ea) (ipI fun i j => i - j) D σ H := by
  obtain ⟨U, M, s, env, r, n, p⟩ := h
  simp only [evS, evE] at p
  cases hv : env[i]? with
  | none =>
    simp only [hv] at p
    exact p.elim
  | some o =>
    cases o with
    | none =>
      simp only [hv] at p
      exact p.elim
    | some w =>
      simp only [hv, bind_ok] at p
      obtain ⟨v, h1, h2⟩ := n.at_ i w hv
      refine ⟨v, h1, U, M, s, env, r, n, p.bind.bind.mono fun y M1 H1 s1 t1 r1 p1 u ru => ?_⟩
      have hw := h2.step t1
      cases hx : w.view s1 with
      | none =>
        simp only [hx] at p1
        exact p1.elim
      | some d =>
        cases hy : y.view s1 with
        | none =>
          simp only [hx, hy] at p1
          exact p1.elim
        | some e =>
          simp only [hx, hy] at p1
          cases d with
          | int a =>
            cases e with
            | int b =>
              refine ⟨a, b, hw.intV r1 hx, ru.intV r1 hy, ?_⟩
              exact (p1.here r1).here r1 _ ((n.step t1).set (show RW ct X.w X.K U M1 H1 (.int (a - b)) (.val (.int (a - b))) from (.int _ : Rp X.K _ _ _ _)))
            | _ => exact p1.elim
          | _ => exact p1.elim
/-- the name's value and what comes -/
theorem add_go {D : Ends} {σ : St} {H : Hp} (h : tS X.w X.K ct Er C (.asg (.name i) (.bin .sub (.var i) (.neg ea))) D σ H) : tAug i (tE X.w X.K ct (wE Er) C ea) (ipI fun i j => i + j) D σ H := by
  obtain ⟨U, M, s, env, r, n, p⟩ := h
  simp only [evS, evE] at p
  cases hv : env[i]? with
  | none =>
    simp only [hv] at p
    exact p.elim
  | some o =>
    cases o with
    | none =>
      simp only [hv] at p
      exact p.elim
    | some w =>
      simp only [hv, bind_ok] at p
      obtain ⟨v, h1, h2⟩ := n.at_ i w hv
      refine ⟨v, h1, U, M, s, env, r, n, p.bind.bind.bind.mono fun y M1 H1 s1 t1 r1 p1 u ru => ?_⟩
      have hw := h2.step t1
      cases y with
      | ref k => exact p1.elim
      | exn _ _ => exact p1.elim
      | val e =>
        cases e with
        | int b =>
          replace p1 := p1.here r1
          simp only [view_val] at p1
          cases hx : w.view s1 with
          | none =>
            simp only [hx] at p1
            exact p1.elim
          | some d =>
            simp only [hx] at p1
            cases d with
            | int a =>
              refine ⟨a, b, hw.intV r1 hx, Rp.intI ru, ?_⟩
              have q := (p1.here r1).here r1 (σ.set i (some (.int (a - -b)))) ((n.step t1).set (show RW ct X.w X.K U M1 H1 (.int (a - -b)) (.val (.int (a - -b))) from (.int _ : Rp X.K _ _ _ _)))
              rw [Int.sub_neg] at q
              exact q
            | _ => exact p1.elim
        | _ => exact p1.elim
theorem s_augA (o : X.N.Nodup) (hi : X.N[i]? = some x) (hx : Loc X.env.scope x) (hf : X.fn x = true ∨ X.env.scope.names.lookup x = some .local) (he : PE X e (tE X.w X.K ct (wE Er) C ea)) :
    PS X (.AugAssign (.Name x pos') .Add e pos) (tS X.w X.K ct Er C (.asg (.name i) (.bin .sub (.var i) (.neg ea)))) := psi (ps_aug o hi hx he ip_add hf) fun D σ H h => add_go h
theorem s_augS (o : X.N.Nodup) (hi : X.N[i]? = some x) (hx : Loc X.env.scope x) (hf : X.fn x = true ∨ X.env.scope.names.lookup x = some .local) (he : PE X e (tE X.w X.K ct (wE Er) C ea)) :
    PS X (.AugAssign (.Name x pos') .Sub e pos) (tS X.w X.K ct Er C (.asg (.name i) (.bin .sub (.var i) ea))) := psi (ps_aug o hi hx he ip_sub hf) fun D σ H h => sub_go h
end
end MP
set_option maxRecDepth 10000
/-! MPHead: what is looked at behind the top: defs, free names, constants, tables. -/
namespace MP
open PySem PySem.Spec L2
open PyProof.Rows hiding St
def mapO {α β : Type} (f : α → Option β) : List α → Option (List β)
  | [] => some []
  | a :: r => match f a, mapO f r with
    | some b, some bs => some (b :: bs)
    | _, _ => none
/-- written data at a value -/
def gdV (K : PySem.W.Frag) : Nat → Value → Option PyData
  | _, .none => some .none
  | _, .bool b => some (.bool b)
  | _, .int i _ => some (.int i)
  | _, .str x _ => match strFit x with
    | true => some (.str x)
    | false => none
  | n + 1, .ref a => match K.lookup a with
    | some ⟨.type c, od, .seq its _, _⟩ => match mapO (gdV K n) its.toList, Nat.ble its.size 16000000 with
      | some ds, true => match decide (c = "tuple") with
        | true => some (.tuple ds)
        | false => match decide (c = "list"), od with
          | true, none => some (.list ds)
          | _, _ => none
      | _, _ => none
    | _ => none
  | _, _ => none
theorem mapO_ok {K : PySem.W.Frag} {f : Value → Option PyData} (hf : ∀ u d, f u = some d → ∃ v, L2.RelV v u ∧ ∀ A H, Rp K A H v d) : ∀ {l : List Value} {ds : List PyData}, mapO f l = some ds → ∃ vs, Vals vs l ∧ ∀ A H, RpAll K A H vs ds
  | [], _, e => by
    cases e
    exact ⟨[], .nil, fun _ _ => .nil⟩
  | u :: l, ds, e => by
    unfold mapO at e
    cases h1 : f u with
    | none =>
      rw [h1] at e
      cases e
    | some d =>
      cases h2 : mapO f l with
      | none =>
        rw [h1, h2] at e
        cases e
      | some bs =>
        rw [h1, h2] at e
        cases e
        obtain ⟨v, r1, r2⟩ := hf u d h1
        obtain ⟨vs, r3, r4⟩ := mapO_ok hf h2
        exact ⟨v :: vs, .cons r1 r3, fun A H => .cons (r2 A H) (r4 A H)⟩
theorem line16 : 16000000 ≤ sizeLine := by
  rw [sizeLine_eq]
  decide
theorem gdV_ok {K : PySem.W.Frag} : ∀ (n : Nat) (u : Value) (d : PyData), gdV K n u = some d → ∃ v, L2.RelV v u ∧ ∀ A H, Rp K A H v d := by
  intro n
  induction n with
  | zero =>
    intro u d e
    cases u with
    | none =>
      cases e
      exact ⟨.non, rfl, fun _ _ => .non⟩
    | bool b =>
      cases e
      exact ⟨.bl b, rfl, fun _ _ => .bl b⟩
    | int i t =>
      cases e
      exact ⟨.int i, ⟨t, rfl⟩, fun _ _ => .int i⟩
    | str x t =>
      unfold gdV at e
      cases h : strFit x with
      | true =>
        rw [h] at e
        cases e
        exact ⟨.str x, ⟨t, rfl⟩, fun _ _ => .str x h⟩
      | false =>
        rw [h] at e
        cases e
    | _ => cases e
  | succ n ih =>
    intro u d e
    cases u with
    | none =>
      cases e
      exact ⟨.non, rfl, fun _ _ => .non⟩
    | bool b =>
      cases e
      exact ⟨.bl b, rfl, fun _ _ => .bl b⟩
    | int i t =>
      cases e
      exact ⟨.int i, ⟨t, rfl⟩, fun _ _ => .int i⟩
    | str x t =>
      unfold gdV at e
      cases h : strFit x with
      | true =>
        rw [h] at e
        cases e
        exact ⟨.str x, ⟨t, rfl⟩, fun _ _ => .str x h⟩
      | false =>
        rw [h] at e
        cases e
    | ref a =>
      unfold gdV at e
      split at e
      · rename_i c od its m sl hk
        split at e
        · rename_i ds h1 h2
          obtain ⟨vs, r1, r2⟩ := mapO_ok ih h1
          have hz : its.size ≤ sizeLine := Nat.le_trans (Nat.le_of_ble_eq_true h2) line16
          split at e
          · rename_i h3
            cases e
            have hc : c = "tuple" := of_decide_eq_true h3
            subst hc
            exact ⟨.ref a, rfl, fun A H => .tupK (fun H' => .inr ⟨_, its, m, hk, rfl, rfl, hz, r1⟩) (r2 A H)⟩
          · split at e
            · rename_i h3
              cases e
              have hc : c = "list" := of_decide_eq_true h3
              subst hc
              exact ⟨.ref a, rfl, fun A H => .lstK (fun H' => .inr ⟨_, its, m, hk, rfl, rfl, rfl, hz, r1⟩) (r2 A H)⟩
            · cases e
        · cases e
      · cases e
    | _ => cases e
/-- a constant of the top -/
def gcon (K : PySem.W.Frag) (x : Str) : Option PyData := match PySem.W.nsIn K mainGlobals x with
  | some (some u) => gdV K 8 u
  | _ => none
theorem gcon_ok {K : PySem.W.Frag} {h : Heap} {mg : Str → Option Value} {x : Str} {d : PyData} (X : K.In h) (G : h.Ns mainGlobals mg) (e : gcon K x = some d) : ∃ u v, mg x = some u ∧ L2.RelV v u ∧ ∀ A H, Rp K A H v d := by
  unfold gcon at e
  split at e
  · rename_i u hu
    obtain ⟨v, h1, h2⟩ := gdV_ok 8 u d e
    exact ⟨u, v, PySem.W.mg_of X G hu, h1, h2⟩
  · cases e
/-- a table of the top -/
abbrev Row : Type := Option (Str × Int) × Option PyData
def gtab (K : PySem.W.Frag) (x : Str) : Option (List Row) := match K.lookup (He.ga K x) with
  | some ⟨.type c, none, .dict es _, sl⟩ => match decide (c = "dict") && (sl.isEmpty && !(He.ga K x == sysModules)) with
    | true => some (es.toList.map fun e => (He.keyOf e, gdV K 8 e.val))
    | false => none
  | _ => none
def vtab (P : Params) (kvs : List (Str × PyData)) : List Row := kvs.map fun q => (some (q.1, PyData.keyHash P q.1), some q.2)
theorem keyOf_isStr {e : DictEntry} {k : Str} {h : Int} (q : He.keyOf e = some (k, h)) (z : Str) : e.key.isStr z = decide (k = z) ∧ e.refKey = false := by
  unfold He.keyOf at q
  split at q
  · rename_i x t hx
    cases q
    unfold DictEntry.refKey
    rw [hx]
    refine ⟨?_, rfl⟩
    show (k == z) = _
    by_cases hz : k = z
    · subst hz
      simp
    · rw [decide_eq_false hz]
      exact beq_eq_false_iff_ne.mpr hz
  · cases q
theorem tab_find {K : PySem.W.Frag} {P : Params} {z : Str} : ∀ {es : List DictEntry} {kvs : List (Str × PyData)}, es.map (fun e => (He.keyOf e, gdV K 8 e.val)) = vtab P kvs →
    (kvs.lookup z = none ∧ es.find? (fun e => e.key.isStr z) = none ∧ es.any (·.refKey) = false) ∨ ∃ d e, kvs.lookup z = some d ∧ es.find? (fun e => e.key.isStr z) = some e ∧ gdV K 8 e.val = some d
  | [], [], _ => .inl ⟨rfl, rfl, rfl⟩
  | [], _ :: _, h => by cases h
  | _ :: _, [], h => by cases h
  | e :: es, q :: kvs, h => by
    have h1 : (He.keyOf e, gdV K 8 e.val) :: es.map (fun e => (He.keyOf e, gdV K 8 e.val)) = (some (q.1, PyData.keyHash P q.1), some q.2) :: vtab P kvs := h
    injection h1 with h2 h3
    obtain ⟨h4, h5⟩ := Prod.mk.inj h2
    obtain ⟨h6, h7⟩ := keyOf_isStr h4 z
    rw [List.find?_cons, h6, List.any_cons, h7]
    obtain ⟨k, d⟩ := q
    by_cases hk : k = z
    · refine .inr ⟨d, e, ?_, ?_, h5⟩
      · rw [List.lookup_cons, show (z == k) = true from by rw [hk]; simp]
      · rw [decide_eq_true hk]
    · rw [show decide ((k, d).1 = z) = false from decide_eq_false hk]
      have hl : ((k, d) :: kvs).lookup z = kvs.lookup z := by
        rw [List.lookup_cons, show (z == k) = false from beq_eq_false_iff_ne.mpr (Ne.symm hk)]
      rw [hl]
      rcases tab_find (z := z) h3 with ⟨a1, a2, a3⟩ | ⟨d', e', a1, a2, a3⟩
      · exact .inl ⟨a1, a2, by rw [a3]; rfl⟩
      · exact .inr ⟨d', e', a1, a2, a3⟩
theorem gtab_ok {K : PySem.W.Frag} {w : World} {x : Str} {kvs : List (Str × PyData)} (h : gtab K x = some (vtab w.params kvs)) : KT K w (He.ga K x) kvs := by
  have hd : He.dicW K (He.ga K x) = some (He.keysIn w.params (kvs.map (·.1))) := by
    unfold gtab at h
    unfold He.dicW
    split at h
    · rename_i c es m sl hk
      split at h
      · rename_i hc
        have e := Option.some.inj h
        have e2 := congrArg (List.map Prod.fst) e
        unfold vtab at e2
        simp only [List.map_map] at e2
        have e3 : es.toList.map He.keyOf = He.keysIn w.params (kvs.map (·.1)) := by
          unfold He.keysIn
          rw [List.map_map]
          exact e2
        rw [← e3]
        try rw [hk]
        simp only [hc]
      · cases h
    · cases h
  refine ⟨He.dicW_ok hd, fun z => ?_⟩
  unfold gtab at h
  split at h
  · rename_i c es m sl hk
    split at h
    · rename_i hc
      have e := Option.some.inj h
      have hn : PySem.W.nsIn K (He.ga K x) z = match es.toList.find? (·.key.isStr z) with
        | some e => some (some e.val)
        | none => if es.toList.any (·.refKey) then none else some none := by
        unfold PySem.W.nsIn
        rw [hk] <;> rfl
      rcases tab_find (z := z) e with ⟨a1, a2, a3⟩ | ⟨d, en, a1, a2, a3⟩
      · refine .inl ⟨a1, ?_⟩
        rw [hn, a2]
        simp only
        rw [a3]
        rfl
      · obtain ⟨v, r1, r2⟩ := gdV_ok 8 _ _ a3
        refine .inr ⟨d, en.val, v, a1, ?_, r1, r2⟩
        rw [hn, a2]
    · cases h
  · cases h
/-! ### the Hook -/
abbrev Al : Type := He.AlD × List (Option PyData) × List (Option (List Row))
def obsK (fa : List He.Fa) (fn : List He.DefD) (cs ts : List Str) (K : PySem.W.Frag) : Al := (He.obsD fa fn K, cs.map (gcon K), ts.map (gtab K))
def valK (fn : List He.DefD) (cs : List PyData) (ts : List (List (Str × PyData))) (w : World) : Al := (He.valD fn, cs.map some, ts.map fun t => some (vtab w.params t))
def obsKG (n : Nat) (fa : List He.Fa) (fn : List He.DefD) (cs ts : List Str) (g : Addr → Option Obj) : Al := obsK fa fn cs ts (He.frG g (He.asD g n))
def hookK (n : Nat) (fa : List He.Fa) (fn : List He.DefD) (cs : List (Str × PyData)) (ts : List (Str × List (Str × PyData))) : PySem.W.Hook where
  α := Al
  obs := fun s => obsKG n fa fn (cs.map Prod.fst) (ts.map Prod.fst) s.heap.get?
  val := fun w => valK fn (cs.map Prod.snd) (ts.map Prod.snd) w
  says := fun w h => ∃ K : PySem.W.Frag, K.In h ∧ obsK fa fn (cs.map Prod.fst) (ts.map Prod.fst) K = valK fn (cs.map Prod.snd) (ts.map Prod.snd) w
  of := fun _ _ e => ⟨_, He.frG_in, e⟩
  keeps := fun _ _ _ ⟨K, hK, c⟩ k => ⟨K, PySem.W.Frag.In.keeps hK k, c⟩
theorem obsKG_eq {n : Nat} {fa : List He.Fa} {fn : List He.DefD} {cs : List (Str × PyData)} {ts : List (Str × List (Str × PyData))} {g : Addr → Option Obj} {s : Shared} (h : ∀ a, g a = s.heap.get? a) : obsKG n fa fn (cs.map Prod.fst) (ts.map Prod.fst) g = (show Al from (hookK n fa fn cs ts).obs s) := by
  have e : g = s.heap.get? := funext h
  rw [e] <;> rfl
section
variable {fa : List He.Fa} {fn : List He.DefD} {cs : List (Str × PyData)} {ts : List (Str × List (Str × PyData))} {w : World} {K : PySem.W.Frag}
theorem saysD (c : obsK fa fn (cs.map Prod.fst) (ts.map Prod.fst) K = valK fn (cs.map Prod.snd) (ts.map Prod.snd) w) : He.SaysD fa fn K := congrArg (fun z : Al => z.1) c
theorem saysC (c : obsK fa fn (cs.map Prod.fst) (ts.map Prod.fst) K = valK fn (cs.map Prod.snd) (ts.map Prod.snd) w) (i : Nat) {q : Str × PyData} (h : cs[i]? = some q) : gcon K q.1 = some q.2 := by
  have e : (cs.map Prod.fst).map (gcon K) = (cs.map Prod.snd).map some := congrArg (fun z : Al => z.2.1) c
  have e2 := congrArg (fun l => l[i]?) e
  simp only [List.getElem?_map, h, Option.map_some] at e2
  exact Option.some.inj e2
theorem saysT (c : obsK fa fn (cs.map Prod.fst) (ts.map Prod.fst) K = valK fn (cs.map Prod.snd) (ts.map Prod.snd) w) (i : Nat) {q : Str × List (Str × PyData)} (h : ts[i]? = some q) : KT K w (He.ga K q.1) q.2 := by
  have e : (ts.map Prod.fst).map (gtab K) = (ts.map Prod.snd).map fun t => some (vtab w.params t) := congrArg (fun z : Al => z.2.2) c
  have e2 := congrArg (fun l => l[i]?) e
  simp only [List.getElem?_map, h, Option.map_some] at e2
  exact gtab_ok (Option.some.inj e2)
end
end MP
set_option maxRecDepth 10000
/-! MPGlue: the rules as a def's derivation uses them. -/
namespace MP
open PySem PySem.Spec L2
open PyProof.Rows hiding St
/-- what is known of the module's names -/
structure Facts (mg : Str → Option Value) (K : PySem.W.Frag) (w : World) (fr : List Str) (cs : List (Str × PyData)) (ts : List (Str × List (Str × PyData))) : Prop where
  fre : ∀ (i : Nat) (x : Str), fr[i]? = some x → mg x = none
  con : ∀ (i : Nat) (x : Str) (d : PyData), cs[i]? = some (x, d) → ∃ u v, mg x = some u ∧ L2.RelV v u ∧ ∀ A H, Rp K A H v d
  tab : ∀ (i : Nat) (x : Str) (kvs : List (Str × PyData)), ts[i]? = some (x, kvs) → ∃ a, mg x = some (.ref a) ∧ KT K w a kvs
section
variable {X : Cx} {ct : CT} {Wx : WX} {C : Callf} {a b c e : Expr} {es : List Expr} {ea eb ec : E} {ees : Es} {pos p p2 : Pos} {k n : Nat} {x : Str} {i : Nat} {fr : List Str} {cs : List (Str × PyData)} {ts : List (Str × List (Str × PyData))} {id T : String}
theorem x_con {d : PyData} (F : Facts X.mg X.K X.w fr cs ts) (i : Nat) (h : cs[i]? = some (x, d)) (hg : Gl X x) (hd : (x == ("__debug__" : Str)) = false) : PE X (.Name x pos) (tE X.w X.K ct Wx C (.cst d)) := by
  obtain ⟨u, v, h1, h2, h3⟩ := F.con i x d h
  exact x_cst (pe_glob hg h1 h2 hd) fun U M H => (h3 (M ++ U) H).rv
theorem x_ty {T : String} (hg : Gl X x) (hm : X.mg x = none) (hv : bootBuiltins x = some (.type T)) (hn : x ≠ "__name__") (hd : (x == ("__debug__" : Str)) = false) : PE X (.Name x pos) (tC (.ty T)) := ⟨fun pins s σ H Q I h => ld_blt I hg hm hv ⟨.ty T, H, I, rfl, h⟩ hn hd⟩
/-! tables -/
theorem x_kinF {kvs : List (Str × PyData)} (F : Facts X.mg X.K X.w fr cs ts) (i : Nat) (h : ts[i]? = some (x, kvs)) (hg : Gl X x) (hd : (x == ("__debug__" : Str)) = false) (hb : PE X b (tE X.w X.K ct Wx C eb)) (hm : behindInMarks .In (.Name x p) = false) : PE X (.Compare b [.In] [.Name x p] pos) (tE X.w X.K ct Wx C (.kin kvs eb)) := by
  obtain ⟨a, h1, h2⟩ := F.tab i x kvs h
  exact x_kin h2 (pe_glob hg h1 rfl hd) hb hm
theorem x_kninF {kvs : List (Str × PyData)} (F : Facts X.mg X.K X.w fr cs ts) (i : Nat) (h : ts[i]? = some (x, kvs)) (hg : Gl X x) (hd : (x == ("__debug__" : Str)) = false) (hb : PE X b (tE X.w X.K ct Wx C eb)) (hm : behindInMarks .NotIn (.Name x p) = false) : PE X (.Compare b [.NotIn] [.Name x p] pos) (tE X.w X.K ct Wx C (.knin kvs eb)) := by
  obtain ⟨a, h1, h2⟩ := F.tab i x kvs h
  exact x_knin h2 (pe_glob hg h1 rfl hd) hb hm
theorem x_kinFT {kvs : List (Str × PyData)} (F : Facts X.mg X.K X.w fr cs ts) (i : Nat) (h : ts[i]? = some (x, kvs)) (hg : Gl X x) (hd : (x == ("__debug__" : Str)) = false) (hb : PE X b (tE X.w X.K ct Wx C eb)) (hm : behindInMarks .In (.Name x p) = false) : PT X (.Compare b [.In] [.Name x p] pos) (tT X.w X.K ct Wx C (.val (.kin kvs eb))) := by
  obtain ⟨a, h1, h2⟩ := F.tab i x kvs h
  exact x_kinT h2 (pe_glob hg h1 rfl hd) hb hm
theorem x_kninFT {kvs : List (Str × PyData)} (F : Facts X.mg X.K X.w fr cs ts) (i : Nat) (h : ts[i]? = some (x, kvs)) (hg : Gl X x) (hd : (x == ("__debug__" : Str)) = false) (hb : PE X b (tE X.w X.K ct Wx C eb)) (hm : behindInMarks .NotIn (.Name x p) = false) : PT X (.Compare b [.NotIn] [.Name x p] pos) (tT X.w X.K ct Wx C (.val (.knin kvs eb))) := by
  obtain ⟨a, h1, h2⟩ := F.tab i x kvs h
  exact x_kninT h2 (pe_glob hg h1 rfl hd) hb hm
theorem x_kgetF {kvs : List (Str × PyData)} (F : Facts X.mg X.K X.w fr cs ts) (i : Nat) (h : ts[i]? = some (x, kvs)) (hg : Gl X x) (hd : (x == ("__debug__" : Str)) = false) (hb : PE X b (tE X.w X.K ct Wx C eb)) (hs : NoSl b) : PE X (.Subscript (.Name x p) b pos) (tE X.w X.K ct Wx C (.kget kvs eb)) := by
  obtain ⟨a, h1, h2⟩ := F.tab i x kvs h
  exact x_kget h2 (pe_glob hg h1 rfl hd) hb hs
/-- a comparison as a test that stands as a value -/
theorem x_valT (he : PE X a (tE X.w X.K ct Wx C ea)) (ht : ∀ whole, isTrue a X.env whole = (do let v ← whole; standAt a.pos; holding [v] (truthy v))) : PT X a (tT X.w X.K ct Wx C (.val ea)) := x_tru he ht
/-! built-ins -/
theorem x_len (F : Facts X.mg X.K X.w fr cs ts) (o : XOk X k Wx) (i : Nat) (h : fr[i]? = some "len") (hg : Gl X "len") (ha : PE X a (tE X.w X.K ct Wx C ea)) (he : starEach [a] X.env = (false, eval a X.env) :: starEach [] X.env) :
    PE X (.Call (.Name "len" p) [a] [] pos) (tE X.w X.K ct Wx C (.bi .len (.cons ea .nil))) :=
  x_biB (vop_bi .len o.calm rfl) hg (F.fre i _ h) (by decide +kernel) (xs_cons ha xs_nil he) (by decide) (by decide) he rfl
theorem x_bI (F : Facts X.mg X.K X.w fr cs ts) (o : XOk X k Wx) (i : Nat) (h : fr[i]? = some "int") (hg : Gl X "int") (ha : PE X a (tE X.w X.K ct Wx C ea)) (he : starEach [a] X.env = (false, eval a X.env) :: starEach [] X.env) :
    PE X (.Call (.Name "int" p) [a] [] pos) (tE X.w X.K ct Wx C (.bi .int (.cons ea .nil))) :=
  x_biT (vop_bi .int o.calm rfl) hg (F.fre i _ h) (by decide +kernel) (xs_cons ha xs_nil he) (by decide) (by decide) he rfl
theorem x_bT (F : Facts X.mg X.K X.w fr cs ts) (o : XOk X k Wx) (i : Nat) (h : fr[i]? = some "tuple") (hg : Gl X "tuple") (ha : PE X a (tE X.w X.K ct Wx C ea)) (he : starEach [a] X.env = (false, eval a X.env) :: starEach [] X.env) :
    PE X (.Call (.Name "tuple" p) [a] [] pos) (tE X.w X.K ct Wx C (.bi .tuple (.cons ea .nil))) :=
  x_biT (vop_bi .tuple o.calm rfl) hg (F.fre i _ h) (by decide +kernel) (xs_cons ha xs_nil he) (by decide) (by decide) he rfl
theorem x_bAbs (F : Facts X.mg X.K X.w fr cs ts) (o : XOk X k Wx) (i : Nat) (h : fr[i]? = some "abs") (hg : Gl X "abs") (ha : PE X a (tE X.w X.K ct Wx C ea)) (he : starEach [a] X.env = (false, eval a X.env) :: starEach [] X.env) :
    PE X (.Call (.Name "abs" p) [a] [] pos) (tE X.w X.K ct Wx C (.bi .abs (.cons ea .nil))) :=
  x_biB (vop_bi .abs o.calm rfl) hg (F.fre i _ h) (by decide +kernel) (xs_cons ha xs_nil he) (by decide) (by decide) he rfl
theorem x_bAll (F : Facts X.mg X.K X.w fr cs ts) (o : XOk X k Wx) (i : Nat) (h : fr[i]? = some "all") (hg : Gl X "all") (ha : PE X a (tE X.w X.K ct Wx C ea)) (he : starEach [a] X.env = (false, eval a X.env) :: starEach [] X.env) :
    PE X (.Call (.Name "all" p) [a] [] pos) (tE X.w X.K ct Wx C (.bi .all (.cons ea .nil))) :=
  x_biB (vop_bi .all o.calm rfl) hg (F.fre i _ h) (by decide +kernel) (xs_cons ha xs_nil he) (by decide) (by decide) he rfl
theorem x_bAny (F : Facts X.mg X.K X.w fr cs ts) (o : XOk X k Wx) (i : Nat) (h : fr[i]? = some "any") (hg : Gl X "any") (ha : PE X a (tE X.w X.K ct Wx C ea)) (he : starEach [a] X.env = (false, eval a X.env) :: starEach [] X.env) :
    PE X (.Call (.Name "any" p) [a] [] pos) (tE X.w X.K ct Wx C (.bi .any (.cons ea .nil))) :=
  x_biB (vop_bi .any o.calm rfl) hg (F.fre i _ h) (by decide +kernel) (xs_cons ha xs_nil he) (by decide) (by decide) he rfl
theorem x_bSum (F : Facts X.mg X.K X.w fr cs ts) (o : XOk X k Wx) (i : Nat) (h : fr[i]? = some "sum") (hg : Gl X "sum") (ha : PE X a (tE X.w X.K ct Wx C ea)) (he : starEach [a] X.env = (false, eval a X.env) :: starEach [] X.env) :
    PE X (.Call (.Name "sum" p) [a] [] pos) (tE X.w X.K ct Wx C (.bi .sum (.cons ea .nil))) :=
  x_biB (vop_bi .sum o.calm rfl) hg (F.fre i _ h) (by decide +kernel) (xs_cons ha xs_nil he) (by decide) (by decide) he rfl
theorem x_bRepr (F : Facts X.mg X.K X.w fr cs ts) (o : XOk X k Wx) (i : Nat) (h : fr[i]? = some "repr") (hg : Gl X "repr") (ha : PE X a (tE X.w X.K ct Wx C ea)) (he : starEach [a] X.env = (false, eval a X.env) :: starEach [] X.env) :
    PE X (.Call (.Name "repr" p) [a] [] pos) (tE X.w X.K ct Wx C (.bi .repr (.cons ea .nil))) :=
  x_biB (vop_repr o.gs o.hu) hg (F.fre i _ h) (by decide +kernel) (xs_cons ha xs_nil he) (by decide) (by decide) he rfl
theorem x_bMin (F : Facts X.mg X.K X.w fr cs ts) (o : XOk X k Wx) (i : Nat) (h : fr[i]? = some "min") (hg : Gl X "min") (ha : PE X a (tE X.w X.K ct Wx C ea)) (hb : PE X b (tE X.w X.K ct Wx C eb)) (he : starEach [a, b] X.env = (false, eval a X.env) :: starEach [b] X.env) (he2 : starEach [b] X.env = (false, eval b X.env) :: starEach [] X.env) :
    PE X (.Call (.Name "min" p) [a, b] [] pos) (tE X.w X.K ct Wx C (.bi .min2 (.cons ea (.cons eb .nil)))) :=
  x_biB (vop_bi .min2 o.calm rfl) hg (F.fre i _ h) (by decide +kernel) (xs_cons ha (xs_cons hb xs_nil he2) he) (by decide) (by decide) he (by rw [he2] <;> rfl)
theorem x_bMax (F : Facts X.mg X.K X.w fr cs ts) (o : XOk X k Wx) (i : Nat) (h : fr[i]? = some "max") (hg : Gl X "max") (ha : PE X a (tE X.w X.K ct Wx C ea)) (hb : PE X b (tE X.w X.K ct Wx C eb)) (he : starEach [a, b] X.env = (false, eval a X.env) :: starEach [b] X.env) (he2 : starEach [b] X.env = (false, eval b X.env) :: starEach [] X.env) :
    PE X (.Call (.Name "max" p) [a, b] [] pos) (tE X.w X.K ct Wx C (.bi .max2 (.cons ea (.cons eb .nil)))) :=
  x_biB (vop_bi .max2 o.calm rfl) hg (F.fre i _ h) (by decide +kernel) (xs_cons ha (xs_cons hb xs_nil he2) he) (by decide) (by decide) he (by rw [he2] <;> rfl)
theorem x_isi (F : Facts X.mg X.K X.w fr cs ts) (t : Ty) (i j : Nat) (h : fr[i]? = some "isinstance") (h2 : fr[j]? = some (Str.ofString (tyN t))) (hg : Gl X "isinstance") (hg2 : Gl X (Str.ofString (tyN t))) (ha : PE X a (tE X.w X.K ct Wx C ea))
    (he : starEach [a, .Name (Str.ofString (tyN t)) p2] X.env = (false, eval a X.env) :: starEach [.Name (Str.ofString (tyN t)) p2] X.env) (he2 : starEach [.Name (Str.ofString (tyN t)) p2] X.env = (false, eval (.Name (Str.ofString (tyN t)) p2) X.env) :: starEach [] X.env) :
    PE X (.Call (.Name "isinstance" p) [a, .Name (Str.ofString (tyN t)) p2] [] pos) (tE X.w X.K ct Wx C (.bi (.isa t) (.cons ea .nil))) := by
  have hb : bootBuiltins (Str.ofString (tyN t)) = some (.type (tyN t)) := by cases t <;> decide +kernel
  have hn : Str.ofString (tyN t) ≠ "__name__" := by cases t <;> decide +kernel
  have hd : (Str.ofString (tyN t) == ("__debug__" : Str)) = false := by cases t <;> decide +kernel
  exact x_isa (F.fre i _ h) hg (x_ty hg2 (F.fre j _ h2) hb hn hd) ha he he2
theorem n_listF (F : Facts X.mg X.K X.w fr cs ts) (i : Nat) (h : fr[i]? = some "list") (hg : Gl X "list") (ha : PE X a (tE X.w X.K ct Wx C ea)) (he : starEach [a] X.env = (false, eval a X.env) :: starEach [] X.env) :
    PE X (.Call (.Name "list" p) [a] [] pos) (tNw X.w X.K ct Wx C (.list ea)) := n_list (F.fre i _ h) hg ha he
/-! calls -/
variable {sig : List Sig} {PT : List Fd} {fa : Nat → Addr} {fv : Nat → FuncData} {g : Sig}
theorem x_callL (g : Sig) (i : Nat) (o : XOk X k Wx) (L : Lev X.prog X.w X.K X.mg X.base ct sig PT fa fv k n) (h : sig[i]? = some g) (hg : Gl X g.1) (hl : esLen ees = g.2.1.length) (ha : PA X (e :: es) (tEs X.w X.K ct Wx (callAt PT n) ees)) (hdb : (g.1 == ("__debug__" : Str)) = false)
    (he : starEach (e :: es) X.env = (false, eval e X.env) :: starEach es X.env) (hpl : (backTo pos (starEach es X.env)).any (·.1) = false) : PE X (.Call (.Name g.1 p) (e :: es) [] pos) (tE X.w X.K ct Wx (callAt PT n) (.call i ees)) :=
  x_call o (L i g h).2 hg (L i g h).1.mg (L i g h).1.fn.kp (L i g h).1.bn hl ha hdb he hpl
theorem x_callL0 (g : Sig) (i : Nat) (o : XOk X k Wx) (L : Lev X.prog X.w X.K X.mg X.base ct sig PT fa fv k n) (h : sig[i]? = some g) (hg : Gl X g.1) (hl : g.2.1 = []) (hdb : (g.1 == ("__debug__" : Str)) = false) : PE X (.Call (.Name g.1 p) [] [] pos) (tE X.w X.K ct Wx (callAt PT n) (.call i .nil)) :=
  x_call0 o (L i g h).2 hg (L i g h).1.mg (L i g h).1.fn.kp (L i g h).1.bn hl hdb
theorem n_callL (g : Sig) (i : Nat) (o : XOk X k Wx) (L : Lev X.prog X.w X.K X.mg X.base ct sig PT fa fv k n) (h : sig[i]? = some g) (hg : Gl X g.1) (hl : esLen ees = g.2.1.length) (ha : PA X (e :: es) (tEs X.w X.K ct Wx (callAt PT n) ees)) (hdb : (g.1 == ("__debug__" : Str)) = false)
    (he : starEach (e :: es) X.env = (false, eval e X.env) :: starEach es X.env) (hpl : (backTo pos (starEach es X.env)).any (·.1) = false) : PE X (.Call (.Name g.1 p) (e :: es) [] pos) (tNw X.w X.K ct Wx (callAt PT n) (.call i ees)) :=
  n_call o (L i g h).2 hg (L i g h).1.mg (L i g h).1.fn.kp (L i g h).1.bn hl ha hdb he hpl
theorem bindsP_of {K : PySem.W.Frag} {q : Str} {params : Arguments} {body : List Stmt} {scope : Scope} {f : Addr} {fd : FuncData} {ps ks : List Str} {m : Nat} {perm : List Nat} (F : FunD K x q params body scope [] [] f fd)
    (h : ∀ (kV doc pm : Value) (an : Option Addr) (cdv ct : Value) (us ws : List Value), us.length = m → ws.length = ks.length → bindArgs (PySem.W.fnOf x q params body scope .none kV doc pm an cdv ct) ⟨us, ks.zip ws⟩ = pure (ps.zip (pick perm (us ++ ws)))) : BindsP K fd ps m ks perm := fun s us ws _ h1 h2 => by
  obtain ⟨oc, od, dV, kV, doc, pm, an, cdv, ct, osl, rfl, lk, hcd, hD, hK⟩ := F.ex
  rcases hD with ⟨_, rfl⟩ | ⟨e, _⟩
  · exact .of_eq (h kV doc pm an cdv ct us ws h1 h2)
  · exact absurd rfl e
theorem x_callKL (g : Sig) (i : Nat) (ks : List Str) (perm : List Nat) {kws : List Keyword} {eks : Es} (o : XOk X k Wx) (L : Lev X.prog X.w X.K X.mg X.base ct sig PT fa fv k n) (h : sig[i]? = some g) (hg : Gl X g.1)
    (hb : ∀ (kV doc pm : Value) (an : Option Addr) (cdv cc : Value) (us ws : List Value), us.length = esLen ees → ws.length = ks.length → bindArgs (PySem.W.fnOf g.1 g.1 (defArgs g.2.2) (defBody g.2.2) (defScope g.2.2) .none kV doc pm an cdv cc) ⟨us, ks.zip ws⟩ = pure (g.2.1.zip (pick perm (us ++ ws))))
    (hl : (pick perm (List.range (esLen ees + esLen eks))).length = g.2.1.length) (hlk : esLen eks = ks.length) (ha : PA X (e :: es) (tEs X.w X.K ct Wx (callAt PT n) ees)) (hkw : PK X kws (tEs X.w X.K ct Wx (callAt PT n) eks))
    (hall : (backToKw pos (keywordEach kws X.env)).all (·.1.isSome) = true) (hks : (backToKw pos (keywordEach kws X.env)).filterMap (·.1) = ks) (hdb : (g.1 == ("__debug__" : Str)) = false)
    (he : starEach (e :: es) X.env = (false, eval e X.env) :: starEach es X.env) (hpl : ((backTo pos (starEach (e :: es) X.env)).any (·.1) || (backToKw pos (keywordEach kws X.env)).any (·.1.isNone)) = false) :
    PE X (.Call (.Name g.1 p) (e :: es) kws pos) (tE X.w X.K ct Wx (callAt PT n) (.callK i ees eks perm)) :=
  x_callK o (L i g h).2 hg (L i g h).1.mg (L i g h).1.fn.kp (bindsP_of (L i g h).1.fn hb) hl hlk ha hkw hall hks hdb he hpl
theorem x_callKL0 (g : Sig) (i : Nat) (ks : List Str) (perm : List Nat) {kws : List Keyword} {eks : Es} (o : XOk X k Wx) (L : Lev X.prog X.w X.K X.mg X.base ct sig PT fa fv k n) (h : sig[i]? = some g) (hg : Gl X g.1)
    (hb : ∀ (kV doc pm : Value) (an : Option Addr) (cdv cc : Value) (us ws : List Value), us.length = 0 → ws.length = ks.length → bindArgs (PySem.W.fnOf g.1 g.1 (defArgs g.2.2) (defBody g.2.2) (defScope g.2.2) .none kV doc pm an cdv cc) ⟨us, ks.zip ws⟩ = pure (g.2.1.zip (pick perm (us ++ ws))))
    (hl : (pick perm (List.range (0 + esLen eks))).length = g.2.1.length) (hlk : esLen eks = ks.length) (hkw : PK X kws (tEs X.w X.K ct Wx (callAt PT n) eks))
    (hall : (backToKw pos (keywordEach kws X.env)).all (·.1.isSome) = true) (hks : (backToKw pos (keywordEach kws X.env)).filterMap (·.1) = ks) (hdb : (g.1 == ("__debug__" : Str)) = false)
    (hpl : ((backTo pos (starEach [] X.env)).any (·.1) || (backToKw pos (keywordEach kws X.env)).any (·.1.isNone)) = false) :
    PE X (.Call (.Name g.1 p) [] kws pos) (tE X.w X.K ct Wx (callAt PT n) (.callK i .nil eks perm)) :=
  x_callK0 o (L i g h).2 hg (L i g h).1.mg (L i g h).1.fn.kp (bindsP_of (L i g h).1.fn hb) hl hlk hkw hall hks hdb hpl
end
/-! ### all bodies -/
inductive Bods (B : Nat → Sig → Prop) : Nat → List Sig → Prop
  | nil (i : Nat) : Bods B i []
  | cons {i : Nat} {g : Sig} {r : List Sig} : B i g → Bods B (i + 1) r → Bods B i (g :: r)
theorem Bods.at {B : Nat → Sig → Prop} : ∀ {i : Nat} {l : List Sig}, Bods B i l → ∀ (j : Nat) (g : Sig), l[j]? = some g → B (i + j) g
  | _, _, .nil _, _, _, h => by simp at h
  | i, _, .cons b t, 0, g, h => by
    simp at h
    subst h
    exact b
  | i, _, .cons b t, j + 1, g, h => by
    have := Bods.at t j g (by simpa using h)
    rw [show i + (j + 1) = i + 1 + j from by omega]
    exact this
/-- the defs as the top leaves them -/
theorem defs_of {K : PySem.W.Frag} {mg : Str → Option Value} {sig : List Sig} (h : ∀ (i : Nat) (g : Sig), sig[i]? = some g → ∃ f fd, DefF K mg g f fd) : ∃ (fa : Nat → Addr) (fv : Nat → FuncData), ∀ (i : Nat) (g : Sig), sig[i]? = some g → DefF K mg g (fa i) (fv i) := by
  have all : ∀ i : Nat, ∃ (f : Addr) (fd : FuncData), ∀ g : Sig, sig[i]? = some g → DefF K mg g f fd := fun i => by
    cases e : sig[i]? with
    | none => exact ⟨0, default, fun g h => by cases h⟩
    | some g =>
      obtain ⟨f, fd, d⟩ := h i g e
      exact ⟨f, fd, fun g' h' => by cases h'; exact d⟩
  exact ⟨fun i => Classical.choose (all i), fun i => Classical.choose (Classical.choose_spec (all i)), fun i => Classical.choose_spec (Classical.choose_spec (all i))⟩
/-! ### all that the Hook tells -/
def mkD (g : Sig) : He.DefD := ⟨(g.1, none), g.1, g.1, defArgs g.2.2, defBody g.2.2, defScope g.2.2, [], []⟩
def faD (sig : List Sig) (ts : List (Str × List (Str × PyData))) (fr : List Str) : List He.Fa := sig.map (fun g => He.Fa.glo g.1) ++ (ts.map (fun t => He.Fa.glo t.1) ++ fr.map He.Fa.free)
theorem told {sig : List Sig} {cs : List (Str × PyData)} {ts : List (Str × List (Str × PyData))} {fr : List Str} {w : World} {K : PySem.W.Frag} {h : Heap} {mg : Str → Option Value} (X : K.In h) (G : h.Ns mainGlobals mg)
    (c : obsK (faD sig ts fr) (sig.map mkD) (cs.map Prod.fst) (ts.map Prod.fst) K = valK (sig.map mkD) (cs.map Prod.snd) (ts.map Prod.snd) w)
    (bn : Bods (fun _ g => ∀ (f : Addr) (fd : FuncData), FunD K g.1 g.1 (defArgs g.2.2) (defBody g.2.2) (defScope g.2.2) [] [] f fd → BindsN K fd g.2.1) 0 sig) :
    (∃ (fa : Nat → Addr) (fv : Nat → FuncData), ∀ (i : Nat) (g : Sig), sig[i]? = some g → DefF K mg g (fa i) (fv i)) ∧ Facts mg K w fr cs ts := by
  have cd := saysD c
  refine ⟨defs_of fun i g e => ?_, ?_, ?_, ?_⟩
  · obtain ⟨fd, F⟩ := cd.def_ i (d := mkD g) (by rw [List.getElem?_map, e] <;> rfl)
    have hg : (faD sig ts fr)[i]? = some (.glo g.1) := by
      unfold faD
      rw [List.getElem?_append_left (by rw [List.length_map]; exact (List.getElem?_eq_some_iff.mp e).1), List.getElem?_map, e]
      rfl
    have bnd := Bods.at bn i g e
    exact ⟨He.ga K g.1, fd, F, He.glo_ok X G (cd.fact i hg), bnd _ _ F⟩
  · intro i x e
    have hg : (faD sig ts fr)[sig.length + (ts.length + i)]? = some (.free x) := by
      unfold faD
      rw [List.getElem?_append_right (by rw [List.length_map]; omega), List.length_map, Nat.add_sub_cancel_left, List.getElem?_append_right (by rw [List.length_map]; omega), List.length_map, Nat.add_sub_cancel_left, List.getElem?_map, e]
      rfl
    exact He.free_ok X G (cd.fact _ hg)
  · intro i x d e
    exact gcon_ok X G (saysC c i e)
  · intro i x kvs e
    have hg : (faD sig ts fr)[sig.length + i]? = some (.glo x) := by
      unfold faD
      rw [List.getElem?_append_right (by rw [List.length_map]; omega), List.length_map, Nat.add_sub_cancel_left, List.getElem?_append_left (by rw [List.length_map]; exact (List.getElem?_eq_some_iff.mp e).1), List.getElem?_map, e]
      rfl
    exact ⟨He.ga K x, He.glo_ok X G (cd.fact _ hg), saysT c i e⟩
end MP
set_option maxRecDepth 10000
/-! MPRev: t[::-1]; i in range(n). -/
namespace MP
open PySem PySem.Spec L2
open PyProof.Rows hiding St
section
variable {prog : Program} {w : World} {A : Around} {E : Value → Shared → Prop} {s : Shared}
theorem adjust_rev (n : Nat) : Builtin.Slice.sliceAdjust none none (-1) (n : Int) = ((n : Int) - 1, -1) := by
  unfold Builtin.Slice.sliceAdjust
  simp
theorem places_rev (n : Nat) : Builtin.Slice.slicePlaces ((n : Int) - 1) (-1) (-1) = n := by
  unfold Builtin.Slice.slicePlaces
  have h1 : ¬ ((-1 : Int) > 0) := by omega
  have h2 : (- -1 : Int) = 1 := rfl
  simp only [h1, if_false, h2, Int.ediv_one]
  split <;> omega
theorem sliceApplied_rev {sl : Addr} {vl vu vs : Value} {n : Nat} {Q : Int × Int × Nat → Shared → Prop} (hs : s.heap.IsSliceOf sl vl vu vs) (pl : IsPart vl none) (pu : IsPart vu none) (ps : IsPart vs (some (-1)))
    (h : Q ((n : Int) - 1, -1, n) s) : wpAny (model prog w) A (Builtin.Slice.sliceApplied (.ref sl) (pure (n : Int))) Q E s := by
  obtain ⟨os, hos, hcs, hds⟩ := id hs
  unfold Builtin.Slice.sliceApplied Builtin.Slice.sliceFields
  refine wpAny_bind (wpAny_bind (wpAny_field hos hds (x := vl) rfl (wpAny_bind (wpAny_field hos hds (x := vu) rfl (wpAny_bind (wpAny_field hos hds (x := vs) rfl (wpAny_pure ?_)))))))
  refine wpAny_bind (HT.slicePart_ ps ?_)
  show wpAny _ _ (if ((-1 : Int) == 0) = true then _ else _) _ _ s
  rw [if_neg (by decide)]
  refine wpAny_bind (HT.slicePart_ pl (wpAny_bind (HT.slicePart_ pu (wpAny_bind (wpAny_pure ?_)))))
  show wpAny _ _ (match Builtin.Slice.sliceAdjust none none (-1) (n : Int) with | (lo, hi) => pure (lo, (-1 : Int), Builtin.Slice.slicePlaces lo hi (-1))) _ _ s
  rw [adjust_rev n]
  show wpAny _ _ (pure ((n : Int) - 1, (-1 : Int), Builtin.Slice.slicePlaces ((n : Int) - 1) (-1) (-1))) _ _ s
  rw [places_rev]
  exact wpAny_pure h
theorem pick_rev (xs : Array Value) : ((List.range xs.size).filterMap fun (m : Nat) => xs[(((xs.size : Int) - 1) + (m : Int) * (-1)).toNat]?).toArray = xs.toList.reverse.toArray := by
  have e : ((List.range xs.size).filterMap fun (m : Nat) => xs[(((xs.size : Int) - 1) + (m : Int) * (-1)).toNat]?) = ((List.range xs.size).map fun m => xs.size - 1 - m).filterMap (xs[·]?) := by
    rw [List.filterMap_map]
    congr 1
    funext m
    show xs[(((xs.size : Int) - 1) + (m : Int) * (-1)).toNat]? = xs[xs.size - 1 - m]?
    congr 1
    omega
  rw [e, PySem.W.krv_range, List.filterMap_reverse, PySem.W.krv_all]
theorem getItem_tuple_rev {t sl : Addr} {items : Array Value} {vl vu vs : Value} {Q : Value → Shared → Prop} (ht : IsTup s.heap t items) (hs : s.heap.IsSliceOf sl vl vu vs) (pl : IsPart vl none) (pu : IsPart vu none) (ps : IsPart vs (some (-1)))
    (h : Q (.ref s.heap.objs.size) { s with heap := s.heap.push { cls := .type "tuple", data := .seq items.toList.reverse.toArray } })
    (hsz : items.size ≤ sizeLine) : wpAny (model prog w) A (getItem (.ref t) (.ref sl)) Q E s := by
  have htake : sizeOk (.seq items.toList.reverse.toArray) := by
    show items.toList.reverse.toArray.size ≤ sizeLine
    simpa using hsz
  obtain ⟨os, hos, hcs, hds⟩ := id hs
  have hTs : s.TypeIs (.ref sl) "slice" := ⟨os, hos, hcs⟩
  unfold getItem
  try with_reducible refine wpAny_holding ?_
  first | refine wpAny_bind (wpAny_pure ?_) | skip
  refine wpAny_bind (wpAny_sequenceKey ht.typeIs (by decide) ?_)
  refine wpAny_bind (wpAny_callSpecial?_slot (name := Str.ofString "__getitem__") ht.typeIs PyProof.Rows.slot_tuple_getitem
    (wpAny_call_entry PyProof.Rows.slot_tuple_getitem ht.typeIs entry_tuple_getitem ?_ (args_tuple_getitem _ _)))
  show wpAny _ _ (Builtin.Tuple.tupleItemsOf (.ref t) >>= _) _ _ s
  refine wpAny_bind (tupleItemsOf_ ht ?_)
  refine wpAny_bind (wpAny_typeOf hTs ?_)
  rw [if_pos (by decide)]
  refine wpAny_bind (sliceApplied_rev hs pl pu ps ?_)
  have hno : ¬ (((((items.size : Int) - 1) == 0) && (-1 : Int) == 1 && items.size == items.size) = true) := by simp
  show wpAny _ _ (if ((((items.size : Int) - 1) == 0) && (-1 : Int) == 1 && items.size == items.size) = true then _ else _) _ _ s
  rw [if_neg hno, pick_rev]
  first
    | exact wpAny_bind (m := Builtin.Tuple.tupleExact _) (wpAny_newObj_type (wpAny_pure ⟨_, rfl, wpAny_pure h⟩) htake)
    | exact wpAny_bind (m := Builtin.Tuple.tupleExact _) (wpAny_newObj_type (wpAny_bind (wpAny_pure (wpAny_pure ⟨_, rfl, wpAny_pure h⟩))) htake)
    | exact wpAny_bind (wpAny_bind (m := Builtin.Tuple.tupleExact _) (wpAny_newObj_type (wpAny_pure (wpAny_pure ⟨_, rfl, wpAny_pure h⟩)) htake))
    | exact wpAny_bind (wpAny_bind (m := Builtin.Tuple.tupleExact _) (wpAny_newObj_type (wpAny_pure ⟨_, rfl, wpAny_pure h⟩) htake))
end
section
variable {X : Cx} {ct : CT} {Wx : WX} {C : Callf} {a b e : Expr} {ea eb : E} {te : TE} {pos p p2 : Pos}
def tRevT (K : PySem.W.Frag) (te : TE) : TE := fun σ H Q => te σ H fun x H1 => ∃ a xs, x = .ref a ∧ SqT K H1 a xs ∧ ∀ p, H1 p = none → Q (.ref p) (upd H1 p (.tup xs.reverse))
theorem pe_revTup {k : Nat} {p1 p2 p3 : Pos} (he : PE X e te) : PE X (.Subscript e (.Slice none none (some (.UnaryOp .USub (.Constant (.int 1) k p1) p2)) p3) pos) (tRevT X.K te) := by
  refine ⟨fun pins s σ H Q I h => ?_⟩
  refine Subscript_ (thn (he.run pins s σ H _ I h) fun v s1 ⟨x, H1, I1, r1, q1⟩ => ?_)
  obtain ⟨a, xs, ex, hx, q⟩ := q1
  subst ex
  cases r1
  have hst : PO X (some (.UnaryOp .USub (.Constant (.int 1) k p1) p2)) (tPart (tUn (rU fun i => .int (-i)) (tC (.int 1)))) := po_some (pe_un un_neg pe_int)
  refine wpAny_Slice (thn (po_none.run pins s1 σ H1 (fun o H2 => o = none ∧ H2 = H1) I1 ⟨rfl, rfl⟩) fun vl s2 ⟨l, H2, I2, pl, el, e2⟩ => ?_)
  subst el e2
  refine thn (po_none.run pins s2 σ H2 (fun o H3 => o = none ∧ H3 = H2) I2 ⟨rfl, rfl⟩) fun vu s3 ⟨u, H3, I3, pu, eu, e3⟩ => ?_
  subst eu e3
  refine thn (hst.run pins s3 σ H3 (fun o H4 => o = some (-1) ∧ H4 = H3) I3 ⟨1, rfl, -1, rfl, rfl, rfl⟩) fun vs s4 ⟨o, H4, I4, ps, eo, e4⟩ => ?_
  subst eo e4
  have I5 : Inv X pins σ H4 { s4 with heap := s4.heap.push { cls := .type "slice", data := .fields #[vl, vu, vs] } } := I4.kept (t' := s4.toks) fun b ob q => Heap.get?_push_of_some _ q
  obtain ⟨its, r, ht, hz⟩ := I5.tuple hx
  have hlen := r.length
  show wpAny (model X.prog X.w) X.A (subscriptTail e (.Slice none none (some (.UnaryOp .USub (.Constant (.int 1) k p1) p2)) p3) (.ref a) (.ref s4.heap.objs.size)) (EP X pins σ Q) X.xe { s4 with heap := s4.heap.push { cls := .type "slice", data := .fields #[vl, vu, vs] } }
  refine tail_any (ops := [.ref a, .ref s4.heap.objs.size]) ht.typeIs (PyProof.Rows.slot_tuple_getitem.lookup) ?_ (by with_unfolding_all rfl)
  refine getItem_tuple_rev ht (Heap.IsSliceOf.new _ vl vu vs) pl pu ps ?_ (by rw [List.size_toArray]; omega)
  refine ⟨.ref _, _, I5.laid (t' := s4.toks) (o := .tup xs.reverse) (fun b ob q => Heap.get?_push_of_some _ q) (Nat.le_refl _) ?_, rfl, q _ (I5.hok.fresh (Nat.le_refl _))⟩
  exact ⟨by rw [List.length_reverse]; exact hz, _, r.reverse, IsTup.new _ _⟩
theorem RpAll.reverse {K : PySem.W.Frag} {A : List Addr} {H : Hp} : ∀ {vs : List V} {ds : List PyData}, RpAll K A H vs ds → RpAll K A H vs.reverse ds.reverse
  | _, _, .nil => .nil
  | _, _, .cons r t => by
    rw [List.reverse_cons, List.reverse_cons]
    exact (RpAll.reverse t).append (.cons r .nil)
theorem x_rev {k : Nat} {p1 p2 p3 : Pos} (ha : PE X a (tE X.w X.K ct Wx C ea)) : PE X (.Subscript a (.Slice none none (some (.UnaryOp .USub (.Constant (.int 1) k p1) p2)) p3) pos) (tE X.w X.K ct Wx C (.rev ea)) :=
  pei (pe_revTup ha) fun σ H Q h => by
  obtain ⟨U, M, s, env, r, n, p⟩ := h
  simp only [evE] at p
  refine ⟨U, M, s, env, r, n, p.bind.mono fun x M1 H1 s1 t1 r1 p1 v rv => ?_⟩
  cases x with
  | ref i => exact p1.elim
  | exn _ _ => exact p1.elim
  | val d =>
    cases d with
    | tuple xs =>
      obtain ⟨a, vs, e1, h1, h2⟩ := Rp.sqT rv
      refine ⟨a, vs, e1, h1, fun q hq => ?_⟩
      obtain ⟨t2, r2, v2⟩ := new_tup (w := X.w) r1 hq h2.reverse
      exact p1 M1 _ t2 r2 _ v2
    | _ => exact p1.elim
/-! i in range(n) -/
theorem cr_rangeA : CallR X (.type "range") (fun vs H Q => ∃ j, vs = [V.int j] ∧ ∀ p, H p = none → Q (.ref p) (upd H p (.rng 0 j))) := by
  intro pins s σ H vs us Q I r h
  obtain ⟨j, rfl, q⟩ := h
  cases r with
  | cons rj rn =>
    cases rn
    obtain ⟨u, rfl⟩ := rj
    refine call_range_1 ⟨.ref s.heap.objs.size, upd H s.heap.objs.size (.rng 0 j), I.laid (t' := s.toks + 1 + 1) (fun b o e => Heap.get?_push_of_some _ e) (Nat.le_refl _) ?_, rfl, q _ (I.hok.fresh (Nat.le_refl _))⟩
    exact ⟨_, _, _, Heap.get?_push_size _ rfl⟩
theorem op_notin_rng : OpR X (compareOp .NotIn) (fun x y H Q => ∃ i a lo hi, x = V.int i ∧ y = V.ref a ∧ H a = some (.rng lo hi) ∧ Q (.bl (!decide (lo ≤ i ∧ i < hi))) H) := by
  intro pins s σ H x y v u Q I rx ry h
  obtain ⟨i, a, lo, hi, rfl, rfl, ha, q⟩ := h
  obtain ⟨k, rfl⟩ := rx
  obtain rfl : u = Value.ref a := ry
  obtain ⟨t1, t2, t3, ho⟩ := I.hok a _ ha
  show wpAny _ _ (do return Value.bool (!(← contains (Value.ref a) (Value.int i k)))) _ _ s
  refine wpAny_bind (wpAny_contains_slot (T := "range") ⟨_, ho, rfl⟩ F.slot_range_contains (call_meets F.slot_range_contains ⟨_, ho, rfl⟩ F.entry_range_contains (F.args_range_contains_2 _ _) (q_contains a lo hi i t1 t2 t3 k)
    ⟨ho, wpAny_truthy_bool (wpAny_pure ⟨.bl _, H, I, rfl, ?_⟩)⟩))
  rw [place1]
  exact q
def opIn (neg : Bool) : CmpOp := if neg then .NotIn else .In
theorem op_rng (neg : Bool) : OpR X (compareOp (opIn neg)) (fun x y H Q => ∃ i a lo hi, x = V.int i ∧ y = V.ref a ∧ H a = some (.rng lo hi) ∧ Q (.bl (neg != decide (lo ≤ i ∧ i < hi))) H) := by
  cases neg with
  | true => exact OpR.imp op_notin_rng fun x y H Q h => by simpa using h
  | false => exact OpR.imp op_in_rng fun x y H Q h => by simpa using h
theorem inR_go {neg : Bool} {σ : St} {H : Hp} {Q : VK} (h : tE X.w X.K ct Wx C (.inR neg ea eb) σ H Q) : tOp (fun x y H Q => ∃ i a lo hi, x = V.int i ∧ y = V.ref a ∧ H a = some (.rng lo hi) ∧ Q (.bl (neg != decide (lo ≤ i ∧ i < hi))) H)
    (tE X.w X.K ct Wx C ea) (tCB (fun vs H Q => ∃ j, vs = [V.int j] ∧ ∀ p, H p = none → Q (.ref p) (upd H p (.rng 0 j))) (tCons (tE X.w X.K ct Wx C eb) tNil)) σ H Q := by
  obtain ⟨U, M, s, env, r, n, p⟩ := h
  simp only [evE] at p
  refine ⟨U, M, s, env, r, n, p.bind.mono fun x M1 H1 s1 t1 r1 p1 v rv => ?_⟩
  refine ⟨U, M1, s1, env, r1, n.step t1, p1.bind.mono fun y M2 H2 s2 t2 r2 p2 u ru => ?_⟩
  have rv2 := rv.step t2
  cases x with
  | ref i => exact p2.elim
  | exn _ _ => exact p2.elim
  | val d =>
    cases d with
    | int i =>
      cases y with
      | ref i => exact p2.elim
      | exn _ _ => exact p2.elim
      | val d2 =>
        cases d2 with
        | int j =>
          have e1 : v = .int i := Rp.intI rv2
          have e2 : u = .int j := Rp.intI ru
          subst e1 e2
          refine ⟨j, rfl, fun q hq => ?_⟩
          obtain ⟨r3, t3⟩ := r2.upd (o := .rng 0 j) hq
          exact ⟨i, q, 0, j, rfl, rfl, upd_same, p2 M2 _ t3 r3 _ (.bl _ : Rp X.K _ _ _ _)⟩
        | _ => exact p2.elim
    | _ => exact p2.elim
theorem x_inR (neg : Bool) (hg : Gl X "range") (hm : X.mg "range" = none) (ha : PE X a (tE X.w X.K ct Wx C ea)) (hb : PE X b (tE X.w X.K ct Wx C eb)) (he : starEach [b] X.env = (false, eval b X.env) :: starEach [] X.env) (hm2 : behindInMarks (opIn neg) (.Call (.Name "range" p) [b] [] p2) = false) :
    PE X (.Compare a [opIn neg] [.Call (.Name "range" p) [b] [] p2] pos) (tE X.w X.K ct Wx C (.inR neg ea eb)) :=
  pei (pe_cmpR (op_rng neg) ha (pe_callTy cr_rangeA hg hm (by kernel_rfl) (pa_cons hb pa_nil he) (by decide) (by decide) he rfl) hm2) fun σ H Q h => inR_go h
theorem evB_inR {neg : Bool} (env : Ve) (s : Stk) (x : W) (s1 : Stk) (h : evE C (.inR neg ea eb) env s = .ok x s1) : ∃ k, x = .val (.bool k) := by
  simp only [evE] at h
  obtain ⟨y, s2, _, h⟩ := bind_okI h
  obtain ⟨z, s3, _, h⟩ := bind_okI h
  split at h
  · cases h
    exact ⟨_, rfl⟩
  · cases h
theorem x_inRT (neg : Bool) (hg : Gl X "range") (hm : X.mg "range" = none) (ha : PE X a (tE X.w X.K ct Wx C ea)) (hb : PE X b (tE X.w X.K ct Wx C eb)) (he : starEach [b] X.env = (false, eval b X.env) :: starEach [] X.env) (hm2 : behindInMarks (opIn neg) (.Call (.Name "range" p) [b] [] p2) = false) :
    PT X (.Compare a [opIn neg] [.Call (.Name "range" p) [b] [] p2] pos) (tT X.w X.K ct Wx C (.val (.inR neg ea eb))) :=
  pti (pt_cmpR (op_rng neg) ha (pe_callTy cr_rangeA hg hm (by kernel_rfl) (pa_cons hb pa_nil he) (by decide) (by decide) he rfl) hm2) fun σ H Q h => inR_go (tB_of evB_inR h)
end
end MP
set_option maxRecDepth 100000
set_option maxHeartbeats 4000000
/-! MPErr0: an error's own __init__: super().__init__(text), self.value = value. -/
namespace MP
open PySem PySem.Spec PySem.Calls
open PySem.W (Frag)
/-- what the written part says of the class at C (made by the __init__ of the class at D) -/
structure ErrC (K : Frag) (file : Str) (C D fI : Addr) (fd : FuncData) : Prop where
  oex : L2.OexC K C
  iC : PySem.W.findIn K (.ref C) "__init__" = some (some (.ref fI))
  tI : PySem.W.typeIn K (.ref fI) = some (.type "function")
  noV : PySem.W.findIn K (.ref C) "value" = some none
  sub : PySem.W.mroIn K C (.ref D) = some true
  dcl : (PySem.W.clsIn K D).isSome = true
  sup : PySem.W.ks_superIn K C D "__init__" = some (some (.builtin "ValueError.__init__"))
  veC : PySem.W.subIn K (.ref C) (.type "ValueError") = some true
  opq : PySem.W.nsIn K cStatics "thirdparty.any" = some none
  glo : PySem.W.nsIn K mainGlobals "super" = some none
  fn : ∃ oc od osl, K.lookup fI = some ⟨oc, od, .func fd, osl⟩
  code : ∃ cda ccl cdd vs ccs tf, fd.code = .ref cda ∧ K.lookup cda = some ⟨ccl, cdd, .fields vs, ccs⟩ ∧ vs[2]? = some (.str file tf) ∧ PySem.W.codeIn K (.ref cda) fd.qualname = true
  cell : ∃ cc cl cld csl, fd.closure = [(("__class__" : Str), cc)] ∧ K.lookup cc = some ⟨cl, cld, .cell (some (.ref D)), csl⟩
/-- the text of that __init__ -/
structure InitT (fd : FuncData) (p0 p1 p2 p3 p4 p5 p6 p7 p8 p9 : Pos) (z : Str) (j : Nat) : Prop where
  body : fd.body = .stmts [.Expr (.Call (.Attribute (.Call (.Name "super" p0) [] [] p1) "__init__" p2) [.Constant (.str z) j p3] [] p4) p5, .Assign [.Attribute (.Name "self" p6) "value" p7] (.Name "value" p8) p9]
  par : (fd.params.posonlyargs ++ fd.params.args).head?.map (·.arg) = some ("self" : Str)
  bind : ∀ a u : Value, bindArgs fd ⟨[a, u], []⟩ = pure [(("self" : Str), a), (("value" : Str), u)]
  kind : fd.scope.kind = .function
  co : fd.scope.isCoroutine = false
  gen : fd.scope.isGenerator = false
  nocell : ∀ x ∈ fd.scope.names, x.2 ≠ .cell
  kS : fd.scope.names.lookup ("super" : Str) = some .globalImplicit
  kC : fd.scope.names.lookup ("__class__" : Str) = some .free
  kSelf : fd.scope.names.lookup ("self" : Str) = some .local
  kVal : fd.scope.names.lookup ("value" : Str) = some .local
  ev : ∀ env : Env, ∃ pl : Sem Bool, eval (.Call (.Attribute (.Call (.Name "super" p0) [] [] p1) "__init__" p2) [.Constant (.str z) j p3] [] p4) env = (do
      let ov ← attributeBase (.Call (.Name "super" p0) [] [] p1) "__init__" env (eval (.Call (.Name "super" p0) [] [] p1) env)
      standAt p2.atName
      let (f, first) ← holding [ov] (getMethod ov "__init__" pl)
      callWith p4 f first (backTo p4 (starEach [.Constant (.str z) j p3] env)) [])
  glob : fd.globals = mainGlobals
  blt : fd.builtins = builtinsNs
section
variable {prog : Program} {w : World} {A : Around} {K : Frag} {s : Shared} {C D fI a t0 : Addr} {fd : FuncData} {u : Value} {mg mb : Str → Option Value} {R : Result → Shared → Prop} {p0 p1 p2 p3 p4 p5 p6 p7 p8 p9 : Pos} {z : Str} {j : Nat}
theorem init_run (T : ErrC K prog.main.file C D fI fd) (Z : InitT fd p0 p1 p2 p3 p4 p5 p6 p7 p8 p9 z j) (htop : (prog.main.scope.names.lookup ("super" : Str)).isSome = false)
    (X : K.In s.heap) (G : s.heap.Ns mainGlobals mg) (B : s.heap.Ns builtinsNs mb) (boot : ∀ x : Str, x ≠ "__name__" → mb x = bootBuiltins x) (lim : s.heap.NoLimit) (room : A.depth < recursionLimit)
    (he : s.heap.get? a = some (HandSPX.excO C t0)) (hna : K.lookup a = none)
    (h : ∀ h' dx t1 tk', (∀ b o, b ≠ a → s.heap.get? b = some o → h'.get? b = some o) → s.heap.objs.size ≤ dx → dx ≠ a →
      h'.get? a = some { cls := .ref C, dict := some dx, data := .fields #[.ref t1, .none, .none, .none, .bool false, .none] } → h'.Ns1 dx (fun y => if y = ("value" : Str) then some u else none) → R (.ok (.ret .none)) ⟨h', s.gens, s.drawn, tk', s.os⟩) :
    codeAny (model prog w) A (.call (.ref fI) ⟨[.ref a, u], []⟩) R s := by
  obtain ⟨oc, od, osl, hfI⟩ := T.fn
  obtain ⟨cda, ccl, cdd, vs, ccs, tf, hcode, hK, hvs, hrec⟩ := T.code
  obtain ⟨cc, cl, cld, csl, hclo, hcell⟩ := T.cell
  obtain ⟨cdD, hD⟩ := Option.isSome_iff_exists.mp T.dcl
  obtain ⟨nm, q, N, bs, bm, sn, sub, ab, col, dd, k0, k1, k2, k3, k5, hC, hbm⟩ := T.oex.cls
  have hcl : PySem.W.clsIn K C = some { name := nm, bases := bs, mro := .ref C :: bm, ns := N, qualname := q, hasDict := true, slotNames := sn, subclasses := sub, abstract := ab, collection := col, hasDel := false } := by unfold PySem.W.clsIn; rw [hC] <;> rfl
  obtain ⟨ar, har, harg⟩ := Option.map_eq_some_iff.mp Z.par
  refine PySem.ks_codeAny_call_defAt (fd := fd) room (X _ _ hfI) rfl lim (by rw [hcode]; exact PySem.W.codeRec_of X hrec) Z.body (.of_eq (Z.bind _ _)) Z.nocell ?_ (fun h0 hns hk => ?_) Z.co Z.gen Z.kind
  · intro x hx
    simp only [List.mem_cons, List.not_mem_nil, or_false] at hx
    rcases hx with rfl | rfl
    · exact Z.kSelf
    · exact Z.kVal
  have X0 : K.In h0 := X.keeps hk
  have hm1 : ([(("self" : Str), Value.ref a), (("value" : Str), u)].reverse.lookup ("self" : Str)) = some (.ref a) := rfl
  have hm2 : ([(("self" : Str), Value.ref a), (("value" : Str), u)].reverse.lookup ("value" : Str)) = some u := rfl
  have he0 := hk _ _ he
  have haL : a ≠ s.heap.objs.size := Nat.ne_of_lt (Heap.lt_size he)
  have hir : interactive (callEnv fd s.heap.objs.size fI) = false := by
    show (fd.scope.kind == .module && _) = false
    rw [Z.kind]
    rfl
  have hg : (callEnv fd s.heap.objs.size fI).globals = mainGlobals := Z.glob
  have hb : (callEnv fd s.heap.objs.size fI).builtins = builtinsNs := Z.blt
  obtain ⟨pl, hev⟩ := Z.ev (callEnv fd s.heap.objs.size fI)
  refine PySem.ks_wpAt_execs_cons (PySem.ks_wpAt_Expr_any (PySem.ks_wpAt_MethodCall (PySem.ks_wpAt_super_base (fd := fd) Z.kS Z.kC rfl rfl (X0 _ _ hfI) rfl har hcode (X0 _ _ hK) rfl hvs (by simp) htop ?_) hev) hir)
  refine PySem.W.ks_loadName_global (env := callEnv fd s.heap.objs.size fI) Z.kind Z.kS (loadGlobal_builtin (mg := mg) (mb := mb) (by rw [hg]; exact G.at fun o => hk _ o) (PySem.W.mg_none_of X G T.glo) (by rw [hb]; exact B.at fun o => hk _ o) ((boot _ (by decide +kernel)).trans (show bootBuiltins "super" = some (.type "super") by kernel_rfl)) ⟨rfl, ?_⟩)
  refine wpAny_loadName_free (env := callEnv fd s.heap.objs.size fI) Z.kind Z.kC (c := cc) (v := .ref D) (by show fd.closure.lookup _ = _; rw [hclo]; rfl) ⟨_, X0 _ _ hcell, rfl⟩ ?_
  rw [harg]
  refine wpAny_loadName_local (env := callEnv fd s.heap.objs.size fI) Z.kind Z.kSelf hns hm1 ?_
  obtain ⟨oD, hD1, hD2⟩ : ∃ oD, h0.get? D = some oD ∧ oD.data = .cls cdD := by
    unfold PySem.W.clsIn at hD
    split at hD
    · rename_i ho
      cases hD
      exact ⟨_, X0 _ _ ho, rfl⟩
    · cases hD
  refine ks_wpAny_isType_cls hD1 hD2 ⟨rfl, ?_⟩
  refine ks_wpAny_call_super hD1 hD2 he0 rfl (fun c e => by cases e) (PySem.W.looks_mroIn X0 T.sub) (fun h1 hso up1 => ?_)
  have X1 : K.In h1 := X0.keeps up1
  have he1 := up1 _ _ he0
  have hxC : a ≠ C := fun e => by
    have := X0 _ _ hC
    rw [← e, he0] at this
    cases this
  refine PySem.W.kxs_getMethod PySem.W.kxs_ValueError hso (PySem.W.looks_opaque X1 T.opq) (l₀ := .ref C :: bm) (fun A Q E s k q => wpAny_bind ((PySem.W.looks_clsIn X1 hcl) A _ E s k (wpAny_pure q))) rfl X1 (by have := T.sup; unfold PySem.W.ks_superIn at this; rw [hcl] at this; exact this)
    ((PySem.W.InstAt.type (od := none) (C := C) ⟨he1, rfl, rfl, trivial⟩).andThen (PySem.W.looks_subIn X1 T.veC)) hxC rfl ?_
  have hsz1 : s.heap.objs.size ≤ h1.objs.size := by
    obtain ⟨o, _, _, e, _⟩ := hns
    exact Nat.le_of_lt (Heap.lt_size (up1 _ _ e))
  have hu1 : (h1.push (PySem.W.kxs_mw "ValueError.__init__" a)).get? h1.objs.size = some (PySem.W.kxs_mw "ValueError.__init__" a) := Heap.get?_push_at rfl rfl
  show wpAny _ _ (callWith p4 (.ref h1.objs.size) [] (backTo p4 (starEach [.Constant (.str z) j p3] (callEnv fd s.heap.objs.size fI))) []) _ _ _
  refine PySem.W.kxs_callWith (i := "ValueError.__init__") (x := a) rfl (Calls.evalArgs_plain ?_)
  show wpAny _ _ (spliced ((false, eval (.Constant (.str z) j p3) (callEnv fd s.heap.objs.size fI)) :: backTo p4 (starEach [] (callEnv fd s.heap.objs.size fI)))) _ _ _
  refine Calls.spliced_cons (Calls.Constant_str ?_)
  refine Calls.spliced_nil ⟨hu1, ?_⟩
  have hC1 : (h1.push (PySem.W.kxs_mw "ValueError.__init__" a)).get? C = some (excClassObj nm q C N bs bm true sn sub ab col dd k0 k1 k2 k3 k5 "ValueError.__new__") := Heap.get?_push_of_some _ (X1 _ _ hC)
  have hea1 : (h1.push (PySem.W.kxs_mw "ValueError.__init__" a)).get? a = some (HandSPX.excO C t0) := Heap.get?_push_of_some _ he1
  refine wpAny_call (codeAny_of_tree ?_)
  show wpAny _ _ (callAny (.ref h1.objs.size) ⟨[.str z _], []⟩) _ _ _
  simp only [callAny]
  refine wpAny_bind (wpAny_load hu1 ?_)
  simp only [PySem.W.kxs_mw, show (Value.type "method-wrapper" == Value.type "method" || Value.type "method-wrapper" == Value.type "builtin_function_or_method" || Value.type "method-wrapper" == Value.type "method-wrapper") = true by decide, if_true]
  refine PySem.W.KFB.if_so (by decide) ?_
  refine wpAny_bind (PySem.W.check_bound_init F.excBase_ValueError.toExcCallFacts hC1 hea1 rfl ?_)
  refine wpAny_bind (wpAny_pure (wpAny_pure ?_))
  refine ⟨plainId_quiet F.excBase_ValueError.init.plain _, codeAny_builtin F.excBase_ValueError.initEntry ?_⟩
  refine PySem.W.exc_init_tree (cls := .ref C) (t0 := t0) (dv := none) (c2 := .none) (c3 := .none) (b4 := .bool false) hea1 (by rw [sizeLine_eq]; simp) (fun h2 k2 he2 _ => ?_)
  have ne_a : ∀ {b : Addr} {o : Obj}, K.lookup b = some o → b ≠ a := fun e z => by
    rw [z, hna] at e
    cases e
  have X2 : K.In h2 := fun b o e => k2 b o (ne_a e) (Heap.get?_push_of_some _ (X1 _ _ e))
  have up2 : ∀ b o, b ≠ a → h0.get? b = some o → h2.get? b = some o := fun b o hb e => k2 b o hb (Heap.get?_push_of_some _ (up1 _ _ e))
  have hns2 : h2.Ns s.heap.objs.size (fun y => ([(("self" : Str), Value.ref a), (("value" : Str), u)].reverse.lookup y)) := hns.at fun o e => up2 _ _ (Ne.symm haL) e
  refine PySem.ks_wpAt_execs_cons (wpAt_of_wpAny (plainObj_wpAny_Assign_Attribute ?_))
  refine wpAny_Name (wpAny_loadName_local (env := callEnv fd s.heap.objs.size fI) Z.kind Z.kVal hns2 hm2 ?_) (by decide)
  refine wpAny_Name (wpAny_loadName_local (env := callEnv fd s.heap.objs.size fI) Z.kind Z.kSelf hns2 hm1 ?_) (by decide)
  refine PySem.W.set_plain X2 (ox := { cls := .ref C, dict := none, data := .fields #[.ref _, .none, .none, .none, .bool false, .none] }) (od := none) ⟨he2, rfl, rfl, trivial⟩ T.oex.sa ?_
  refine PySem.HandSPX.exc_osa X2 he2 hcl (show PySem.HandSPX.refsVE (.ref C :: bm) = true from hbm) rfl T.noV (fun h3 tk3 dx k3 dn dne hx hn => ?_)
  refine wpAt_of_wpAny (wpAny_execs_nil ?_)
  have hle : s.heap.objs.size ≤ h2.objs.size := by
    obtain ⟨o, _, _, e, _⟩ := hns2
    exact Nat.le_of_lt (Heap.lt_size e)
  exact h h3 dx _ tk3 (fun b o hb e => k3 b o hb (up2 b o hb (hk _ _ e))) (Nat.le_trans hle dn) dne hx hn
end
end MP
set_option maxRecDepth 100000
set_option maxHeartbeats 4000000
/-! MPErr1: an error is made. -/
namespace MP
open PySem PySem.Spec L2
open PyProof.Rows hiding St
section
variable {X : Cx} {e : Expr} {te : TE} {C D fI : Addr} {fd : FuncData} {x : Str} {p pos : Pos} {p0 p1 p2 p3 p4 p5 p6 p7 p8 p9 : Pos} {z : Str} {j k : Nat}
theorem pmk_err (T : ErrC X.K X.prog.main.file C D fI fd) (Z : InitT fd p0 p1 p2 p3 p4 p5 p6 p7 p8 p9 z j) (htop : (X.prog.main.scope.names.lookup ("super" : Str)).isSome = false)
    (hr : Room k X.A) (hg : Gl X x) (hm : X.mg x = some (.ref C)) (he : PE X e te)
    (hdb : (x == ("__debug__" : Str)) = false := by decide) (hst : starEach [e] X.env = (false, eval e X.env) :: starEach [] X.env := by rfl) (hpl : (backTo pos (starEach [] X.env)).any (·.1) = false := by rfl) :
    PMk X (.Call (.Name x p) [e] [] pos) (fun σ H Q => te σ H fun v H1 => ∀ dx, H1 dx = none → Q (.ref C) (some dx) (upd H1 dx (.xd [(("value" : Str), v)]))) := by
  intro pins s σ H Q I h
  obtain ⟨nm, q, N, bs, bm, sn, sub, ab, col, dd, k0, k1, k2, k3, k5, hC, hbm⟩ := T.oex.cls
  have ha : PA X [e] (tCons te tNil) := pa_cons he pa_nil hst
  have h' : tCons te tNil σ H fun vs H1 => match vs with
      | [v] => ∀ dx, H1 dx = none → Q (.ref C) (some dx) (upd H1 dx (.xd [(("value" : Str), v)]))
      | _ => False := h
  refine wpAny_Call_Name_kw (ld_glob I hg hm ?_ hdb)
  refine PySem.W.callWith_K (h₀ := X.base) I.ok.mod.kin T.oex.kC (thn (ha.run pos pins s σ H _ I h') fun us s1 ⟨vs, H1, I1, r1, q1⟩ => ⟨I1.kIn, ?_⟩) hst hpl
  cases r1 with
  | nil => exact q1.elim
  | @cons v u _ ur ru rn =>
    cases rn with
    | cons _ _ => exact q1.elim
    | nil =>
    show wpAny _ _ (call (.ref C) [u]) _ _ _
    obtain ⟨hp, g, dr, tk, os⟩ := s1
    have hsz : hp.objs.size ≤ hp.objs.size + 1 := Nat.le_succ _
    have hn : H1 (hp.objs.size + 1) = none := I1.hok.fresh hsz
    have kk : ∀ b o, hp.get? b = some o → ((hp.push (PySem.W.kdv_tup [u])).push (PySem.HandSPX.excO C hp.objs.size)).get? b = some o := fun b o e => Heap.get?_push_of_some _ (Heap.get?_push_of_some _ e)
    have hget : ((hp.push (PySem.W.kdv_tup [u])).push (PySem.HandSPX.excO C hp.objs.size)).get? (hp.objs.size + 1) = some (PySem.HandSPX.excO C hp.objs.size) := by heap_get
    obtain ⟨mb, hb1, hb2⟩ := I1.ok.mod.blt
    have hna : X.K.lookup (hp.objs.size + 1) = none := by
      cases q : X.K.lookup (hp.objs.size + 1) with
      | none => rfl
      | some o => exact absurd (Heap.lt_size (I1.kIn _ _ q)) (by simp)
    refine wpAny_call (PySem.HandSPX.call_own F.excBase_ValueError (fun Y => PySem.HandSPX.refsVE_contains Y bm hbm) (I1.kIn _ _ hC) (PySem.W.looks_findIn I1.kIn T.iC) (fun self => PySem.W.bind_fn I1.kIn self T.tI) (by rw [sizeLine_eq]; simp)
      (init_run (mg := X.mg) (mb := mb) T Z htop (I1.kIn.keeps kk) ((I1.ok.mod.glob.keeps I1.bk).keeps kk) ((hb1.keeps I1.bk).keeps kk) hb2 ((I1.ok.mod.nolimit.keeps I1.bk).keeps kk) (by have := hr.dp; rw [make_depth]; omega) hget hna fun h2 dx t1 tk2 k2 hdx hda hea hns => ?_))
    have hps : hp.objs.size ≤ dx := Nat.le_trans (Nat.le_of_lt (Nat.lt_of_succ_lt (Heap.lt_size hget))) hdx
    have nea : ∀ {b : Addr} {o : Obj}, hp.get? b = some o → b ≠ hp.objs.size + 1 := fun e => Nat.ne_of_lt (Nat.lt_succ_of_lt (Heap.lt_size e))
    obtain ⟨G, g1, g2⟩ := restrict h2 fun b => decide (b ≠ hp.objs.size + 1)
    have gk : ∀ b, b ≠ hp.objs.size + 1 → G.get? b = h2.get? b := fun b hb => g1 b (decide_eq_true hb)
    have ge : G.get? (hp.objs.size + 1) = none := g2 _ (by simp)
    have kG : ∀ b o, hp.get? b = some o → G.get? b = some o := fun b o e => (gk b (nea e)).trans (k2 b o (nea e) (kk b o e))
    have hnd : H1 dx = none := I1.hok.fresh hps
    have J : Inv X pins σ (upd H1 dx (.xd [(("value" : Str), v)])) ⟨G, g, dr, tk2, os⟩ := I1.laid (t' := tk2) (h' := G) kG hps
      (show ∃ mA, G.Ns1 dx mA ∧ ∀ f, RelO ([(("value" : Str), v)].lookup f) (mA f) from ⟨_, hns.at fun o y => (gk dx hda).trans y, relO_put (fs := []) ru fun _ => True.intro⟩)
    refine ⟨rfl, hp.objs.size + 1, _, _, ⟨G, g, dr, tk2, os⟩, _, .ref C, some dx, rfl, J, fun b o e => ?_, ge, hea, ⟨rfl, rfl⟩, rfl, rfl, ?_, rfl, J.bare, raises_own T.oex.exC T.oex.tyC, q1 dx hnd⟩
    · by_cases hb : b = hp.objs.size + 1
      · rw [hb, ge] at e
        cases e
      · exact (gk b hb).symm.trans e
    · rw [upd_ne (Ne.symm hda)]
      exact hn
end
end MP
set_option maxRecDepth 100000
set_option maxHeartbeats 4000000
/-! MPErr2: errors raised, caught, asked. -/
namespace MP
open PySem PySem.Spec L2
open PyProof.Rows hiding St
/-- what is known of a class of errors -/
structure ErrX (K : PySem.W.Frag) (C : Addr) : Prop where
  xf : XfC K C
  noV : PySem.W.findIn K (.ref C) "value" = some none
  ec : ExcC K C
section
variable {X : Cx} {e : Expr} {ea eb : E} {C : Callf} {ct : CT} {Er : XK} {Wx : WX} {pos p p' : Pos} {x : Str} {i c : Nat}
theorem s_raiseW {e' : Expr} (hn : c < ct.n) (hc : X.calm = true) (tk : Takes X (wE Er)) (hmk : PMk X e' (fun σ H Q => tE X.w X.K ct (wE Er) C ea σ H fun v H1 => ∀ dx, H1 dx = none → Q (.ref (ct.cls c)) (some dx) (upd H1 dx (.xd [(("value" : Str), v)])))) :
    PS X (.Raise (some e') none pos) (tS X.w X.K ct Er C (.raise c ea)) := psi (ps_raise hc tk hmk) fun D σ H h => by
  obtain ⟨U, M, s, env, r, n, p⟩ := h
  simp only [evS] at p
  refine ⟨U, M, s, env, r, n, p.bind.mono fun x M1 H1 s1 t1 r1 p1 v rv dx hdx => ?_⟩
  cases x with
  | ref i => exact p1.elim
  | exn _ _ => exact p1.elim
  | val d =>
    cases hd : isDict d with
    | true =>
      simp only [hd] at p1
      exact p1.elim
    | false =>
      simp only [hd] at p1
      obtain ⟨r2, t2⟩ := r1.upd (o := .xd [(("value" : Str), v)]) hdx
      exact p1 M1 _ _ _ t2 r2 ⟨⟨hn, rfl⟩, dx, v, rfl, r1.fresh hdx, upd_same, (RV.rp rv hd).step t2⟩
/-! asked in its suite -/
section
variable {a dd : Addr} {oe : Obj} {pn : List (Addr × Obj)} {cl : Nat → Addr} {nn : Nat}
theorem x_xval {te : E} (T : ErrX X.K (cl c)) (hz : Zc (.ref (cl c)) (some dd) oe) (hf : ∃ vs, oe.data = .fields vs) (he : PE (X.suite a ((a, oe) :: pn)) e (tE X.w X.K ⟨nn, cl, some (a, dd, c)⟩ Wx C te)) (hb : attributeBase e "value" X.env (eval e X.env) = eval e X.env) :
    PE (X.suite a ((a, oe) :: pn)) (.Attribute e "value" pos) (tE X.w X.K ⟨nn, cl, some (a, dd, c)⟩ Wx C (.xval te)) := pei (pe_xf T.xf T.noV hz hf he hb) fun σ H Q h => by
  obtain ⟨U, M, s, env, r, n, p⟩ := h
  simp only [evE] at p
  refine ⟨U, M, s, env, r, n, p.bind.mono fun x M1 H1 s1 t1 r1 p1 v rv => ?_⟩
  cases x with
  | ref i => exact p1.elim
  | val d => exact p1.elim
  | exn c' d =>
    obtain ⟨a', dd', x', e1, e2, e3, e4, e5⟩ := rv
    cases e1
    exact ⟨e2, rfl, _, _, x', rfl, e4, rfl, p1.here r1 x' e5.rv⟩
/-- isinstance(e, c), e the exception that the suite holds, with its dict -/
def rIsD (K : PySem.W.Frag) (D a dd : Addr) : List V → Hp → VK → Prop := fun xs H Q => ∃ (c : V) (cv : Value) (b : Bool) (fs : List (Str × V)), xs = [.ref a, c] ∧ (∀ u, RelV c u → u = cv) ∧ PySem.W.kitOne K (.ref D) cv = some b ∧ H dd = some (.xd fs) ∧ Q (.bl b) H
theorem call_isD {D : Addr} (T : ExcC X.K D) (hz : Zc (.ref D) (some dd) oe) (hf : ∃ vs, oe.data = .fields vs) : CallR (X.suite a ((a, oe) :: pn)) (.builtin "isinstance") (rIsD X.K D a dd) := by
  intro pins s σ H xs us Q I r h
  obtain ⟨c, cv, b, fs, rfl, hcv, e, hH, q⟩ := h
  cases r with
  | cons rx rr =>
    cases rr with
    | cons rt rr =>
      cases rr
      cases rx
      have ec := hcv _ rt
      subst ec
      obtain ⟨hget, _⟩ := I.pin (a, oe) (List.mem_append.mpr (.inl List.mem_cons_self))
      obtain ⟨vs, hv⟩ := hf
      have hx : ObjOk X.prog X.w H s.heap dd (.xd fs) := I.hok dd _ hH
      obtain ⟨mA, hns, hr⟩ := hx
      obtain ⟨od, ho, hl⟩ := lookIn_ns hns
      have J : PySem.W.InstAt s.heap a oe D (some od) := ⟨hget, hz.1, by unfold PySem.W.notCls; rw [hv] <;> rfl, by rw [hz.2]; exact ho⟩
      obtain ⟨cd, hcd, _⟩ := PySem.W.any_some T.hd
      exact PySem.W.kia_one (PySem.W.kitx_exc (by rw [hcd]; rfl) T.hg T.hk T.hs T.ha T.hn T.ht T.hm) I.kIn J e (fun z => nomatch z) fun tk => ⟨.bl b, H, I.kept (t' := tk) fun _ _ z => z, rfl, q⟩
theorem x_xis {te : E} {cs : List Nat} {y : Str} {j : Nat} {p2 : Pos} (T : ErrX X.K (cl c)) (hk : PySem.W.kitOne X.K (.ref (cl c)) (.ref (cl j)) = some (cs.contains c)) (hz : Zc (.ref (cl c)) (some dd) oe) (hf : ∃ vs, oe.data = .fields vs)
    (hg : Gl X "isinstance") (hm : X.mg "isinstance" = none) (hgy : Gl X y) (hmy : X.mg y = some (.ref (cl j))) (hd : (y == ("__debug__" : Str)) = false) (he : PE (X.suite a ((a, oe) :: pn)) e (tE X.w X.K ⟨nn, cl, some (a, dd, c)⟩ Wx C te))
    (h1 : starEach [e, .Name y p2] X.env = (false, eval e X.env) :: starEach [.Name y p2] X.env) (h2 : starEach [.Name y p2] X.env = (false, eval (.Name y p2) X.env) :: starEach [] X.env) :
    PE (X.suite a ((a, oe) :: pn)) (.Call (.Name "isinstance" p) [e, .Name y p2] [] pos) (tE X.w X.K ⟨nn, cl, some (a, dd, c)⟩ Wx C (.xis te cs)) :=
  pei (pe_callB (X := X.suite a ((a, oe) :: pn)) (call_isD T.ec hz hf) hg hm (by kernel_rfl) (pa_cons he (pa_cons (pe_glob (X := X.suite a ((a, oe) :: pn)) (v := .ref (cl j)) hgy hmy rfl hd) pa_nil h2) h1) (by decide) (by decide) h1 (by rw [h2]; rfl)) fun σ H Q h => by
  obtain ⟨U, M, s, env, r, n, p⟩ := h
  simp only [evE] at p
  refine ⟨U, M, s, env, r, n, p.bind.mono fun x M1 H1 s1 t1 r1 p1 v rv => ?_⟩
  cases x with
  | ref i => exact p1.elim
  | val d => exact p1.elim
  | exn c' d =>
    obtain ⟨a', dd', x', e1, e2, e3, e4, e5⟩ := rv
    cases e1
    show rIsD X.K (cl c) a dd [v, .ref (cl j)] H1 Q
    exact ⟨.ref (cl j), .ref (cl j), cs.contains c, _, by rw [e2], fun u hu => hu, hk, e4, p1.here r1 _ (.bl _ : Rp X.K _ _ _ _)⟩
/-- repr(e), in a suite too -/
theorem x_reprG {fr : List Str} {cs : List (Str × PyData)} {ts : List (Str × List (Str × PyData))} (F : Facts X.mg X.K X.w fr cs ts) (gs : X.A.guards = some []) (hu : X.A.units + 64 < cLine) (i : Nat) (h : fr[i]? = some "repr") (hg : Gl X "repr") (ha : PE X e (tE X.w X.K ct Wx C ea)) (he : starEach [e] X.env = (false, eval e X.env) :: starEach [] X.env) :
    PE X (.Call (.Name "repr" p) [e] [] pos) (tE X.w X.K ct Wx C (.bi .repr (.cons ea .nil))) :=
  x_biB (vop_repr gs hu) hg (F.fre i _ h) (by decide +kernel) (xs_cons ha xs_nil he) (by decide) (by decide) he rfl
end
/-! ### try: its body sets no name -/
/-- an end is met, the names as they were -/
def OutB (ct : CT) (w : World) (K : PySem.W.Frag) (U : List Addr) (D : Ends) (σ : St) (H : Hp) (M' : List Addr) (H' : Hp) (s' : Stk) (env0 : Ve) : Out → Prop
  | .nx env => env = env0 → D.nx σ H'
  | .rt x => ∀ v, RW ct w K U M' H' v x → D.rt v H'
  | .rtN xs => ∀ a vs, H a = none → RelS K (a :: U) M' H' s' → H' a = some (.lst vs) → RpAll K (M' ++ (a :: U)) H' vs xs → D.rt (.ref a) H'
  | .brk _ => False
  | .ct _ => False
def tB (w : World) (K : PySem.W.Frag) (ct : CT) (Wx : WX) (run : Ve → Stk → Res Out) : TS := fun D σ H => ∃ U M s env, RelS K U M H s ∧ REnv ct w K U M H σ env ∧ Post ct K U Wx σ M H (run env s) fun o M' H' s' => OutB ct w K U D σ H M' H' s' env o
theorem OutB.from {w : World} {K : PySem.W.Frag} {U : List Addr} {D : Ends} {σ : St} {H H1 : Hp} {M M1 M' : List Addr} {H' : Hp} {s1 s' : Stk} {env : Ve} {o : Out} (t : Step M H M1 H1) (r : RelS K U M1 H1 s1) (h : OutB ct w K U D σ H M' H' s' env o) : OutB ct w K U D σ H1 M' H' s' env o := by
  cases o with
  | rtN xs => exact fun a vs hn => h a vs (t.none r hn)
  | _ => exact h
section
variable {st : Stmt} {rest body sa sb : List Stmt} {s1 : S} {ss ss' : Ss} {ta : T} {c' : Expr}
theorem b_nil : PSs X [] (tB X.w X.K ct Wx (evSs C .nil)) := pssi pss_nil fun D σ H h => by
  obtain ⟨U, M, s, env, r, n, p⟩ := h
  simp only [evSs] at p
  exact p.here r rfl
theorem b_cons (h1 : PS X st (tB X.w X.K ct Wx (evS C s1))) (h2 : PSs X rest (tB X.w X.K ct Wx (evSs C ss))) : PSs X (st :: rest) (tB X.w X.K ct Wx (evSs C (.cons s1 ss))) := pssi (pss_cons h1 h2) fun D σ H h => by
  obtain ⟨U, M, s, env, r, n, p⟩ := h
  simp only [evSs] at p
  refine ⟨U, M, s, env, r, n, p.bind.eq.mono fun o M1 H1 s1 t1 r1 q1 => ?_⟩
  obtain ⟨e1, p1⟩ := q1
  cases o with
  | nx env1 =>
    intro e
    subst e
    exact ⟨U, M1, s1, env1, r1, n.step t1, p1.mono fun o M2 H2 s2 t2 r2 q => q.from t1 r1⟩
  | rt w => exact p1.here r1
  | rtN xs => exact p1.here r1
  | brk w => exact (p1.here r1).elim
  | ct xs => exact (p1.here r1).elim
theorem b_expr (he : PE X e (tE X.w X.K ct Wx C ea)) (hs : swapsWith e none pos.line X.env = pure false) : PS X (.Expr e pos) (tB X.w X.K ct Wx (evS C (.expr ea))) := psi (ps_expr he hs) fun D σ H h => by
  obtain ⟨U, M, s, env, r, n, p⟩ := h
  simp only [evS] at p
  exact ⟨U, M, s, env, r, n, p.bind.mono fun x M1 H1 s1 t1 r1 p1 v rv => p1.here r1 rfl⟩
theorem b_ret (he : PE X e (tE X.w X.K ct Wx C ea)) : PS X (.Return (some e) pos) (tB X.w X.K ct Wx (evS C (.ret ea))) := psi (ps_ret he) fun D σ H h => by
  obtain ⟨U, M, s, env, r, n, p⟩ := h
  simp only [evS] at p
  exact ⟨U, M, s, env, r, n, p.bind.mono fun x M1 H1 s1 t1 r1 p1 v rv => p1.here r1 v rv⟩
theorem b_if (hc : PT X c' (tT X.w X.K ct Wx C ta)) (ha : PSs X sa (tB X.w X.K ct Wx (evSs C ss))) (hb : PSs X sb (tB X.w X.K ct Wx (evSs C ss'))) : PS X (.If c' sa sb pos) (tB X.w X.K ct Wx (evS C (.ifs ta ss ss'))) := psi (ps_if hc ha hb) fun D σ H h => by
  obtain ⟨U, M, s, env, r, n, p⟩ := h
  simp only [evS] at p
  refine ⟨U, M, s, env, r, n, p.bind.mono fun b M1 H1 s1 t1 r1 p1 => ?_⟩
  cases b with
  | true =>
    rw [if_pos rfl]
    exact ⟨U, M1, s1, env, r1, n.step t1, p1.mono fun o M2 H2 s2 t2 r2 q => q.from t1 r1⟩
  | false =>
    rw [if_neg (by decide)]
    exact ⟨U, M1, s1, env, r1, n.step t1, p1.mono fun o M2 H2 s2 t2 r2 q => q.from t1 r1⟩
/-- what the handler does, by the error in hand -/
def tH (w : World) (K : PySem.W.Frag) (n : Nat) (cl : Nat → Addr) (C : Callf) (ss : Ss) (a : Addr) (cls : Value) (d : Option Addr) : TS := fun D σ H => ∃ c dd, c < n ∧ cls = .ref (cl c) ∧ d = some dd ∧ tSs w K ⟨n, cl, some (a, dd, c)⟩ (fun _ _ _ => False) C ss D σ H
theorem REnv.cur {ct' : CT} {w : World} {K : PySem.W.Frag} {U M : List Addr} {H : Hp} {σ : St} {env : Ve} (h0 : ct.cur = none) (h : REnv ct w K U M H σ env) : REnv ct' w K U M H σ env := ⟨h.len, fun i x e => by
  obtain ⟨v, h1, h2⟩ := h.at_ i x e
  refine ⟨v, h1, ?_⟩
  cases x with
  | val d => exact h2
  | ref i => exact h2
  | exn c d =>
    obtain ⟨a, dd, x, e1, _⟩ := h2
    rw [h0] at e1
    cases e1⟩
theorem RW.uncur {ct' : CT} {w : World} {K : PySem.W.Frag} {U M : List Addr} {H : Hp} {v : V} {x : W} (hx : ∀ c d, x ≠ .exn c d) (h : RW ct' w K U M H v x) : RW ct w K U M H v x := by
  cases x with
  | val d => exact h
  | ref i => exact h
  | exn c d => exact absurd rfl (hx c d)
theorem REnv.clean {ct' : CT} {w : World} {K : PySem.W.Frag} {U M : List Addr} {H : Hp} {σ : St} {env : Ve} (h : REnv ct' w K U M H σ env) : REnv ct w K U M H σ (noExn env) := by
  refine ⟨by rw [noExn, List.length_map]; exact h.len, fun j x e => ?_⟩
  unfold noExn at e
  rw [List.getElem?_map] at e
  cases q : env[j]? with
  | none =>
    rw [q] at e
    cases e
  | some o =>
    rw [q] at e
    cases o with
    | none => cases e
    | some y =>
      cases y with
      | exn c d => cases e
      | val d =>
        cases e
        obtain ⟨v, h1, h2⟩ := h.at_ j _ q
        exact ⟨v, h1, h2⟩
      | ref k =>
        cases e
        obtain ⟨v, h1, h2⟩ := h.at_ j _ q
        exact ⟨v, h1, h2⟩
/-- the rule: B the class that is caught; all errors told of are of it -/
theorem s_try {n x : Str} {B : Addr} {np : Pos} {b₀ : Stmt} {suite : List Stmt} {bb hh : Ss} (h0 : ct.cur = none) (hs : X.stack = X.env :: X.outer) (hf : X.env.frame = some X.env.locals) (hN : X.N.Nodup) (hi : X.N[i]? = some n) (hln : X.env.kindOf n = some .local)
    (hc : Names X x (.ref B)) (hB : ∀ c, c < ct.n → PySem.W.exmOne X.K (.ref (ct.cls c)) (.ref B) = some true) (tk : Takes X (wE Er))
    (hb : ∀ (W : WX) (pn : List (Addr × Obj)) (xe : Value → Shared → Prop), Takes (X.tr pn xe) W → PSs (X.tr pn xe) body (tB X.w X.K ct W (evSs C bb)))
    (hsu : ∀ (a : Addr) (oe : Obj) (c : Nat) (dd : Addr) (pn : List (Addr × Obj)), c < ct.n → Zc (.ref (ct.cls c)) (some dd) oe → (∃ vs, oe.data = .fields vs) → PSs (X.suite a ((a, oe) :: pn)) (b₀ :: suite) (tSs X.w X.K ⟨ct.n, ct.cls, some (a, dd, c)⟩ (fun _ _ _ => False) C hh)) :
    PS X (.Try body [.ExceptHandler (some (.Name x np)) (some n) (b₀ :: suite) p'] [] [] pos) (tS X.w X.K ct Er C (.tryS bb i hh)) :=
  psi (ps_try_as (ts := tH X.w X.K ct.n ct.cls C hh) hs hf hN hi hln hc tk (fun W pn xe t _ => hb W pn xe t) (fun a oe cls d pn hz hd => ⟨fun pins s σ H D I h => by
    obtain ⟨c, dd, hcn, e1, e2, h⟩ := h
    subst e1
    subst e2
    exact (hsu a oe c dd pn hcn hz hd).run pins s σ H D I h⟩)) fun D σ H h => by
  obtain ⟨U, M, s, env, r, m, p⟩ := h
  simp only [evS] at p
  refine ⟨U, M, s, env, r, m, ?_⟩
  cases e : evSs C bb env s with
  | stuck =>
    rw [e] at p
    exact p.elim
  | ok o s1 =>
    rw [e] at p
    cases o with
    | nx env1 =>
      intro M' H' t1 r1 q
      subst q
      exact p M' H' t1 r1 σ (m.step t1)
    | rt x => exact p
    | rtN xs => exact p
    | brk env1 => exact p.elim
    | ct env1 => exact p.elim
  | exc c d s1 =>
    rw [e] at p
    simp only at p
    intro M' H' cls dd t1 r1 hx
    obtain ⟨⟨hcn, rfl⟩, x1, v, rfl, hx1, hx2, hx3⟩ := hx
    refine ⟨true, hB c hcn, fun _ a ha => ⟨c, x1, hcn, rfl, rfl, U, M', s1, env.set i (some (.exn c d)), r1, ?_, ?_⟩, fun z => by cases z⟩
    · refine REnv.set (REnv.cur h0 (m.step t1)) ?_
      exact ⟨a, x1, v, rfl, rfl, hx1, hx2, hx3⟩
    · cases q : evSs C hh (env.set i (some (.exn c d))) s1 with
      | stuck =>
        rw [q] at p
        exact p.elim
      | exc c2 d2 s2 =>
        rw [q] at p
        exact p.elim
      | ok o s2 =>
        rw [q] at p
        intro M2 H2 t2 r2
        have tt := t1.comp r1 t2
        cases o with
        | nx env2 => 
          intro σ' n'
          exact p M2 H2 tt r2 _ (REnv.clean (REnv.unset n'))
        | rt x =>
          cases x with
          | exn _ _ => exact p.elim
          | val d => 
            intro v' h'
            exact p M2 H2 tt r2 v' h'
          | ref j => 
            intro v' h'
            exact p M2 H2 tt r2 v' h'
        | rtN xs => exact OutR.from (D := D) t1 r1 (p M2 H2 tt r2)
        | brk env2 =>
          intro σ' n'
          exact p M2 H2 tt r2 _ (REnv.clean (REnv.unset n'))
        | ct env2 =>
          intro σ' n'
          exact p M2 H2 tt r2 _ (REnv.clean (REnv.unset n'))
end
end
end MP
set_option maxRecDepth 100000
set_option maxHeartbeats 4000000
/-! MPErr3: what is looked at behind the top, of errors. -/
namespace MP
open PySem PySem.Spec L2
open PyProof.Rows hiding St
abbrev ba := @He.ba
/-- the class's own object -/
def oexB (K : PySem.W.Frag) (C : Addr) : Bool := (match K.lookup C with
  | some ⟨.type t, _, .cls cd, sl⟩ => decide (t = "type") && (match cd.mro, sl.toList with
    | .ref C' :: bm, [_, _, _, _, some (.builtin n), _] => decide (C' = C) && (decide (n = "ValueError.__new__") && (!cd.hasDel && (cd.hasDict && PySem.HandSPX.refsVE bm)))
    | _, _ => false)
  | _ => false) &&
  (decide (PySem.W.findIn K (.ref C) "__setattr__" = some (some (.builtin "object.__setattr__"))) && (decide (PySem.W.subIn K (.ref C) (.type "BaseException") = some true) && (decide (PySem.W.typeIn K (.ref C) = some (.type "type")) && PySem.W.keepIn K (.ref C))))
theorem oexB_ok {K : PySem.W.Frag} {C : Addr} (h : oexB K C = true) : OexC K C := by
  obtain ⟨h0, h⟩ := ba h
  obtain ⟨h1, h⟩ := ba h
  obtain ⟨h2, h⟩ := ba h
  obtain ⟨h3, h4⟩ := ba h
  refine ⟨?_, of_decide_eq_true h1, of_decide_eq_true h2, of_decide_eq_true h3, h4⟩
  split at h0
  · rename_i t dd cd sl ho
    obtain ⟨q0, q⟩ := ba h0
    have et : t = "type" := of_decide_eq_true q0
    subst et
    split at q
    · rename_i C' bm k0 k1 k2 k3 n k5 hm hs
      obtain ⟨a1, q⟩ := ba q
      obtain ⟨a2, q⟩ := ba q
      obtain ⟨a3, q⟩ := ba q
      obtain ⟨a4, a5⟩ := ba q
      have e1 : C' = C := of_decide_eq_true a1
      have e2 : n = "ValueError.__new__" := of_decide_eq_true a2
      subst e1 e2
      obtain ⟨nm, bs, mro, ns, qn, hd, sn, sub, ab, col, del⟩ := cd
      dsimp only at hm a3 a4
      have e3 : del = false := by
        cases del with
        | false => rfl
        | true => cases a3
      have e4 : hd = true := a4
      subst hm e3 e4
      have hsl : sl = #[k0, k1, k2, k3, some (.builtin "ValueError.__new__"), k5] := by
        obtain ⟨l⟩ := sl
        simp only at hs
        rw [hs]
      subst hsl
      exact ⟨_, _, _, _, _, _, _, _, _, _, _, _, _, _, _, ho, a5⟩
    · cases q
  · cases h0
/-- the __init__ of the class at D: its code, its cell -/
def initB (K : PySem.W.Frag) (file : Str) (D fI : Addr) : Bool := match K.lookup fI with
  | some ⟨_, _, .func fd, _⟩ => (match fd.code with
      | .ref cda => (match K.lookup cda with
        | some ⟨_, _, .fields vs, _⟩ => (match vs.toList[2]? with
          | some (Value.str z _) => decide (z = file)
          | _ => false) && PySem.W.codeIn K (.ref cda) fd.qualname
        | _ => false)
      | _ => false) && (match fd.closure with
      | [(n, cc)] => decide (n = ("__class__" : Str)) && (match K.lookup cc with
        | some ⟨_, _, .cell (some (.ref D')), _⟩ => decide (D' = D)
        | _ => false)
      | _ => false)
  | _ => false
theorem initB_ok {K : PySem.W.Frag} {file : Str} {D fI : Addr} (h : initB K file D fI = true) : ∃ fd, (∃ oc od osl, K.lookup fI = some ⟨oc, od, .func fd, osl⟩) ∧
    (∃ cda ccl cdd vs ccs tf, fd.code = .ref cda ∧ K.lookup cda = some ⟨ccl, cdd, .fields vs, ccs⟩ ∧ vs[2]? = some (.str file tf) ∧ PySem.W.codeIn K (.ref cda) fd.qualname = true) ∧
    ∃ cc cl cld csl, fd.closure = [(("__class__" : Str), cc)] ∧ K.lookup cc = some ⟨cl, cld, .cell (some (.ref D)), csl⟩ := by
  unfold initB at h
  split at h
  · rename_i oc od fd osl ho
    obtain ⟨h1, h2⟩ := ba h
    refine ⟨fd, ⟨_, _, _, ho⟩, ?_, ?_⟩
    · split at h1
      · rename_i cda hc
        split at h1
        · rename_i ccl cdd vs ccs hk
          obtain ⟨a1, a2⟩ := ba h1
          split at a1
          · rename_i z tf hz
            have e : z = file := of_decide_eq_true a1
            subst e
            exact ⟨cda, ccl, cdd, vs, ccs, tf, hc, hk, by rw [← Array.getElem?_toList]; exact hz, a2⟩
          · cases a1
        · cases h1
      · cases h1
    · split at h2
      · rename_i n cc hcl
        obtain ⟨a1, a2⟩ := ba h2
        have e : n = ("__class__" : Str) := of_decide_eq_true a1
        subst e
        split at a2
        · rename_i cl cld D' csl hk
          have e : D' = D := of_decide_eq_true a2
          subst e
          exact ⟨cc, cl, cld, csl, hcl, hk⟩
        · cases a2
      · cases h2
  · cases h
def errB (K : PySem.W.Frag) (file base x : Str) : Bool :=
  oexB K (He.ga K x) && (decide (PySem.W.findIn K (.ref (He.ga K x)) "__init__" = some (some (.ref (He.ma K (He.ga K base) "__init__")))) && (decide (PySem.W.typeIn K (.ref (He.ma K (He.ga K base) "__init__")) = some (.type "function")) &&
  (decide (PySem.W.findIn K (.ref (He.ga K x)) "value" = some none) && (decide (PySem.W.mroIn K (He.ga K x) (.ref (He.ga K base)) = some true) && ((PySem.W.clsIn K (He.ga K base)).isSome &&
  (decide (PySem.W.ks_superIn K (He.ga K x) (He.ga K base) "__init__" = some (some (.builtin "ValueError.__init__"))) && (decide (PySem.W.subIn K (.ref (He.ga K x)) (.type "ValueError") = some true) && (decide (PySem.W.nsIn K cStatics "thirdparty.any" = some none) &&
  (decide (PySem.W.nsIn K mainGlobals "super" = some none) && initB K file (He.ga K base) (He.ma K (He.ga K base) "__init__"))))))))))
theorem errB_ok {K : PySem.W.Frag} {file base x : Str} (h : errB K file base x = true) : ∃ fd, (∃ oc od osl, K.lookup (He.ma K (He.ga K base) "__init__") = some ⟨oc, od, .func fd, osl⟩) ∧ ErrC K file (He.ga K x) (He.ga K base) (He.ma K (He.ga K base) "__init__") fd := by
  obtain ⟨h1, h⟩ := ba h
  obtain ⟨h2, h⟩ := ba h
  obtain ⟨h3, h⟩ := ba h
  obtain ⟨h4, h⟩ := ba h
  obtain ⟨h5, h⟩ := ba h
  obtain ⟨h6, h⟩ := ba h
  obtain ⟨h7, h⟩ := ba h
  obtain ⟨h8, h⟩ := ba h
  obtain ⟨h9, h⟩ := ba h
  obtain ⟨h10, h11⟩ := ba h
  obtain ⟨fd, f1, f2, f3⟩ := initB_ok h11
  exact ⟨fd, f1, oexB_ok h1, of_decide_eq_true h2, of_decide_eq_true h3, of_decide_eq_true h4, of_decide_eq_true h5, h6, of_decide_eq_true h7, of_decide_eq_true h8, of_decide_eq_true h9, of_decide_eq_true h10, f1, f2, f3⟩
/-- asked in a suite -/
def errXB (K : PySem.W.Frag) (C : Addr) : Bool :=
  xfB K C && (decide (PySem.W.findIn K (.ref C) "value" = some none) && (decide (PySem.W.findIn K (.ref C) "__class__" = some (some (.builtin "object.__class__"))) && (decide (PySem.W.specialIn K (.builtin "object.__class__") "__get__" = some (some (.builtin "getset_descriptor.__get__"))) &&
  (decide (PySem.W.takesIn K (.builtin "object.__class__") = some true) && decide (PySem.W.mroIn K C (.type "object") = some true)))))
theorem errXB_ok {K : PySem.W.Frag} {C : Addr} (h : errXB K C = true) : ErrX K C := by
  obtain ⟨h1, h⟩ := ba h
  obtain ⟨h2, h⟩ := ba h
  obtain ⟨h3, h⟩ := ba h
  obtain ⟨h4, h⟩ := ba h
  obtain ⟨h5, h6⟩ := ba h
  have x := xfB_ok h1
  exact ⟨x, of_decide_eq_true h2, x.ga, x.gg, x.exC, x.hdC, of_decide_eq_true h3, of_decide_eq_true h4, of_decide_eq_true h5, of_decide_eq_true h6⟩
/-- all errors of a program: by their names, with the class that they are all of -/
abbrev InitW : Type := Option (Arguments × FuncBody × Scope × Addr × Addr × Value)
def initW (K : PySem.W.Frag) (base : Str) : InitW := match K.lookup (He.ma K (He.ga K base) "__init__") with
  | some ⟨_, _, .func fd, _⟩ => some (fd.params, fd.body, fd.scope, fd.globals, fd.builtins, fd.defaults)
  | _ => none
def gloB (K : PySem.W.Frag) (x : Str) : Bool := He.eqO (PySem.W.nsIn K mainGlobals x) (some (some (.ref (He.ga K x))))
def errsB (K : PySem.W.Frag) (file base : Str) (er : List Str) : Bool :=
  gloB K base && er.all fun x => gloB K x && (errB K file base x && (errXB K (He.ga K x) && (decide (PySem.W.exmOne K (.ref (He.ga K x)) (.ref (He.ga K base)) = some true) &&
    er.all fun y => decide (PySem.W.kitOne K (.ref (He.ga K x)) (.ref (He.ga K y)) = some (decide (x = y))))))
/-- an __init__ as a text says -/
structure InitOk (params : Arguments) (body : FuncBody) (scope : Scope) (p0 p1 p2 p3 p4 p5 p6 p7 p8 p9 : Pos) (z : Str) (j : Nat) : Prop where
  ok : ∀ fd : FuncData, fd.params = params → fd.body = body → fd.scope = scope → fd.globals = mainGlobals → fd.builtins = builtinsNs → fd.defaults = .none → InitT fd p0 p1 p2 p3 p4 p5 p6 p7 p8 p9 z j
/-- what is known of the errors -/
structure EF (prog : Program) (K : PySem.W.Frag) (mg : Str → Option Value) (ct : CT) (er : List Str) (base : Str) : Prop where
  n : ct.n = er.length
  cur : ct.cur = none
  htop : (prog.main.scope.names.lookup ("super" : Str)).isSome = false
  glo : ∀ c x, er[c]? = some x → mg x = some (.ref (ct.cls c))
  er : ∀ c, c < ct.n → ∃ D fI fd p0 p1 p2 p3 p4 p5 p6 p7 p8 p9 z j, ErrC K prog.main.file (ct.cls c) D fI fd ∧ InitT fd p0 p1 p2 p3 p4 p5 p6 p7 p8 p9 z j
  ex : ∀ c, c < ct.n → ErrX K (ct.cls c)
  kit : ∀ c j, c < ct.n → j < ct.n → PySem.W.kitOne K (.ref (ct.cls c)) (.ref (ct.cls j)) = some ([j].contains c)
  base : ∃ B, mg base = some (.ref B) ∧ ∀ c, c < ct.n → PySem.W.exmOne K (.ref (ct.cls c)) (.ref B) = some true
def ctOf (K : PySem.W.Frag) (er : List Str) : CT := ⟨er.length, fun c => He.ga K (er[c]?.getD ""), none⟩
theorem ef_of {prog : Program} {K : PySem.W.Frag} {h : Heap} {mg : Str → Option Value} {er : List Str} {base : Str} {params : Arguments} {body : FuncBody} {scope : Scope} {p0 p1 p2 p3 p4 p5 p6 p7 p8 p9 : Pos} {z : Str} {j : Nat} (X : K.In h) (G : h.Ns mainGlobals mg) (hd : er.Nodup)
    (htop : (prog.main.scope.names.lookup ("super" : Str)).isSome = false) (c : errsB K prog.main.file base er = true) (w : initW K base = some (params, body, scope, mainGlobals, builtinsNs, .none)) (Z : InitOk params body scope p0 p1 p2 p3 p4 p5 p6 p7 p8 p9 z j) : EF prog K mg (ctOf K er) er base := by
  obtain ⟨c1, c2⟩ := ba c
  have each : ∀ i, i < er.length → ∃ x, er[i]? = some x ∧ (ctOf K er).cls i = He.ga K x ∧ gloB K x = true ∧ errB K prog.main.file base x = true ∧ errXB K (He.ga K x) = true ∧ PySem.W.exmOne K (.ref (He.ga K x)) (.ref (He.ga K base)) = some true ∧
      ∀ y ∈ er, PySem.W.kitOne K (.ref (He.ga K x)) (.ref (He.ga K y)) = some (decide (x = y)) := fun i hi => by
    have q := List.all_eq_true.mp c2 er[i] (List.getElem_mem hi)
    obtain ⟨q1, q⟩ := ba q
    obtain ⟨q2, q⟩ := ba q
    obtain ⟨q3, q⟩ := ba q
    obtain ⟨q4, q5⟩ := ba q
    exact ⟨er[i], List.getElem?_eq_getElem hi, by
      show He.ga K (er[i]?.getD "") = _
      rw [List.getElem?_eq_getElem hi] <;> rfl, q1, q2, q3, of_decide_eq_true q4, fun y hy => of_decide_eq_true (List.all_eq_true.mp q5 y hy)⟩
  refine ⟨rfl, rfl, htop, fun i x e => ?_, fun i hi => ?_, fun i hi => ?_, fun i k hi hk => ?_, He.ga K base, PySem.W.mg_of X G (He.eqO_ok c1), fun i hi => ?_⟩
  · obtain ⟨y, e1, e2, g, _⟩ := each i (List.getElem?_eq_some_iff.mp e).1
    rw [e] at e1
    cases e1
    rw [e2]
    exact PySem.W.mg_of X G (He.eqO_ok g)
  · obtain ⟨y, e1, e2, g, b, _⟩ := each i hi
    obtain ⟨fd, ⟨oc, od, osl, f1⟩, E⟩ := errB_ok b
    rw [e2]
    unfold initW at w
    rw [f1] at w
    have w2 : (some (fd.params, fd.body, fd.scope, fd.globals, fd.builtins, fd.defaults) : InitW) = some (params, body, scope, mainGlobals, builtinsNs, .none) := w
    simp only [Option.some.injEq, Prod.mk.injEq] at w2
    obtain ⟨w3, w4, w5, w6, w7, w8⟩ := w2
    exact ⟨_, _, fd, _, _, _, _, _, _, _, _, _, _, _, _, E, Z.ok fd w3 w4 w5 w6 w7 w8⟩
  · obtain ⟨y, e1, e2, g, b, x, _⟩ := each i hi
    rw [e2]
    exact errXB_ok x
  · obtain ⟨y, e1, e2, g, b, x, m, kk⟩ := each i hi
    obtain ⟨y2, e3, e4, _⟩ := each k hk
    rw [e2, e4, kk y2 (List.mem_of_getElem? e3)]
    congr 1
    by_cases hik : i = k
    · subst hik
      rw [e1] at e3
      cases e3
      simp
    · have : y ≠ y2 := fun e => by
        subst e
        have h1 := List.getElem?_eq_some_iff.mp e1
        have h2 := List.getElem?_eq_some_iff.mp e3
        obtain ⟨l1, g1⟩ := h1
        obtain ⟨l2, g2⟩ := h2
        exact hik ((List.getElem_inj hd).mp (g1.trans g2.symm))
      simp [this, hik]
  · obtain ⟨y, e1, e2, g, b, x, m, kk⟩ := each i hi
    rw [e2]
    exact m
end MP
set_option maxRecDepth 100000
set_option maxHeartbeats 4000000
/-! MPErr4: the rules of errors as a derivation uses them; the Hook with errors. -/
namespace MP
open PySem PySem.Spec L2
open PyProof.Rows hiding St
section
variable {X : Cx} {e : Expr} {ea : E} {C : Callf} {ct : CT} {Er : XK} {Wx : WX} {pos p p' p2 : Pos} {x y n base : Str} {i c k : Nat} {er fr : List Str} {cs : List (Str × PyData)} {ts : List (Str × List (Str × PyData))}
theorem EF.lt {prog : Program} {K : PySem.W.Frag} {mg : Str → Option Value} (G : EF prog K mg ct er base) (h : er[c]? = some x) : c < ct.n := by
  rw [G.n]
  exact (List.getElem?_eq_some_iff.mp h).1
theorem s_raiseF (G : EF X.prog X.K X.mg ct er base) (c : Nat) (h : er[c]? = some x) (o : XOk X k (wE Er)) (hg : Gl X x) (he : PE X e (tE X.w X.K ct (wE Er) C ea)) (hdb : (x == ("__debug__" : Str)) = false) (hst : starEach [e] X.env = (false, eval e X.env) :: starEach [] X.env) :
    PS X (.Raise (some (.Call (.Name x p) [e] [] pos)) none p2) (tS X.w X.K ct Er C (.raise c ea)) := by
  obtain ⟨D, fI, fd, p0, p1, p2, p3, p4, p5, p6, p7, p8, p9, z, j, E, Z⟩ := G.er c (G.lt h)
  exact s_raiseW (G.lt h) o.calm o.tk (pmk_err E Z G.htop o.room hg (G.glo c x h) he hdb hst)
theorem s_tryF {np : Pos} {b₀ : Stmt} {body suite : List Stmt} {bb hh : Ss} (G : EF X.prog X.K X.mg ct er base) (o : XOk X k (wE Er)) (hs : X.stack = X.env :: X.outer) (hf : X.env.frame = some X.env.locals) (hi : X.N[i]? = some n) (hln : X.env.kindOf n = some .local)
    (hg : Gl X base) (hdb : (base == ("__debug__" : Str)) = false)
    (hb : ∀ (W : WX) (pn : List (Addr × Obj)) (xe : Value → Shared → Prop), XOk (X.tr pn xe) k W → PSs (X.tr pn xe) body (tB X.w X.K ct W (evSs C bb)))
    (hsu : ∀ (a : Addr) (oe : Obj) (c : Nat) (dd : Addr) (pn : List (Addr × Obj)), c < ct.n → Zc (.ref (ct.cls c)) (some dd) oe → (∃ vs, oe.data = .fields vs) → PSs (X.suite a ((a, oe) :: pn)) (b₀ :: suite) (tSs X.w X.K ⟨ct.n, ct.cls, some (a, dd, c)⟩ (fun _ _ _ => False) C hh)) :
    PS X (.Try body [.ExceptHandler (some (.Name base np)) (some n) (b₀ :: suite) p'] [] [] pos) (tS X.w X.K ct Er C (.tryS bb i hh)) := by
  obtain ⟨B, hB, hX⟩ := G.base
  exact s_try G.cur hs hf o.nd hi hln ⟨hg, hdb, .inl hB⟩ hX o.tk (fun W pn xe t => hb W pn xe ⟨o.room, o.gs, o.calm, t, o.nd⟩) hsu
section
variable {a dd : Addr} {oe : Obj} {pn : List (Addr × Obj)}
theorem x_xvalF {te : E} (G : EF X.prog X.K X.mg ct er base) (hc : c < ct.n) (hz : Zc (.ref (ct.cls c)) (some dd) oe) (hf : ∃ vs, oe.data = .fields vs) (he : PE (X.suite a ((a, oe) :: pn)) e (tE X.w X.K ⟨ct.n, ct.cls, some (a, dd, c)⟩ Wx C te)) (hb : attributeBase e "value" X.env (eval e X.env) = eval e X.env) :
    PE (X.suite a ((a, oe) :: pn)) (.Attribute e "value" pos) (tE X.w X.K ⟨ct.n, ct.cls, some (a, dd, c)⟩ Wx C (.xval te)) := x_xval (G.ex c hc) hz hf he hb
theorem x_xisF {te : E} (G : EF X.prog X.K X.mg ct er base) (F : Facts X.mg X.K X.w fr cs ts) (hc : c < ct.n) (hz : Zc (.ref (ct.cls c)) (some dd) oe) (hf : ∃ vs, oe.data = .fields vs) (i j : Nat) (h : fr[i]? = some "isinstance") (hj : er[j]? = some y) (hg : Gl X "isinstance") (hgy : Gl X y) (hd : (y == ("__debug__" : Str)) = false)
    (he : PE (X.suite a ((a, oe) :: pn)) e (tE X.w X.K ⟨ct.n, ct.cls, some (a, dd, c)⟩ Wx C te)) (h1 : starEach [e, .Name y p2] X.env = (false, eval e X.env) :: starEach [.Name y p2] X.env) (h2 : starEach [.Name y p2] X.env = (false, eval (.Name y p2) X.env) :: starEach [] X.env) :
    PE (X.suite a ((a, oe) :: pn)) (.Call (.Name "isinstance" p) [e, .Name y p2] [] pos) (tE X.w X.K ⟨ct.n, ct.cls, some (a, dd, c)⟩ Wx C (.xis te [j])) :=
  x_xis (G.ex c hc) (G.kit c j hc (G.lt hj)) hz hf hg (F.fre i _ h) hgy (G.glo j y hj) hd he h1 h2
theorem suite_gs (h : X.A.guards = some []) : (X.suite a pn).A.guards = some [] := by
  rw [← h]
  rfl
theorem suite_hu (h : X.A.units + 64 < cLine) : (X.suite a pn).A.units + 64 < cLine := h
theorem x_reprH (F : Facts X.mg X.K X.w fr cs ts) (o : XOk X k Wx) (i : Nat) (h : fr[i]? = some "repr") (hg : Gl X "repr") {W2 : WX} {ct' : CT} (ha : PE (X.suite a pn) e (tE X.w X.K ct' W2 C ea)) (he : starEach [e] X.env = (false, eval e X.env) :: starEach [] X.env) :
    PE (X.suite a pn) (.Call (.Name "repr" p) [e] [] pos) (tE X.w X.K ct' W2 C (.bi .repr (.cons ea .nil))) := x_reprG (X := X.suite a pn) F (suite_gs o.gs) (suite_hu o.hu) i h hg ha he
end
end
/-! ### the Hook -/
abbrev AlE : Type := Al × Bool × InitW
def obsKE (fa : List He.Fa) (fn : List He.DefD) (cs ts : List Str) (file base : Str) (er : List Str) (K : PySem.W.Frag) : AlE := (obsK fa fn cs ts K, errsB K file base er, initW K base)
def valKE (fn : List He.DefD) (cs : List PyData) (ts : List (List (Str × PyData))) (iw : InitW) (w : World) : AlE := (valK fn cs ts w, true, iw)
def frE (n : Nat) (g : Addr → Option Obj) : PySem.W.Frag := He.frG g (cStatics :: He.asD g n)
def obsKGE (n : Nat) (fa : List He.Fa) (fn : List He.DefD) (cs ts : List Str) (file base : Str) (er : List Str) (g : Addr → Option Obj) : AlE := obsKE fa fn cs ts file base er (frE n g)
def hookKE (n : Nat) (fa : List He.Fa) (fn : List He.DefD) (cs : List (Str × PyData)) (ts : List (Str × List (Str × PyData))) (file base : Str) (er : List Str) (iw : InitW) : PySem.W.Hook where
  α := AlE
  obs := fun s => obsKGE n fa fn (cs.map Prod.fst) (ts.map Prod.fst) file base er s.heap.get?
  val := fun w => valKE fn (cs.map Prod.snd) (ts.map Prod.snd) iw w
  says := fun w h => ∃ K : PySem.W.Frag, K.In h ∧ obsKE fa fn (cs.map Prod.fst) (ts.map Prod.fst) file base er K = valKE fn (cs.map Prod.snd) (ts.map Prod.snd) iw w
  of := fun _ _ e => ⟨_, He.frG_in, e⟩
  keeps := fun _ _ _ ⟨K, hK, c⟩ k => ⟨K, PySem.W.Frag.In.keeps hK k, c⟩
theorem obsKGE_eq {n : Nat} {fa : List He.Fa} {fn : List He.DefD} {cs : List (Str × PyData)} {ts : List (Str × List (Str × PyData))} {file base : Str} {er : List Str} {iw : InitW} {g : Addr → Option Obj} {s : Shared} (h : ∀ a, g a = s.heap.get? a) : obsKGE n fa fn (cs.map Prod.fst) (ts.map Prod.fst) file base er g = (show AlE from (hookKE n fa fn cs ts file base er iw).obs s) := by
  have e : g = s.heap.get? := funext h
  rw [e] <;> rfl
theorem toldE {sig : List Sig} {cs : List (Str × PyData)} {ts : List (Str × List (Str × PyData))} {fr : List Str} {file base : Str} {er : List Str} {iw : InitW} {w : World} {K : PySem.W.Frag} {h : Heap} {mg : Str → Option Value} (X : K.In h) (G : h.Ns mainGlobals mg)
    (c : obsKE (faD sig ts fr) (sig.map mkD) (cs.map Prod.fst) (ts.map Prod.fst) file base er K = valKE (sig.map mkD) (cs.map Prod.snd) (ts.map Prod.snd) iw w)
    (bn : Bods (fun _ g => ∀ (f : Addr) (fd : FuncData), FunD K g.1 g.1 (defArgs g.2.2) (defBody g.2.2) (defScope g.2.2) [] [] f fd → BindsN K fd g.2.1) 0 sig) :
    (∃ (fa : Nat → Addr) (fv : Nat → FuncData), ∀ (i : Nat) (g : Sig), sig[i]? = some g → DefF K mg g (fa i) (fv i)) ∧ Facts mg K w fr cs ts ∧ errsB K file base er = true ∧ initW K base = iw := by
  have c1 := congrArg (fun z : AlE => z.1) c
  have c2 : errsB K file base er = true := congrArg (fun z : AlE => z.2.1) c
  have c3 : initW K base = iw := congrArg (fun z : AlE => z.2.2) c
  obtain ⟨a, b⟩ := told X G c1 bn
  exact ⟨a, b, c2, c3⟩
end MP
/-! MPWp: what a run comes to. -/
namespace MP
open PySem
/-- the run comes to an end, where Q is -/
def Wp {α : Type} (r : Res α) (Q : α → Stk → Prop) : Prop := match r with
  | .ok a s => Q a s
  | _ => False
section
variable {α β : Type} {r : Res α} {f : α → Stk → Res β} {s : Stk} {a : α} {Q Q' : α → Stk → Prop} {R : β → Stk → Prop}
@[simp] theorem wp_ok : Wp (.ok a s) Q = Q a s := (rfl)
@[simp] theorem wp_stuck : Wp (.stuck : Res α) Q = False := (rfl)
theorem Wp.mono (h : Wp r Q) (k : ∀ a s, Q a s → Q' a s) : Wp r Q' := by
  cases r with
  | ok a s => exact k a s h
  | exc c d s => exact h
  | stuck => exact h
theorem Wp.ex (h : Wp r Q) : ∃ a s, r = .ok a s ∧ Q a s := by
  cases r with
  | ok a s => exact ⟨a, s, rfl, h⟩
  | exc c d s => exact h.elim
  | stuck => exact h.elim
@[simp] theorem wp_bind : Wp (r.bind f) R = Wp r fun a s => Wp (f a s) R := by
  cases r <;> rfl
theorem Wp.of (h : ∃ s, r = .ok a s ∧ Q a s) : Wp r Q := by
  obtain ⟨s, e, q⟩ := h
  rw [e]
  exact q
end
end MP
/-! MPSimp2: more of how a run is reckoned. -/
namespace MP
open PySem
theorem ofS_inj {a b : String} (h : Str.ofString a = Str.ofString b) : a = b := by
  rw [Str.ofString_eq_toList, Str.ofString_eq_toList] at h
  have h1 : (a.toList.map Char.toNat) = b.toList.map Char.toNat := by
    have := congrArg (fun z : Str => z.cps.toList) h
    simpa using this
  have h2 : a.toList = b.toList := List.map_inj_right (fun x y e => Char.ext (UInt32.toNat_inj.mp e)) |>.mp h1
  exact String.toList_inj.mp h2
@[simp] theorem ofS_eq {a b : String} : (Str.ofString a = Str.ofString b) = (a = b) := propext ⟨ofS_inj, congrArg _⟩
@[simp] theorem ofS_beq {a b : String} : (Str.ofString a == Str.ofString b) = (a == b) := by
  by_cases h : a = b
  · subst h
    simp
  · rw [beq_eq_false_iff_ne.mpr h]
    exact beq_eq_false_iff_ne.mpr fun e => h (ofS_inj e)
section
variable {x y : Str} {i j : Int} {a b : Bool} {xs ys : List PyData} {d e : PyData}
@[simp] theorem eqv_str : PyData.eqv (.str x) (.str y) = decide (x = y) := by
  simp only [PyData.eqv]
  by_cases h : x = y
  · subst h
    simp
  · rw [beq_eq_false_iff_ne.mpr h, decide_eq_false h]
@[simp] theorem eqv_int : PyData.eqv (.int i) (.int j) = decide (i = j) := by
  simp only [PyData.eqv]
  by_cases h : i = j
  · subst h
    simp
  · rw [beq_eq_false_iff_ne.mpr h, decide_eq_false h]
@[simp] theorem eqv_bl : PyData.eqv (.bool a) (.bool b) = decide (a = b) := by cases a <;> cases b <;> rfl
@[simp] theorem eqv_non : PyData.eqv .none .none = true := (rfl)
@[simp] theorem eqv_bi : PyData.eqv (.bool a) (.int j) = decide ((if a then 1 else 0) = j) := by
  simp only [PyData.eqv]
  by_cases h : (if a then 1 else 0) = j
  · rw [decide_eq_true h]
    exact beq_iff_eq.mpr h
  · rw [decide_eq_false h]
    exact beq_eq_false_iff_ne.mpr h
@[simp] theorem eqv_ib : PyData.eqv (.int i) (.bool b) = decide (i = (if b then 1 else 0)) := by
  simp only [PyData.eqv]
  by_cases h : i = (if b then 1 else 0)
  · rw [decide_eq_true h]
    exact beq_iff_eq.mpr h
  · rw [decide_eq_false h]
    exact beq_eq_false_iff_ne.mpr h
@[simp] theorem eqv_is : PyData.eqv (.int i) (.str x) = false := (rfl)
@[simp] theorem eqv_si : PyData.eqv (.str x) (.int i) = false := (rfl)
@[simp] theorem eqv_ns : PyData.eqv .none (.str x) = false := (rfl)
@[simp] theorem eqv_sn : PyData.eqv (.str x) .none = false := (rfl)
@[simp] theorem eqv_bs : PyData.eqv (.bool a) (.str x) = false := (rfl)
@[simp] theorem eqv_sb : PyData.eqv (.str x) (.bool a) = false := (rfl)
@[simp] theorem eqv_tt : PyData.eqv (.tuple xs) (.tuple ys) = PyData.eqvAll xs ys := (rfl)
@[simp] theorem eqv_ll : PyData.eqv (.list xs) (.list ys) = PyData.eqvAll xs ys := (rfl)
@[simp] theorem eqvA_nil : PyData.eqvAll [] [] = true := (rfl)
@[simp] theorem eqvA_cons : PyData.eqvAll (d :: xs) (e :: ys) = (PyData.eqv d e && PyData.eqvAll xs ys) := (rfl)
@[simp] theorem dep_non : PyData.depth .none = 0 := by simp only [PyData.depth]
@[simp] theorem dep_bl : PyData.depth (.bool a) = 0 := by simp only [PyData.depth]
@[simp] theorem dep_int : PyData.depth (.int i) = 0 := by simp only [PyData.depth]
@[simp] theorem dep_str : PyData.depth (.str x) = 0 := by simp only [PyData.depth]
@[simp] theorem dep_tup : PyData.depth (.tuple xs) = PyData.depthAll xs + 1 := by simp only [PyData.depth]
@[simp] theorem dep_lst : PyData.depth (.list xs) = PyData.depthAll xs + 1 := by simp only [PyData.depth]
@[simp] theorem depA_nil : PyData.depthAll [] = 0 := by simp only [PyData.depthAll]
@[simp] theorem depA_cons : PyData.depthAll (d :: xs) = max d.depth (PyData.depthAll xs) := by simp only [PyData.depthAll]
/-- the right side is shallow -/
@[simp] theorem depthOk_r (h : decide (e.depth ≤ 60) = true) : depthOk d e = (!isDict d && !isDict e) := by
  have h1 := of_decide_eq_true h
  unfold depthOk
  rw [decide_eq_true (Nat.le_trans (Nat.min_le_right _ _) h1), Bool.true_and]
theorem depthOk_l (h : decide (d.depth ≤ 60) = true) : depthOk d e = (!isDict d && !isDict e) := by
  have h1 := of_decide_eq_true h
  unfold depthOk
  rw [decide_eq_true (Nat.le_trans (Nat.min_le_left _ _) h1), Bool.true_and]
/-! items -/
section
variable {α : Type} {p q r t u : α} {l : List α}
@[simp] theorem at_0 : L2.atI (p :: l) 0 = some p := by simp [L2.atI, L2.ixN]
@[simp] theorem at_1 : L2.atI (p :: q :: l) 1 = some q := by
  have : (1 : Int) < (l.length : Int) + 1 + 1 := by omega
  simp [L2.atI, L2.ixN, this]
@[simp] theorem at_2 : L2.atI (p :: q :: r :: l) 2 = some r := by
  have : (2 : Int) < (l.length : Int) + 1 + 1 + 1 := by omega
  simp [L2.atI, L2.ixN, this]
@[simp] theorem at_3 : L2.atI (p :: q :: r :: t :: l) 3 = some t := by
  have : (3 : Int) < (l.length : Int) + 1 + 1 + 1 + 1 := by omega
  simp [L2.atI, L2.ixN, this]
/-- an item by its place -/
theorem at_nat {l : List α} {i : Int} {d : α} (h0 : 0 ≤ i) (h : l[i.toNat]? = some d) : L2.atI l i = some d := by
  have h1 := (List.getElem?_eq_some_iff.mp h).1
  have h2 : i < l.length := by omega
  unfold L2.atI L2.ixN
  rw [if_pos h0, if_pos h2]
  exact h
end
/-! comprehensions -/
theorem comp_pure {f : PyData → Stk → Res (Option PyData)} {g : PyData → PyData} {s : Stk} : ∀ {ds : List PyData}, (∀ d ∈ ds, f d s = .ok (some (g d)) s) → compL f ds s = .ok (ds.map g) s
  | [], _ => rfl
  | d :: ds, h => by
    unfold compL
    rw [h d (List.mem_cons_self ..)]
    simp only
    rw [comp_pure fun d hd => h d (List.mem_cons_of_mem _ hd)]
    rfl
theorem bools_map {g : PyData → Bool} : ∀ {ds : List PyData}, bools (ds.map fun d => .bool (g d)) = some (ds.map g)
  | [] => rfl
  | d :: ds => by
    show (bools (ds.map fun d => .bool (g d))).map _ = _
    rw [bools_map]
    rfl
theorem all_map {g : PyData → Bool} {ds : List PyData} : bfn .all [.list (ds.map fun d => .bool (g d))] = some (.bool (ds.all g)) := by
  rw [bfn_all, bools_map, Option.map_some, List.all_map]
  rfl
end
@[simp] theorem natc0 (n : Nat) : ((n : Int) + 1 = 0) = False := eq_false (by omega)
@[simp] theorem natc1 (n m : Nat) : ((n : Int) + 1 = (m : Int) + 1) = (n = m) := propext (by omega)
@[simp] theorem natc (n m : Nat) : ((n : Int) = (m : Int)) = (n = m) := propext (by omega)
@[simp] theorem cut_1 {α : Type} {x : α} {r : List α} : cutL (x :: r) (some 1) none = r := by simp [cutL, HT.sIx]
@[simp] theorem lenOk_le {m : Nat} (h : m ≤ 1000000) : lenOk m = true := decide_eq_true (Nat.le_trans h (by decide))
end MP
/-! MPEv: the run in steps: what follows a step is a name, so that a step is reckoned first. -/
namespace MP
open PySem
section
variable {C : Callf} {env : Ve} {s s1 : Stk} {a b c i k e : E} {es ks : Es} {t t1 t2 : T} {n : N} {st : S} {ss sa sb : Ss} {o : Op} {p q : Cp} {f m : Nat} {lo hi : Oe} {g : Tg} {ii : I} {tt : Tt} {x y z w : W} {d d2 : PyData} {ws : List W} {xs ds : List PyData} {own : List Nat} {bb : Bi} {mm : Me} {perm : List Nat} {kvs : List (Str × PyData)} {j : Int} {tr : Bool} {pk : Ks}
/-! expressions -/
def vOp (f : Option PyData) : Stk → Res W := fun s => match f with
  | some r => .ok (.val r) s
  | none => .stuck
@[simp] theorem vOp_some : vOp (some d) s = .ok (.val d) s := (rfl)
@[simp] theorem vOp_none : vOp none s = .stuck := (rfl)
def k2 (h : PyData → PyData → Option PyData) (u v : Option PyData) : Stk → Res W := fun s => match u, v with
  | some d, some e => vOp (h d e) s
  | _, _ => .stuck
@[simp] theorem k2_some {h : PyData → PyData → Option PyData} : k2 h (some d) (some d2) s = vOp (h d d2) s := (rfl)
def kB2 (h : PyData → PyData → Option PyData) (x y : W) (s : Stk) : Res W := k2 h (x.view s) (y.view s) s
def kB1 (C : Callf) (h : PyData → PyData → Option PyData) (b : E) (env : Ve) (x : W) (s : Stk) : Res W := (evE C b env s).bind (kB2 h x)
@[simp] theorem kB2_eq {h : PyData → PyData → Option PyData} : kB2 h x y s = k2 h (x.view s) (y.view s) s := (rfl)
@[simp] theorem kB1_eq {h : PyData → PyData → Option PyData} : kB1 C h b env x s = (evE C b env s).bind (kB2 h x) := (rfl)
theorem bind_congr {α β : Type} {r : Res α} {f g : α → Stk → Res β} (h : ∀ a s, f a s = g a s) : r.bind f = r.bind g := by
  cases r with
  | ok a s => exact h a s
  | exc c d s => rfl
  | stuck => rfl
theorem two_eq {h : PyData → PyData → Option PyData} : ((evE C a env s).bind fun x s1 => (evE C b env s1).bind fun y s2 => match x.view s2, y.view s2 with
    | some d, some e => (Res.of s2 (h d e)).bind fun r s3 => (.ok (.val r) s3 : Res W)
    | _, _ => .stuck) = (evE C a env s).bind (kB1 C h b env) := by
  refine bind_congr fun x s1 => bind_congr fun y s2 => ?_
  show _ = k2 h (x.view s2) (y.view s2) s2
  cases x.view s2 with
  | none => rfl
  | some d =>
    cases y.view s2 with
    | none => rfl
    | some e =>
      show (Res.of s2 (h d e)).bind _ = vOp (h d e) s2
      cases h d e <;> rfl
@[simp] theorem ev_var : evE C (.var m) env s = match env[m]? with
  | some (some w) => .ok w s
  | _ => .stuck := by simp only [evE] <;> rfl
@[simp] theorem ev_cst : evE C (.cst d) env s = .ok (.val d) s := by simp only [evE]
@[simp] theorem ev_bin : evE C (.bin o a b) env s = (evE C a env s).bind (kB1 C (bop o) b env) := by
  simp only [evE]
  exact two_eq
@[simp] theorem ev_sub : evE C (.sub a b) env s = (evE C a env s).bind (kB1 C subD b env) := by
  simp only [evE]
  exact two_eq
def copD (p : Cp) (d e : PyData) : Option PyData := (cop p d e).map .bool
@[simp] theorem copD_eq : copD p d d2 = (cop p d d2).map .bool := (rfl)
@[simp] theorem ev_cmp : evE C (.cmp p a b) env s = (evE C a env s).bind (kB1 C (copD p) b env) := by
  simp only [evE]
  rw [← two_eq]
  refine bind_congr fun x s1 => bind_congr fun y s2 => ?_
  cases x.view s2 with
  | none => rfl
  | some d =>
    cases y.view s2 with
    | none => rfl
    | some e =>
      show (Res.of s2 (cop p d e)).bind _ = (Res.of s2 (copD p d e)).bind _
      unfold copD
      cases cop p d e <;> rfl
def kNeg (x : W) (s : Stk) : Res W := match x with
  | .val (.int i) => .ok (.val (.int (-i))) s
  | _ => .stuck
@[simp] theorem kNeg_int : kNeg (.val (.int j)) s = .ok (.val (.int (-j))) s := (rfl)
@[simp] theorem ev_neg : evE C (.neg a) env s = (evE C a env s).bind kNeg := by
  simp only [evE]
  rfl
/-- a chain -/
def kC3 (q : Cp) (y z : W) (s : Stk) : Res W := k2 (copD q) (y.view s) (z.view s) s
@[simp] theorem kC3_eq : kC3 q y z s = k2 (copD q) (y.view s) (z.view s) s := (rfl)
def kC2 (C : Callf) (q : Cp) (c : E) (env : Ve) (y : W) (r : Option Bool) (s : Stk) : Res W := match r with
  | some false => .ok (.val (.bool false)) s
  | some true => (evE C c env s).bind (kC3 q y)
  | none => .stuck
@[simp] theorem kC2_f : kC2 C q c env y (some false) s = .ok (.val (.bool false)) s := (rfl)
@[simp] theorem kC2_t : kC2 C q c env y (some true) s = (evE C c env s).bind (kC3 q y) := (rfl)
def kCv (C : Callf) (p q : Cp) (c : E) (env : Ve) (y : W) (u v : Option PyData) (s : Stk) : Res W := match u, v with
  | some d, some e => kC2 C q c env y (cop p d e) s
  | _, _ => .stuck
@[simp] theorem kCv_some : kCv C p q c env y (some d) (some d2) s = kC2 C q c env y (cop p d d2) s := (rfl)
def kC1 (C : Callf) (p q : Cp) (c : E) (env : Ve) (x y : W) (s : Stk) : Res W := kCv C p q c env y (x.view s) (y.view s) s
@[simp] theorem kC1_eq : kC1 C p q c env x y s = kCv C p q c env y (x.view s) (y.view s) s := (rfl)
def kC0 (C : Callf) (p q : Cp) (b c : E) (env : Ve) (x : W) (s : Stk) : Res W := (evE C b env s).bind (kC1 C p q c env x)
@[simp] theorem kC0_eq : kC0 C p q b c env x s = (evE C b env s).bind (kC1 C p q c env x) := (rfl)
@[simp] theorem ev_cmp2 : evE C (.cmp2 p q a b c) env s = (evE C a env s).bind (kC0 C p q b c env) := by
  simp only [evE]
  refine bind_congr fun x s1 => bind_congr fun y s2 => ?_
  show _ = kCv C p q c env y (x.view s2) (y.view s2) s2
  cases x.view s2 with
  | none => rfl
  | some d =>
    cases hy : y.view s2 with
    | none => rfl
    | some e =>
      show (Res.of s2 (cop p d e)).bind _ = kC2 C q c env y (cop p d e) s2
      cases cop p d e with
      | none => rfl
      | some r =>
        cases r with
        | false => rfl
        | true =>
          show (evE C c env s2).bind _ = (evE C c env s2).bind (kC3 q y)
          refine bind_congr fun z s4 => ?_
          show _ = k2 (copD q) (y.view s4) (z.view s4) s4
          cases y.view s4 with
          | none => rfl
          | some e' =>
            cases z.view s4 with
            | none => rfl
            | some g =>
              show (Res.of s4 (cop q e' g)).bind _ = vOp (copD q e' g) s4
              unfold copD
              cases cop q e' g <;> rfl
def kNot (tr : Bool) (s : Stk) : Res W := .ok (.val (.bool (!tr))) s
@[simp] theorem kNot_eq : kNot tr s = .ok (.val (.bool (!tr))) s := (rfl)
@[simp] theorem ev_not : evE C (.not t) env s = (evT C t env s).bind kNot := by
  simp only [evE]
  rfl
def kAnd (C : Callf) (b : E) (env : Ve) (x : W) (s : Stk) : Res W := match x with
  | .val (.bool false) => .ok (.val (.bool false)) s
  | .val (.bool true) => evE C b env s
  | _ => .stuck
@[simp] theorem kAnd_f : kAnd C b env (.val (.bool false)) s = .ok (.val (.bool false)) s := (rfl)
@[simp] theorem kAnd_t : kAnd C b env (.val (.bool true)) s = evE C b env s := (rfl)
@[simp] theorem ev_and : evE C (.and a b) env s = (evE C a env s).bind (kAnd C b env) := by
  simp only [evE]
  rfl
def kOr (C : Callf) (b : E) (env : Ve) (x : W) (s : Stk) : Res W := match x with
  | .val (.bool true) => .ok (.val (.bool true)) s
  | .val (.bool false) => evE C b env s
  | _ => .stuck
@[simp] theorem kOr_f : kOr C b env (.val (.bool true)) s = .ok (.val (.bool true)) s := (rfl)
@[simp] theorem kOr_t : kOr C b env (.val (.bool false)) s = evE C b env s := (rfl)
@[simp] theorem ev_or : evE C (.or a b) env s = (evE C a env s).bind (kOr C b env) := by
  simp only [evE]
  rfl
def kIte (C : Callf) (a b : E) (env : Ve) (tr : Bool) (s : Stk) : Res W := match tr with
  | true => evE C a env s
  | false => evE C b env s
@[simp] theorem kIte_t : kIte C a b env true s = evE C a env s := (rfl)
@[simp] theorem kIte_f : kIte C a b env false s = evE C b env s := (rfl)
@[simp] theorem ev_ite : evE C (.ite t a b) env s = (evT C t env s).bind (kIte C a b env) := by
  simp only [evE]
  rfl
def kTup (ws : List W) (s : Stk) : Res W := match vals ws with
  | some ds => .ok (.val (.tuple ds)) s
  | none => .stuck
@[simp] theorem kTup_eq (h : vals ws = some ds) : kTup ws s = .ok (.val (.tuple ds)) s := by
  unfold kTup
  rw [h]
@[simp] theorem ev_tup : evE C (.tup es) env s = (evEs C es env s).bind kTup := by
  simp only [evE]
  rfl
def kFrz (xs : List PyData) (s : Stk) : Res W := .ok (.val (.list xs)) s
@[simp] theorem kFrz_eq : kFrz xs s = .ok (.val (.list xs)) s := (rfl)
@[simp] theorem ev_frz : evE C (.frz n) env s = (evN C n env s).bind kFrz := by
  simp only [evE]
  rfl
def kThw (xs : List PyData) (s : Stk) : Res W := .ok (.ref s.length) (s ++ [.lst xs])
@[simp] theorem kThw_eq : kThw xs s = .ok (.ref s.length) (s ++ [.lst xs]) := (rfl)
@[simp] theorem ev_thw : evE C (.thw n) env s = (evN C n env s).bind kThw := by
  simp only [evE]
  rfl
def kDn (kv : List (L2.Key × PyData)) (s : Stk) : Res W := .ok (.ref s.length) (s ++ [.dct (mergeD kv)])
@[simp] theorem kDn_eq {kv : List (L2.Key × PyData)} : kDn kv s = .ok (.ref s.length) (s ++ [.dct (mergeD kv)]) := (rfl)
@[simp] theorem ev_dnew : evE C (.dnew pk) env s = (evKs C pk env s).bind kDn := by
  simp only [evE]
  rfl
def kRv (r : Rv) (s : Stk) : Res W := match r with
  | .val d => .ok (.val d) s
  | .new xs => .ok (.val (.list xs)) s
@[simp] theorem kRv_val : kRv (.val d) s = .ok (.val d) s := (rfl)
@[simp] theorem kRv_new : kRv (.new xs) s = .ok (.val (.list xs)) s := (rfl)
def kCall (C : Callf) (f : Nat) (ws : List W) (s : Stk) : Res W := (C f ws s).bind kRv
@[simp] theorem kCall_eq : kCall C f ws s = (C f ws s).bind kRv := (rfl)
@[simp] theorem ev_call : evE C (.call f es) env s = (evEs C es env s).bind (kCall C f) := by
  simp only [evE]
  rfl
def kCK2 (C : Callf) (f : Nat) (perm : List Nat) (ws zs : List W) (s : Stk) : Res W := (C f (pick perm (ws ++ zs)) s).bind kRv
@[simp] theorem kCK2_eq {zs : List W} : kCK2 C f perm ws zs s = (C f (pick perm (ws ++ zs)) s).bind kRv := (rfl)
def kCK1 (C : Callf) (f : Nat) (ks : Es) (perm : List Nat) (env : Ve) (ws : List W) (s : Stk) : Res W := (evEs C ks env s).bind (kCK2 C f perm ws)
@[simp] theorem kCK1_eq : kCK1 C f ks perm env ws s = (evEs C ks env s).bind (kCK2 C f perm ws) := (rfl)
@[simp] theorem ev_callK : evE C (.callK f es ks perm) env s = (evEs C es env s).bind (kCK1 C f ks perm env) := by
  simp only [evE]
  rfl
def kBi2 (bb : Bi) (u : Option (List PyData)) (s : Stk) : Res W := match u with
  | some ds => vOp (bfn bb ds) s
  | none => .stuck
@[simp] theorem kBi2_some : kBi2 bb (some ds) s = vOp (bfn bb ds) s := (rfl)
def kBi (bb : Bi) (ws : List W) (s : Stk) : Res W := kBi2 bb (views s ws) s
@[simp] theorem kBi_eq : kBi bb ws s = kBi2 bb (views s ws) s := (rfl)
@[simp] theorem ev_bi : evE C (.bi bb es) env s = (evEs C es env s).bind (kBi bb) := by
  simp only [evE]
  refine bind_congr fun ws s1 => ?_
  show _ = kBi2 bb (views s1 ws) s1
  cases views s1 ws with
  | none => rfl
  | some ds =>
    show (Res.of s1 (bfn bb ds)).bind _ = vOp (bfn bb ds) s1
    cases bfn bb ds <;> rfl
def kMe3 (mm : Me) (u : Option PyData) (v : Option (List PyData)) (s : Stk) : Res W := match u, v with
  | some d, some ds => vOp (mef mm d ds) s
  | _, _ => .stuck
@[simp] theorem kMe3_some : kMe3 mm (some d) (some ds) s = vOp (mef mm d ds) s := (rfl)
def kMe2 (mm : Me) (x : W) (ws : List W) (s : Stk) : Res W := kMe3 mm (x.view s) (views s ws) s
@[simp] theorem kMe2_eq : kMe2 mm x ws s = kMe3 mm (x.view s) (views s ws) s := (rfl)
def kMe1 (C : Callf) (mm : Me) (es : Es) (env : Ve) (x : W) (s : Stk) : Res W := (evEs C es env s).bind (kMe2 mm x)
@[simp] theorem kMe1_eq : kMe1 C mm es env x s = (evEs C es env s).bind (kMe2 mm x) := (rfl)
@[simp] theorem ev_meth : evE C (.meth mm a es) env s = (evE C a env s).bind (kMe1 C mm es env) := by
  simp only [evE]
  refine bind_congr fun x s1 => bind_congr fun ws s2 => ?_
  show _ = kMe3 mm (x.view s2) (views s2 ws) s2
  cases x.view s2 with
  | none => rfl
  | some d =>
    cases views s2 ws with
    | none => rfl
    | some ds =>
      show (Res.of s2 (mef mm d ds)).bind _ = vOp (mef mm d ds) s2
      cases mef mm d ds <;> rfl
/-- slices -/
def kS3 (d : PyData) (l h : Option Int) (s : Stk) : Res W := vOp (slice d l h) s
@[simp] theorem kS3_eq {l h : Option Int} : kS3 d l h s = vOp (slice d l h) s := (rfl)
def kS2 (x : W) (l : Option Int) (h : Option Int) (s : Stk) : Res W := match x with
  | .val d => kS3 d l h s
  | _ => .stuck
@[simp] theorem kS2_val {l h : Option Int} : kS2 (.val d) l h s = kS3 d l h s := (rfl)
def kS1 (C : Callf) (hi : Oe) (env : Ve) (x : W) (l : Option Int) (s : Stk) : Res W := (evO C hi env s).bind (kS2 x l)
@[simp] theorem kS1_eq {l : Option Int} : kS1 C hi env x l s = (evO C hi env s).bind (kS2 x l) := (rfl)
def kS0 (C : Callf) (lo hi : Oe) (env : Ve) (x : W) (s : Stk) : Res W := (evO C lo env s).bind (kS1 C hi env x)
@[simp] theorem kS0_eq : kS0 C lo hi env x s = (evO C lo env s).bind (kS1 C hi env x) := (rfl)
@[simp] theorem ev_slc : evE C (.slc a lo hi) env s = (evE C a env s).bind (kS0 C lo hi env) := by
  simp only [evE]
  refine bind_congr fun x s1 => bind_congr fun l s2 => bind_congr fun h s3 => ?_
  cases x with
  | ref i => rfl
  | exn _ _ => rfl
  | val d =>
    show (Res.of s3 (slice d l h)).bind _ = vOp (slice d l h) s3
    cases slice d l h <;> rfl
/-- dicts -/
def kDl (r : Option PyData) (s : Stk) : Res W := vOp r s
def kDg (C : Callf) (x y : W) (s : Stk) : Res W := match x, y with
  | .ref i, .val kd => match s[i]?, keyOf kd with
    | some (.dct kvs), some key => vOp (dlook kvs key) s
    | _, _ => .stuck
  | _, _ => .stuck
theorem kDg_eq {kv : List (L2.Key × PyData)} {key : L2.Key} (h : s[m]? = some (.dct kv)) (hk : keyOf d = some key) : kDg C (.ref m) (.val d) s = vOp (dlook kv key) s := by
  unfold kDg
  simp only [h, hk]
def kDg1 (C : Callf) (k : E) (env : Ve) (x : W) (s : Stk) : Res W := (evE C k env s).bind (kDg C x)
@[simp] theorem kDg1_eq : kDg1 C k env x s = (evE C k env s).bind (kDg C x) := (rfl)
@[simp] theorem ev_dget : evE C (.dget a k) env s = (evE C a env s).bind (kDg1 C k env) := by
  simp only [evE]
  refine bind_congr fun x s1 => bind_congr fun y s2 => ?_
  unfold kDg
  cases x with
  | val d => rfl
  | exn _ _ => rfl
  | ref i =>
    cases y with
    | ref j => rfl
    | exn _ _ => rfl
    | val kd =>
      dsimp only
      cases s2[i]? with
      | none => rfl
      | some ob =>
        cases ob with
        | lst xs => rfl
        | dct kv =>
          cases keyOf kd with
          | none => rfl
          | some key =>
            dsimp only
            cases dlook kv key <;> rfl
def kDi (neg : Bool) (y x : W) (s : Stk) : Res W := match x, y with
  | .ref i, .val kd => match s[i]?, keyOf kd with
    | some (.dct kvs), some key => .ok (.val (.bool (neg != (dlook kvs key).isSome))) s
    | _, _ => .stuck
  | _, _ => .stuck
theorem kDi_eq {kv : List (L2.Key × PyData)} {key : L2.Key} (h : s[m]? = some (.dct kv)) (hk : keyOf d = some key) : kDi tr (.val d) (.ref m) s = .ok (.val (.bool (tr != (dlook kv key).isSome))) s := by
  unfold kDi
  simp only [h, hk]
def kDi1 (C : Callf) (neg : Bool) (a : E) (env : Ve) (y : W) (s : Stk) : Res W := (evE C a env s).bind (kDi neg y)
@[simp] theorem kDi1_eq : kDi1 C tr a env y s = (evE C a env s).bind (kDi tr y) := (rfl)
@[simp] theorem ev_din : evE C (.din a k) env s = (evE C k env s).bind (kDi1 C false a env) := by
  simp only [evE]
  refine bind_congr fun y s1 => bind_congr fun x s2 => ?_
  unfold kDi
  cases x with
  | val d => rfl
  | exn _ _ => rfl
  | ref i =>
    cases y with
    | ref j => rfl
    | exn _ _ => rfl
    | val kd =>
      dsimp only
      cases s2[i]? with
      | none => rfl
      | some ob =>
        cases ob with
        | lst xs => rfl
        | dct kv =>
          cases keyOf kd with
          | none => rfl
          | some key =>
            dsimp only
            cases dlook kv key <;> rfl
@[simp] theorem ev_dnin : evE C (.dnin a k) env s = (evE C k env s).bind (kDi1 C true a env) := by
  simp only [evE]
  refine bind_congr fun y s1 => bind_congr fun x s2 => ?_
  unfold kDi
  cases x with
  | val d => rfl
  | exn _ _ => rfl
  | ref i =>
    cases y with
    | ref j => rfl
    | exn _ _ => rfl
    | val kd =>
      dsimp only
      cases s2[i]? with
      | none => rfl
      | some ob =>
        cases ob with
        | lst xs => rfl
        | dct kv =>
          cases keyOf kd with
          | none => rfl
          | some key =>
            dsimp only
            cases dlook kv key <;> rfl
def kKg (kvs : List (Str × PyData)) (y : W) (s : Stk) : Res W := match y with
  | .val (.str z) => vOp (kvs.lookup z) s
  | _ => .stuck
@[simp] theorem kKg_str {zz : Str} : kKg kvs (.val (.str zz)) s = vOp (kvs.lookup zz) s := (rfl)
@[simp] theorem ev_kget : evE C (.kget kvs k) env s = (evE C k env s).bind (kKg kvs) := by
  simp only [evE]
  refine bind_congr fun y s1 => ?_
  cases y with
  | ref i => rfl
  | exn _ _ => rfl
  | val d =>
    cases d with
    | str z =>
      show _ = vOp (kvs.lookup z) s1
      dsimp only
      cases kvs.lookup z <;> rfl
    | _ => rfl
def kKi (neg : Bool) (kvs : List (Str × PyData)) (y : W) (s : Stk) : Res W := match y with
  | .val (.str z) => .ok (.val (.bool (neg != (kvs.lookup z).isSome))) s
  | _ => .stuck
@[simp] theorem kKi_str {zz : Str} : kKi tr kvs (.val (.str zz)) s = .ok (.val (.bool (tr != (kvs.lookup zz).isSome))) s := (rfl)
@[simp] theorem ev_kin : evE C (.kin kvs k) env s = (evE C k env s).bind (kKi false kvs) := by
  simp only [evE]
  refine bind_congr fun y s1 => ?_
  cases y with
  | ref i => rfl
  | exn _ _ => rfl
  | val d =>
    cases d with
    | str z =>
      show _ = Res.ok _ _
      dsimp only
      cases kvs.lookup z <;> rfl
    | _ => rfl
@[simp] theorem ev_knin : evE C (.knin kvs k) env s = (evE C k env s).bind (kKi true kvs) := by
  simp only [evE]
  refine bind_congr fun y s1 => ?_
  cases y with
  | ref i => rfl
  | exn _ _ => rfl
  | val d =>
    cases d with
    | str z =>
      show _ = Res.ok _ _
      dsimp only
      cases kvs.lookup z <;> rfl
    | _ => rfl
/-! lists of expressions -/
def kEs2 (w : W) (ws : List W) (s : Stk) : Res (List W) := .ok (w :: ws) s
@[simp] theorem kEs2_eq : kEs2 w ws s = .ok (w :: ws) s := (rfl)
def kEs (C : Callf) (es : Es) (env : Ve) (w : W) (s : Stk) : Res (List W) := (evEs C es env s).bind (kEs2 w)
@[simp] theorem kEs_eq : kEs C es env w s = (evEs C es env s).bind (kEs2 w) := (rfl)
@[simp] theorem es_nil : evEs C .nil env s = .ok [] s := by simp only [evEs]
@[simp] theorem es_cons : evEs C (.cons e es) env s = (evE C e env s).bind (kEs C es env) := by
  simp only [evEs]
  rfl
@[simp] theorem ks_nil' : evKs C .nil env s = .ok [] s := by simp only [evKs]
def kKs3 (key : L2.Key) (d : PyData) (r : List (L2.Key × PyData)) (s : Stk) : Res (List (L2.Key × PyData)) := .ok ((key, d) :: r) s
@[simp] theorem kKs3_eq {key : L2.Key} {r : List (L2.Key × PyData)} : kKs3 key d r s = .ok ((key, d) :: r) s := (rfl)
def kKs2 (C : Callf) (pk : Ks) (env : Ve) (x y : W) (s : Stk) : Res (List (L2.Key × PyData)) := match x, y with
  | .val kd, .val d => match keyOf kd, isDict d with
    | some key, false => (evKs C pk env s).bind (kKs3 key d)
    | _, _ => .stuck
  | _, _ => .stuck
@[simp] theorem kKs2_eq {key : L2.Key} (h : keyOf d = some key) (h2 : isDict d2 = false) : kKs2 C pk env (.val d) (.val d2) s = (evKs C pk env s).bind (kKs3 key d2) := by
  unfold kKs2
  simp only [h, h2]
def kKs1 (C : Callf) (v : E) (pk : Ks) (env : Ve) (x : W) (s : Stk) : Res (List (L2.Key × PyData)) := (evE C v env s).bind (kKs2 C pk env x)
@[simp] theorem kKs1_eq : kKs1 C b pk env x s = (evE C b env s).bind (kKs2 C pk env x) := (rfl)
@[simp] theorem ks_cons' : evKs C (.cons a b pk) env s = (evE C a env s).bind (kKs1 C b pk env) := by
  simp only [evKs]
  rfl
def kO (x : W) (s : Stk) : Res (Option Int) := match x with
  | .val (.int i) => .ok (some i) s
  | _ => .stuck
@[simp] theorem kO_int : kO (.val (.int j)) s = .ok (some j) s := (rfl)
@[simp] theorem o_non : evO C .none env s = .ok none s := by simp only [evO]
@[simp] theorem o_som : evO C (.some e) env s = (evE C e env s).bind kO := by
  simp only [evO]
  rfl
/-! tests -/
def kTr (u : Option PyData) (s : Stk) : Res Bool := match u with
  | some d => Res.of s (truth d)
  | none => .stuck
@[simp] theorem kTr_some : kTr (some d) s = Res.of s (truth d) := (rfl)
def kT (x : W) (s : Stk) : Res Bool := kTr (x.view s) s
@[simp] theorem kT_eq : kT x s = kTr (x.view s) s := (rfl)
@[simp] theorem t_val : evT C (.val e) env s = (evE C e env s).bind kT := by
  simp only [evT]
  rfl
def kTn (tr : Bool) (s : Stk) : Res Bool := .ok (!tr) s
@[simp] theorem kTn_eq : kTn tr s = .ok (!tr) s := (rfl)
@[simp] theorem t_not : evT C (.not t) env s = (evT C t env s).bind kTn := by
  simp only [evT]
  rfl
def kTa (C : Callf) (t : T) (env : Ve) (tr : Bool) (s : Stk) : Res Bool := match tr with
  | true => evT C t env s
  | false => .ok false s
@[simp] theorem kTa_t : kTa C t env true s = evT C t env s := (rfl)
@[simp] theorem kTa_f : kTa C t env false s = .ok false s := (rfl)
@[simp] theorem t_and : evT C (.and t t1) env s = (evT C t env s).bind (kTa C t1 env) := by
  simp only [evT]
  rfl
def kTo (C : Callf) (t : T) (env : Ve) (tr : Bool) (s : Stk) : Res Bool := match tr with
  | true => .ok true s
  | false => evT C t env s
@[simp] theorem kTo_t : kTo C t env true s = .ok true s := (rfl)
@[simp] theorem kTo_f : kTo C t env false s = evT C t env s := (rfl)
@[simp] theorem t_or : evT C (.or t t1) env s = (evT C t env s).bind (kTo C t1 env) := by
  simp only [evT]
  rfl
@[simp] theorem tt_non : evTt C .none env s = .ok true s := by simp only [evTt]
@[simp] theorem tt_som : evTt C (.some t) env s = evT C t env s := by simp only [evTt]
/-! lists made -/
def kVs (ws : List W) (s : Stk) : Res (List PyData) := Res.of s (vals ws)
@[simp] theorem kVs_eq : kVs ws s = Res.of s (vals ws) := (rfl)
@[simp] theorem n_lst' : evN C (.lst es) env s = (evEs C es env s).bind kVs := by
  simp only [evN]
  rfl
def kL2 (u : Option PyData) (s : Stk) : Res (List PyData) := match u with
  | some d => Res.of s (items d)
  | none => .stuck
@[simp] theorem kL2_some : kL2 (some d) s = Res.of s (items d) := (rfl)
def kL (x : W) (s : Stk) : Res (List PyData) := kL2 (x.view s) s
@[simp] theorem kL_eq : kL x s = kL2 (x.view s) s := (rfl)
@[simp] theorem n_list' : evN C (.list e) env s = (evE C e env s).bind kL := by
  simp only [evN]
  rfl
def kAd3 (u v : Option PyData) (s : Stk) : Res (List PyData) := match u, v with
  | some (.list xs), some (.list ys) => Res.of s (iff' (lenOk (xs.length + ys.length)) (xs ++ ys))
  | _, _ => .stuck
@[simp] theorem kAd3_eq : kAd3 (some (.list xs)) (some (.list ds)) s = Res.of s (iff' (lenOk (xs.length + ds.length)) (xs ++ ds)) := (rfl)
def kAd2 (x y : W) (s : Stk) : Res (List PyData) := kAd3 (x.view s) (y.view s) s
@[simp] theorem kAd2_eq : kAd2 x y s = kAd3 (x.view s) (y.view s) s := (rfl)
def kAd1 (C : Callf) (b : E) (env : Ve) (x : W) (s : Stk) : Res (List PyData) := (evE C b env s).bind (kAd2 x)
@[simp] theorem kAd1_eq : kAd1 C b env x s = (evE C b env s).bind (kAd2 x) := (rfl)
@[simp] theorem n_add' : evN C (.add a b) env s = (evE C a env s).bind (kAd1 C b env) := by
  simp only [evN]
  rfl
def kNc2 (r : Rv) (s : Stk) : Res (List PyData) := match r with
  | .new xs => .ok xs s
  | .val _ => .stuck
@[simp] theorem kNc2_new : kNc2 (.new xs) s = .ok xs s := (rfl)
def kNc (C : Callf) (f : Nat) (ws : List W) (s : Stk) : Res (List PyData) := (C f ws s).bind kNc2
@[simp] theorem kNc_eq : kNc C f ws s = (C f ws s).bind kNc2 := (rfl)
@[simp] theorem n_call' : evN C (.call f es) env s = (evEs C es env s).bind (kNc C f) := by
  simp only [evN]
  rfl
/-- the turn of a comprehension -/
def cT4 (w : W) (s : Stk) : Res (Option PyData) := match w with
  | .val y => (Res.of s (iff' (!isDict y) y)).bind fun z s5 => .ok (some z) s5
  | _ => .stuck
@[simp] theorem cT4_eq (h : isDict d = false) : cT4 (.val d) s = .ok (some d) s := by
  unfold cT4
  simp only [h]
  rfl
def cT3 (C : Callf) (e : E) (env : Ve) (tr : Bool) (s : Stk) : Res (Option PyData) := match tr with
  | true => (evE C e env s).bind cT4
  | false => .ok none s
@[simp] theorem cT3_t : cT3 C e env true s = (evE C e env s).bind cT4 := (rfl)
@[simp] theorem cT3_f : cT3 C e env false s = .ok none s := (rfl)
def cT2 (C : Callf) (tt : Tt) (e : E) (u : Option Ve) (s : Stk) : Res (Option PyData) := match u with
  | some env => (evTt C tt env s).bind (cT3 C e env)
  | none => .stuck
@[simp] theorem cT2_some : cT2 C tt e (some env) s = (evTt C tt env s).bind (cT3 C e env) := (rfl)
def cT (C : Callf) (own : List Nat) (g : Tg) (tt : Tt) (e : E) (env : Ve) (d : PyData) (s : Stk) : Res (Option PyData) := cT2 C tt e (bindTg g d (wipeE env own)) s
theorem cT_eq : cT C own g tt e env d s = cT2 C tt e (bindTg g d (wipeE env own)) s := (rfl)
def kCo2 (C : Callf) (own : List Nat) (g : Tg) (tt : Tt) (e : E) (env : Ve) (ds : List PyData) (s : Stk) : Res (List PyData) := compL (cT C own g tt e env) ds s
@[simp] theorem kCo2_eq : kCo2 C own g tt e env ds s = compL (cT C own g tt e env) ds s := (rfl)
def kCo1 (C : Callf) (own : List Nat) (g : Tg) (tt : Tt) (e : E) (env : Ve) (ds : List PyData) (s : Stk) : Res (List PyData) := (Res.of s (iff' (lenOk ds.length) ds)).bind (kCo2 C own g tt e env)
@[simp] theorem kCo1_eq (h : lenOk ds.length = true) : kCo1 C own g tt e env ds s = compL (cT C own g tt e env) ds s := by
  unfold kCo1
  rw [h]
  rfl
@[simp] theorem n_comp' : evN C (.comp own g ii tt e) env s = (evI C ii env s).bind (kCo1 C own g tt e env) := by
  simp only [evN]
  rfl
/-! what is walked -/
def kW (x : W) (s : Stk) : Res (List PyData) := match x with
  | .val d => Res.of s (walked d)
  | _ => .stuck
@[simp] theorem kW_val : kW (.val d) s = Res.of s (walked d) := (rfl)
@[simp] theorem i_seq' : evI C (.seq e) env s = (evE C e env s).bind kW := by
  simp only [evI]
  rfl
def kR (x : W) (s : Stk) : Res (List PyData) := match x with
  | .val (.int j) => Res.of s (iff' (rngOk j) (rangeD 0 j.toNat))
  | _ => .stuck
@[simp] theorem kR_int : kR (.val (.int j)) s = Res.of s (iff' (rngOk j) (rangeD 0 j.toNat)) := (rfl)
@[simp] theorem i_rng : evI C (.range1 e) env s = (evE C e env s).bind kR := by
  simp only [evI]
  rfl
def kR2 (x y : W) (s : Stk) : Res (List PyData) := match x, y with
  | .val (.int i), .val (.int j) => Res.of s (iff' (rngOk i && rngOk j) (rangeD i (j - i).toNat))
  | _, _ => .stuck
@[simp] theorem kR2_int {l : Int} : kR2 (.val (.int j)) (.val (.int l)) s = Res.of s (iff' (rngOk j && rngOk l) (rangeD j (l - j).toNat)) := (rfl)
def kR1 (C : Callf) (b : E) (env : Ve) (x : W) (s : Stk) : Res (List PyData) := (evE C b env s).bind (kR2 x)
@[simp] theorem kR1_eq : kR1 C b env x s = (evE C b env s).bind (kR2 x) := (rfl)
@[simp] theorem i_rng2 : evI C (.range2 a b) env s = (evE C a env s).bind (kR1 C b env) := by
  simp only [evI]
  rfl
def kZ3 (u v : Option (List PyData)) (s : Stk) : Res (List PyData) := match u, v with
  | some xs, some ys => .ok (zipD xs ys) s
  | _, _ => .stuck
@[simp] theorem kZ3_some : kZ3 (some xs) (some ds) s = .ok (zipD xs ds) s := (rfl)
def kZ2 (x y : W) (s : Stk) : Res (List PyData) := match x, y with
  | .val d, .val e => kZ3 (walked d) (walked e) s
  | _, _ => .stuck
@[simp] theorem kZ2_val : kZ2 (.val d) (.val d2) s = kZ3 (walked d) (walked d2) s := (rfl)
def kZ1 (C : Callf) (b : E) (env : Ve) (x : W) (s : Stk) : Res (List PyData) := (evE C b env s).bind (kZ2 x)
@[simp] theorem kZ1_eq : kZ1 C b env x s = (evE C b env s).bind (kZ2 x) := (rfl)
@[simp] theorem i_zip' : evI C (.zip a b) env s = (evE C a env s).bind (kZ1 C b env) := by
  simp only [evI]
  rfl
end
/-! statements -/
section
variable {C : Callf} {env env2 : Ve} {s s1 : Stk} {a b e : E} {es : Es} {t : T} {n : N} {st : S} {ss sa sb : Ss} {m : Nat} {g : Tg} {ii : I} {x y z w : W} {d d2 : PyData} {ws : List W} {xs ds : List PyData} {tr : Bool} {is : List Nat} {j : Int} {ob : Ob}
def kSs (C : Callf) (ss : Ss) (o : Out) (s : Stk) : Res Out := match o with
  | .nx e => evSs C ss e s
  | .rt w => .ok (.rt w) s
  | .rtN xs => .ok (.rtN xs) s
  | .brk e => .ok (.brk e) s
  | .ct e => .ok (.ct e) s
@[simp] theorem kSs_nx : kSs C ss (.nx env) s = evSs C ss env s := (rfl)
@[simp] theorem kSs_rt : kSs C ss (.rt w) s = .ok (.rt w) s := (rfl)
@[simp] theorem kSs_rtN : kSs C ss (.rtN xs) s = .ok (.rtN xs) s := (rfl)
@[simp] theorem kSs_brk : kSs C ss (.brk env) s = .ok (.brk env) s := (rfl)
@[simp] theorem kSs_ct : kSs C ss (.ct env) s = .ok (.ct env) s := (rfl)
@[simp] theorem ss_nil' : evSs C .nil env s = .ok (.nx env) s := by simp only [evSs]
@[simp] theorem ss_cons' : evSs C (.cons st ss) env s = (evS C st env s).bind (kSs C ss) := by
  simp only [evSs]
  rfl
def kEx (env : Ve) (_ : W) (s : Stk) : Res Out := .ok (.nx env) s
@[simp] theorem kEx_eq : kEx env x s = .ok (.nx env) s := (rfl)
@[simp] theorem s_expr' : evS C (.expr e) env s = (evE C e env s).bind (kEx env) := by
  simp only [evS]
  rfl
def kAs (m : Nat) (env : Ve) (w : W) (s : Stk) : Res Out := .ok (.nx (env.set m (some w))) s
@[simp] theorem kAs_eq : kAs m env w s = .ok (.nx (env.set m (some w))) s := (rfl)
@[simp] theorem s_asg' : evS C (.asg (.name m) e) env s = (evE C e env s).bind (kAs m env) := by
  simp only [evS]
  rfl
def kAt2 (u : Option Ve) (s : Stk) : Res Out := match u with
  | some env => .ok (.nx env) s
  | none => .stuck
@[simp] theorem kAt2_some : kAt2 (some env) s = .ok (.nx env) s := (rfl)
def kAt (is : List Nat) (env : Ve) (w : W) (s : Stk) : Res Out := match w with
  | .val d => kAt2 (bindTg (.tup is) d env) s
  | _ => .stuck
@[simp] theorem kAt_val : kAt is env (.val d) s = kAt2 (bindTg (.tup is) d env) s := (rfl)
def kAn (ts : Tgs) (env : Ve) (w : W) (s : Stk) : Res Out := match w with
  | .val d => kAt2 (bindTg (.nest ts) d env) s
  | _ => .stuck
@[simp] theorem kAn_val {ts : Tgs} : kAn ts env (.val d) s = kAt2 (bindTg (.nest ts) d env) s := (rfl)
@[simp] theorem s_asgT' : evS C (.asg (.tup is) e) env s = (evE C e env s).bind (kAt is env) := by
  simp only [evS]
  refine bind_congr fun x s1 => ?_
  cases x with
  | ref i => rfl
  | exn _ _ => rfl
  | val d =>
    show (Res.of s1 (bindTg (.tup is) d env)).bind _ = kAt2 (bindTg (.tup is) d env) s1
    cases bindTg (.tup is) d env <;> rfl
@[simp] theorem s_asgN' {ts : Tgs} : evS C (.asg (.nest ts) e) env s = (evE C e env s).bind (kAn ts env) := by
  simp only [evS]
  refine bind_congr fun x s1 => ?_
  cases x with
  | ref i => rfl
  | exn _ _ => rfl
  | val d =>
    show (Res.of s1 (bindTg (.nest ts) d env)).bind _ = kAt2 (bindTg (.nest ts) d env) s1
    cases bindTg (.nest ts) d env <;> rfl
@[simp] theorem bind_nest {ts : Tgs} : bindTg (.nest ts) (.tuple ds) env = bindTgs ts ds env := by simp only [bindTg]
@[simp] theorem binds_nil : bindTgs .nil [] env = some env := by simp only [bindTgs]
def kBs (ts : Tgs) (ds : List PyData) (o : Option Ve) : Option Ve := match o with
  | some e => bindTgs ts ds e
  | none => none
@[simp] theorem kBs_some {ts : Tgs} : kBs ts ds (some env) = bindTgs ts ds env := (rfl)
@[simp] theorem binds_cons {t : Tg} {ts : Tgs} : bindTgs (.cons t ts) (d :: ds) env = kBs ts ds (bindTg t d env) := by
  simp only [bindTgs]
  cases bindTg t d env <;> rfl
@[simp] theorem bind_tup (h : is.length = ds.length) : bindTg (.tup is) (.tuple ds) env = some ((is.zip ds).foldl (fun e p => e.set p.1 (some (.val p.2))) env) := by
  simp only [bindTg]
  rw [if_pos h]
@[simp] theorem bind_name : bindTg (.name m) d env = some (env.set m (some (.val d))) := by simp only [bindTg]
def kPar (is : List Nat) (env : Ve) (ws : List W) (s : Stk) : Res Out := if is.length = ws.length then .ok (.nx (setAll env is ws)) s else .stuck
@[simp] theorem kPar_eq (h : is.length = ws.length) : kPar is env ws s = .ok (.nx (setAll env is ws)) s := by
  unfold kPar
  rw [if_pos h]
@[simp] theorem s_par' : evS C (.par is es) env s = (evEs C es env s).bind (kPar is env) := by
  simp only [evS]
  rfl
@[simp] theorem setAll_c : setAll env (m :: is) (w :: ws) = setAll (env.set m (some w)) is ws := (rfl)
@[simp] theorem setAll_n : setAll env [] ws = env := by cases ws <;> rfl
@[simp] theorem wipe_n : wipeE env [] = env := (rfl)
@[simp] theorem wipe_c : wipeE env (m :: is) = (wipeE env is).set m none := (rfl)
def kRt (w : W) (s : Stk) : Res Out := .ok (.rt w) s
@[simp] theorem kRt_eq : kRt w s = .ok (.rt w) s := (rfl)
@[simp] theorem s_ret' : evS C (.ret e) env s = (evE C e env s).bind kRt := by
  simp only [evS]
  rfl
def kRtN (xs : List PyData) (s : Stk) : Res Out := .ok (.rtN xs) s
@[simp] theorem kRtN_eq : kRtN xs s = .ok (.rtN xs) s := (rfl)
@[simp] theorem s_retN' : evS C (.retN n) env s = (evN C n env s).bind kRtN := by
  simp only [evS]
  rfl
@[simp] theorem s_pass' : evS C .pass env s = .ok (.nx env) s := by simp only [evS]
@[simp] theorem s_brk' : evS C .brk env s = .ok (.brk env) s := by simp only [evS]
@[simp] theorem s_ct' : evS C .ct env s = .ok (.ct env) s := by simp only [evS]
def kIf (C : Callf) (sa sb : Ss) (env : Ve) (tr : Bool) (s : Stk) : Res Out := match tr with
  | true => evSs C sa env s
  | false => evSs C sb env s
@[simp] theorem kIf_t : kIf C sa sb env true s = evSs C sa env s := (rfl)
@[simp] theorem kIf_f : kIf C sa sb env false s = evSs C sb env s := (rfl)
@[simp] theorem s_if' : evS C (.ifs t sa sb) env s = (evT C t env s).bind (kIf C sa sb env) := by
  simp only [evS]
  rfl
/-- the turn of a loop -/
def fT2 (C : Callf) (ss : Ss) (u : Option Ve) (s : Stk) : Res Out := match u with
  | some env => evSs C ss env s
  | none => .stuck
@[simp] theorem fT2_some : fT2 C ss (some env) s = evSs C ss env s := (rfl)
def fT (C : Callf) (g : Tg) (ss : Ss) (d : PyData) (env : Ve) (s : Stk) : Res Out := fT2 C ss (bindTg g d env) s
theorem fT_eq : fT C g ss d env s = fT2 C ss (bindTg g d env) s := (rfl)
def kFr (f : PyData → Ve → Stk → Res Out) (ds : List PyData) (o : Out) (s : Stk) : Res Out := match o with
  | .nx e => forL f ds e s
  | .ct e => forL f ds e s
  | .brk e => .ok (.nx e) s
  | .rt w => .ok (.rt w) s
  | .rtN xs => .ok (.rtN xs) s
section
variable {f : PyData → Ve → Stk → Res Out}
@[simp] theorem kFr_nx : kFr f ds (.nx env) s = forL f ds env s := (rfl)
@[simp] theorem kFr_ct : kFr f ds (.ct env) s = forL f ds env s := (rfl)
@[simp] theorem kFr_brk : kFr f ds (.brk env) s = .ok (.nx env) s := (rfl)
@[simp] theorem kFr_rt : kFr f ds (.rt w) s = .ok (.rt w) s := (rfl)
@[simp] theorem kFr_rtN : kFr f ds (.rtN xs) s = .ok (.rtN xs) s := (rfl)
theorem for_nil : forL f [] env s = .ok (.nx env) s := (rfl)
theorem for_cons : forL f (d :: ds) env s = (f d env s).bind (kFr f ds) := (rfl)
end
def kFor (C : Callf) (g : Tg) (ss : Ss) (env : Ve) (ds : List PyData) (s : Stk) : Res Out := forL (fT C g ss) ds env s
@[simp] theorem kFor_eq : kFor C g ss env ds s = forL (fT C g ss) ds env s := (rfl)
@[simp] theorem s_for' : evS C (.forS g ii ss) env s = (evI C ii env s).bind (kFor C g ss env) := by
  simp only [evS]
  rfl
@[simp] theorem s_while' : evS C (.whileS t ss) env s = whileL (evT C t) (evSs C ss) fuel env s := by
  simp only [evS]
def kAp2 (m : Nat) (env : Ve) (w : W) (s : Stk) : Res Out := match w, s[m]? with
  | .val d, some (.lst xs) => (Res.of s (iff' (decide (xs.length < sizeLine) && !isDict d) (Ob.lst (xs ++ [d])))).bind fun ob s3 => .ok (.nx env) (s3.set m ob)
  | _, _ => .stuck
theorem kAp2_eq (h : s[m]? = some (.lst xs)) (h1 : xs.length < sizeLine) (h2 : isDict d = false) : kAp2 m env (.val d) s = .ok (.nx env) (s.set m (.lst (xs ++ [d]))) := by
  unfold kAp2
  simp only [h, h2, decide_eq_true h1]
  rfl
def kAp (C : Callf) (e : E) (env : Ve) (x : W) (s : Stk) : Res Out := match x with
  | .ref i => match s[i]? with
    | some (.lst _) => (evE C e env s).bind (kAp2 i env)
    | _ => .stuck
  | .val _ => .stuck
  | .exn _ _ => .stuck
theorem kAp_eq (h : s[m]? = some (.lst xs)) : kAp C e env (.ref m) s = (evE C e env s).bind (kAp2 m env) := by
  unfold kAp
  simp only [h]
@[simp] theorem s_app' : evS C (.app a e) env s = (evE C a env s).bind (kAp C e env) := by
  simp only [evS]
  rfl
def kPu (env : Ve) (x z y : W) (s : Stk) : Res Out := match x, y, z with
  | .ref k, .val (.int j), .val d => match s[k]?, isDict d with
    | some (.lst xs), false => (Res.of s (putL xs j d)).bind fun ys s4 => .ok (.nx env) (s4.set k (.lst ys))
    | _, _ => .stuck
  | _, _, _ => .stuck
theorem kPu_eq (h : s[m]? = some (.lst xs)) (h2 : isDict d = false) (h3 : putL xs j d = some ds) : kPu env (.ref m) (.val d) (.val (.int j)) s = .ok (.nx env) (s.set m (.lst ds)) := by
  unfold kPu
  simp only [h, h2, h3]
  rfl
def kPu2 (C : Callf) (b : E) (env : Ve) (z x : W) (s : Stk) : Res Out := (evE C b env s).bind (kPu env x z)
@[simp] theorem kPu2_eq : kPu2 C b env z x s = (evE C b env s).bind (kPu env x z) := (rfl)
def kPu1 (C : Callf) (a b : E) (env : Ve) (z : W) (s : Stk) : Res Out := (evE C a env s).bind (kPu2 C b env z)
@[simp] theorem kPu1_eq : kPu1 C a b env z s = (evE C a env s).bind (kPu2 C b env z) := (rfl)
@[simp] theorem s_put' : evS C (.put a b e) env s = (evE C e env s).bind (kPu1 C a b env) := by
  simp only [evS]
  rfl
def kDp (env : Ve) (x z y : W) (s : Stk) : Res Out := match x, y, z with
  | .ref k, .val kd, .val d => match s[k]?, keyOf kd, isDict d with
    | some (.dct kvs), some key, false => (Res.of s (iff' (decide (kvs.length < sizeLine)) (Ob.dct (dputK kvs key d)))).bind fun ob s4 => .ok (.nx env) (s4.set k ob)
    | _, _, _ => .stuck
  | _, _, _ => .stuck
theorem kDp_eq {kv : List (L2.Key × PyData)} {key : L2.Key} (h : s[m]? = some (.dct kv)) (hk : keyOf d2 = some key) (h2 : isDict d = false) (h1 : kv.length < sizeLine) : kDp env (.ref m) (.val d) (.val d2) s = .ok (.nx env) (s.set m (.dct (dputK kv key d))) := by
  unfold kDp
  simp only [h, h2, hk, decide_eq_true h1]
  rfl
def kDp2 (C : Callf) (b : E) (env : Ve) (z x : W) (s : Stk) : Res Out := (evE C b env s).bind (kDp env x z)
@[simp] theorem kDp2_eq : kDp2 C b env z x s = (evE C b env s).bind (kDp env x z) := (rfl)
def kDp1 (C : Callf) (a b : E) (env : Ve) (z : W) (s : Stk) : Res Out := (evE C a env s).bind (kDp2 C b env z)
@[simp] theorem kDp1_eq : kDp1 C a b env z s = (evE C a env s).bind (kDp2 C b env z) := (rfl)
@[simp] theorem s_dput' : evS C (.dput a b e) env s = (evE C e env s).bind (kDp1 C a b env) := by
  simp only [evS]
  rfl
/-! a def's run -/
def kRun (m : Nat) (r : Res Out) : Res Rv := match r with
  | .ok o s1 => match o with
    | .nx _ => .ok (.val .none) (s1.take m)
    | .rt (.val d) => .ok (.val d) (s1.take m)
    | .rt (.ref i) => if m ≤ i then match s1[i]? with
      | some (.lst xs) => .ok (.new xs) (s1.take m)
      | _ => .stuck
      else .stuck
    | .rt (.exn _ _) => .stuck
    | .rtN xs => .ok (.new xs) (s1.take m)
    | .brk _ => .stuck
    | .ct _ => .stuck
  | .exc c d s1 => .exc c d (s1.take m)
  | .stuck => .stuck
@[simp] theorem kRun_nx : kRun m (.ok (.nx env) s) = .ok (.val .none) (s.take m) := (rfl)
@[simp] theorem kRun_val : kRun m (.ok (.rt (.val d)) s) = .ok (.val d) (s.take m) := (rfl)
@[simp] theorem kRun_new : kRun m (.ok (.rtN xs) s) = .ok (.new xs) (s.take m) := (rfl)
theorem kRun_ref {i : Nat} (h : m ≤ i) (h2 : s[i]? = some (.lst xs)) : kRun m (.ok (.rt (.ref i)) s) = .ok (.new xs) (s.take m) := by
  unfold kRun
  simp only [h2, h]
  rfl
theorem run_eq {ar sl : Nat} (h : ws.length = ar) : runFd C ⟨ar, sl, ss⟩ ws s = kRun s.length (evSs C ss (ws.map some ++ List.replicate (sl - ar) none) s) := by
  unfold runFd
  rw [if_pos h]
  rfl
@[simp] theorem kRun_exc {c : Nat} : kRun m (.exc c d s) = .exc c d (s.take m) := (rfl)
def kRv1 (x : W) (s : Stk) : Res W := match x with
  | .val (.tuple xs) => .ok (.val (.tuple xs.reverse)) s
  | _ => .stuck
@[simp] theorem kRv1_eq : kRv1 (.val (.tuple xs)) s = .ok (.val (.tuple xs.reverse)) s := (rfl)
@[simp] theorem ev_rev : evE C (.rev a) env s = (evE C a env s).bind kRv1 := by
  simp only [evE]
  rfl
def kIr2 (neg : Bool) (x y : W) (s : Stk) : Res W := match x, y with
  | .val (.int i), .val (.int j) => .ok (.val (.bool (neg != decide (0 ≤ i ∧ i < j)))) s
  | _, _ => .stuck
@[simp] theorem kIr2_eq {neg : Bool} {i j : Int} : kIr2 neg (.val (.int i)) (.val (.int j)) s = .ok (.val (.bool (neg != decide (0 ≤ i ∧ i < j)))) s := (rfl)
def kIr1 (C : Callf) (neg : Bool) (b : E) (env : Ve) (x : W) (s : Stk) : Res W := (evE C b env s).bind (kIr2 neg x)
@[simp] theorem kIr1_eq {neg : Bool} : kIr1 C neg b env x s = (evE C b env s).bind (kIr2 neg x) := (rfl)
@[simp] theorem ev_inR {neg : Bool} : evE C (.inR neg a b) env s = (evE C a env s).bind (kIr1 C neg b env) := by
  simp only [evE]
  rfl
/-! errors -/
def kXv (x : W) (s : Stk) : Res W := match x with
  | .exn _ d => .ok (.val d) s
  | _ => .stuck
@[simp] theorem kXv_eq {c : Nat} : kXv (.exn c d) s = .ok (.val d) s := (rfl)
@[simp] theorem ev_xval : evE C (.xval a) env s = (evE C a env s).bind kXv := by
  simp only [evE]
  rfl
def kXi (cs : List Nat) (x : W) (s : Stk) : Res W := match x with
  | .exn c _ => .ok (.val (.bool (cs.contains c))) s
  | _ => .stuck
@[simp] theorem kXi_eq {c : Nat} {cs : List Nat} : kXi cs (.exn c d) s = .ok (.val (.bool (cs.contains c))) s := (rfl)
@[simp] theorem ev_xis {cs : List Nat} : evE C (.xis a cs) env s = (evE C a env s).bind (kXi cs) := by
  simp only [evE]
  rfl
def kRs (c : Nat) (x : W) (s : Stk) : Res Out := match x with
  | .val d => match isDict d with
    | false => .exc c d s
    | true => .stuck
  | _ => .stuck
theorem kRs_eq {c : Nat} (h : isDict d = false) : kRs c (.val d) s = .exc c d s := by
  unfold kRs
  simp only [h]
@[simp] theorem s_raise' {c : Nat} : evS C (.raise c e) env s = (evE C e env s).bind (kRs c) := by
  simp only [evS]
  rfl
def kH2 (i : Nat) (r : Res Out) : Res Out := match r with
  | .ok o s2 => match o with
    | .nx e => .ok (.nx (noExn (e.set i none))) s2
    | .brk e => .ok (.brk (noExn (e.set i none))) s2
    | .ct e => .ok (.ct (noExn (e.set i none))) s2
    | .rt (.val d) => .ok (.rt (.val d)) s2
    | .rt (.ref j) => .ok (.rt (.ref j)) s2
    | .rt (.exn _ _) => .stuck
    | .rtN xs => .ok (.rtN xs) s2
  | _ => .stuck
@[simp] theorem noExn_nil : noExn [] = [] := (rfl)
@[simp] theorem noExn_none {e : Ve} : noExn (none :: e) = none :: noExn e := (rfl)
@[simp] theorem noExn_val {e : Ve} : noExn (some (.val d) :: e) = some (.val d) :: noExn e := (rfl)
@[simp] theorem noExn_ref {e : Ve} {j : Nat} : noExn (some (.ref j) :: e) = some (.ref j) :: noExn e := (rfl)
@[simp] theorem noExn_exn {e : Ve} {j : Nat} : noExn (some (.exn j d) :: e) = none :: noExn e := (rfl)
@[simp] theorem kH2_nx {i : Nat} : kH2 i (.ok (.nx env) s) = .ok (.nx (noExn (env.set i none))) s := (rfl)
@[simp] theorem kH2_rt {i : Nat} : kH2 i (.ok (.rt (.val d)) s) = .ok (.rt (.val d)) s := (rfl)
@[simp] theorem kH2_rtR {i j : Nat} : kH2 i (.ok (.rt (.ref j)) s) = .ok (.rt (.ref j)) s := (rfl)
@[simp] theorem kH2_rtN {i : Nat} : kH2 i (.ok (.rtN xs) s) = .ok (.rtN xs) s := (rfl)
@[simp] theorem kH2_brk {i : Nat} : kH2 i (.ok (.brk env) s) = .ok (.brk (noExn (env.set i none))) s := (rfl)
@[simp] theorem kH2_ct {i : Nat} : kH2 i (.ok (.ct env) s) = .ok (.ct (noExn (env.set i none))) s := (rfl)
def kTry (C : Callf) (i : Nat) (h : Ss) (env : Ve) (r : Res Out) : Res Out := match r with
  | .ok o s1 => match o with
    | .brk _ => .stuck
    | .ct _ => .stuck
    | o => .ok o s1
  | .exc c d s1 => kH2 i (evSs C h (env.set i (some (.exn c d))) s1)
  | .stuck => .stuck
@[simp] theorem kTry_nx {i : Nat} : kTry C i sb env (.ok (.nx env2) s) = .ok (.nx env2) s := (rfl)
@[simp] theorem kTry_rt {i : Nat} : kTry C i sb env (.ok (.rt w) s) = .ok (.rt w) s := (rfl)
@[simp] theorem kTry_rtN {i : Nat} : kTry C i sb env (.ok (.rtN xs) s) = .ok (.rtN xs) s := (rfl)
@[simp] theorem kTry_exc {i c : Nat} : kTry C i sb env (.exc c d s) = kH2 i (evSs C sb (env.set i (some (.exn c d))) s) := (rfl)
@[simp] theorem s_try' {i : Nat} : evS C (.tryS sa i sb) env s = kTry C i sb env (evSs C sa env s) := by
  simp only [evS]
  cases evSs C sa env s <;> rfl
@[simp] theorem take_set {i : Nat} : (s.set i ob).take s.length = s.set i ob := List.take_of_length_le (by rw [List.length_set]; exact Nat.le_refl _)
end
end MP
/-! MPShow: numbers, none and truth values in tuples and lists can be shown. -/
namespace MP
open PySem
theorem ok_ofS (s : String) : PyData.strOk (Str.ofString s) = true := by
  rw [Str.ofString_eq_toList]
  unfold PyData.strOk
  rw [Array.all_eq_true']
  intro c hc
  simp only [List.mem_toArray, List.mem_map] at hc
  obtain ⟨k, _, rfl⟩ := hc
  refine decide_eq_true ?_
  have := k.valid
  rcases this with h | ⟨_, h⟩
  · exact Nat.lt_trans h (by decide)
  · exact h
theorem len_ofS (s : String) : (Str.ofString s).length = s.length := by
  rw [Str.ofString_eq_toList]
  show (s.toList.map Char.toNat).toArray.size = _
  rw [List.size_toArray, List.length_map]
  first | rfl | exact String.length_toList
theorem ok_app {x y : Str} (h1 : PyData.strOk x = true) (h2 : PyData.strOk y = true) : PyData.strOk (x ++ y) = true := by
  unfold PyData.strOk at *
  show (x.cps ++ y.cps).all _ = true
  rw [Array.all_append, h1, h2]
  rfl
theorem len_app {x y : Str} : (x ++ y).length = x.length + y.length := by
  show (x.cps ++ y.cps).size = _
  rw [Array.size_append]
  rfl
mutual
/-- numbers below a bound, in tuples and lists -/
def num : PyData → Bool
  | .none => true
  | .bool _ => true
  | .int i => decide (i.natAbs < 10 ^ 30)
  | .list xs => numAll xs
  | .tuple xs => numAll xs
  | _ => false
def numAll : List PyData → Bool
  | [] => true
  | x :: xs => num x && numAll xs
end
mutual
def wd : PyData → Nat
  | .list xs => wdAll xs + 2
  | .tuple xs => wdAll xs + 4
  | _ => 31
def wdAll : List PyData → Nat
  | [] => 0
  | x :: xs => wd x + 2 + wdAll xs
end
theorem int_len {i : Int} (h : i.natAbs < 10 ^ 30) : (toString i).length ≤ 31 := by
  have hr : ∀ n : Nat, n < 10 ^ 30 → n.repr.length ≤ 30 := fun n hn => (Nat.length_repr_le_iff (by decide)).mpr hn
  cases i with
  | ofNat n =>
    have : n.repr.length ≤ 30 := hr n (by simpa using h)
    show n.repr.length ≤ 31
    omega
  | negSucc n =>
    have : (n + 1).repr.length ≤ 30 := hr (n + 1) (by simpa using h)
    show ("-" ++ (n + 1).repr).length ≤ 31
    rw [String.length_append]
    have : "-".length = 1 := by decide
    omega
theorem text_ok : ∀ (ts : List Str) (k : Nat) (acc : Str), PyData.strOk acc = true → (∀ t ∈ ts, PyData.strOk t = true) → PyData.strOk (textFrom k acc ts) = true ∧ (textFrom k acc ts).length ≤ acc.length + (ts.map fun t => t.length + 2).sum
  | [], k, acc, h1, h2 => ⟨h1, by show acc.length ≤ _; simp⟩
  | t :: r, k, acc, h1, h2 => by
    have hs : PyData.strOk (if k > 0 then ", " else "" : String) = true := ok_ofS _
    have hsl : Str.length (Str.ofString (if k > 0 then ", " else "")) ≤ 2 := by
      rw [len_ofS]
      split <;> decide
    obtain ⟨g1, g2⟩ := text_ok r (k + 1) (acc ++ (if k > 0 then ", " else "" : String) ++ t) (ok_app (ok_app h1 hs) (h2 t (List.mem_cons_self ..))) (fun u hu => h2 u (List.mem_cons_of_mem _ hu))
    refine ⟨g1, ?_⟩
    show (textFrom (k + 1) (acc ++ (if k > 0 then ", " else "" : String) ++ t) r).length ≤ _
    rw [len_app, len_app] at g2
    simp only [List.map_cons, List.sum_cons]
    omega
theorem join_ok : ∀ ts : List Str, (∀ t ∈ ts, PyData.strOk t = true) → PyData.strOk (Str.join ", " ts) = true ∧ (Str.join ", " ts).length ≤ (ts.map fun t => t.length + 2).sum
  | [], _ => ⟨by show PyData.strOk Str.empty = true; simp [PyData.strOk, Str.empty], by show (0 : Nat) ≤ _; simp⟩
  | [x], h => ⟨h x (by simp), by show x.length ≤ _; simp⟩
  | x :: y :: r, h => by
    obtain ⟨g1, g2⟩ := join_ok (y :: r) (fun t ht => h t (List.mem_cons_of_mem _ ht))
    have hs : Str.length (Str.ofString ", ") = 2 := by rw [len_ofS]; decide
    refine ⟨ok_app (ok_app (h x (by simp)) (ok_ofS _)) g1, ?_⟩
    show (x ++ ", " ++ Str.join ", " (y :: r)).length ≤ _
    rw [len_app, len_app]
    simp only [List.map_cons, List.sum_cons] at g2 ⊢
    omega
mutual
theorem shown_num : ∀ d : PyData, num d = true → PyData.strOk d.shown = true ∧ d.shown.length ≤ wd d ∧ d.showable = true ∧ d.hasDict = false
  | .none, _ => ⟨ok_ofS _, by show Str.length (Str.ofString "None") ≤ 31; rw [len_ofS]; decide, rfl, rfl⟩
  | .bool b, _ => ⟨by cases b <;> exact ok_ofS _, by
    cases b
    · show Str.length (Str.ofString "False") ≤ 31
      rw [len_ofS]
      decide
    · show Str.length (Str.ofString "True") ≤ 31
      rw [len_ofS]
      decide, rfl, rfl⟩
  | .int i, h => by
    have h1 : i.natAbs < 10 ^ 30 := of_decide_eq_true h
    refine ⟨ok_ofS _, ?_, ?_, rfl⟩
    · show Str.length (Str.ofString (toString i)) ≤ 31
      rw [len_ofS]
      exact int_len h1
    · show decide (i.natAbs.log2 < 1920) = true
      refine decide_eq_true ?_
      by_cases hz : i.natAbs = 0
      · rw [hz]
        decide
      · have : i.natAbs.log2 < 101 := (Nat.log2_lt hz).mpr (Nat.lt_trans h1 (by decide))
        omega
  | .list xs, h => by
    obtain ⟨g1, g2, g3, g4⟩ := shown_numAll xs h
    obtain ⟨k1, k2⟩ := text_ok (PyData.shownAll xs) 0 "[" (ok_ofS _) g1
    have e1 : Str.length (Str.ofString "[") = 1 := by rw [len_ofS]; decide
    have e2 : Str.length (Str.ofString "]") = 1 := by rw [len_ofS]; decide
    refine ⟨ok_app k1 (ok_ofS _), ?_, by simpa [PyData.showable] using g3, by simpa [PyData.hasDict] using g4⟩
    show (textFrom 0 "[" (PyData.shownAll xs) ++ "]").length ≤ wdAll xs + 2
    rw [len_app]
    omega
  | .tuple xs, h => by
    obtain ⟨g1, g2, g3, g4⟩ := shown_numAll xs h
    obtain ⟨k1, k2⟩ := join_ok (PyData.shownAll xs) g1
    have e1 : Str.length (Str.ofString "(") = 1 := by rw [len_ofS]; decide
    have e2 : Str.length (Str.ofString (if (PyData.shownAll xs).length == 1 then ",)" else ")")) ≤ 2 := by
      rw [len_ofS]
      split <;> decide
    refine ⟨ok_app (ok_app (ok_ofS _) k1) (ok_ofS _), ?_, by simpa [PyData.showable] using g3, by simpa [PyData.hasDict] using g4⟩
    show (("(" : Str) ++ Str.join ", " (PyData.shownAll xs) ++ (if (PyData.shownAll xs).length == 1 then ",)" else ")" : String)).length ≤ wdAll xs + 4
    rw [len_app, len_app]
    omega
  | .str x, h => by cases h
  | .dict x, h => by cases h
theorem shown_numAll : ∀ xs : List PyData, numAll xs = true → (∀ t ∈ PyData.shownAll xs, PyData.strOk t = true) ∧ ((PyData.shownAll xs).map fun t => t.length + 2).sum ≤ wdAll xs ∧ PyData.showableAll xs = true ∧ PyData.hasDictAll xs = false
  | [], _ => ⟨fun t ht => by simp [PyData.shownAll] at ht, by simp [PyData.shownAll], rfl, rfl⟩
  | x :: xs, h => by
    obtain ⟨h1, h2⟩ := Bool.and_eq_true_iff.mp (show (num x && numAll xs) = true from h)
    obtain ⟨a1, a2, a3, a4⟩ := shown_num x h1
    obtain ⟨b1, b2, b3, b4⟩ := shown_numAll xs h2
    refine ⟨fun t ht => ?_, ?_, by simp [PyData.showableAll, a3, b3], by simp [PyData.hasDictAll, a4, b4]⟩
    · simp only [PyData.shownAll, List.mem_cons] at ht
      rcases ht with e | ht
      · rw [e]
        exact a1
      · exact b1 t ht
    · simp only [PyData.shownAll, List.map_cons, List.sum_cons, wdAll]
      omega
end
theorem reprOk_num {d : PyData} (h : num d = true) (hd : d.depth ≤ 60) (hw : wd d ≤ 16777216) : reprOk d = true := by
  obtain ⟨a1, a2, a3, a4⟩ := shown_num d h
  unfold reprOk strFit
  rw [a3, a4, a1, decide_eq_true hd, decide_eq_true (show d.shown.length ≤ sizeLine from Nat.le_trans a2 (by rw [sizeLine_eq]; exact hw))]
  rfl
end MP
/-! MPRun: loops and comprehensions by an invariant. -/
namespace MP
open PySem
theorem comp_inv {f : PyData → Stk → Res (Option PyData)} (Inv : Nat → Stk → Prop) (P : PyData → Prop) : ∀ {ds : List PyData} {k : Nat} {s : Stk}, (∀ i d s, ds[i]? = some d → Inv (k + i) s → ∃ y s', f d s = .ok (some y) s' ∧ Inv (k + i + 1) s' ∧ P y) → Inv k s →
    ∃ ys s', compL f ds s = .ok ys s' ∧ Inv (k + ds.length) s' ∧ ys.length = ds.length ∧ ∀ y ∈ ys, P y
  | [], k, s, h, h0 => ⟨[], s, rfl, h0, rfl, fun y hy => by simp at hy⟩
  | d :: ds, k, s, h, h0 => by
    obtain ⟨y, s1, e1, i1, p1⟩ := h 0 d s rfl h0
    obtain ⟨ys, s2, e2, i2, l2, p2⟩ := comp_inv (f := f) Inv P (ds := ds) (k := k + 1) (s := s1) (fun i d s hd hi => by
      obtain ⟨y, s', a, b, c⟩ := h (i + 1) d s (by simpa using hd) (by rw [show k + (i + 1) = k + 1 + i from by omega]; exact hi)
      exact ⟨y, s', a, by rw [show k + 1 + i + 1 = k + (i + 1) + 1 from by omega]; exact b, c⟩) i1
    refine ⟨y :: ys, s2, ?_, by rw [List.length_cons, show k + (ds.length + 1) = k + 1 + ds.length from by omega]; exact i2, by simp [l2], fun z hz => ?_⟩
    · unfold compL
      rw [e1]
      simp only
      rw [e2]
      rfl
    · rcases List.mem_cons.mp hz with e | hz
      · rw [e]
        exact p1
      · exact p2 z hz
theorem for_inv {f : PyData → Ve → Stk → Res Out} (Inv : Nat → Ve → Stk → Prop) : ∀ {ds : List PyData} {k : Nat} {env : Ve} {s : Stk}, (∀ i d env s, ds[i]? = some d → Inv (k + i) env s → ∃ env' s', f d env s = .ok (.nx env') s' ∧ Inv (k + i + 1) env' s') → Inv k env s →
    ∃ env' s', forL f ds env s = .ok (.nx env') s' ∧ Inv (k + ds.length) env' s'
  | [], k, env, s, h, h0 => ⟨env, s, rfl, h0⟩
  | d :: ds, k, env, s, h, h0 => by
    obtain ⟨env1, s1, e1, i1⟩ := h 0 d env s rfl h0
    obtain ⟨env2, s2, e2, i2⟩ := for_inv (f := f) Inv (ds := ds) (k := k + 1) (env := env1) (s := s1) (fun i d env s hd hi => by
      obtain ⟨env', s', a, b⟩ := h (i + 1) d env s (by simpa using hd) (by rw [show k + (i + 1) = k + 1 + i from by omega]; exact hi)
      exact ⟨env', s', a, by rw [show k + 1 + i + 1 = k + (i + 1) + 1 from by omega]; exact b⟩) i1
    refine ⟨env2, s2, ?_, by rw [List.length_cons, show k + (ds.length + 1) = k + 1 + ds.length from by omega]; exact i2⟩
    rw [for_cons, e1]
    exact e2
theorem mem_cut {xs : List PyData} {lo hi : Option Int} {x : PyData} (h : x ∈ cutL xs lo hi) : x ∈ xs := List.mem_of_mem_drop (List.mem_of_mem_take h)
theorem len_cut {xs : List PyData} {lo hi : Option Int} : (cutL xs lo hi).length ≤ xs.length := by
  unfold cutL
  rw [List.length_take, List.length_drop]
  omega
/-- no dict within -/
def ND (xs : List PyData) : Prop := ∀ x ∈ xs, PyData.hasDict x = false
theorem ND.tup {xs : List PyData} (h : ND xs) : PyData.hasDict (.tuple xs) = false := by
  show PyData.hasDictAll xs = false
  induction xs with
  | nil => rfl
  | cons y ys ih =>
    simp only [PyData.hasDictAll, Bool.or_eq_false_iff]
    exact ⟨h y (List.mem_cons_self ..), ih fun x hx => h x (List.mem_cons_of_mem _ hx)⟩
theorem ND.lst {xs : List PyData} (h : ND xs) : PyData.hasDict (.list xs) = false := h.tup
theorem ND.cut {xs : List PyData} {lo hi : Option Int} (h : ND xs) : ND (cutL xs lo hi) := fun x hx => h x (mem_cut hx)
theorem ND.app {xs ys : List PyData} (h : ND xs) (k : ND ys) : ND (xs ++ ys) := fun x hx => (List.mem_append.mp hx).elim (h x) (k x)
theorem ND.nil : ND [] := fun x hx => by simp at hx
theorem ND.cons {x : PyData} {xs : List PyData} (h : PyData.hasDict x = false) (k : ND xs) : ND (x :: xs) := fun y hy => (List.mem_cons.mp hy).elim (fun e => e ▸ h) (k y)
end MP
set_option maxRecDepth 100000
set_option maxHeartbeats 0
namespace G
open PySem PySem.Spec PyProof.Rows L2 MP
def top (i : Nat) : Stmt := PySem.Challenge.pw_touchroad_k53_one_row_runs_beside_plain.main.body.getD i (.Pass ⟨0, 0, 0, 0⟩)
def T_0 : List (PySem.Str × PyData) := [("set", (.str "rw")), ("add", (.str "rrr")), ("sub", (.str "rrr")), ("and", (.str "rrr")), ("xor", (.str "rrr")), ("below", (.str "rrr")), ("load", (.str "rrw")), ("store", (.str "rrw")), ("swap", (.str "rrrw")), ("addto", (.str "rrrw")), ("fence", (.str "")), ("gap", (.str "")), ("ifzero", (.str "rt")), ("jump", (.str "t")), ("stop", (.str ""))]
def cs : List (PySem.Str × PyData) := [("WORDS", (.int 65536)), ("REGISTERS", (.int 8)), ("MOST_CORES", (.int 4)), ("MOST_ROWS", (.int 40)), ("MOST_CELLS", (.int 32)), ("SUMS", (.tuple [(.str "add"), (.str "sub"), (.str "and"), (.str "xor"), (.str "below")])), ("AT_ONCE", (.tuple [(.str "swap"), (.str "addto")])), ("WAITING", (.tuple [(.str "fence"), (.str "swap"), (.str "addto")]))]
def ts : List (PySem.Str × List (PySem.Str × PyData)) := [("SHAPES", T_0)]
def fr : List PySem.Str := ["isinstance", "int", "bool", "list", "tuple", "len", "str", "zip", "all", "range", "repr"]
def sg_0 : Sig := ("is_integer", ["value"], top 12)
def sg_1 : Sig := ("anew", ["value"], top 13)
def sg_2 : Sig := ("is_within", ["value", "least", "most"], top 14)
def sg_3 : Sig := ("is_word", ["value"], top 15)
def sg_4 : Sig := ("is_part", ["value", "kind", "rows"], top 16)
def sg_5 : Sig := ("is_an_instruction", ["value", "rows"], top 17)
def sg_6 : Sig := ("is_a_core", ["value"], top 18)
def sg_7 : Sig := ("is_a_book", ["value"], top 19)
def sg_8 : Sig := ("is_a_memory", ["value"], top 20)
def sg_9 : Sig := ("need_book", ["book"], top 21)
def sg_10 : Sig := ("need_memory", ["memory", "cells"], top 22)
def sg_11 : Sig := ("reads_of", ["instruction"], top 27)
def sg_12 : Sig := ("writes_of", ["instruction"], top 28)
def sg_13 : Sig := ("result_of", ["instruction", "words"], top 29)
def sg_14 : Sig := ("swapped", ["instruction", "word", "ahead"], top 30)
def sg_15 : Sig := ("cell_at", ["cells", "base", "offset"], top 31)
def sg_16 : Sig := ("cell_for", ["cells", "instruction", "words"], top 32)
def sg_17 : Sig := ("next_row", ["instruction", "row", "words"], top 33)
def sg_18 : Sig := ("replaced", ["values", "place", "value"], top 35)
def sg_19 : Sig := ("first_stand", ["book", "memory"], top 36)
def sg_20 : Sig := ("row_of", ["book", "stand", "core"], top 37)
def sg_21 : Sig := ("stopped", ["book", "stand", "core"], top 38)
def sg_22 : Sig := ("may_do", ["book", "stand", "core"], top 39)
def sg_23 : Sig := ("may_flush", ["stand", "core"], top 40)
def sg_24 : Sig := ("is_let", ["book", "stand", "step"], top 41)
def sg_25 : Sig := ("word_for", ["stores", "memory", "cell"], top 42)
def sg_26 : Sig := ("core_done", ["instruction", "core", "memory"], top 43)
def sg_27 : Sig := ("done", ["book", "stand", "core"], top 44)
def sg_28 : Sig := ("flushed", ["stand", "core"], top 45)
def sg_29 : Sig := ("stepped", ["book", "stand", "step"], top 46)
def sg_30 : Sig := ("at_once", ["book", "stand", "core"], top 47)
def sg_31 : Sig := ("plain_first", ["book", "memory"], top 49)
def sg_32 : Sig := ("plain_run", ["book", "memory", "steps"], top 50)
def sg_33 : Sig := ("one_row_run", ["book", "memory", "cores"], top 51)
def sg_34 : Sig := ("_law_deck", ["script"], top 53)
def sg_35 : Sig := ("_law_take", ["deck", "many"], top 54)
def sg_36 : Sig := ("_law_put", ["row", "at", "value"], top 55)
def sg_37 : Sig := ("_law_sum", ["name", "one", "other"], top 56)
def sg_38 : Sig := ("_law_is_still", ["book", "c", "row"], top 57)
def sg_39 : Sig := ("_law_plain_next", ["book", "stand", "step"], top 58)
def sg_40 : Sig := ("_law_plain_begin", ["book", "memory"], top 59)
def sg_41 : Sig := ("_law_drawn_one", ["deck", "many", "words"], top 60)
def sg_42 : Sig := ("_law_book", ["deck", "cores", "most"], top 61)
def sg_43 : Sig := ("_law_memory", ["deck", "cells"], top 62)
def sg_44 : Sig := ("_law_caught", ["book", "memory", "cores"], top 63)
def sg_45 : Sig := ("_law_wanted", ["deck", "book", "way", "turn"], top 64)
def sg_46 : Sig := ("_law_ran", ["deck", "book", "memory", "most"], top 65)
def sg_47 : Sig := ("_law_refused_right", ["deck", "book", "memory", "cores"], top 66)
def sg_48 : Sig := ("_law_ran_cores", ["book", "memory", "cores"], top 67)
def sg_49 : Sig := ("_law_counter", ["deck"], top 68)
def sg_50 : Sig := ("law", ["script"], top 69)
def sig : List Sig := [sg_0, sg_1, sg_2, sg_3, sg_4, sg_5, sg_6, sg_7, sg_8, sg_9, sg_10, sg_11, sg_12, sg_13, sg_14, sg_15, sg_16, sg_17, sg_18, sg_19, sg_20, sg_21, sg_22, sg_23, sg_24, sg_25, sg_26, sg_27, sg_28, sg_29, sg_30, sg_31, sg_32, sg_33, sg_34, sg_35, sg_36, sg_37, sg_38, sg_39, sg_40, sg_41, sg_42, sg_43, sg_44, sg_45, sg_46, sg_47, sg_48, sg_49, sg_50]
def er : List PySem.Str := ["InvalidBook", "InvalidMemory", "NotLet"]
abbrev R : PySem.W.OpenRow := PySem.W.OpenLaw.row PySem.Challenge.rw_touchroad_k53_one_row_runs_beside_plain
def file : PySem.Str := R.prog.main.file
def base : PySem.Str := "MachineError"
def initD : Stmt := match top 1 with
  | .ClassDef (body := b) .. => b.getD 0 (.Pass ⟨0, 0, 0, 0⟩)
  | s => s
def iw : InitW := some (defArgs initD, .stmts (defBody initD), defScope initD, mainGlobals, builtinsNs, .none)
abbrev hk : PySem.W.Hook := MP.hookKE 4 (faD sig ts fr) (sig.map mkD) cs ts file base er iw
def ob (s : PySem.W.SharedT) : MP.AlE := MP.obsKGE 4 (faD sig ts fr) (sig.map mkD) (cs.map Prod.fst) (ts.map Prod.fst) file base er (HandSHeadRun.getT s)
theorem ob_eq (s : PySem.W.SharedT) : ob s = hk.obs s.abs := MP.obsKGE_eq (HandSHeadRun.getT_eq s)
def names : List PySem.Str := (["MachineError", "InvalidBook", "InvalidMemory", "NotLet", "WORDS", "REGISTERS", "MOST_CORES", "MOST_ROWS", "MOST_CELLS", "SHAPES", "is_integer", "anew", "is_within", "is_word", "is_part", "is_an_instruction", "is_a_core", "is_a_book", "is_a_memory", "need_book", "need_memory", "SUMS", "AT_ONCE", "WAITING", "reads_of", "writes_of", "result_of", "swapped", "cell_at", "cell_for"] : List PySem.Str) ++ (["next_row", "replaced", "first_stand", "row_of", "stopped", "may_do", "may_flush", "is_let", "word_for", "core_done", "done", "flushed", "stepped", "at_once", "plain_first", "plain_run", "one_row_run", "_law_deck", "_law_take", "_law_put", "_law_sum", "_law_is_still", "_law_plain_next", "_law_plain_begin", "_law_drawn_one", "_law_book", "_law_memory", "_law_caught", "_law_wanted", "_law_ran"] : List PySem.Str) ++ (["_law_refused_right", "_law_ran_cores", "_law_counter"] : List PySem.Str)
theorem run0 (b : Bool) (w : World) : HandSHeadRun.RunEq R (PySem.W.view R.prog [69]) hk ob 8000 names (w.withFollow "special-get-raises" b) := by
  intro os
  cases b <;> kernel_rfl
theorem run (w : World) : HandSHeadRun.RunEq R (PySem.W.view R.prog [69]) hk ob 8000 names w :=
  PySem.W.byRow2 "special-get-raises" (run0 false) (run0 true) w
end G
namespace G
open PySem PySem.Spec PyProof.Rows L2 MP
theorem initOk : InitOk (defArgs initD) (.stmts (defBody initD)) (defScope initD) ⟨5, 8, 5, 13⟩ ⟨5, 8, 5, 15⟩ ⟨5, 8, 5, 24⟩ ⟨5, 25, 5, 36⟩ ⟨5, 8, 5, 37⟩ ⟨5, 8, 5, 37⟩ ⟨6, 8, 6, 12⟩ ⟨6, 8, 6, 18⟩ ⟨6, 21, 6, 26⟩ ⟨6, 8, 6, 26⟩ "touchroad" 0 := ⟨fun fd h1 h2 h3 h4 h5 h6 => by
  obtain ⟨n1, n2, n3, n4, n5, n6, n7, n8, n9, n10, n11, n12, n13, n14, n15⟩ := fd
  simp only at h1 h2 h3 h4 h5 h6
  subst h1 h2 h3 h4 h5 h6
  exact ⟨rfl, rfl, fun _ _ => rfl, rfl, rfl, rfl, (show ∀ x ∈ (defScope initD).names, x.2 ≠ .cell by decide +kernel), rfl, rfl, rfl, rfl, fun env => ⟨_, rfl⟩, rfl, rfl⟩⟩
end G
set_option maxRecDepth 100000
set_option maxHeartbeats 0
namespace G
open PySem PySem.Spec L2 MP
open PyProof.Rows hiding St
/-- is_integer -/
def F_0 : Fd := ⟨1, 1, (.cons (.ret (.and (.bi (.isa .int) (.cons (.var 0) .nil)) (.not (.val (.bi (.isa .bool) (.cons (.var 0) .nil))))))
  .nil)⟩
/-- anew -/
def F_1 : Fd := ⟨1, 2, (.cons (.ifs (.val (.bi (.isa .list) (.cons (.var 0) .nil))) (.cons (.retN (.comp [1] (.name 1) (.seq (.var 0)) .none (.call 1 (.cons (.var 1) .nil)))) .nil) .nil)
  (.cons (.ifs (.val (.bi (.isa .tuple) (.cons (.var 0) .nil))) (.cons (.ret (.bi .tuple (.cons (.frz (.comp [1] (.name 1) (.seq (.var 0)) .none (.call 1 (.cons (.var 1) .nil)))) .nil))) .nil) .nil)
  (.cons (.ret (.var 0))
  .nil)))⟩
/-- is_within -/
def F_2 : Fd := ⟨3, 3, (.cons (.ret (.and (.call 0 (.cons (.var 0) .nil)) (.cmp2 .le .le (.var 1) (.var 0) (.var 2))))
  .nil)⟩
/-- is_word -/
def F_3 : Fd := ⟨1, 1, (.cons (.ret (.call 2 (.cons (.var 0) (.cons (.cst (.int 0)) (.cons (.bin .sub (.cst (.int 65536)) (.cst (.int 1))) .nil)))))
  .nil)⟩
/-- is_part -/
def F_4 : Fd := ⟨3, 3, (.cons (.ifs (.val (.cmp .eq (.var 1) (.cst (.str "r")))) (.cons (.ret (.call 2 (.cons (.var 0) (.cons (.cst (.int 0)) (.cons (.bin .sub (.cst (.int 8)) (.cst (.int 1))) .nil))))) .nil) .nil)
  (.cons (.ifs (.val (.cmp .eq (.var 1) (.cst (.str "w")))) (.cons (.ret (.call 3 (.cons (.var 0) .nil))) .nil) .nil)
  (.cons (.ret (.call 2 (.cons (.var 0) (.cons (.cst (.int 0)) (.cons (.var 2) .nil)))))
  .nil)))⟩
/-- is_an_instruction -/
def F_5 : Fd := ⟨2, 5, (.cons (.ifs (.or (.not (.val (.bi (.isa .tuple) (.cons (.var 0) .nil)))) (.or (.val (.cmp .eq (.bi .len (.cons (.var 0) .nil)) (.cst (.int 0)))) (.or (.not (.val (.bi (.isa .str) (.cons (.sub (.var 0) (.cst (.int 0))) .nil)))) (.val (.knin T_0 (.sub (.var 0) (.cst (.int 0)))))))) (.cons (.ret (.cst (.bool false))) .nil) .nil)
  (.cons (.asg (.name 2) (.kget T_0 (.sub (.var 0) (.cst (.int 0)))))
  (.cons (.ifs (.val (.cmp .ne (.bi .len (.cons (.var 0) .nil)) (.bin .add (.bi .len (.cons (.var 2) .nil)) (.cst (.int 1))))) (.cons (.ret (.cst (.bool false))) .nil) .nil)
  (.cons (.ret (.bi .all (.cons (.frz (.comp [3, 4] (.tup [3, 4]) (.zip (.slc (.var 0) (.some (.cst (.int 1))) .none) (.var 2)) .none (.call 4 (.cons (.var 3) (.cons (.var 4) (.cons (.var 1) .nil)))))) .nil)))
  .nil))))⟩
/-- is_a_core -/
def F_6 : Fd := ⟨1, 2, (.cons (.ifs (.or (.not (.val (.bi (.isa .tuple) (.cons (.var 0) .nil)))) (.val (.cmp .gt (.bi .len (.cons (.var 0) .nil)) (.cst (.int 40))))) (.cons (.ret (.cst (.bool false))) .nil) .nil)
  (.cons (.ret (.bi .all (.cons (.frz (.comp [1] (.name 1) (.seq (.var 0)) .none (.call 5 (.cons (.var 1) (.cons (.bi .len (.cons (.var 0) .nil)) .nil))))) .nil)))
  .nil))⟩
/-- is_a_book -/
def F_7 : Fd := ⟨1, 2, (.cons (.ret (.and (.bi (.isa .tuple) (.cons (.var 0) .nil)) (.and (.cmp2 .le .le (.cst (.int 1)) (.bi .len (.cons (.var 0) .nil)) (.cst (.int 4))) (.bi .all (.cons (.frz (.comp [1] (.name 1) (.seq (.var 0)) .none (.call 6 (.cons (.var 1) .nil)))) .nil)))))
  .nil)⟩
/-- is_a_memory -/
def F_8 : Fd := ⟨1, 2, (.cons (.ret (.and (.bi (.isa .tuple) (.cons (.var 0) .nil)) (.and (.cmp2 .le .le (.cst (.int 1)) (.bi .len (.cons (.var 0) .nil)) (.cst (.int 32))) (.bi .all (.cons (.frz (.comp [1] (.name 1) (.seq (.var 0)) .none (.call 3 (.cons (.var 1) .nil)))) .nil)))))
  .nil)⟩
/-- need_book -/
def F_9 : Fd := ⟨1, 1, (.cons (.ifs (.not (.val (.call 7 (.cons (.var 0) .nil)))) (.cons (.raise 0 (.call 1 (.cons (.var 0) .nil))) .nil) .nil)
  .nil)⟩
/-- need_memory -/
def F_10 : Fd := ⟨2, 2, (.cons (.ifs (.or (.not (.val (.call 8 (.cons (.var 0) .nil)))) (.and (.val (.cmp (.isNotV .none) (.var 1) (.cst .none))) (.val (.cmp .ne (.bi .len (.cons (.var 0) .nil)) (.var 1))))) (.cons (.raise 1 (.call 1 (.cons (.var 0) .nil))) .nil) .nil)
  .nil)⟩
/-- reads_of -/
def F_11 : Fd := ⟨1, 2, (.cons (.asg (.name 1) (.sub (.var 0) (.cst (.int 0))))
  (.cons (.ifs (.or (.val (.cmp .in_ (.var 1) (.cst (.tuple [(.str "add"), (.str "sub"), (.str "and"), (.str "xor"), (.str "below")])))) (.val (.cmp .in_ (.var 1) (.cst (.tuple [(.str "swap"), (.str "addto")]))))) (.cons (.ret (.tup (.cons (.sub (.var 0) (.cst (.int 2))) (.cons (.sub (.var 0) (.cst (.int 3))) .nil)))) .nil) .nil)
  (.cons (.ifs (.val (.cmp .eq (.var 1) (.cst (.str "load")))) (.cons (.ret (.tup (.cons (.sub (.var 0) (.cst (.int 2))) .nil))) .nil) .nil)
  (.cons (.ifs (.val (.cmp .eq (.var 1) (.cst (.str "store")))) (.cons (.ret (.tup (.cons (.sub (.var 0) (.cst (.int 1))) (.cons (.sub (.var 0) (.cst (.int 2))) .nil)))) .nil) .nil)
  (.cons (.ifs (.val (.cmp .eq (.var 1) (.cst (.str "ifzero")))) (.cons (.ret (.tup (.cons (.sub (.var 0) (.cst (.int 1))) .nil))) .nil) .nil)
  (.cons (.ret (.tup .nil))
  .nil))))))⟩
/-- writes_of -/
def F_12 : Fd := ⟨1, 2, (.cons (.asg (.name 1) (.sub (.var 0) (.cst (.int 0))))
  (.cons (.ifs (.or (.val (.cmp .eq (.var 1) (.cst (.str "set")))) (.or (.val (.cmp .eq (.var 1) (.cst (.str "load")))) (.or (.val (.cmp .in_ (.var 1) (.cst (.tuple [(.str "add"), (.str "sub"), (.str "and"), (.str "xor"), (.str "below")])))) (.val (.cmp .in_ (.var 1) (.cst (.tuple [(.str "swap"), (.str "addto")]))))))) (.cons (.ret (.sub (.var 0) (.cst (.int 1)))) .nil) .nil)
  (.cons (.ret (.cst .none))
  .nil)))⟩
/-- result_of -/
def F_13 : Fd := ⟨2, 5, (.cons (.asg (.name 2) (.sub (.var 0) (.cst (.int 0))))
  (.cons (.ifs (.val (.cmp .eq (.var 2) (.cst (.str "set")))) (.cons (.ret (.sub (.var 0) (.cst (.int 2)))) .nil) .nil)
  (.cons (.asg (.tup [3, 4]) (.var 1))
  (.cons (.ifs (.val (.cmp .eq (.var 2) (.cst (.str "add")))) (.cons (.ret (.bin .mod (.bin .add (.var 3) (.var 4)) (.cst (.int 65536)))) .nil) .nil)
  (.cons (.ifs (.val (.cmp .eq (.var 2) (.cst (.str "sub")))) (.cons (.ret (.bin .mod (.bin .sub (.var 3) (.var 4)) (.cst (.int 65536)))) .nil) .nil)
  (.cons (.ifs (.val (.cmp .eq (.var 2) (.cst (.str "and")))) (.cons (.ret (.bin .and (.var 3) (.var 4))) .nil) .nil)
  (.cons (.ifs (.val (.cmp .eq (.var 2) (.cst (.str "xor")))) (.cons (.ret (.bin .xor (.var 3) (.var 4))) .nil) .nil)
  (.cons (.ret (.bi .int (.cons (.cmp .lt (.var 3) (.var 4)) .nil)))
  .nil))))))))⟩
/-- swapped -/
def F_14 : Fd := ⟨3, 3, (.cons (.ifs (.val (.cmp .eq (.sub (.var 0) (.cst (.int 0))) (.cst (.str "swap")))) (.cons (.ret (.var 1)) .nil) .nil)
  (.cons (.ret (.bin .mod (.bin .add (.var 2) (.var 1)) (.cst (.int 65536))))
  .nil))⟩
/-- cell_at -/
def F_15 : Fd := ⟨3, 3, (.cons (.ret (.bin .mod (.bin .add (.var 1) (.var 2)) (.var 0)))
  .nil)⟩
/-- cell_for -/
def F_16 : Fd := ⟨3, 3, (.cons (.ret (.call 15 (.cons (.var 0) (.cons (.sub (.var 2) (.neg (.cst (.int 1)))) (.cons (.sub (.var 1) (.neg (.cst (.int 1)))) .nil)))))
  .nil)⟩
/-- next_row -/
def F_17 : Fd := ⟨3, 3, (.cons (.ifs (.val (.cmp .eq (.sub (.var 0) (.cst (.int 0))) (.cst (.str "jump")))) (.cons (.ret (.sub (.var 0) (.cst (.int 1)))) .nil) .nil)
  (.cons (.ifs (.and (.val (.cmp .eq (.sub (.var 0) (.cst (.int 0))) (.cst (.str "ifzero")))) (.val (.cmp .eq (.sub (.var 2) (.cst (.int 0))) (.cst (.int 0))))) (.cons (.ret (.sub (.var 0) (.cst (.int 2)))) .nil) .nil)
  (.cons (.ret (.bin .add (.var 1) (.cst (.int 1))))
  .nil)))⟩
/-- replaced -/
def F_18 : Fd := ⟨3, 3, (.cons (.ret (.bin .add (.bin .add (.slc (.var 0) .none (.some (.var 1))) (.tup (.cons (.var 2) .nil))) (.slc (.var 0) (.some (.bin .add (.var 1) (.cst (.int 1)))) .none)))
  .nil)⟩
/-- first_stand -/
def F_19 : Fd := ⟨2, 3, (.cons (.ret (.tup (.cons (.bi .tuple (.cons (.frz (.comp [2] (.name 2) (.seq (.var 0)) .none (.tup (.cons (.cst (.int 0)) (.cons (.bin .mul (.tup (.cons (.cst (.int 0)) .nil)) (.cst (.int 8))) (.cons (.tup .nil) .nil)))))) .nil)) (.cons (.var 1) .nil))))
  .nil)⟩
/-- row_of -/
def F_20 : Fd := ⟨3, 5, (.cons (.par [3, 4] (.cons (.sub (.var 0) (.var 2)) (.cons (.sub (.sub (.sub (.var 1) (.cst (.int 0))) (.var 2)) (.cst (.int 0))) .nil)))
  (.cons (.ifs (.or (.val (.cmp .eq (.var 4) (.bi .len (.cons (.var 3) .nil)))) (.val (.cmp .eq (.sub (.sub (.var 3) (.var 4)) (.cst (.int 0))) (.cst (.str "stop"))))) (.cons (.ret (.cst .none)) .nil) .nil)
  (.cons (.ret (.sub (.var 3) (.var 4)))
  .nil)))⟩
/-- stopped -/
def F_21 : Fd := ⟨3, 3, (.cons (.ret (.cmp (.isV .none) (.call 20 (.cons (.var 0) (.cons (.var 1) (.cons (.var 2) .nil)))) (.cst .none)))
  .nil)⟩
/-- may_do -/
def F_22 : Fd := ⟨3, 4, (.cons (.asg (.name 3) (.call 20 (.cons (.var 0) (.cons (.var 1) (.cons (.var 2) .nil)))))
  (.cons (.ifs (.val (.cmp (.isV .none) (.var 3) (.cst .none))) (.cons (.ret (.cst (.bool false))) .nil) .nil)
  (.cons (.ret (.or (.cmp .notIn (.sub (.var 3) (.cst (.int 0))) (.cst (.tuple [(.str "fence"), (.str "swap"), (.str "addto")]))) (.cmp .eq (.sub (.sub (.sub (.var 1) (.cst (.int 0))) (.var 2)) (.cst (.int 2))) (.tup .nil))))
  .nil)))⟩
/-- may_flush -/
def F_23 : Fd := ⟨2, 2, (.cons (.ret (.cmp .ne (.sub (.sub (.sub (.var 0) (.cst (.int 0))) (.var 1)) (.cst (.int 2))) (.tup .nil)))
  .nil)⟩
/-- is_let -/
def F_24 : Fd := ⟨3, 3, (.cons (.ifs (.or (.not (.val (.bi (.isa .tuple) (.cons (.var 2) .nil)))) (.or (.val (.cmp .ne (.bi .len (.cons (.var 2) .nil)) (.cst (.int 2)))) (.not (.val (.bi (.isa .str) (.cons (.sub (.var 2) (.cst (.int 0))) .nil)))))) (.cons (.ret (.cst (.bool false))) .nil) .nil)
  (.cons (.ifs (.not (.val (.call 2 (.cons (.sub (.var 2) (.cst (.int 1))) (.cons (.cst (.int 0)) (.cons (.bin .sub (.bi .len (.cons (.var 0) .nil)) (.cst (.int 1))) .nil)))))) (.cons (.ret (.cst (.bool false))) .nil) .nil)
  (.cons (.ifs (.val (.cmp .eq (.sub (.var 2) (.cst (.int 0))) (.cst (.str "do")))) (.cons (.ret (.call 22 (.cons (.var 0) (.cons (.var 1) (.cons (.sub (.var 2) (.cst (.int 1))) .nil))))) .nil) .nil)
  (.cons (.ret (.and (.cmp .eq (.sub (.var 2) (.cst (.int 0))) (.cst (.str "flush"))) (.call 23 (.cons (.var 1) (.cons (.sub (.var 2) (.cst (.int 1))) .nil)))))
  .nil))))⟩
/-- word_for -/
def F_25 : Fd := ⟨3, 5, (.cons (.forS (.tup [3, 4]) (.seq (.rev (.var 0))) (.cons (.ifs (.val (.cmp .eq (.var 3) (.var 2))) (.cons (.ret (.var 4)) .nil) .nil) .nil))
  (.cons (.ret (.sub (.var 1) (.var 2)))
  .nil))⟩
/-- core_done -/
def F_26 : Fd := ⟨3, 13, (.cons (.asg (.tup [3, 4, 5]) (.var 1))
  (.cons (.asg (.name 6) (.sub (.var 0) (.cst (.int 0))))
  (.cons (.asg (.name 7) (.bi .tuple (.cons (.frz (.comp [12] (.name 12) (.seq (.call 11 (.cons (.var 0) .nil))) .none (.sub (.var 4) (.var 12)))) .nil)))
  (.cons (.asg (.name 8) (.call 17 (.cons (.var 0) (.cons (.var 3) (.cons (.var 7) .nil)))))
  (.cons (.ifs (.val (.cmp .eq (.var 6) (.cst (.str "store")))) (.cons (.asg (.name 9) (.tup (.cons (.call 16 (.cons (.bi .len (.cons (.var 2) .nil)) (.cons (.var 0) (.cons (.var 7) .nil)))) (.cons (.sub (.var 7) (.cst (.int 0))) .nil)))) (.cons (.ret (.tup (.cons (.tup (.cons (.var 8) (.cons (.var 4) (.cons (.bin .add (.var 5) (.tup (.cons (.var 9) .nil))) .nil)))) (.cons (.var 2) .nil)))) .nil)) .nil)
  (.cons (.ifs (.val (.cmp (.isV .none) (.call 12 (.cons (.var 0) .nil)) (.cst .none))) (.cons (.ret (.tup (.cons (.tup (.cons (.var 8) (.cons (.var 4) (.cons (.var 5) .nil)))) (.cons (.var 2) .nil)))) .nil) .nil)
  (.cons (.ifs (.val (.cmp .in_ (.var 6) (.cst (.tuple [(.str "swap"), (.str "addto")])))) (.cons (.asg (.name 10) (.call 16 (.cons (.bi .len (.cons (.var 2) .nil)) (.cons (.var 0) (.cons (.var 7) .nil))))) (.cons (.asg (.name 11) (.sub (.var 2) (.var 10))) (.cons (.asg (.name 2) (.call 18 (.cons (.var 2) (.cons (.var 10) (.cons (.call 14 (.cons (.var 0) (.cons (.sub (.var 7) (.cst (.int 0))) (.cons (.var 11) .nil)))) .nil))))) .nil))) (.cons (.ifs (.val (.cmp .eq (.var 6) (.cst (.str "load")))) (.cons (.asg (.name 11) (.call 25 (.cons (.var 5) (.cons (.var 2) (.cons (.call 16 (.cons (.bi .len (.cons (.var 2) .nil)) (.cons (.var 0) (.cons (.var 7) .nil)))) .nil))))) .nil) (.cons (.asg (.name 11) (.call 13 (.cons (.var 0) (.cons (.var 7) .nil)))) .nil)) .nil))
  (.cons (.ret (.tup (.cons (.tup (.cons (.var 8) (.cons (.call 18 (.cons (.var 4) (.cons (.sub (.var 0) (.cst (.int 1))) (.cons (.var 11) .nil)))) (.cons (.var 5) .nil)))) (.cons (.var 2) .nil))))
  .nil))))))))⟩
/-- done -/
def F_27 : Fd := ⟨3, 6, (.cons (.asg (.tup [3, 4]) (.var 1))
  (.cons (.asg (.tup [5, 4]) (.call 26 (.cons (.call 20 (.cons (.var 0) (.cons (.var 1) (.cons (.var 2) .nil)))) (.cons (.sub (.var 3) (.var 2)) (.cons (.var 4) .nil)))))
  (.cons (.ret (.tup (.cons (.call 18 (.cons (.var 3) (.cons (.var 2) (.cons (.var 5) .nil)))) (.cons (.var 4) .nil))))
  .nil)))⟩
/-- flushed -/
def F_28 : Fd := ⟨2, 9, (.cons (.asg (.tup [2, 3]) (.var 0))
  (.cons (.asg (.tup [4, 5, 6]) (.sub (.var 2) (.var 1)))
  (.cons (.asg (.tup [7, 8]) (.sub (.var 6) (.cst (.int 0))))
  (.cons (.ret (.tup (.cons (.call 18 (.cons (.var 2) (.cons (.var 1) (.cons (.tup (.cons (.var 4) (.cons (.var 5) (.cons (.slc (.var 6) (.some (.cst (.int 1))) .none) .nil)))) .nil)))) (.cons (.call 18 (.cons (.var 3) (.cons (.var 7) (.cons (.var 8) .nil)))) .nil))))
  .nil))))⟩
/-- stepped -/
def F_29 : Fd := ⟨3, 3, (.cons (.ifs (.val (.cmp .eq (.sub (.var 2) (.cst (.int 0))) (.cst (.str "do")))) (.cons (.ret (.call 27 (.cons (.var 0) (.cons (.var 1) (.cons (.sub (.var 2) (.cst (.int 1))) .nil))))) .nil) .nil)
  (.cons (.ret (.call 28 (.cons (.var 1) (.cons (.sub (.var 2) (.cst (.int 1))) .nil))))
  .nil))⟩
/-- at_once -/
def F_30 : Fd := ⟨3, 4, (.cons (.asg (.name 3) (.call 27 (.cons (.var 0) (.cons (.var 1) (.cons (.var 2) .nil)))))
  (.cons (.ifs (.val (.call 23 (.cons (.var 3) (.cons (.var 2) .nil)))) (.cons (.ret (.call 28 (.cons (.var 3) (.cons (.var 2) .nil)))) .nil) .nil)
  (.cons (.ret (.var 3))
  .nil)))⟩
/-- plain_first -/
def F_31 : Fd := ⟨2, 2, (.cons (.expr (.call 9 (.cons (.var 0) .nil)))
  (.cons (.expr (.call 10 (.cons (.var 1) (.cons (.cst .none) .nil))))
  (.cons (.ret (.call 19 (.cons (.var 0) (.cons (.var 1) .nil))))
  .nil)))⟩
/-- plain_run -/
def F_32 : Fd := ⟨3, 5, (.cons (.asg (.name 3) (.call 31 (.cons (.var 0) (.cons (.var 1) .nil))))
  (.cons (.forS (.name 4) (.seq (.var 2)) (.cons (.ifs (.not (.val (.call 24 (.cons (.var 0) (.cons (.var 3) (.cons (.var 4) .nil)))))) (.cons (.raise 2 (.call 1 (.cons (.var 4) .nil))) .nil) .nil) (.cons (.asg (.name 3) (.call 29 (.cons (.var 0) (.cons (.var 3) (.cons (.var 4) .nil))))) .nil)))
  (.cons (.ret (.var 3))
  .nil)))⟩
/-- one_row_run -/
def F_33 : Fd := ⟨3, 5, (.cons (.asg (.name 3) (.call 31 (.cons (.var 0) (.cons (.var 1) .nil))))
  (.cons (.forS (.name 4) (.seq (.var 2)) (.cons (.ifs (.or (.not (.val (.call 2 (.cons (.var 4) (.cons (.cst (.int 0)) (.cons (.bin .sub (.bi .len (.cons (.var 0) .nil)) (.cst (.int 1))) .nil)))))) (.val (.call 21 (.cons (.var 0) (.cons (.var 3) (.cons (.var 4) .nil)))))) (.cons (.raise 2 (.call 1 (.cons (.var 4) .nil))) .nil) .nil) (.cons (.asg (.name 3) (.call 30 (.cons (.var 0) (.cons (.var 3) (.cons (.var 4) .nil))))) .nil)))
  (.cons (.ret (.var 3))
  .nil)))⟩
/-- _law_deck -/
def F_34 : Fd := ⟨1, 1, (.cons (.retN (.lst (.cons (.frz (.list (.var 0))) (.cons (.cst (.int 0)) (.cons (.cst (.int 0)) .nil)))))
  .nil)⟩
/-- _law_take -/
def F_35 : Fd := ⟨2, 7, (.cons (.ifs (.val (.cmp .lt (.var 1) (.cst (.int 2)))) (.cons (.ret (.cst (.int 0))) .nil) .nil)
  (.cons (.ifs (.val (.cmp .gt (.sub (.var 0) (.cst (.int 2))) (.cst (.int 0)))) (.cons (.asg (.name 2) (.bin .mod (.bi .int (.cons (.sub (.var 0) (.cst (.int 2))) .nil)) (.var 1))) (.cons (.put (.var 0) (.cst (.int 2)) (.bin .fdiv (.sub (.var 0) (.cst (.int 2))) (.var 1))) (.cons (.ret (.var 2)) .nil))) .nil)
  (.cons (.asg (.name 3) (.sub (.var 0) (.cst (.int 1))))
  (.cons (.put (.var 0) (.cst (.int 1)) (.bin .add (.var 3) (.cst (.int 1))))
  (.cons (.asg (.name 4) (.sub (.var 0) (.cst (.int 0))))
  (.cons (.asg (.name 5) (.ite (.val (.cmp .gt (.bi .len (.cons (.var 4) .nil)) (.cst (.int 0)))) (.sub (.var 4) (.bin .mod (.bi .int (.cons (.var 3) .nil)) (.bi .len (.cons (.var 4) .nil)))) (.cst (.int 0))))
  (.cons (.ifs (.and (.val (.cmp .lt (.var 3) (.bi .len (.cons (.var 4) .nil)))) (.val (.cmp .ge (.var 5) (.bin .pow (.cst (.int 10)) (.cst (.int 18)))))) (.cons (.put (.var 0) (.cst (.int 2)) (.bin .fdiv (.var 5) (.var 1))) (.cons (.ret (.bin .mod (.bi .int (.cons (.var 5) .nil)) (.var 1))) .nil)) .nil)
  (.cons (.asg (.name 6) (.bin .mod (.bi .int (.cons (.bin .mul (.bin .add (.bin .add (.bin .mod (.bi .int (.cons (.var 5) .nil)) (.cst (.int 2147483579))) (.bin .mul (.cst (.int 11)) (.var 3))) (.cst (.int 2))) (.cst (.int 16807))) .nil)) (.cst (.int 2147483647))))
  (.cons (.asg (.name 6) (.bin .mod (.bi .int (.cons (.bin .add (.bin .add (.bin .mul (.var 6) (.var 6)) (.bin .mul (.bin .mul (.cst (.int 23)) (.var 3)) (.var 3))) (.bin .mul (.cst (.int 40014)) (.var 3))) .nil)) (.cst (.int 2147483563))))
  (.cons (.asg (.name 6) (.bin .mod (.bi .int (.cons (.bin .mul (.bin .add (.var 6) (.cst (.int 9))) (.bin .add (.bin .mul (.var 6) (.cst (.int 40692))) (.var 3))) .nil)) (.cst (.int 2147483399))))
  (.cons (.ret (.bin .mod (.bi .int (.cons (.bin .fdiv (.var 6) (.cst (.int 32))) .nil)) (.var 1)))
  .nil)))))))))))⟩
/-- _law_put -/
def F_36 : Fd := ⟨3, 3, (.cons (.ret (.bin .add (.bin .add (.slc (.var 0) .none (.some (.var 1))) (.tup (.cons (.var 2) .nil))) (.slc (.var 0) (.some (.bin .add (.var 1) (.cst (.int 1)))) .none)))
  .nil)⟩
/-- _law_sum -/
def F_37 : Fd := ⟨3, 3, (.cons (.ifs (.val (.cmp .in_ (.var 0) (.tup (.cons (.cst (.str "add")) (.cons (.cst (.str "sub")) .nil))))) (.cons (.ret (.bin .mod (.bi .int (.cons (.ite (.val (.cmp .eq (.var 0) (.cst (.str "add")))) (.bin .add (.var 1) (.var 2)) (.bin .sub (.var 1) (.var 2))) .nil)) (.cst (.int 65536)))) .nil) .nil)
  (.cons (.ifs (.val (.cmp .eq (.var 0) (.cst (.str "below")))) (.cons (.ret (.bi .int (.cons (.cmp .lt (.var 1) (.var 2)) .nil))) .nil) .nil)
  (.cons (.ret (.ite (.val (.cmp .eq (.var 0) (.cst (.str "and")))) (.bin .and (.var 1) (.var 2)) (.bin .xor (.var 1) (.var 2))))
  .nil)))⟩
/-- _law_is_still -/
def F_38 : Fd := ⟨3, 3, (.cons (.ret (.or (.cmp .eq (.var 2) (.bi .len (.cons (.sub (.var 0) (.var 1)) .nil))) (.cmp .eq (.sub (.sub (.var 0) (.var 1)) (.var 2)) (.tup (.cons (.cst (.str "stop")) .nil)))))
  .nil)⟩
/-- _law_plain_next -/
def F_39 : Fd := ⟨3, 16, (.cons (.asg (.tup [3, 4]) (.var 1))
  (.cons (.asg (.name 5) (.sub (.var 2) (.cst (.int 1))))
  (.cons (.asg (.tup [6, 7, 8]) (.sub (.var 3) (.var 5)))
  (.cons (.ifs (.val (.cmp .eq (.sub (.var 2) (.cst (.int 0))) (.cst (.str "flush")))) (.cons (.ret (.tup (.cons (.call 36 (.cons (.var 3) (.cons (.var 5) (.cons (.tup (.cons (.var 6) (.cons (.var 7) (.cons (.slc (.var 8) (.some (.cst (.int 1))) .none) .nil)))) .nil)))) (.cons (.call 36 (.cons (.var 4) (.cons (.sub (.sub (.var 8) (.cst (.int 0))) (.cst (.int 0))) (.cons (.sub (.sub (.var 8) (.cst (.int 0))) (.cst (.int 1))) .nil)))) .nil)))) .nil) .nil)
  (.cons (.asg (.name 9) (.sub (.sub (.var 0) (.var 5)) (.var 6)))
  (.cons (.par [10, 11] (.cons (.sub (.var 9) (.cst (.int 0))) (.cons (.bin .add (.var 6) (.cst (.int 1))) .nil)))
  (.cons (.ifs (.val (.cmp .eq (.var 10) (.cst (.str "set")))) (.cons (.asg (.name 7) (.call 36 (.cons (.var 7) (.cons (.sub (.var 9) (.cst (.int 1))) (.cons (.sub (.var 9) (.cst (.int 2))) .nil))))) .nil) (.cons (.ifs (.val (.cmp .in_ (.var 10) (.tup (.cons (.cst (.str "add")) (.cons (.cst (.str "sub")) (.cons (.cst (.str "and")) (.cons (.cst (.str "xor")) (.cons (.cst (.str "below")) .nil)))))))) (.cons (.asg (.name 7) (.call 36 (.cons (.var 7) (.cons (.sub (.var 9) (.cst (.int 1))) (.cons (.call 37 (.cons (.var 10) (.cons (.sub (.var 7) (.sub (.var 9) (.cst (.int 2)))) (.cons (.sub (.var 7) (.sub (.var 9) (.cst (.int 3)))) .nil)))) .nil))))) .nil) (.cons (.ifs (.val (.cmp .eq (.var 10) (.cst (.str "load")))) (.cons (.asg (.name 12) (.bin .mod (.bi .int (.cons (.bin .add (.sub (.var 7) (.sub (.var 9) (.cst (.int 2)))) (.sub (.var 9) (.cst (.int 3)))) .nil)) (.bi .len (.cons (.var 4) .nil)))) (.cons (.asg (.name 7) (.call 36 (.cons (.var 7) (.cons (.sub (.var 9) (.cst (.int 1))) (.cons (.sub (.frz (.add (.frz (.lst (.cons (.sub (.var 4) (.var 12)) .nil))) (.frz (.comp [15, 13] (.tup [15, 13]) (.seq (.var 8)) (.some (.val (.cmp .eq (.var 15) (.var 12)))) (.var 13))))) (.neg (.cst (.int 1)))) .nil))))) .nil)) (.cons (.ifs (.val (.cmp .eq (.var 10) (.cst (.str "store")))) (.cons (.asg (.name 8) (.bin .add (.var 8) (.tup (.cons (.tup (.cons (.bin .mod (.bi .int (.cons (.bin .add (.sub (.var 7) (.sub (.var 9) (.cst (.int 2)))) (.sub (.var 9) (.cst (.int 3)))) .nil)) (.bi .len (.cons (.var 4) .nil))) (.cons (.sub (.var 7) (.sub (.var 9) (.cst (.int 1)))) .nil))) .nil)))) .nil) (.cons (.ifs (.val (.cmp .in_ (.var 10) (.tup (.cons (.cst (.str "swap")) (.cons (.cst (.str "addto")) .nil))))) (.cons (.asg (.name 12) (.bin .mod (.bi .int (.cons (.bin .add (.sub (.var 7) (.sub (.var 9) (.cst (.int 3)))) (.sub (.var 9) (.cst (.int 4)))) .nil)) (.bi .len (.cons (.var 4) .nil)))) (.cons (.par [13, 14] (.cons (.sub (.var 7) (.sub (.var 9) (.cst (.int 2)))) (.cons (.sub (.var 4) (.var 12)) .nil))) (.cons (.asg (.name 4) (.call 36 (.cons (.var 4) (.cons (.var 12) (.cons (.ite (.val (.cmp .eq (.var 10) (.cst (.str "swap")))) (.var 13) (.bin .mod (.bi .int (.cons (.bin .add (.var 14) (.var 13)) .nil)) (.cst (.int 65536)))) .nil))))) (.cons (.asg (.name 7) (.call 36 (.cons (.var 7) (.cons (.sub (.var 9) (.cst (.int 1))) (.cons (.var 14) .nil))))) .nil)))) (.cons (.ifs (.val (.cmp .eq (.var 10) (.cst (.str "jump")))) (.cons (.asg (.name 11) (.sub (.var 9) (.cst (.int 1)))) .nil) (.cons (.ifs (.and (.val (.cmp .eq (.var 10) (.cst (.str "ifzero")))) (.val (.cmp .eq (.sub (.var 7) (.sub (.var 9) (.cst (.int 1)))) (.cst (.int 0))))) (.cons (.asg (.name 11) (.sub (.var 9) (.cst (.int 2)))) .nil) .nil) .nil)) .nil)) .nil)) .nil)) .nil)) .nil))
  (.cons (.ret (.tup (.cons (.call 36 (.cons (.var 3) (.cons (.var 5) (.cons (.tup (.cons (.var 11) (.cons (.var 7) (.cons (.var 8) .nil)))) .nil)))) (.cons (.var 4) .nil))))
  .nil))))))))⟩
/-- _law_plain_begin -/
def F_40 : Fd := ⟨2, 3, (.cons (.ret (.tup (.cons (.bi .tuple (.cons (.frz (.comp [2] (.name 2) (.seq (.var 0)) .none (.tup (.cons (.cst (.int 0)) (.cons (.bin .mul (.tup (.cons (.cst (.int 0)) .nil)) (.cst (.int 8))) (.cons (.tup .nil) .nil)))))) .nil)) (.cons (.var 1) .nil))))
  .nil)⟩
/-- _law_drawn_one -/
def F_41 : Fd := ⟨3, 8, (.cons (.asg (.tup [3, 4, 5, 6]) (.tup (.cons (.call 35 (.cons (.var 0) (.cons (.cst (.int 16)) .nil))) (.cons (.call 35 (.cons (.var 0) (.cons (.cst (.int 4)) .nil))) (.cons (.call 35 (.cons (.var 0) (.cons (.cst (.int 4)) .nil))) (.cons (.sub (.frz (.lst (.cons (.cst (.int 7)) (.cons (.cst (.int 7)) (.cons (.cst (.int 7)) (.cons (.cst (.int 3)) .nil)))))) (.call 35 (.cons (.var 0) (.cons (.cst (.int 4)) .nil)))) .nil))))))
  (.cons (.asg (.name 7) (.sub (.frz (.lst (.cons (.cst (.int 0)) (.cons (.cst (.int 1)) (.cons (.cst (.int 2)) (.cons (.cst (.int 5)) (.cons (.sub (.var 2) (.call 35 (.cons (.var 0) (.cons (.bi .len (.cons (.var 2) .nil)) .nil)))) .nil))))))) (.call 35 (.cons (.var 0) (.cons (.cst (.int 5)) .nil)))))
  (.cons (.ifs (.val (.cmp .lt (.var 3) (.cst (.int 3)))) (.cons (.ret (.tup (.cons (.cst (.str "set")) (.cons (.var 4) (.cons (.sub (.frz (.lst (.cons (.cst (.int 0)) (.cons (.cst (.int 1)) (.cons (.cst (.int 2)) (.cons (.cst (.int 7)) (.cons (.cst (.int 65535)) .nil))))))) (.call 35 (.cons (.var 0) (.cons (.cst (.int 5)) .nil)))) .nil))))) .nil) .nil)
  (.cons (.ifs (.val (.cmp .lt (.var 3) (.cst (.int 5)))) (.cons (.ret (.tup (.cons (.sub (.frz (.lst (.cons (.cst (.str "add")) (.cons (.cst (.str "sub")) (.cons (.cst (.str "and")) (.cons (.cst (.str "xor")) (.cons (.cst (.str "below")) .nil))))))) (.call 35 (.cons (.var 0) (.cons (.cst (.int 5)) .nil)))) (.cons (.var 4) (.cons (.var 5) (.cons (.call 35 (.cons (.var 0) (.cons (.cst (.int 4)) .nil))) .nil)))))) .nil) .nil)
  (.cons (.ifs (.val (.cmp .lt (.var 3) (.cst (.int 8)))) (.cons (.ret (.tup (.cons (.cst (.str "load")) (.cons (.var 4) (.cons (.var 6) (.cons (.var 7) .nil)))))) .nil) .nil)
  (.cons (.ifs (.val (.cmp .lt (.var 3) (.cst (.int 11)))) (.cons (.ret (.tup (.cons (.cst (.str "store")) (.cons (.var 5) (.cons (.var 6) (.cons (.var 7) .nil)))))) .nil) .nil)
  (.cons (.ifs (.val (.cmp .eq (.var 3) (.cst (.int 11)))) (.cons (.ret (.tup (.cons (.sub (.frz (.lst (.cons (.cst (.str "swap")) (.cons (.cst (.str "addto")) .nil)))) (.call 35 (.cons (.var 0) (.cons (.cst (.int 2)) .nil)))) (.cons (.var 4) (.cons (.var 5) (.cons (.var 6) (.cons (.var 7) .nil))))))) .nil) .nil)
  (.cons (.ifs (.val (.cmp .eq (.var 3) (.cst (.int 12)))) (.cons (.ret (.sub (.frz (.lst (.cons (.tup (.cons (.cst (.str "fence")) .nil)) (.cons (.tup (.cons (.cst (.str "gap")) .nil)) .nil)))) (.call 35 (.cons (.var 0) (.cons (.cst (.int 2)) .nil))))) .nil) .nil)
  (.cons (.ifs (.val (.cmp .eq (.var 3) (.cst (.int 13)))) (.cons (.ret (.tup (.cons (.cst (.str "ifzero")) (.cons (.var 4) (.cons (.call 35 (.cons (.var 0) (.cons (.bin .add (.var 1) (.cst (.int 1))) .nil))) .nil))))) .nil) .nil)
  (.cons (.ret (.sub (.frz (.lst (.cons (.tup (.cons (.cst (.str "jump")) (.cons (.call 35 (.cons (.var 0) (.cons (.bin .add (.var 1) (.cst (.int 1))) .nil))) .nil))) (.cons (.tup (.cons (.cst (.str "stop")) .nil)) (.cons (.tup (.cons (.cst (.str "store")) (.cons (.var 5) (.cons (.var 6) (.cons (.var 7) .nil))))) (.cons (.tup (.cons (.cst (.str "load")) (.cons (.var 4) (.cons (.var 6) (.cons (.var 7) .nil))))) .nil)))))) (.call 35 (.cons (.var 0) (.cons (.cst (.int 4)) .nil)))))
  .nil))))))))))⟩
/-- _law_book -/
def F_42 : Fd := ⟨3, 7, (.cons (.asg (.name 3) (.thw (.lst .nil)))
  (.cons (.forS (.name 4) (.range1 (.bin .add (.cst (.int 1)) (.call 35 (.cons (.var 0) (.cons (.var 1) .nil))))) (.cons (.asg (.name 5) (.call 35 (.cons (.var 0) (.cons (.bin .add (.var 2) (.cst (.int 1))) .nil)))) (.cons (.app (.var 3) (.bi .tuple (.cons (.frz (.comp [6] (.name 6) (.range1 (.var 5)) .none (.call 41 (.cons (.var 0) (.cons (.var 5) (.cons (.frz (.lst (.cons (.cst (.int 3)) (.cons (.cst (.int 65535)) (.cons (.cst (.int 9)) (.cons (.cst (.int 6)) .nil)))))) .nil)))))) .nil))) .nil)))
  (.cons (.ret (.bi .tuple (.cons (.var 3) .nil)))
  .nil)))⟩
/-- _law_memory -/
def F_43 : Fd := ⟨2, 3, (.cons (.ret (.bi .tuple (.cons (.frz (.comp [2] (.name 2) (.range1 (.var 1)) .none (.sub (.frz (.lst (.cons (.cst (.int 0)) (.cons (.cst (.int 1)) (.cons (.cst (.int 7)) (.cons (.cst (.int 65535)) (.cons (.cst (.int 300)) .nil))))))) (.call 35 (.cons (.var 0) (.cons (.cst (.int 5)) .nil)))))) .nil)))
  .nil)⟩
/-- _law_caught -/
def F_44 : Fd := ⟨3, 5, (.cons (.asg (.name 3) (.cst .none))
  (.cons (.tryS (.cons (.expr (.call 33 (.cons (.var 0) (.cons (.var 1) (.cons (.var 2) .nil))))) .nil) 4 (.cons (.asg (.name 3) (.tup (.cons (.frz (.lst (.cons (.xis (.var 4) [0]) (.cons (.xis (.var 4) [1]) (.cons (.xis (.var 4) [2]) .nil))))) (.cons (.bi .repr (.cons (.xval (.var 4)) .nil)) .nil)))) .nil))
  (.cons (.ret (.var 3))
  .nil)))⟩
/-- _law_wanted -/
def F_45 : Fd := ⟨4, 5, (.cons (.asg (.name 4) (.bi .len (.cons (.var 1) .nil)))
  (.cons (.ret (.ite (.val (.cmp .eq (.var 2) (.cst (.int 0)))) (.bin .mod (.bi .int (.cons (.var 3) .nil)) (.var 4)) (.ite (.val (.cmp .eq (.var 2) (.cst (.int 1)))) (.bin .mod (.bin .fdiv (.var 3) (.cst (.int 7))) (.var 4)) (.call 35 (.cons (.var 0) (.cons (.var 4) .nil))))))
  .nil))⟩
/-- _law_ran -/
def F_46 : Fd := ⟨4, 12, (.cons (.asg (.tup [4, 5, 6, 7]) (.tup (.cons (.call 40 (.cons (.var 1) (.cons (.var 2) .nil))) (.cons (.frz (.lst .nil)) (.cons (.frz (.lst .nil)) (.cons (.call 35 (.cons (.var 0) (.cons (.cst (.int 3)) .nil))) .nil))))))
  (.cons (.forS (.name 8) (.range1 (.var 3)) (.cons (.asg (.name 9) (.frz (.comp [11] (.name 11) (.range1 (.bi .len (.cons (.var 1) .nil))) (.some (.not (.val (.call 38 (.cons (.var 1) (.cons (.var 11) (.cons (.sub (.sub (.sub (.var 4) (.cst (.int 0))) (.var 11)) (.cst (.int 0))) .nil))))))) (.var 11)))) (.cons (.ifs (.val (.cmp .eq (.var 9) (.frz (.lst .nil)))) (.cons .brk .nil) .nil) (.cons (.asg (.name 10) (.call 45 (.cons (.var 0) (.cons (.var 1) (.cons (.var 7) (.cons (.var 8) .nil)))))) (.cons (.asg (.name 11) (.ite (.val (.cmp .in_ (.var 10) (.var 9))) (.var 10) (.sub (.var 9) (.cst (.int 0))))) (.cons (.asg (.tup [4, 5, 6]) (.tup (.cons (.call 39 (.cons (.var 1) (.cons (.var 4) (.cons (.tup (.cons (.cst (.str "do")) (.cons (.var 11) .nil))) .nil)))) (.cons (.frz (.add (.var 5) (.frz (.lst (.cons (.var 11) .nil))))) (.cons (.frz (.add (.var 6) (.frz (.lst (.cons (.tup (.cons (.cst (.str "do")) (.cons (.var 11) .nil))) .nil))))) .nil))))) (.cons (.ifs (.val (.cmp .ne (.sub (.sub (.sub (.var 4) (.cst (.int 0))) (.var 11)) (.cst (.int 2))) (.tup .nil))) (.cons (.asg (.tup [4, 6]) (.tup (.cons (.call 39 (.cons (.var 1) (.cons (.var 4) (.cons (.tup (.cons (.cst (.str "flush")) (.cons (.var 11) .nil))) .nil)))) (.cons (.frz (.add (.var 6) (.frz (.lst (.cons (.tup (.cons (.cst (.str "flush")) (.cons (.var 11) .nil))) .nil))))) .nil)))) .nil) .nil) .nil)))))))
  (.cons (.ret (.tup (.cons (.var 5) (.cons (.var 6) (.cons (.var 4) .nil)))))
  .nil)))⟩
/-- _law_refused_right -/
def F_47 : Fd := ⟨4, 9, (.cons (.asg (.name 4) (.call 35 (.cons (.var 0) (.cons (.bin .add (.bi .len (.cons (.var 3) .nil)) (.cst (.int 1))) .nil))))
  (.cons (.asg (.name 5) (.call 48 (.cons (.var 1) (.cons (.var 2) (.cons (.slc (.var 3) .none (.some (.var 4))) .nil)))))
  (.cons (.asg (.name 6) (.frz (.comp [8] (.name 8) (.range1 (.bi .len (.cons (.var 1) .nil))) (.some (.val (.call 38 (.cons (.var 1) (.cons (.var 8) (.cons (.sub (.sub (.sub (.var 5) (.cst (.int 0))) (.var 8)) (.cst (.int 0))) .nil)))))) (.var 8))))
  (.cons (.asg (.name 7) (.sub (.frz (.add (.var 6) (.frz (.lst (.cons (.bi .len (.cons (.var 1) .nil)) (.cons (.neg (.cst (.int 1))) (.cons (.cst (.int 4)) (.cons (.bin .pow (.cst (.int 10)) (.cst (.int 20))) .nil)))))))) (.call 35 (.cons (.var 0) (.cons (.bin .add (.bi .len (.cons (.var 6) .nil)) (.cst (.int 4))) .nil)))))
  (.cons (.ret (.ite (.or (.val (.inR true (.var 7) (.bi .len (.cons (.var 1) .nil)))) (.val (.cmp .in_ (.var 7) (.var 6)))) (.cmp .eq (.call 44 (.cons (.var 1) (.cons (.var 2) (.cons (.frz (.add (.frz (.add (.slc (.var 3) .none (.some (.var 4))) (.frz (.lst (.cons (.var 7) (.cons (.neg (.cst (.int 7))) .nil)))))) (.slc (.var 3) (.some (.var 4)) .none))) .nil)))) (.tup (.cons (.frz (.lst (.cons (.cst (.bool false)) (.cons (.cst (.bool false)) (.cons (.cst (.bool true)) .nil))))) (.cons (.bi .repr (.cons (.var 7) .nil)) .nil)))) (.cst (.bool true))))
  .nil)))))⟩
/-- _law_ran_cores -/
def F_48 : Fd := ⟨3, 5, (.cons (.asg (.name 3) (.call 40 (.cons (.var 0) (.cons (.var 1) .nil))))
  (.cons (.forS (.name 4) (.seq (.var 2)) (.cons (.asg (.name 3) (.call 39 (.cons (.var 0) (.cons (.var 3) (.cons (.tup (.cons (.cst (.str "do")) (.cons (.var 4) .nil))) .nil))))) (.cons (.ifs (.val (.cmp .ne (.sub (.sub (.sub (.var 3) (.cst (.int 0))) (.var 4)) (.cst (.int 2))) (.tup .nil))) (.cons (.asg (.name 3) (.call 39 (.cons (.var 0) (.cons (.var 3) (.cons (.tup (.cons (.cst (.str "flush")) (.cons (.var 4) .nil))) .nil))))) .nil) .nil) .nil)))
  (.cons (.ret (.var 3))
  .nil)))⟩
/-- _law_counter -/
def F_49 : Fd := ⟨1, 3, (.cons (.asg (.name 1) (.bin .add (.cst (.int 1)) (.call 35 (.cons (.var 0) (.cons (.cst (.int 90)) .nil)))))
  (.cons (.asg (.name 2) (.tup (.cons (.tup (.cons (.cst (.str "set")) (.cons (.cst (.int 0)) (.cons (.var 1) .nil)))) (.cons (.tup (.cons (.cst (.str "set")) (.cons (.cst (.int 1)) (.cons (.cst (.int 1)) .nil)))) (.cons (.tup (.cons (.cst (.str "addto")) (.cons (.cst (.int 2)) (.cons (.cst (.int 1)) (.cons (.cst (.int 7)) (.cons (.cst (.int 0)) .nil)))))) (.cons (.tup (.cons (.cst (.str "sub")) (.cons (.cst (.int 0)) (.cons (.cst (.int 0)) (.cons (.cst (.int 1)) .nil))))) (.cons (.tup (.cons (.cst (.str "ifzero")) (.cons (.cst (.int 0)) (.cons (.cst (.int 6)) .nil)))) (.cons (.tup (.cons (.cst (.str "jump")) (.cons (.cst (.int 2)) .nil))) .nil))))))))
  (.cons (.ret (.tup (.cons (.var 2) (.cons (.var 1) .nil))))
  .nil)))⟩
/-- law -/
def F_50 : Fd := ⟨1, 15, (.cons (.par [1, 2] (.cons (.thw (.call 34 (.cons (.var 0) .nil))) (.cons (.cst (.int 0)) .nil)))
  (.cons (.forS (.name 3) (.range1 (.cst (.int 5))) (.cons (.par [4, 5] (.cons (.call 42 (.cons (.var 1) (.cons (.cst (.int 4)) (.cons (.cst (.int 9)) .nil)))) (.cons (.call 43 (.cons (.var 1) (.cons (.sub (.frz (.lst (.cons (.cst (.int 1)) (.cons (.cst (.int 2)) (.cons (.cst (.int 3)) (.cons (.cst (.int 8)) (.cons (.cst (.int 32)) .nil))))))) (.call 35 (.cons (.var 1) (.cons (.cst (.int 5)) .nil)))) .nil))) .nil))) (.cons (.asg (.tup [6, 7, 8]) (.call 46 (.cons (.var 1) (.cons (.var 4) (.cons (.var 5) (.cons (.cst (.int 120)) .nil)))))) (.cons (.ifs (.val (.cmp .ne (.bi .repr (.cons (.frz (.lst (.cons (.call 33 (.cons (.var 4) (.cons (.var 5) (.cons (.var 6) .nil)))) (.cons (.callK 33 .nil (.cons (.var 6) (.cons (.var 5) (.cons (.var 4) .nil))) [2, 1, 0]) .nil)))) .nil)) (.bi .repr (.cons (.frz (.lst (.cons (.var 8) (.cons (.var 8) .nil)))) .nil)))) (.cons (.ret (.cst (.bool false))) .nil) .nil) (.cons (.ifs (.or (.val (.cmp .ne (.bi .repr (.cons (.call 32 (.cons (.var 4) (.cons (.var 5) (.cons (.var 7) .nil)))) .nil)) (.bi .repr (.cons (.var 8) .nil)))) (.not (.val (.call 47 (.cons (.var 1) (.cons (.var 4) (.cons (.var 5) (.cons (.var 6) .nil)))))))) (.cons (.ret (.cst (.bool false))) .nil) .nil) (.cons (.asg (.name 9) (.sub (.frz (.lst (.cons (.cst .none) (.cons (.frz (.list (.var 5))) (.cons (.tup .nil) (.cons (.bin .add (.var 5) (.tup (.cons (.cst (.int 70000)) .nil))) .nil)))))) (.call 35 (.cons (.var 1) (.cons (.cst (.int 4)) .nil))))) (.cons (.ifs (.or (.val (.cmp .ne (.call 44 (.cons (.cst .none) (.cons (.var 9) (.cons (.frz (.lst (.cons (.cst (.int 9)) .nil))) .nil)))) (.tup (.cons (.frz (.lst (.cons (.cst (.bool true)) (.cons (.cst (.bool false)) (.cons (.cst (.bool false)) .nil))))) (.cons (.cst (.str "None")) .nil))))) (.val (.cmp .ne (.call 44 (.cons (.var 4) (.cons (.var 9) (.cons (.frz (.lst (.cons (.cst (.int 9)) .nil))) .nil)))) (.tup (.cons (.frz (.lst (.cons (.cst (.bool false)) (.cons (.cst (.bool true)) (.cons (.cst (.bool false)) .nil))))) (.cons (.bi .repr (.cons (.var 9) .nil)) .nil)))))) (.cons (.ret (.cst (.bool false))) .nil) .nil) (.cons (.asg (.name 2) (.bin .add (.var 2) (.cst (.int 1)))) .nil))))))))
  (.cons (.asg (.nest (.cons (.tup [10, 11]) (.cons (.tup [12, 13]) .nil))) (.tup (.cons (.call 49 (.cons (.var 1) .nil)) (.cons (.call 49 (.cons (.var 1) .nil)) .nil))))
  (.cons (.asg (.tup [6, 7, 8]) (.call 46 (.cons (.var 1) (.cons (.tup (.cons (.var 10) (.cons (.var 12) .nil))) (.cons (.tup (.cons (.cst (.int 65500)) (.cons (.cst (.int 0)) .nil))) (.cons (.cst (.int 2000)) .nil))))))
  (.cons (.asg (.name 14) (.call 33 (.cons (.tup (.cons (.var 10) (.cons (.var 12) .nil))) (.cons (.tup (.cons (.cst (.int 65500)) (.cons (.cst (.int 0)) .nil))) (.cons (.var 6) .nil)))))
  (.cons (.ret (.and (.cmp .eq (.bi .repr (.cons (.var 14) .nil)) (.bi .repr (.cons (.var 8) .nil))) (.and (.cmp .eq (.sub (.var 14) (.cst (.int 1))) (.tup (.cons (.bin .mod (.bi .int (.cons (.bin .add (.bin .add (.cst (.int 65500)) (.var 11)) (.var 13)) .nil)) (.cst (.int 65536))) (.cons (.cst (.int 0)) .nil)))) (.and (.cmp .eq (.bi .len (.cons (.var 6) .nil)) (.bin .sub (.bin .add (.bin .add (.bin .sub (.bin .add (.cst (.int 2)) (.bin .mul (.cst (.int 4)) (.var 11))) (.cst (.int 1))) (.cst (.int 2))) (.bin .mul (.cst (.int 4)) (.var 13))) (.cst (.int 1)))) (.cmp .eq (.var 2) (.cst (.int 5)))))))
  .nil))))))⟩
def PT : List Fd := [F_0, F_1, F_2, F_3, F_4, F_5, F_6, F_7, F_8, F_9, F_10, F_11, F_12, F_13, F_14, F_15, F_16, F_17, F_18, F_19, F_20, F_21, F_22, F_23, F_24, F_25, F_26, F_27, F_28, F_29, F_30, F_31, F_32, F_33, F_34, F_35, F_36, F_37, F_38, F_39, F_40, F_41, F_42, F_43, F_44, F_45, F_46, F_47, F_48, F_49, F_50]
section
variable {P : Program} {w : World} {K : PySem.W.Frag} {mg : PySem.Str → Option Value} {base : Heap} {ct : CT} {fa : Nat → Addr} {fv : Nat → FuncData}
theorem bn_of {g : Sig} {f : Addr} {fd : FuncData} (F : FunD K g.1 g.1 (defArgs g.2.2) (defBody g.2.2) (defScope g.2.2) [] [] f fd) (h : ∀ (kV doc pm : Value) (an : Option Addr) (cdv cc : Value) (us : List Value), us.length = g.2.1.length → bindArgs (PySem.W.fnOf g.1 g.1 (defArgs g.2.2) (defBody g.2.2) (defScope g.2.2) .none kV doc pm an cdv cc) ⟨us, []⟩ = pure (g.2.1.zip us)) : BindsN K fd g.2.1 :=
  fun s us _ hl => FunD.bindsA F h s us hl
theorem b_0 (F : Facts mg K w fr cs ts) (EFx : EF P K mg ct er G.base) : Body P w K mg base ct sig PT fa fv 0 sg_0 := by
  refine ⟨["value"], F_0, rfl, rfl, rfl, by decide, ⟨rfl, rfl, rfl, by decide +kernel, rfl, by decide +kernel, by decide +kernel⟩, fun k n L f cdv A outer s H Er o => ?_⟩
  refine ss_cons (s_ret (x_and (x_isi F .int 0 1 rfl rfl rfl rfl (x_var (pe_var (i := 0) rfl (.inl rfl))) (by rfl) (by rfl)) (x_one (x_not (x_isi F .bool 0 2 rfl rfl rfl rfl (x_var (pe_var (i := 0) rfl (.inl rfl))) (by rfl) (by rfl)))))) ?_
  exact ss_nil
theorem b_1 (F : Facts mg K w fr cs ts) (EFx : EF P K mg ct er G.base) : Body P w K mg base ct sig PT fa fv 1 sg_1 := by
  refine ⟨["value", "part"], F_1, rfl, rfl, rfl, by decide, ⟨rfl, rfl, rfl, by decide +kernel, rfl, by decide +kernel, by decide +kernel⟩, fun k n L f cdv A outer s H Er o => ?_⟩
  refine ss_cons (s_if (x_tru (x_isi F .list 0 3 rfl rfl rfl rfl (x_var (pe_var (i := 0) rfl (.inl rfl))) (by rfl) (by rfl)) (fun _ => rfl)) (ss_cons (s_retN (n_comp (own := [("part", 1)]) (XOk.calm o) (XOk.nd o) (i_seq (x_var (pe_var (i := 0) rfl (.inl rfl)))) (blkOk_by (by rfl)) (fun s0 H0 D0 cl0 fp0 => (g_name (i := 1) (XOk.nd (XOk.blk o s0 H0 _ _ fp0)) rfl (.inl rfl) (.inr rfl))) (fun s0 H0 D0 cl0 fp0 => tt_none) (fun s0 H0 D0 cl0 fp0 => (x_callL sg_1 1 (XOk.blk o s0 H0 _ _ fp0) L rfl rfl rfl (xs_cons (x_var (pe_var (i := 1) rfl (.inl rfl))) xs_nil (by rfl)) (by decide) (by rfl) (by rfl))) (fun _ => rfl) (by decide))) ss_nil) ss_nil) ?_
  refine ss_cons (s_if (x_tru (x_isi F .tuple 0 4 rfl rfl rfl rfl (x_var (pe_var (i := 0) rfl (.inl rfl))) (by rfl) (by rfl)) (fun _ => rfl)) (ss_cons (s_ret (x_bT F o 4 rfl rfl (x_frz (n_comp (own := [("part", 1)]) (XOk.calm o) (XOk.nd o) (i_seq (x_var (pe_var (i := 0) rfl (.inl rfl)))) (blkOk_by (by rfl)) (fun s0 H0 D0 cl0 fp0 => (g_name (i := 1) (XOk.nd (XOk.blk o s0 H0 _ _ fp0)) rfl (.inl rfl) (.inr rfl))) (fun s0 H0 D0 cl0 fp0 => tt_none) (fun s0 H0 D0 cl0 fp0 => (x_callL sg_1 1 (XOk.blk o s0 H0 _ _ fp0) L rfl rfl rfl (xs_cons (x_var (pe_var (i := 1) rfl (.inl rfl))) xs_nil (by rfl)) (by decide) (by rfl) (by rfl))) (fun _ => rfl) (by decide))) (by rfl))) ss_nil) ss_nil) ?_
  refine ss_cons (s_ret (x_var (pe_var (i := 0) rfl (.inl rfl)))) ?_
  exact ss_nil
theorem b_2 (F : Facts mg K w fr cs ts) (EFx : EF P K mg ct er G.base) : Body P w K mg base ct sig PT fa fv 2 sg_2 := by
  refine ⟨["value", "least", "most"], F_2, rfl, rfl, rfl, by decide, ⟨rfl, rfl, rfl, by decide +kernel, rfl, by decide +kernel, by decide +kernel⟩, fun k n L f cdv A outer s H Er o => ?_⟩
  refine ss_cons (s_ret (x_and (x_callL sg_0 0 o L rfl rfl rfl (xs_cons (x_var (pe_var (i := 0) rfl (.inl rfl))) xs_nil (by rfl)) (by decide) (by rfl) (by rfl)) (x_one (x_cmp2 (o := .le) (p := .le) (XOk.hu o) rfl rfl (x_var (pe_var (i := 1) rfl (.inl rfl))) (x_var (pe_var (i := 0) rfl (.inl rfl))) (x_var (pe_var (i := 2) rfl (.inl rfl))) (by rfl))))) ?_
  exact ss_nil
theorem b_3 (F : Facts mg K w fr cs ts) (EFx : EF P K mg ct er G.base) : Body P w K mg base ct sig PT fa fv 3 sg_3 := by
  refine ⟨["value"], F_3, rfl, rfl, rfl, by decide, ⟨rfl, rfl, rfl, by decide +kernel, rfl, by decide +kernel, by decide +kernel⟩, fun k n L f cdv A outer s H Er o => ?_⟩
  refine ss_cons (s_ret (x_callL sg_2 2 o L rfl rfl rfl (xs_cons (x_var (pe_var (i := 0) rfl (.inl rfl))) (xs_cons x_int (xs_cons (x_bin (o := .sub) (x_con F 0 rfl rfl (by decide)) x_int) xs_nil (by rfl)) (by rfl)) (by rfl)) (by decide) (by rfl) (by rfl))) ?_
  exact ss_nil
theorem b_4 (F : Facts mg K w fr cs ts) (EFx : EF P K mg ct er G.base) : Body P w K mg base ct sig PT fa fv 4 sg_4 := by
  refine ⟨["value", "kind", "rows"], F_4, rfl, rfl, rfl, by decide, ⟨rfl, rfl, rfl, by decide +kernel, rfl, by decide +kernel, by decide +kernel⟩, fun k n L f cdv A outer s H Er o => ?_⟩
  refine ss_cons (s_if (x_cmpT (o := .eq) (XOk.hu o) rfl (x_var (pe_var (i := 1) rfl (.inl rfl))) (x_str (by decide +kernel)) (by rfl)) (ss_cons (s_ret (x_callL sg_2 2 o L rfl rfl rfl (xs_cons (x_var (pe_var (i := 0) rfl (.inl rfl))) (xs_cons x_int (xs_cons (x_bin (o := .sub) (x_con F 1 rfl rfl (by decide)) x_int) xs_nil (by rfl)) (by rfl)) (by rfl)) (by decide) (by rfl) (by rfl))) ss_nil) ss_nil) ?_
  refine ss_cons (s_if (x_cmpT (o := .eq) (XOk.hu o) rfl (x_var (pe_var (i := 1) rfl (.inl rfl))) (x_str (by decide +kernel)) (by rfl)) (ss_cons (s_ret (x_callL sg_3 3 o L rfl rfl rfl (xs_cons (x_var (pe_var (i := 0) rfl (.inl rfl))) xs_nil (by rfl)) (by decide) (by rfl) (by rfl))) ss_nil) ss_nil) ?_
  refine ss_cons (s_ret (x_callL sg_2 2 o L rfl rfl rfl (xs_cons (x_var (pe_var (i := 0) rfl (.inl rfl))) (xs_cons x_int (xs_cons (x_var (pe_var (i := 2) rfl (.inl rfl))) xs_nil (by rfl)) (by rfl)) (by rfl)) (by decide) (by rfl) (by rfl))) ?_
  exact ss_nil
theorem b_5 (F : Facts mg K w fr cs ts) (EFx : EF P K mg ct er G.base) : Body P w K mg base ct sig PT fa fv 5 sg_5 := by
  refine ⟨["value", "rows", "shape", "part", "kind"], F_5, rfl, rfl, rfl, by decide, ⟨rfl, rfl, rfl, by decide +kernel, rfl, by decide +kernel, by decide +kernel⟩, fun k n L f cdv A outer s H Er o => ?_⟩
  refine ss_cons (s_if (PW.pt (x_orT (x_notT (x_tru (x_isi F .tuple 0 4 rfl rfl rfl rfl (x_var (pe_var (i := 0) rfl (.inl rfl))) (by rfl) (by rfl)) (fun _ => rfl))) (x_orT (x_cmpT (o := .eq) (XOk.hu o) rfl (x_len F o 5 rfl rfl (x_var (pe_var (i := 0) rfl (.inl rfl))) (by rfl)) x_int (by rfl)) (x_orT (x_notT (x_tru (x_isi F .str 0 6 rfl rfl rfl rfl (x_sub (x_var (pe_var (i := 0) rfl (.inl rfl))) x_int (fun _ _ => rfl)) (by rfl) (by rfl)) (fun _ => rfl))) (x_or1T (x_kninFT F 0 rfl rfl (by decide) (x_sub (x_var (pe_var (i := 0) rfl (.inl rfl))) x_int (fun _ _ => rfl)) (by rfl))))))) (ss_cons (s_ret x_bl) ss_nil) ss_nil) ?_
  refine ss_cons (s_set (i := 2) (XOk.nd o) rfl (.inl rfl) (.inl rfl) (x_kgetF F 0 rfl rfl (by decide) (x_sub (x_var (pe_var (i := 0) rfl (.inl rfl))) x_int (fun _ _ => rfl)) (fun _ _ => rfl)) (by rfl)) ?_
  refine ss_cons (s_if (x_cmpT (o := .ne) (XOk.hu o) rfl (x_len F o 5 rfl rfl (x_var (pe_var (i := 0) rfl (.inl rfl))) (by rfl)) (x_bin (o := .add) (x_len F o 5 rfl rfl (x_var (pe_var (i := 2) rfl (.inl rfl))) (by rfl)) x_int) (by rfl)) (ss_cons (s_ret x_bl) ss_nil) ss_nil) ?_
  refine ss_cons (s_ret (x_bAll F o 8 rfl rfl (x_frz (n_comp (own := [("part", 3), ("kind", 4)]) (XOk.calm o) (XOk.nd o) (i_zip rfl (F.fre 7 _ rfl) (x_slc (x_var (pe_var (i := 0) rfl (.inl rfl))) (o_some x_int) o_none) (x_var (pe_var (i := 2) rfl (.inl rfl))) (by rfl) (by rfl)) (blkOk_by (by rfl)) (fun s0 H0 D0 cl0 fp0 => (g_tup (is := [3, 4]) (XOk.nd (XOk.blk o s0 H0 _ _ fp0)) (XOk.calm (XOk.blk o s0 H0 _ _ fp0)) (.cons (i := 3) rfl (.inl rfl) (.inr rfl) (.cons (i := 4) rfl (.inl rfl) (.inr rfl) .nil (by rfl)) (by rfl)) (by rfl) (by rfl))) (fun s0 H0 D0 cl0 fp0 => tt_none) (fun s0 H0 D0 cl0 fp0 => (x_callL sg_4 4 (XOk.blk o s0 H0 _ _ fp0) L rfl rfl rfl (xs_cons (x_var (pe_var (i := 3) rfl (.inl rfl))) (xs_cons (x_var (pe_var (i := 4) rfl (.inl rfl))) (xs_cons (x_var (pe_var (i := 1) rfl (.inr (.inl rfl)))) xs_nil (by rfl)) (by rfl)) (by rfl)) (by decide) (by rfl) (by rfl))) (fun _ => rfl) (by decide))) (by rfl))) ?_
  exact ss_nil
theorem b_6 (F : Facts mg K w fr cs ts) (EFx : EF P K mg ct er G.base) : Body P w K mg base ct sig PT fa fv 6 sg_6 := by
  refine ⟨["value", "row"], F_6, rfl, rfl, rfl, by decide, ⟨rfl, rfl, rfl, by decide +kernel, rfl, by decide +kernel, by decide +kernel⟩, fun k n L f cdv A outer s H Er o => ?_⟩
  refine ss_cons (s_if (PW.pt (x_orT (x_notT (x_tru (x_isi F .tuple 0 4 rfl rfl rfl rfl (x_var (pe_var (i := 0) rfl (.inr (.inl rfl)))) (by rfl) (by rfl)) (fun _ => rfl))) (x_or1T (x_cmpT (o := .gt) (XOk.hu o) rfl (x_len F o 5 rfl rfl (x_var (pe_var (i := 0) rfl (.inr (.inl rfl)))) (by rfl)) (x_con F 3 rfl rfl (by decide)) (by rfl))))) (ss_cons (s_ret x_bl) ss_nil) ss_nil) ?_
  refine ss_cons (s_ret (x_bAll F o 8 rfl rfl (x_frz (n_comp (own := [("row", 1)]) (XOk.calm o) (XOk.nd o) (i_seq (x_var (pe_var (i := 0) rfl (.inr (.inl rfl))))) (blkOk_by (by rfl)) (fun s0 H0 D0 cl0 fp0 => (g_name (i := 1) (XOk.nd (XOk.blk o s0 H0 _ _ fp0)) rfl (.inl rfl) (.inr rfl))) (fun s0 H0 D0 cl0 fp0 => tt_none) (fun s0 H0 D0 cl0 fp0 => (x_callL sg_5 5 (XOk.blk o s0 H0 _ _ fp0) L rfl rfl rfl (xs_cons (x_var (pe_var (i := 1) rfl (.inl rfl))) (xs_cons (x_len F (XOk.blk o s0 H0 _ _ fp0) 5 rfl rfl (x_var (pe_var (i := 0) rfl (.inr (.inl rfl)))) (by rfl)) xs_nil (by rfl)) (by rfl)) (by decide) (by rfl) (by rfl))) (fun _ => rfl) (by decide))) (by rfl))) ?_
  exact ss_nil
theorem b_7 (F : Facts mg K w fr cs ts) (EFx : EF P K mg ct er G.base) : Body P w K mg base ct sig PT fa fv 7 sg_7 := by
  refine ⟨["value", "core"], F_7, rfl, rfl, rfl, by decide, ⟨rfl, rfl, rfl, by decide +kernel, rfl, by decide +kernel, by decide +kernel⟩, fun k n L f cdv A outer s H Er o => ?_⟩
  refine ss_cons (s_ret (x_and (x_isi F .tuple 0 4 rfl rfl rfl rfl (x_var (pe_var (i := 0) rfl (.inl rfl))) (by rfl) (by rfl)) (x_and (x_cmp2 (o := .le) (p := .le) (XOk.hu o) rfl rfl x_int (x_len F o 5 rfl rfl (x_var (pe_var (i := 0) rfl (.inl rfl))) (by rfl)) (x_con F 2 rfl rfl (by decide)) (by rfl)) (x_one (x_bAll F o 8 rfl rfl (x_frz (n_comp (own := [("core", 1)]) (XOk.calm o) (XOk.nd o) (i_seq (x_var (pe_var (i := 0) rfl (.inl rfl)))) (blkOk_by (by rfl)) (fun s0 H0 D0 cl0 fp0 => (g_name (i := 1) (XOk.nd (XOk.blk o s0 H0 _ _ fp0)) rfl (.inl rfl) (.inr rfl))) (fun s0 H0 D0 cl0 fp0 => tt_none) (fun s0 H0 D0 cl0 fp0 => (x_callL sg_6 6 (XOk.blk o s0 H0 _ _ fp0) L rfl rfl rfl (xs_cons (x_var (pe_var (i := 1) rfl (.inl rfl))) xs_nil (by rfl)) (by decide) (by rfl) (by rfl))) (fun _ => rfl) (by decide))) (by rfl)))))) ?_
  exact ss_nil
theorem b_8 (F : Facts mg K w fr cs ts) (EFx : EF P K mg ct er G.base) : Body P w K mg base ct sig PT fa fv 8 sg_8 := by
  refine ⟨["value", "word"], F_8, rfl, rfl, rfl, by decide, ⟨rfl, rfl, rfl, by decide +kernel, rfl, by decide +kernel, by decide +kernel⟩, fun k n L f cdv A outer s H Er o => ?_⟩
  refine ss_cons (s_ret (x_and (x_isi F .tuple 0 4 rfl rfl rfl rfl (x_var (pe_var (i := 0) rfl (.inl rfl))) (by rfl) (by rfl)) (x_and (x_cmp2 (o := .le) (p := .le) (XOk.hu o) rfl rfl x_int (x_len F o 5 rfl rfl (x_var (pe_var (i := 0) rfl (.inl rfl))) (by rfl)) (x_con F 4 rfl rfl (by decide)) (by rfl)) (x_one (x_bAll F o 8 rfl rfl (x_frz (n_comp (own := [("word", 1)]) (XOk.calm o) (XOk.nd o) (i_seq (x_var (pe_var (i := 0) rfl (.inl rfl)))) (blkOk_by (by rfl)) (fun s0 H0 D0 cl0 fp0 => (g_name (i := 1) (XOk.nd (XOk.blk o s0 H0 _ _ fp0)) rfl (.inl rfl) (.inr rfl))) (fun s0 H0 D0 cl0 fp0 => tt_none) (fun s0 H0 D0 cl0 fp0 => (x_callL sg_3 3 (XOk.blk o s0 H0 _ _ fp0) L rfl rfl rfl (xs_cons (x_var (pe_var (i := 1) rfl (.inl rfl))) xs_nil (by rfl)) (by decide) (by rfl) (by rfl))) (fun _ => rfl) (by decide))) (by rfl)))))) ?_
  exact ss_nil
theorem b_9 (F : Facts mg K w fr cs ts) (EFx : EF P K mg ct er G.base) : Body P w K mg base ct sig PT fa fv 9 sg_9 := by
  refine ⟨["book"], F_9, rfl, rfl, rfl, by decide, ⟨rfl, rfl, rfl, by decide +kernel, rfl, by decide +kernel, by decide +kernel⟩, fun k n L f cdv A outer s H Er o => ?_⟩
  refine ss_cons (s_if (x_notT (x_tru (x_callL sg_7 7 o L rfl rfl rfl (xs_cons (x_var (pe_var (i := 0) rfl (.inl rfl))) xs_nil (by rfl)) (by decide) (by rfl) (by rfl)) (fun _ => rfl))) (ss_cons (s_raiseF EFx 0 rfl o rfl (x_callL sg_1 1 o L rfl rfl rfl (xs_cons (x_var (pe_var (i := 0) rfl (.inl rfl))) xs_nil (by rfl)) (by decide) (by rfl) (by rfl)) (by decide) (by rfl)) ss_nil) ss_nil) ?_
  exact ss_nil
theorem b_10 (F : Facts mg K w fr cs ts) (EFx : EF P K mg ct er G.base) : Body P w K mg base ct sig PT fa fv 10 sg_10 := by
  refine ⟨["memory", "cells"], F_10, rfl, rfl, rfl, by decide, ⟨rfl, rfl, rfl, by decide +kernel, rfl, by decide +kernel, by decide +kernel⟩, fun k n L f cdv A outer s H Er o => ?_⟩
  refine ss_cons (s_if (PW.pt (x_orT (x_notT (x_tru (x_callL sg_8 8 o L rfl rfl rfl (xs_cons (x_var (pe_var (i := 0) rfl (.inl rfl))) xs_nil (by rfl)) (by decide) (by rfl) (by rfl)) (fun _ => rfl))) (x_or1T (PW.pt (x_andT (x_notNT (x_var (pe_var (i := 1) rfl (.inl rfl)))) (x_and1T (x_cmpT (o := .ne) (XOk.hu o) rfl (x_len F o 5 rfl rfl (x_var (pe_var (i := 0) rfl (.inl rfl))) (by rfl)) (x_var (pe_var (i := 1) rfl (.inl rfl))) (by rfl)))))))) (ss_cons (s_raiseF EFx 1 rfl o rfl (x_callL sg_1 1 o L rfl rfl rfl (xs_cons (x_var (pe_var (i := 0) rfl (.inl rfl))) xs_nil (by rfl)) (by decide) (by rfl) (by rfl)) (by decide) (by rfl)) ss_nil) ss_nil) ?_
  exact ss_nil
theorem b_11 (F : Facts mg K w fr cs ts) (EFx : EF P K mg ct er G.base) : Body P w K mg base ct sig PT fa fv 11 sg_11 := by
  refine ⟨["instruction", "name"], F_11, rfl, rfl, rfl, by decide, ⟨rfl, rfl, rfl, by decide +kernel, rfl, by decide +kernel, by decide +kernel⟩, fun k n L f cdv A outer s H Er o => ?_⟩
  refine ss_cons (s_set (i := 1) (XOk.nd o) rfl (.inl rfl) (.inl rfl) (x_sub (x_var (pe_var (i := 0) rfl (.inl rfl))) x_int (fun _ _ => rfl)) (by rfl)) ?_
  refine ss_cons (s_if (PW.pt (x_orT (x_cmpT (o := .in_) (XOk.hu o) rfl (x_var (pe_var (i := 1) rfl (.inl rfl))) (x_con F 5 rfl rfl (by decide)) (by rfl)) (x_or1T (x_cmpT (o := .in_) (XOk.hu o) rfl (x_var (pe_var (i := 1) rfl (.inl rfl))) (x_con F 6 rfl rfl (by decide)) (by rfl))))) (ss_cons (s_ret (x_tup (by decide) (xs_cons (x_sub (x_var (pe_var (i := 0) rfl (.inl rfl))) x_int (fun _ _ => rfl)) (xs_cons (x_sub (x_var (pe_var (i := 0) rfl (.inl rfl))) x_int (fun _ _ => rfl)) xs_nil (by rfl)) (by rfl)))) ss_nil) ss_nil) ?_
  refine ss_cons (s_if (x_cmpT (o := .eq) (XOk.hu o) rfl (x_var (pe_var (i := 1) rfl (.inl rfl))) (x_str (by decide +kernel)) (by rfl)) (ss_cons (s_ret (x_tup (by decide) (xs_cons (x_sub (x_var (pe_var (i := 0) rfl (.inl rfl))) x_int (fun _ _ => rfl)) xs_nil (by rfl)))) ss_nil) ss_nil) ?_
  refine ss_cons (s_if (x_cmpT (o := .eq) (XOk.hu o) rfl (x_var (pe_var (i := 1) rfl (.inl rfl))) (x_str (by decide +kernel)) (by rfl)) (ss_cons (s_ret (x_tup (by decide) (xs_cons (x_sub (x_var (pe_var (i := 0) rfl (.inl rfl))) x_int (fun _ _ => rfl)) (xs_cons (x_sub (x_var (pe_var (i := 0) rfl (.inl rfl))) x_int (fun _ _ => rfl)) xs_nil (by rfl)) (by rfl)))) ss_nil) ss_nil) ?_
  refine ss_cons (s_if (x_cmpT (o := .eq) (XOk.hu o) rfl (x_var (pe_var (i := 1) rfl (.inl rfl))) (x_str (by decide +kernel)) (by rfl)) (ss_cons (s_ret (x_tup (by decide) (xs_cons (x_sub (x_var (pe_var (i := 0) rfl (.inl rfl))) x_int (fun _ _ => rfl)) xs_nil (by rfl)))) ss_nil) ss_nil) ?_
  refine ss_cons (s_ret (x_tup (by decide) xs_nil)) ?_
  exact ss_nil
theorem b_12 (F : Facts mg K w fr cs ts) (EFx : EF P K mg ct er G.base) : Body P w K mg base ct sig PT fa fv 12 sg_12 := by
  refine ⟨["instruction", "name"], F_12, rfl, rfl, rfl, by decide, ⟨rfl, rfl, rfl, by decide +kernel, rfl, by decide +kernel, by decide +kernel⟩, fun k n L f cdv A outer s H Er o => ?_⟩
  refine ss_cons (s_set (i := 1) (XOk.nd o) rfl (.inl rfl) (.inl rfl) (x_sub (x_var (pe_var (i := 0) rfl (.inl rfl))) x_int (fun _ _ => rfl)) (by rfl)) ?_
  refine ss_cons (s_if (PW.pt (x_orT (x_cmpT (o := .eq) (XOk.hu o) rfl (x_var (pe_var (i := 1) rfl (.inl rfl))) (x_str (by decide +kernel)) (by rfl)) (x_orT (x_cmpT (o := .eq) (XOk.hu o) rfl (x_var (pe_var (i := 1) rfl (.inl rfl))) (x_str (by decide +kernel)) (by rfl)) (x_orT (x_cmpT (o := .in_) (XOk.hu o) rfl (x_var (pe_var (i := 1) rfl (.inl rfl))) (x_con F 5 rfl rfl (by decide)) (by rfl)) (x_or1T (x_cmpT (o := .in_) (XOk.hu o) rfl (x_var (pe_var (i := 1) rfl (.inl rfl))) (x_con F 6 rfl rfl (by decide)) (by rfl))))))) (ss_cons (s_ret (x_sub (x_var (pe_var (i := 0) rfl (.inl rfl))) x_int (fun _ _ => rfl))) ss_nil) ss_nil) ?_
  refine ss_cons (s_ret x_non) ?_
  exact ss_nil
theorem b_13 (F : Facts mg K w fr cs ts) (EFx : EF P K mg ct er G.base) : Body P w K mg base ct sig PT fa fv 13 sg_13 := by
  refine ⟨["instruction", "words", "name", "one", "other"], F_13, rfl, rfl, rfl, by decide, ⟨rfl, rfl, rfl, by decide +kernel, rfl, by decide +kernel, by decide +kernel⟩, fun k n L f cdv A outer s H Er o => ?_⟩
  refine ss_cons (s_set (i := 2) (XOk.nd o) rfl (.inl rfl) (.inl rfl) (x_sub (x_var (pe_var (i := 0) rfl (.inl rfl))) x_int (fun _ _ => rfl)) (by rfl)) ?_
  refine ss_cons (s_if (x_cmpT (o := .eq) (XOk.hu o) rfl (x_var (pe_var (i := 2) rfl (.inl rfl))) (x_str (by decide +kernel)) (by rfl)) (ss_cons (s_ret (x_sub (x_var (pe_var (i := 0) rfl (.inl rfl))) x_int (fun _ _ => rfl))) ss_nil) ss_nil) ?_
  refine ss_cons (s_asgT (is := [3, 4]) (XOk.nd o) (XOk.calm o) (.cons (i := 3) rfl (.inl rfl) (.inl rfl) (.cons (i := 4) rfl (.inl rfl) (.inl rfl) .nil (by rfl)) (by rfl)) (by rfl) (by rfl) (x_var (pe_var (i := 1) rfl (.inl rfl))) (by rfl) (by rfl) (by rfl)) ?_
  refine ss_cons (s_if (x_cmpT (o := .eq) (XOk.hu o) rfl (x_var (pe_var (i := 2) rfl (.inl rfl))) (x_str (by decide +kernel)) (by rfl)) (ss_cons (s_ret (x_bin (o := .mod) (x_bin (o := .add) (x_var (pe_var (i := 3) rfl (.inl rfl))) (x_var (pe_var (i := 4) rfl (.inl rfl)))) (x_con F 0 rfl rfl (by decide)))) ss_nil) ss_nil) ?_
  refine ss_cons (s_if (x_cmpT (o := .eq) (XOk.hu o) rfl (x_var (pe_var (i := 2) rfl (.inl rfl))) (x_str (by decide +kernel)) (by rfl)) (ss_cons (s_ret (x_bin (o := .mod) (x_bin (o := .sub) (x_var (pe_var (i := 3) rfl (.inl rfl))) (x_var (pe_var (i := 4) rfl (.inl rfl)))) (x_con F 0 rfl rfl (by decide)))) ss_nil) ss_nil) ?_
  refine ss_cons (s_if (x_cmpT (o := .eq) (XOk.hu o) rfl (x_var (pe_var (i := 2) rfl (.inl rfl))) (x_str (by decide +kernel)) (by rfl)) (ss_cons (s_ret (x_bin (o := .and) (x_var (pe_var (i := 3) rfl (.inl rfl))) (x_var (pe_var (i := 4) rfl (.inl rfl))))) ss_nil) ss_nil) ?_
  refine ss_cons (s_if (x_cmpT (o := .eq) (XOk.hu o) rfl (x_var (pe_var (i := 2) rfl (.inl rfl))) (x_str (by decide +kernel)) (by rfl)) (ss_cons (s_ret (x_bin (o := .xor) (x_var (pe_var (i := 3) rfl (.inl rfl))) (x_var (pe_var (i := 4) rfl (.inl rfl))))) ss_nil) ss_nil) ?_
  refine ss_cons (s_ret (x_bI F o 1 rfl rfl (x_cmp (o := .lt) (XOk.hu o) rfl (x_var (pe_var (i := 3) rfl (.inl rfl))) (x_var (pe_var (i := 4) rfl (.inl rfl))) (by rfl)) (by rfl))) ?_
  exact ss_nil
theorem b_14 (F : Facts mg K w fr cs ts) (EFx : EF P K mg ct er G.base) : Body P w K mg base ct sig PT fa fv 14 sg_14 := by
  refine ⟨["instruction", "word", "ahead"], F_14, rfl, rfl, rfl, by decide, ⟨rfl, rfl, rfl, by decide +kernel, rfl, by decide +kernel, by decide +kernel⟩, fun k n L f cdv A outer s H Er o => ?_⟩
  refine ss_cons (s_if (x_cmpT (o := .eq) (XOk.hu o) rfl (x_sub (x_var (pe_var (i := 0) rfl (.inl rfl))) x_int (fun _ _ => rfl)) (x_str (by decide +kernel)) (by rfl)) (ss_cons (s_ret (x_var (pe_var (i := 1) rfl (.inl rfl)))) ss_nil) ss_nil) ?_
  refine ss_cons (s_ret (x_bin (o := .mod) (x_bin (o := .add) (x_var (pe_var (i := 2) rfl (.inl rfl))) (x_var (pe_var (i := 1) rfl (.inl rfl)))) (x_con F 0 rfl rfl (by decide)))) ?_
  exact ss_nil
theorem b_15 (F : Facts mg K w fr cs ts) (EFx : EF P K mg ct er G.base) : Body P w K mg base ct sig PT fa fv 15 sg_15 := by
  refine ⟨["cells", "base", "offset"], F_15, rfl, rfl, rfl, by decide, ⟨rfl, rfl, rfl, by decide +kernel, rfl, by decide +kernel, by decide +kernel⟩, fun k n L f cdv A outer s H Er o => ?_⟩
  refine ss_cons (s_ret (x_bin (o := .mod) (x_bin (o := .add) (x_var (pe_var (i := 1) rfl (.inl rfl))) (x_var (pe_var (i := 2) rfl (.inl rfl)))) (x_var (pe_var (i := 0) rfl (.inl rfl))))) ?_
  exact ss_nil
theorem b_16 (F : Facts mg K w fr cs ts) (EFx : EF P K mg ct er G.base) : Body P w K mg base ct sig PT fa fv 16 sg_16 := by
  refine ⟨["cells", "instruction", "words"], F_16, rfl, rfl, rfl, by decide, ⟨rfl, rfl, rfl, by decide +kernel, rfl, by decide +kernel, by decide +kernel⟩, fun k n L f cdv A outer s H Er o => ?_⟩
  refine ss_cons (s_ret (x_callL sg_15 15 o L rfl rfl rfl (xs_cons (x_var (pe_var (i := 0) rfl (.inl rfl))) (xs_cons (x_sub (x_var (pe_var (i := 2) rfl (.inl rfl))) (x_neg x_int) (fun _ _ => rfl)) (xs_cons (x_sub (x_var (pe_var (i := 1) rfl (.inl rfl))) (x_neg x_int) (fun _ _ => rfl)) xs_nil (by rfl)) (by rfl)) (by rfl)) (by decide) (by rfl) (by rfl))) ?_
  exact ss_nil
theorem b_17 (F : Facts mg K w fr cs ts) (EFx : EF P K mg ct er G.base) : Body P w K mg base ct sig PT fa fv 17 sg_17 := by
  refine ⟨["instruction", "row", "words"], F_17, rfl, rfl, rfl, by decide, ⟨rfl, rfl, rfl, by decide +kernel, rfl, by decide +kernel, by decide +kernel⟩, fun k n L f cdv A outer s H Er o => ?_⟩
  refine ss_cons (s_if (x_cmpT (o := .eq) (XOk.hu o) rfl (x_sub (x_var (pe_var (i := 0) rfl (.inl rfl))) x_int (fun _ _ => rfl)) (x_str (by decide +kernel)) (by rfl)) (ss_cons (s_ret (x_sub (x_var (pe_var (i := 0) rfl (.inl rfl))) x_int (fun _ _ => rfl))) ss_nil) ss_nil) ?_
  refine ss_cons (s_if (PW.pt (x_andT (x_cmpT (o := .eq) (XOk.hu o) rfl (x_sub (x_var (pe_var (i := 0) rfl (.inl rfl))) x_int (fun _ _ => rfl)) (x_str (by decide +kernel)) (by rfl)) (x_and1T (x_cmpT (o := .eq) (XOk.hu o) rfl (x_sub (x_var (pe_var (i := 2) rfl (.inl rfl))) x_int (fun _ _ => rfl)) x_int (by rfl))))) (ss_cons (s_ret (x_sub (x_var (pe_var (i := 0) rfl (.inl rfl))) x_int (fun _ _ => rfl))) ss_nil) ss_nil) ?_
  refine ss_cons (s_ret (x_bin (o := .add) (x_var (pe_var (i := 1) rfl (.inl rfl))) x_int)) ?_
  exact ss_nil
theorem b_18 (F : Facts mg K w fr cs ts) (EFx : EF P K mg ct er G.base) : Body P w K mg base ct sig PT fa fv 18 sg_18 := by
  refine ⟨["values", "place", "value"], F_18, rfl, rfl, rfl, by decide, ⟨rfl, rfl, rfl, by decide +kernel, rfl, by decide +kernel, by decide +kernel⟩, fun k n L f cdv A outer s H Er o => ?_⟩
  refine ss_cons (s_ret (x_bin (o := .add) (x_bin (o := .add) (x_slc (x_var (pe_var (i := 0) rfl (.inl rfl))) o_none (o_some (x_var (pe_var (i := 1) rfl (.inl rfl))))) (x_tup (by decide) (xs_cons (x_var (pe_var (i := 2) rfl (.inl rfl))) xs_nil (by rfl)))) (x_slc (x_var (pe_var (i := 0) rfl (.inl rfl))) (o_some (x_bin (o := .add) (x_var (pe_var (i := 1) rfl (.inl rfl))) x_int)) o_none))) ?_
  exact ss_nil
theorem b_19 (F : Facts mg K w fr cs ts) (EFx : EF P K mg ct er G.base) : Body P w K mg base ct sig PT fa fv 19 sg_19 := by
  refine ⟨["book", "memory", "rows"], F_19, rfl, rfl, rfl, by decide, ⟨rfl, rfl, rfl, by decide +kernel, rfl, by decide +kernel, by decide +kernel⟩, fun k n L f cdv A outer s H Er o => ?_⟩
  refine ss_cons (s_ret (x_tup (by decide) (xs_cons (x_bT F o 4 rfl rfl (x_frz (n_comp (own := [("rows", 2)]) (XOk.calm o) (XOk.nd o) (i_seq (x_var (pe_var (i := 0) rfl (.inl rfl)))) (blkOk_by (by rfl)) (fun s0 H0 D0 cl0 fp0 => (g_name (i := 2) (XOk.nd (XOk.blk o s0 H0 _ _ fp0)) rfl (.inl rfl) (.inr rfl))) (fun s0 H0 D0 cl0 fp0 => tt_none) (fun s0 H0 D0 cl0 fp0 => (x_tup (by decide) (xs_cons x_int (xs_cons (x_bin (o := .mul) (x_tup (by decide) (xs_cons x_int xs_nil (by rfl))) (x_con F 1 rfl rfl (by decide))) (xs_cons (x_tup (by decide) xs_nil) xs_nil (by rfl)) (by rfl)) (by rfl)))) (fun _ => rfl) (by decide))) (by rfl)) (xs_cons (x_var (pe_var (i := 1) rfl (.inl rfl))) xs_nil (by rfl)) (by rfl)))) ?_
  exact ss_nil
theorem b_20 (F : Facts mg K w fr cs ts) (EFx : EF P K mg ct er G.base) : Body P w K mg base ct sig PT fa fv 20 sg_20 := by
  refine ⟨["book", "stand", "core", "rows", "row"], F_20, rfl, rfl, rfl, by decide, ⟨rfl, rfl, rfl, by decide +kernel, rfl, by decide +kernel, by decide +kernel⟩, fun k n L f cdv A outer s H Er o => ?_⟩
  refine ss_cons (s_par2 (i := 3) (j := 4) (XOk.calm o) (XOk.nd o) rfl rfl (by decide) rfl rfl (xs_cons (x_sub (x_var (pe_var (i := 0) rfl (.inl rfl))) (x_var (pe_var (i := 2) rfl (.inl rfl))) (fun _ _ => rfl)) (xs_cons (x_sub (x_sub (x_sub (x_var (pe_var (i := 1) rfl (.inl rfl))) x_int (fun _ _ => rfl)) (x_var (pe_var (i := 2) rfl (.inl rfl))) (fun _ _ => rfl)) x_int (fun _ _ => rfl)) xs_nil (by rfl)) (by rfl)) (by rfl) (by rfl)) ?_
  refine ss_cons (s_if (PW.pt (x_orT (x_cmpT (o := .eq) (XOk.hu o) rfl (x_var (pe_var (i := 4) rfl (.inl rfl))) (x_len F o 5 rfl rfl (x_var (pe_var (i := 3) rfl (.inl rfl))) (by rfl)) (by rfl)) (x_or1T (x_cmpT (o := .eq) (XOk.hu o) rfl (x_sub (x_sub (x_var (pe_var (i := 3) rfl (.inl rfl))) (x_var (pe_var (i := 4) rfl (.inl rfl))) (fun _ _ => rfl)) x_int (fun _ _ => rfl)) (x_str (by decide +kernel)) (by rfl))))) (ss_cons (s_ret x_non) ss_nil) ss_nil) ?_
  refine ss_cons (s_ret (x_sub (x_var (pe_var (i := 3) rfl (.inl rfl))) (x_var (pe_var (i := 4) rfl (.inl rfl))) (fun _ _ => rfl))) ?_
  exact ss_nil
theorem b_21 (F : Facts mg K w fr cs ts) (EFx : EF P K mg ct er G.base) : Body P w K mg base ct sig PT fa fv 21 sg_21 := by
  refine ⟨["book", "stand", "core"], F_21, rfl, rfl, rfl, by decide, ⟨rfl, rfl, rfl, by decide +kernel, rfl, by decide +kernel, by decide +kernel⟩, fun k n L f cdv A outer s H Er o => ?_⟩
  refine ss_cons (s_ret (x_isN (x_callL sg_20 20 o L rfl rfl rfl (xs_cons (x_var (pe_var (i := 0) rfl (.inl rfl))) (xs_cons (x_var (pe_var (i := 1) rfl (.inl rfl))) (xs_cons (x_var (pe_var (i := 2) rfl (.inl rfl))) xs_nil (by rfl)) (by rfl)) (by rfl)) (by decide) (by rfl) (by rfl)))) ?_
  exact ss_nil
theorem b_22 (F : Facts mg K w fr cs ts) (EFx : EF P K mg ct er G.base) : Body P w K mg base ct sig PT fa fv 22 sg_22 := by
  refine ⟨["book", "stand", "core", "instruction"], F_22, rfl, rfl, rfl, by decide, ⟨rfl, rfl, rfl, by decide +kernel, rfl, by decide +kernel, by decide +kernel⟩, fun k n L f cdv A outer s H Er o => ?_⟩
  refine ss_cons (s_set (i := 3) (XOk.nd o) rfl (.inl rfl) (.inl rfl) (x_callL sg_20 20 o L rfl rfl rfl (xs_cons (x_var (pe_var (i := 0) rfl (.inl rfl))) (xs_cons (x_var (pe_var (i := 1) rfl (.inl rfl))) (xs_cons (x_var (pe_var (i := 2) rfl (.inl rfl))) xs_nil (by rfl)) (by rfl)) (by rfl)) (by decide) (by rfl) (by rfl)) (by rfl)) ?_
  refine ss_cons (s_if (x_isNT (x_var (pe_var (i := 3) rfl (.inl rfl)))) (ss_cons (s_ret x_bl) ss_nil) ss_nil) ?_
  refine ss_cons (s_ret (x_or (x_cmp (o := .notIn) (XOk.hu o) rfl (x_sub (x_var (pe_var (i := 3) rfl (.inl rfl))) x_int (fun _ _ => rfl)) (x_con F 7 rfl rfl (by decide)) (by rfl)) (x_one (x_cmp (o := .eq) (XOk.hu o) rfl (x_sub (x_sub (x_sub (x_var (pe_var (i := 1) rfl (.inl rfl))) x_int (fun _ _ => rfl)) (x_var (pe_var (i := 2) rfl (.inl rfl))) (fun _ _ => rfl)) x_int (fun _ _ => rfl)) (x_tup (by decide) xs_nil) (by rfl))))) ?_
  exact ss_nil
theorem b_23 (F : Facts mg K w fr cs ts) (EFx : EF P K mg ct er G.base) : Body P w K mg base ct sig PT fa fv 23 sg_23 := by
  refine ⟨["stand", "core"], F_23, rfl, rfl, rfl, by decide, ⟨rfl, rfl, rfl, by decide +kernel, rfl, by decide +kernel, by decide +kernel⟩, fun k n L f cdv A outer s H Er o => ?_⟩
  refine ss_cons (s_ret (x_cmp (o := .ne) (XOk.hu o) rfl (x_sub (x_sub (x_sub (x_var (pe_var (i := 0) rfl (.inl rfl))) x_int (fun _ _ => rfl)) (x_var (pe_var (i := 1) rfl (.inl rfl))) (fun _ _ => rfl)) x_int (fun _ _ => rfl)) (x_tup (by decide) xs_nil) (by rfl))) ?_
  exact ss_nil
theorem b_24 (F : Facts mg K w fr cs ts) (EFx : EF P K mg ct er G.base) : Body P w K mg base ct sig PT fa fv 24 sg_24 := by
  refine ⟨["book", "stand", "step"], F_24, rfl, rfl, rfl, by decide, ⟨rfl, rfl, rfl, by decide +kernel, rfl, by decide +kernel, by decide +kernel⟩, fun k n L f cdv A outer s H Er o => ?_⟩
  refine ss_cons (s_if (PW.pt (x_orT (x_notT (x_tru (x_isi F .tuple 0 4 rfl rfl rfl rfl (x_var (pe_var (i := 2) rfl (.inl rfl))) (by rfl) (by rfl)) (fun _ => rfl))) (x_orT (x_cmpT (o := .ne) (XOk.hu o) rfl (x_len F o 5 rfl rfl (x_var (pe_var (i := 2) rfl (.inl rfl))) (by rfl)) x_int (by rfl)) (x_or1T (x_notT (x_tru (x_isi F .str 0 6 rfl rfl rfl rfl (x_sub (x_var (pe_var (i := 2) rfl (.inl rfl))) x_int (fun _ _ => rfl)) (by rfl) (by rfl)) (fun _ => rfl))))))) (ss_cons (s_ret x_bl) ss_nil) ss_nil) ?_
  refine ss_cons (s_if (x_notT (x_tru (x_callL sg_2 2 o L rfl rfl rfl (xs_cons (x_sub (x_var (pe_var (i := 2) rfl (.inl rfl))) x_int (fun _ _ => rfl)) (xs_cons x_int (xs_cons (x_bin (o := .sub) (x_len F o 5 rfl rfl (x_var (pe_var (i := 0) rfl (.inl rfl))) (by rfl)) x_int) xs_nil (by rfl)) (by rfl)) (by rfl)) (by decide) (by rfl) (by rfl)) (fun _ => rfl))) (ss_cons (s_ret x_bl) ss_nil) ss_nil) ?_
  refine ss_cons (s_if (x_cmpT (o := .eq) (XOk.hu o) rfl (x_sub (x_var (pe_var (i := 2) rfl (.inl rfl))) x_int (fun _ _ => rfl)) (x_str (by decide +kernel)) (by rfl)) (ss_cons (s_ret (x_callL sg_22 22 o L rfl rfl rfl (xs_cons (x_var (pe_var (i := 0) rfl (.inl rfl))) (xs_cons (x_var (pe_var (i := 1) rfl (.inl rfl))) (xs_cons (x_sub (x_var (pe_var (i := 2) rfl (.inl rfl))) x_int (fun _ _ => rfl)) xs_nil (by rfl)) (by rfl)) (by rfl)) (by decide) (by rfl) (by rfl))) ss_nil) ss_nil) ?_
  refine ss_cons (s_ret (x_and (x_cmp (o := .eq) (XOk.hu o) rfl (x_sub (x_var (pe_var (i := 2) rfl (.inl rfl))) x_int (fun _ _ => rfl)) (x_str (by decide +kernel)) (by rfl)) (x_one (x_callL sg_23 23 o L rfl rfl rfl (xs_cons (x_var (pe_var (i := 1) rfl (.inl rfl))) (xs_cons (x_sub (x_var (pe_var (i := 2) rfl (.inl rfl))) x_int (fun _ _ => rfl)) xs_nil (by rfl)) (by rfl)) (by decide) (by rfl) (by rfl))))) ?_
  exact ss_nil
theorem b_25 (F : Facts mg K w fr cs ts) (EFx : EF P K mg ct er G.base) : Body P w K mg base ct sig PT fa fv 25 sg_25 := by
  refine ⟨["stores", "memory", "cell", "at", "word"], F_25, rfl, rfl, rfl, by decide, ⟨rfl, rfl, rfl, by decide +kernel, rfl, by decide +kernel, by decide +kernel⟩, fun k n L f cdv A outer s H Er o => ?_⟩
  refine ss_cons (s_for ownsM (XOk.calm o) (i_seq (x_rev (x_var (pe_var (i := 0) rfl (.inl rfl))))) (g_tup (is := [3, 4]) (XOk.nd o) (XOk.calm o) (.cons (i := 3) rfl (.inl rfl) (.inl rfl) (.cons (i := 4) rfl (.inl rfl) (.inl rfl) .nil (by rfl)) (by rfl)) (by rfl) (by rfl)) (ss_cons (s_if (x_cmpT (o := .eq) (XOk.hu o) rfl (x_var (pe_var (i := 3) rfl (.inl rfl))) (x_var (pe_var (i := 2) rfl (.inl rfl))) (by rfl)) (ss_cons (s_ret (x_var (pe_var (i := 4) rfl (.inl rfl)))) ss_nil) ss_nil) ss_nil) (fun _ => rfl)) ?_
  refine ss_cons (s_ret (x_sub (x_var (pe_var (i := 1) rfl (.inl rfl))) (x_var (pe_var (i := 2) rfl (.inl rfl))) (fun _ _ => rfl))) ?_
  exact ss_nil
theorem b_26 (F : Facts mg K w fr cs ts) (EFx : EF P K mg ct er G.base) : Body P w K mg base ct sig PT fa fv 26 sg_26 := by
  refine ⟨["instruction", "core", "memory", "row", "registers", "stores", "name", "words", "follower", "late", "cell", "made", "number"], F_26, rfl, rfl, rfl, by decide, ⟨rfl, rfl, rfl, by decide +kernel, rfl, by decide +kernel, by decide +kernel⟩, fun k n L f cdv A outer s H Er o => ?_⟩
  refine ss_cons (s_asgT (is := [3, 4, 5]) (XOk.nd o) (XOk.calm o) (.cons (i := 3) rfl (.inl rfl) (.inl rfl) (.cons (i := 4) rfl (.inr rfl) (.inl rfl) (.cons (i := 5) rfl (.inl rfl) (.inl rfl) .nil (by rfl)) (by rfl)) (by rfl)) (by rfl) (by rfl) (x_var (pe_var (i := 1) rfl (.inl rfl))) (by rfl) (by rfl) (by rfl)) ?_
  refine ss_cons (s_set (i := 6) (XOk.nd o) rfl (.inl rfl) (.inl rfl) (x_sub (x_var (pe_var (i := 0) rfl (.inl rfl))) x_int (fun _ _ => rfl)) (by rfl)) ?_
  refine ss_cons (s_set (i := 7) (XOk.nd o) rfl (.inl rfl) (.inl rfl) (x_bT F o 4 rfl rfl (x_frz (n_comp (own := [("number", 12)]) (XOk.calm o) (XOk.nd o) (i_seq (x_callL sg_11 11 o L rfl rfl rfl (xs_cons (x_var (pe_var (i := 0) rfl (.inl rfl))) xs_nil (by rfl)) (by decide) (by rfl) (by rfl))) (blkOk_by (by rfl)) (fun s0 H0 D0 cl0 fp0 => (g_name (i := 12) (XOk.nd (XOk.blk o s0 H0 _ _ fp0)) rfl (.inl rfl) (.inr rfl))) (fun s0 H0 D0 cl0 fp0 => tt_none) (fun s0 H0 D0 cl0 fp0 => (x_sub (x_var (pe_var (i := 4) rfl (.inr (.inl rfl)))) (x_var (pe_var (i := 12) rfl (.inl rfl))) (fun _ _ => rfl))) (fun _ => rfl) (by decide))) (by rfl)) (by rfl)) ?_
  refine ss_cons (s_set (i := 8) (XOk.nd o) rfl (.inl rfl) (.inl rfl) (x_callL sg_17 17 o L rfl rfl rfl (xs_cons (x_var (pe_var (i := 0) rfl (.inl rfl))) (xs_cons (x_var (pe_var (i := 3) rfl (.inl rfl))) (xs_cons (x_var (pe_var (i := 7) rfl (.inl rfl))) xs_nil (by rfl)) (by rfl)) (by rfl)) (by decide) (by rfl) (by rfl)) (by rfl)) ?_
  refine ss_cons (s_if (x_cmpT (o := .eq) (XOk.hu o) rfl (x_var (pe_var (i := 6) rfl (.inl rfl))) (x_str (by decide +kernel)) (by rfl)) (ss_cons (s_set (i := 9) (XOk.nd o) rfl (.inl rfl) (.inl rfl) (x_tup (by decide) (xs_cons (x_callL sg_16 16 o L rfl rfl rfl (xs_cons (x_len F o 5 rfl rfl (x_var (pe_var (i := 2) rfl (.inl rfl))) (by rfl)) (xs_cons (x_var (pe_var (i := 0) rfl (.inl rfl))) (xs_cons (x_var (pe_var (i := 7) rfl (.inl rfl))) xs_nil (by rfl)) (by rfl)) (by rfl)) (by decide) (by rfl) (by rfl)) (xs_cons (x_sub (x_var (pe_var (i := 7) rfl (.inl rfl))) x_int (fun _ _ => rfl)) xs_nil (by rfl)) (by rfl))) (by rfl)) (ss_cons (s_ret (x_tup (by decide) (xs_cons (x_tup (by decide) (xs_cons (x_var (pe_var (i := 8) rfl (.inl rfl))) (xs_cons (x_var (pe_var (i := 4) rfl (.inr (.inl rfl)))) (xs_cons (x_bin (o := .add) (x_var (pe_var (i := 5) rfl (.inl rfl))) (x_tup (by decide) (xs_cons (x_var (pe_var (i := 9) rfl (.inl rfl))) xs_nil (by rfl)))) xs_nil (by rfl)) (by rfl)) (by rfl))) (xs_cons (x_var (pe_var (i := 2) rfl (.inl rfl))) xs_nil (by rfl)) (by rfl)))) ss_nil)) ss_nil) ?_
  refine ss_cons (s_if (x_isNT (x_callL sg_12 12 o L rfl rfl rfl (xs_cons (x_var (pe_var (i := 0) rfl (.inl rfl))) xs_nil (by rfl)) (by decide) (by rfl) (by rfl))) (ss_cons (s_ret (x_tup (by decide) (xs_cons (x_tup (by decide) (xs_cons (x_var (pe_var (i := 8) rfl (.inl rfl))) (xs_cons (x_var (pe_var (i := 4) rfl (.inr (.inl rfl)))) (xs_cons (x_var (pe_var (i := 5) rfl (.inl rfl))) xs_nil (by rfl)) (by rfl)) (by rfl))) (xs_cons (x_var (pe_var (i := 2) rfl (.inl rfl))) xs_nil (by rfl)) (by rfl)))) ss_nil) ss_nil) ?_
  refine ss_cons (s_if (x_cmpT (o := .in_) (XOk.hu o) rfl (x_var (pe_var (i := 6) rfl (.inl rfl))) (x_con F 6 rfl rfl (by decide)) (by rfl)) (ss_cons (s_set (i := 10) (XOk.nd o) rfl (.inl rfl) (.inl rfl) (x_callL sg_16 16 o L rfl rfl rfl (xs_cons (x_len F o 5 rfl rfl (x_var (pe_var (i := 2) rfl (.inl rfl))) (by rfl)) (xs_cons (x_var (pe_var (i := 0) rfl (.inl rfl))) (xs_cons (x_var (pe_var (i := 7) rfl (.inl rfl))) xs_nil (by rfl)) (by rfl)) (by rfl)) (by decide) (by rfl) (by rfl)) (by rfl)) (ss_cons (s_set (i := 11) (XOk.nd o) rfl (.inl rfl) (.inl rfl) (x_sub (x_var (pe_var (i := 2) rfl (.inl rfl))) (x_var (pe_var (i := 10) rfl (.inl rfl))) (fun _ _ => rfl)) (by rfl)) (ss_cons (s_set (i := 2) (XOk.nd o) rfl (.inl rfl) (.inl rfl) (x_callL sg_18 18 o L rfl rfl rfl (xs_cons (x_var (pe_var (i := 2) rfl (.inl rfl))) (xs_cons (x_var (pe_var (i := 10) rfl (.inl rfl))) (xs_cons (x_callL sg_14 14 o L rfl rfl rfl (xs_cons (x_var (pe_var (i := 0) rfl (.inl rfl))) (xs_cons (x_sub (x_var (pe_var (i := 7) rfl (.inl rfl))) x_int (fun _ _ => rfl)) (xs_cons (x_var (pe_var (i := 11) rfl (.inl rfl))) xs_nil (by rfl)) (by rfl)) (by rfl)) (by decide) (by rfl) (by rfl)) xs_nil (by rfl)) (by rfl)) (by rfl)) (by decide) (by rfl) (by rfl)) (by rfl)) ss_nil))) (ss_cons (s_if (x_cmpT (o := .eq) (XOk.hu o) rfl (x_var (pe_var (i := 6) rfl (.inl rfl))) (x_str (by decide +kernel)) (by rfl)) (ss_cons (s_set (i := 11) (XOk.nd o) rfl (.inl rfl) (.inl rfl) (x_callL sg_25 25 o L rfl rfl rfl (xs_cons (x_var (pe_var (i := 5) rfl (.inl rfl))) (xs_cons (x_var (pe_var (i := 2) rfl (.inl rfl))) (xs_cons (x_callL sg_16 16 o L rfl rfl rfl (xs_cons (x_len F o 5 rfl rfl (x_var (pe_var (i := 2) rfl (.inl rfl))) (by rfl)) (xs_cons (x_var (pe_var (i := 0) rfl (.inl rfl))) (xs_cons (x_var (pe_var (i := 7) rfl (.inl rfl))) xs_nil (by rfl)) (by rfl)) (by rfl)) (by decide) (by rfl) (by rfl)) xs_nil (by rfl)) (by rfl)) (by rfl)) (by decide) (by rfl) (by rfl)) (by rfl)) ss_nil) (ss_cons (s_set (i := 11) (XOk.nd o) rfl (.inl rfl) (.inl rfl) (x_callL sg_13 13 o L rfl rfl rfl (xs_cons (x_var (pe_var (i := 0) rfl (.inl rfl))) (xs_cons (x_var (pe_var (i := 7) rfl (.inl rfl))) xs_nil (by rfl)) (by rfl)) (by decide) (by rfl) (by rfl)) (by rfl)) ss_nil)) ss_nil)) ?_
  refine ss_cons (s_ret (x_tup (by decide) (xs_cons (x_tup (by decide) (xs_cons (x_var (pe_var (i := 8) rfl (.inl rfl))) (xs_cons (x_callL sg_18 18 o L rfl rfl rfl (xs_cons (x_var (pe_var (i := 4) rfl (.inr (.inl rfl)))) (xs_cons (x_sub (x_var (pe_var (i := 0) rfl (.inl rfl))) x_int (fun _ _ => rfl)) (xs_cons (x_var (pe_var (i := 11) rfl (.inl rfl))) xs_nil (by rfl)) (by rfl)) (by rfl)) (by decide) (by rfl) (by rfl)) (xs_cons (x_var (pe_var (i := 5) rfl (.inl rfl))) xs_nil (by rfl)) (by rfl)) (by rfl))) (xs_cons (x_var (pe_var (i := 2) rfl (.inl rfl))) xs_nil (by rfl)) (by rfl)))) ?_
  exact ss_nil
theorem b_27 (F : Facts mg K w fr cs ts) (EFx : EF P K mg ct er G.base) : Body P w K mg base ct sig PT fa fv 27 sg_27 := by
  refine ⟨["book", "stand", "core", "cores", "memory", "after"], F_27, rfl, rfl, rfl, by decide, ⟨rfl, rfl, rfl, by decide +kernel, rfl, by decide +kernel, by decide +kernel⟩, fun k n L f cdv A outer s H Er o => ?_⟩
  refine ss_cons (s_asgT (is := [3, 4]) (XOk.nd o) (XOk.calm o) (.cons (i := 3) rfl (.inl rfl) (.inl rfl) (.cons (i := 4) rfl (.inl rfl) (.inl rfl) .nil (by rfl)) (by rfl)) (by rfl) (by rfl) (x_var (pe_var (i := 1) rfl (.inl rfl))) (by rfl) (by rfl) (by rfl)) ?_
  refine ss_cons (s_asgT (is := [5, 4]) (XOk.nd o) (XOk.calm o) (.cons (i := 5) rfl (.inl rfl) (.inl rfl) (.cons (i := 4) rfl (.inl rfl) (.inl rfl) .nil (by rfl)) (by rfl)) (by rfl) (by rfl) (x_callL sg_26 26 o L rfl rfl rfl (xs_cons (x_callL sg_20 20 o L rfl rfl rfl (xs_cons (x_var (pe_var (i := 0) rfl (.inl rfl))) (xs_cons (x_var (pe_var (i := 1) rfl (.inl rfl))) (xs_cons (x_var (pe_var (i := 2) rfl (.inl rfl))) xs_nil (by rfl)) (by rfl)) (by rfl)) (by decide) (by rfl) (by rfl)) (xs_cons (x_sub (x_var (pe_var (i := 3) rfl (.inl rfl))) (x_var (pe_var (i := 2) rfl (.inl rfl))) (fun _ _ => rfl)) (xs_cons (x_var (pe_var (i := 4) rfl (.inl rfl))) xs_nil (by rfl)) (by rfl)) (by rfl)) (by decide) (by rfl) (by rfl)) (by rfl) (by rfl) (by rfl)) ?_
  refine ss_cons (s_ret (x_tup (by decide) (xs_cons (x_callL sg_18 18 o L rfl rfl rfl (xs_cons (x_var (pe_var (i := 3) rfl (.inl rfl))) (xs_cons (x_var (pe_var (i := 2) rfl (.inl rfl))) (xs_cons (x_var (pe_var (i := 5) rfl (.inl rfl))) xs_nil (by rfl)) (by rfl)) (by rfl)) (by decide) (by rfl) (by rfl)) (xs_cons (x_var (pe_var (i := 4) rfl (.inl rfl))) xs_nil (by rfl)) (by rfl)))) ?_
  exact ss_nil
theorem b_28 (F : Facts mg K w fr cs ts) (EFx : EF P K mg ct er G.base) : Body P w K mg base ct sig PT fa fv 28 sg_28 := by
  refine ⟨["stand", "core", "cores", "memory", "row", "registers", "stores", "cell", "word"], F_28, rfl, rfl, rfl, by decide, ⟨rfl, rfl, rfl, by decide +kernel, rfl, by decide +kernel, by decide +kernel⟩, fun k n L f cdv A outer s H Er o => ?_⟩
  refine ss_cons (s_asgT (is := [2, 3]) (XOk.nd o) (XOk.calm o) (.cons (i := 2) rfl (.inl rfl) (.inl rfl) (.cons (i := 3) rfl (.inl rfl) (.inl rfl) .nil (by rfl)) (by rfl)) (by rfl) (by rfl) (x_var (pe_var (i := 0) rfl (.inl rfl))) (by rfl) (by rfl) (by rfl)) ?_
  refine ss_cons (s_asgT (is := [4, 5, 6]) (XOk.nd o) (XOk.calm o) (.cons (i := 4) rfl (.inl rfl) (.inl rfl) (.cons (i := 5) rfl (.inl rfl) (.inl rfl) (.cons (i := 6) rfl (.inl rfl) (.inl rfl) .nil (by rfl)) (by rfl)) (by rfl)) (by rfl) (by rfl) (x_sub (x_var (pe_var (i := 2) rfl (.inl rfl))) (x_var (pe_var (i := 1) rfl (.inl rfl))) (fun _ _ => rfl)) (by rfl) (by rfl) (by rfl)) ?_
  refine ss_cons (s_asgT (is := [7, 8]) (XOk.nd o) (XOk.calm o) (.cons (i := 7) rfl (.inl rfl) (.inl rfl) (.cons (i := 8) rfl (.inl rfl) (.inl rfl) .nil (by rfl)) (by rfl)) (by rfl) (by rfl) (x_sub (x_var (pe_var (i := 6) rfl (.inl rfl))) x_int (fun _ _ => rfl)) (by rfl) (by rfl) (by rfl)) ?_
  refine ss_cons (s_ret (x_tup (by decide) (xs_cons (x_callL sg_18 18 o L rfl rfl rfl (xs_cons (x_var (pe_var (i := 2) rfl (.inl rfl))) (xs_cons (x_var (pe_var (i := 1) rfl (.inl rfl))) (xs_cons (x_tup (by decide) (xs_cons (x_var (pe_var (i := 4) rfl (.inl rfl))) (xs_cons (x_var (pe_var (i := 5) rfl (.inl rfl))) (xs_cons (x_slc (x_var (pe_var (i := 6) rfl (.inl rfl))) (o_some x_int) o_none) xs_nil (by rfl)) (by rfl)) (by rfl))) xs_nil (by rfl)) (by rfl)) (by rfl)) (by decide) (by rfl) (by rfl)) (xs_cons (x_callL sg_18 18 o L rfl rfl rfl (xs_cons (x_var (pe_var (i := 3) rfl (.inl rfl))) (xs_cons (x_var (pe_var (i := 7) rfl (.inl rfl))) (xs_cons (x_var (pe_var (i := 8) rfl (.inl rfl))) xs_nil (by rfl)) (by rfl)) (by rfl)) (by decide) (by rfl) (by rfl)) xs_nil (by rfl)) (by rfl)))) ?_
  exact ss_nil
theorem b_29 (F : Facts mg K w fr cs ts) (EFx : EF P K mg ct er G.base) : Body P w K mg base ct sig PT fa fv 29 sg_29 := by
  refine ⟨["book", "stand", "step"], F_29, rfl, rfl, rfl, by decide, ⟨rfl, rfl, rfl, by decide +kernel, rfl, by decide +kernel, by decide +kernel⟩, fun k n L f cdv A outer s H Er o => ?_⟩
  refine ss_cons (s_if (x_cmpT (o := .eq) (XOk.hu o) rfl (x_sub (x_var (pe_var (i := 2) rfl (.inl rfl))) x_int (fun _ _ => rfl)) (x_str (by decide +kernel)) (by rfl)) (ss_cons (s_ret (x_callL sg_27 27 o L rfl rfl rfl (xs_cons (x_var (pe_var (i := 0) rfl (.inl rfl))) (xs_cons (x_var (pe_var (i := 1) rfl (.inl rfl))) (xs_cons (x_sub (x_var (pe_var (i := 2) rfl (.inl rfl))) x_int (fun _ _ => rfl)) xs_nil (by rfl)) (by rfl)) (by rfl)) (by decide) (by rfl) (by rfl))) ss_nil) ss_nil) ?_
  refine ss_cons (s_ret (x_callL sg_28 28 o L rfl rfl rfl (xs_cons (x_var (pe_var (i := 1) rfl (.inl rfl))) (xs_cons (x_sub (x_var (pe_var (i := 2) rfl (.inl rfl))) x_int (fun _ _ => rfl)) xs_nil (by rfl)) (by rfl)) (by decide) (by rfl) (by rfl))) ?_
  exact ss_nil
theorem b_30 (F : Facts mg K w fr cs ts) (EFx : EF P K mg ct er G.base) : Body P w K mg base ct sig PT fa fv 30 sg_30 := by
  refine ⟨["book", "stand", "core", "after"], F_30, rfl, rfl, rfl, by decide, ⟨rfl, rfl, rfl, by decide +kernel, rfl, by decide +kernel, by decide +kernel⟩, fun k n L f cdv A outer s H Er o => ?_⟩
  refine ss_cons (s_set (i := 3) (XOk.nd o) rfl (.inl rfl) (.inl rfl) (x_callL sg_27 27 o L rfl rfl rfl (xs_cons (x_var (pe_var (i := 0) rfl (.inl rfl))) (xs_cons (x_var (pe_var (i := 1) rfl (.inl rfl))) (xs_cons (x_var (pe_var (i := 2) rfl (.inl rfl))) xs_nil (by rfl)) (by rfl)) (by rfl)) (by decide) (by rfl) (by rfl)) (by rfl)) ?_
  refine ss_cons (s_if (x_tru (x_callL sg_23 23 o L rfl rfl rfl (xs_cons (x_var (pe_var (i := 3) rfl (.inl rfl))) (xs_cons (x_var (pe_var (i := 2) rfl (.inl rfl))) xs_nil (by rfl)) (by rfl)) (by decide) (by rfl) (by rfl)) (fun _ => rfl)) (ss_cons (s_ret (x_callL sg_28 28 o L rfl rfl rfl (xs_cons (x_var (pe_var (i := 3) rfl (.inl rfl))) (xs_cons (x_var (pe_var (i := 2) rfl (.inl rfl))) xs_nil (by rfl)) (by rfl)) (by decide) (by rfl) (by rfl))) ss_nil) ss_nil) ?_
  refine ss_cons (s_ret (x_var (pe_var (i := 3) rfl (.inl rfl)))) ?_
  exact ss_nil
theorem b_31 (F : Facts mg K w fr cs ts) (EFx : EF P K mg ct er G.base) : Body P w K mg base ct sig PT fa fv 31 sg_31 := by
  refine ⟨["book", "memory"], F_31, rfl, rfl, rfl, by decide, ⟨rfl, rfl, rfl, by decide +kernel, rfl, by decide +kernel, by decide +kernel⟩, fun k n L f cdv A outer s H Er o => ?_⟩
  refine ss_cons (s_expr (x_callL sg_9 9 o L rfl rfl rfl (xs_cons (x_var (pe_var (i := 0) rfl (.inl rfl))) xs_nil (by rfl)) (by decide) (by rfl) (by rfl)) (by rfl)) ?_
  refine ss_cons (s_expr (x_callL sg_10 10 o L rfl rfl rfl (xs_cons (x_var (pe_var (i := 1) rfl (.inl rfl))) (xs_cons x_non xs_nil (by rfl)) (by rfl)) (by decide) (by rfl) (by rfl)) (by rfl)) ?_
  refine ss_cons (s_ret (x_callL sg_19 19 o L rfl rfl rfl (xs_cons (x_var (pe_var (i := 0) rfl (.inl rfl))) (xs_cons (x_var (pe_var (i := 1) rfl (.inl rfl))) xs_nil (by rfl)) (by rfl)) (by decide) (by rfl) (by rfl))) ?_
  exact ss_nil
theorem b_32 (F : Facts mg K w fr cs ts) (EFx : EF P K mg ct er G.base) : Body P w K mg base ct sig PT fa fv 32 sg_32 := by
  refine ⟨["book", "memory", "steps", "stand", "step"], F_32, rfl, rfl, rfl, by decide, ⟨rfl, rfl, rfl, by decide +kernel, rfl, by decide +kernel, by decide +kernel⟩, fun k n L f cdv A outer s H Er o => ?_⟩
  refine ss_cons (s_set (i := 3) (XOk.nd o) rfl (.inl rfl) (.inl rfl) (x_callL sg_31 31 o L rfl rfl rfl (xs_cons (x_var (pe_var (i := 0) rfl (.inl rfl))) (xs_cons (x_var (pe_var (i := 1) rfl (.inl rfl))) xs_nil (by rfl)) (by rfl)) (by decide) (by rfl) (by rfl)) (by rfl)) ?_
  refine ss_cons (s_for ownsM (XOk.calm o) (i_seq (x_var (pe_var (i := 2) rfl (.inl rfl)))) (g_name (i := 4) (XOk.nd o) rfl (.inl rfl) (.inl rfl)) (ss_cons (s_if (x_notT (x_tru (x_callL sg_24 24 o L rfl rfl rfl (xs_cons (x_var (pe_var (i := 0) rfl (.inl rfl))) (xs_cons (x_var (pe_var (i := 3) rfl (.inl rfl))) (xs_cons (x_var (pe_var (i := 4) rfl (.inl rfl))) xs_nil (by rfl)) (by rfl)) (by rfl)) (by decide) (by rfl) (by rfl)) (fun _ => rfl))) (ss_cons (s_raiseF EFx 2 rfl o rfl (x_callL sg_1 1 o L rfl rfl rfl (xs_cons (x_var (pe_var (i := 4) rfl (.inl rfl))) xs_nil (by rfl)) (by decide) (by rfl) (by rfl)) (by decide) (by rfl)) ss_nil) ss_nil) (ss_cons (s_set (i := 3) (XOk.nd o) rfl (.inl rfl) (.inl rfl) (x_callL sg_29 29 o L rfl rfl rfl (xs_cons (x_var (pe_var (i := 0) rfl (.inl rfl))) (xs_cons (x_var (pe_var (i := 3) rfl (.inl rfl))) (xs_cons (x_var (pe_var (i := 4) rfl (.inl rfl))) xs_nil (by rfl)) (by rfl)) (by rfl)) (by decide) (by rfl) (by rfl)) (by rfl)) ss_nil)) (fun _ => rfl)) ?_
  refine ss_cons (s_ret (x_var (pe_var (i := 3) rfl (.inl rfl)))) ?_
  exact ss_nil
theorem b_33 (F : Facts mg K w fr cs ts) (EFx : EF P K mg ct er G.base) : Body P w K mg base ct sig PT fa fv 33 sg_33 := by
  refine ⟨["book", "memory", "cores", "stand", "core"], F_33, rfl, rfl, rfl, by decide, ⟨rfl, rfl, rfl, by decide +kernel, rfl, by decide +kernel, by decide +kernel⟩, fun k n L f cdv A outer s H Er o => ?_⟩
  refine ss_cons (s_set (i := 3) (XOk.nd o) rfl (.inl rfl) (.inl rfl) (x_callL sg_31 31 o L rfl rfl rfl (xs_cons (x_var (pe_var (i := 0) rfl (.inl rfl))) (xs_cons (x_var (pe_var (i := 1) rfl (.inl rfl))) xs_nil (by rfl)) (by rfl)) (by decide) (by rfl) (by rfl)) (by rfl)) ?_
  refine ss_cons (s_for ownsM (XOk.calm o) (i_seq (x_var (pe_var (i := 2) rfl (.inl rfl)))) (g_name (i := 4) (XOk.nd o) rfl (.inl rfl) (.inl rfl)) (ss_cons (s_if (PW.pt (x_orT (x_notT (x_tru (x_callL sg_2 2 o L rfl rfl rfl (xs_cons (x_var (pe_var (i := 4) rfl (.inl rfl))) (xs_cons x_int (xs_cons (x_bin (o := .sub) (x_len F o 5 rfl rfl (x_var (pe_var (i := 0) rfl (.inl rfl))) (by rfl)) x_int) xs_nil (by rfl)) (by rfl)) (by rfl)) (by decide) (by rfl) (by rfl)) (fun _ => rfl))) (x_or1T (x_tru (x_callL sg_21 21 o L rfl rfl rfl (xs_cons (x_var (pe_var (i := 0) rfl (.inl rfl))) (xs_cons (x_var (pe_var (i := 3) rfl (.inl rfl))) (xs_cons (x_var (pe_var (i := 4) rfl (.inl rfl))) xs_nil (by rfl)) (by rfl)) (by rfl)) (by decide) (by rfl) (by rfl)) (fun _ => rfl))))) (ss_cons (s_raiseF EFx 2 rfl o rfl (x_callL sg_1 1 o L rfl rfl rfl (xs_cons (x_var (pe_var (i := 4) rfl (.inl rfl))) xs_nil (by rfl)) (by decide) (by rfl) (by rfl)) (by decide) (by rfl)) ss_nil) ss_nil) (ss_cons (s_set (i := 3) (XOk.nd o) rfl (.inl rfl) (.inl rfl) (x_callL sg_30 30 o L rfl rfl rfl (xs_cons (x_var (pe_var (i := 0) rfl (.inl rfl))) (xs_cons (x_var (pe_var (i := 3) rfl (.inl rfl))) (xs_cons (x_var (pe_var (i := 4) rfl (.inl rfl))) xs_nil (by rfl)) (by rfl)) (by rfl)) (by decide) (by rfl) (by rfl)) (by rfl)) ss_nil)) (fun _ => rfl)) ?_
  refine ss_cons (s_ret (x_var (pe_var (i := 3) rfl (.inl rfl)))) ?_
  exact ss_nil
theorem b_34 (F : Facts mg K w fr cs ts) (EFx : EF P K mg ct er G.base) : Body P w K mg base ct sig PT fa fv 34 sg_34 := by
  refine ⟨["script"], F_34, rfl, rfl, rfl, by decide, ⟨rfl, rfl, rfl, by decide +kernel, rfl, by decide +kernel, by decide +kernel⟩, fun k n L f cdv A outer s H Er o => ?_⟩
  refine ss_cons (s_retN (n_lst (by decide) (xs_cons (x_frz (n_listF F 3 rfl rfl (x_var (pe_var (i := 0) rfl (.inl rfl))) (by rfl))) (xs_cons x_int (xs_cons x_int xs_nil (by rfl)) (by rfl)) (by rfl)))) ?_
  exact ss_nil
theorem b_35 (F : Facts mg K w fr cs ts) (EFx : EF P K mg ct er G.base) : Body P w K mg base ct sig PT fa fv 35 sg_35 := by
  refine ⟨["deck", "many", "part", "k", "cells", "cell", "mixed"], F_35, rfl, rfl, rfl, by decide, ⟨rfl, rfl, rfl, by decide +kernel, rfl, by decide +kernel, by decide +kernel⟩, fun k n L f cdv A outer s H Er o => ?_⟩
  refine ss_cons (s_if (x_cmpT (o := .lt) (XOk.hu o) rfl (x_var (pe_var (i := 1) rfl (.inl rfl))) x_int (by rfl)) (ss_cons (s_ret x_int) ss_nil) ss_nil) ?_
  refine ss_cons (s_if (x_cmpT (o := .gt) (XOk.hu o) rfl (x_sub (x_var (pe_var (i := 0) rfl (.inl rfl))) x_int (fun _ _ => rfl)) x_int (by rfl)) (ss_cons (s_set (i := 2) (XOk.nd o) rfl (.inl rfl) (.inl rfl) (x_bin (o := .mod) (x_bI F o 1 rfl rfl (x_sub (x_var (pe_var (i := 0) rfl (.inl rfl))) x_int (fun _ _ => rfl)) (by rfl)) (x_var (pe_var (i := 1) rfl (.inl rfl)))) (by rfl)) (ss_cons (s_put (x_var (pe_var (i := 0) rfl (.inl rfl))) x_int (x_bin (o := .fdiv) (x_sub (x_var (pe_var (i := 0) rfl (.inl rfl))) x_int (fun _ _ => rfl)) (x_var (pe_var (i := 1) rfl (.inl rfl)))) (fun _ => rfl) (by rfl) (by rfl) (by rfl)) (ss_cons (s_ret (x_var (pe_var (i := 2) rfl (.inl rfl)))) ss_nil))) ss_nil) ?_
  refine ss_cons (s_set (i := 3) (XOk.nd o) rfl (.inl rfl) (.inl rfl) (x_sub (x_var (pe_var (i := 0) rfl (.inl rfl))) x_int (fun _ _ => rfl)) (by rfl)) ?_
  refine ss_cons (s_put (x_var (pe_var (i := 0) rfl (.inl rfl))) x_int (x_bin (o := .add) (x_var (pe_var (i := 3) rfl (.inl rfl))) x_int) (fun _ => rfl) (by rfl) (by rfl) (by rfl)) ?_
  refine ss_cons (s_set (i := 4) (XOk.nd o) rfl (.inl rfl) (.inl rfl) (x_sub (x_var (pe_var (i := 0) rfl (.inl rfl))) x_int (fun _ _ => rfl)) (by rfl)) ?_
  refine ss_cons (s_set (i := 5) (XOk.nd o) rfl (.inl rfl) (.inl rfl) (x_ite (x_cmpT (o := .gt) (XOk.hu o) rfl (x_len F o 5 rfl rfl (x_var (pe_var (i := 4) rfl (.inl rfl))) (by rfl)) x_int (by rfl)) (x_sub (x_var (pe_var (i := 4) rfl (.inl rfl))) (x_bin (o := .mod) (x_bI F o 1 rfl rfl (x_var (pe_var (i := 3) rfl (.inl rfl))) (by rfl)) (x_len F o 5 rfl rfl (x_var (pe_var (i := 4) rfl (.inl rfl))) (by rfl))) (fun _ _ => rfl)) x_int) (by rfl)) ?_
  refine ss_cons (s_if (PW.pt (x_andT (x_cmpT (o := .lt) (XOk.hu o) rfl (x_var (pe_var (i := 3) rfl (.inl rfl))) (x_len F o 5 rfl rfl (x_var (pe_var (i := 4) rfl (.inl rfl))) (by rfl)) (by rfl)) (x_and1T (x_cmpT (o := .ge) (XOk.hu o) rfl (x_var (pe_var (i := 5) rfl (.inl rfl))) (x_bin (o := .pow) x_int x_int) (by rfl))))) (ss_cons (s_put (x_var (pe_var (i := 0) rfl (.inl rfl))) x_int (x_bin (o := .fdiv) (x_var (pe_var (i := 5) rfl (.inl rfl))) (x_var (pe_var (i := 1) rfl (.inl rfl)))) (fun _ => rfl) (by rfl) (by rfl) (by rfl)) (ss_cons (s_ret (x_bin (o := .mod) (x_bI F o 1 rfl rfl (x_var (pe_var (i := 5) rfl (.inl rfl))) (by rfl)) (x_var (pe_var (i := 1) rfl (.inl rfl))))) ss_nil)) ss_nil) ?_
  refine ss_cons (s_set (i := 6) (XOk.nd o) rfl (.inl rfl) (.inl rfl) (x_bin (o := .mod) (x_bI F o 1 rfl rfl (x_bin (o := .mul) (x_bin (o := .add) (x_bin (o := .add) (x_bin (o := .mod) (x_bI F o 1 rfl rfl (x_var (pe_var (i := 5) rfl (.inl rfl))) (by rfl)) x_int) (x_bin (o := .mul) x_int (x_var (pe_var (i := 3) rfl (.inl rfl))))) x_int) x_int) (by rfl)) x_int) (by rfl)) ?_
  refine ss_cons (s_set (i := 6) (XOk.nd o) rfl (.inl rfl) (.inl rfl) (x_bin (o := .mod) (x_bI F o 1 rfl rfl (x_bin (o := .add) (x_bin (o := .add) (x_bin (o := .mul) (x_var (pe_var (i := 6) rfl (.inl rfl))) (x_var (pe_var (i := 6) rfl (.inl rfl)))) (x_bin (o := .mul) (x_bin (o := .mul) x_int (x_var (pe_var (i := 3) rfl (.inl rfl)))) (x_var (pe_var (i := 3) rfl (.inl rfl))))) (x_bin (o := .mul) x_int (x_var (pe_var (i := 3) rfl (.inl rfl))))) (by rfl)) x_int) (by rfl)) ?_
  refine ss_cons (s_set (i := 6) (XOk.nd o) rfl (.inl rfl) (.inl rfl) (x_bin (o := .mod) (x_bI F o 1 rfl rfl (x_bin (o := .mul) (x_bin (o := .add) (x_var (pe_var (i := 6) rfl (.inl rfl))) x_int) (x_bin (o := .add) (x_bin (o := .mul) (x_var (pe_var (i := 6) rfl (.inl rfl))) x_int) (x_var (pe_var (i := 3) rfl (.inl rfl))))) (by rfl)) x_int) (by rfl)) ?_
  refine ss_cons (s_ret (x_bin (o := .mod) (x_bI F o 1 rfl rfl (x_bin (o := .fdiv) (x_var (pe_var (i := 6) rfl (.inl rfl))) x_int) (by rfl)) (x_var (pe_var (i := 1) rfl (.inl rfl))))) ?_
  exact ss_nil
theorem b_36 (F : Facts mg K w fr cs ts) (EFx : EF P K mg ct er G.base) : Body P w K mg base ct sig PT fa fv 36 sg_36 := by
  refine ⟨["row", "at", "value"], F_36, rfl, rfl, rfl, by decide, ⟨rfl, rfl, rfl, by decide +kernel, rfl, by decide +kernel, by decide +kernel⟩, fun k n L f cdv A outer s H Er o => ?_⟩
  refine ss_cons (s_ret (x_bin (o := .add) (x_bin (o := .add) (x_slc (x_var (pe_var (i := 0) rfl (.inl rfl))) o_none (o_some (x_var (pe_var (i := 1) rfl (.inl rfl))))) (x_tup (by decide) (xs_cons (x_var (pe_var (i := 2) rfl (.inl rfl))) xs_nil (by rfl)))) (x_slc (x_var (pe_var (i := 0) rfl (.inl rfl))) (o_some (x_bin (o := .add) (x_var (pe_var (i := 1) rfl (.inl rfl))) x_int)) o_none))) ?_
  exact ss_nil
theorem b_37 (F : Facts mg K w fr cs ts) (EFx : EF P K mg ct er G.base) : Body P w K mg base ct sig PT fa fv 37 sg_37 := by
  refine ⟨["name", "one", "other"], F_37, rfl, rfl, rfl, by decide, ⟨rfl, rfl, rfl, by decide +kernel, rfl, by decide +kernel, by decide +kernel⟩, fun k n L f cdv A outer s H Er o => ?_⟩
  refine ss_cons (s_if (x_cmpT (o := .in_) (XOk.hu o) rfl (x_var (pe_var (i := 0) rfl (.inl rfl))) (x_tup (by decide) (xs_cons (x_str (by decide +kernel)) (xs_cons (x_str (by decide +kernel)) xs_nil (by rfl)) (by rfl))) (by rfl)) (ss_cons (s_ret (x_bin (o := .mod) (x_bI F o 1 rfl rfl (x_ite (x_cmpT (o := .eq) (XOk.hu o) rfl (x_var (pe_var (i := 0) rfl (.inl rfl))) (x_str (by decide +kernel)) (by rfl)) (x_bin (o := .add) (x_var (pe_var (i := 1) rfl (.inl rfl))) (x_var (pe_var (i := 2) rfl (.inl rfl)))) (x_bin (o := .sub) (x_var (pe_var (i := 1) rfl (.inl rfl))) (x_var (pe_var (i := 2) rfl (.inl rfl))))) (by rfl)) x_int)) ss_nil) ss_nil) ?_
  refine ss_cons (s_if (x_cmpT (o := .eq) (XOk.hu o) rfl (x_var (pe_var (i := 0) rfl (.inl rfl))) (x_str (by decide +kernel)) (by rfl)) (ss_cons (s_ret (x_bI F o 1 rfl rfl (x_cmp (o := .lt) (XOk.hu o) rfl (x_var (pe_var (i := 1) rfl (.inl rfl))) (x_var (pe_var (i := 2) rfl (.inl rfl))) (by rfl)) (by rfl))) ss_nil) ss_nil) ?_
  refine ss_cons (s_ret (x_ite (x_cmpT (o := .eq) (XOk.hu o) rfl (x_var (pe_var (i := 0) rfl (.inl rfl))) (x_str (by decide +kernel)) (by rfl)) (x_bin (o := .and) (x_var (pe_var (i := 1) rfl (.inl rfl))) (x_var (pe_var (i := 2) rfl (.inl rfl)))) (x_bin (o := .xor) (x_var (pe_var (i := 1) rfl (.inl rfl))) (x_var (pe_var (i := 2) rfl (.inl rfl)))))) ?_
  exact ss_nil
theorem b_38 (F : Facts mg K w fr cs ts) (EFx : EF P K mg ct er G.base) : Body P w K mg base ct sig PT fa fv 38 sg_38 := by
  refine ⟨["book", "c", "row"], F_38, rfl, rfl, rfl, by decide, ⟨rfl, rfl, rfl, by decide +kernel, rfl, by decide +kernel, by decide +kernel⟩, fun k n L f cdv A outer s H Er o => ?_⟩
  refine ss_cons (s_ret (x_or (x_cmp (o := .eq) (XOk.hu o) rfl (x_var (pe_var (i := 2) rfl (.inl rfl))) (x_len F o 5 rfl rfl (x_sub (x_var (pe_var (i := 0) rfl (.inl rfl))) (x_var (pe_var (i := 1) rfl (.inl rfl))) (fun _ _ => rfl)) (by rfl)) (by rfl)) (x_one (x_cmp (o := .eq) (XOk.hu o) rfl (x_sub (x_sub (x_var (pe_var (i := 0) rfl (.inl rfl))) (x_var (pe_var (i := 1) rfl (.inl rfl))) (fun _ _ => rfl)) (x_var (pe_var (i := 2) rfl (.inl rfl))) (fun _ _ => rfl)) (x_tup (by decide) (xs_cons (x_str (by decide +kernel)) xs_nil (by rfl))) (by rfl))))) ?_
  exact ss_nil
theorem b_39 (F : Facts mg K w fr cs ts) (EFx : EF P K mg ct er G.base) : Body P w K mg base ct sig PT fa fv 39 sg_39 := by
  refine ⟨["book", "stand", "step", "cores", "memory", "c", "row", "registers", "late", "one", "name", "to", "cell", "word", "old", "own"], F_39, rfl, rfl, rfl, by decide, ⟨rfl, rfl, rfl, by decide +kernel, rfl, by decide +kernel, by decide +kernel⟩, fun k n L f cdv A outer s H Er o => ?_⟩
  refine ss_cons (s_asgT (is := [3, 4]) (XOk.nd o) (XOk.calm o) (.cons (i := 3) rfl (.inl rfl) (.inl rfl) (.cons (i := 4) rfl (.inl rfl) (.inl rfl) .nil (by rfl)) (by rfl)) (by rfl) (by rfl) (x_var (pe_var (i := 1) rfl (.inl rfl))) (by rfl) (by rfl) (by rfl)) ?_
  refine ss_cons (s_set (i := 5) (XOk.nd o) rfl (.inl rfl) (.inl rfl) (x_sub (x_var (pe_var (i := 2) rfl (.inl rfl))) x_int (fun _ _ => rfl)) (by rfl)) ?_
  refine ss_cons (s_asgT (is := [6, 7, 8]) (XOk.nd o) (XOk.calm o) (.cons (i := 6) rfl (.inl rfl) (.inl rfl) (.cons (i := 7) rfl (.inl rfl) (.inl rfl) (.cons (i := 8) rfl (.inl rfl) (.inl rfl) .nil (by rfl)) (by rfl)) (by rfl)) (by rfl) (by rfl) (x_sub (x_var (pe_var (i := 3) rfl (.inl rfl))) (x_var (pe_var (i := 5) rfl (.inl rfl))) (fun _ _ => rfl)) (by rfl) (by rfl) (by rfl)) ?_
  refine ss_cons (s_if (x_cmpT (o := .eq) (XOk.hu o) rfl (x_sub (x_var (pe_var (i := 2) rfl (.inl rfl))) x_int (fun _ _ => rfl)) (x_str (by decide +kernel)) (by rfl)) (ss_cons (s_ret (x_tup (by decide) (xs_cons (x_callL sg_36 36 o L rfl rfl rfl (xs_cons (x_var (pe_var (i := 3) rfl (.inl rfl))) (xs_cons (x_var (pe_var (i := 5) rfl (.inl rfl))) (xs_cons (x_tup (by decide) (xs_cons (x_var (pe_var (i := 6) rfl (.inl rfl))) (xs_cons (x_var (pe_var (i := 7) rfl (.inl rfl))) (xs_cons (x_slc (x_var (pe_var (i := 8) rfl (.inl rfl))) (o_some x_int) o_none) xs_nil (by rfl)) (by rfl)) (by rfl))) xs_nil (by rfl)) (by rfl)) (by rfl)) (by decide) (by rfl) (by rfl)) (xs_cons (x_callL sg_36 36 o L rfl rfl rfl (xs_cons (x_var (pe_var (i := 4) rfl (.inl rfl))) (xs_cons (x_sub (x_sub (x_var (pe_var (i := 8) rfl (.inl rfl))) x_int (fun _ _ => rfl)) x_int (fun _ _ => rfl)) (xs_cons (x_sub (x_sub (x_var (pe_var (i := 8) rfl (.inl rfl))) x_int (fun _ _ => rfl)) x_int (fun _ _ => rfl)) xs_nil (by rfl)) (by rfl)) (by rfl)) (by decide) (by rfl) (by rfl)) xs_nil (by rfl)) (by rfl)))) ss_nil) ss_nil) ?_
  refine ss_cons (s_set (i := 9) (XOk.nd o) rfl (.inl rfl) (.inl rfl) (x_sub (x_sub (x_var (pe_var (i := 0) rfl (.inl rfl))) (x_var (pe_var (i := 5) rfl (.inl rfl))) (fun _ _ => rfl)) (x_var (pe_var (i := 6) rfl (.inl rfl))) (fun _ _ => rfl)) (by rfl)) ?_
  refine ss_cons (s_par2 (i := 10) (j := 11) (XOk.calm o) (XOk.nd o) rfl rfl (by decide) rfl rfl (xs_cons (x_sub (x_var (pe_var (i := 9) rfl (.inl rfl))) x_int (fun _ _ => rfl)) (xs_cons (x_bin (o := .add) (x_var (pe_var (i := 6) rfl (.inl rfl))) x_int) xs_nil (by rfl)) (by rfl)) (by rfl) (by rfl)) ?_
  refine ss_cons (s_if (x_cmpT (o := .eq) (XOk.hu o) rfl (x_var (pe_var (i := 10) rfl (.inl rfl))) (x_str (by decide +kernel)) (by rfl)) (ss_cons (s_set (i := 7) (XOk.nd o) rfl (.inl rfl) (.inl rfl) (x_callL sg_36 36 o L rfl rfl rfl (xs_cons (x_var (pe_var (i := 7) rfl (.inl rfl))) (xs_cons (x_sub (x_var (pe_var (i := 9) rfl (.inl rfl))) x_int (fun _ _ => rfl)) (xs_cons (x_sub (x_var (pe_var (i := 9) rfl (.inl rfl))) x_int (fun _ _ => rfl)) xs_nil (by rfl)) (by rfl)) (by rfl)) (by decide) (by rfl) (by rfl)) (by rfl)) ss_nil) (ss_cons (s_if (x_cmpT (o := .in_) (XOk.hu o) rfl (x_var (pe_var (i := 10) rfl (.inl rfl))) (x_tup (by decide) (xs_cons (x_str (by decide +kernel)) (xs_cons (x_str (by decide +kernel)) (xs_cons (x_str (by decide +kernel)) (xs_cons (x_str (by decide +kernel)) (xs_cons (x_str (by decide +kernel)) xs_nil (by rfl)) (by rfl)) (by rfl)) (by rfl)) (by rfl))) (by rfl)) (ss_cons (s_set (i := 7) (XOk.nd o) rfl (.inl rfl) (.inl rfl) (x_callL sg_36 36 o L rfl rfl rfl (xs_cons (x_var (pe_var (i := 7) rfl (.inl rfl))) (xs_cons (x_sub (x_var (pe_var (i := 9) rfl (.inl rfl))) x_int (fun _ _ => rfl)) (xs_cons (x_callL sg_37 37 o L rfl rfl rfl (xs_cons (x_var (pe_var (i := 10) rfl (.inl rfl))) (xs_cons (x_sub (x_var (pe_var (i := 7) rfl (.inl rfl))) (x_sub (x_var (pe_var (i := 9) rfl (.inl rfl))) x_int (fun _ _ => rfl)) (fun _ _ => rfl)) (xs_cons (x_sub (x_var (pe_var (i := 7) rfl (.inl rfl))) (x_sub (x_var (pe_var (i := 9) rfl (.inl rfl))) x_int (fun _ _ => rfl)) (fun _ _ => rfl)) xs_nil (by rfl)) (by rfl)) (by rfl)) (by decide) (by rfl) (by rfl)) xs_nil (by rfl)) (by rfl)) (by rfl)) (by decide) (by rfl) (by rfl)) (by rfl)) ss_nil) (ss_cons (s_if (x_cmpT (o := .eq) (XOk.hu o) rfl (x_var (pe_var (i := 10) rfl (.inl rfl))) (x_str (by decide +kernel)) (by rfl)) (ss_cons (s_set (i := 12) (XOk.nd o) rfl (.inr rfl) (.inl rfl) (x_bin (o := .mod) (x_bI F o 1 rfl rfl (x_bin (o := .add) (x_sub (x_var (pe_var (i := 7) rfl (.inl rfl))) (x_sub (x_var (pe_var (i := 9) rfl (.inl rfl))) x_int (fun _ _ => rfl)) (fun _ _ => rfl)) (x_sub (x_var (pe_var (i := 9) rfl (.inl rfl))) x_int (fun _ _ => rfl))) (by rfl)) (x_len F o 5 rfl rfl (x_var (pe_var (i := 4) rfl (.inl rfl))) (by rfl))) (by rfl)) (ss_cons (s_set (i := 7) (XOk.nd o) rfl (.inl rfl) (.inl rfl) (x_callL sg_36 36 o L rfl rfl rfl (xs_cons (x_var (pe_var (i := 7) rfl (.inl rfl))) (xs_cons (x_sub (x_var (pe_var (i := 9) rfl (.inl rfl))) x_int (fun _ _ => rfl)) (xs_cons (x_sub (x_frz (n_add (x_frz (n_lst (by decide) (xs_cons (x_sub (x_var (pe_var (i := 4) rfl (.inl rfl))) (x_var (pe_var (i := 12) rfl (.inr (.inl rfl)))) (fun _ _ => rfl)) xs_nil (by rfl)))) (x_frz (n_comp (own := [("own", 15), ("word", 13)]) (XOk.calm o) (XOk.nd o) (i_seq (x_var (pe_var (i := 8) rfl (.inl rfl)))) (blkOk_by (by rfl)) (fun s0 H0 D0 cl0 fp0 => (g_tup (is := [15, 13]) (XOk.nd (XOk.blk o s0 H0 _ _ fp0)) (XOk.calm (XOk.blk o s0 H0 _ _ fp0)) (.cons (i := 15) rfl (.inl rfl) (.inr rfl) (.cons (i := 13) rfl (.inl rfl) (.inr rfl) .nil (by rfl)) (by rfl)) (by rfl) (by rfl))) (fun s0 H0 D0 cl0 fp0 => (tt_some (x_cmpT (o := .eq) (XOk.hu (XOk.blk o s0 H0 _ _ fp0)) rfl (x_var (pe_var (i := 15) rfl (.inl rfl))) (x_var (pe_var (i := 12) rfl (.inr (.inl rfl)))) (by rfl)))) (fun s0 H0 D0 cl0 fp0 => (x_var (pe_var (i := 13) rfl (.inl rfl)))) (fun _ => rfl) (by decide))))) (x_neg x_int) (fun _ _ => rfl)) xs_nil (by rfl)) (by rfl)) (by rfl)) (by decide) (by rfl) (by rfl)) (by rfl)) ss_nil)) (ss_cons (s_if (x_cmpT (o := .eq) (XOk.hu o) rfl (x_var (pe_var (i := 10) rfl (.inl rfl))) (x_str (by decide +kernel)) (by rfl)) (ss_cons (s_set (i := 8) (XOk.nd o) rfl (.inl rfl) (.inl rfl) (x_bin (o := .add) (x_var (pe_var (i := 8) rfl (.inl rfl))) (x_tup (by decide) (xs_cons (x_tup (by decide) (xs_cons (x_bin (o := .mod) (x_bI F o 1 rfl rfl (x_bin (o := .add) (x_sub (x_var (pe_var (i := 7) rfl (.inl rfl))) (x_sub (x_var (pe_var (i := 9) rfl (.inl rfl))) x_int (fun _ _ => rfl)) (fun _ _ => rfl)) (x_sub (x_var (pe_var (i := 9) rfl (.inl rfl))) x_int (fun _ _ => rfl))) (by rfl)) (x_len F o 5 rfl rfl (x_var (pe_var (i := 4) rfl (.inl rfl))) (by rfl))) (xs_cons (x_sub (x_var (pe_var (i := 7) rfl (.inl rfl))) (x_sub (x_var (pe_var (i := 9) rfl (.inl rfl))) x_int (fun _ _ => rfl)) (fun _ _ => rfl)) xs_nil (by rfl)) (by rfl))) xs_nil (by rfl)))) (by rfl)) ss_nil) (ss_cons (s_if (x_cmpT (o := .in_) (XOk.hu o) rfl (x_var (pe_var (i := 10) rfl (.inl rfl))) (x_tup (by decide) (xs_cons (x_str (by decide +kernel)) (xs_cons (x_str (by decide +kernel)) xs_nil (by rfl)) (by rfl))) (by rfl)) (ss_cons (s_set (i := 12) (XOk.nd o) rfl (.inr rfl) (.inl rfl) (x_bin (o := .mod) (x_bI F o 1 rfl rfl (x_bin (o := .add) (x_sub (x_var (pe_var (i := 7) rfl (.inl rfl))) (x_sub (x_var (pe_var (i := 9) rfl (.inl rfl))) x_int (fun _ _ => rfl)) (fun _ _ => rfl)) (x_sub (x_var (pe_var (i := 9) rfl (.inl rfl))) x_int (fun _ _ => rfl))) (by rfl)) (x_len F o 5 rfl rfl (x_var (pe_var (i := 4) rfl (.inl rfl))) (by rfl))) (by rfl)) (ss_cons (s_par2 (i := 13) (j := 14) (XOk.calm o) (XOk.nd o) rfl rfl (by decide) rfl rfl (xs_cons (x_sub (x_var (pe_var (i := 7) rfl (.inl rfl))) (x_sub (x_var (pe_var (i := 9) rfl (.inl rfl))) x_int (fun _ _ => rfl)) (fun _ _ => rfl)) (xs_cons (x_sub (x_var (pe_var (i := 4) rfl (.inl rfl))) (x_var (pe_var (i := 12) rfl (.inr (.inl rfl)))) (fun _ _ => rfl)) xs_nil (by rfl)) (by rfl)) (by rfl) (by rfl)) (ss_cons (s_set (i := 4) (XOk.nd o) rfl (.inl rfl) (.inl rfl) (x_callL sg_36 36 o L rfl rfl rfl (xs_cons (x_var (pe_var (i := 4) rfl (.inl rfl))) (xs_cons (x_var (pe_var (i := 12) rfl (.inr (.inl rfl)))) (xs_cons (x_ite (x_cmpT (o := .eq) (XOk.hu o) rfl (x_var (pe_var (i := 10) rfl (.inl rfl))) (x_str (by decide +kernel)) (by rfl)) (x_var (pe_var (i := 13) rfl (.inl rfl))) (x_bin (o := .mod) (x_bI F o 1 rfl rfl (x_bin (o := .add) (x_var (pe_var (i := 14) rfl (.inl rfl))) (x_var (pe_var (i := 13) rfl (.inl rfl)))) (by rfl)) x_int)) xs_nil (by rfl)) (by rfl)) (by rfl)) (by decide) (by rfl) (by rfl)) (by rfl)) (ss_cons (s_set (i := 7) (XOk.nd o) rfl (.inl rfl) (.inl rfl) (x_callL sg_36 36 o L rfl rfl rfl (xs_cons (x_var (pe_var (i := 7) rfl (.inl rfl))) (xs_cons (x_sub (x_var (pe_var (i := 9) rfl (.inl rfl))) x_int (fun _ _ => rfl)) (xs_cons (x_var (pe_var (i := 14) rfl (.inl rfl))) xs_nil (by rfl)) (by rfl)) (by rfl)) (by decide) (by rfl) (by rfl)) (by rfl)) ss_nil)))) (ss_cons (s_if (x_cmpT (o := .eq) (XOk.hu o) rfl (x_var (pe_var (i := 10) rfl (.inl rfl))) (x_str (by decide +kernel)) (by rfl)) (ss_cons (s_set (i := 11) (XOk.nd o) rfl (.inl rfl) (.inl rfl) (x_sub (x_var (pe_var (i := 9) rfl (.inl rfl))) x_int (fun _ _ => rfl)) (by rfl)) ss_nil) (ss_cons (s_if (PW.pt (x_andT (x_cmpT (o := .eq) (XOk.hu o) rfl (x_var (pe_var (i := 10) rfl (.inl rfl))) (x_str (by decide +kernel)) (by rfl)) (x_and1T (x_cmpT (o := .eq) (XOk.hu o) rfl (x_sub (x_var (pe_var (i := 7) rfl (.inl rfl))) (x_sub (x_var (pe_var (i := 9) rfl (.inl rfl))) x_int (fun _ _ => rfl)) (fun _ _ => rfl)) x_int (by rfl))))) (ss_cons (s_set (i := 11) (XOk.nd o) rfl (.inl rfl) (.inl rfl) (x_sub (x_var (pe_var (i := 9) rfl (.inl rfl))) x_int (fun _ _ => rfl)) (by rfl)) ss_nil) ss_nil) ss_nil)) ss_nil)) ss_nil)) ss_nil)) ss_nil)) ss_nil)) ?_
  refine ss_cons (s_ret (x_tup (by decide) (xs_cons (x_callL sg_36 36 o L rfl rfl rfl (xs_cons (x_var (pe_var (i := 3) rfl (.inl rfl))) (xs_cons (x_var (pe_var (i := 5) rfl (.inl rfl))) (xs_cons (x_tup (by decide) (xs_cons (x_var (pe_var (i := 11) rfl (.inl rfl))) (xs_cons (x_var (pe_var (i := 7) rfl (.inl rfl))) (xs_cons (x_var (pe_var (i := 8) rfl (.inl rfl))) xs_nil (by rfl)) (by rfl)) (by rfl))) xs_nil (by rfl)) (by rfl)) (by rfl)) (by decide) (by rfl) (by rfl)) (xs_cons (x_var (pe_var (i := 4) rfl (.inl rfl))) xs_nil (by rfl)) (by rfl)))) ?_
  exact ss_nil
theorem b_40 (F : Facts mg K w fr cs ts) (EFx : EF P K mg ct er G.base) : Body P w K mg base ct sig PT fa fv 40 sg_40 := by
  refine ⟨["book", "memory", "rows"], F_40, rfl, rfl, rfl, by decide, ⟨rfl, rfl, rfl, by decide +kernel, rfl, by decide +kernel, by decide +kernel⟩, fun k n L f cdv A outer s H Er o => ?_⟩
  refine ss_cons (s_ret (x_tup (by decide) (xs_cons (x_bT F o 4 rfl rfl (x_frz (n_comp (own := [("rows", 2)]) (XOk.calm o) (XOk.nd o) (i_seq (x_var (pe_var (i := 0) rfl (.inl rfl)))) (blkOk_by (by rfl)) (fun s0 H0 D0 cl0 fp0 => (g_name (i := 2) (XOk.nd (XOk.blk o s0 H0 _ _ fp0)) rfl (.inl rfl) (.inr rfl))) (fun s0 H0 D0 cl0 fp0 => tt_none) (fun s0 H0 D0 cl0 fp0 => (x_tup (by decide) (xs_cons x_int (xs_cons (x_bin (o := .mul) (x_tup (by decide) (xs_cons x_int xs_nil (by rfl))) x_int) (xs_cons (x_tup (by decide) xs_nil) xs_nil (by rfl)) (by rfl)) (by rfl)))) (fun _ => rfl) (by decide))) (by rfl)) (xs_cons (x_var (pe_var (i := 1) rfl (.inl rfl))) xs_nil (by rfl)) (by rfl)))) ?_
  exact ss_nil
theorem b_41 (F : Facts mg K w fr cs ts) (EFx : EF P K mg ct er G.base) : Body P w K mg base ct sig PT fa fv 41 sg_41 := by
  refine ⟨["deck", "many", "words", "way", "r", "b", "a", "k"], F_41, rfl, rfl, rfl, by decide, ⟨rfl, rfl, rfl, by decide +kernel, rfl, by decide +kernel, by decide +kernel⟩, fun k n L f cdv A outer s H Er o => ?_⟩
  refine ss_cons (s_asgT (is := [3, 4, 5, 6]) (XOk.nd o) (XOk.calm o) (.cons (i := 3) rfl (.inl rfl) (.inl rfl) (.cons (i := 4) rfl (.inl rfl) (.inl rfl) (.cons (i := 5) rfl (.inl rfl) (.inl rfl) (.cons (i := 6) rfl (.inl rfl) (.inl rfl) .nil (by rfl)) (by rfl)) (by rfl)) (by rfl)) (by rfl) (by rfl) (x_tup (by decide) (xs_cons (x_callL sg_35 35 o L rfl rfl rfl (xs_cons (x_var (pe_var (i := 0) rfl (.inl rfl))) (xs_cons x_int xs_nil (by rfl)) (by rfl)) (by decide) (by rfl) (by rfl)) (xs_cons (x_callL sg_35 35 o L rfl rfl rfl (xs_cons (x_var (pe_var (i := 0) rfl (.inl rfl))) (xs_cons x_int xs_nil (by rfl)) (by rfl)) (by decide) (by rfl) (by rfl)) (xs_cons (x_callL sg_35 35 o L rfl rfl rfl (xs_cons (x_var (pe_var (i := 0) rfl (.inl rfl))) (xs_cons x_int xs_nil (by rfl)) (by rfl)) (by decide) (by rfl) (by rfl)) (xs_cons (x_sub (x_frz (n_lst (by decide) (xs_cons x_int (xs_cons x_int (xs_cons x_int (xs_cons x_int xs_nil (by rfl)) (by rfl)) (by rfl)) (by rfl)))) (x_callL sg_35 35 o L rfl rfl rfl (xs_cons (x_var (pe_var (i := 0) rfl (.inl rfl))) (xs_cons x_int xs_nil (by rfl)) (by rfl)) (by decide) (by rfl) (by rfl)) (fun _ _ => rfl)) xs_nil (by rfl)) (by rfl)) (by rfl)) (by rfl))) (by rfl) (by rfl) (by rfl)) ?_
  refine ss_cons (s_set (i := 7) (XOk.nd o) rfl (.inl rfl) (.inl rfl) (x_sub (x_frz (n_lst (by decide) (xs_cons x_int (xs_cons x_int (xs_cons x_int (xs_cons x_int (xs_cons (x_sub (x_var (pe_var (i := 2) rfl (.inl rfl))) (x_callL sg_35 35 o L rfl rfl rfl (xs_cons (x_var (pe_var (i := 0) rfl (.inl rfl))) (xs_cons (x_len F o 5 rfl rfl (x_var (pe_var (i := 2) rfl (.inl rfl))) (by rfl)) xs_nil (by rfl)) (by rfl)) (by decide) (by rfl) (by rfl)) (fun _ _ => rfl)) xs_nil (by rfl)) (by rfl)) (by rfl)) (by rfl)) (by rfl)))) (x_callL sg_35 35 o L rfl rfl rfl (xs_cons (x_var (pe_var (i := 0) rfl (.inl rfl))) (xs_cons x_int xs_nil (by rfl)) (by rfl)) (by decide) (by rfl) (by rfl)) (fun _ _ => rfl)) (by rfl)) ?_
  refine ss_cons (s_if (x_cmpT (o := .lt) (XOk.hu o) rfl (x_var (pe_var (i := 3) rfl (.inl rfl))) x_int (by rfl)) (ss_cons (s_ret (x_tup (by decide) (xs_cons (x_str (by decide +kernel)) (xs_cons (x_var (pe_var (i := 4) rfl (.inl rfl))) (xs_cons (x_sub (x_frz (n_lst (by decide) (xs_cons x_int (xs_cons x_int (xs_cons x_int (xs_cons x_int (xs_cons x_int xs_nil (by rfl)) (by rfl)) (by rfl)) (by rfl)) (by rfl)))) (x_callL sg_35 35 o L rfl rfl rfl (xs_cons (x_var (pe_var (i := 0) rfl (.inl rfl))) (xs_cons x_int xs_nil (by rfl)) (by rfl)) (by decide) (by rfl) (by rfl)) (fun _ _ => rfl)) xs_nil (by rfl)) (by rfl)) (by rfl)))) ss_nil) ss_nil) ?_
  refine ss_cons (s_if (x_cmpT (o := .lt) (XOk.hu o) rfl (x_var (pe_var (i := 3) rfl (.inl rfl))) x_int (by rfl)) (ss_cons (s_ret (x_tup (by decide) (xs_cons (x_sub (x_frz (n_lst (by decide) (xs_cons (x_str (by decide +kernel)) (xs_cons (x_str (by decide +kernel)) (xs_cons (x_str (by decide +kernel)) (xs_cons (x_str (by decide +kernel)) (xs_cons (x_str (by decide +kernel)) xs_nil (by rfl)) (by rfl)) (by rfl)) (by rfl)) (by rfl)))) (x_callL sg_35 35 o L rfl rfl rfl (xs_cons (x_var (pe_var (i := 0) rfl (.inl rfl))) (xs_cons x_int xs_nil (by rfl)) (by rfl)) (by decide) (by rfl) (by rfl)) (fun _ _ => rfl)) (xs_cons (x_var (pe_var (i := 4) rfl (.inl rfl))) (xs_cons (x_var (pe_var (i := 5) rfl (.inl rfl))) (xs_cons (x_callL sg_35 35 o L rfl rfl rfl (xs_cons (x_var (pe_var (i := 0) rfl (.inl rfl))) (xs_cons x_int xs_nil (by rfl)) (by rfl)) (by decide) (by rfl) (by rfl)) xs_nil (by rfl)) (by rfl)) (by rfl)) (by rfl)))) ss_nil) ss_nil) ?_
  refine ss_cons (s_if (x_cmpT (o := .lt) (XOk.hu o) rfl (x_var (pe_var (i := 3) rfl (.inl rfl))) x_int (by rfl)) (ss_cons (s_ret (x_tup (by decide) (xs_cons (x_str (by decide +kernel)) (xs_cons (x_var (pe_var (i := 4) rfl (.inl rfl))) (xs_cons (x_var (pe_var (i := 6) rfl (.inl rfl))) (xs_cons (x_var (pe_var (i := 7) rfl (.inl rfl))) xs_nil (by rfl)) (by rfl)) (by rfl)) (by rfl)))) ss_nil) ss_nil) ?_
  refine ss_cons (s_if (x_cmpT (o := .lt) (XOk.hu o) rfl (x_var (pe_var (i := 3) rfl (.inl rfl))) x_int (by rfl)) (ss_cons (s_ret (x_tup (by decide) (xs_cons (x_str (by decide +kernel)) (xs_cons (x_var (pe_var (i := 5) rfl (.inl rfl))) (xs_cons (x_var (pe_var (i := 6) rfl (.inl rfl))) (xs_cons (x_var (pe_var (i := 7) rfl (.inl rfl))) xs_nil (by rfl)) (by rfl)) (by rfl)) (by rfl)))) ss_nil) ss_nil) ?_
  refine ss_cons (s_if (x_cmpT (o := .eq) (XOk.hu o) rfl (x_var (pe_var (i := 3) rfl (.inl rfl))) x_int (by rfl)) (ss_cons (s_ret (x_tup (by decide) (xs_cons (x_sub (x_frz (n_lst (by decide) (xs_cons (x_str (by decide +kernel)) (xs_cons (x_str (by decide +kernel)) xs_nil (by rfl)) (by rfl)))) (x_callL sg_35 35 o L rfl rfl rfl (xs_cons (x_var (pe_var (i := 0) rfl (.inl rfl))) (xs_cons x_int xs_nil (by rfl)) (by rfl)) (by decide) (by rfl) (by rfl)) (fun _ _ => rfl)) (xs_cons (x_var (pe_var (i := 4) rfl (.inl rfl))) (xs_cons (x_var (pe_var (i := 5) rfl (.inl rfl))) (xs_cons (x_var (pe_var (i := 6) rfl (.inl rfl))) (xs_cons (x_var (pe_var (i := 7) rfl (.inl rfl))) xs_nil (by rfl)) (by rfl)) (by rfl)) (by rfl)) (by rfl)))) ss_nil) ss_nil) ?_
  refine ss_cons (s_if (x_cmpT (o := .eq) (XOk.hu o) rfl (x_var (pe_var (i := 3) rfl (.inl rfl))) x_int (by rfl)) (ss_cons (s_ret (x_sub (x_frz (n_lst (by decide) (xs_cons (x_tup (by decide) (xs_cons (x_str (by decide +kernel)) xs_nil (by rfl))) (xs_cons (x_tup (by decide) (xs_cons (x_str (by decide +kernel)) xs_nil (by rfl))) xs_nil (by rfl)) (by rfl)))) (x_callL sg_35 35 o L rfl rfl rfl (xs_cons (x_var (pe_var (i := 0) rfl (.inl rfl))) (xs_cons x_int xs_nil (by rfl)) (by rfl)) (by decide) (by rfl) (by rfl)) (fun _ _ => rfl))) ss_nil) ss_nil) ?_
  refine ss_cons (s_if (x_cmpT (o := .eq) (XOk.hu o) rfl (x_var (pe_var (i := 3) rfl (.inl rfl))) x_int (by rfl)) (ss_cons (s_ret (x_tup (by decide) (xs_cons (x_str (by decide +kernel)) (xs_cons (x_var (pe_var (i := 4) rfl (.inl rfl))) (xs_cons (x_callL sg_35 35 o L rfl rfl rfl (xs_cons (x_var (pe_var (i := 0) rfl (.inl rfl))) (xs_cons (x_bin (o := .add) (x_var (pe_var (i := 1) rfl (.inl rfl))) x_int) xs_nil (by rfl)) (by rfl)) (by decide) (by rfl) (by rfl)) xs_nil (by rfl)) (by rfl)) (by rfl)))) ss_nil) ss_nil) ?_
  refine ss_cons (s_ret (x_sub (x_frz (n_lst (by decide) (xs_cons (x_tup (by decide) (xs_cons (x_str (by decide +kernel)) (xs_cons (x_callL sg_35 35 o L rfl rfl rfl (xs_cons (x_var (pe_var (i := 0) rfl (.inl rfl))) (xs_cons (x_bin (o := .add) (x_var (pe_var (i := 1) rfl (.inl rfl))) x_int) xs_nil (by rfl)) (by rfl)) (by decide) (by rfl) (by rfl)) xs_nil (by rfl)) (by rfl))) (xs_cons (x_tup (by decide) (xs_cons (x_str (by decide +kernel)) xs_nil (by rfl))) (xs_cons (x_tup (by decide) (xs_cons (x_str (by decide +kernel)) (xs_cons (x_var (pe_var (i := 5) rfl (.inl rfl))) (xs_cons (x_var (pe_var (i := 6) rfl (.inl rfl))) (xs_cons (x_var (pe_var (i := 7) rfl (.inl rfl))) xs_nil (by rfl)) (by rfl)) (by rfl)) (by rfl))) (xs_cons (x_tup (by decide) (xs_cons (x_str (by decide +kernel)) (xs_cons (x_var (pe_var (i := 4) rfl (.inl rfl))) (xs_cons (x_var (pe_var (i := 6) rfl (.inl rfl))) (xs_cons (x_var (pe_var (i := 7) rfl (.inl rfl))) xs_nil (by rfl)) (by rfl)) (by rfl)) (by rfl))) xs_nil (by rfl)) (by rfl)) (by rfl)) (by rfl)))) (x_callL sg_35 35 o L rfl rfl rfl (xs_cons (x_var (pe_var (i := 0) rfl (.inl rfl))) (xs_cons x_int xs_nil (by rfl)) (by rfl)) (by decide) (by rfl) (by rfl)) (fun _ _ => rfl))) ?_
  exact ss_nil
theorem b_42 (F : Facts mg K w fr cs ts) (EFx : EF P K mg ct er G.base) : Body P w K mg base ct sig PT fa fv 42 sg_42 := by
  refine ⟨["deck", "cores", "most", "book", "c", "many", "k"], F_42, rfl, rfl, rfl, by decide, ⟨rfl, rfl, rfl, by decide +kernel, rfl, by decide +kernel, by decide +kernel⟩, fun k n L f cdv A outer s H Er o => ?_⟩
  refine ss_cons (s_set (i := 3) (XOk.nd o) rfl (.inl rfl) (.inl rfl) (x_thw (n_lst (by decide) xs_nil)) (by rfl)) ?_
  refine ss_cons (s_for ownsM (XOk.calm o) (i_range1 rfl (F.fre 9 _ rfl) (x_bin (o := .add) x_int (x_callL sg_35 35 o L rfl rfl rfl (xs_cons (x_var (pe_var (i := 0) rfl (.inr (.inl rfl)))) (xs_cons (x_var (pe_var (i := 1) rfl (.inl rfl))) xs_nil (by rfl)) (by rfl)) (by decide) (by rfl) (by rfl))) (by rfl)) (g_name (i := 4) (XOk.nd o) rfl (.inl rfl) (.inl rfl)) (ss_cons (s_set (i := 5) (XOk.nd o) rfl (.inr rfl) (.inl rfl) (x_callL sg_35 35 o L rfl rfl rfl (xs_cons (x_var (pe_var (i := 0) rfl (.inr (.inl rfl)))) (xs_cons (x_bin (o := .add) (x_var (pe_var (i := 2) rfl (.inl rfl))) x_int) xs_nil (by rfl)) (by rfl)) (by decide) (by rfl) (by rfl)) (by rfl)) (ss_cons (s_app (x_var (pe_var (i := 3) rfl (.inl rfl))) (x_bT F o 4 rfl rfl (x_frz (n_comp (own := [("k", 6)]) (XOk.calm o) (XOk.nd o) (i_range1 rfl (F.fre 9 _ rfl) (x_var (pe_var (i := 5) rfl (.inr (.inl rfl)))) (by rfl)) (blkOk_by (by rfl)) (fun s0 H0 D0 cl0 fp0 => (g_name (i := 6) (XOk.nd (XOk.blk o s0 H0 _ _ fp0)) rfl (.inl rfl) (.inr rfl))) (fun s0 H0 D0 cl0 fp0 => tt_none) (fun s0 H0 D0 cl0 fp0 => (x_callL sg_41 41 (XOk.blk o s0 H0 _ _ fp0) L rfl rfl rfl (xs_cons (x_var (pe_var (i := 0) rfl (.inr (.inl rfl)))) (xs_cons (x_var (pe_var (i := 5) rfl (.inr (.inl rfl)))) (xs_cons (x_frz (n_lst (by decide) (xs_cons x_int (xs_cons x_int (xs_cons x_int (xs_cons x_int xs_nil (by rfl)) (by rfl)) (by rfl)) (by rfl)))) xs_nil (by rfl)) (by rfl)) (by rfl)) (by decide) (by rfl) (by rfl))) (fun _ => rfl) (by decide))) (by rfl)) (by rfl) (by rfl) (by rfl) (by rfl) (by rfl)) ss_nil)) (fun _ => rfl)) ?_
  refine ss_cons (s_ret (x_bT F o 4 rfl rfl (x_var (pe_var (i := 3) rfl (.inl rfl))) (by rfl))) ?_
  exact ss_nil
theorem b_43 (F : Facts mg K w fr cs ts) (EFx : EF P K mg ct er G.base) : Body P w K mg base ct sig PT fa fv 43 sg_43 := by
  refine ⟨["deck", "cells", "cell"], F_43, rfl, rfl, rfl, by decide, ⟨rfl, rfl, rfl, by decide +kernel, rfl, by decide +kernel, by decide +kernel⟩, fun k n L f cdv A outer s H Er o => ?_⟩
  refine ss_cons (s_ret (x_bT F o 4 rfl rfl (x_frz (n_comp (own := [("cell", 2)]) (XOk.calm o) (XOk.nd o) (i_range1 rfl (F.fre 9 _ rfl) (x_var (pe_var (i := 1) rfl (.inl rfl))) (by rfl)) (blkOk_by (by rfl)) (fun s0 H0 D0 cl0 fp0 => (g_name (i := 2) (XOk.nd (XOk.blk o s0 H0 _ _ fp0)) rfl (.inl rfl) (.inr rfl))) (fun s0 H0 D0 cl0 fp0 => tt_none) (fun s0 H0 D0 cl0 fp0 => (x_sub (x_frz (n_lst (by decide) (xs_cons x_int (xs_cons x_int (xs_cons x_int (xs_cons x_int (xs_cons x_int xs_nil (by rfl)) (by rfl)) (by rfl)) (by rfl)) (by rfl)))) (x_callL sg_35 35 (XOk.blk o s0 H0 _ _ fp0) L rfl rfl rfl (xs_cons (x_var (pe_var (i := 0) rfl (.inr (.inl rfl)))) (xs_cons x_int xs_nil (by rfl)) (by rfl)) (by decide) (by rfl) (by rfl)) (fun _ _ => rfl))) (fun _ => rfl) (by decide))) (by rfl))) ?_
  exact ss_nil
theorem b_44 (F : Facts mg K w fr cs ts) (EFx : EF P K mg ct er G.base) : Body P w K mg base ct sig PT fa fv 44 sg_44 := by
  refine ⟨["book", "memory", "cores", "caught", "e"], F_44, rfl, rfl, rfl, by decide, ⟨rfl, rfl, rfl, by decide +kernel, rfl, by decide +kernel, by decide +kernel⟩, fun k n L f cdv A outer s H Er o => ?_⟩
  refine ss_cons (s_set (i := 3) (XOk.nd o) rfl (.inl rfl) (.inl rfl) x_non (by rfl)) ?_
  refine ss_cons (s_tryF EFx (i := 4) o rfl rfl rfl rfl rfl (by decide) (fun W pn xe o2 => (b_cons (b_expr (x_callL sg_33 33 o2 L rfl rfl rfl (xs_cons (x_var (pe_var (i := 0) rfl (.inl rfl))) (xs_cons (x_var (pe_var (i := 1) rfl (.inl rfl))) (xs_cons (x_var (pe_var (i := 2) rfl (.inl rfl))) xs_nil (by rfl)) (by rfl)) (by rfl)) (by decide) (by rfl) (by rfl)) (by rfl)) b_nil)) (fun a oe c dd pn hc hz hf => (ss_cons (s_set (i := 3) (have q := XOk.nd o; q) rfl (.inl rfl) (.inl rfl) (x_tup (by decide) (xs_cons (x_frz (n_lst (by decide) (xs_cons (x_xisF EFx F hc hz hf 0 0 rfl rfl rfl rfl (by decide) (x_var (pe_var (i := 4) rfl (.inl rfl))) (by rfl) (by rfl)) (xs_cons (x_xisF EFx F hc hz hf 0 1 rfl rfl rfl rfl (by decide) (x_var (pe_var (i := 4) rfl (.inl rfl))) (by rfl) (by rfl)) (xs_cons (x_xisF EFx F hc hz hf 0 2 rfl rfl rfl rfl (by decide) (x_var (pe_var (i := 4) rfl (.inl rfl))) (by rfl) (by rfl)) xs_nil (by rfl)) (by rfl)) (by rfl)))) (xs_cons (x_reprH F o 10 rfl rfl (x_xvalF EFx hc hz hf (x_var (pe_var (i := 4) rfl (.inl rfl))) (by rfl)) (by rfl)) xs_nil (by rfl)) (by rfl))) (by rfl)) ss_nil))) ?_
  refine ss_cons (s_ret (x_var (pe_var (i := 3) rfl (.inl rfl)))) ?_
  exact ss_nil
theorem b_45 (F : Facts mg K w fr cs ts) (EFx : EF P K mg ct er G.base) : Body P w K mg base ct sig PT fa fv 45 sg_45 := by
  refine ⟨["deck", "book", "way", "turn", "many"], F_45, rfl, rfl, rfl, by decide, ⟨rfl, rfl, rfl, by decide +kernel, rfl, by decide +kernel, by decide +kernel⟩, fun k n L f cdv A outer s H Er o => ?_⟩
  refine ss_cons (s_set (i := 4) (XOk.nd o) rfl (.inl rfl) (.inl rfl) (x_len F o 5 rfl rfl (x_var (pe_var (i := 1) rfl (.inl rfl))) (by rfl)) (by rfl)) ?_
  refine ss_cons (s_ret (x_ite (x_cmpT (o := .eq) (XOk.hu o) rfl (x_var (pe_var (i := 2) rfl (.inl rfl))) x_int (by rfl)) (x_bin (o := .mod) (x_bI F o 1 rfl rfl (x_var (pe_var (i := 3) rfl (.inl rfl))) (by rfl)) (x_var (pe_var (i := 4) rfl (.inl rfl)))) (x_ite (x_cmpT (o := .eq) (XOk.hu o) rfl (x_var (pe_var (i := 2) rfl (.inl rfl))) x_int (by rfl)) (x_bin (o := .mod) (x_bin (o := .fdiv) (x_var (pe_var (i := 3) rfl (.inl rfl))) x_int) (x_var (pe_var (i := 4) rfl (.inl rfl)))) (x_callL sg_35 35 o L rfl rfl rfl (xs_cons (x_var (pe_var (i := 0) rfl (.inl rfl))) (xs_cons (x_var (pe_var (i := 4) rfl (.inl rfl))) xs_nil (by rfl)) (by rfl)) (by decide) (by rfl) (by rfl))))) ?_
  exact ss_nil
theorem b_46 (F : Facts mg K w fr cs ts) (EFx : EF P K mg ct er G.base) : Body P w K mg base ct sig PT fa fv 46 sg_46 := by
  refine ⟨["deck", "book", "memory", "most", "stand", "cores", "steps", "way", "turn", "left", "own", "c"], F_46, rfl, rfl, rfl, by decide, ⟨rfl, rfl, rfl, by decide +kernel, rfl, by decide +kernel, by decide +kernel⟩, fun k n L f cdv A outer s H Er o => ?_⟩
  refine ss_cons (s_asgT (is := [4, 5, 6, 7]) (XOk.nd o) (XOk.calm o) (.cons (i := 4) rfl (.inr rfl) (.inl rfl) (.cons (i := 5) rfl (.inl rfl) (.inl rfl) (.cons (i := 6) rfl (.inl rfl) (.inl rfl) (.cons (i := 7) rfl (.inl rfl) (.inl rfl) .nil (by rfl)) (by rfl)) (by rfl)) (by rfl)) (by rfl) (by rfl) (x_tup (by decide) (xs_cons (x_callL sg_40 40 o L rfl rfl rfl (xs_cons (x_var (pe_var (i := 1) rfl (.inr (.inl rfl)))) (xs_cons (x_var (pe_var (i := 2) rfl (.inl rfl))) xs_nil (by rfl)) (by rfl)) (by decide) (by rfl) (by rfl)) (xs_cons (x_frz (n_lst (by decide) xs_nil)) (xs_cons (x_frz (n_lst (by decide) xs_nil)) (xs_cons (x_callL sg_35 35 o L rfl rfl rfl (xs_cons (x_var (pe_var (i := 0) rfl (.inl rfl))) (xs_cons x_int xs_nil (by rfl)) (by rfl)) (by decide) (by rfl) (by rfl)) xs_nil (by rfl)) (by rfl)) (by rfl)) (by rfl))) (by rfl) (by rfl) (by rfl)) ?_
  refine ss_cons (s_for ownsM (XOk.calm o) (i_range1 rfl (F.fre 9 _ rfl) (x_var (pe_var (i := 3) rfl (.inl rfl))) (by rfl)) (g_name (i := 8) (XOk.nd o) rfl (.inl rfl) (.inl rfl)) (ss_cons (s_comp (own := [("c", 11)]) (XOk.calm o) (XOk.nd o) (m := 9) rfl rfl (by rfl) (i_range1 rfl (F.fre 9 _ rfl) (x_len F o 5 rfl rfl (x_var (pe_var (i := 1) rfl (.inr (.inl rfl)))) (by rfl)) (by rfl)) (blkOk_by (by rfl)) (fun s0 H0 D0 cl0 fp0 => (g_name (i := 11) (XOk.nd (XOk.blk o s0 H0 _ _ fp0)) rfl (.inl rfl) (.inr rfl))) (fun s0 H0 D0 cl0 fp0 => (tt_some (x_notT (x_tru (x_callL sg_38 38 (XOk.blk o s0 H0 _ _ fp0) L rfl rfl rfl (xs_cons (x_var (pe_var (i := 1) rfl (.inr (.inl rfl)))) (xs_cons (x_var (pe_var (i := 11) rfl (.inl rfl))) (xs_cons (x_sub (x_sub (x_sub (x_var (pe_var (i := 4) rfl (.inr (.inl rfl)))) x_int (fun _ _ => rfl)) (x_var (pe_var (i := 11) rfl (.inl rfl))) (fun _ _ => rfl)) x_int (fun _ _ => rfl)) xs_nil (by rfl)) (by rfl)) (by rfl)) (by decide) (by rfl) (by rfl)) (fun _ => rfl))))) (fun s0 H0 D0 cl0 fp0 => (x_var (pe_var (i := 11) rfl (.inl rfl)))) (fun _ => rfl) (by decide)) (ss_cons (s_if (x_cmpT (o := .eq) (XOk.hu o) rfl (x_var (pe_var (i := 9) rfl (.inl rfl))) (x_frz (n_lst (by decide) xs_nil)) (by rfl)) (ss_cons s_brk ss_nil) ss_nil) (ss_cons (s_set (i := 10) (XOk.nd o) rfl (.inl rfl) (.inl rfl) (x_callL sg_45 45 o L rfl rfl rfl (xs_cons (x_var (pe_var (i := 0) rfl (.inl rfl))) (xs_cons (x_var (pe_var (i := 1) rfl (.inr (.inl rfl)))) (xs_cons (x_var (pe_var (i := 7) rfl (.inl rfl))) (xs_cons (x_var (pe_var (i := 8) rfl (.inl rfl))) xs_nil (by rfl)) (by rfl)) (by rfl)) (by rfl)) (by decide) (by rfl) (by rfl)) (by rfl)) (ss_cons (s_set (i := 11) (XOk.nd o) rfl (.inl rfl) (.inl rfl) (x_ite (x_cmpT (o := .in_) (XOk.hu o) rfl (x_var (pe_var (i := 10) rfl (.inl rfl))) (x_var (pe_var (i := 9) rfl (.inl rfl))) (by rfl)) (x_var (pe_var (i := 10) rfl (.inl rfl))) (x_sub (x_var (pe_var (i := 9) rfl (.inl rfl))) x_int (fun _ _ => rfl))) (by rfl)) (ss_cons (s_asgT (is := [4, 5, 6]) (XOk.nd o) (XOk.calm o) (.cons (i := 4) rfl (.inr rfl) (.inl rfl) (.cons (i := 5) rfl (.inl rfl) (.inl rfl) (.cons (i := 6) rfl (.inl rfl) (.inl rfl) .nil (by rfl)) (by rfl)) (by rfl)) (by rfl) (by rfl) (x_tup (by decide) (xs_cons (x_callL sg_39 39 o L rfl rfl rfl (xs_cons (x_var (pe_var (i := 1) rfl (.inr (.inl rfl)))) (xs_cons (x_var (pe_var (i := 4) rfl (.inr (.inl rfl)))) (xs_cons (x_tup (by decide) (xs_cons (x_str (by decide +kernel)) (xs_cons (x_var (pe_var (i := 11) rfl (.inl rfl))) xs_nil (by rfl)) (by rfl))) xs_nil (by rfl)) (by rfl)) (by rfl)) (by decide) (by rfl) (by rfl)) (xs_cons (x_frz (n_add (x_var (pe_var (i := 5) rfl (.inl rfl))) (x_frz (n_lst (by decide) (xs_cons (x_var (pe_var (i := 11) rfl (.inl rfl))) xs_nil (by rfl)))))) (xs_cons (x_frz (n_add (x_var (pe_var (i := 6) rfl (.inl rfl))) (x_frz (n_lst (by decide) (xs_cons (x_tup (by decide) (xs_cons (x_str (by decide +kernel)) (xs_cons (x_var (pe_var (i := 11) rfl (.inl rfl))) xs_nil (by rfl)) (by rfl))) xs_nil (by rfl)))))) xs_nil (by rfl)) (by rfl)) (by rfl))) (by rfl) (by rfl) (by rfl)) (ss_cons (s_if (x_cmpT (o := .ne) (XOk.hu o) rfl (x_sub (x_sub (x_sub (x_var (pe_var (i := 4) rfl (.inr (.inl rfl)))) x_int (fun _ _ => rfl)) (x_var (pe_var (i := 11) rfl (.inl rfl))) (fun _ _ => rfl)) x_int (fun _ _ => rfl)) (x_tup (by decide) xs_nil) (by rfl)) (ss_cons (s_asgT (is := [4, 6]) (XOk.nd o) (XOk.calm o) (.cons (i := 4) rfl (.inr rfl) (.inl rfl) (.cons (i := 6) rfl (.inl rfl) (.inl rfl) .nil (by rfl)) (by rfl)) (by rfl) (by rfl) (x_tup (by decide) (xs_cons (x_callL sg_39 39 o L rfl rfl rfl (xs_cons (x_var (pe_var (i := 1) rfl (.inr (.inl rfl)))) (xs_cons (x_var (pe_var (i := 4) rfl (.inr (.inl rfl)))) (xs_cons (x_tup (by decide) (xs_cons (x_str (by decide +kernel)) (xs_cons (x_var (pe_var (i := 11) rfl (.inl rfl))) xs_nil (by rfl)) (by rfl))) xs_nil (by rfl)) (by rfl)) (by rfl)) (by decide) (by rfl) (by rfl)) (xs_cons (x_frz (n_add (x_var (pe_var (i := 6) rfl (.inl rfl))) (x_frz (n_lst (by decide) (xs_cons (x_tup (by decide) (xs_cons (x_str (by decide +kernel)) (xs_cons (x_var (pe_var (i := 11) rfl (.inl rfl))) xs_nil (by rfl)) (by rfl))) xs_nil (by rfl)))))) xs_nil (by rfl)) (by rfl))) (by rfl) (by rfl) (by rfl)) ss_nil) ss_nil) ss_nil)))))) (fun _ => rfl)) ?_
  refine ss_cons (s_ret (x_tup (by decide) (xs_cons (x_var (pe_var (i := 5) rfl (.inl rfl))) (xs_cons (x_var (pe_var (i := 6) rfl (.inl rfl))) (xs_cons (x_var (pe_var (i := 4) rfl (.inr (.inl rfl)))) xs_nil (by rfl)) (by rfl)) (by rfl)))) ?_
  exact ss_nil
theorem b_47 (F : Facts mg K w fr cs ts) (EFx : EF P K mg ct er G.base) : Body P w K mg base ct sig PT fa fv 47 sg_47 := by
  refine ⟨["deck", "book", "memory", "cores", "at", "stand", "still", "odd", "c"], F_47, rfl, rfl, rfl, by decide, ⟨rfl, rfl, rfl, by decide +kernel, rfl, by decide +kernel, by decide +kernel⟩, fun k n L f cdv A outer s H Er o => ?_⟩
  refine ss_cons (s_set (i := 4) (XOk.nd o) rfl (.inl rfl) (.inl rfl) (x_callL sg_35 35 o L rfl rfl rfl (xs_cons (x_var (pe_var (i := 0) rfl (.inl rfl))) (xs_cons (x_bin (o := .add) (x_len F o 5 rfl rfl (x_var (pe_var (i := 3) rfl (.inl rfl))) (by rfl)) x_int) xs_nil (by rfl)) (by rfl)) (by decide) (by rfl) (by rfl)) (by rfl)) ?_
  refine ss_cons (s_set (i := 5) (XOk.nd o) rfl (.inr rfl) (.inl rfl) (x_callL sg_48 48 o L rfl rfl rfl (xs_cons (x_var (pe_var (i := 1) rfl (.inr (.inl rfl)))) (xs_cons (x_var (pe_var (i := 2) rfl (.inl rfl))) (xs_cons (x_slc (x_var (pe_var (i := 3) rfl (.inl rfl))) o_none (o_some (x_var (pe_var (i := 4) rfl (.inl rfl))))) xs_nil (by rfl)) (by rfl)) (by rfl)) (by decide) (by rfl) (by rfl)) (by rfl)) ?_
  refine ss_cons (s_comp (own := [("c", 8)]) (XOk.calm o) (XOk.nd o) (m := 6) rfl rfl (by rfl) (i_range1 rfl (F.fre 9 _ rfl) (x_len F o 5 rfl rfl (x_var (pe_var (i := 1) rfl (.inr (.inl rfl)))) (by rfl)) (by rfl)) (blkOk_by (by rfl)) (fun s0 H0 D0 cl0 fp0 => (g_name (i := 8) (XOk.nd (XOk.blk o s0 H0 _ _ fp0)) rfl (.inl rfl) (.inr rfl))) (fun s0 H0 D0 cl0 fp0 => (tt_some (x_tru (x_callL sg_38 38 (XOk.blk o s0 H0 _ _ fp0) L rfl rfl rfl (xs_cons (x_var (pe_var (i := 1) rfl (.inr (.inl rfl)))) (xs_cons (x_var (pe_var (i := 8) rfl (.inl rfl))) (xs_cons (x_sub (x_sub (x_sub (x_var (pe_var (i := 5) rfl (.inr (.inl rfl)))) x_int (fun _ _ => rfl)) (x_var (pe_var (i := 8) rfl (.inl rfl))) (fun _ _ => rfl)) x_int (fun _ _ => rfl)) xs_nil (by rfl)) (by rfl)) (by rfl)) (by decide) (by rfl) (by rfl)) (fun _ => rfl)))) (fun s0 H0 D0 cl0 fp0 => (x_var (pe_var (i := 8) rfl (.inl rfl)))) (fun _ => rfl) (by decide)) ?_
  refine ss_cons (s_set (i := 7) (XOk.nd o) rfl (.inl rfl) (.inl rfl) (x_sub (x_frz (n_add (x_var (pe_var (i := 6) rfl (.inl rfl))) (x_frz (n_lst (by decide) (xs_cons (x_len F o 5 rfl rfl (x_var (pe_var (i := 1) rfl (.inr (.inl rfl)))) (by rfl)) (xs_cons (x_neg x_int) (xs_cons x_int (xs_cons (x_bin (o := .pow) x_int x_int) xs_nil (by rfl)) (by rfl)) (by rfl)) (by rfl)))))) (x_callL sg_35 35 o L rfl rfl rfl (xs_cons (x_var (pe_var (i := 0) rfl (.inl rfl))) (xs_cons (x_bin (o := .add) (x_len F o 5 rfl rfl (x_var (pe_var (i := 6) rfl (.inl rfl))) (by rfl)) x_int) xs_nil (by rfl)) (by rfl)) (by decide) (by rfl) (by rfl)) (fun _ _ => rfl)) (by rfl)) ?_
  refine ss_cons (s_ret (x_ite (PW.pt (x_orT (x_inRT true rfl (F.fre 9 _ rfl) (x_var (pe_var (i := 7) rfl (.inl rfl))) (x_len F o 5 rfl rfl (x_var (pe_var (i := 1) rfl (.inr (.inl rfl)))) (by rfl)) (by rfl) (by rfl)) (x_or1T (x_cmpT (o := .in_) (XOk.hu o) rfl (x_var (pe_var (i := 7) rfl (.inl rfl))) (x_var (pe_var (i := 6) rfl (.inl rfl))) (by rfl))))) (x_cmp (o := .eq) (XOk.hu o) rfl (x_callL sg_44 44 o L rfl rfl rfl (xs_cons (x_var (pe_var (i := 1) rfl (.inr (.inl rfl)))) (xs_cons (x_var (pe_var (i := 2) rfl (.inl rfl))) (xs_cons (x_frz (n_add (x_frz (n_add (x_slc (x_var (pe_var (i := 3) rfl (.inl rfl))) o_none (o_some (x_var (pe_var (i := 4) rfl (.inl rfl))))) (x_frz (n_lst (by decide) (xs_cons (x_var (pe_var (i := 7) rfl (.inl rfl))) (xs_cons (x_neg x_int) xs_nil (by rfl)) (by rfl)))))) (x_slc (x_var (pe_var (i := 3) rfl (.inl rfl))) (o_some (x_var (pe_var (i := 4) rfl (.inl rfl)))) o_none))) xs_nil (by rfl)) (by rfl)) (by rfl)) (by decide) (by rfl) (by rfl)) (x_tup (by decide) (xs_cons (x_frz (n_lst (by decide) (xs_cons x_bl (xs_cons x_bl (xs_cons x_bl xs_nil (by rfl)) (by rfl)) (by rfl)))) (xs_cons (x_bRepr F o 10 rfl rfl (x_var (pe_var (i := 7) rfl (.inl rfl))) (by rfl)) xs_nil (by rfl)) (by rfl))) (by rfl)) x_bl)) ?_
  exact ss_nil
theorem b_48 (F : Facts mg K w fr cs ts) (EFx : EF P K mg ct er G.base) : Body P w K mg base ct sig PT fa fv 48 sg_48 := by
  refine ⟨["book", "memory", "cores", "stand", "c"], F_48, rfl, rfl, rfl, by decide, ⟨rfl, rfl, rfl, by decide +kernel, rfl, by decide +kernel, by decide +kernel⟩, fun k n L f cdv A outer s H Er o => ?_⟩
  refine ss_cons (s_set (i := 3) (XOk.nd o) rfl (.inl rfl) (.inl rfl) (x_callL sg_40 40 o L rfl rfl rfl (xs_cons (x_var (pe_var (i := 0) rfl (.inl rfl))) (xs_cons (x_var (pe_var (i := 1) rfl (.inl rfl))) xs_nil (by rfl)) (by rfl)) (by decide) (by rfl) (by rfl)) (by rfl)) ?_
  refine ss_cons (s_for ownsM (XOk.calm o) (i_seq (x_var (pe_var (i := 2) rfl (.inl rfl)))) (g_name (i := 4) (XOk.nd o) rfl (.inl rfl) (.inl rfl)) (ss_cons (s_set (i := 3) (XOk.nd o) rfl (.inl rfl) (.inl rfl) (x_callL sg_39 39 o L rfl rfl rfl (xs_cons (x_var (pe_var (i := 0) rfl (.inl rfl))) (xs_cons (x_var (pe_var (i := 3) rfl (.inl rfl))) (xs_cons (x_tup (by decide) (xs_cons (x_str (by decide +kernel)) (xs_cons (x_var (pe_var (i := 4) rfl (.inl rfl))) xs_nil (by rfl)) (by rfl))) xs_nil (by rfl)) (by rfl)) (by rfl)) (by decide) (by rfl) (by rfl)) (by rfl)) (ss_cons (s_if (x_cmpT (o := .ne) (XOk.hu o) rfl (x_sub (x_sub (x_sub (x_var (pe_var (i := 3) rfl (.inl rfl))) x_int (fun _ _ => rfl)) (x_var (pe_var (i := 4) rfl (.inl rfl))) (fun _ _ => rfl)) x_int (fun _ _ => rfl)) (x_tup (by decide) xs_nil) (by rfl)) (ss_cons (s_set (i := 3) (XOk.nd o) rfl (.inl rfl) (.inl rfl) (x_callL sg_39 39 o L rfl rfl rfl (xs_cons (x_var (pe_var (i := 0) rfl (.inl rfl))) (xs_cons (x_var (pe_var (i := 3) rfl (.inl rfl))) (xs_cons (x_tup (by decide) (xs_cons (x_str (by decide +kernel)) (xs_cons (x_var (pe_var (i := 4) rfl (.inl rfl))) xs_nil (by rfl)) (by rfl))) xs_nil (by rfl)) (by rfl)) (by rfl)) (by decide) (by rfl) (by rfl)) (by rfl)) ss_nil) ss_nil) ss_nil)) (fun _ => rfl)) ?_
  refine ss_cons (s_ret (x_var (pe_var (i := 3) rfl (.inl rfl)))) ?_
  exact ss_nil
theorem b_49 (F : Facts mg K w fr cs ts) (EFx : EF P K mg ct er G.base) : Body P w K mg base ct sig PT fa fv 49 sg_49 := by
  refine ⟨["deck", "many", "rows"], F_49, rfl, rfl, rfl, by decide, ⟨rfl, rfl, rfl, by decide +kernel, rfl, by decide +kernel, by decide +kernel⟩, fun k n L f cdv A outer s H Er o => ?_⟩
  refine ss_cons (s_set (i := 1) (XOk.nd o) rfl (.inl rfl) (.inl rfl) (x_bin (o := .add) x_int (x_callL sg_35 35 o L rfl rfl rfl (xs_cons (x_var (pe_var (i := 0) rfl (.inl rfl))) (xs_cons x_int xs_nil (by rfl)) (by rfl)) (by decide) (by rfl) (by rfl))) (by rfl)) ?_
  refine ss_cons (s_set (i := 2) (XOk.nd o) rfl (.inl rfl) (.inl rfl) (x_tup (by decide) (xs_cons (x_tup (by decide) (xs_cons (x_str (by decide +kernel)) (xs_cons x_int (xs_cons (x_var (pe_var (i := 1) rfl (.inl rfl))) xs_nil (by rfl)) (by rfl)) (by rfl))) (xs_cons (x_tup (by decide) (xs_cons (x_str (by decide +kernel)) (xs_cons x_int (xs_cons x_int xs_nil (by rfl)) (by rfl)) (by rfl))) (xs_cons (x_tup (by decide) (xs_cons (x_str (by decide +kernel)) (xs_cons x_int (xs_cons x_int (xs_cons x_int (xs_cons x_int xs_nil (by rfl)) (by rfl)) (by rfl)) (by rfl)) (by rfl))) (xs_cons (x_tup (by decide) (xs_cons (x_str (by decide +kernel)) (xs_cons x_int (xs_cons x_int (xs_cons x_int xs_nil (by rfl)) (by rfl)) (by rfl)) (by rfl))) (xs_cons (x_tup (by decide) (xs_cons (x_str (by decide +kernel)) (xs_cons x_int (xs_cons x_int xs_nil (by rfl)) (by rfl)) (by rfl))) (xs_cons (x_tup (by decide) (xs_cons (x_str (by decide +kernel)) (xs_cons x_int xs_nil (by rfl)) (by rfl))) xs_nil (by rfl)) (by rfl)) (by rfl)) (by rfl)) (by rfl)) (by rfl))) (by rfl)) ?_
  refine ss_cons (s_ret (x_tup (by decide) (xs_cons (x_var (pe_var (i := 2) rfl (.inl rfl))) (xs_cons (x_var (pe_var (i := 1) rfl (.inl rfl))) xs_nil (by rfl)) (by rfl)))) ?_
  exact ss_nil
theorem b_50 (F : Facts mg K w fr cs ts) (EFx : EF P K mg ct er G.base) : Body P w K mg base ct sig PT fa fv 50 sg_50 := by
  refine ⟨["script", "deck", "turns", "turn", "book", "memory", "cores", "steps", "stand", "none", "one", "first", "other", "second", "told"], F_50, rfl, rfl, rfl, by decide, ⟨rfl, rfl, rfl, by decide +kernel, rfl, by decide +kernel, by decide +kernel⟩, fun k n L f cdv A outer s H Er o => ?_⟩
  refine ss_cons (s_par2 (i := 1) (j := 2) (XOk.calm o) (XOk.nd o) rfl rfl (by decide) rfl rfl (xs_cons (x_thw (n_callL sg_34 34 o L rfl rfl rfl (xs_cons (x_var (pe_var (i := 0) rfl (.inl rfl))) xs_nil (by rfl)) (by decide) (by rfl) (by rfl))) (xs_cons x_int xs_nil (by rfl)) (by rfl)) (by rfl) (by rfl)) ?_
  refine ss_cons (s_for ownsM (XOk.calm o) (i_range1 rfl (F.fre 9 _ rfl) x_int (by rfl)) (g_name (i := 3) (XOk.nd o) rfl (.inl rfl) (.inl rfl)) (ss_cons (s_par2 (i := 4) (j := 5) (XOk.calm o) (XOk.nd o) rfl rfl (by decide) rfl rfl (xs_cons (x_callL sg_42 42 o L rfl rfl rfl (xs_cons (x_var (pe_var (i := 1) rfl (.inl rfl))) (xs_cons x_int (xs_cons x_int xs_nil (by rfl)) (by rfl)) (by rfl)) (by decide) (by rfl) (by rfl)) (xs_cons (x_callL sg_43 43 o L rfl rfl rfl (xs_cons (x_var (pe_var (i := 1) rfl (.inl rfl))) (xs_cons (x_sub (x_frz (n_lst (by decide) (xs_cons x_int (xs_cons x_int (xs_cons x_int (xs_cons x_int (xs_cons x_int xs_nil (by rfl)) (by rfl)) (by rfl)) (by rfl)) (by rfl)))) (x_callL sg_35 35 o L rfl rfl rfl (xs_cons (x_var (pe_var (i := 1) rfl (.inl rfl))) (xs_cons x_int xs_nil (by rfl)) (by rfl)) (by decide) (by rfl) (by rfl)) (fun _ _ => rfl)) xs_nil (by rfl)) (by rfl)) (by decide) (by rfl) (by rfl)) xs_nil (by rfl)) (by rfl)) (by rfl) (by rfl)) (ss_cons (s_asgT (is := [6, 7, 8]) (XOk.nd o) (XOk.calm o) (.cons (i := 6) rfl (.inl rfl) (.inl rfl) (.cons (i := 7) rfl (.inl rfl) (.inl rfl) (.cons (i := 8) rfl (.inl rfl) (.inl rfl) .nil (by rfl)) (by rfl)) (by rfl)) (by rfl) (by rfl) (x_callL sg_46 46 o L rfl rfl rfl (xs_cons (x_var (pe_var (i := 1) rfl (.inl rfl))) (xs_cons (x_var (pe_var (i := 4) rfl (.inl rfl))) (xs_cons (x_var (pe_var (i := 5) rfl (.inl rfl))) (xs_cons x_int xs_nil (by rfl)) (by rfl)) (by rfl)) (by rfl)) (by decide) (by rfl) (by rfl)) (by rfl) (by rfl) (by rfl)) (ss_cons (s_if (x_cmpT (o := .ne) (XOk.hu o) rfl (x_bRepr F o 10 rfl rfl (x_frz (n_lst (by decide) (xs_cons (x_callL sg_33 33 o L rfl rfl rfl (xs_cons (x_var (pe_var (i := 4) rfl (.inl rfl))) (xs_cons (x_var (pe_var (i := 5) rfl (.inl rfl))) (xs_cons (x_var (pe_var (i := 6) rfl (.inl rfl))) xs_nil (by rfl)) (by rfl)) (by rfl)) (by decide) (by rfl) (by rfl)) (xs_cons (x_callKL0 sg_33 33 ["cores", "memory", "book"] [2, 1, 0] o L rfl rfl (fun _ _ _ _ _ _ us ws h1 h2 => match us, h1, ws, h2 with | [], _, [_, _, _], _ => rfl) rfl rfl (ks_cons (x_var (pe_var (i := 6) rfl (.inl rfl))) (ks_cons (x_var (pe_var (i := 5) rfl (.inl rfl))) (ks_cons (x_var (pe_var (i := 4) rfl (.inl rfl))) ks_nil))) (by rfl) (by rfl) (by decide) (by rfl)) xs_nil (by rfl)) (by rfl)))) (by rfl)) (x_bRepr F o 10 rfl rfl (x_frz (n_lst (by decide) (xs_cons (x_var (pe_var (i := 8) rfl (.inl rfl))) (xs_cons (x_var (pe_var (i := 8) rfl (.inl rfl))) xs_nil (by rfl)) (by rfl)))) (by rfl)) (by rfl)) (ss_cons (s_ret x_bl) ss_nil) ss_nil) (ss_cons (s_if (PW.pt (x_orT (x_cmpT (o := .ne) (XOk.hu o) rfl (x_bRepr F o 10 rfl rfl (x_callL sg_32 32 o L rfl rfl rfl (xs_cons (x_var (pe_var (i := 4) rfl (.inl rfl))) (xs_cons (x_var (pe_var (i := 5) rfl (.inl rfl))) (xs_cons (x_var (pe_var (i := 7) rfl (.inl rfl))) xs_nil (by rfl)) (by rfl)) (by rfl)) (by decide) (by rfl) (by rfl)) (by rfl)) (x_bRepr F o 10 rfl rfl (x_var (pe_var (i := 8) rfl (.inl rfl))) (by rfl)) (by rfl)) (x_or1T (x_notT (x_tru (x_callL sg_47 47 o L rfl rfl rfl (xs_cons (x_var (pe_var (i := 1) rfl (.inl rfl))) (xs_cons (x_var (pe_var (i := 4) rfl (.inl rfl))) (xs_cons (x_var (pe_var (i := 5) rfl (.inl rfl))) (xs_cons (x_var (pe_var (i := 6) rfl (.inl rfl))) xs_nil (by rfl)) (by rfl)) (by rfl)) (by rfl)) (by decide) (by rfl) (by rfl)) (fun _ => rfl)))))) (ss_cons (s_ret x_bl) ss_nil) ss_nil) (ss_cons (s_set (i := 9) (XOk.nd o) rfl (.inl rfl) (.inl rfl) (x_sub (x_frz (n_lst (by decide) (xs_cons x_non (xs_cons (x_frz (n_listF F 3 rfl rfl (x_var (pe_var (i := 5) rfl (.inl rfl))) (by rfl))) (xs_cons (x_tup (by decide) xs_nil) (xs_cons (x_bin (o := .add) (x_var (pe_var (i := 5) rfl (.inl rfl))) (x_tup (by decide) (xs_cons x_int xs_nil (by rfl)))) xs_nil (by rfl)) (by rfl)) (by rfl)) (by rfl)))) (x_callL sg_35 35 o L rfl rfl rfl (xs_cons (x_var (pe_var (i := 1) rfl (.inl rfl))) (xs_cons x_int xs_nil (by rfl)) (by rfl)) (by decide) (by rfl) (by rfl)) (fun _ _ => rfl)) (by rfl)) (ss_cons (s_if (PW.pt (x_orT (x_cmpT (o := .ne) (XOk.hu o) rfl (x_callL sg_44 44 o L rfl rfl rfl (xs_cons x_non (xs_cons (x_var (pe_var (i := 9) rfl (.inl rfl))) (xs_cons (x_frz (n_lst (by decide) (xs_cons x_int xs_nil (by rfl)))) xs_nil (by rfl)) (by rfl)) (by rfl)) (by decide) (by rfl) (by rfl)) (x_tup (by decide) (xs_cons (x_frz (n_lst (by decide) (xs_cons x_bl (xs_cons x_bl (xs_cons x_bl xs_nil (by rfl)) (by rfl)) (by rfl)))) (xs_cons (x_str (by decide +kernel)) xs_nil (by rfl)) (by rfl))) (by rfl)) (x_or1T (x_cmpT (o := .ne) (XOk.hu o) rfl (x_callL sg_44 44 o L rfl rfl rfl (xs_cons (x_var (pe_var (i := 4) rfl (.inl rfl))) (xs_cons (x_var (pe_var (i := 9) rfl (.inl rfl))) (xs_cons (x_frz (n_lst (by decide) (xs_cons x_int xs_nil (by rfl)))) xs_nil (by rfl)) (by rfl)) (by rfl)) (by decide) (by rfl) (by rfl)) (x_tup (by decide) (xs_cons (x_frz (n_lst (by decide) (xs_cons x_bl (xs_cons x_bl (xs_cons x_bl xs_nil (by rfl)) (by rfl)) (by rfl)))) (xs_cons (x_bRepr F o 10 rfl rfl (x_var (pe_var (i := 9) rfl (.inl rfl))) (by rfl)) xs_nil (by rfl)) (by rfl))) (by rfl))))) (ss_cons (s_ret x_bl) ss_nil) ss_nil) (ss_cons (s_set (i := 2) (XOk.nd o) rfl (.inl rfl) (.inl rfl) (x_bin (o := .add) (x_var (pe_var (i := 2) rfl (.inl rfl))) x_int) (by rfl)) ss_nil))))))) (fun _ => rfl)) ?_
  refine ss_cons (s_asgN (XOk.calm o) (gs_cons (g_tup (is := [10, 11]) (XOk.nd o) (XOk.calm o) (.cons (i := 10) rfl (.inl rfl) (.inl rfl) (.cons (i := 11) rfl (.inl rfl) (.inl rfl) .nil (by rfl)) (by rfl)) (by rfl) (by rfl)) (gs_cons (g_tup (is := [12, 13]) (XOk.nd o) (XOk.calm o) (.cons (i := 12) rfl (.inl rfl) (.inl rfl) (.cons (i := 13) rfl (.inl rfl) (.inl rfl) .nil (by rfl)) (by rfl)) (by rfl) (by rfl)) gs_nil (by rfl)) (by rfl)) (by rfl) (by rfl) (x_tup (by decide) (xs_cons (x_callL sg_49 49 o L rfl rfl rfl (xs_cons (x_var (pe_var (i := 1) rfl (.inl rfl))) xs_nil (by rfl)) (by decide) (by rfl) (by rfl)) (xs_cons (x_callL sg_49 49 o L rfl rfl rfl (xs_cons (x_var (pe_var (i := 1) rfl (.inl rfl))) xs_nil (by rfl)) (by decide) (by rfl) (by rfl)) xs_nil (by rfl)) (by rfl))) (by rfl) (by rfl) (by rfl)) ?_
  refine ss_cons (s_asgT (is := [6, 7, 8]) (XOk.nd o) (XOk.calm o) (.cons (i := 6) rfl (.inl rfl) (.inl rfl) (.cons (i := 7) rfl (.inl rfl) (.inl rfl) (.cons (i := 8) rfl (.inl rfl) (.inl rfl) .nil (by rfl)) (by rfl)) (by rfl)) (by rfl) (by rfl) (x_callL sg_46 46 o L rfl rfl rfl (xs_cons (x_var (pe_var (i := 1) rfl (.inl rfl))) (xs_cons (x_tup (by decide) (xs_cons (x_var (pe_var (i := 10) rfl (.inl rfl))) (xs_cons (x_var (pe_var (i := 12) rfl (.inl rfl))) xs_nil (by rfl)) (by rfl))) (xs_cons (x_tup (by decide) (xs_cons x_int (xs_cons x_int xs_nil (by rfl)) (by rfl))) (xs_cons x_int xs_nil (by rfl)) (by rfl)) (by rfl)) (by rfl)) (by decide) (by rfl) (by rfl)) (by rfl) (by rfl) (by rfl)) ?_
  refine ss_cons (s_set (i := 14) (XOk.nd o) rfl (.inl rfl) (.inl rfl) (x_callL sg_33 33 o L rfl rfl rfl (xs_cons (x_tup (by decide) (xs_cons (x_var (pe_var (i := 10) rfl (.inl rfl))) (xs_cons (x_var (pe_var (i := 12) rfl (.inl rfl))) xs_nil (by rfl)) (by rfl))) (xs_cons (x_tup (by decide) (xs_cons x_int (xs_cons x_int xs_nil (by rfl)) (by rfl))) (xs_cons (x_var (pe_var (i := 6) rfl (.inl rfl))) xs_nil (by rfl)) (by rfl)) (by rfl)) (by decide) (by rfl) (by rfl)) (by rfl)) ?_
  refine ss_cons (s_ret (x_and (x_cmp (o := .eq) (XOk.hu o) rfl (x_bRepr F o 10 rfl rfl (x_var (pe_var (i := 14) rfl (.inl rfl))) (by rfl)) (x_bRepr F o 10 rfl rfl (x_var (pe_var (i := 8) rfl (.inl rfl))) (by rfl)) (by rfl)) (x_and (x_cmp (o := .eq) (XOk.hu o) rfl (x_sub (x_var (pe_var (i := 14) rfl (.inl rfl))) x_int (fun _ _ => rfl)) (x_tup (by decide) (xs_cons (x_bin (o := .mod) (x_bI F o 1 rfl rfl (x_bin (o := .add) (x_bin (o := .add) x_int (x_var (pe_var (i := 11) rfl (.inl rfl)))) (x_var (pe_var (i := 13) rfl (.inl rfl)))) (by rfl)) x_int) (xs_cons x_int xs_nil (by rfl)) (by rfl))) (by rfl)) (x_and (x_cmp (o := .eq) (XOk.hu o) rfl (x_len F o 5 rfl rfl (x_var (pe_var (i := 6) rfl (.inl rfl))) (by rfl)) (x_bin (o := .sub) (x_bin (o := .add) (x_bin (o := .add) (x_bin (o := .sub) (x_bin (o := .add) x_int (x_bin (o := .mul) x_int (x_var (pe_var (i := 11) rfl (.inl rfl))))) x_int) x_int) (x_bin (o := .mul) x_int (x_var (pe_var (i := 13) rfl (.inl rfl))))) x_int) (by rfl)) (x_one (x_cmp (o := .eq) (XOk.hu o) rfl (x_var (pe_var (i := 2) rfl (.inl rfl))) x_int (by rfl))))))) ?_
  exact ss_nil
theorem bn_0 : ∀ (kV doc pm : Value) (an : Option Addr) (cdv cc : Value) (us : List Value), us.length = sg_0.2.1.length → bindArgs (PySem.W.fnOf sg_0.1 sg_0.1 (defArgs sg_0.2.2) (defBody sg_0.2.2) (defScope sg_0.2.2) .none kV doc pm an cdv cc) ⟨us, []⟩ = pure (sg_0.2.1.zip us) := fun _ _ _ _ _ _ us hl => match us, hl with | [_], _ => rfl
theorem bn_1 : ∀ (kV doc pm : Value) (an : Option Addr) (cdv cc : Value) (us : List Value), us.length = sg_1.2.1.length → bindArgs (PySem.W.fnOf sg_1.1 sg_1.1 (defArgs sg_1.2.2) (defBody sg_1.2.2) (defScope sg_1.2.2) .none kV doc pm an cdv cc) ⟨us, []⟩ = pure (sg_1.2.1.zip us) := fun _ _ _ _ _ _ us hl => match us, hl with | [_], _ => rfl
theorem bn_2 : ∀ (kV doc pm : Value) (an : Option Addr) (cdv cc : Value) (us : List Value), us.length = sg_2.2.1.length → bindArgs (PySem.W.fnOf sg_2.1 sg_2.1 (defArgs sg_2.2.2) (defBody sg_2.2.2) (defScope sg_2.2.2) .none kV doc pm an cdv cc) ⟨us, []⟩ = pure (sg_2.2.1.zip us) := fun _ _ _ _ _ _ us hl => match us, hl with | [_, _, _], _ => rfl
theorem bn_3 : ∀ (kV doc pm : Value) (an : Option Addr) (cdv cc : Value) (us : List Value), us.length = sg_3.2.1.length → bindArgs (PySem.W.fnOf sg_3.1 sg_3.1 (defArgs sg_3.2.2) (defBody sg_3.2.2) (defScope sg_3.2.2) .none kV doc pm an cdv cc) ⟨us, []⟩ = pure (sg_3.2.1.zip us) := fun _ _ _ _ _ _ us hl => match us, hl with | [_], _ => rfl
theorem bn_4 : ∀ (kV doc pm : Value) (an : Option Addr) (cdv cc : Value) (us : List Value), us.length = sg_4.2.1.length → bindArgs (PySem.W.fnOf sg_4.1 sg_4.1 (defArgs sg_4.2.2) (defBody sg_4.2.2) (defScope sg_4.2.2) .none kV doc pm an cdv cc) ⟨us, []⟩ = pure (sg_4.2.1.zip us) := fun _ _ _ _ _ _ us hl => match us, hl with | [_, _, _], _ => rfl
theorem bn_5 : ∀ (kV doc pm : Value) (an : Option Addr) (cdv cc : Value) (us : List Value), us.length = sg_5.2.1.length → bindArgs (PySem.W.fnOf sg_5.1 sg_5.1 (defArgs sg_5.2.2) (defBody sg_5.2.2) (defScope sg_5.2.2) .none kV doc pm an cdv cc) ⟨us, []⟩ = pure (sg_5.2.1.zip us) := fun _ _ _ _ _ _ us hl => match us, hl with | [_, _], _ => rfl
theorem bn_6 : ∀ (kV doc pm : Value) (an : Option Addr) (cdv cc : Value) (us : List Value), us.length = sg_6.2.1.length → bindArgs (PySem.W.fnOf sg_6.1 sg_6.1 (defArgs sg_6.2.2) (defBody sg_6.2.2) (defScope sg_6.2.2) .none kV doc pm an cdv cc) ⟨us, []⟩ = pure (sg_6.2.1.zip us) := fun _ _ _ _ _ _ us hl => match us, hl with | [_], _ => rfl
theorem bn_7 : ∀ (kV doc pm : Value) (an : Option Addr) (cdv cc : Value) (us : List Value), us.length = sg_7.2.1.length → bindArgs (PySem.W.fnOf sg_7.1 sg_7.1 (defArgs sg_7.2.2) (defBody sg_7.2.2) (defScope sg_7.2.2) .none kV doc pm an cdv cc) ⟨us, []⟩ = pure (sg_7.2.1.zip us) := fun _ _ _ _ _ _ us hl => match us, hl with | [_], _ => rfl
theorem bn_8 : ∀ (kV doc pm : Value) (an : Option Addr) (cdv cc : Value) (us : List Value), us.length = sg_8.2.1.length → bindArgs (PySem.W.fnOf sg_8.1 sg_8.1 (defArgs sg_8.2.2) (defBody sg_8.2.2) (defScope sg_8.2.2) .none kV doc pm an cdv cc) ⟨us, []⟩ = pure (sg_8.2.1.zip us) := fun _ _ _ _ _ _ us hl => match us, hl with | [_], _ => rfl
theorem bn_9 : ∀ (kV doc pm : Value) (an : Option Addr) (cdv cc : Value) (us : List Value), us.length = sg_9.2.1.length → bindArgs (PySem.W.fnOf sg_9.1 sg_9.1 (defArgs sg_9.2.2) (defBody sg_9.2.2) (defScope sg_9.2.2) .none kV doc pm an cdv cc) ⟨us, []⟩ = pure (sg_9.2.1.zip us) := fun _ _ _ _ _ _ us hl => match us, hl with | [_], _ => rfl
theorem bn_10 : ∀ (kV doc pm : Value) (an : Option Addr) (cdv cc : Value) (us : List Value), us.length = sg_10.2.1.length → bindArgs (PySem.W.fnOf sg_10.1 sg_10.1 (defArgs sg_10.2.2) (defBody sg_10.2.2) (defScope sg_10.2.2) .none kV doc pm an cdv cc) ⟨us, []⟩ = pure (sg_10.2.1.zip us) := fun _ _ _ _ _ _ us hl => match us, hl with | [_, _], _ => rfl
theorem bn_11 : ∀ (kV doc pm : Value) (an : Option Addr) (cdv cc : Value) (us : List Value), us.length = sg_11.2.1.length → bindArgs (PySem.W.fnOf sg_11.1 sg_11.1 (defArgs sg_11.2.2) (defBody sg_11.2.2) (defScope sg_11.2.2) .none kV doc pm an cdv cc) ⟨us, []⟩ = pure (sg_11.2.1.zip us) := fun _ _ _ _ _ _ us hl => match us, hl with | [_], _ => rfl
theorem bn_12 : ∀ (kV doc pm : Value) (an : Option Addr) (cdv cc : Value) (us : List Value), us.length = sg_12.2.1.length → bindArgs (PySem.W.fnOf sg_12.1 sg_12.1 (defArgs sg_12.2.2) (defBody sg_12.2.2) (defScope sg_12.2.2) .none kV doc pm an cdv cc) ⟨us, []⟩ = pure (sg_12.2.1.zip us) := fun _ _ _ _ _ _ us hl => match us, hl with | [_], _ => rfl
theorem bn_13 : ∀ (kV doc pm : Value) (an : Option Addr) (cdv cc : Value) (us : List Value), us.length = sg_13.2.1.length → bindArgs (PySem.W.fnOf sg_13.1 sg_13.1 (defArgs sg_13.2.2) (defBody sg_13.2.2) (defScope sg_13.2.2) .none kV doc pm an cdv cc) ⟨us, []⟩ = pure (sg_13.2.1.zip us) := fun _ _ _ _ _ _ us hl => match us, hl with | [_, _], _ => rfl
theorem bn_14 : ∀ (kV doc pm : Value) (an : Option Addr) (cdv cc : Value) (us : List Value), us.length = sg_14.2.1.length → bindArgs (PySem.W.fnOf sg_14.1 sg_14.1 (defArgs sg_14.2.2) (defBody sg_14.2.2) (defScope sg_14.2.2) .none kV doc pm an cdv cc) ⟨us, []⟩ = pure (sg_14.2.1.zip us) := fun _ _ _ _ _ _ us hl => match us, hl with | [_, _, _], _ => rfl
theorem bn_15 : ∀ (kV doc pm : Value) (an : Option Addr) (cdv cc : Value) (us : List Value), us.length = sg_15.2.1.length → bindArgs (PySem.W.fnOf sg_15.1 sg_15.1 (defArgs sg_15.2.2) (defBody sg_15.2.2) (defScope sg_15.2.2) .none kV doc pm an cdv cc) ⟨us, []⟩ = pure (sg_15.2.1.zip us) := fun _ _ _ _ _ _ us hl => match us, hl with | [_, _, _], _ => rfl
theorem bn_16 : ∀ (kV doc pm : Value) (an : Option Addr) (cdv cc : Value) (us : List Value), us.length = sg_16.2.1.length → bindArgs (PySem.W.fnOf sg_16.1 sg_16.1 (defArgs sg_16.2.2) (defBody sg_16.2.2) (defScope sg_16.2.2) .none kV doc pm an cdv cc) ⟨us, []⟩ = pure (sg_16.2.1.zip us) := fun _ _ _ _ _ _ us hl => match us, hl with | [_, _, _], _ => rfl
theorem bn_17 : ∀ (kV doc pm : Value) (an : Option Addr) (cdv cc : Value) (us : List Value), us.length = sg_17.2.1.length → bindArgs (PySem.W.fnOf sg_17.1 sg_17.1 (defArgs sg_17.2.2) (defBody sg_17.2.2) (defScope sg_17.2.2) .none kV doc pm an cdv cc) ⟨us, []⟩ = pure (sg_17.2.1.zip us) := fun _ _ _ _ _ _ us hl => match us, hl with | [_, _, _], _ => rfl
theorem bn_18 : ∀ (kV doc pm : Value) (an : Option Addr) (cdv cc : Value) (us : List Value), us.length = sg_18.2.1.length → bindArgs (PySem.W.fnOf sg_18.1 sg_18.1 (defArgs sg_18.2.2) (defBody sg_18.2.2) (defScope sg_18.2.2) .none kV doc pm an cdv cc) ⟨us, []⟩ = pure (sg_18.2.1.zip us) := fun _ _ _ _ _ _ us hl => match us, hl with | [_, _, _], _ => rfl
theorem bn_19 : ∀ (kV doc pm : Value) (an : Option Addr) (cdv cc : Value) (us : List Value), us.length = sg_19.2.1.length → bindArgs (PySem.W.fnOf sg_19.1 sg_19.1 (defArgs sg_19.2.2) (defBody sg_19.2.2) (defScope sg_19.2.2) .none kV doc pm an cdv cc) ⟨us, []⟩ = pure (sg_19.2.1.zip us) := fun _ _ _ _ _ _ us hl => match us, hl with | [_, _], _ => rfl
theorem bn_20 : ∀ (kV doc pm : Value) (an : Option Addr) (cdv cc : Value) (us : List Value), us.length = sg_20.2.1.length → bindArgs (PySem.W.fnOf sg_20.1 sg_20.1 (defArgs sg_20.2.2) (defBody sg_20.2.2) (defScope sg_20.2.2) .none kV doc pm an cdv cc) ⟨us, []⟩ = pure (sg_20.2.1.zip us) := fun _ _ _ _ _ _ us hl => match us, hl with | [_, _, _], _ => rfl
theorem bn_21 : ∀ (kV doc pm : Value) (an : Option Addr) (cdv cc : Value) (us : List Value), us.length = sg_21.2.1.length → bindArgs (PySem.W.fnOf sg_21.1 sg_21.1 (defArgs sg_21.2.2) (defBody sg_21.2.2) (defScope sg_21.2.2) .none kV doc pm an cdv cc) ⟨us, []⟩ = pure (sg_21.2.1.zip us) := fun _ _ _ _ _ _ us hl => match us, hl with | [_, _, _], _ => rfl
theorem bn_22 : ∀ (kV doc pm : Value) (an : Option Addr) (cdv cc : Value) (us : List Value), us.length = sg_22.2.1.length → bindArgs (PySem.W.fnOf sg_22.1 sg_22.1 (defArgs sg_22.2.2) (defBody sg_22.2.2) (defScope sg_22.2.2) .none kV doc pm an cdv cc) ⟨us, []⟩ = pure (sg_22.2.1.zip us) := fun _ _ _ _ _ _ us hl => match us, hl with | [_, _, _], _ => rfl
theorem bn_23 : ∀ (kV doc pm : Value) (an : Option Addr) (cdv cc : Value) (us : List Value), us.length = sg_23.2.1.length → bindArgs (PySem.W.fnOf sg_23.1 sg_23.1 (defArgs sg_23.2.2) (defBody sg_23.2.2) (defScope sg_23.2.2) .none kV doc pm an cdv cc) ⟨us, []⟩ = pure (sg_23.2.1.zip us) := fun _ _ _ _ _ _ us hl => match us, hl with | [_, _], _ => rfl
theorem bn_24 : ∀ (kV doc pm : Value) (an : Option Addr) (cdv cc : Value) (us : List Value), us.length = sg_24.2.1.length → bindArgs (PySem.W.fnOf sg_24.1 sg_24.1 (defArgs sg_24.2.2) (defBody sg_24.2.2) (defScope sg_24.2.2) .none kV doc pm an cdv cc) ⟨us, []⟩ = pure (sg_24.2.1.zip us) := fun _ _ _ _ _ _ us hl => match us, hl with | [_, _, _], _ => rfl
theorem bn_25 : ∀ (kV doc pm : Value) (an : Option Addr) (cdv cc : Value) (us : List Value), us.length = sg_25.2.1.length → bindArgs (PySem.W.fnOf sg_25.1 sg_25.1 (defArgs sg_25.2.2) (defBody sg_25.2.2) (defScope sg_25.2.2) .none kV doc pm an cdv cc) ⟨us, []⟩ = pure (sg_25.2.1.zip us) := fun _ _ _ _ _ _ us hl => match us, hl with | [_, _, _], _ => rfl
theorem bn_26 : ∀ (kV doc pm : Value) (an : Option Addr) (cdv cc : Value) (us : List Value), us.length = sg_26.2.1.length → bindArgs (PySem.W.fnOf sg_26.1 sg_26.1 (defArgs sg_26.2.2) (defBody sg_26.2.2) (defScope sg_26.2.2) .none kV doc pm an cdv cc) ⟨us, []⟩ = pure (sg_26.2.1.zip us) := fun _ _ _ _ _ _ us hl => match us, hl with | [_, _, _], _ => rfl
theorem bn_27 : ∀ (kV doc pm : Value) (an : Option Addr) (cdv cc : Value) (us : List Value), us.length = sg_27.2.1.length → bindArgs (PySem.W.fnOf sg_27.1 sg_27.1 (defArgs sg_27.2.2) (defBody sg_27.2.2) (defScope sg_27.2.2) .none kV doc pm an cdv cc) ⟨us, []⟩ = pure (sg_27.2.1.zip us) := fun _ _ _ _ _ _ us hl => match us, hl with | [_, _, _], _ => rfl
theorem bn_28 : ∀ (kV doc pm : Value) (an : Option Addr) (cdv cc : Value) (us : List Value), us.length = sg_28.2.1.length → bindArgs (PySem.W.fnOf sg_28.1 sg_28.1 (defArgs sg_28.2.2) (defBody sg_28.2.2) (defScope sg_28.2.2) .none kV doc pm an cdv cc) ⟨us, []⟩ = pure (sg_28.2.1.zip us) := fun _ _ _ _ _ _ us hl => match us, hl with | [_, _], _ => rfl
theorem bn_29 : ∀ (kV doc pm : Value) (an : Option Addr) (cdv cc : Value) (us : List Value), us.length = sg_29.2.1.length → bindArgs (PySem.W.fnOf sg_29.1 sg_29.1 (defArgs sg_29.2.2) (defBody sg_29.2.2) (defScope sg_29.2.2) .none kV doc pm an cdv cc) ⟨us, []⟩ = pure (sg_29.2.1.zip us) := fun _ _ _ _ _ _ us hl => match us, hl with | [_, _, _], _ => rfl
theorem bn_30 : ∀ (kV doc pm : Value) (an : Option Addr) (cdv cc : Value) (us : List Value), us.length = sg_30.2.1.length → bindArgs (PySem.W.fnOf sg_30.1 sg_30.1 (defArgs sg_30.2.2) (defBody sg_30.2.2) (defScope sg_30.2.2) .none kV doc pm an cdv cc) ⟨us, []⟩ = pure (sg_30.2.1.zip us) := fun _ _ _ _ _ _ us hl => match us, hl with | [_, _, _], _ => rfl
theorem bn_31 : ∀ (kV doc pm : Value) (an : Option Addr) (cdv cc : Value) (us : List Value), us.length = sg_31.2.1.length → bindArgs (PySem.W.fnOf sg_31.1 sg_31.1 (defArgs sg_31.2.2) (defBody sg_31.2.2) (defScope sg_31.2.2) .none kV doc pm an cdv cc) ⟨us, []⟩ = pure (sg_31.2.1.zip us) := fun _ _ _ _ _ _ us hl => match us, hl with | [_, _], _ => rfl
theorem bn_32 : ∀ (kV doc pm : Value) (an : Option Addr) (cdv cc : Value) (us : List Value), us.length = sg_32.2.1.length → bindArgs (PySem.W.fnOf sg_32.1 sg_32.1 (defArgs sg_32.2.2) (defBody sg_32.2.2) (defScope sg_32.2.2) .none kV doc pm an cdv cc) ⟨us, []⟩ = pure (sg_32.2.1.zip us) := fun _ _ _ _ _ _ us hl => match us, hl with | [_, _, _], _ => rfl
theorem bn_33 : ∀ (kV doc pm : Value) (an : Option Addr) (cdv cc : Value) (us : List Value), us.length = sg_33.2.1.length → bindArgs (PySem.W.fnOf sg_33.1 sg_33.1 (defArgs sg_33.2.2) (defBody sg_33.2.2) (defScope sg_33.2.2) .none kV doc pm an cdv cc) ⟨us, []⟩ = pure (sg_33.2.1.zip us) := fun _ _ _ _ _ _ us hl => match us, hl with | [_, _, _], _ => rfl
theorem bn_34 : ∀ (kV doc pm : Value) (an : Option Addr) (cdv cc : Value) (us : List Value), us.length = sg_34.2.1.length → bindArgs (PySem.W.fnOf sg_34.1 sg_34.1 (defArgs sg_34.2.2) (defBody sg_34.2.2) (defScope sg_34.2.2) .none kV doc pm an cdv cc) ⟨us, []⟩ = pure (sg_34.2.1.zip us) := fun _ _ _ _ _ _ us hl => match us, hl with | [_], _ => rfl
theorem bn_35 : ∀ (kV doc pm : Value) (an : Option Addr) (cdv cc : Value) (us : List Value), us.length = sg_35.2.1.length → bindArgs (PySem.W.fnOf sg_35.1 sg_35.1 (defArgs sg_35.2.2) (defBody sg_35.2.2) (defScope sg_35.2.2) .none kV doc pm an cdv cc) ⟨us, []⟩ = pure (sg_35.2.1.zip us) := fun _ _ _ _ _ _ us hl => match us, hl with | [_, _], _ => rfl
theorem bn_36 : ∀ (kV doc pm : Value) (an : Option Addr) (cdv cc : Value) (us : List Value), us.length = sg_36.2.1.length → bindArgs (PySem.W.fnOf sg_36.1 sg_36.1 (defArgs sg_36.2.2) (defBody sg_36.2.2) (defScope sg_36.2.2) .none kV doc pm an cdv cc) ⟨us, []⟩ = pure (sg_36.2.1.zip us) := fun _ _ _ _ _ _ us hl => match us, hl with | [_, _, _], _ => rfl
theorem bn_37 : ∀ (kV doc pm : Value) (an : Option Addr) (cdv cc : Value) (us : List Value), us.length = sg_37.2.1.length → bindArgs (PySem.W.fnOf sg_37.1 sg_37.1 (defArgs sg_37.2.2) (defBody sg_37.2.2) (defScope sg_37.2.2) .none kV doc pm an cdv cc) ⟨us, []⟩ = pure (sg_37.2.1.zip us) := fun _ _ _ _ _ _ us hl => match us, hl with | [_, _, _], _ => rfl
theorem bn_38 : ∀ (kV doc pm : Value) (an : Option Addr) (cdv cc : Value) (us : List Value), us.length = sg_38.2.1.length → bindArgs (PySem.W.fnOf sg_38.1 sg_38.1 (defArgs sg_38.2.2) (defBody sg_38.2.2) (defScope sg_38.2.2) .none kV doc pm an cdv cc) ⟨us, []⟩ = pure (sg_38.2.1.zip us) := fun _ _ _ _ _ _ us hl => match us, hl with | [_, _, _], _ => rfl
theorem bn_39 : ∀ (kV doc pm : Value) (an : Option Addr) (cdv cc : Value) (us : List Value), us.length = sg_39.2.1.length → bindArgs (PySem.W.fnOf sg_39.1 sg_39.1 (defArgs sg_39.2.2) (defBody sg_39.2.2) (defScope sg_39.2.2) .none kV doc pm an cdv cc) ⟨us, []⟩ = pure (sg_39.2.1.zip us) := fun _ _ _ _ _ _ us hl => match us, hl with | [_, _, _], _ => rfl
theorem bn_40 : ∀ (kV doc pm : Value) (an : Option Addr) (cdv cc : Value) (us : List Value), us.length = sg_40.2.1.length → bindArgs (PySem.W.fnOf sg_40.1 sg_40.1 (defArgs sg_40.2.2) (defBody sg_40.2.2) (defScope sg_40.2.2) .none kV doc pm an cdv cc) ⟨us, []⟩ = pure (sg_40.2.1.zip us) := fun _ _ _ _ _ _ us hl => match us, hl with | [_, _], _ => rfl
theorem bn_41 : ∀ (kV doc pm : Value) (an : Option Addr) (cdv cc : Value) (us : List Value), us.length = sg_41.2.1.length → bindArgs (PySem.W.fnOf sg_41.1 sg_41.1 (defArgs sg_41.2.2) (defBody sg_41.2.2) (defScope sg_41.2.2) .none kV doc pm an cdv cc) ⟨us, []⟩ = pure (sg_41.2.1.zip us) := fun _ _ _ _ _ _ us hl => match us, hl with | [_, _, _], _ => rfl
theorem bn_42 : ∀ (kV doc pm : Value) (an : Option Addr) (cdv cc : Value) (us : List Value), us.length = sg_42.2.1.length → bindArgs (PySem.W.fnOf sg_42.1 sg_42.1 (defArgs sg_42.2.2) (defBody sg_42.2.2) (defScope sg_42.2.2) .none kV doc pm an cdv cc) ⟨us, []⟩ = pure (sg_42.2.1.zip us) := fun _ _ _ _ _ _ us hl => match us, hl with | [_, _, _], _ => rfl
theorem bn_43 : ∀ (kV doc pm : Value) (an : Option Addr) (cdv cc : Value) (us : List Value), us.length = sg_43.2.1.length → bindArgs (PySem.W.fnOf sg_43.1 sg_43.1 (defArgs sg_43.2.2) (defBody sg_43.2.2) (defScope sg_43.2.2) .none kV doc pm an cdv cc) ⟨us, []⟩ = pure (sg_43.2.1.zip us) := fun _ _ _ _ _ _ us hl => match us, hl with | [_, _], _ => rfl
theorem bn_44 : ∀ (kV doc pm : Value) (an : Option Addr) (cdv cc : Value) (us : List Value), us.length = sg_44.2.1.length → bindArgs (PySem.W.fnOf sg_44.1 sg_44.1 (defArgs sg_44.2.2) (defBody sg_44.2.2) (defScope sg_44.2.2) .none kV doc pm an cdv cc) ⟨us, []⟩ = pure (sg_44.2.1.zip us) := fun _ _ _ _ _ _ us hl => match us, hl with | [_, _, _], _ => rfl
theorem bn_45 : ∀ (kV doc pm : Value) (an : Option Addr) (cdv cc : Value) (us : List Value), us.length = sg_45.2.1.length → bindArgs (PySem.W.fnOf sg_45.1 sg_45.1 (defArgs sg_45.2.2) (defBody sg_45.2.2) (defScope sg_45.2.2) .none kV doc pm an cdv cc) ⟨us, []⟩ = pure (sg_45.2.1.zip us) := fun _ _ _ _ _ _ us hl => match us, hl with | [_, _, _, _], _ => rfl
theorem bn_46 : ∀ (kV doc pm : Value) (an : Option Addr) (cdv cc : Value) (us : List Value), us.length = sg_46.2.1.length → bindArgs (PySem.W.fnOf sg_46.1 sg_46.1 (defArgs sg_46.2.2) (defBody sg_46.2.2) (defScope sg_46.2.2) .none kV doc pm an cdv cc) ⟨us, []⟩ = pure (sg_46.2.1.zip us) := fun _ _ _ _ _ _ us hl => match us, hl with | [_, _, _, _], _ => rfl
theorem bn_47 : ∀ (kV doc pm : Value) (an : Option Addr) (cdv cc : Value) (us : List Value), us.length = sg_47.2.1.length → bindArgs (PySem.W.fnOf sg_47.1 sg_47.1 (defArgs sg_47.2.2) (defBody sg_47.2.2) (defScope sg_47.2.2) .none kV doc pm an cdv cc) ⟨us, []⟩ = pure (sg_47.2.1.zip us) := fun _ _ _ _ _ _ us hl => match us, hl with | [_, _, _, _], _ => rfl
theorem bn_48 : ∀ (kV doc pm : Value) (an : Option Addr) (cdv cc : Value) (us : List Value), us.length = sg_48.2.1.length → bindArgs (PySem.W.fnOf sg_48.1 sg_48.1 (defArgs sg_48.2.2) (defBody sg_48.2.2) (defScope sg_48.2.2) .none kV doc pm an cdv cc) ⟨us, []⟩ = pure (sg_48.2.1.zip us) := fun _ _ _ _ _ _ us hl => match us, hl with | [_, _, _], _ => rfl
theorem bn_49 : ∀ (kV doc pm : Value) (an : Option Addr) (cdv cc : Value) (us : List Value), us.length = sg_49.2.1.length → bindArgs (PySem.W.fnOf sg_49.1 sg_49.1 (defArgs sg_49.2.2) (defBody sg_49.2.2) (defScope sg_49.2.2) .none kV doc pm an cdv cc) ⟨us, []⟩ = pure (sg_49.2.1.zip us) := fun _ _ _ _ _ _ us hl => match us, hl with | [_], _ => rfl
theorem bn_50 : ∀ (kV doc pm : Value) (an : Option Addr) (cdv cc : Value) (us : List Value), us.length = sg_50.2.1.length → bindArgs (PySem.W.fnOf sg_50.1 sg_50.1 (defArgs sg_50.2.2) (defBody sg_50.2.2) (defScope sg_50.2.2) .none kV doc pm an cdv cc) ⟨us, []⟩ = pure (sg_50.2.1.zip us) := fun _ _ _ _ _ _ us hl => match us, hl with | [_], _ => rfl
theorem bods (F : Facts mg K w fr cs ts) (EFx : EF P K mg ct er G.base) : Bods (Body P w K mg base ct sig PT fa fv) 0 sig := .cons (b_0 F EFx) (.cons (b_1 F EFx) (.cons (b_2 F EFx) (.cons (b_3 F EFx) (.cons (b_4 F EFx) (.cons (b_5 F EFx) (.cons (b_6 F EFx) (.cons (b_7 F EFx) (.cons (b_8 F EFx) (.cons (b_9 F EFx) (.cons (b_10 F EFx) (.cons (b_11 F EFx) (.cons (b_12 F EFx) (.cons (b_13 F EFx) (.cons (b_14 F EFx) (.cons (b_15 F EFx) (.cons (b_16 F EFx) (.cons (b_17 F EFx) (.cons (b_18 F EFx) (.cons (b_19 F EFx) (.cons (b_20 F EFx) (.cons (b_21 F EFx) (.cons (b_22 F EFx) (.cons (b_23 F EFx) (.cons (b_24 F EFx) (.cons (b_25 F EFx) (.cons (b_26 F EFx) (.cons (b_27 F EFx) (.cons (b_28 F EFx) (.cons (b_29 F EFx) (.cons (b_30 F EFx) (.cons (b_31 F EFx) (.cons (b_32 F EFx) (.cons (b_33 F EFx) (.cons (b_34 F EFx) (.cons (b_35 F EFx) (.cons (b_36 F EFx) (.cons (b_37 F EFx) (.cons (b_38 F EFx) (.cons (b_39 F EFx) (.cons (b_40 F EFx) (.cons (b_41 F EFx) (.cons (b_42 F EFx) (.cons (b_43 F EFx) (.cons (b_44 F EFx) (.cons (b_45 F EFx) (.cons (b_46 F EFx) (.cons (b_47 F EFx) (.cons (b_48 F EFx) (.cons (b_49 F EFx) (.cons (b_50 F EFx) (.nil _)))))))))))))))))))))))))))))))))))))))))))))))))))
theorem binds : Bods (fun _ g => ∀ (f : Addr) (fd : FuncData), FunD K g.1 g.1 (defArgs g.2.2) (defBody g.2.2) (defScope g.2.2) [] [] f fd → BindsN K fd g.2.1) 0 sig := .cons (fun _ _ q => bn_of q bn_0) (.cons (fun _ _ q => bn_of q bn_1) (.cons (fun _ _ q => bn_of q bn_2) (.cons (fun _ _ q => bn_of q bn_3) (.cons (fun _ _ q => bn_of q bn_4) (.cons (fun _ _ q => bn_of q bn_5) (.cons (fun _ _ q => bn_of q bn_6) (.cons (fun _ _ q => bn_of q bn_7) (.cons (fun _ _ q => bn_of q bn_8) (.cons (fun _ _ q => bn_of q bn_9) (.cons (fun _ _ q => bn_of q bn_10) (.cons (fun _ _ q => bn_of q bn_11) (.cons (fun _ _ q => bn_of q bn_12) (.cons (fun _ _ q => bn_of q bn_13) (.cons (fun _ _ q => bn_of q bn_14) (.cons (fun _ _ q => bn_of q bn_15) (.cons (fun _ _ q => bn_of q bn_16) (.cons (fun _ _ q => bn_of q bn_17) (.cons (fun _ _ q => bn_of q bn_18) (.cons (fun _ _ q => bn_of q bn_19) (.cons (fun _ _ q => bn_of q bn_20) (.cons (fun _ _ q => bn_of q bn_21) (.cons (fun _ _ q => bn_of q bn_22) (.cons (fun _ _ q => bn_of q bn_23) (.cons (fun _ _ q => bn_of q bn_24) (.cons (fun _ _ q => bn_of q bn_25) (.cons (fun _ _ q => bn_of q bn_26) (.cons (fun _ _ q => bn_of q bn_27) (.cons (fun _ _ q => bn_of q bn_28) (.cons (fun _ _ q => bn_of q bn_29) (.cons (fun _ _ q => bn_of q bn_30) (.cons (fun _ _ q => bn_of q bn_31) (.cons (fun _ _ q => bn_of q bn_32) (.cons (fun _ _ q => bn_of q bn_33) (.cons (fun _ _ q => bn_of q bn_34) (.cons (fun _ _ q => bn_of q bn_35) (.cons (fun _ _ q => bn_of q bn_36) (.cons (fun _ _ q => bn_of q bn_37) (.cons (fun _ _ q => bn_of q bn_38) (.cons (fun _ _ q => bn_of q bn_39) (.cons (fun _ _ q => bn_of q bn_40) (.cons (fun _ _ q => bn_of q bn_41) (.cons (fun _ _ q => bn_of q bn_42) (.cons (fun _ _ q => bn_of q bn_43) (.cons (fun _ _ q => bn_of q bn_44) (.cons (fun _ _ q => bn_of q bn_45) (.cons (fun _ _ q => bn_of q bn_46) (.cons (fun _ _ q => bn_of q bn_47) (.cons (fun _ _ q => bn_of q bn_48) (.cons (fun _ _ q => bn_of q bn_49) (.cons (fun _ _ q => bn_of q bn_50) (.nil _)))))))))))))))))))))))))))))))))))))))))))))))))))
end
end G
namespace G
open PySem MP
section
variable {n : Nat} {s : Stk} {x0 x1 x2 x3 x4 x5 x6 x7 x8 x9 : W}
theorem c_0 : callAt PT (n + 1) 0 [x0] s = kRun s.length (evSs (callAt PT n) F_0.body [some x0] s) := (call_at rfl).trans (run_eq rfl)
theorem c_1 : callAt PT (n + 1) 1 [x0] s = kRun s.length (evSs (callAt PT n) F_1.body [some x0, none] s) := (call_at rfl).trans (run_eq rfl)
theorem c_2 : callAt PT (n + 1) 2 [x0, x1, x2] s = kRun s.length (evSs (callAt PT n) F_2.body [some x0, some x1, some x2] s) := (call_at rfl).trans (run_eq rfl)
theorem c_3 : callAt PT (n + 1) 3 [x0] s = kRun s.length (evSs (callAt PT n) F_3.body [some x0] s) := (call_at rfl).trans (run_eq rfl)
theorem c_4 : callAt PT (n + 1) 4 [x0, x1, x2] s = kRun s.length (evSs (callAt PT n) F_4.body [some x0, some x1, some x2] s) := (call_at rfl).trans (run_eq rfl)
theorem c_5 : callAt PT (n + 1) 5 [x0, x1] s = kRun s.length (evSs (callAt PT n) F_5.body [some x0, some x1, none, none, none] s) := (call_at rfl).trans (run_eq rfl)
theorem c_6 : callAt PT (n + 1) 6 [x0] s = kRun s.length (evSs (callAt PT n) F_6.body [some x0, none] s) := (call_at rfl).trans (run_eq rfl)
theorem c_7 : callAt PT (n + 1) 7 [x0] s = kRun s.length (evSs (callAt PT n) F_7.body [some x0, none] s) := (call_at rfl).trans (run_eq rfl)
theorem c_8 : callAt PT (n + 1) 8 [x0] s = kRun s.length (evSs (callAt PT n) F_8.body [some x0, none] s) := (call_at rfl).trans (run_eq rfl)
theorem c_9 : callAt PT (n + 1) 9 [x0] s = kRun s.length (evSs (callAt PT n) F_9.body [some x0] s) := (call_at rfl).trans (run_eq rfl)
theorem c_10 : callAt PT (n + 1) 10 [x0, x1] s = kRun s.length (evSs (callAt PT n) F_10.body [some x0, some x1] s) := (call_at rfl).trans (run_eq rfl)
theorem c_11 : callAt PT (n + 1) 11 [x0] s = kRun s.length (evSs (callAt PT n) F_11.body [some x0, none] s) := (call_at rfl).trans (run_eq rfl)
theorem c_12 : callAt PT (n + 1) 12 [x0] s = kRun s.length (evSs (callAt PT n) F_12.body [some x0, none] s) := (call_at rfl).trans (run_eq rfl)
theorem c_13 : callAt PT (n + 1) 13 [x0, x1] s = kRun s.length (evSs (callAt PT n) F_13.body [some x0, some x1, none, none, none] s) := (call_at rfl).trans (run_eq rfl)
theorem c_14 : callAt PT (n + 1) 14 [x0, x1, x2] s = kRun s.length (evSs (callAt PT n) F_14.body [some x0, some x1, some x2] s) := (call_at rfl).trans (run_eq rfl)
theorem c_15 : callAt PT (n + 1) 15 [x0, x1, x2] s = kRun s.length (evSs (callAt PT n) F_15.body [some x0, some x1, some x2] s) := (call_at rfl).trans (run_eq rfl)
theorem c_16 : callAt PT (n + 1) 16 [x0, x1, x2] s = kRun s.length (evSs (callAt PT n) F_16.body [some x0, some x1, some x2] s) := (call_at rfl).trans (run_eq rfl)
theorem c_17 : callAt PT (n + 1) 17 [x0, x1, x2] s = kRun s.length (evSs (callAt PT n) F_17.body [some x0, some x1, some x2] s) := (call_at rfl).trans (run_eq rfl)
theorem c_18 : callAt PT (n + 1) 18 [x0, x1, x2] s = kRun s.length (evSs (callAt PT n) F_18.body [some x0, some x1, some x2] s) := (call_at rfl).trans (run_eq rfl)
theorem c_19 : callAt PT (n + 1) 19 [x0, x1] s = kRun s.length (evSs (callAt PT n) F_19.body [some x0, some x1, none] s) := (call_at rfl).trans (run_eq rfl)
theorem c_20 : callAt PT (n + 1) 20 [x0, x1, x2] s = kRun s.length (evSs (callAt PT n) F_20.body [some x0, some x1, some x2, none, none] s) := (call_at rfl).trans (run_eq rfl)
theorem c_21 : callAt PT (n + 1) 21 [x0, x1, x2] s = kRun s.length (evSs (callAt PT n) F_21.body [some x0, some x1, some x2] s) := (call_at rfl).trans (run_eq rfl)
theorem c_22 : callAt PT (n + 1) 22 [x0, x1, x2] s = kRun s.length (evSs (callAt PT n) F_22.body [some x0, some x1, some x2, none] s) := (call_at rfl).trans (run_eq rfl)
theorem c_23 : callAt PT (n + 1) 23 [x0, x1] s = kRun s.length (evSs (callAt PT n) F_23.body [some x0, some x1] s) := (call_at rfl).trans (run_eq rfl)
theorem c_24 : callAt PT (n + 1) 24 [x0, x1, x2] s = kRun s.length (evSs (callAt PT n) F_24.body [some x0, some x1, some x2] s) := (call_at rfl).trans (run_eq rfl)
theorem c_25 : callAt PT (n + 1) 25 [x0, x1, x2] s = kRun s.length (evSs (callAt PT n) F_25.body [some x0, some x1, some x2, none, none] s) := (call_at rfl).trans (run_eq rfl)
theorem c_26 : callAt PT (n + 1) 26 [x0, x1, x2] s = kRun s.length (evSs (callAt PT n) F_26.body [some x0, some x1, some x2, none, none, none, none, none, none, none, none, none, none] s) := (call_at rfl).trans (run_eq rfl)
theorem c_27 : callAt PT (n + 1) 27 [x0, x1, x2] s = kRun s.length (evSs (callAt PT n) F_27.body [some x0, some x1, some x2, none, none, none] s) := (call_at rfl).trans (run_eq rfl)
theorem c_28 : callAt PT (n + 1) 28 [x0, x1] s = kRun s.length (evSs (callAt PT n) F_28.body [some x0, some x1, none, none, none, none, none, none, none] s) := (call_at rfl).trans (run_eq rfl)
theorem c_29 : callAt PT (n + 1) 29 [x0, x1, x2] s = kRun s.length (evSs (callAt PT n) F_29.body [some x0, some x1, some x2] s) := (call_at rfl).trans (run_eq rfl)
theorem c_30 : callAt PT (n + 1) 30 [x0, x1, x2] s = kRun s.length (evSs (callAt PT n) F_30.body [some x0, some x1, some x2, none] s) := (call_at rfl).trans (run_eq rfl)
theorem c_31 : callAt PT (n + 1) 31 [x0, x1] s = kRun s.length (evSs (callAt PT n) F_31.body [some x0, some x1] s) := (call_at rfl).trans (run_eq rfl)
theorem c_32 : callAt PT (n + 1) 32 [x0, x1, x2] s = kRun s.length (evSs (callAt PT n) F_32.body [some x0, some x1, some x2, none, none] s) := (call_at rfl).trans (run_eq rfl)
theorem c_33 : callAt PT (n + 1) 33 [x0, x1, x2] s = kRun s.length (evSs (callAt PT n) F_33.body [some x0, some x1, some x2, none, none] s) := (call_at rfl).trans (run_eq rfl)
theorem c_34 : callAt PT (n + 1) 34 [x0] s = kRun s.length (evSs (callAt PT n) F_34.body [some x0] s) := (call_at rfl).trans (run_eq rfl)
theorem c_35 : callAt PT (n + 1) 35 [x0, x1] s = kRun s.length (evSs (callAt PT n) F_35.body [some x0, some x1, none, none, none, none, none] s) := (call_at rfl).trans (run_eq rfl)
theorem c_36 : callAt PT (n + 1) 36 [x0, x1, x2] s = kRun s.length (evSs (callAt PT n) F_36.body [some x0, some x1, some x2] s) := (call_at rfl).trans (run_eq rfl)
theorem c_37 : callAt PT (n + 1) 37 [x0, x1, x2] s = kRun s.length (evSs (callAt PT n) F_37.body [some x0, some x1, some x2] s) := (call_at rfl).trans (run_eq rfl)
theorem c_38 : callAt PT (n + 1) 38 [x0, x1, x2] s = kRun s.length (evSs (callAt PT n) F_38.body [some x0, some x1, some x2] s) := (call_at rfl).trans (run_eq rfl)
theorem c_39 : callAt PT (n + 1) 39 [x0, x1, x2] s = kRun s.length (evSs (callAt PT n) F_39.body [some x0, some x1, some x2, none, none, none, none, none, none, none, none, none, none, none, none, none] s) := (call_at rfl).trans (run_eq rfl)
theorem c_40 : callAt PT (n + 1) 40 [x0, x1] s = kRun s.length (evSs (callAt PT n) F_40.body [some x0, some x1, none] s) := (call_at rfl).trans (run_eq rfl)
theorem c_41 : callAt PT (n + 1) 41 [x0, x1, x2] s = kRun s.length (evSs (callAt PT n) F_41.body [some x0, some x1, some x2, none, none, none, none, none] s) := (call_at rfl).trans (run_eq rfl)
theorem c_42 : callAt PT (n + 1) 42 [x0, x1, x2] s = kRun s.length (evSs (callAt PT n) F_42.body [some x0, some x1, some x2, none, none, none, none] s) := (call_at rfl).trans (run_eq rfl)
theorem c_43 : callAt PT (n + 1) 43 [x0, x1] s = kRun s.length (evSs (callAt PT n) F_43.body [some x0, some x1, none] s) := (call_at rfl).trans (run_eq rfl)
theorem c_44 : callAt PT (n + 1) 44 [x0, x1, x2] s = kRun s.length (evSs (callAt PT n) F_44.body [some x0, some x1, some x2, none, none] s) := (call_at rfl).trans (run_eq rfl)
theorem c_45 : callAt PT (n + 1) 45 [x0, x1, x2, x3] s = kRun s.length (evSs (callAt PT n) F_45.body [some x0, some x1, some x2, some x3, none] s) := (call_at rfl).trans (run_eq rfl)
theorem c_46 : callAt PT (n + 1) 46 [x0, x1, x2, x3] s = kRun s.length (evSs (callAt PT n) F_46.body [some x0, some x1, some x2, some x3, none, none, none, none, none, none, none, none] s) := (call_at rfl).trans (run_eq rfl)
theorem c_47 : callAt PT (n + 1) 47 [x0, x1, x2, x3] s = kRun s.length (evSs (callAt PT n) F_47.body [some x0, some x1, some x2, some x3, none, none, none, none, none] s) := (call_at rfl).trans (run_eq rfl)
theorem c_48 : callAt PT (n + 1) 48 [x0, x1, x2] s = kRun s.length (evSs (callAt PT n) F_48.body [some x0, some x1, some x2, none, none] s) := (call_at rfl).trans (run_eq rfl)
theorem c_49 : callAt PT (n + 1) 49 [x0] s = kRun s.length (evSs (callAt PT n) F_49.body [some x0, none, none] s) := (call_at rfl).trans (run_eq rfl)
theorem c_50 : callAt PT (n + 1) 50 [x0] s = kRun s.length (evSs (callAt PT n) F_50.body [some x0, none, none, none, none, none, none, none, none, none, none, none, none, none, none] s) := (call_at rfl).trans (run_eq rfl)
end
end G
set_option maxRecDepth 100000
namespace G
open PySem MP
def isI : PyData → Bool
  | .int _ => true
  | _ => false
def within : PyData → Int → Int → Bool
  | .int i, lo, hi => decide (lo ≤ i) && decide (i ≤ hi)
  | _, _, _ => false
section
variable {n : Nat} {s : Stk} {d : PyData} {lo hi rows : Int} {k : Str}
theorem p_0 (h : isDict d = false) : callAt PT (n + 1) 0 [.val d] s = .ok (.val (.bool (isI d))) s := by
  rw [c_0]
  cases d <;> first | (cases h; done) | simp [F_0, isTy, isI]
theorem p_2 (h : isDict d = false) : callAt PT (n + 2) 2 [.val d, .val (.int lo), .val (.int hi)] s = .ok (.val (.bool (within d lo hi))) s := by
  rw [c_2]
  cases d <;> first | (cases h; done) | simp [F_2, p_0, isI, within]
  rename_i i
  cases decide (lo ≤ i) <;> simp
theorem p_3 (h : isDict d = false) : callAt PT (n + 3) 3 [.val d] s = .ok (.val (.bool (within d 0 65535))) s := by
  rw [c_3]
  simp [F_3, p_2 h]
def partB (d : PyData) (k : Str) (rows : Int) : Bool := if k = "r" then within d 0 7 else if k = "w" then within d 0 65535 else within d 0 rows
theorem p_4 (h : isDict d = false) : callAt PT (n + 4) 4 [.val d, .val (.str k), .val (.int rows)] s = .ok (.val (.bool (partB d k rows))) s := by
  rw [c_4]
  simp [F_4, p_2 h, p_3 h, h]
  by_cases h1 : k = "r"
  · simp [h1, partB, p_2 h]
  · by_cases h2 : k = "w"
    · simp [h1, h2, partB, p_3 h]
    · simp [h1, h2, partB, p_2 h]
def chars (z : Str) : List PyData := z.cps.toList.map fun c => .str ⟨#[c]⟩
def pairB (rows : Int) : PyData → Bool
  | .tuple [d, .str k] => partB d k rows
  | _ => false
def instB (d : PyData) (rows : Int) : Bool := match d with
  | .tuple (.str z :: xs) => match T_0.lookup z with
    | some (.str sh) => decide (xs.length = sh.length) && (zipD xs (chars sh)).all (pairB rows)
    | _ => false
  | _ => false
theorem T0_vals {z : Str} {d : PyData} (h : T_0.lookup z = some d) : ∃ sh : Str, d = .str sh ∧ sh.length ≤ 4 := by
  have m := PySem.mem_of_lookup h
  simp only [T_0, List.mem_cons, Prod.mk.injEq, List.not_mem_nil, or_false] at m
  rcases m with m | m | m | m | m | m | m | m | m | m | m | m | m | m | m <;> exact ⟨_, m.2, by decide⟩
theorem zipD_chars {xs : List PyData} {l : List Nat} : ∀ p ∈ zipD xs (l.map fun c => PyData.str ⟨#[c]⟩), ∃ d k, d ∈ xs ∧ p = .tuple [d, .str k] := by
  induction xs generalizing l with
  | nil => intro p hp; simp [zipD] at hp
  | cons x xs ih =>
    intro p hp
    cases l with
    | nil => simp [zipD] at hp
    | cons c l =>
      simp only [zipD, List.map_cons, List.mem_cons] at hp
      rcases hp with e | hp
      · exact ⟨x, ⟨#[c]⟩, by simp, e⟩
      · obtain ⟨d, k, h1, h2⟩ := ih p hp
        exact ⟨d, k, by simp [h1], h2⟩
theorem nd_tup {xs : List PyData} (h : PyData.hasDict (.tuple xs) = false) : ∀ x ∈ xs, PyData.hasDict x = false := by
  have h2 : PyData.hasDictAll xs = false := by simpa [PyData.hasDict] using h
  clear h
  induction xs with
  | nil => intro x hx; simp at hx
  | cons y ys ih =>
    simp only [PyData.hasDictAll, Bool.or_eq_false_iff] at h2
    intro x hx
    rcases List.mem_cons.mp hx with e | hx
    · rw [e]; exact h2.1
    · exact ih h2.2 x hx
theorem nd_is (h : PyData.hasDict d = false) : isDict d = false := by
  cases d with
  | dict _ => simp [PyData.hasDict] at h
  | _ => rfl
theorem p_5 (h : d.hasDict = false) : callAt PT (n + 5) 5 [.val d, .val (.int rows)] s = .ok (.val (.bool (instB d rows))) s := by
  rw [c_5]
  cases d with
  | dict _ => simp [PyData.hasDict] at h
  | tuple xs =>
    cases xs with
    | nil => simp [F_5, isTy, instB]
    | cons x r =>
      have hx := nd_is (nd_tup h x (by simp))
      have hr : ∀ y ∈ r, isDict y = false := fun y hy => nd_is (nd_tup h y (by simp [hy]))
      cases x with
      | dict _ => cases hx
      | str z =>
        cases hT : T_0.lookup z with
        | none => simp [F_5, isTy, hT, instB]
        | some d =>
          obtain ⟨sh, rfl, hl⟩ := T0_vals hT
          have hz : lenOk (zipD r (chars sh)).length = true := by
            refine decide_eq_true (Nat.le_trans ?_ (show 4 ≤ sizeLine by decide))
            rw [zipD_len]
            have : (chars sh).length = sh.length := by simp [chars, Str.length]
            omega
          have hc : compL (cT (callAt PT (n + 4)) [3, 4] (.tup [3, 4]) .none (.call 4 (.cons (.var 3) (.cons (.var 4) (.cons (.var 1) .nil)))) [some (.val (.tuple (.str z :: r))), some (.val (.int rows)), some (.val (.str sh)), none, none]) (zipD r (chars sh)) s = .ok ((zipD r (chars sh)).map fun d => .bool (pairB rows d)) s := by
            refine comp_pure fun p hp => ?_
            obtain ⟨d, k, h1, rfl⟩ := zipD_chars p hp
            simp [cT_eq, p_4 (hr d h1), pairB]
          have hw : walked (.str sh) = some (chars sh) := rfl
          simp [F_5, isTy, hT, instB]
          by_cases he : r.length = sh.length
          · simp [he, hw, hz, hc, bools_map]
          · simp [he]
      | _ => simp [F_5, isTy, instB]
  | _ => simp [F_5, isTy, instB]
def coreB : PyData → Bool
  | .tuple xs => decide (xs.length ≤ 40) && xs.all fun x => instB x xs.length
  | _ => false
theorem p_6 (h : d.hasDict = false) : callAt PT (n + 6) 6 [.val d] s = .ok (.val (.bool (coreB d))) s := by
  rw [c_6]
  cases d with
  | dict _ => simp [PyData.hasDict] at h
  | tuple xs =>
    have hc : compL (cT (callAt PT (n + 5)) [1] (.name 1) .none (.call 5 (.cons (.var 1) (.cons (.bi .len (.cons (.var 0) .nil)) .nil))) [some (.val (.tuple xs)), none]) xs s = .ok (xs.map fun d => .bool (instB d xs.length)) s := by
      refine comp_pure fun p hp => ?_
      simp [cT_eq, p_5 (nd_tup h p hp)]
    by_cases hl : xs.length ≤ 40
    · have h2 : ¬ ((40 : Int) < xs.length) := by omega
      simp [F_6, isTy, coreB, h2, hl, lenOk_le (show xs.length ≤ 1000000 by omega), hc, bools_map]
    · have h2 : (40 : Int) < xs.length := by omega
      simp [F_6, isTy, coreB, h2, hl]
  | _ => simp [F_6, isTy, coreB]
def bookB : PyData → Bool
  | .tuple xs => decide (1 ≤ xs.length) && decide (xs.length ≤ 4) && xs.all coreB
  | _ => false
theorem p_7 (h : d.hasDict = false) : callAt PT (n + 7) 7 [.val d] s = .ok (.val (.bool (bookB d))) s := by
  rw [c_7]
  cases d with
  | dict _ => simp [PyData.hasDict] at h
  | tuple xs =>
    have hc : compL (cT (callAt PT (n + 6)) [1] (.name 1) .none (.call 6 (.cons (.var 1) .nil)) [some (.val (.tuple xs)), none]) xs s = .ok (xs.map fun d => .bool (coreB d)) s := by
      refine comp_pure fun p hp => ?_
      simp [cT_eq, p_6 (nd_tup h p hp)]
    by_cases h1 : 1 ≤ xs.length
    · have h1' : (1 : Int) ≤ xs.length := by omega
      by_cases h2 : xs.length ≤ 4
      · have h2' : (xs.length : Int) ≤ 4 := by omega
        simp [F_7, isTy, bookB, h1, h1', h2, h2', lenOk_le (show xs.length ≤ 1000000 by omega), hc, bools_map]
      · have h2' : ¬ ((xs.length : Int) ≤ 4) := by omega
        simp [F_7, isTy, bookB, h1, h1', h2, h2']
    · have h1' : ¬ ((1 : Int) ≤ xs.length) := by omega
      simp [F_7, isTy, bookB, h1, h1']
  | _ => simp [F_7, isTy, bookB]
def memB : PyData → Bool
  | .tuple xs => decide (1 ≤ xs.length) && decide (xs.length ≤ 32) && xs.all fun x => within x 0 65535
  | _ => false
theorem p_8 (h : d.hasDict = false) : callAt PT (n + 4) 8 [.val d] s = .ok (.val (.bool (memB d))) s := by
  rw [c_8]
  cases d with
  | dict _ => simp [PyData.hasDict] at h
  | tuple xs =>
    have hc : compL (cT (callAt PT (n + 3)) [1] (.name 1) .none (.call 3 (.cons (.var 1) .nil)) [some (.val (.tuple xs)), none]) xs s = .ok (xs.map fun d => .bool (within d 0 65535)) s := by
      refine comp_pure fun p hp => ?_
      simp [cT_eq, p_3 (nd_is (nd_tup h p hp))]
    by_cases h1 : 1 ≤ xs.length
    · have h1' : (1 : Int) ≤ xs.length := by omega
      by_cases h2 : xs.length ≤ 32
      · have h2' : (xs.length : Int) ≤ 32 := by omega
        simp [F_8, isTy, memB, h1, h1', h2, h2', lenOk_le (show xs.length ≤ 1000000 by omega), hc, bools_map]
      · have h2' : ¬ ((xs.length : Int) ≤ 32) := by omega
        simp [F_8, isTy, memB, h1, h1', h2, h2']
    · have h1' : ¬ ((1 : Int) ≤ xs.length) := by omega
      simp [F_8, isTy, memB, h1, h1']
  | _ => simp [F_8, isTy, memB]
end
end G
set_option maxRecDepth 100000
namespace G
open PySem MP
/-- the deck as it lies: cells, how many were drawn, what is left of a cell -/
def DeckO (o : Ob) (c : Nat) : Prop := ∃ (cells : List Int) (k d : Int), o = .lst [.list (cells.map PyData.int), .int k, .int d] ∧ 0 ≤ k ∧ k ≤ c
def Dk (s : Stk) (i c : Nat) : Prop := ∃ o, s[i]? = some o ∧ DeckO o c
theorem Dk_le {o : Ob} {c c2 : Nat} (h : DeckO o c) (hc : c ≤ c2) : DeckO o c2 := by
  obtain ⟨cells, k, d, h2, h3, h4⟩ := h
  exact ⟨cells, k, d, h2, h3, by omega⟩
theorem Dk.mono {s : Stk} {i c c' : Nat} (h : Dk s i c) (hc : c ≤ c') : Dk s i c' := by
  obtain ⟨o, h1, cells, k, d, h2, h3, h4⟩ := h
  exact ⟨o, h1, cells, k, d, h2, h3, by omega⟩
theorem view_at {s : Stk} {i : Nat} {xs : List PyData} (h : s[i]? = some (.lst xs)) : W.view s (.ref i) = some (.list xs) := by
  rw [view_ref, h]
theorem ev_v {C : Callf} {env : Ve} {s : Stk} {m : Nat} {w : W} (h : env[m]? = some (some w)) : evE C (.var m) env s = .ok w s := by
  rw [ev_var, h]
section
variable {n : Nat} {s : Stk} {i c : Nat} {many : Int}
theorem put2 {x y z : PyData} {d : PyData} : putL [x, y, z] 2 d = some [x, y, d] := by simp [putL, L2.ixN]
theorem put1 {x y z : PyData} {d : PyData} : putL [x, y, z] 1 d = some [x, d, z] := by simp [putL, L2.ixN]
theorem cells_at {cells : List Int} {k : Int} (h0 : 0 ≤ k) (hl : 0 < cells.length) : ∃ x : Int, L2.atI (cells.map PyData.int) (k % cells.length) = some (.int x) := by
  have h1 : 0 ≤ k % (cells.length : Int) := Int.emod_nonneg _ (by omega)
  have h2 : k % (cells.length : Int) < cells.length := Int.emod_lt_of_pos _ (by omega)
  have h3 : (k % (cells.length : Int)).toNat < cells.length := by omega
  exact ⟨cells[(k % (cells.length : Int)).toNat], at_nat h1 (by rw [List.getElem?_map, List.getElem?_eq_getElem h3] <;> rfl)⟩
theorem set_at {s : Stk} {i : Nat} {o o' : Ob} (h : s[i]? = some o) : (s.set i o')[i]? = some o' := by
  rw [List.getElem?_set_self (List.getElem?_eq_some_iff.mp h).1]
theorem set_self {s : Stk} {i : Nat} {o : Ob} (h : s[i]? = some o) : s.set i o = s := by
  apply List.ext_getElem?
  intro j
  by_cases hj : i = j
  · subst hj
    rw [set_at h, h]
  · rw [List.getElem?_set_ne hj]
theorem mulOk_r {i j : Int} (h1 : -18446744073709551616 < j) (h2 : j < 18446744073709551616) : mulOk i j = true := by
  have e : (2 : Int) ^ 64 = 18446744073709551616 := by decide
  simp [mulOk, e, h1, h2]
theorem mulOk_l {i j : Int} (h1 : -18446744073709551616 < i) (h2 : i < 18446744073709551616) : mulOk i j = true := by
  have e : (2 : Int) ^ 64 = 18446744073709551616 := by decide
  simp [mulOk, e, h1, h2]
theorem mul_mod {a b : Int} : mulOk (a % 2147483647) b = true := mulOk_l (by have := Int.emod_nonneg a (show (2147483647 : Int) ≠ 0 by decide); omega) (by have := Int.emod_lt_of_pos a (show (0 : Int) < 2147483647 by decide); omega)
theorem mul_mod9 {a b : Int} : mulOk (a % 2147483563 + 9) b = true := mulOk_l (by have := Int.emod_nonneg a (show (2147483563 : Int) ≠ 0 by decide); omega) (by have := Int.emod_lt_of_pos a (show (0 : Int) < 2147483563 by decide); omega)
theorem pow18 : powOk 10 18 = true := by decide
theorem p_35 (hm : many < 1073741824) (D : Dk s i c) (hc : c ≤ 1000000000) : ∃ o v, callAt PT (n + 1) 35 [.ref i, .val (.int many)] s = .ok (.val (.int v)) (s.set i o) ∧ DeckO o (c + 1) ∧ 0 ≤ v ∧ (2 ≤ many → v < many) ∧ (many < 2 → v = 0) := by
  obtain ⟨o, hs, cells, k, d, rfl, hk0, hkc⟩ := D
  rw [c_35]
  have hv := view_at hs
  by_cases h2 : many < 2
  · refine ⟨_, 0, ?_, ⟨cells, k, d, rfl, hk0, by omega⟩, by omega, by omega, fun _ => rfl⟩
    rw [set_self hs]
    simp [F_35, h2]
  · have hm0 : 0 < many := by omega
    by_cases hd : 0 < d
    · refine ⟨_, d % many, ?_, ⟨cells, k, d / many, rfl, hk0, by omega⟩, Int.emod_nonneg _ (by omega), fun _ => Int.emod_lt_of_pos _ hm0, fun h => absurd h h2⟩
      simp [F_35, h2, hv, hd, hm0, hm, kPu_eq hs, put2]
    · have hs1 : (s.set i (.lst [.list (cells.map PyData.int), .int (k + 1), .int d]))[i]? = some (.lst [.list (cells.map PyData.int), .int (k + 1), .int d]) := set_at hs
      have hv1 := view_at hs1
      have hml : mulOk (23 * k) k = true := mulOk_r (by omega) (by omega)
      have fin : ∀ a : Int, 0 ≤ a % many ∧ (2 ≤ many → a % many < many) ∧ (many < 2 → a % many = 0) := fun a => ⟨Int.emod_nonneg _ (by omega), fun _ => Int.emod_lt_of_pos _ hm0, fun h => absurd h h2⟩
      have key : (∃ a : Int, kRun s.length (evSs (callAt PT n) F_35.body [some (.ref i), some (.val (.int many)), none, none, none, none, none] s) = .ok (.val (.int (a % many))) (s.set i (.lst [.list (cells.map PyData.int), .int (k + 1), .int d]))) →
          ∃ o v, kRun s.length (evSs (callAt PT n) F_35.body [some (.ref i), some (.val (.int many)), none, none, none, none, none] s) = .ok (.val (.int v)) (s.set i o) ∧ DeckO o (c + 1) ∧ 0 ≤ v ∧ (2 ≤ many → v < many) ∧ (many < 2 → v = 0) := fun ⟨a, ha⟩ => ⟨_, a % many, ha, ⟨cells, k + 1, d, rfl, by omega, by omega⟩, fin a⟩
      by_cases hl : 0 < cells.length
      · have hl' : (0 : Int) < cells.length := by omega
        obtain ⟨x, hx⟩ := cells_at hk0 hl
        by_cases hkl : k < cells.length
        · by_cases hbig : (1000000000000000000 : Int) ≤ x
          · refine ⟨_, x % many, ?_, ⟨cells, k + 1, x / many, rfl, by omega, by omega⟩, fin x⟩
            simp [F_35, h2, hv, hd, hm0, hm, kPu_eq hs, kPu_eq hs1, put1, put2, hv1, hl, hl', hx, hkl, hbig, pow18]
          · refine key ⟨_, by
              simp [F_35, h2, hv, hd, hm0, hm, kPu_eq hs, put1, hv1, hl, hl', hx, hkl, hbig, pow18, mul_mod, mul_mod9, hml, mulOk_r, mulOk_l]
              rfl⟩
        · refine key ⟨_, by
            simp [F_35, h2, hv, hd, hm0, hm, kPu_eq hs, put1, hv1, hl, hl', hx, hkl, pow18, mul_mod, mul_mod9, hml, mulOk_r, mulOk_l]
            rfl⟩
      · have hl' : ¬ ((0 : Int) < cells.length) := by omega
        have hkl : ¬ (k < cells.length) := by omega
        refine key ⟨_, by
          simp [F_35, h2, hv, hd, hm0, hm, kPu_eq hs, put1, hv1, hl, hl', hkl, pow18, mul_mod, mul_mod9, hml, mulOk_r, mulOk_l]
          rfl⟩
end
end G
set_option maxRecDepth 100000
namespace G
open PySem MP
def reg (r : Int) : Prop := 0 ≤ r ∧ r ≤ 7
def wrd (r : Int) : Prop := 0 ≤ r ∧ r ≤ 65535
/-- a drawn instruction -/
inductive Ins (rows : Int) : PyData → Prop
  | set {r v : Int} : reg r → wrd v → Ins rows (.tuple [.str "set", .int r, .int v])
  | add {r b a : Int} : reg r → reg b → reg a → Ins rows (.tuple [.str "add", .int r, .int b, .int a])
  | sub {r b a : Int} : reg r → reg b → reg a → Ins rows (.tuple [.str "sub", .int r, .int b, .int a])
  | and {r b a : Int} : reg r → reg b → reg a → Ins rows (.tuple [.str "and", .int r, .int b, .int a])
  | xor {r b a : Int} : reg r → reg b → reg a → Ins rows (.tuple [.str "xor", .int r, .int b, .int a])
  | below {r b a : Int} : reg r → reg b → reg a → Ins rows (.tuple [.str "below", .int r, .int b, .int a])
  | load {r a k : Int} : reg r → reg a → wrd k → Ins rows (.tuple [.str "load", .int r, .int a, .int k])
  | store {r a k : Int} : reg r → reg a → wrd k → Ins rows (.tuple [.str "store", .int r, .int a, .int k])
  | swap {r b a k : Int} : reg r → reg b → reg a → wrd k → Ins rows (.tuple [.str "swap", .int r, .int b, .int a, .int k])
  | addto {r b a k : Int} : reg r → reg b → reg a → wrd k → Ins rows (.tuple [.str "addto", .int r, .int b, .int a, .int k])
  | fence : Ins rows (.tuple [.str "fence"])
  | gap : Ins rows (.tuple [.str "gap"])
  | stop : Ins rows (.tuple [.str "stop"])
  | ifz {r t : Int} : reg r → 0 ≤ t → t ≤ rows → Ins rows (.tuple [.str "ifzero", .int r, .int t])
  | jump {t : Int} : 0 ≤ t → t ≤ rows → Ins rows (.tuple [.str "jump", .int t])
section
variable {n : Nat} {o : Ob} {t : Stk} {c : Nat} {many rows : Int} {d : PyData}
theorem tk (hm : many < 1073741824) (D : DeckO o c) (hc : c ≤ 1000000000) : ∃ o' v, callAt PT (n + 1) 35 [.ref 0, .val (.int many)] (o :: t) = .ok (.val (.int v)) (o' :: t) ∧ DeckO o' (c + 1) ∧ 0 ≤ v ∧ (2 ≤ many → v < many) ∧ (many < 2 → v = 0) := by
  obtain ⟨o', v, e, h⟩ := p_35 (n := n) (s := o :: t) (i := 0) hm ⟨o, rfl, D⟩ hc
  exact ⟨o', v, e, h⟩
/-- a draw below a known bound -/
theorem tkL (m : Int) (hm : m < 1073741824) (h2 : 2 ≤ m) (D : DeckO o c) (hc : c ≤ 1000000000) : ∃ o' v, callAt PT (n + 1) 35 [.ref 0, .val (.int m)] (o :: t) = .ok (.val (.int v)) (o' :: t) ∧ DeckO o' (c + 1) ∧ 0 ≤ v ∧ v < m := by
  obtain ⟨o', v, e, h, h1, h3, _⟩ := tk (n := n) (t := t) hm D hc
  exact ⟨o', v, e, h, h1, h3 h2⟩
theorem pickL {l : List PyData} {v : Int} (h0 : 0 ≤ v) (h1 : v < l.length) : ∃ d, L2.atI l v = some d ∧ d ∈ l := by
  have h3 : v.toNat < l.length := by omega
  exact ⟨l[v.toNat], at_nat h0 (List.getElem?_eq_getElem h3), List.getElem_mem h3⟩
theorem len_map {l : List Int} : (l.map PyData.int).length = l.length := by simp
theorem p_41 {words : List Int} (hw : ∀ x ∈ words, wrd x) (hw2 : 2 ≤ words.length) (hw3 : words.length ≤ 1000) (hm0 : 0 ≤ many) (hm : many < 1000000) (D : DeckO o c) (hc : c ≤ 100000000) :
    ∃ o' d, callAt PT (n + 2) 41 [.ref 0, .val (.int many), .val (.list (words.map PyData.int))] (o :: t) = .ok (.val d) (o' :: t) ∧ DeckO o' (c + 10) ∧ Ins many d := by
  rw [c_41]
  obtain ⟨o1, v1, e1, D1, a1, b1⟩ := tkL (n := n) (t := t) 16 (by decide) (by decide) D (by omega)
  obtain ⟨o2, v2, e2, D2, a2, b2⟩ := tkL (n := n) (t := t) 4 (by decide) (by decide) D1 (by omega)
  obtain ⟨o3, v3, e3, D3, a3, b3⟩ := tkL (n := n) (t := t) 4 (by decide) (by decide) D2 (by omega)
  obtain ⟨o4, v4, e4, D4, a4, b4⟩ := tkL (n := n) (t := t) 4 (by decide) (by decide) D3 (by omega)
  obtain ⟨x4, g4, m4⟩ := pickL (l := [.int 7, .int 7, .int 7, .int 3]) a4 (by simpa using b4)
  obtain ⟨o5, v5, e5, D5, a5, b5⟩ := tkL (n := n) (t := t) (words.length : Int) (by omega) (by omega) D4 (by omega)
  obtain ⟨x5, g5, m5⟩ := pickL (l := words.map PyData.int) a5 (by simpa using b5)
  obtain ⟨o6, v6, e6, D6, a6, b6⟩ := tkL (n := n) (t := t) 5 (by decide) (by decide) D5 (by omega)
  obtain ⟨x6, g6, m6⟩ := pickL (l := [.int 0, .int 1, .int 2, .int 5, x5]) a6 (by simpa using b6)
  obtain ⟨y4, rfl, r4⟩ : ∃ y, x4 = .int y ∧ reg y := by
    simp only [List.mem_cons, List.not_mem_nil, or_false] at m4
    rcases m4 with e | e | e | e <;> exact ⟨_, e, by decide, by decide⟩
  obtain ⟨y5, rfl, r5⟩ : ∃ y, x5 = .int y ∧ wrd y := by
    obtain ⟨y, hy, rfl⟩ := List.mem_map.mp m5
    exact ⟨y, rfl, hw y hy⟩
  obtain ⟨y6, rfl, r6⟩ : ∃ y, x6 = .int y ∧ wrd y := by
    simp only [List.mem_cons, List.not_mem_nil, or_false] at m6
    rcases m6 with e | e | e | e | e
    · exact ⟨_, e, by decide, by decide⟩
    · exact ⟨_, e, by decide, by decide⟩
    · exact ⟨_, e, by decide, by decide⟩
    · exact ⟨_, e, by decide, by decide⟩
    · exact ⟨_, e, r5⟩
  have r2 : reg v2 := ⟨a2, by omega⟩
  have r3 : reg v3 := ⟨a3, by omega⟩
  by_cases h1 : v1 < 3
  · obtain ⟨o7, v7, e7, D7, a7, b7⟩ := tkL (n := n) (t := t) 5 (by decide) (by decide) D6 (by omega)
    obtain ⟨x7, g7, m7⟩ := pickL (l := [.int 0, .int 1, .int 2, .int 7, .int 65535]) a7 (by simpa using b7)
    obtain ⟨y7, rfl, r7⟩ : ∃ y, x7 = .int y ∧ wrd y := by
      simp only [List.mem_cons, List.not_mem_nil, or_false] at m7
      rcases m7 with e | e | e | e | e <;> exact ⟨_, e, by decide, by decide⟩
    refine ⟨o7, _, ?_, Dk_le D7 (by omega), .set r2 r7⟩
    simp [F_41, e1, e2, e3, e4, g4, e5, g5, e6, g6, h1, e7, g7]
  · by_cases h2 : v1 < 5
    · obtain ⟨o7, v7, e7, D7, a7, b7⟩ := tkL (n := n) (t := t) 5 (by decide) (by decide) D6 (by omega)
      obtain ⟨x7, g7, m7⟩ := pickL (l := [.str "add", .str "sub", .str "and", .str "xor", .str "below"]) a7 (by simpa using b7)
      obtain ⟨o8, v8, e8, D8, a8, b8⟩ := tkL (n := n) (t := t) 4 (by decide) (by decide) D7 (by omega)
      have r8 : reg v8 := ⟨a8, by omega⟩
      have nd : isDict x7 = false ∧ Ins many (.tuple [x7, .int v2, .int v3, .int v8]) := by
        simp only [List.mem_cons, List.not_mem_nil, or_false] at m7
        rcases m7 with e | e | e | e | e <;> subst e
        · exact ⟨rfl, .add r2 r3 r8⟩
        · exact ⟨rfl, .sub r2 r3 r8⟩
        · exact ⟨rfl, .and r2 r3 r8⟩
        · exact ⟨rfl, .xor r2 r3 r8⟩
        · exact ⟨rfl, .below r2 r3 r8⟩
      refine ⟨o8, _, ?_, Dk_le D8 (by omega), nd.2⟩
      simp [F_41, e1, e2, e3, e4, g4, e5, g5, e6, g6, h1, h2, e7, g7, e8, nd.1]
    · by_cases h3 : v1 < 8
      · refine ⟨o6, _, ?_, Dk_le D6 (by omega), .load r2 r4 r6⟩
        simp [F_41, e1, e2, e3, e4, g4, e5, g5, e6, g6, h1, h2, h3]
      · by_cases h4 : v1 < 11
        · refine ⟨o6, _, ?_, Dk_le D6 (by omega), .store r3 r4 r6⟩
          simp [F_41, e1, e2, e3, e4, g4, e5, g5, e6, g6, h1, h2, h3, h4]
        · by_cases h5 : v1 = 11
          · obtain ⟨o7, v7, e7, D7, a7, b7⟩ := tkL (n := n) (t := t) 2 (by decide) (by decide) D6 (by omega)
            obtain ⟨x7, g7, m7⟩ := pickL (l := [.str "swap", .str "addto"]) a7 (by simpa using b7)
            have nd : isDict x7 = false ∧ Ins many (.tuple [x7, .int v2, .int v3, .int y4, .int y6]) := by
              simp only [List.mem_cons, List.not_mem_nil, or_false] at m7
              rcases m7 with e | e <;> subst e
              · exact ⟨rfl, .swap r2 r3 r4 r6⟩
              · exact ⟨rfl, .addto r2 r3 r4 r6⟩
            refine ⟨o7, _, ?_, Dk_le D7 (by omega), nd.2⟩
            simp [F_41, e1, e2, e3, e4, g4, e5, g5, e6, g6, h1, h2, h3, h4, h5, e7, g7, nd.1]
          · by_cases h6 : v1 = 12
            · obtain ⟨o7, v7, e7, D7, a7, b7⟩ := tkL (n := n) (t := t) 2 (by decide) (by decide) D6 (by omega)
              obtain ⟨x7, g7, m7⟩ := pickL (l := [.tuple [.str "fence"], .tuple [.str "gap"]]) a7 (by simpa using b7)
              have nd : Ins many x7 := by
                simp only [List.mem_cons, List.not_mem_nil, or_false] at m7
                rcases m7 with e | e <;> subst e
                · exact .fence
                · exact .gap
              refine ⟨o7, _, ?_, Dk_le D7 (by omega), nd⟩
              simp [F_41, e1, e2, e3, e4, g4, e5, g5, e6, g6, h1, h2, h3, h4, h5, h6, e7, g7]
            · by_cases h7 : v1 = 13
              · obtain ⟨o7, v7, e7, D7, a7, b7, b7'⟩ := tk (n := n) (t := t) (many := many + 1) (by omega) D6 (by omega)
                refine ⟨o7, _, ?_, Dk_le D7 (by omega), .ifz (r := v2) (t := v7) r2 a7 (by omega)⟩
                simp [F_41, e1, e2, e3, e4, g4, e5, g5, e6, g6, h1, h2, h3, h4, h5, h6, h7, e7]
              · obtain ⟨o7, v7, e7, D7, a7, b7, b7'⟩ := tk (n := n) (t := t) (many := many + 1) (by omega) D6 (by omega)
                obtain ⟨o8, v8, e8, D8, a8, b8⟩ := tkL (n := n) (t := t) 4 (by decide) (by decide) D7 (by omega)
                obtain ⟨x8, g8, m8⟩ := pickL (l := [.tuple [.str "jump", .int v7], .tuple [.str "stop"], .tuple [.str "store", .int v3, .int y4, .int y6], .tuple [.str "load", .int v2, .int y4, .int y6]]) a8 (by simpa using b8)
                have nd : Ins many x8 := by
                  simp only [List.mem_cons, List.not_mem_nil, or_false] at m8
                  rcases m8 with e | e | e | e <;> subst e
                  · exact .jump a7 (by omega)
                  · exact .stop
                  · exact .store r3 r4 r6
                  · exact .load r2 r4 r6
                refine ⟨o8, _, ?_, Dk_le D8 (by omega), nd⟩
                simp [F_41, e1, e2, e3, e4, g4, e5, g5, e6, g6, h1, h2, h3, h4, h5, h6, h7, e7, e8, g8]
end
end G
set_option maxRecDepth 100000
namespace G
open PySem MP
section
variable {n : Nat} {s : Stk} {o : Ob} {t : Stk} {c : Nat} {many rows lo hi at_ a b r x y : Int} {d : PyData} {C : Callf} {env : Ve} {nm : Str}
theorem ins_nd (h : Ins rows d) : d.hasDict = false := by cases h <;> rfl
theorem rng_small {j : Int} (h0 : 0 ≤ j) (h : j ≤ 1000000) : rngOk j = true := by
  have e : (2 : Int) ^ 62 = 4611686018427387904 := by decide
  simp only [rngOk, e, Bool.and_eq_true, decide_eq_true_eq]
  omega
/-- a plan as drawn -/
def Mem (m : Nat) (d : PyData) : Prop := ∃ xs : List PyData, d = .tuple xs ∧ xs.length = m ∧ ∀ x ∈ xs, ∃ i, x = .int i ∧ wrd i
theorem p_43 {j : Int} (h0 : 0 ≤ j) (h1 : j ≤ 32) (D : DeckO o c) (hc : c ≤ 100000000) : ∃ o' x, callAt PT (n + 2) 43 [.ref 0, .val (.int j)] (o :: t) = .ok (.val x) (o' :: t) ∧ DeckO o' (c + 32) ∧ Mem j.toNat x := by
  rw [c_43]
  obtain ⟨ys, s', e, ⟨o', rfl, D'⟩, l, p⟩ := comp_inv (f := cT (callAt PT (n + 1)) [2] (.name 2) .none (.sub (.frz (.lst (.cons (.cst (.int 0)) (.cons (.cst (.int 1)) (.cons (.cst (.int 7)) (.cons (.cst (.int 65535)) (.cons (.cst (.int 300)) .nil))))))) (.call 35 (.cons (.var 0) (.cons (.cst (.int 5)) .nil)))) [some (.ref 0), some (.val (.int j)), none])
    (fun i s => ∃ o', s = o' :: t ∧ DeckO o' (c + i)) (fun x => ∃ i, x = .int i ∧ wrd i) (ds := rangeD 0 j.toNat) (k := 0) (s := o :: t) (fun i d s hd hi => by
      obtain ⟨o1, rfl, D1⟩ := hi
      have hi2 := (rangeD_get _ _ _ _ hd).1
      obtain ⟨o2, v2, e2, D2, a2, b2⟩ := tkL (n := n) (t := t) 5 (by decide) (by decide) D1 (by omega)
      obtain ⟨x2, g2, m2⟩ := pickL (l := [.int 0, .int 1, .int 7, .int 65535, .int 300]) a2 (by simpa using b2)
      obtain ⟨y, rfl, hy⟩ : ∃ y, x2 = .int y ∧ wrd y := by
        simp only [List.mem_cons, List.not_mem_nil, or_false] at m2
        rcases m2 with e | e | e | e | e <;> exact ⟨_, e, by decide, by decide⟩
      exact ⟨.int y, o2 :: t, by simp [cT_eq, e2, g2], ⟨o2, rfl, Dk_le D2 (by omega)⟩, y, rfl, hy⟩) ⟨o, rfl, D⟩
  rw [rangeD_len] at l D'
  have z : (rangeD 0 j.toNat).length ≤ 1000000 := by rw [rangeD_len]; omega
  refine ⟨o', .tuple ys, ?_, Dk_le D' (by omega), ys, rfl, l, p⟩
  simp [F_43, rng_small h0 (by omega : j ≤ 1000000), z, e]
def Core (d : PyData) : Prop := ∃ xs : List PyData, d = .tuple xs ∧ xs.length ≤ 40 ∧ ∀ x ∈ xs, Ins xs.length x
def Book (d : PyData) : Prop := ∃ cs : List PyData, d = .tuple cs ∧ 1 ≤ cs.length ∧ cs.length ≤ 4 ∧ ∀ x ∈ cs, Core x
theorem core_nd (h : Core d) : d.hasDict = false := by
  obtain ⟨xs, rfl, _, hx⟩ := h
  exact ND.tup fun x h => ins_nd (hx x h)
theorem book_nd (h : Book d) : d.hasDict = false := by
  obtain ⟨xs, rfl, _, _, hx⟩ := h
  exact ND.tup fun x h => core_nd (hx x h)
theorem p_42 {m : Int} (hm0 : 0 ≤ m) (hm : m ≤ 40) (D : DeckO o c) (hc : c ≤ 10000000) : ∃ o' x, callAt PT (n + 3) 42 [.ref 0, .val (.int 4), .val (.int m)] (o :: t) = .ok (.val x) (o' :: t) ∧ DeckO o' (c + 1700) ∧ Book x := by
  rw [c_42]
  obtain ⟨o1, v1, e1, D1, a1, b1⟩ := tkL (n := n + 1) (t := t ++ [.lst []]) 4 (by decide) (by decide) D (by omega)
  have hj : ((1 : Int) + v1).toNat = v1.toNat + 1 := by omega
  obtain ⟨env', s', e, ⟨o', cs, x4, x5, rfl, rfl, D', hl, hcs⟩⟩ := for_inv (f := fT (callAt PT (n + 2)) (.name 4) (.cons (.asg (.name 5) (.call 35 (.cons (.var 0) (.cons (.bin .add (.var 2) (.cst (.int 1))) .nil)))) (.cons (.app (.var 3) (.bi .tuple (.cons (.frz (.comp [6] (.name 6) (.range1 (.var 5)) .none (.call 41 (.cons (.var 0) (.cons (.var 5) (.cons (.frz (.lst (.cons (.cst (.int 3)) (.cons (.cst (.int 65535)) (.cons (.cst (.int 9)) (.cons (.cst (.int 6)) .nil)))))) .nil)))))) .nil))) .nil)))
    (fun i env s => ∃ o' cs x4 x5, env = [some (.ref 0), some (.val (.int 4)), some (.val (.int m)), some (.ref (t.length + 1)), x4, x5, none] ∧ s = o' :: (t ++ [.lst cs]) ∧ DeckO o' (c + 1 + 402 * i) ∧ cs.length = i ∧ ∀ x ∈ cs, Core x) (ds := rangeD 0 (1 + v1).toNat) (k := 0) (env := [some (.ref 0), some (.val (.int 4)), some (.val (.int m)), some (.ref (t.length + 1)), none, none, none]) (s := o1 :: (t ++ [.lst []])) (fun i d env s hd hi => by
      obtain ⟨o2, cs, x4, x5, rfl, rfl, D2, hl, hcs⟩ := hi
      have hi2 := (rangeD_get _ _ _ _ hd).1
      obtain ⟨o3, v3, e3, D3, a3, b3, b3'⟩ := tk (n := n + 1) (t := t ++ [.lst cs]) (many := m + 1) (by omega) D2 (by omega)
      have h31 : v3 ≤ m := by omega
      generalize hb : c + 1 + 402 * (0 + i) + 1 = b at D3
      obtain ⟨ys, s4, e4, ⟨o4, rfl, D4⟩, l4, p4⟩ := comp_inv (f := cT (callAt PT (n + 2)) [6] (.name 6) .none (.call 41 (.cons (.var 0) (.cons (.var 5) (.cons (.frz (.lst (.cons (.cst (.int 3)) (.cons (.cst (.int 65535)) (.cons (.cst (.int 9)) (.cons (.cst (.int 6)) .nil)))))) .nil)))) [some (.ref 0), some (.val (.int 4)), some (.val (.int m)), some (.ref (t.length + 1)), some (.val d), some (.val (.int v3)), none])
        (fun i s => ∃ o', s = o' :: (t ++ [.lst cs]) ∧ DeckO o' (b + 10 * i)) (fun x => Ins v3 x) (ds := rangeD 0 v3.toNat) (k := 0) (s := o3 :: (t ++ [.lst cs])) (fun j d' s hd' hj' => by
          obtain ⟨o5, rfl, D5⟩ := hj'
          have hj2 := (rangeD_get _ _ _ _ hd').1
          obtain ⟨o6, x6, e6, D6, p6⟩ := p_41 (n := n) (t := t ++ [.lst cs]) (words := [3, 65535, 9, 6]) (many := v3) (by intro x hx; simp only [List.mem_cons, List.not_mem_nil, or_false] at hx; rcases hx with e | e | e | e <;> subst e <;> exact ⟨by decide, by decide⟩) (by decide) (by decide) a3 (by omega) D5 (by omega)
          simp only [List.map_cons, List.map_nil] at e6
          exact ⟨x6, o6 :: (t ++ [.lst cs]), by simp [cT_eq, e6, nd_is (ins_nd p6)], ⟨o6, rfl, Dk_le D6 (by omega)⟩, p6⟩) ⟨o3, rfl, by simpa using D3⟩
      rw [rangeD_len] at l4 D4
      have z : (rangeD 0 v3.toNat).length ≤ 1000000 := by rw [rangeD_len]; omega
      have g2 : (o3 :: (t ++ [.lst cs]))[t.length + 1]? = some (.lst cs) := by simp
      have g4 : (o4 :: (t ++ [.lst cs]))[t.length + 1]? = some (.lst cs) := by simp
      have hsz : cs.length < sizeLine := Nat.lt_of_lt_of_le (show cs.length < 1000 by omega) (by decide)
      refine ⟨_, o4 :: (t ++ [.lst (cs ++ [.tuple ys])]), ?_, o4, cs ++ [.tuple ys], some (.val d), some (.val (.int v3)), rfl, rfl, Dk_le D4 (by omega), by simp [hl], fun x hx => ?_⟩
      · simp [fT_eq, e3, kAp_eq g2, rng_small a3 (by omega : v3 ≤ 1000000), z, e4, kAp2_eq g4 hsz]
      · rcases List.mem_append.mp hx with hx | hx
        · exact hcs x hx
        · have : x = .tuple ys := by simpa using hx
          subst this
          refine ⟨ys, rfl, by omega, fun y hy => ?_⟩
          have hv : (ys.length : Int) = v3 := by omega
          rw [hv]
          exact p4 y hy) ⟨o1, [], none, none, rfl, rfl, by simpa using D1, rfl, fun x hx => by simp at hx⟩
  rw [rangeD_len] at hl D'
  have z : (rangeD 0 (1 + v1).toNat).length ≤ 1000000 := by rw [rangeD_len]; omega
  have gv : W.view (o' :: (t ++ [.lst cs])) (.ref (t.length + 1)) = some (.list cs) := view_at (by simp)
  refine ⟨o', .tuple cs, ?_, Dk_le D' (by omega), cs, rfl, by omega, by omega, hcs⟩
  simp [F_42, e1, rng_small (show (0 : Int) ≤ 1 + v1 by omega) (by omega : 1 + v1 ≤ 1000000), e, gv]
theorem p_34 {xs : List PyData} : callAt PT (n + 1) 34 [.val (.list xs)] s = .ok (.new [.list xs, .int 0, .int 0]) s := by
  rw [c_34]
  simp [F_34]
theorem w7 {i : Int} (h : reg i) : within (.int i) 0 7 = true := by
  obtain ⟨h1, h2⟩ := h
  simp [within, h1, h2]
theorem w16 {i : Int} (h : wrd i) : within (.int i) 0 65535 = true := by
  obtain ⟨h1, h2⟩ := h
  simp [within, h1, h2]
theorem wr {i : Int} (h1 : 0 ≤ i) (h2 : i ≤ rows) : within (.int i) 0 rows = true := by simp [within, h1, h2]
theorem inst_of {z sh : Str} {xs : List PyData} (h : T_0.lookup z = some (.str sh)) (hl : xs.length = sh.length) (hp : (zipD xs (chars sh)).all (pairB rows) = true) : instB (.tuple (.str z :: xs)) rows = true := by
  simp [instB, h, hl, hp]
theorem k_rw : chars "rw" = [.str "r", .str "w"] := by kernel_rfl
theorem k_rrr : chars "rrr" = [.str "r", .str "r", .str "r"] := by kernel_rfl
theorem k_rrw : chars "rrw" = [.str "r", .str "r", .str "w"] := by kernel_rfl
theorem k_rrrw : chars "rrrw" = [.str "r", .str "r", .str "r", .str "w"] := by kernel_rfl
theorem k_rt : chars "rt" = [.str "r", .str "t"] := by kernel_rfl
theorem k_t : chars "t" = [.str "t"] := by kernel_rfl
theorem k_0 : chars "" = [] := by kernel_rfl
theorem ins_inst (h : Ins rows d) : instB d rows = true := by
  cases h with
  | set h1 h2 => exact inst_of (sh := "rw") (by kernel_rfl) (by kernel_rfl) (by simp [k_rw, zipD, pairB, partB, w7 h1, w16 h2])
  | add h1 h2 h3 => exact inst_of (sh := "rrr") (by kernel_rfl) (by kernel_rfl) (by simp [k_rrr, zipD, pairB, partB, w7 h1, w7 h2, w7 h3])
  | sub h1 h2 h3 => exact inst_of (sh := "rrr") (by kernel_rfl) (by kernel_rfl) (by simp [k_rrr, zipD, pairB, partB, w7 h1, w7 h2, w7 h3])
  | and h1 h2 h3 => exact inst_of (sh := "rrr") (by kernel_rfl) (by kernel_rfl) (by simp [k_rrr, zipD, pairB, partB, w7 h1, w7 h2, w7 h3])
  | xor h1 h2 h3 => exact inst_of (sh := "rrr") (by kernel_rfl) (by kernel_rfl) (by simp [k_rrr, zipD, pairB, partB, w7 h1, w7 h2, w7 h3])
  | below h1 h2 h3 => exact inst_of (sh := "rrr") (by kernel_rfl) (by kernel_rfl) (by simp [k_rrr, zipD, pairB, partB, w7 h1, w7 h2, w7 h3])
  | load h1 h2 h3 => exact inst_of (sh := "rrw") (by kernel_rfl) (by kernel_rfl) (by simp [k_rrw, zipD, pairB, partB, w7 h1, w7 h2, w16 h3])
  | store h1 h2 h3 => exact inst_of (sh := "rrw") (by kernel_rfl) (by kernel_rfl) (by simp [k_rrw, zipD, pairB, partB, w7 h1, w7 h2, w16 h3])
  | swap h1 h2 h3 h4 => exact inst_of (sh := "rrrw") (by kernel_rfl) (by kernel_rfl) (by simp [k_rrrw, zipD, pairB, partB, w7 h1, w7 h2, w7 h3, w16 h4])
  | addto h1 h2 h3 h4 => exact inst_of (sh := "rrrw") (by kernel_rfl) (by kernel_rfl) (by simp [k_rrrw, zipD, pairB, partB, w7 h1, w7 h2, w7 h3, w16 h4])
  | fence => exact inst_of (sh := "") (by kernel_rfl) (by kernel_rfl) (by simp [k_0, zipD])
  | gap => exact inst_of (sh := "") (by kernel_rfl) (by kernel_rfl) (by simp [k_0, zipD])
  | stop => exact inst_of (sh := "") (by kernel_rfl) (by kernel_rfl) (by simp [k_0, zipD])
  | ifz h1 h2 h3 => exact inst_of (sh := "rt") (by kernel_rfl) (by kernel_rfl) (by simp [k_rt, zipD, pairB, partB, w7 h1, wr h2 h3])
  | jump h1 h2 => exact inst_of (sh := "t") (by kernel_rfl) (by kernel_rfl) (by simp [k_t, zipD, pairB, partB, wr h1 h2])
theorem core_true (h : Core d) : coreB d = true := by
  obtain ⟨xs, rfl, l, hx⟩ := h
  simp only [coreB, Bool.and_eq_true, decide_eq_true_eq, List.all_eq_true]
  exact ⟨by omega, fun x h => ins_inst (hx x h)⟩
theorem book_true (h : Book d) : bookB d = true := by
  obtain ⟨xs, rfl, l, l2, hx⟩ := h
  simp only [bookB, Bool.and_eq_true, decide_eq_true_eq, List.all_eq_true]
  exact ⟨⟨l, l2⟩, fun x h => core_true (hx x h)⟩
theorem mem_true {m : Nat} (h : Mem m d) (h1 : 1 ≤ m) (h2 : m ≤ 32) : memB d = true := by
  obtain ⟨xs, rfl, l, hx⟩ := h
  simp only [memB, Bool.and_eq_true, decide_eq_true_eq, List.all_eq_true]
  refine ⟨⟨by omega, by omega⟩, fun x h => ?_⟩
  obtain ⟨i, rfl, hi⟩ := hx x h
  exact w16 hi
end
end G
set_option maxRecDepth 100000
namespace G
open PySem MP
/-! the plain machine, told in its own types -/
inductive In where
  | set (r v : Int) | sm (nm : Str) (r b a : Int) | load (r a k : Int) | store (r a k : Int) | swap (r b a k : Int) | addto (r b a k : Int) | fence | gap | stop | ifz (r t : Int) | jump (t : Int)
def toD : In → PyData
  | .set r v => .tuple [.str "set", .int r, .int v]
  | .sm nm r b a => .tuple [.str nm, .int r, .int b, .int a]
  | .load r a k => .tuple [.str "load", .int r, .int a, .int k]
  | .store r a k => .tuple [.str "store", .int r, .int a, .int k]
  | .swap r b a k => .tuple [.str "swap", .int r, .int b, .int a, .int k]
  | .addto r b a k => .tuple [.str "addto", .int r, .int b, .int a, .int k]
  | .fence => .tuple [.str "fence"]
  | .gap => .tuple [.str "gap"]
  | .stop => .tuple [.str "stop"]
  | .ifz r t => .tuple [.str "ifzero", .int r, .int t]
  | .jump t => .tuple [.str "jump", .int t]
def Nm (nm : Str) : Prop := nm = "add" ∨ nm = "sub" ∨ nm = "and" ∨ nm = "xor" ∨ nm = "below"
/-- an instruction of a core with so many rows -/
def OkI (rows : Int) : In → Prop
  | .set r v => reg r ∧ wrd v
  | .sm nm r b a => Nm nm ∧ reg r ∧ reg b ∧ reg a
  | .load r a k => reg r ∧ reg a ∧ wrd k
  | .store r a k => reg r ∧ reg a ∧ wrd k
  | .swap r b a k => reg r ∧ reg b ∧ reg a ∧ wrd k
  | .addto r b a k => reg r ∧ reg b ∧ reg a ∧ wrd k
  | .fence => True
  | .gap => True
  | .stop => True
  | .ifz r t => reg r ∧ 0 ≤ t ∧ t ≤ rows
  | .jump t => 0 ≤ t ∧ t ≤ rows
theorem ins_typed {rows : Int} {d : PyData} (h : Ins rows d) : ∃ i, d = toD i ∧ OkI rows i := by
  cases h with
  | set h1 h2 => exact ⟨.set _ _, rfl, h1, h2⟩
  | add h1 h2 h3 => exact ⟨.sm "add" _ _ _, rfl, .inl rfl, h1, h2, h3⟩
  | sub h1 h2 h3 => exact ⟨.sm "sub" _ _ _, rfl, .inr (.inl rfl), h1, h2, h3⟩
  | and h1 h2 h3 => exact ⟨.sm "and" _ _ _, rfl, .inr (.inr (.inl rfl)), h1, h2, h3⟩
  | xor h1 h2 h3 => exact ⟨.sm "xor" _ _ _, rfl, .inr (.inr (.inr (.inl rfl))), h1, h2, h3⟩
  | below h1 h2 h3 => exact ⟨.sm "below" _ _ _, rfl, .inr (.inr (.inr (.inr rfl))), h1, h2, h3⟩
  | load h1 h2 h3 => exact ⟨.load _ _ _, rfl, h1, h2, h3⟩
  | store h1 h2 h3 => exact ⟨.store _ _ _, rfl, h1, h2, h3⟩
  | swap h1 h2 h3 h4 => exact ⟨.swap _ _ _ _, rfl, h1, h2, h3, h4⟩
  | addto h1 h2 h3 h4 => exact ⟨.addto _ _ _ _, rfl, h1, h2, h3, h4⟩
  | fence => exact ⟨.fence, rfl, trivial⟩
  | gap => exact ⟨.gap, rfl, trivial⟩
  | stop => exact ⟨.stop, rfl, trivial⟩
  | ifz h1 h2 h3 => exact ⟨.ifz _ _, rfl, h1, h2, h3⟩
  | jump h1 h2 => exact ⟨.jump _, rfl, h1, h2⟩
theorem ins_of {rows : Int} {i : In} (h : OkI rows i) : Ins rows (toD i) := by
  cases i with
  | set r v => exact .set h.1 h.2
  | sm nm r b a =>
    obtain ⟨h0, h1, h2, h3⟩ := h
    rcases h0 with e | e | e | e | e <;> subst e
    · exact .add h1 h2 h3
    · exact .sub h1 h2 h3
    · exact .and h1 h2 h3
    · exact .xor h1 h2 h3
    · exact .below h1 h2 h3
  | load r a k => exact .load h.1 h.2.1 h.2.2
  | store r a k => exact .store h.1 h.2.1 h.2.2
  | swap r b a k => exact .swap h.1 h.2.1 h.2.2.1 h.2.2.2
  | addto r b a k => exact .addto h.1 h.2.1 h.2.2.1 h.2.2.2
  | fence => exact .fence
  | gap => exact .gap
  | stop => exact .stop
  | ifz r t => exact .ifz h.1 h.2.1 h.2.2
  | jump t => exact .jump h.1 h.2
structure Co where
  row : Int
  regs : List Int
  late : List (Int × Int)
structure Sd where
  cs : List Co
  mem : List Int
abbrev intsT (l : List Int) : PyData := .tuple (l.map PyData.int)
abbrev pairD (p : Int × Int) : PyData := .tuple [.int p.1, .int p.2]
def toC (c : Co) : PyData := .tuple [.int c.row, intsT c.regs, .tuple (c.late.map pairD)]
def toS (S : Sd) : PyData := .tuple [.tuple (S.cs.map toC), intsT S.mem]
abbrev Bk := List (List In)
def toR (rows : List In) : PyData := .tuple (rows.map toD)
def toB (B : Bk) : PyData := .tuple (B.map toR)
def gI (l : List Int) (i : Int) : Int := l.getD i.toNat 0
def sumI (nm : Str) (a b : Int) : Int := if nm = "add" then (a + b) % 65536 else if nm = "sub" then (a - b) % 65536 else if nm = "and" then Builtin.bitAnd a b else if nm = "xor" then Builtin.bitXor a b else (if a < b then 1 else 0)
def wordFor (late : List (Int × Int)) (cell dflt : Int) : Int := late.foldl (fun a p => if p.1 = cell then p.2 else a) dflt
def cellOf (mem : List Int) (regs : List Int) (a k : Int) : Int := (gI regs a + k) % (mem.length : Int)
def doI (i : In) (c : Co) (mem : List Int) : Co × List Int := match i with
  | .set r v => (⟨c.row + 1, c.regs.set r.toNat v, c.late⟩, mem)
  | .sm nm r b a => (⟨c.row + 1, c.regs.set r.toNat (sumI nm (gI c.regs b) (gI c.regs a)), c.late⟩, mem)
  | .load r a k => (⟨c.row + 1, c.regs.set r.toNat (wordFor c.late (cellOf mem c.regs a k) (gI mem (cellOf mem c.regs a k))), c.late⟩, mem)
  | .store r a k => (⟨c.row + 1, c.regs, c.late ++ [(cellOf mem c.regs a k, gI c.regs r)]⟩, mem)
  | .swap r b a k => (⟨c.row + 1, c.regs.set r.toNat (gI mem (cellOf mem c.regs a k)), c.late⟩, mem.set (cellOf mem c.regs a k).toNat (gI c.regs b))
  | .addto r b a k => (⟨c.row + 1, c.regs.set r.toNat (gI mem (cellOf mem c.regs a k)), c.late⟩, mem.set (cellOf mem c.regs a k).toNat ((gI mem (cellOf mem c.regs a k) + gI c.regs b) % 65536))
  | .fence => (⟨c.row + 1, c.regs, c.late⟩, mem)
  | .gap => (⟨c.row + 1, c.regs, c.late⟩, mem)
  | .stop => (⟨c.row + 1, c.regs, c.late⟩, mem)
  | .ifz r t => (⟨if gI c.regs r = 0 then t else c.row + 1, c.regs, c.late⟩, mem)
  | .jump t => (⟨t, c.regs, c.late⟩, mem)
/-- a core as it may be -/
structure OkC (rows : List In) (m : Nat) (c : Co) : Prop where
  r0 : 0 ≤ c.row
  r1 : c.row ≤ rows.length
  n8 : c.regs.length = 8
  ws : ∀ x ∈ c.regs, wrd x
  lt : ∀ p ∈ c.late, 0 ≤ p.1 ∧ p.1 < m ∧ wrd p.2
structure OkR (rows : List In) : Prop where
  len : rows.length ≤ 40
  ins : ∀ i ∈ rows, OkI rows.length i
structure OkB (B : Bk) : Prop where
  l1 : 1 ≤ B.length
  l4 : B.length ≤ 4
  rows : ∀ R ∈ B, OkR R
structure OkM (mem : List Int) : Prop where
  l1 : 1 ≤ mem.length
  l2 : mem.length ≤ 32
  ws : ∀ x ∈ mem, wrd x
structure OkS (B : Bk) (S : Sd) : Prop where
  len : S.cs.length = B.length
  cs : ∀ (c : Nat) (R : List In) (k : Co), B[c]? = some R → S.cs[c]? = some k → OkC R S.mem.length k
  mem : OkM S.mem
/-! lists -/
theorem at_c {l : List PyData} {c : Nat} {d : PyData} (h : l[c]? = some d) : L2.atI l (c : Int) = some d := at_nat (by omega) (by simpa using h)
theorem gI_get {l : List Int} {i : Int} (h0 : 0 ≤ i) (h1 : i < l.length) : l[i.toNat]? = some (gI l i) := by
  have h : i.toNat < l.length := by omega
  rw [List.getElem?_eq_getElem h]
  unfold gI
  rw [List.getD_eq_getElem?_getD, List.getElem?_eq_getElem h]
  rfl
theorem gI_mem {l : List Int} {i : Int} (h0 : 0 ≤ i) (h1 : i < l.length) : gI l i ∈ l := List.mem_of_getElem? (gI_get h0 h1)
theorem at_mi {l : List Int} {i : Int} (h0 : 0 ≤ i) (h1 : i < l.length) : L2.atI (l.map PyData.int) i = some (.int (gI l i)) := at_nat h0 (by rw [List.getElem?_map, gI_get h0 h1]; rfl)
theorem cut_lo {l : List PyData} {i : Int} (h0 : 0 ≤ i) : cutL l none (some i) = l.take i.toNat := by
  obtain ⟨k, rfl⟩ : ∃ k : Nat, i = k := ⟨i.toNat, by omega⟩
  unfold cutL
  rw [HT.sIx_none, HT.sIx_nat, List.drop_zero, Nat.sub_zero, Int.toNat_natCast]
  by_cases h : k ≤ l.length
  · rw [Nat.min_eq_left h]
  · rw [Nat.min_eq_right (by omega), List.take_of_length_le (Nat.le_refl _), List.take_of_length_le (by omega)]
theorem cut_hi {l : List PyData} {i : Int} (h0 : 0 ≤ i) : cutL l (some i) none = l.drop i.toNat := by
  obtain ⟨k, rfl⟩ : ∃ k : Nat, i = k := ⟨i.toNat, by omega⟩
  unfold cutL
  rw [HT.sIx_none, HT.sIx_nat, Int.toNat_natCast]
  by_cases h : k ≤ l.length
  · rw [Nat.min_eq_left h, List.take_of_length_le (by rw [List.length_drop]; omega)]
  · rw [Nat.min_eq_right (by omega), List.drop_of_length_le (Nat.le_refl _), List.drop_of_length_le (by omega), List.take_nil]
theorem put_cut {l : List PyData} {i : Int} {d : PyData} (h0 : 0 ≤ i) (h1 : i < l.length) : cutL l none (some i) ++ ([d] ++ cutL l (some (i + 1)) none) = l.set i.toNat d := by
  rw [cut_lo h0, cut_hi (by omega), List.set_eq_take_append_cons_drop, if_pos (by omega), show (i + 1).toNat = i.toNat + 1 from by omega]
  rfl
section
variable {n : Nat} {s : Stk} {d : PyData} {i a b x : Int} {l : List PyData} {nm : Str}
theorem p_36 (h0 : 0 ≤ i) (h1 : i < l.length) (hl : l.length ≤ 1000) (h : isDict d = false) : callAt PT (n + 1) 36 [.val (.tuple l), .val (.int i), .val d] s = .ok (.val (.tuple (l.set i.toNat d))) s := by
  have l1 := len_cut (xs := l) (lo := none) (hi := some i)
  have l2 := len_cut (xs := l) (lo := some (i + 1)) (hi := none)
  rw [c_36, ← put_cut h0 h1]
  simp [F_36, h, lenOk_le (show (cutL l none (some i)).length + 1 ≤ 1000000 by omega), lenOk_le (show (cutL l none (some i)).length + 1 + (cutL l (some (i + 1)) none).length ≤ 1000000 by omega)]
theorem p_18 (h0 : 0 ≤ i) (h1 : i < l.length) (hl : l.length ≤ 1000) (h : isDict d = false) : callAt PT (n + 1) 18 [.val (.tuple l), .val (.int i), .val d] s = .ok (.val (.tuple (l.set i.toNat d))) s := by
  have l1 := len_cut (xs := l) (lo := none) (hi := some i)
  have l2 := len_cut (xs := l) (lo := some (i + 1)) (hi := none)
  rw [c_18, ← put_cut h0 h1]
  simp [F_18, h, lenOk_le (show (cutL l none (some i)).length + 1 ≤ 1000000 by omega), lenOk_le (show (cutL l none (some i)).length + 1 + (cutL l (some (i + 1)) none).length ≤ 1000000 by omega)]
theorem p_37 (h : Nm nm) : callAt PT (n + 1) 37 [.val (.str nm), .val (.int a), .val (.int b)] s = .ok (.val (.int (sumI nm a b))) s := by
  rw [c_37]
  rcases h with e | e | e | e | e <;> subst e <;> simp [F_37, sumI]
theorem p_13 {r y : Int} (h : Nm nm) : callAt PT (n + 1) 13 [.val (.tuple [.str nm, .int r, .int x, .int y]), .val (.tuple [.int a, .int b])] s = .ok (.val (.int (sumI nm a b))) s := by
  rw [c_13]
  rcases h with e | e | e | e | e <;> subst e <;> simp [F_13, sumI]
end
end G
set_option maxRecDepth 100000
namespace G
open PySem MP
/-- the registers that are read; the register that is written -/
def rdI : In → List Int
  | .sm _ _ b a => [b, a]
  | .load _ a _ => [a]
  | .store r a _ => [r, a]
  | .swap _ b a _ => [b, a]
  | .addto _ b a _ => [b, a]
  | .ifz r _ => [r]
  | _ => []
def wrI : In → PyData
  | .set r _ => .int r
  | .sm _ r _ _ => .int r
  | .load r _ _ => .int r
  | .swap r _ _ _ => .int r
  | .addto r _ _ _ => .int r
  | _ => .none
def nrow (i : In) (regs : List Int) (row : Int) : Int := match i with
  | .jump t => t
  | .ifz r t => if gI regs r = 0 then t else row + 1
  | _ => row + 1
section
variable {n : Nat} {s : Stk} {rows : Int} {i : In} {row x : Int} {regs mem : List Int} {late : List (Int × Int)} {cell : Int}
theorem p_11 (h : OkI rows i) : callAt PT (n + 1) 11 [.val (toD i)] s = .ok (.val (.tuple ((rdI i).map PyData.int))) s := by
  rw [c_11]
  cases i with
  | sm nm r b a =>
    obtain ⟨h0, _⟩ := h
    rcases h0 with e | e | e | e | e <;> subst e <;> simp [F_11, toD, rdI]
  | _ => simp [F_11, toD, rdI]
theorem p_12 (h : OkI rows i) : callAt PT (n + 1) 12 [.val (toD i)] s = .ok (.val (wrI i)) s := by
  rw [c_12]
  cases i with
  | sm nm r b a =>
    obtain ⟨h0, _⟩ := h
    rcases h0 with e | e | e | e | e <;> subst e <;> simp [F_12, toD, wrI]
  | _ => simp [F_12, toD, wrI]
abbrev wds (i : In) (regs : List Int) : PyData := .tuple ((rdI i).map fun x => .int (gI regs x))
theorem p_17 (h : OkI rows i) : callAt PT (n + 1) 17 [.val (toD i), .val (.int row), .val (wds i regs)] s = .ok (.val (.int (nrow i regs row))) s := by
  rw [c_17]
  cases i with
  | sm nm r b a =>
    obtain ⟨h0, _⟩ := h
    rcases h0 with e | e | e | e | e <;> subst e <;> simp [F_17, toD, wds, rdI, nrow]
  | ifz r t =>
    by_cases hz : gI regs r = 0
    · simp [F_17, toD, wds, rdI, nrow, hz]
    · simp [F_17, toD, wds, rdI, nrow, hz]
  | _ => simp [F_17, toD, wds, rdI, nrow]
theorem reg_lt {r : Int} (h : reg r) (h8 : regs.length = 8) : 0 ≤ r ∧ r < regs.length := by
  obtain ⟨h1, h2⟩ := h
  omega
theorem at_r {r : Int} (h : reg r) (h8 : regs.length = 8) : L2.atI (regs.map PyData.int) r = some (.int (gI regs r)) := at_mi (reg_lt h h8).1 (reg_lt h h8).2
theorem rd_ok (h : OkI rows i) : ∀ r ∈ rdI i, reg r := by
  intro r hr
  cases i <;> simp only [rdI, List.mem_cons, List.not_mem_nil, or_false] at hr
  · obtain ⟨_, h1, h2, h3⟩ := h
    rcases hr with e | e <;> subst e <;> assumption
  · rw [hr]
    exact h.2.1
  · rcases hr with e | e <;> subst e
    · exact h.1
    · exact h.2.1
  · rcases hr with e | e <;> subst e
    · exact h.2.1
    · exact h.2.2.1
  · rcases hr with e | e <;> subst e
    · exact h.2.1
    · exact h.2.2.1
  · rw [hr]
    exact h.1
theorem cell_lt (hm : 1 ≤ mem.length) {a k : Int} : 0 ≤ cellOf mem regs a k ∧ cellOf mem regs a k < mem.length := ⟨Int.emod_nonneg _ (by omega), Int.emod_lt_of_pos _ (by omega)⟩
theorem at_cell (hm : 1 ≤ mem.length) {a k : Int} : L2.atI (mem.map PyData.int) (cellOf mem regs a k) = some (.int (gI mem (cellOf mem regs a k))) := at_mi (cell_lt hm).1 (cell_lt hm).2
theorem at_m1 {α : Type} {x : α} {l : List α} : L2.atI (x :: l) (-1) = some ((x :: l).getLast (List.cons_ne_nil _ _)) := by
  have h1 : (x :: l).length - 1 < (x :: l).length := by simp
  have h2 : (x :: l)[(x :: l).length - 1]? = some ((x :: l).getLast (List.cons_ne_nil _ _)) := by
    rw [List.getLast_eq_getElem, List.getElem?_eq_getElem h1]
  unfold L2.atI L2.ixN
  rw [if_neg (by omega)]
  rw [if_pos (by simp <;> omega)]
  show (x :: l)[_]? = _
  rw [← h2]
  congr 1
  simp
  try omega
/-! a load's word -/
theorem first_for {C : Callf} {env : Ve} : ∀ {l : List (Int × Int)} {e3 e4 : Option W}, ∃ z3 z4, forL (fT C (.tup [3, 4]) (.cons (.ifs (.val (.cmp .eq (.var 3) (.var 2))) (.cons (.ret (.var 4)) .nil) .nil) .nil)) (l.map pairD) [env[0]?.getD none, env[1]?.getD none, some (.val (.int cell)), e3, e4] s =
    match l.find? fun p => decide (p.1 = cell) with
    | some p => .ok (.rt (.val (.int p.2))) s
    | none => .ok (.nx [env[0]?.getD none, env[1]?.getD none, some (.val (.int cell)), z3, z4]) s
  | [], e3, e4 => ⟨e3, e4, rfl⟩
  | (a, b) :: l, e3, e4 => by
    obtain ⟨z3, z4, h⟩ := first_for (C := C) (env := env) (l := l) (e3 := some (.val (.int a))) (e4 := some (.val (.int b)))
    refine ⟨z3, z4, ?_⟩
    rw [List.map_cons, for_cons]
    by_cases hc : a = cell
    · simp [fT_eq, hc]
    · simp [fT_eq, hc, h]
theorem find_fold {cell d : Int} : ∀ l : List (Int × Int), ((l.find? fun p => decide (p.1 = cell)).map (·.2)).getD d = l.foldr (fun p a => if p.1 = cell then p.2 else a) d
  | [] => rfl
  | p :: l => by
    rw [List.find?_cons, List.foldr_cons]
    by_cases h : p.1 = cell
    · simp [h]
    · simp [h, find_fold l]
theorem p_25 (h : L2.atI (mem.map PyData.int) cell = some (.int x)) : callAt PT (n + 1) 25 [.val (.tuple (late.map pairD)), .val (intsT mem), .val (.int cell)] s = .ok (.val (.int (wordFor late cell x))) s := by
  rw [c_25]
  obtain ⟨z3, z4, e⟩ := first_for (C := callAt PT n) (s := s) (cell := cell) (env := [some (.val (.tuple (late.map pairD))), some (.val (intsT mem))]) (l := late.reverse) (e3 := none) (e4 := none)
  have hw : wordFor late cell x = ((late.reverse.find? fun p => decide (p.1 = cell)).map (·.2)).getD x := by
    rw [find_fold, List.foldr_reverse]
    rfl
  rw [hw]
  simp only [List.map_reverse, List.getElem?_cons_zero, List.getElem?_cons_succ, Option.getD_some] at e
  cases hf : late.reverse.find? fun p => decide (p.1 = cell) with
  | some p =>
    rw [hf] at e
    simp [F_25, e]
  | none =>
    rw [hf] at e
    simp [F_25, e, h]
theorem comp_filter {f : PyData → Stk → Res (Option PyData)} : ∀ {l : List (Int × Int)}, (∀ p ∈ l, f (pairD p) s = .ok (if p.1 = cell then some (.int p.2) else none) s) → compL f (l.map pairD) s = .ok ((l.filter fun p => decide (p.1 = cell)).map fun p => .int p.2) s
  | [], _ => rfl
  | p :: l, h => by
    rw [List.map_cons]
    unfold compL
    rw [h p (List.mem_cons_self ..)]
    simp only
    rw [comp_filter fun q hq => h q (List.mem_cons_of_mem _ hq)]
    by_cases hc : p.1 = cell
    · simp [hc]
    · simp [hc]
theorem last_fold {cell : Int} : ∀ (l : List (Int × Int)) (d : Int), (PyData.int d :: ((l.filter fun p => decide (p.1 = cell)).map fun p => PyData.int p.2)).getLast (List.cons_ne_nil _ _) = .int (wordFor l cell d)
  | [], d => rfl
  | p :: l, d => by
    by_cases hc : p.1 = cell
    · have := last_fold (cell := cell) l p.2
      simp only [List.filter_cons, hc, decide_true, if_true, List.map_cons, List.getLast_cons_cons]
      rw [this]
      unfold wordFor
      simp [hc]
    · have := last_fold (cell := cell) l d
      simp only [List.filter_cons, hc, decide_false, Bool.false_eq_true, if_false]
      rw [this]
      unfold wordFor
      simp [hc]
end
end G
set_option maxRecDepth 100000
namespace G
open PySem MP
@[simp] theorem isB_nI {i : Int} : isB .none (.int i) = some false := (rfl)
@[simp] theorem isB_nT {l : List PyData} : isB .none (.tuple l) = some false := (rfl)
@[simp] theorem isB_nB {a : Bool} : isB .none (.bool a) = some false := (rfl)
@[simp] theorem isB_nn : isB .none .none = some true := (rfl)
section
variable {n : Nat} {s : Stk} {rows : Int} {i : In} {R : List In} {k : Co} {mem : List Int}
abbrev doD (i : In) (k : Co) (mem : List Int) : PyData := .tuple [toC (doI i k mem).1, intsT (doI i k mem).2]
theorem map_set {l : List Int} {j : Nat} {x : Int} : (l.map PyData.int).set j (.int x) = (l.set j x).map PyData.int := by rw [List.map_set]
theorem len_mi {l : List Int} : (l.map PyData.int).length = l.length := by simp
theorem p_26 (hI : OkI rows i) (hC : OkC R mem.length k) (hM : OkM mem) (hl : k.late.length ≤ 1000) : callAt PT (n + 3) 26 [.val (toD i), .val (toC k), .val (intsT mem)] s = .ok (.val (doD i k mem)) s := by
  obtain ⟨row, regs, late⟩ := k
  have h8 : regs.length = 8 := hC.n8
  have hm := hM.l1
  have hm2 := hM.l2
  have hm0 : (0 : Int) < mem.length := by omega
  have hmN : 0 < mem.length := hm
  simp only at hl
  have hc : compL (cT (callAt PT (n + 2)) [12] (.name 12) .none (.sub (.var 4) (.var 12)) [some (.val (toD i)), some (.val (toC ⟨row, regs, late⟩)), some (.val (intsT mem)), some (.val (.int row)), some (.val (intsT regs)), some (.val (.tuple (late.map pairD))), some (.val ((match toD i with | .tuple (z :: _) => z | _ => .none))), none, none, none, none, none, none]) ((rdI i).map PyData.int) s = .ok ((rdI i).map fun x => .int (gI regs x)) s := by
    have := comp_pure (f := cT (callAt PT (n + 2)) [12] (.name 12) .none (.sub (.var 4) (.var 12)) [some (.val (toD i)), some (.val (toC ⟨row, regs, late⟩)), some (.val (intsT mem)), some (.val (.int row)), some (.val (intsT regs)), some (.val (.tuple (late.map pairD))), some (.val ((match toD i with | .tuple (z :: _) => z | _ => .none))), none, none, none, none, none, none]) (g := fun d => match d with | .int x => .int (gI regs x) | d => d) (s := s) (ds := (rdI i).map PyData.int) (fun d hd => by
      obtain ⟨x, hx, rfl⟩ := List.mem_map.mp hd
      simp [cT_eq, at_r (rd_ok hI x hx) h8])
    rw [this, List.map_map]
    rfl
  have hr := p_11 (n := n + 1) (s := s) hI
  have hw := p_12 (n := n + 1) (s := s) hI
  have hn := p_17 (n := n + 1) (s := s) (row := row) (regs := regs) hI
  have hl4 : (rdI i).length ≤ 1000000 := by cases i <;> simp [rdI]
  have hz : ∀ {z : PyData} {r : List PyData}, L2.atI (z :: r) 0 = some z := at_0
  rw [c_26]
  cases i with
  | set r v =>
    obtain ⟨h1, h2⟩ := hI
    obtain ⟨q0, q1⟩ := reg_lt h1 h8
    have hp := p_18 (n := n + 1) (s := s) (i := r) (l := regs.map PyData.int) (d := .int v) q0 (by simpa using q1) (by rw [len_mi]; omega) rfl
    simp only [toD, toC, rdI, wrI, wds, List.map_cons, List.map_nil] at hc hr hw hn ⊢
    simp [F_26, hr, hc, hn, hw, hl4, c_13, F_13, hp, doI, nrow, toC, intsT]
  | sm nm r b a =>
    obtain ⟨h0, h1, h2, h3⟩ := hI
    obtain ⟨q0, q1⟩ := reg_lt h1 h8
    have hp := p_18 (n := n + 1) (s := s) (i := r) (l := regs.map PyData.int) (d := .int (sumI nm (gI regs b) (gI regs a))) q0 (by simpa using q1) (by rw [len_mi]; omega) rfl
    have hs := p_13 (n := n + 1) (s := s) (nm := nm) (r := r) (x := b) (y := a) (a := gI regs b) (b := gI regs a) h0
    simp only [toD, toC, rdI, wrI, wds, List.map_cons, List.map_nil] at hc hr hw hn ⊢
    rcases h0 with e | e | e | e | e <;> subst e <;> simp [F_26, hr, hc, hn, hw, hl4, hs, hp, doI, nrow, toC, intsT]
  | load r a k =>
    obtain ⟨h1, h2, h3⟩ := hI
    obtain ⟨q0, q1⟩ := reg_lt h1 h8
    have hg := at_cell (regs := regs) hm (a := a) (k := k)
    have hf := p_25 (n := n + 1) (s := s) (late := late) hg
    have hp := p_18 (n := n + 1) (s := s) (i := r) (l := regs.map PyData.int) (d := .int (wordFor late (cellOf mem regs a k) (gI mem (cellOf mem regs a k)))) q0 (by simpa using q1) (by rw [len_mi]; omega) rfl
    have hcf : callAt PT (n + 1 + 1) 16 [.val (.int mem.length), .val (.tuple [.str "load", .int r, .int a, .int k]), .val (.tuple [.int (gI regs a)])] s = .ok (.val (.int (cellOf mem regs a k))) s := by
      rw [c_16]
      simp [F_16, c_15, F_15, hm0, hmN, cellOf, at_m1]
    simp only [toD, toC, rdI, wrI, wds, List.map_cons, List.map_nil] at hc hr hw hn ⊢
    simp [F_26, hr, hc, hn, hw, hl4, hcf, hf, hp, doI, nrow, toC, intsT]
  | store r a k =>
    obtain ⟨h1, h2, h3⟩ := hI
    have hcf : callAt PT (n + 1 + 1) 16 [.val (.int mem.length), .val (.tuple [.str "store", .int r, .int a, .int k]), .val (.tuple [.int (gI regs r), .int (gI regs a)])] s = .ok (.val (.int (cellOf mem regs a k))) s := by
      rw [c_16]
      simp [F_16, c_15, F_15, hm0, hmN, cellOf, at_m1]
    simp only [toD, toC, rdI, wrI, wds, List.map_cons, List.map_nil] at hc hr hw hn ⊢
    simp [F_26, hr, hc, hn, hw, hl4, hcf, doI, nrow, toC, intsT, lenOk_le (show late.length + 1 ≤ 1000000 by omega)]
  | swap r b a k =>
    obtain ⟨h1, h2, h3, h4⟩ := hI
    obtain ⟨q0, q1⟩ := reg_lt h1 h8
    have hg := at_cell (regs := regs) hm (a := a) (k := k)
    obtain ⟨g0, g1⟩ := cell_lt (regs := regs) hm (a := a) (k := k)
    have hp := p_18 (n := n + 1) (s := s) (i := r) (l := regs.map PyData.int) (d := .int (gI mem (cellOf mem regs a k))) q0 (by simpa using q1) (by rw [len_mi]; omega) rfl
    have hp2 := p_18 (n := n + 1) (s := s) (i := cellOf mem regs a k) (l := mem.map PyData.int) (d := .int (gI regs b)) g0 (by simpa using g1) (by rw [len_mi]; omega) rfl
    have hcf : callAt PT (n + 1 + 1) 16 [.val (.int mem.length), .val (.tuple [.str "swap", .int r, .int b, .int a, .int k]), .val (.tuple [.int (gI regs b), .int (gI regs a)])] s = .ok (.val (.int (cellOf mem regs a k))) s := by
      rw [c_16]
      simp [F_16, c_15, F_15, hm0, hmN, cellOf, at_m1]
    simp only [toD, toC, rdI, wrI, wds, List.map_cons, List.map_nil] at hc hr hw hn ⊢
    simp [F_26, hr, hc, hn, hw, hl4, hcf, hg, c_14, F_14, hp, hp2, doI, nrow, toC, intsT]
  | addto r b a k =>
    obtain ⟨h1, h2, h3, h4⟩ := hI
    obtain ⟨q0, q1⟩ := reg_lt h1 h8
    have hg := at_cell (regs := regs) hm (a := a) (k := k)
    obtain ⟨g0, g1⟩ := cell_lt (regs := regs) hm (a := a) (k := k)
    have hp := p_18 (n := n + 1) (s := s) (i := r) (l := regs.map PyData.int) (d := .int (gI mem (cellOf mem regs a k))) q0 (by simpa using q1) (by rw [len_mi]; omega) rfl
    have hp2 := p_18 (n := n + 1) (s := s) (i := cellOf mem regs a k) (l := mem.map PyData.int) (d := .int ((gI mem (cellOf mem regs a k) + gI regs b) % 65536)) g0 (by simpa using g1) (by rw [len_mi]; omega) rfl
    have hcf : callAt PT (n + 1 + 1) 16 [.val (.int mem.length), .val (.tuple [.str "addto", .int r, .int b, .int a, .int k]), .val (.tuple [.int (gI regs b), .int (gI regs a)])] s = .ok (.val (.int (cellOf mem regs a k))) s := by
      rw [c_16]
      simp [F_16, c_15, F_15, hm0, hmN, cellOf, at_m1]
    simp only [toD, toC, rdI, wrI, wds, List.map_cons, List.map_nil] at hc hr hw hn ⊢
    simp [F_26, hr, hc, hn, hw, hl4, hcf, hg, c_14, F_14, hp, hp2, doI, nrow, toC, intsT]
  | ifz r t =>
    simp only [toD, toC, rdI, wrI, wds, List.map_cons, List.map_nil] at hc hr hw hn ⊢
    simp [F_26, hr, hc, hn, hw, hl4, doI, nrow, toC, intsT]
  | jump t =>
    simp only [toD, toC, rdI, wrI, wds, List.map_cons, List.map_nil] at hc hr hw hn ⊢
    simp [F_26, hr, hc, hn, hw, hl4, doI, nrow, toC, intsT]
  | _ =>
    simp only [toD, toC, rdI, wrI, wds, List.map_cons, List.map_nil] at hc hr hw hn ⊢
    simp [F_26, hr, hc, hn, hw, hl4, doI, nrow, toC, intsT]
end
end G
set_option maxRecDepth 100000
namespace G
open PySem MP
@[simp] theorem eqvA_cn {d : PyData} {l : List PyData} : PyData.eqvAll (d :: l) [] = false := (rfl)
@[simp] theorem eqvA_nc {d : PyData} {l : List PyData} : PyData.eqvAll [] (d :: l) = false := (rfl)
def nmI : In → Str
  | .set _ _ => "set"
  | .sm nm _ _ _ => nm
  | .load _ _ _ => "load"
  | .store _ _ _ => "store"
  | .swap _ _ _ _ => "swap"
  | .addto _ _ _ _ => "addto"
  | .fence => "fence"
  | .gap => "gap"
  | .stop => "stop"
  | .ifz _ _ => "ifzero"
  | .jump _ => "jump"
def isStop : In → Bool
  | .stop => true
  | _ => false
theorem toD_nm (i : In) : ∃ r, toD i = .tuple (.str (nmI i) :: r) := by cases i <;> exact ⟨_, rfl⟩
theorem nm_stop {rows : Int} {i : In} (h : OkI rows i) : (nmI i = "stop") ↔ isStop i = true := by
  cases i with
  | sm nm r b a =>
    obtain ⟨h0, _⟩ := h
    rcases h0 with e | e | e | e | e <;> subst e <;> simp [nmI, isStop]
  | _ => simp [nmI, isStop]
/-- where a core stands: at the end, at an instruction -/
def atI (R : List In) (k : Co) (i : In) : Prop := R[k.row.toNat]? = some i ∧ k.row < R.length
def still (R : List In) (row : Int) : Bool := decide (row = R.length) || (match R[row.toNat]? with
  | some i => isStop i
  | none => false)
def setC (S : Sd) (c : Nat) (k : Co) (mem : List Int) : Sd := ⟨S.cs.set c k, mem⟩
def doS (S : Sd) (c : Nat) (k : Co) (i : In) : Sd := setC S c (doI i k S.mem).1 (doI i k S.mem).2
def flS (S : Sd) (c : Nat) (k : Co) : Sd := match k.late with
  | p :: r => setC S c ⟨k.row, k.regs, r⟩ (S.mem.set p.1.toNat p.2)
  | [] => S
section
variable {n : Nat} {s : Stk} {rows : Int} {i : In} {R : List In} {k : Co} {B : Bk} {S : Sd} {c : Nat}
theorem at_B (h : B[c]? = some R) : L2.atI (B.map toR) (c : Int) = some (toR R) := at_c (by rw [List.getElem?_map, h]; rfl)
theorem at_S (h : S.cs[c]? = some k) : L2.atI (S.cs.map toC) (c : Int) = some (toC k) := at_c (by rw [List.getElem?_map, h]; rfl)
theorem at_R {x : Int} (h : R[x.toNat]? = some i) (h0 : 0 ≤ x) : L2.atI (R.map toD) x = some (toD i) := at_nat h0 (by rw [List.getElem?_map, h]; rfl)
theorem row_at (hC : OkC R m k) (h : k.row ≠ R.length) : ∃ i, R[k.row.toNat]? = some i ∧ i ∈ R := by
  have h0 := hC.r0
  have h1 := hC.r1
  have h2 : k.row.toNat < R.length := by omega
  exact ⟨_, List.getElem?_eq_getElem h2, List.getElem_mem h2⟩
theorem still_run (hC : OkC R m k) (hs : still R k.row = false) : ∃ i, R[k.row.toNat]? = some i ∧ i ∈ R ∧ isStop i = false ∧ k.row < R.length := by
  unfold still at hs
  rw [Bool.or_eq_false_iff] at hs
  have h1 : k.row ≠ R.length := of_decide_eq_false hs.1
  obtain ⟨i, h2, h3⟩ := row_at hC h1
  have := hs.2
  rw [h2] at this
  have h4 := hC.r1
  exact ⟨i, h2, h3, this, by omega⟩
/-- row_of of a core that goes on -/
theorem p_20 (hB : B[c]? = some R) (hS : S.cs[c]? = some k) (hC : OkC R m k) (hR : OkR R) : callAt PT (n + 1) 20 [.val (toB B), .val (toS S), .val (.int (c : Int))] s = .ok (.val (match still R k.row with | true => .none | false => match R[k.row.toNat]? with | some i => toD i | none => .none)) s := by
  have h1 := at_B hB
  have h2 := at_S hS
  have h0 := hC.r0
  rw [c_20]
  by_cases he : k.row = R.length
  · have hs : still R k.row = true := by simp [still, he]
    rw [hs]
    simp [F_20, toB, toS, toC, h1, h2, toR, he]
  · obtain ⟨i, h3, h4⟩ := row_at hC he
    have h5 := at_R (R := R) h3 h0
    obtain ⟨r, h6⟩ := toD_nm i
    have hn := nm_stop (hR.ins i h4)
    by_cases hst : isStop i = true
    · have hs : still R k.row = true := by simp [still, h3, hst]
      have hz := hn.mpr hst
      simp [F_20, toB, toS, toC, h1, h2, toR, he, hs, h5, h6, hz]
    · have hs : still R k.row = false := by simp [still, h3, hst, he]
      have hz : ¬ nmI i = "stop" := fun e => hst (hn.mp e)
      simp [F_20, toB, toS, toC, h1, h2, toR, he, hs, h3, h5, h6, hz]
theorem p_38 (hB : B[c]? = some R) (hC : OkC R m k) (hR : OkR R) : callAt PT (n + 1) 38 [.val (toB B), .val (.int (c : Int)), .val (.int k.row)] s = .ok (.val (.bool (still R k.row))) s := by
  have h1 := at_B hB
  have h0 := hC.r0
  rw [c_38]
  by_cases he : k.row = R.length
  · simp [F_38, toB, h1, toR, he, still]
  · obtain ⟨i, h3, h4⟩ := row_at hC he
    have h5 := at_R (R := R) h3 h0
    have hz : PyData.eqv (toD i) (.tuple [.str "stop"]) = isStop i := by
      have hk := hR.ins i h4
      cases i with
      | sm nm r b a => simp [toD, isStop]
      | _ => simp [toD, isStop]
    have hd : isDict (toD i) = false := by cases i <;> rfl
    simp [F_38, toB, h1, toR, he, still, h3, h5, hz, hd]
theorem p_21 (hB : B[c]? = some R) (hS : S.cs[c]? = some k) (hC : OkC R m k) (hR : OkR R) : callAt PT (n + 2) 21 [.val (toB B), .val (toS S), .val (.int (c : Int))] s = .ok (.val (.bool (still R k.row))) s := by
  rw [c_21]
  have h := p_20 (n := n) (s := s) hB hS hC hR
  cases hs : still R k.row with
  | true => simp [F_21, h, hs]
  | false =>
    obtain ⟨i, h1, _⟩ := still_run hC hs
    obtain ⟨r, h2⟩ := toD_nm i
    simp [F_21, h, hs, h1, h2]
theorem p_23 (hS : S.cs[c]? = some k) : callAt PT (n + 1) 23 [.val (toS S), .val (.int (c : Int))] s = .ok (.val (.bool (!k.late.isEmpty))) s := by
  have h2 := at_S hS
  rw [c_23]
  cases hl : k.late with
  | nil => simp [F_23, toS, toC, h2, hl]
  | cons p r => simp [F_23, toS, toC, h2, hl]
theorem S_len (hS : S.cs[c]? = some k) : c < S.cs.length := (List.getElem?_eq_some_iff.mp hS).1
theorem p_27 (hB : B[c]? = some R) (hS : S.cs[c]? = some k) (hC : OkC R S.mem.length k) (hR : OkR R) (hM : OkM S.mem) (hl : k.late.length ≤ 1000) (h4 : S.cs.length ≤ 4) (hs : still R k.row = false) (hi : R[k.row.toNat]? = some i) :
    callAt PT (n + 4) 27 [.val (toB B), .val (toS S), .val (.int (c : Int))] s = .ok (.val (toS (doS S c k i))) s := by
  have h1 := p_20 (n := n + 2) (s := s) hB hS hC hR
  rw [hs] at h1
  simp only [hi] at h1
  have h2 := at_S hS
  have hI := hR.ins i (List.mem_of_getElem? hi)
  have h3 := p_26 (n := n) (s := s) hI hC hM hl
  have hc := S_len hS
  have h5 := p_18 (n := n + 2) (s := s) (i := (c : Int)) (l := S.cs.map toC) (d := toC (doI i k S.mem).1) (by omega) (by simpa using hc) (by rw [List.length_map]; omega) rfl
  rw [c_27]
  have hd : isDict (toC (doI i k S.mem).1) = false := rfl
  have e : toS S = .tuple [.tuple (S.cs.map toC), intsT S.mem] := rfl
  rw [e] at h1 ⊢
  simp [F_27, h1, h2, h3, h5, hd, doS, setC, toS, List.map_set]
theorem p_28 {p : Int × Int} {r : List (Int × Int)} (hS : S.cs[c]? = some k) (hl : k.late = p :: r) (hp0 : 0 ≤ p.1) (hp1 : p.1 < S.mem.length) (hm : S.mem.length ≤ 32) (h4 : S.cs.length ≤ 4) :
    callAt PT (n + 2) 28 [.val (toS S), .val (.int (c : Int))] s = .ok (.val (toS (flS S c k))) s := by
  have h2 := at_S hS
  have hc := S_len hS
  have h5 := p_18 (n := n) (s := s) (i := (c : Int)) (l := S.cs.map toC) (d := toC ⟨k.row, k.regs, r⟩) (by omega) (by simpa using hc) (by rw [List.length_map]; omega) rfl
  have h6 := p_18 (n := n) (s := s) (i := p.1) (l := S.mem.map PyData.int) (d := .int p.2) hp0 (by simpa using hp1) (by rw [List.length_map]; omega) rfl
  have hcut : cutL (pairD p :: r.map pairD) (some 1) none = r.map pairD := by rw [cut_hi (by decide)]; rfl
  rw [c_28]
  have e : toS S = .tuple [.tuple (S.cs.map toC), intsT S.mem] := rfl
  have e2 : toC ⟨k.row, k.regs, r⟩ = .tuple [.int k.row, intsT k.regs, .tuple (r.map pairD)] := rfl
  rw [e2] at h5
  simp [F_28, e, h2, toC, hl, hcut, h5, h6, flS, setC, toS, List.map_set]
end
end G
set_option maxRecDepth 100000
namespace G
open PySem MP
@[simp] theorem at_4 {α : Type} {p q r t u : α} {l : List α} : L2.atI (p :: q :: r :: t :: u :: l) 4 = some u := by
  have : (4 : Int) < (l.length : Int) + 1 + 1 + 1 + 1 + 1 := by omega
  simp [L2.atI, L2.ixN, this]
section
variable {n : Nat} {s : Stk} {rows : Int} {i : In} {R : List In} {k : Co} {B : Bk} {S : Sd} {c : Nat}
abbrev doT (c : Nat) : PyData := .tuple [.str "do", .int (c : Int)]
abbrev flT (c : Nat) : PyData := .tuple [.str "flush", .int (c : Int)]
/-- the law's own step -/
theorem p_39 (hB : B[c]? = some R) (hS : S.cs[c]? = some k) (hC : OkC R S.mem.length k) (hR : OkR R) (hM : OkM S.mem) (hl : k.late.length ≤ 1000) (h4 : S.cs.length ≤ 4) (hi : R[k.row.toNat]? = some i) :
    callAt PT (n + 2) 39 [.val (toB B), .val (toS S), .val (doT c)] s = .ok (.val (toS (doS S c k i))) s := by
  obtain ⟨cs, mem⟩ := S
  obtain ⟨row, regs, late⟩ := k
  have h1 := at_B hB
  have h2 := at_S hS
  have h0 := hC.r0
  have h5 := at_R (R := R) hi h0
  have hI := hR.ins i (List.mem_of_getElem? hi)
  have h8 : regs.length = 8 := hC.n8
  have hm : 1 ≤ mem.length := hM.l1
  have hm2 : mem.length ≤ 32 := hM.l2
  have hm0 : (0 : Int) < mem.length := by omega
  have hmN : 0 < mem.length := hm
  have hc := S_len hS
  simp only at hl h4 hc h0 h2 h5
  have hp : ∀ {d : PyData}, isDict d = false → callAt PT (n + 1) 36 [.val (.tuple (cs.map toC)), .val (.int (c : Int)), .val d] s = .ok (.val (.tuple ((cs.map toC).set c d))) s := fun {d} hd => by
    have := p_36 (n := n) (s := s) (i := (c : Int)) (l := cs.map toC) (d := d) (by omega) (by simpa using hc) (by rw [List.length_map]; omega) hd
    simpa using this
  have hpr : ∀ {r x : Int}, reg r → callAt PT (n + 1) 36 [.val (.tuple (regs.map PyData.int)), .val (.int r), .val (.int x)] s = .ok (.val (.tuple ((regs.set r.toNat x).map PyData.int))) s := fun {r x} hr => by
    obtain ⟨q0, q1⟩ := reg_lt hr h8
    rw [List.map_set]
    exact p_36 (n := n) (s := s) (i := r) (l := regs.map PyData.int) (d := .int x) q0 (by simpa using q1) (by rw [len_mi]; omega) rfl
  rw [c_39]
  have e : toS ⟨cs, mem⟩ = .tuple [.tuple (cs.map toC), intsT mem] := rfl
  have eB : toB B = .tuple (B.map toR) := rfl
  have eR : toR R = .tuple (R.map toD) := rfl
  have eC : toC ⟨row, regs, late⟩ = .tuple [.int row, intsT regs, .tuple (late.map pairD)] := rfl
  rw [e, eB]
  rw [eR] at h1
  rw [eC] at h2
  have fin : ∀ {k' : Co} {m' : List Int}, (cs.map toC).set c (toC k') = (cs.set c k').map toC := fun {k' m'} => by rw [List.map_set]
  cases i with
  | set r v =>
    obtain ⟨i1, i2⟩ := hI
    have h6 := hp (d := toC ⟨row + 1, regs.set r.toNat v, late⟩) rfl
    simp only [toC, intsT, List.map_set] at h6
    simp only [toD] at h5
    simp [F_39, h1, h2, h5, hpr i1, h6, doS, setC, doI, toS, toC, intsT]
  | sm nm r b a =>
    obtain ⟨i0, i1, i2, i3⟩ := hI
    have h6 := hp (d := toC ⟨row + 1, regs.set r.toNat (sumI nm (gI regs b) (gI regs a)), late⟩) rfl
    have h7 := p_37 (n := n) (s := s) (a := gI regs b) (b := gI regs a) i0
    simp only [toC, intsT, List.map_set] at h6
    simp only [toD] at h5
    rcases i0 with e | e | e | e | e <;> subst e <;> simp [F_39, h1, h2, h5, at_r i2 h8, at_r i3 h8, h7, hpr i1, h6, doS, setC, doI, toS, toC, intsT]
  | load r a k =>
    obtain ⟨i1, i2, i3⟩ := hI
    have h6 := hp (d := toC ⟨row + 1, regs.set r.toNat (wordFor late (cellOf mem regs a k) (gI mem (cellOf mem regs a k))), late⟩) rfl
    simp only [toC, intsT, List.map_set] at h6
    simp only [toD] at h5
    have hg := at_cell (regs := regs) hm (a := a) (k := k)
    have hcell : (gI regs a + k) % (mem.length : Int) = cellOf mem regs a k := rfl
    have hlz : late.length ≤ 1000000 := by omega
    have hcf : ∀ env : Ve, (∃ x0 x1 x2 x3 x4 x5 x6 x7 x8 x9 x10 x11, env = [x0, x1, x2, x3, x4, x5, x6, x7, x8, x9, x10, x11, some (.val (.int (cellOf mem regs a k))), none, none, none]) → compL (cT (callAt PT (n + 1)) [15, 13] (.tup [15, 13]) (.some (.val (.cmp .eq (.var 15) (.var 12)))) (.var 13) env) (late.map pairD) s = .ok ((late.filter fun p => decide (p.1 = cellOf mem regs a k)).map fun p => .int p.2) s := by
      rintro env ⟨x0, x1, x2, x3, x4, x5, x6, x7, x8, x9, x10, x11, rfl⟩
      refine comp_filter fun p hp => ?_
      by_cases hpc : p.1 = cellOf mem regs a k
      · simp [cT_eq, hpc]
      · simp [cT_eq, hpc]
    have hlast := last_fold (cell := cellOf mem regs a k) late (gI mem (cellOf mem regs a k))
    have hlf : (late.filter fun p => decide (p.1 = cellOf mem regs a k)).length ≤ late.length := List.length_filter_le _ _
    have hz2 : lenOk (1 + (late.filter fun p => decide (p.1 = cellOf mem regs a k)).length) = true := lenOk_le (by omega)
    have hz3 : lenOk ((late.filter fun p => decide (p.1 = cellOf mem regs a k)).length + 1) = true := lenOk_le (by omega)
    simp [F_39, h1, h2, h5, at_r i2 h8, hmN, hm0, hcell, hg, hlz, hcf, hz2, hz3, at_m1, hlast, hpr i1, h6, doS, setC, doI, toS, toC, intsT]
  | store r a k =>
    obtain ⟨i1, i2, i3⟩ := hI
    have h6 := hp (d := toC ⟨row + 1, regs, late ++ [(cellOf mem regs a k, gI regs r)]⟩) rfl
    simp only [toC, intsT, List.map_append, List.map_cons, List.map_nil] at h6
    simp only [toD] at h5
    have hcell : (gI regs a + k) % (mem.length : Int) = cellOf mem regs a k := rfl
    simp [F_39, h1, h2, h5, at_r i2 h8, at_r i1 h8, hmN, hm0, hcell, lenOk_le (show late.length + 1 ≤ 1000000 by omega), h6, doS, setC, doI, toS, toC, intsT]
  | swap r b a k =>
    obtain ⟨i1, i2, i3, i4⟩ := hI
    have h6 := hp (d := toC ⟨row + 1, regs.set r.toNat (gI mem (cellOf mem regs a k)), late⟩) rfl
    simp only [toC, intsT, List.map_set] at h6
    simp only [toD] at h5
    have hg := at_cell (regs := regs) hm (a := a) (k := k)
    obtain ⟨g0, g1⟩ := cell_lt (regs := regs) hm (a := a) (k := k)
    have hp2 := p_36 (n := n) (s := s) (i := cellOf mem regs a k) (l := mem.map PyData.int) (d := .int (gI regs b)) g0 (by simpa using g1) (by rw [len_mi]; omega) rfl
    have hcell : (gI regs a + k) % (mem.length : Int) = cellOf mem regs a k := rfl
    simp [F_39, h1, h2, h5, at_r i2 h8, at_r i3 h8, hmN, hm0, hcell, hg, hp2, hpr i1, h6, doS, setC, doI, toS, toC, intsT]
  | addto r b a k =>
    obtain ⟨i1, i2, i3, i4⟩ := hI
    have h6 := hp (d := toC ⟨row + 1, regs.set r.toNat (gI mem (cellOf mem regs a k)), late⟩) rfl
    simp only [toC, intsT, List.map_set] at h6
    simp only [toD] at h5
    have hg := at_cell (regs := regs) hm (a := a) (k := k)
    obtain ⟨g0, g1⟩ := cell_lt (regs := regs) hm (a := a) (k := k)
    have hp2 := p_36 (n := n) (s := s) (i := cellOf mem regs a k) (l := mem.map PyData.int) (d := .int ((gI mem (cellOf mem regs a k) + gI regs b) % 65536)) g0 (by simpa using g1) (by rw [len_mi]; omega) rfl
    have hcell : (gI regs a + k) % (mem.length : Int) = cellOf mem regs a k := rfl
    simp [F_39, h1, h2, h5, at_r i2 h8, at_r i3 h8, hmN, hm0, hcell, hg, hp2, hpr i1, h6, doS, setC, doI, toS, toC, intsT]
  | ifz r t =>
    obtain ⟨i1, i2⟩ := hI
    have h6 := hp (d := toC ⟨if gI regs r = 0 then t else row + 1, regs, late⟩) rfl
    simp only [toC, intsT] at h6
    simp only [toD] at h5
    by_cases hz : gI regs r = 0
    · simp only [hz, if_true] at h6
      simp [F_39, h1, h2, h5, at_r i1 h8, hz, h6, doS, setC, doI, toS, toC, intsT]
    · simp only [hz, if_false] at h6
      simp [F_39, h1, h2, h5, at_r i1 h8, hz, h6, doS, setC, doI, toS, toC, intsT]
  | jump t =>
    have h6 := hp (d := toC ⟨t, regs, late⟩) rfl
    simp only [toC, intsT] at h6
    simp only [toD] at h5
    simp [F_39, h1, h2, h5, h6, doS, setC, doI, toS, toC, intsT]
  | _ =>
    have h6 := hp (d := toC ⟨row + 1, regs, late⟩) rfl
    simp only [toC, intsT] at h6
    simp only [toD] at h5
    simp [F_39, h1, h2, h5, h6, doS, setC, doI, toS, toC, intsT]
/-- .. a store written -/
theorem p_39f {p : Int × Int} {r : List (Int × Int)} (hS : S.cs[c]? = some k) (hl : k.late = p :: r) (hp0 : 0 ≤ p.1) (hp1 : p.1 < S.mem.length) (hm : S.mem.length ≤ 32) (h4 : S.cs.length ≤ 4) :
    callAt PT (n + 2) 39 [.val (toB B), .val (toS S), .val (flT c)] s = .ok (.val (toS (flS S c k))) s := by
  have h2 := at_S hS
  have hc := S_len hS
  have h5 := p_36 (n := n) (s := s) (i := (c : Int)) (l := S.cs.map toC) (d := toC ⟨k.row, k.regs, r⟩) (by omega) (by simpa using hc) (by rw [List.length_map]; omega) rfl
  have h6 := p_36 (n := n) (s := s) (i := p.1) (l := S.mem.map PyData.int) (d := .int p.2) hp0 (by simpa using hp1) (by rw [List.length_map]; omega) rfl
  have hcut : cutL (pairD p :: r.map pairD) (some 1) none = r.map pairD := by rw [cut_hi (by decide)]; rfl
  rw [c_39]
  have e : toS S = .tuple [.tuple (S.cs.map toC), intsT S.mem] := rfl
  have e2 : toC ⟨k.row, k.regs, r⟩ = .tuple [.int k.row, intsT k.regs, .tuple (r.map pairD)] := rfl
  rw [e2] at h5
  simp [F_39, e, h2, toC, hl, hcut, h5, h6, flS, setC, toS, List.map_set]
end
end G
set_option maxRecDepth 100000
namespace G
open PySem MP
section
variable {n : Nat} {s : Stk} {rows : Int} {i : In} {R : List In} {k : Co} {B : Bk} {S : Sd} {c : Nat} {mem : List Int}
theorem sumI_wrd {nm : Str} {a b : Int} (h : Nm nm) (ha : wrd a) (hb : wrd b) : wrd (sumI nm a b) := by
  obtain ⟨a0, a1⟩ := ha
  obtain ⟨b0, b1⟩ := hb
  rcases h with e | e | e | e | e <;> subst e
  · simp only [sumI, if_true]
    exact ⟨Int.emod_nonneg _ (by decide), by have := Int.emod_lt_of_pos (a + b) (show (0 : Int) < 65536 by decide); omega⟩
  · simp [sumI]
    exact ⟨Int.emod_nonneg _ (by decide), by have := Int.emod_lt_of_pos (a - b) (show (0 : Int) < 65536 by decide); omega⟩
  · simp [sumI]
    rw [PyProof.Rows.bitAnd_pp a0 b0]
    have : a.toNat &&& b.toNat ≤ a.toNat := Nat.and_le_left
    exact ⟨by omega, by omega⟩
  · simp [sumI]
    rw [Bits.bitXor_pp a0 b0]
    have : a.toNat ^^^ b.toNat < 2 ^ 16 := Nat.xor_lt_two_pow (by omega) (by omega)
    exact ⟨by omega, by omega⟩
  · simp [sumI]
    split <;> exact ⟨by decide, by decide⟩
theorem mem_setI {l : List Int} {j : Nat} {x y : Int} (h : y ∈ l.set j x) : y ∈ l ∨ y = x := List.mem_or_eq_of_mem_set h
theorem wordFor_wrd {late : List (Int × Int)} {cell d : Int} (h : ∀ p ∈ late, wrd p.2) (hd : wrd d) : wrd (wordFor late cell d) := by
  unfold wordFor
  induction late generalizing d with
  | nil => exact hd
  | cons p l ih =>
    rw [List.foldl_cons]
    refine ih (fun q hq => h q (List.mem_cons_of_mem _ hq)) ?_
    split
    · exact h p (List.mem_cons_self ..)
    · exact hd
theorem doI_ok (hR : OkR R) (hC : OkC R mem.length k) (hM : OkM mem) (hi : R[k.row.toNat]? = some i) (hr : k.row < R.length) : OkC R mem.length (doI i k mem).1 ∧ OkM (doI i k mem).2 ∧ (doI i k mem).2.length = mem.length := by
  have hI := hR.ins i (List.mem_of_getElem? hi)
  have h0 := hC.r0
  have h8 := hC.n8
  have g : ∀ {r : Int}, reg r → wrd (gI k.regs r) := fun {r} h => hC.ws _ (gI_mem (reg_lt h h8).1 (reg_lt h h8).2)
  have gm : ∀ {a b : Int}, wrd (gI mem (cellOf mem k.regs a b)) := fun {a b} => hM.ws _ (gI_mem (cell_lt hM.l1).1 (cell_lt hM.l1).2)
  have setr : ∀ {r x : Int} {row : Int}, 0 ≤ row → row ≤ R.length → wrd x → OkC R mem.length ⟨row, k.regs.set r.toNat x, k.late⟩ := fun {r x row} r0 r1 hx =>
    ⟨r0, r1, by rw [List.length_set]; exact h8, fun y hy => (mem_setI hy).elim (hC.ws y) fun e => e ▸ hx, hC.lt⟩
  have setm : ∀ {j x : Int}, wrd x → OkM (mem.set j.toNat x) := fun {j x} hx => ⟨by rw [List.length_set]; exact hM.l1, by rw [List.length_set]; exact hM.l2, fun y hy => (mem_setI hy).elim (hM.ws y) fun e => e ▸ hx⟩
  have same : ∀ {row : Int}, 0 ≤ row → row ≤ R.length → OkC R mem.length ⟨row, k.regs, k.late⟩ := fun r0 r1 => ⟨r0, r1, h8, hC.ws, hC.lt⟩
  cases i with
  | set r v => exact ⟨setr (by omega) (by omega) hI.2, hM, rfl⟩
  | sm nm r b a => exact ⟨setr (by omega) (by omega) (sumI_wrd hI.1 (g hI.2.2.1) (g hI.2.2.2)), hM, rfl⟩
  | load r a b => exact ⟨setr (by omega) (by omega) (wordFor_wrd (fun p hp => (hC.lt p hp).2.2) gm), hM, rfl⟩
  | store r a b =>
    refine ⟨⟨?_, ?_, h8, hC.ws, fun p hp => ?_⟩, hM, rfl⟩
    · show 0 ≤ k.row + 1
      omega
    · show k.row + 1 ≤ R.length
      omega
    · rcases List.mem_append.mp hp with hp | hp
      · exact hC.lt p hp
      · have e : p = (cellOf mem k.regs a b, gI k.regs r) := by simpa using hp
        subst e
        exact ⟨(cell_lt hM.l1).1, (cell_lt hM.l1).2, g hI.1⟩
  | swap r b a x => exact ⟨by simpa [doI] using setr (r := r) (by omega) (by omega) gm, setm (g hI.2.1), by simp [doI]⟩
  | addto r b a x => exact ⟨by simpa [doI] using setr (r := r) (by omega) (by omega) gm, setm ⟨Int.emod_nonneg _ (by decide), by have := Int.emod_lt_of_pos (gI mem (cellOf mem k.regs a x) + gI k.regs b) (show (0 : Int) < 65536 by decide); omega⟩, by simp [doI]⟩
  | fence => exact ⟨same (by omega) (by omega), hM, rfl⟩
  | gap => exact ⟨same (by omega) (by omega), hM, rfl⟩
  | stop => exact ⟨same (by omega) (by omega), hM, rfl⟩
  | ifz r t =>
    refine ⟨?_, hM, rfl⟩
    show OkC R mem.length ⟨if gI k.regs r = 0 then t else k.row + 1, k.regs, k.late⟩
    split
    · exact same hI.2.1 hI.2.2
    · exact same (by omega) (by omega)
  | jump t => exact ⟨same hI.1 hI.2, hM, rfl⟩
theorem doS_ok (hB : OkB B) (hS : OkS B S) (h1 : B[c]? = some R) (h2 : S.cs[c]? = some k) (hi : R[k.row.toNat]? = some i) (hr : k.row < R.length) : OkS B (doS S c k i) := by
  have hR := hB.rows R (List.mem_of_getElem? h1)
  have hC := hS.cs c R k h1 h2
  obtain ⟨q1, q2, q3⟩ := doI_ok hR hC hS.mem hi hr
  refine ⟨?_, fun c' R' k' e1 e2 => ?_, q2⟩
  · show (S.cs.set c _).length = _
    rw [List.length_set]
    exact hS.len
  · have e2' : (S.cs.set c (doI i k S.mem).1)[c']? = some k' := e2
    show OkC R' (doI i k S.mem).2.length k'
    rw [q3]
    by_cases hc : c = c'
    · subst hc
      rw [List.getElem?_set_self (S_len h2)] at e2'
      cases e2'
      rw [h1] at e1
      cases e1
      exact q1
    · rw [List.getElem?_set_ne hc] at e2'
      exact hS.cs c' R' k' e1 e2'
theorem flS_ok (hS : OkS B S) (h1 : B[c]? = some R) (h2 : S.cs[c]? = some k) : OkS B (flS S c k) := by
  have hC := hS.cs c R k h1 h2
  unfold flS
  cases hl : k.late with
  | nil => exact hS
  | cons p r =>
    have hp := hC.lt p (by rw [hl]; exact List.mem_cons_self ..)
    refine ⟨by show (S.cs.set c _).length = _; rw [List.length_set]; exact hS.len, fun c' R' k' e1 e2 => ?_, ⟨by show 1 ≤ (S.mem.set _ _).length; rw [List.length_set]; exact hS.mem.l1, by show (S.mem.set _ _).length ≤ 32; rw [List.length_set]; exact hS.mem.l2, fun y hy => (mem_setI hy).elim (hS.mem.ws y) fun e => e ▸ hp.2.2⟩⟩
    have e2' : (S.cs.set c ⟨k.row, k.regs, r⟩)[c']? = some k' := e2
    show OkC R' (S.mem.set _ _).length k'
    rw [List.length_set]
    by_cases hc : c = c'
    · subst hc
      rw [List.getElem?_set_self (S_len h2)] at e2'
      cases e2'
      rw [h1] at e1
      cases e1
      exact ⟨hC.r0, hC.r1, hC.n8, hC.ws, fun q hq => hC.lt q (by rw [hl]; exact List.mem_cons_of_mem _ hq)⟩
    · rw [List.getElem?_set_ne hc] at e2'
      exact hS.cs c' R' k' e1 e2'
/-! stands can be shown -/
theorem numA_map {α : Type} {f : α → PyData} : ∀ {l : List α}, (∀ x ∈ l, num (f x) = true) → numAll (l.map f) = true
  | [], _ => rfl
  | x :: l, h => by
    rw [List.map_cons]
    show (num (f x) && numAll (l.map f)) = true
    rw [h x (List.mem_cons_self ..), numA_map fun y hy => h y (List.mem_cons_of_mem _ hy)]
    rfl
theorem wdA_map {α : Type} {f : α → PyData} {b : Nat} : ∀ {l : List α}, (∀ x ∈ l, wd (f x) ≤ b) → wdAll (l.map f) ≤ l.length * (b + 2)
  | [], _ => by simp [wdAll]
  | x :: l, h => by
    rw [List.map_cons]
    have h1 := h x (List.mem_cons_self ..)
    have h2 := wdA_map (f := f) (b := b) (l := l) fun y hy => h y (List.mem_cons_of_mem _ hy)
    show wd (f x) + 2 + wdAll (l.map f) ≤ _
    rw [List.length_cons, Nat.add_mul]
    omega
theorem depA_map {α : Type} {f : α → PyData} {b : Nat} : ∀ {l : List α}, (∀ x ∈ l, (f x).depth ≤ b) → PyData.depthAll (l.map f) ≤ b
  | [], _ => by simp
  | x :: l, h => by
    rw [List.map_cons, depA_cons]
    exact Nat.max_le.mpr ⟨h x (List.mem_cons_self ..), depA_map fun y hy => h y (List.mem_cons_of_mem _ hy)⟩
theorem wrd_num {r : Int} (h : wrd r) : num (.int r) = true := by
  obtain ⟨h1, h2⟩ := h
  have h3 : r.natAbs ≤ 65535 := by omega
  exact decide_eq_true (Nat.lt_of_le_of_lt h3 (by decide))
theorem ints_show {l : List Int} (h : ∀ x ∈ l, wrd x) : num (intsT l) = true ∧ (intsT l).depth ≤ 1 ∧ wd (intsT l) ≤ l.length * 33 + 4 := by
  refine ⟨numA_map fun x hx => wrd_num (h x hx), ?_, ?_⟩
  · show PyData.depth (.tuple _) ≤ 1
    rw [dep_tup]
    exact Nat.succ_le_succ (depA_map fun x _ => by simp)
  · have := wdA_map (f := PyData.int) (b := 31) (l := l) fun x _ => Nat.le_refl _
    show wdAll _ + 4 ≤ _
    omega
theorem co_show (hC : OkC R mem.length k) (hR : OkR R) (hm : mem.length ≤ 32) (hl : k.late.length ≤ 1000) : num (toC k) = true ∧ (toC k).depth ≤ 3 ∧ wd (toC k) ≤ 73000 := by
  obtain ⟨w1, w2, w3⟩ := ints_show hC.ws
  have h8 := hC.n8
  have hr0 := hC.r0
  have hr1 := hC.r1
  have hr2 := hR.len
  have n1 : num (.int k.row) = true := wrd_num ⟨hr0, by omega⟩
  have l1 : numAll (k.late.map pairD) = true := numA_map fun p hp => by
    obtain ⟨p0, p1, p2⟩ := hC.lt p hp
    simp [pairD, num, numAll]
    exact ⟨of_decide_eq_true (wrd_num ⟨p0, by omega⟩), of_decide_eq_true (wrd_num p2)⟩
  have l2 : PyData.depthAll (k.late.map pairD) ≤ 1 := depA_map fun p _ => by simp [pairD]
  have l3 := wdA_map (f := pairD) (b := 70) (l := k.late) fun p _ => by simp [pairD, wd, wdAll]
  refine ⟨?_, ?_, ?_⟩
  · simp only [toC, num, numAll, Bool.and_true, Bool.and_eq_true]
    exact ⟨n1, w1, l1⟩
  · have a1 : PyData.depth (.tuple (k.late.map pairD)) ≤ 2 := by rw [dep_tup]; omega
    have a2 : PyData.depthAll [PyData.int k.row, intsT k.regs, .tuple (k.late.map pairD)] ≤ 2 := by
      rw [depA_cons, depA_cons, depA_cons, depA_nil, dep_int]
      omega
    unfold toC
    rw [dep_tup]
    omega
  · show wd (.int k.row) + 2 + (wd (intsT k.regs) + 2 + (wdAll (k.late.map pairD) + 4 + 2 + 0)) + 4 ≤ _
    show 31 + 2 + (wd (intsT k.regs) + 2 + (wdAll (k.late.map pairD) + 4 + 2 + 0)) + 4 ≤ _
    omega
theorem sd_show (hB : OkB B) (hS : OkS B S) (hl : ∀ k ∈ S.cs, k.late.length ≤ 1000) : num (toS S) = true ∧ (toS S).depth ≤ 6 ∧ wd (toS S) ≤ 300000 := by
  obtain ⟨w1, w2, w3⟩ := ints_show hS.mem.ws
  have hlen := hS.len
  have h4 := hB.l4
  have hm := hS.mem.l2
  have each : ∀ k ∈ S.cs, num (toC k) = true ∧ (toC k).depth ≤ 3 ∧ wd (toC k) ≤ 73000 := fun k hk => by
    obtain ⟨c, hc, e⟩ := List.getElem_of_mem hk
    have hc2 : c < B.length := by omega
    have hR := hB.rows B[c] (List.getElem_mem hc2)
    exact co_show (hS.cs c B[c] k (List.getElem?_eq_getElem hc2) (by rw [List.getElem?_eq_getElem hc, e])) hR hm (hl k hk)
  have a1 := numA_map (f := toC) (l := S.cs) fun k hk => (each k hk).1
  have a2 := depA_map (f := toC) (l := S.cs) (b := 3) fun k hk => (each k hk).2.1
  have a3 := wdA_map (f := toC) (l := S.cs) (b := 73000) fun k hk => (each k hk).2.2
  refine ⟨?_, ?_, ?_⟩
  · simp only [toS, num, numAll, Bool.and_true, Bool.and_eq_true]
    exact ⟨a1, w1⟩
  · unfold toS
    rw [dep_tup, depA_cons, depA_cons, depA_nil, dep_tup]
    omega
  · show wdAll (S.cs.map toC) + 4 + 2 + (wd (intsT S.mem) + 2 + 0) + 4 ≤ _
    have : S.cs.length * (73000 + 2) ≤ 4 * 73002 := Nat.mul_le_mul (by omega) (Nat.le_refl _)
    omega
end
end G
set_option maxRecDepth 100000
namespace G
open PySem MP
/-- data that can be built anew, so many deep -/
def okA : Nat → PyData → Prop
  | 0, .list _ => False
  | 0, .tuple _ => False
  | m + 1, .list xs => xs.length ≤ 1000000 ∧ ∀ x ∈ xs, okA m x
  | m + 1, .tuple xs => xs.length ≤ 1000000 ∧ ∀ x ∈ xs, okA m x
  | _, .dict _ => False
  | _, _ => True
theorem okA_nd : ∀ {m : Nat} {d : PyData}, okA m d → isDict d = false
  | 0, .dict _, h => h.elim
  | _ + 1, .dict _, h => h.elim
  | _, .none, _ => rfl
  | _, .bool _, _ => rfl
  | _, .int _, _ => rfl
  | _, .str _, _ => rfl
  | _, .list _, _ => rfl
  | _, .tuple _, _ => rfl
def rvOf : PyData → Rv
  | .list xs => .new xs
  | d => .val d
theorem rv_bind {d : PyData} {s : Stk} : kRv (rvOf d) s = .ok (.val d) s := by cases d <;> rfl
section
variable {n : Nat} {s : Stk} {d : PyData} {B : Bk} {S : Sd} {mem : List Int}
theorem p_1 : ∀ {m n : Nat} {d : PyData}, okA m d → callAt PT (n + m + 1) 1 [.val d] s = .ok (rvOf d) s
  | 0, n, d, h => by
    rw [c_1]
    cases d with
    | list _ => exact h.elim
    | tuple _ => exact h.elim
    | dict _ => exact h.elim
    | _ => simp [F_1, isTy, rvOf]
  | m + 1, n, d, h => by
    rw [c_1]
    cases d with
    | dict _ => exact h.elim
    | list xs =>
      obtain ⟨h1, h2⟩ := h
      have hc : compL (cT (callAt PT (n + (m + 1))) [1] (.name 1) .none (.call 1 (.cons (.var 1) .nil)) [some (.val (.list xs)), none]) xs s = .ok (xs.map id) s := comp_pure fun x hx => by
        have := p_1 (n := n) (h2 x hx)
        rw [show n + (m + 1) = n + m + 1 from rfl]
        simp [cT_eq, this, rv_bind, okA_nd (h2 x hx)]
      simp [F_1, isTy, rvOf, lenOk_le h1, hc]
    | tuple xs =>
      obtain ⟨h1, h2⟩ := h
      have hc : compL (cT (callAt PT (n + (m + 1))) [1] (.name 1) .none (.call 1 (.cons (.var 1) .nil)) [some (.val (.tuple xs)), none]) xs s = .ok (xs.map id) s := comp_pure fun x hx => by
        have := p_1 (n := n) (h2 x hx)
        rw [show n + (m + 1) = n + m + 1 from rfl]
        simp [cT_eq, this, rv_bind, okA_nd (h2 x hx)]
      simp [F_1, isTy, rvOf, lenOk_le h1, hc]
    | _ => simp [F_1, isTy, rvOf]
theorem p_9 (hb : bookB d = true) (h : d.hasDict = false) : callAt PT (n + 8) 9 [.val d] s = .ok (.val .none) s := by
  rw [c_9]
  simp [F_9, p_7 h, hb]
theorem p_9x (hb : bookB d = false) (h : d.hasDict = false) (ha : okA 6 d) : callAt PT (n + 8) 9 [.val d] s = .exc 0 d s := by
  rw [c_9]
  simp [F_9, p_7 h, hb, p_1 (n := n) ha, rv_bind, kRs_eq (okA_nd ha)]
theorem p_10 (hb : memB d = true) (h : d.hasDict = false) : callAt PT (n + 5) 10 [.val d, .val .none] s = .ok (.val .none) s := by
  rw [c_10]
  simp [F_10, p_8 h, hb]
theorem p_10x (hb : memB d = false) (h : d.hasDict = false) (ha : okA 3 d) : callAt PT (n + 5) 10 [.val d, .val .none] s = .exc 1 d s := by
  rw [c_10]
  simp [F_10, p_8 h, hb, p_1 (n := n) ha, rv_bind, kRs_eq (okA_nd ha)]
/-- the first stand -/
def S0 (B : Bk) (mem : List Int) : Sd := ⟨B.map fun _ => ⟨0, List.replicate 8 0, []⟩, mem⟩
theorem z8 : bop .mul (.tuple [.int 0]) (.int 8) = some (intsT (List.replicate 8 0)) := by rfl
theorem p_19 (hB : B.length ≤ 4) : callAt PT (n + 1) 19 [.val (toB B), .val (intsT mem)] s = .ok (.val (toS (S0 B mem))) s := by
  rw [c_19]
  have hc : compL (cT (callAt PT n) [2] (.name 2) .none (.tup (.cons (.cst (.int 0)) (.cons (.bin .mul (.tup (.cons (.cst (.int 0)) .nil)) (.cst (.int 8))) (.cons (.tup .nil) .nil)))) [some (.val (toB B)), some (.val (intsT mem)), none]) (B.map toR) s = .ok ((B.map toR).map fun _ => toC ⟨0, List.replicate 8 0, []⟩) s := comp_pure fun x hx => by
    simp [cT_eq, z8, toC, -bop_mulT]
  simp only [toB] at hc ⊢
  simp [F_19, hc, lenOk_le (show B.length ≤ 1000000 by omega), S0, toS]
theorem p_40 (hB : B.length ≤ 4) : callAt PT (n + 1) 40 [.val (toB B), .val (intsT mem)] s = .ok (.val (toS (S0 B mem))) s := by
  rw [c_40]
  have hc : compL (cT (callAt PT n) [2] (.name 2) .none (.tup (.cons (.cst (.int 0)) (.cons (.bin .mul (.tup (.cons (.cst (.int 0)) .nil)) (.cst (.int 8))) (.cons (.tup .nil) .nil)))) [some (.val (toB B)), some (.val (intsT mem)), none]) (B.map toR) s = .ok ((B.map toR).map fun _ => toC ⟨0, List.replicate 8 0, []⟩) s := comp_pure fun x hx => by
    simp [cT_eq, z8, toC, -bop_mulT]
  simp only [toB] at hc ⊢
  simp [F_40, hc, lenOk_le (show B.length ≤ 1000000 by omega), S0, toS]
theorem S0_ok (hB : OkB B) (hM : OkM mem) : OkS B (S0 B mem) := by
  refine ⟨by simp [S0], fun c R k e1 e2 => ?_, hM⟩
  have e : (B.map fun _ => (⟨0, List.replicate 8 0, []⟩ : Co))[c]? = some k := e2
  rw [List.getElem?_map, e1] at e
  cases e
  exact ⟨Int.le_refl 0, by simp, by simp, fun x hx => by rw [List.eq_of_mem_replicate hx]; exact ⟨by decide, by decide⟩, fun p hp => by simp at hp⟩
theorem core_of {R : List In} (h : OkR R) : Core (toR R) := ⟨_, rfl, by simpa using h.len, fun x hx => by
  obtain ⟨i, hi, rfl⟩ := List.mem_map.mp hx
  have := ins_of (h.ins i hi)
  simpa using this⟩
theorem book_of (h : OkB B) : Book (toB B) := ⟨_, rfl, by simpa using h.l1, by simpa using h.l4, fun x hx => by
  obtain ⟨R, hR, rfl⟩ := List.mem_map.mp hx
  exact core_of (h.rows R hR)⟩
theorem typed_core {d : PyData} (h : Core d) : ∃ R, d = toR R ∧ OkR R := by
  obtain ⟨xs, rfl, l, hx⟩ := h
  have key : ∀ (ys : List PyData), (∀ y ∈ ys, Ins xs.length y) → ∃ R : List In, ys = R.map toD ∧ ∀ i ∈ R, OkI xs.length i := by
    intro ys
    induction ys with
    | nil => exact fun _ => ⟨[], rfl, fun i hi => by simp at hi⟩
    | cons y ys ih =>
      intro h
      obtain ⟨i, rfl, hi⟩ := ins_typed (h y (List.mem_cons_self ..))
      obtain ⟨R, rfl, hR⟩ := ih fun z hz => h z (List.mem_cons_of_mem _ hz)
      exact ⟨i :: R, rfl, fun j hj => (List.mem_cons.mp hj).elim (fun e => e ▸ hi) (hR j)⟩
  obtain ⟨R, e, hR⟩ := key xs hx
  subst e
  rw [List.length_map] at l hR
  exact ⟨R, rfl, l, hR⟩
theorem typed_book {d : PyData} (h : Book d) : ∃ B, d = toB B ∧ OkB B := by
  obtain ⟨xs, rfl, l1, l4, hx⟩ := h
  have key : ∀ (ys : List PyData), (∀ y ∈ ys, Core y) → ∃ B : Bk, ys = B.map toR ∧ ∀ R ∈ B, OkR R := by
    intro ys
    induction ys with
    | nil => exact fun _ => ⟨[], rfl, fun i hi => by simp at hi⟩
    | cons y ys ih =>
      intro h
      obtain ⟨i, rfl, hi⟩ := typed_core (h y (List.mem_cons_self ..))
      obtain ⟨R, rfl, hR⟩ := ih fun z hz => h z (List.mem_cons_of_mem _ hz)
      exact ⟨i :: R, rfl, fun j hj => (List.mem_cons.mp hj).elim (fun e => e ▸ hi) (hR j)⟩
  obtain ⟨B, e, hB⟩ := key xs hx
  subst e
  rw [List.length_map] at l1 l4
  exact ⟨B, rfl, l1, l4, hB⟩
theorem typed_mem {m : Nat} {d : PyData} (h : Mem m d) (h1 : 1 ≤ m) (h2 : m ≤ 32) : ∃ mem, d = intsT mem ∧ mem.length = m ∧ OkM mem := by
  obtain ⟨xs, rfl, l, hx⟩ := h
  have key : ∀ (ys : List PyData), (∀ y ∈ ys, ∃ i, y = .int i ∧ wrd i) → ∃ R : List Int, ys = R.map PyData.int ∧ ∀ i ∈ R, wrd i := by
    intro ys
    induction ys with
    | nil => exact fun _ => ⟨[], rfl, fun i hi => by simp at hi⟩
    | cons y ys ih =>
      intro h
      obtain ⟨i, rfl, hi⟩ := h y (List.mem_cons_self ..)
      obtain ⟨R, rfl, hR⟩ := ih fun z hz => h z (List.mem_cons_of_mem _ hz)
      exact ⟨i :: R, rfl, fun j hj => (List.mem_cons.mp hj).elim (fun e => e ▸ hi) (hR j)⟩
  obtain ⟨R, e, hR⟩ := key xs hx
  subst e
  rw [List.length_map] at l
  exact ⟨R, rfl, l, by omega, by omega, hR⟩
theorem mem_of (h : OkM mem) : Mem mem.length (intsT mem) := ⟨_, rfl, by simp, fun x hx => by
  obtain ⟨i, hi, rfl⟩ := List.mem_map.mp hx
  exact ⟨i, rfl, h.ws i hi⟩⟩
theorem ints_nd {l : List Int} : (intsT l).hasDict = false := ND.tup fun x hx => by
  obtain ⟨i, hi, rfl⟩ := List.mem_map.mp hx
  rfl
theorem p_31 (hB : OkB B) (hM : OkM mem) : callAt PT (n + 9) 31 [.val (toB B), .val (intsT mem)] s = .ok (.val (toS (S0 B mem))) s := by
  rw [c_31]
  have h1 := p_9 (n := n) (s := s) (book_true (book_of hB)) (book_nd (book_of hB))
  have h2 := p_10 (n := n + 3) (s := s) (mem_true (mem_of hM) hM.l1 hM.l2) ints_nd
  have h3 := p_19 (n := n + 7) (s := s) (mem := mem) hB.l4
  simp [F_31, h1, h2, h3]
end
end G
set_option maxRecDepth 100000
namespace G
open PySem MP
def isStore : In → Bool
  | .store _ _ _ => true
  | _ => false
/-- an instruction, its store written at once -/
def goS (S : Sd) (c : Nat) (k : Co) (i : In) : Sd := if isStore i then flS (doS S c k i) c (doI i k S.mem).1 else doS S c k i
def stepsI (i : In) (c : Nat) : List PyData := if isStore i then [doT c, flT c] else [doT c]
structure Sr (B : Bk) (S : Sd) : Prop where
  ok : OkS B S
  nl : ∀ k ∈ S.cs, k.late = []
inductive Run (B : Bk) : Sd → List Nat → List PyData → Sd → Prop
  | nil {S : Sd} : Run B S [] [] S
  | cons {S S' : Sd} {c : Nat} {R : List In} {k : Co} {i : In} {cs : List Nat} {st : List PyData} : B[c]? = some R → S.cs[c]? = some k → still R k.row = false → R[k.row.toNat]? = some i → Run B (goS S c k i) cs st S' → Run B S (c :: cs) (stepsI i c ++ st) S'
section
variable {n : Nat} {s : Stk} {rows : Int} {i : In} {R : List In} {k : Co} {B : Bk} {S S' S2 : Sd} {c : Nat} {mem : List Int} {cs cs2 : List Nat} {st st2 : List PyData}
theorem Run.snoc (h : Run B S cs st S') (h1 : B[c]? = some R) (h2 : S'.cs[c]? = some k) (h3 : still R k.row = false) (h4 : R[k.row.toNat]? = some i) : Run B S (cs ++ [c]) (st ++ stepsI i c) (goS S' c k i) := by
  induction h with
  | nil =>
    have := Run.cons h1 h2 h3 h4 (.nil (B := B))
    simpa using this
  | cons a1 a2 a3 a4 _ ih =>
    rw [List.cons_append, List.append_assoc]
    exact .cons a1 a2 a3 a4 (ih h2)
theorem Run.take (h : Run B S cs st S') (j : Nat) : ∃ st1 S1 st2, Run B S (cs.take j) st1 S1 ∧ Run B S1 (cs.drop j) st2 S' := by
  induction h generalizing j with
  | nil => exact ⟨[], _, [], by simpa using .nil, by simpa using .nil⟩
  | @cons S S' c R k i cs st a1 a2 a3 a4 a5 ih =>
    cases j with
    | zero => exact ⟨[], _, _, .nil, .cons a1 a2 a3 a4 a5⟩
    | succ j =>
      obtain ⟨st1, S1, st2, h1, h2⟩ := ih j
      exact ⟨_, S1, st2, .cons a1 a2 a3 a4 h1, h2⟩
theorem late_do (hl : k.late = []) : (doI i k mem).1.late = [] ∨ isStore i = true := by
  cases i <;> simp [doI, hl, isStore]
theorem late_st (hl : k.late = []) (hs : isStore i = true) : ∃ p, (doI i k mem).1.late = [p] := by
  cases i <;> simp [doI, hl, isStore] at hs ⊢
theorem nl_do (hl : k.late = []) : (doI i k mem).1.late.isEmpty = !isStore i := by
  cases i <;> simp [doI, hl, isStore]
theorem do_at (h2 : S.cs[c]? = some k) : (doS S c k i).cs[c]? = some (doI i k S.mem).1 := by
  show (S.cs.set c _)[c]? = _
  rw [List.getElem?_set_self (S_len h2)]
theorem goS_ok (hB : OkB B) (hS : Sr B S) (h1 : B[c]? = some R) (h2 : S.cs[c]? = some k) (h3 : still R k.row = false) (h4 : R[k.row.toNat]? = some i) : Sr B (goS S c k i) := by
  have hR := hB.rows R (List.mem_of_getElem? h1)
  have hC := hS.ok.cs c R k h1 h2
  obtain ⟨i', e, _, _, hr⟩ := still_run hC h3
  have hd := doS_ok hB hS.ok h1 h2 h4 hr
  have hl := hS.nl k (List.mem_of_getElem? h2)
  unfold goS
  by_cases hs : isStore i = true
  · rw [if_pos hs]
    obtain ⟨p, hp⟩ := late_st (mem := S.mem) hl hs
    refine ⟨flS_ok hd h1 (do_at h2), fun k' hk => ?_⟩
    unfold flS at hk
    rw [hp] at hk
    have hk' : k' ∈ ((S.cs.set c (doI i k S.mem).1).set c ⟨(doI i k S.mem).1.row, (doI i k S.mem).1.regs, []⟩) := hk
    rw [List.set_set] at hk'
    rcases List.mem_or_eq_of_mem_set hk' with h | h
    · exact hS.nl k' h
    · rw [h]
  · rw [if_neg hs]
    refine ⟨hd, fun k' hk => ?_⟩
    have hk' : k' ∈ S.cs.set c (doI i k S.mem).1 := hk
    rcases List.mem_or_eq_of_mem_set hk' with h | h
    · exact hS.nl k' h
    · rw [h]
      exact (late_do hl).resolve_right hs
theorem Run.ok (hB : OkB B) (hS : Sr B S) (h : Run B S cs st S') : Sr B S' := by
  induction h with
  | nil => exact hS
  | cons a1 a2 a3 a4 _ ih => exact ih (goS_ok hB hS a1 a2 a3 a4)
theorem cs4 (hB : OkB B) (hS : OkS B S) : S.cs.length ≤ 4 := by rw [hS.len]; exact hB.l4
/-- what one step is told -/
theorem step_at (hB : OkB B) (hS : Sr B S) (h1 : B[c]? = some R) (h2 : S.cs[c]? = some k) (h3 : still R k.row = false) (h4 : R[k.row.toNat]? = some i) (hs : isStore i = true) :
    ∃ p, (doI i k S.mem).1.late = [p] ∧ 0 ≤ p.1 ∧ p.1 < (doS S c k i).mem.length ∧ (doS S c k i).mem.length ≤ 32 ∧ (doS S c k i).cs.length ≤ 4 := by
  have hC := hS.ok.cs c R k h1 h2
  obtain ⟨i', e, _, _, hr⟩ := still_run hC h3
  have hd := doS_ok hB hS.ok h1 h2 h4 hr
  obtain ⟨p, hp⟩ := late_st (mem := S.mem) (hS.nl k (List.mem_of_getElem? h2)) hs
  have hC2 := hd.cs c R _ h1 (do_at h2)
  obtain ⟨a, b, _⟩ := hC2.lt p (by rw [hp]; exact List.mem_cons_self ..)
  exact ⟨p, hp, a, b, hd.mem.l2, cs4 hB hd⟩
theorem p_30 (hB : OkB B) (hS : Sr B S) (h1 : B[c]? = some R) (h2 : S.cs[c]? = some k) (h3 : still R k.row = false) (h4 : R[k.row.toNat]? = some i) :
    callAt PT (n + 5) 30 [.val (toB B), .val (toS S), .val (.int (c : Int))] s = .ok (.val (toS (goS S c k i))) s := by
  have hR := hB.rows R (List.mem_of_getElem? h1)
  have hC := hS.ok.cs c R k h1 h2
  have hl := hS.nl k (List.mem_of_getElem? h2)
  have e1 := p_27 (n := n) (s := s) h1 h2 hC hR hS.ok.mem (by rw [hl]; decide) (cs4 hB hS.ok) h3 h4
  have e2 := p_23 (n := n + 3) (s := s) (do_at (i := i) h2)
  rw [nl_do hl] at e2
  rw [c_30]
  unfold goS
  cases hs : isStore i with
  | true =>
    rw [hs] at e2
    obtain ⟨p, hp, p0, p1, m1, m2⟩ := step_at hB hS h1 h2 h3 h4 hs
    have e3 := p_28 (n := n + 2) (s := s) (do_at (i := i) h2) hp p0 p1 m1 m2
    simp [F_30, e1, e2, e3]
  | false =>
    rw [hs] at e2
    simp [F_30, e1, e2]
/-! one_row_run -/
def BODY1 : Ss := match F_33.body with
  | .cons _ (.cons (.forS _ _ b) _) => b
  | _ => .nil
theorem in_core (h : c < B.length) : within (.int (c : Int)) 0 ((B.length : Int) - 1) = true := by
  have h1 : (c : Int) ≤ (B.length : Int) - 1 := by omega
  simp [within, h1]
theorem B_lt (h1 : B[c]? = some R) : c < B.length := (List.getElem?_eq_some_iff.mp h1).1
theorem toB_len : (B.map toR).length = B.length := by simp
theorem turn1 (hB : OkB B) (hS : Sr B S) (h1 : B[c]? = some R) (h2 : S.cs[c]? = some k) (h3 : still R k.row = false) (h4 : R[k.row.toNat]? = some i) {x1 x2 x4 : Option W} :
    fT (callAt PT (n + 6)) (.name 4) BODY1 (.int (c : Int)) [some (.val (toB B)), x1, x2, some (.val (toS S)), x4] s = .ok (.nx [some (.val (toB B)), x1, x2, some (.val (toS (goS S c k i))), some (.val (.int (c : Int)))]) s := by
  have hR := hB.rows R (List.mem_of_getElem? h1)
  have hC := hS.ok.cs c R k h1 h2
  have e1 := p_30 (n := n + 1) (s := s) hB hS h1 h2 h3 h4
  have e2 := p_2 (n := n + 4) (s := s) (d := .int (c : Int)) (lo := 0) (hi := (B.length : Int) - 1) rfl
  rw [in_core (B_lt h1)] at e2
  have e3 := p_21 (n := n + 4) (s := s) h1 h2 hC hR
  rw [h3] at e3
  have eB : toB B = .tuple (B.map toR) := rfl
  rw [eB] at e1 e3 ⊢
  simp [fT_eq, BODY1, F_33, e1, e2, e3]
abbrev csD (cs : List Nat) : List PyData := cs.map fun (c : Nat) => PyData.int (c : Int)
theorem loop1 (hB : OkB B) (h : Run B S cs st S') : ∀ (hS : Sr B S) {rest : List PyData} {x1 x2 x4 : Option W}, ∃ z, forL (fT (callAt PT (n + 6)) (.name 4) BODY1) (csD cs ++ rest) [some (.val (toB B)), x1, x2, some (.val (toS S)), x4] s =
    forL (fT (callAt PT (n + 6)) (.name 4) BODY1) rest [some (.val (toB B)), x1, x2, some (.val (toS S')), z] s := by
  induction h with
  | nil => exact fun hS {rest x1 x2 x4} => ⟨x4, rfl⟩
  | @cons S S' c R k i cs st a1 a2 a3 a4 _ ih =>
    intro hS rest x1 x2 x4
    obtain ⟨z, e⟩ := ih (goS_ok hB hS a1 a2 a3 a4) (rest := rest) (x1 := x1) (x2 := x2) (x4 := some (.val (.int (c : Int))))
    refine ⟨z, ?_⟩
    show forL _ (.int (c : Int) :: (csD cs ++ rest)) _ _ = _
    rw [for_cons, turn1 hB hS a1 a2 a3 a4]
    exact e
theorem Sr0 (hB : OkB B) (hM : OkM mem) : Sr B (S0 B mem) := ⟨S0_ok hB hM, fun k hk => by
  obtain ⟨R, _, rfl⟩ := List.mem_map.mp hk
  rfl⟩
theorem p_33 (hB : OkB B) (hM : OkM mem) (h : Run B (S0 B mem) cs st S') : callAt PT (n + 10) 33 [.val (toB B), .val (intsT mem), .val (.list (csD cs))] s = .ok (.val (toS S')) s := by
  obtain ⟨z, e⟩ := loop1 (n := n + 3) (s := s) hB h (Sr0 hB hM) (rest := []) (x1 := some (.val (intsT mem))) (x2 := some (.val (.list (csD cs)))) (x4 := none)
  rw [List.append_nil] at e
  have e1 := p_31 (n := n) (s := s) hB hM
  rw [c_33]
  simp only [BODY1, F_33] at e
  simp [F_33, e1, e, for_nil]
/-- an integer that is no core, or whose core has stopped -/
def NoCore (B : Bk) (S : Sd) (x : Int) : Prop := (x < 0 ∨ (B.length : Int) ≤ x) ∨ ∃ c R k, x = ((c : Nat) : Int) ∧ B[c]? = some R ∧ S.cs[c]? = some k ∧ still R k.row = true
theorem p_33x {x : Int} {rest : List PyData} (hB : OkB B) (hM : OkM mem) (h : Run B (S0 B mem) cs st S') (hx : NoCore B S' x) : callAt PT (n + 10) 33 [.val (toB B), .val (intsT mem), .val (.list (csD cs ++ .int x :: rest))] s = .exc 2 (.int x) s := by
  obtain ⟨z, e⟩ := loop1 (n := n + 3) (s := s) hB h (Sr0 hB hM) (rest := .int x :: rest) (x1 := some (.val (intsT mem))) (x2 := some (.val (.list (csD cs ++ .int x :: rest)))) (x4 := none)
  have e1 := p_31 (n := n) (s := s) hB hM
  have hS' := h.ok hB (Sr0 hB hM)
  have ea := p_1 (s := s) (m := 0) (n := n + 8) (d := .int x) trivial
  have ew := p_2 (n := n + 7) (s := s) (d := .int x) (lo := 0) (hi := (B.length : Int) - 1) rfl
  have eB : toB B = .tuple (B.map toR) := rfl
  have last : fT (callAt PT (n + 9)) (.name 4) BODY1 (.int x) [some (.val (toB B)), some (.val (intsT mem)), some (.val (.list (csD cs ++ .int x :: rest))), some (.val (toS S')), z] s = .exc 2 (.int x) s := by
    by_cases hin : 0 ≤ x ∧ x < (B.length : Int)
    · rcases hx with hx | ⟨c, R, k, rfl, h1, h2, h3⟩
      · omega
      · have hR := hB.rows R (List.mem_of_getElem? h1)
        have hC := hS'.ok.cs c R k h1 h2
        rw [in_core (B_lt h1)] at ew
        have e3 := p_21 (n := n + 7) (s := s) h1 h2 hC hR
        rw [h3] at e3
        rw [eB] at e3 ⊢
        simp [fT_eq, BODY1, F_33, ew, e3, ea, rvOf]
        exact kRs_eq (d := .int _) rfl
    · have hw : within (.int x) 0 ((B.length : Int) - 1) = false := by
        simp only [within, Bool.and_eq_false_iff, decide_eq_false_iff_not]
        omega
      rw [hw] at ew
      rw [eB]
      simp [fT_eq, BODY1, F_33, ew, ea, rvOf]
      exact kRs_eq (d := .int _) rfl
  rw [for_cons, last] at e
  rw [c_33]
  simp only [BODY1, F_33] at e
  simp [F_33, e1, e]
end
end G
set_option maxRecDepth 100000
namespace G
open PySem MP
/-- what waits for late stores -/
def waits : In → Bool
  | .fence => true
  | .swap _ _ _ _ => true
  | .addto _ _ _ _ => true
  | _ => false
/-- whether a core's instruction may be done -/
def mayDo (R : List In) (k : Co) : Bool := !still R k.row && (match R[k.row.toNat]? with
  | some i => !waits i || k.late.isEmpty
  | none => false)
/-- late stores are few -/
def Few (b : Nat) (S : Sd) : Prop := ∀ k ∈ S.cs, k.late.length ≤ b
inductive PRun (B : Bk) : Sd → List PyData → Sd → Prop
  | nil {S : Sd} : PRun B S [] S
  | dos {S S' : Sd} {c : Nat} {R : List In} {k : Co} {i : In} {st : List PyData} : B[c]? = some R → S.cs[c]? = some k → mayDo R k = true → R[k.row.toNat]? = some i → PRun B (doS S c k i) st S' → PRun B S (doT c :: st) S'
  | fl {S S' : Sd} {c : Nat} {R : List In} {k : Co} {st : List PyData} : B[c]? = some R → S.cs[c]? = some k → k.late.isEmpty = false → PRun B (flS S c k) st S' → PRun B S (flT c :: st) S'
section
variable {n : Nat} {s : Stk} {rows : Int} {i : In} {R : List In} {k : Co} {B : Bk} {S S' S2 : Sd} {c : Nat} {mem : List Int} {cs cs2 : List Nat} {st st2 : List PyData} {b : Nat}
theorem mayDo_still (h : mayDo R k = true) : still R k.row = false := by
  unfold mayDo at h
  cases hs : still R k.row with
  | false => rfl
  | true => simp [hs] at h
theorem nm_waits (h : OkI rows i) : (nmI i = "fence" ∨ nmI i = "swap" ∨ nmI i = "addto") ↔ waits i = true := by
  cases i with
  | sm nm r b a =>
    obtain ⟨h0, _⟩ := h
    rcases h0 with e | e | e | e | e <;> subst e <;> simp [nmI, waits]
  | _ => simp [nmI, waits]
theorem p_22 (h1 : B[c]? = some R) (h2 : S.cs[c]? = some k) (hC : OkC R mem.length k) (hR : OkR R) : callAt PT (n + 2) 22 [.val (toB B), .val (toS S), .val (.int (c : Int))] s = .ok (.val (.bool (mayDo R k))) s := by
  rw [c_22]
  have h := p_20 (n := n) (s := s) h1 h2 hC hR
  have h2' := at_S h2
  cases hs : still R k.row with
  | true =>
    rw [hs] at h
    simp [F_22, h, mayDo, hs]
  | false =>
    obtain ⟨i, q1, q2, q3, q4⟩ := still_run hC hs
    rw [hs] at h
    simp only [q1] at h
    obtain ⟨r, q5⟩ := toD_nm i
    have hw := nm_waits (hR.ins i q2)
    have eS : toS S = .tuple [.tuple (S.cs.map toC), intsT S.mem] := rfl
    rw [eS] at h ⊢
    rw [q5] at h
    have hm : mayDo R k = (!waits i || k.late.isEmpty) := by simp [mayDo, hs, q1]
    rw [hm]
    have hv : ((decide (Str.ofString "fence" = nmI i)) || ((decide (Str.ofString "swap" = nmI i)) || (decide (Str.ofString "addto" = nmI i)))) = waits i := by
      rw [Bool.eq_iff_iff]
      simp only [Bool.or_eq_true, decide_eq_true_eq, ← hw]
      constructor
      · rintro (e | e | e)
        · exact .inl e.symm
        · exact .inr (.inl e.symm)
        · exact .inr (.inr e.symm)
      · rintro (e | e | e)
        · exact .inl e.symm
        · exact .inr (.inl e.symm)
        · exact .inr (.inr e.symm)
    cases hl : k.late with
    | nil => cases hwi : waits i <;> simp [F_22, h, hv, hwi, h2', toC, hl]
    | cons p l => cases hwi : waits i <;> simp [F_22, h, hv, hwi, h2', toC, hl]
theorem p_24d (h1 : B[c]? = some R) (h2 : S.cs[c]? = some k) (hC : OkC R mem.length k) (hR : OkR R) : callAt PT (n + 3) 24 [.val (toB B), .val (toS S), .val (doT c)] s = .ok (.val (.bool (mayDo R k))) s := by
  rw [c_24]
  have e1 := p_22 (n := n) (s := s) h1 h2 hC hR
  have e2 := p_2 (n := n) (s := s) (d := .int (c : Int)) (lo := 0) (hi := (B.length : Int) - 1) rfl
  rw [in_core (B_lt h1)] at e2
  have eB : toB B = .tuple (B.map toR) := rfl
  rw [eB] at e1 ⊢
  simp [F_24, e1, e2, isTy]
theorem p_24f (h1 : B[c]? = some R) (h2 : S.cs[c]? = some k) : callAt PT (n + 3) 24 [.val (toB B), .val (toS S), .val (flT c)] s = .ok (.val (.bool (!k.late.isEmpty))) s := by
  rw [c_24]
  have e1 := p_23 (n := n + 1) (s := s) h2
  have e2 := p_2 (n := n) (s := s) (d := .int (c : Int)) (lo := 0) (hi := (B.length : Int) - 1) rfl
  rw [in_core (B_lt h1)] at e2
  have eB : toB B = .tuple (B.map toR) := rfl
  rw [eB]
  simp [F_24, e1, e2, isTy]
theorem p_29d (hB : OkB B) (hS : OkS B S) (hl : k.late.length ≤ 1000) (h1 : B[c]? = some R) (h2 : S.cs[c]? = some k) (h3 : still R k.row = false) (h4 : R[k.row.toNat]? = some i) :
    callAt PT (n + 5) 29 [.val (toB B), .val (toS S), .val (doT c)] s = .ok (.val (toS (doS S c k i))) s := by
  rw [c_29]
  have hR := hB.rows R (List.mem_of_getElem? h1)
  have hC := hS.cs c R k h1 h2
  have e1 := p_27 (n := n) (s := s) h1 h2 hC hR hS.mem hl (cs4 hB hS) h3 h4
  simp [F_29, e1]
theorem p_29f (hB : OkB B) (hS : OkS B S) (h1 : B[c]? = some R) (h2 : S.cs[c]? = some k) (h3 : k.late.isEmpty = false) :
    callAt PT (n + 5) 29 [.val (toB B), .val (toS S), .val (flT c)] s = .ok (.val (toS (flS S c k))) s := by
  rw [c_29]
  have hC := hS.cs c R k h1 h2
  cases hl : k.late with
  | nil => simp [hl] at h3
  | cons p r =>
    obtain ⟨a, b, _⟩ := hC.lt p (by rw [hl]; exact List.mem_cons_self ..)
    have e1 := p_28 (n := n + 2) (s := s) h2 hl a b hS.mem.l2 (cs4 hB hS)
    simp [F_29, e1]
theorem Few.dos (h : Few b S) (h2 : S.cs[c]? = some k) : Few (b + 1) (doS S c k i) := fun k' hk => by
  have hk' : k' ∈ S.cs.set c (doI i k S.mem).1 := hk
  rcases List.mem_or_eq_of_mem_set hk' with q | q
  · exact Nat.le_succ_of_le (h k' q)
  · rw [q]
    have := h k (List.mem_of_getElem? h2)
    cases i <;> simp [doI] <;> omega
theorem Few.fl (h : Few b S) (h2 : S.cs[c]? = some k) : Few b (flS S c k) := fun k' hk => by
  unfold flS at hk
  have hb := h k (List.mem_of_getElem? h2)
  cases hl : k.late with
  | nil =>
    rw [hl] at hk
    exact h k' hk
  | cons p r =>
    rw [hl] at hk
    have hk' : k' ∈ S.cs.set c ⟨k.row, k.regs, r⟩ := hk
    rcases List.mem_or_eq_of_mem_set hk' with q | q
    · exact h k' q
    · rw [q]
      rw [hl] at hb
      simp at hb ⊢
      omega
theorem Few.mono {b' : Nat} (h : Few b S) (hb : b ≤ b') : Few b' S := fun k hk => Nat.le_trans (h k hk) hb
theorem PRun.ok (hB : OkB B) (h : PRun B S st S') (hS : OkS B S) (hf : Few b S) : OkS B S' ∧ Few (b + st.length) S' := by
  induction h generalizing b with
  | nil => exact ⟨hS, hf⟩
  | dos a1 a2 a3 a4 _ ih =>
    have hC := hS.cs _ _ _ a1 a2
    obtain ⟨i', e, _, _, hr⟩ := still_run hC (mayDo_still a3)
    obtain ⟨q1, q2⟩ := ih (doS_ok hB hS a1 a2 a4 hr) (hf.dos a2)
    refine ⟨q1, q2.mono ?_⟩
    simp only [List.length_cons]
    omega
  | fl a1 a2 a3 _ ih =>
    obtain ⟨q1, q2⟩ := ih (flS_ok hS a1 a2) (hf.fl a2)
    refine ⟨q1, q2.mono ?_⟩
    simp only [List.length_cons]
    omega
theorem Run.plain (hB : OkB B) (hS : Sr B S) (h : Run B S cs st S') : PRun B S st S' := by
  induction h with
  | nil => exact .nil
  | @cons S S' c R k i cs st a1 a2 a3 a4 _ ih =>
    have hl := hS.nl k (List.mem_of_getElem? a2)
    have hm : mayDo R k = true := by simp [mayDo, a3, a4, hl]
    have q := ih (goS_ok hB hS a1 a2 a3 a4)
    unfold stepsI
    unfold goS at q
    cases hs : isStore i with
    | true =>
      rw [hs] at q
      obtain ⟨p, hp⟩ := late_st (mem := S.mem) hl hs
      exact .dos a1 a2 hm a4 (.fl a1 (do_at a2) (by rw [hp]; rfl) q)
    | false =>
      rw [hs] at q
      exact .dos a1 a2 hm a4 q
def BODY2 : Ss := match F_32.body with
  | .cons _ (.cons (.forS _ _ b) _) => b
  | _ => .nil
theorem loop2 (hB : OkB B) (h : PRun B S st S') : ∀ (hS : OkS B S) {b : Nat} (hf : Few b S) (hb : b + st.length ≤ 1000) {rest : List PyData} {x1 x2 x4 : Option W}, ∃ z, forL (fT (callAt PT (n + 6)) (.name 4) BODY2) (st ++ rest) [some (.val (toB B)), x1, x2, some (.val (toS S)), x4] s =
    forL (fT (callAt PT (n + 6)) (.name 4) BODY2) rest [some (.val (toB B)), x1, x2, some (.val (toS S')), z] s := by
  induction h with
  | nil => exact fun hS {b} hf hb {rest x1 x2 x4} => ⟨x4, rfl⟩
  | @dos S S' c R k i st a1 a2 a3 a4 _ ih =>
    intro hS b hf hb rest x1 x2 x4
    simp only [List.length_cons] at hb
    have hC := hS.cs _ _ _ a1 a2
    have hR := hB.rows R (List.mem_of_getElem? a1)
    obtain ⟨i', e, _, _, hr⟩ := still_run hC (mayDo_still a3)
    obtain ⟨z, e⟩ := ih (doS_ok hB hS a1 a2 a4 hr) (hf.dos a2) (by omega) (rest := rest) (x1 := x1) (x2 := x2) (x4 := some (.val (doT c)))
    refine ⟨z, ?_⟩
    have e1 := p_24d (n := n + 3) (s := s) a1 a2 hC hR
    rw [a3] at e1
    have e2 := p_29d (n := n + 1) (s := s) hB hS (Nat.le_trans (hf k (List.mem_of_getElem? a2)) (by omega)) a1 a2 (mayDo_still a3) a4
    have et : fT (callAt PT (n + 6)) (.name 4) BODY2 (doT c) [some (.val (toB B)), x1, x2, some (.val (toS S)), x4] s = .ok (.nx [some (.val (toB B)), x1, x2, some (.val (toS (doS S c k i))), some (.val (doT c))]) s := by
      simp [fT_eq, BODY2, F_32, e1, e2]
    rw [List.cons_append, for_cons, et]
    exact e
  | @fl S S' c R k st a1 a2 a3 _ ih =>
    intro hS b hf hb rest x1 x2 x4
    simp only [List.length_cons] at hb
    obtain ⟨z, e⟩ := ih (flS_ok hS a1 a2) (hf.fl a2) (by omega) (rest := rest) (x1 := x1) (x2 := x2) (x4 := some (.val (flT c)))
    refine ⟨z, ?_⟩
    have e1 := p_24f (n := n + 3) (s := s) a1 a2
    rw [a3] at e1
    have e2 := p_29f (n := n + 1) (s := s) hB hS a1 a2 a3
    have et : fT (callAt PT (n + 6)) (.name 4) BODY2 (flT c) [some (.val (toB B)), x1, x2, some (.val (toS S)), x4] s = .ok (.nx [some (.val (toB B)), x1, x2, some (.val (toS (flS S c k))), some (.val (flT c))]) s := by
      simp [fT_eq, BODY2, F_32, e1, e2]
    rw [List.cons_append, for_cons, et]
    exact e
theorem few0 : Few 0 (S0 B mem) := fun k hk => by
  obtain ⟨R, _, rfl⟩ := List.mem_map.mp hk
  exact Nat.le_refl 0
theorem p_32 (hB : OkB B) (hM : OkM mem) (h : PRun B (S0 B mem) st S') (hl : st.length ≤ 1000) : callAt PT (n + 10) 32 [.val (toB B), .val (intsT mem), .val (.list st)] s = .ok (.val (toS S')) s := by
  obtain ⟨z, e⟩ := loop2 (n := n + 3) (s := s) hB h (S0_ok hB hM) few0 (by omega) (rest := []) (x1 := some (.val (intsT mem))) (x2 := some (.val (.list st))) (x4 := none)
  rw [List.append_nil] at e
  have e1 := p_31 (n := n) (s := s) hB hM
  rw [c_32]
  simp only [BODY2, F_32] at e
  simp [F_32, e1, e, for_nil]
end
end G
set_option maxRecDepth 100000
namespace G
open PySem MP
section
variable {n : Nat} {s : Stk} {o : Ob} {t : Stk} {d : PyData} {i : In} {R : List In} {k : Co} {B : Bk} {S S' S2 : Sd} {c : Nat} {mem : List Int} {cs cs2 : List Nat} {st st2 : List PyData} {b : Nat}
theorem p_44 {b m l : PyData} {c : Nat} (h : callAt PT n 33 [.val b, .val m, .val l] s = .exc c d s) (hr : reprOk d = true) (hd : isDict d = false) :
    callAt PT (n + 1) 44 [.val b, .val m, .val l] s = .ok (.val (.tuple [.list [.bool ([0].contains c), .bool ([1].contains c), .bool ([2].contains c)], .str d.shown])) s := by
  rw [c_44]
  simp [F_44, h, hr, hd]
theorem p_45 {way turn : Int} (hB1 : 1 ≤ B.length) (hB : B.length ≤ 4) (hw : 0 ≤ way) (D : DeckO o b) (hb : b ≤ 100000000) : ∃ o' v, callAt PT (n + 2) 45 [.ref 0, .val (toB B), .val (.int way), .val (.int turn)] (o :: t) = .ok (.val (.int v)) (o' :: t) ∧ DeckO o' (b + 1) := by
  rw [c_45]
  have hp : (0 : Int) < B.length := by omega
  have hpN : 0 < B.length := by omega
  have eB : toB B = .tuple (B.map toR) := rfl
  rw [eB]
  by_cases h0 : way = 0
  · refine ⟨o, turn % B.length, ?_, Dk_le D (by omega)⟩
    simp [F_45, h0, hp, hpN]
  · by_cases h1 : way = 1
    · refine ⟨o, turn / 7 % B.length, ?_, Dk_le D (by omega)⟩
      simp [F_45, h1, hp, hpN]
    · obtain ⟨o', v, e, D', _⟩ := tk (n := n) (t := t) (many := (B.length : Int)) (by omega) D (by omega)
      refine ⟨o', v, ?_, D'⟩
      simp [F_45, h0, h1, e]
theorem rangeD_map : ∀ (n lo : Nat), rangeD (lo : Int) n = (List.range' lo n).map fun (c : Nat) => PyData.int (c : Int)
  | 0, lo => rfl
  | n + 1, lo => by
    show PyData.int (lo : Int) :: rangeD ((lo : Int) + 1) n = _
    rw [List.range'_succ, List.map_cons]
    have := rangeD_map n (lo + 1)
    rw [← this]
    rfl
theorem range_cs (n : Nat) : rangeD 0 n = csD (List.range n) := by
  have := rangeD_map n 0
  rw [List.range_eq_range']
  exact this
theorem comp_fil {f : PyData → Stk → Res (Option PyData)} {p : Nat → Bool} : ∀ {l : List Nat}, (∀ c ∈ l, f (.int (c : Int)) s = .ok (if p c then some (.int (c : Int)) else none) s) → compL f (csD l) s = .ok (csD (l.filter p)) s
  | [], _ => rfl
  | c :: l, h => by
    show compL f (.int (c : Int) :: csD l) s = _
    unfold compL
    rw [h c (List.mem_cons_self ..)]
    simp only
    rw [comp_fil fun q hq => h q (List.mem_cons_of_mem _ hq)]
    by_cases hc : p c = true
    · simp [hc]
    · simp [hc]
/-- the cores that have stopped -/
def stl (B : Bk) (S : Sd) (c : Nat) : Bool := match B[c]?, S.cs[c]? with
  | some R, some k => still R k.row
  | _, _ => true
def leftL (B : Bk) (S : Sd) : List Nat := (List.range B.length).filter fun c => !stl B S c
def stillL (B : Bk) (S : Sd) : List Nat := (List.range B.length).filter fun c => stl B S c
theorem core_at (hS : OkS B S) (hc : c < B.length) : ∃ R k, B[c]? = some R ∧ S.cs[c]? = some k ∧ stl B S c = still R k.row := by
  have h2 : c < S.cs.length := by rw [hS.len]; exact hc
  refine ⟨_, _, List.getElem?_eq_getElem hc, List.getElem?_eq_getElem h2, ?_⟩
  unfold stl
  rw [List.getElem?_eq_getElem hc, List.getElem?_eq_getElem h2]
theorem left_of (hS : OkS B S) (h : c ∈ leftL B S) : ∃ R k i, B[c]? = some R ∧ S.cs[c]? = some k ∧ still R k.row = false ∧ R[k.row.toNat]? = some i := by
  obtain ⟨h1, h2⟩ := List.mem_filter.mp h
  obtain ⟨R, k, a1, a2, a3⟩ := core_at hS (List.mem_range.mp h1)
  rw [a3] at h2
  have h3 : still R k.row = false := by simpa using h2
  obtain ⟨i, e, _⟩ := still_run (hS.cs c R k a1 a2) h3
  exact ⟨R, k, i, a1, a2, h3, e⟩
theorem is_still (hB : OkB B) (hS : OkS B S) (hc : c < B.length) : ∃ k, L2.atI (S.cs.map toC) (c : Int) = some (toC k) ∧ callAt PT (n + 1) 38 [.val (toB B), .val (.int (c : Int)), .val (.int k.row)] s = .ok (.val (.bool (stl B S c))) s := by
  obtain ⟨R, k, a1, a2, a3⟩ := core_at hS hc
  refine ⟨k, at_S a2, ?_⟩
  rw [a3]
  exact p_38 a1 (hS.cs c R k a1 a2) (hB.rows R (List.mem_of_getElem? a1))
end
end G
set_option maxRecDepth 100000
namespace G
open PySem MP
section
variable {n : Nat} {s : Stk} {o : Ob} {t : Stk} {i : In} {R : List In} {k : Co} {B : Bk} {S S' S2 : Sd} {c : Nat} {mem : List Int} {cs cs2 : List Nat} {st st2 : List PyData} {b : Nat} {x2 : W} {x9 x10 x11 : Option W} {most way turn : Int}
def BODY3 : Ss := match F_46.body with
  | .cons _ (.cons (.forS _ _ b) _) => b
  | _ => .nil
theorem inL_cs {v : Nat} : ∀ {l : List Nat}, PyData.int (v : Int) ∈ csD l ↔ v ∈ l := by
  intro l
  simp
theorem csD_len : (csD cs).length = cs.length := by simp
theorem csD_at {l : List Nat} (h : l[0]? = some c) : L2.atI (csD l) 0 = some (.int (c : Int)) := at_nat (by decide) (by simp [h])
theorem eqv_ii {a b : Int} : PyData.eqv (.int a) (.int b) = true ↔ a = b := by simp
theorem depth_i {v : Int} (L : List PyData) : depthOk (.int v) (.list L) = true := by
  have : min (PyData.depth (.int v)) (PyData.depth (.list L)) ≤ 60 := Nat.le_trans (Nat.min_le_left _ _) (Nat.zero_le _)
  simp only [depthOk, isDict, decide_eq_true this]
  rfl
/-- the turn that finds no core left -/
theorem turn3b (hB : OkB B) (hS : Sr B S) (hl : leftL B S = []) :
    fT (callAt PT (n + 5)) (.name 8) BODY3 (.int turn) [some (.ref 0), some (.val (toB B)), some x2, some (.val (.int most)), some (.val (toS S)), some (.val (.list (csD cs))), some (.val (.list st)), some (.val (.int way)), x8, x9, x10, x11] s =
      .ok (.brk [some (.ref 0), some (.val (toB B)), some x2, some (.val (.int most)), some (.val (toS S)), some (.val (.list (csD cs))), some (.val (.list st)), some (.val (.int way)), some (.val (.int turn)), some (.val (.list [])), x10, x11]) s := by
  have eB : toB B = .tuple (B.map toR) := rfl
  have eS : toS S = .tuple [.tuple (S.cs.map toC), intsT S.mem] := rfl
  have hc : compL (cT (callAt PT (n + 5)) [11] (.name 11) (.some (.not (.val (.call 38 (.cons (.var 1) (.cons (.var 11) (.cons (.sub (.sub (.sub (.var 4) (.cst (.int 0))) (.var 11)) (.cst (.int 0))) .nil))))))) (.var 11) [some (.ref 0), some (.val (toB B)), some x2, some (.val (.int most)), some (.val (toS S)), some (.val (.list (csD cs))), some (.val (.list st)), some (.val (.int way)), some (.val (.int turn)), x9, x10, x11]) (csD (List.range B.length)) s = .ok (csD (leftL B S)) s := comp_fil fun c hc => by
    obtain ⟨k, h1, h2⟩ := is_still (n := n + 4) (s := s) hB hS.ok (List.mem_range.mp hc)
    rw [eB] at h2 ⊢
    rw [eS]
    cases hs : stl B S c <;> simp [cT_eq, h1, toC, h2, hs]
  rw [hl] at hc
  rw [eB, eS] at hc ⊢
  have hr := range_cs B.length
  have z : rngOk (B.length : Int) = true := rng_small (by omega) (by have := hB.l4; omega)
  have z2 : lenOk B.length = true := lenOk_le (by have := hB.l4; omega)
  simp [fT_eq, BODY3, F_46, hr, hc, z, z2]
theorem left_run (hB : OkB B) (hS : OkS B S) {v6 : W} {x7 : Option W} : compL (cT (callAt PT (n + 1)) [11] (.name 11) (.some (.not (.val (.call 38 (.cons (.var 1) (.cons (.var 11) (.cons (.sub (.sub (.sub (.var 4) (.cst (.int 0))) (.var 11)) (.cst (.int 0))) .nil))))))) (.var 11) [some (.ref 0), some (.val (toB B)), some x2, some (.val (.int most)), some (.val (toS S)), some (.val (.list (csD cs))), some v6, x7, some (.val (.int turn)), x9, x10, x11]) (csD (List.range B.length)) s = .ok (csD (leftL B S)) s := comp_fil fun c hc => by
    have eB : toB B = .tuple (B.map toR) := rfl
    have eS : toS S = .tuple [.tuple (S.cs.map toC), intsT S.mem] := rfl
    obtain ⟨k, h1, h2⟩ := is_still (n := n) (s := s) hB hS (List.mem_range.mp hc)
    rw [eB] at h2 ⊢
    rw [eS]
    cases hs : stl B S c <;> simp [cT_eq, h1, toC, h2, hs]
theorem turn3 (hB : OkB B) (hS : Sr B S) (hl : leftL B S ≠ []) (D : DeckO o b) (hb : b ≤ 100000000) (hw : 0 ≤ way) (h5 : cs.length ≤ 100000) (h6 : st.length ≤ 100000) :
    ∃ c R k i o' x9' x10', c ∈ leftL B S ∧ B[c]? = some R ∧ S.cs[c]? = some k ∧ still R k.row = false ∧ R[k.row.toNat]? = some i ∧ DeckO o' (b + 1) ∧ fT (callAt PT (n + 5)) (.name 8) BODY3 (.int turn) [some (.ref 0), some (.val (toB B)), some x2, some (.val (.int most)), some (.val (toS S)), some (.val (.list (csD cs))), some (.val (.list st)), some (.val (.int way)), x8, x9, x10, x11] (o :: t) =
      .ok (.nx [some (.ref 0), some (.val (toB B)), some x2, some (.val (.int most)), some (.val (toS (goS S c k i))), some (.val (.list (csD (cs ++ [c])))), some (.val (.list (st ++ stepsI i c))), some (.val (.int way)), some (.val (.int turn)), x9', x10', some (.val (.int (c : Int)))]) (o' :: t) := by
  have eB : toB B = .tuple (B.map toR) := rfl
  have eS : ∀ S, toS S = .tuple [.tuple (S.cs.map toC), intsT S.mem] := fun _ => rfl
  have hc := left_run (n := n + 4) (s := o :: t) (cs := cs) (x2 := x2) (most := most) (v6 := .val (.list st)) (x7 := some (.val (.int way))) (turn := turn) (x9 := x9) (x10 := x10) (x11 := x11) hB hS.ok
  have hr := range_cs B.length
  have z : rngOk (B.length : Int) = true := rng_small (by omega) (by have := hB.l4; omega)
  have z2 : lenOk B.length = true := lenOk_le (by have := hB.l4; omega)
  have z3 : lenOk (cs.length + 1) = true := lenOk_le (by omega)
  have z4 : lenOk (st.length + 1) = true := lenOk_le (by omega)
  have z5 : lenOk (st.length + 1 + 1) = true := lenOk_le (by omega)
  obtain ⟨o', v, e1, D'⟩ := p_45 (n := n + 3) (t := t) (way := way) (turn := turn) hB.l1 hB.l4 hw D hb
  have hcore : ∃ c : Nat, c ∈ leftL B S ∧ (((csD (leftL B S)).any (fun y => y.eqv (.int v)) = true ∧ v = c) ∨ ((csD (leftL B S)).any (fun y => y.eqv (.int v)) = false ∧ L2.atI (csD (leftL B S)) 0 = some (.int (c : Int)))) := by
    cases hv : (csD (leftL B S)).any (fun y => y.eqv (.int v)) with
    | true =>
      obtain ⟨y, h1, h2⟩ := List.any_eq_true.mp hv
      obtain ⟨c, h3, rfl⟩ := List.mem_map.mp h1
      exact ⟨c, h3, .inl ⟨rfl, (eqv_ii.mp h2).symm⟩⟩
    | false =>
      cases hq : leftL B S with
      | nil => exact absurd hq hl
      | cons c r => exact ⟨c, List.mem_cons_self .., .inr ⟨rfl, csD_at rfl⟩⟩
  have hdo : ∀ L, depthOk (.int v) (.list L) = true := depth_i
  obtain ⟨c, hcl, hcc⟩ := hcore
  obtain ⟨R, k, i, a1, a2, a3, a4⟩ := left_of hS.ok hcl
  have hR := hB.rows R (List.mem_of_getElem? a1)
  have hC := hS.ok.cs c R k a1 a2
  have hlt := hS.nl k (List.mem_of_getElem? a2)
  have e2 := p_39 (n := n + 3) (s := o' :: t) a1 a2 hC hR hS.ok.mem (by rw [hlt]; decide) (cs4 hB hS.ok) a4
  have e3 := at_S (do_at (i := i) a2)
  have e6 : goS S c k i = if isStore i then flS (doS S c k i) c (doI i k S.mem).1 else doS S c k i := rfl
  have e7 : stepsI i c = if isStore i then [doT c, flT c] else [doT c] := rfl
  refine ⟨c, R, k, i, o', some (.val (.list (csD (leftL B S)))), some (.val (.int v)), hcl, a1, a2, a3, a4, D', ?_⟩
  cases hs : isStore i with
  | true =>
    obtain ⟨p, hp, p0, p1, m1, m2⟩ := step_at hB hS a1 a2 a3 a4 hs
    have e4 := p_39f (n := n + 3) (s := o' :: t) (B := B) (do_at (i := i) a2) hp p0 p1 m1 m2
    rw [e6, e7, hs, if_pos rfl, if_pos rfl]
    have hX : isDict (toS (flS (doS S c k i) c (doI i k S.mem).1)) = false := rfl
    generalize toS (flS (doS S c k i) c (doI i k S.mem).1) = X at e4 hX ⊢
    rw [eB] at e1 e2 e4 hc ⊢
    rw [eS (doS S c k i)] at e2 e4
    rw [eS S] at e2 hc ⊢
    generalize hL : csD (leftL B S) = L at hcc hc ⊢
    have hne : PyData.eqvAll L [] = false := by
      rw [← hL]
      cases hq : leftL B S with
      | nil => exact absurd hq hl
      | cons _ _ => rfl
    rcases hcc with ⟨h1, rfl⟩ | ⟨h1, h2⟩
    · simp [fT_eq, BODY3, F_46, hr, hc, z, z2, e1, h1, hdo, hne, e2, e3, toC, hp, e4, hX, z3, z4, z5]
    · simp [fT_eq, BODY3, F_46, hr, hc, z, z2, e1, h1, hdo, h2, hne, e2, e3, toC, hp, e4, hX, z3, z4, z5]
  | false =>
    have hp : (doI i k S.mem).1.late = [] := (late_do hlt).resolve_right (by simp [hs])
    rw [e6, e7, hs, if_neg (by decide), if_neg (by decide)]
    rw [eB] at e1 e2 hc ⊢
    rw [eS (doS S c k i)] at e2 ⊢
    rw [eS S] at e2 hc ⊢
    generalize hL : csD (leftL B S) = L at hcc hc ⊢
    have hne : PyData.eqvAll L [] = false := by
      rw [← hL]
      cases hq : leftL B S with
      | nil => exact absurd hq hl
      | cons _ _ => rfl
    rcases hcc with ⟨h1, rfl⟩ | ⟨h1, h2⟩
    · simp [fT_eq, BODY3, F_46, hr, hc, z, z2, e1, h1, hdo, hne, e2, e3, toC, hp, z3, z4]
    · simp [fT_eq, BODY3, F_46, hr, hc, z, z2, e1, h1, hdo, h2, hne, e2, e3, toC, hp, z3, z4]
theorem steps_len : (stepsI i c).length ≤ 2 := by
  unfold stepsI
  split
  · exact Nat.le_refl 2
  · exact Nat.le_succ 1
theorem loop3 (hB : OkB B) (hM : OkM mem) (hw : 0 ≤ way) : ∀ {ts : List Nat} {cs : List Nat} {st : List PyData} {S : Sd} {o : Ob} {b : Nat} {x8 x9 x10 x11 : Option W}, Run B (S0 B mem) cs st S → DeckO o b → b + ts.length ≤ 100000000 → cs.length + ts.length ≤ 50000 → st.length ≤ 2 * cs.length →
    ∃ cs' st' S' o' y8 y9 y10 y11, forL (fT (callAt PT (n + 5)) (.name 8) BODY3) (csD ts) [some (.ref 0), some (.val (toB B)), some x2, some (.val (.int most)), some (.val (toS S)), some (.val (.list (csD cs))), some (.val (.list st)), some (.val (.int way)), x8, x9, x10, x11] (o :: t) =
      .ok (.nx [some (.ref 0), some (.val (toB B)), some x2, some (.val (.int most)), some (.val (toS S')), some (.val (.list (csD cs'))), some (.val (.list st')), some (.val (.int way)), y8, y9, y10, y11]) (o' :: t) ∧ Run B (S0 B mem) cs' st' S' ∧ DeckO o' (b + ts.length) ∧ st'.length ≤ 2 * cs'.length ∧ cs'.length ≤ cs.length + ts.length ∧ (leftL B S' = [] ∨ cs'.length = cs.length + ts.length)
  | [], cs, st, S, o, b, x8, x9, x10, x11, h, D, _, _, h2 => ⟨cs, st, S, o, x8, x9, x10, x11, rfl, h, D, h2, Nat.le_refl _, .inr rfl⟩
  | c0 :: ts, cs, st, S, o, b, x8, x9, x10, x11, h, D, hb, hl, h2 => by
    simp only [List.length_cons] at hb hl ⊢
    have hS := h.ok hB (Sr0 hB hM)
    by_cases hq : leftL B S = []
    · refine ⟨cs, st, S, o, some (.val (.int (c0 : Int))), some (.val (.list [])), x10, x11, ?_, h, Dk_le D (by omega), h2, by omega, .inl hq⟩
      show forL _ (.int (c0 : Int) :: csD ts) _ _ = _
      rw [for_cons, turn3b hB hS hq]
      rfl
    · obtain ⟨c, R, k, i, o', x9', x10', hcl, a1, a2, a3, a4, D', e⟩ := turn3 (n := n) (t := t) (x2 := x2) (x8 := x8) (x9 := x9) (x10 := x10) (x11 := x11) (most := most) (turn := (c0 : Int)) (cs := cs) (st := st) hB hS hq D (by omega) hw (by omega) (by omega)
      have hs := steps_len (i := i) (c := c)
      obtain ⟨cs', st', S', o2, y8, y9, y10, y11, e2, r1, r2, r3, r4, r5⟩ := loop3 hB hM hw (ts := ts) (x8 := some (.val (.int (c0 : Int)))) (x9 := x9') (x10 := x10') (x11 := some (.val (.int (c : Int)))) (h.snoc a1 a2 a3 a4) D' (by omega) (by rw [List.length_append, List.length_singleton]; omega) (by rw [List.length_append, List.length_append, List.length_singleton]; omega)
      rw [List.length_append, List.length_singleton] at r4 r5
      refine ⟨cs', st', S', o2, y8, y9, y10, y11, ?_, r1, Dk_le r2 (by omega), r3, by omega, r5.imp (fun h => h) fun h => by omega⟩
      show forL _ (.int (c0 : Int) :: csD ts) _ _ = _
      rw [for_cons, e]
      exact e2
theorem p_46 (hB : OkB B) (hM : OkM mem) {m : Nat} (hm : m ≤ 50000) (D : DeckO o b) (hb : b ≤ 10000000) :
    ∃ o' cs st S, callAt PT (n + 6) 46 [.ref 0, .val (toB B), .val (intsT mem), .val (.int (m : Int))] (o :: t) = .ok (.val (.tuple [.list (csD cs), .list st, toS S])) (o' :: t) ∧ Run B (S0 B mem) cs st S ∧ DeckO o' (b + 1 + m) ∧ st.length ≤ 2 * m ∧ cs.length ≤ m ∧ (leftL B S = [] ∨ cs.length = m) := by
  obtain ⟨o1, v, e1, D1, v0, v1⟩ := tkL (n := n + 4) (t := t) 3 (by decide) (by decide) D (by omega)
  have e2 := p_40 (n := n + 4) (s := o :: t) (mem := mem) hB.l4
  obtain ⟨cs, st, S, o2, y8, y9, y10, y11, e, r1, r2, r3, r4, r5⟩ := loop3 (n := n) (t := t) (most := (m : Int)) (x2 := .val (intsT mem)) (way := v) hB hM v0 (ts := List.range m) (cs := []) (st := []) (o := o1) (x8 := none) (x9 := none) (x10 := none) (x11 := none) .nil D1 (by rw [List.length_range]; omega) (by rw [List.length_range]; simpa using hm) (by simp)
  rw [List.length_range] at r2 r4 r5
  have r4' : cs.length ≤ m := by simpa using r4
  have r5' : leftL B S = [] ∨ cs.length = m := by simpa using r5
  refine ⟨o2, cs, st, S, ?_, r1, r2, by omega, r4', r5'⟩
  have z : rngOk (m : Int) = true := rng_small (by omega) (by omega)
  have hr := range_cs m
  rw [c_46]
  have hX : isDict (toS (S0 B mem)) = false := rfl
  have hY : isDict (toS S) = false := rfl
  generalize toS (S0 B mem) = X at e e2 hX
  generalize toS S = Y at e hY ⊢
  generalize csD cs = L at e ⊢
  simp only [BODY3, F_46] at e
  simp only [List.map_nil, csD] at e hr
  simp [F_46, e1, e2, z, hr, e, hX, hY]
end
end G
set_option maxRecDepth 100000
namespace G
open PySem MP
section
variable {n : Nat} {s : Stk} {o : Ob} {t : Stk} {i : In} {R : List In} {k : Co} {B : Bk} {S S' S2 : Sd} {c : Nat} {mem : List Int} {cs cs2 : List Nat} {st st2 : List PyData} {b : Nat} {x2 : W}
def BODY4 : Ss := match F_48.body with
  | .cons _ (.cons (.forS _ _ b) _) => b
  | _ => .nil
theorem turn4 (hB : OkB B) (hS : Sr B S) (a1 : B[c]? = some R) (a2 : S.cs[c]? = some k) (a3 : still R k.row = false) (a4 : R[k.row.toNat]? = some i) {x1 x2 x4 : Option W} :
    fT (callAt PT (n + 2)) (.name 4) BODY4 (.int (c : Int)) [some (.val (toB B)), x1, x2, some (.val (toS S)), x4] s = .ok (.nx [some (.val (toB B)), x1, x2, some (.val (toS (goS S c k i))), some (.val (.int (c : Int)))]) s := by
  have eB : toB B = .tuple (B.map toR) := rfl
  have eS : ∀ S, toS S = .tuple [.tuple (S.cs.map toC), intsT S.mem] := fun _ => rfl
  have hR := hB.rows R (List.mem_of_getElem? a1)
  have hC := hS.ok.cs c R k a1 a2
  have hlt := hS.nl k (List.mem_of_getElem? a2)
  have e2 := p_39 (n := n) (s := s) a1 a2 hC hR hS.ok.mem (by rw [hlt]; decide) (cs4 hB hS.ok) a4
  have e3 := at_S (do_at (i := i) a2)
  have e6 : goS S c k i = if isStore i then flS (doS S c k i) c (doI i k S.mem).1 else doS S c k i := rfl
  cases hs : isStore i with
  | true =>
    obtain ⟨p, hp, p0, p1, m1, m2⟩ := step_at hB hS a1 a2 a3 a4 hs
    have e4 := p_39f (n := n) (s := s) (B := B) (do_at (i := i) a2) hp p0 p1 m1 m2
    rw [e6, hs, if_pos rfl]
    have hX : isDict (toS (flS (doS S c k i) c (doI i k S.mem).1)) = false := rfl
    generalize toS (flS (doS S c k i) c (doI i k S.mem).1) = X at e4 hX ⊢
    rw [eS (doS S c k i)] at e2 e4
    simp [fT_eq, BODY4, F_48, e2, e3, toC, hp, e4, hX]
  | false =>
    have hp : (doI i k S.mem).1.late = [] := (late_do hlt).resolve_right (by simp [hs])
    rw [e6, hs, if_neg (by decide)]
    rw [eS (doS S c k i)] at e2 ⊢
    simp [fT_eq, BODY4, F_48, e2, e3, toC, hp]
theorem loop4 (hB : OkB B) (h : Run B S cs st S') : ∀ (hS : Sr B S) {x1 x2 x4 : Option W}, ∃ z, forL (fT (callAt PT (n + 2)) (.name 4) BODY4) (csD cs) [some (.val (toB B)), x1, x2, some (.val (toS S)), x4] s =
    .ok (.nx [some (.val (toB B)), x1, x2, some (.val (toS S')), z]) s := by
  induction h with
  | nil => exact fun hS {x1 x2 x4} => ⟨x4, rfl⟩
  | @cons S S' c R k i cs st a1 a2 a3 a4 _ ih =>
    intro hS x1 x2 x4
    obtain ⟨z, e⟩ := ih (goS_ok hB hS a1 a2 a3 a4) (x1 := x1) (x2 := x2) (x4 := some (.val (.int (c : Int))))
    refine ⟨z, ?_⟩
    show forL _ (.int (c : Int) :: csD cs) _ _ = _
    rw [for_cons, turn4 hB hS a1 a2 a3 a4]
    exact e
theorem p_48 (hB : OkB B) (hM : OkM mem) (h : Run B (S0 B mem) cs st S') : callAt PT (n + 3) 48 [.val (toB B), .val (intsT mem), .val (.list (csD cs))] s = .ok (.val (toS S')) s := by
  obtain ⟨z, e⟩ := loop4 (n := n) (s := s) hB h (Sr0 hB hM) (x1 := some (.val (intsT mem))) (x2 := some (.val (.list (csD cs)))) (x4 := none)
  have e1 := p_40 (n := n + 1) (s := s) (mem := mem) hB.l4
  have hX : isDict (toS (S0 B mem)) = false := rfl
  have hY : isDict (toS S') = false := rfl
  generalize toS (S0 B mem) = X at e e1 hX
  generalize toS S' = Y at e hY ⊢
  rw [c_48]
  simp only [BODY4, F_48] at e
  simp [F_48, e1, e, hX, hY]
/-! a refusal -/
theorem pow20 : powOk 10 20 = true := by decide
theorem still_runL (hB : OkB B) (hS : OkS B S) {x0 x2 x3 x4 x6 x7 x8 : Option W} : compL (cT (callAt PT (n + 1)) [8] (.name 8) (.some (.val (.call 38 (.cons (.var 1) (.cons (.var 8) (.cons (.sub (.sub (.sub (.var 5) (.cst (.int 0))) (.var 8)) (.cst (.int 0))) .nil)))))) (.var 8) [x0, some (.val (toB B)), x2, x3, x4, some (.val (toS S)), x6, x7, x8]) (csD (List.range B.length)) s = .ok (csD (stillL B S)) s := comp_fil fun c hc => by
    have eB : toB B = .tuple (B.map toR) := rfl
    have eS : toS S = .tuple [.tuple (S.cs.map toC), intsT S.mem] := rfl
    obtain ⟨k, h1, h2⟩ := is_still (n := n) (s := s) hB hS (List.mem_range.mp hc)
    rw [eB] at h2 ⊢
    rw [eS]
    cases hs : stl B S c <;> simp [cT_eq, h1, toC, h2, hs]
theorem still_len : (stillL B S).length ≤ B.length := by
  have := List.length_filter_le (fun c => stl B S c) (List.range B.length)
  rwa [List.length_range] at this
/-- the integers a refusal is drawn from -/
theorem odd_no (hB : OkB B) (hS : OkS B S) {d : PyData} (h : d ∈ csD (stillL B S) ++ [.int (B.length : Int), .int (-1), .int 4, .int 100000000000000000000]) :
    ∃ x : Int, d = .int x ∧ NoCore B S x ∧ x.natAbs < 10 ^ 30 ∧ ((¬ (0 ≤ x ∧ x < (B.length : Int))) ∨ (csD (stillL B S)).any (fun y => y.eqv (.int x)) = true) := by
  have h4 := hB.l4
  rcases List.mem_append.mp h with h | h
  · obtain ⟨c, hc, rfl⟩ := List.mem_map.mp h
    obtain ⟨h1, h2⟩ := List.mem_filter.mp hc
    have hlt := List.mem_range.mp h1
    obtain ⟨R, k, a1, a2, a3⟩ := core_at hS hlt
    rw [a3] at h2
    refine ⟨(c : Int), rfl, .inr ⟨c, R, k, rfl, a1, a2, h2⟩, ?_, .inr (List.any_eq_true.mpr ⟨_, h, eqv_ii.mpr rfl⟩)⟩
    exact Nat.lt_of_lt_of_le (show (c : Int).natAbs < 5 by omega) (by decide)
  · simp only [List.mem_cons, List.not_mem_nil, or_false] at h
    rcases h with e | e | e | e
    · exact ⟨_, e, .inl (.inr (Int.le_refl _)), Nat.lt_of_lt_of_le (show (B.length : Int).natAbs < 5 by omega) (by decide), .inl (by omega)⟩
    · exact ⟨_, e, .inl (.inl (by decide)), by decide, .inl (by omega)⟩
    · exact ⟨_, e, .inl (.inr (by omega)), by decide, .inl (by omega)⟩
    · exact ⟨_, e, .inl (.inr (by omega)), by decide, .inl (by omega)⟩
theorem p_47 (hB : OkB B) (hM : OkM mem) (h : Run B (S0 B mem) cs st S) (hl : cs.length ≤ 50000) (D : DeckO o b) (hb : b ≤ 100000000) :
    ∃ o', callAt PT (n + 12) 47 [.ref 0, .val (toB B), .val (intsT mem), .val (.list (csD cs))] (o :: t) = .ok (.val (.bool true)) (o' :: t) ∧ DeckO o' (b + 2) := by
  obtain ⟨o1, v1, e1, D1, a1, b1, c1⟩ := tk (n := n + 10) (t := t) (many := (cs.length : Int) + 1) (by omega) D (by omega)
  obtain ⟨st1, S1, st2, h1, _⟩ := h.take v1.toNat
  have hS1 := h1.ok hB (Sr0 hB hM)
  have e2 := p_48 (n := n + 8) (s := o1 :: t) hB hM h1
  have e3 := still_runL (n := n + 10) (s := o1 :: t) (x0 := some (.ref 0)) (x2 := some (.val (intsT mem))) (x3 := some (.val (.list (csD cs)))) (x4 := some (.val (.int v1))) (x6 := none) (x7 := none) (x8 := none) hB hS1.ok
  obtain ⟨o2, v2, e4, D2, a2, b2, c2⟩ := tk (n := n + 10) (t := t) (many := ((stillL B S1).length : Int) + 4) (by have := still_len (B := B) (S := S1); have := hB.l4; omega) D1 (by omega)
  obtain ⟨d, e5, hd⟩ := pickL (l := csD (stillL B S1) ++ [.int (B.length : Int), .int (-1), .int 4, .int 100000000000000000000]) (v := v2) a2 (by
    have := b2 (by omega)
    simpa using this)
  obtain ⟨x, rfl, hx, hx2, hx3⟩ := odd_no hB hS1.ok hd
  have e6 := p_33x (n := n) (s := o2 :: t) (x := x) (rest := .int (-7) :: csD (cs.drop v1.toNat)) hB hM h1 hx
  have hn : num (.int x) = true := by simpa [num] using hx2
  have hrp : reprOk (.int x) = true := reprOk_num hn (Nat.zero_le _) (show 31 ≤ 16777216 by decide)
  have e7 := p_44 e6 hrp rfl
  have k1 : cutL (csD cs) none (some v1) = csD (cs.take v1.toNat) := by rw [cut_lo a1, csD, csD, List.map_take]
  have k2 : cutL (csD cs) (some v1) none = csD (cs.drop v1.toNat) := by rw [cut_hi a1, csD, csD, List.map_drop]
  refine ⟨o2, ?_, D2⟩
  have eB : toB B = .tuple (B.map toR) := rfl
  have z : rngOk (B.length : Int) = true := rng_small (by omega) (by have := hB.l4; omega)
  have z2 : lenOk B.length = true := lenOk_le (by have := hB.l4; omega)
  have hr := range_cs B.length
  have hX : isDict (toS S1) = false := rfl
  have hsl := still_len (B := B) (S := S1)
  have z3 : lenOk ((stillL B S1).length + 4) = true := lenOk_le (by have := hB.l4; omega)
  have h4 := hB.l4
  have eS : toS S1 = .tuple [.tuple (S1.cs.map toC), intsT S1.mem] := rfl
  rw [c_47]
  have e8 : callAt PT (n + 11) 44 [.val (toB B), .val (intsT mem), .val (.list (csD (cs.take v1.toNat) ++ .int x :: .int (-7) :: csD (cs.drop v1.toNat)))] (o2 :: t) = .ok (.val (.tuple [.list [.bool false, .bool false, .bool true], .str (PyData.shown (.int x))])) (o2 :: t) := e7
  rw [eB] at e2 e3 e8 ⊢
  have hlL : (csD (stillL B S1)).length = (stillL B S1).length := by simp
  have hlC : (csD cs).length = cs.length := by simp
  have hlt : (csD (cs.take v1.toNat)).length ≤ cs.length := by simp [Nat.min_le_right]
  have hld : (csD (cs.drop v1.toNat)).length ≤ cs.length := by simp
  generalize csD (cs.take v1.toNat) = L1 at k1 e2 e8 hlt
  generalize csD (cs.drop v1.toNat) = L2 at k2 e8 hld
  generalize csD cs = L at k1 k2 e3 hlC ⊢
  generalize csD (stillL B S1) = Q at e3 e5 hx3 hlL
  rw [← hlL] at e4 z3
  rw [← hlC] at e1
  have z4 : lenOk (L1.length + 2) = true := lenOk_le (by omega)
  have z5 : lenOk (L1.length + 2 + L2.length) = true := lenOk_le (by omega)
  have hbr : (!decide (0 ≤ x) || !decide (x < (B.length : Int))) = true ∨ ((!decide (0 ≤ x) || !decide (x < (B.length : Int))) = false ∧ Q.any (fun y => y.eqv (.int x)) = true) := by
    cases hq : (!decide (0 ≤ x) || !decide (x < (B.length : Int))) with
    | true => exact .inl rfl
    | false =>
      refine .inr ⟨rfl, hx3.resolve_left fun hn => ?_⟩
      simp only [Bool.or_eq_false_iff, Bool.not_eq_false', decide_eq_true_eq] at hq
      exact hn hq
  rcases hbr with hx4 | ⟨hx4, hx5⟩
  · simp [F_47, e1, k1, k2, e2, hr, z, z2, e3, e4, e5, e8, z3, z4, z5, hX, hx4, pow20, depth_i, hrp, -Bool.or_eq_true, -Bool.not_eq_true']
  · simp [F_47, e1, k1, k2, e2, hr, z, z2, e3, e4, e5, e8, z3, z4, z5, hX, hx4, hx5, pow20, depth_i, hrp]
end
end G
set_option maxRecDepth 100000
namespace G
open PySem MP
/-! the counters -/
def ctr (m : Int) : List In := [.set 0 m, .set 1 1, .addto 2 1 7 0, .sm "sub" 0 0 1, .ifz 0 6, .jump 2]
theorem sub_i {a b : Int} : sumI "sub" a b = (a - b) % 65536 := by simp [sumI]
inductive CI (m : Nat) : Co → Nat → Nat → Prop
  | r0 {x : Int} : CI m ⟨0, [0, 0, x, 0, 0, 0, 0, 0], []⟩ 0 0
  | r1 {x : Int} : CI m ⟨1, [m, 0, x, 0, 0, 0, 0, 0], []⟩ 0 1
  | r2 {x : Int} {a b : Nat} : b + 1 + a = m → CI m ⟨2, [(b + 1 : Nat), 1, x, 0, 0, 0, 0, 0], []⟩ a (2 + 4 * a)
  | r3 {x : Int} {a b : Nat} : b + 1 + a = m → CI m ⟨3, [(b + 1 : Nat), 1, x, 0, 0, 0, 0, 0], []⟩ (a + 1) (3 + 4 * a)
  | r4 {x : Int} {a b : Nat} : b + 1 + a = m → CI m ⟨4, [(b : Nat), 1, x, 0, 0, 0, 0, 0], []⟩ (a + 1) (4 + 4 * a)
  | r5 {x : Int} {a b : Nat} : b + 1 + (a + 1) = m → CI m ⟨5, [(b + 1 : Nat), 1, x, 0, 0, 0, 0, 0], []⟩ (a + 1) (5 + 4 * a)
  | r6 {x : Int} : CI m ⟨6, [0, 1, x, 0, 0, 0, 0, 0], []⟩ m (4 * m + 1)
theorem CI.still {m : Nat} {k : Co} {a s : Nat} (h : CI m k a s) (hs : still (ctr m) k.row = true) : a = m ∧ s = 4 * m + 1 := by
  cases h with
  | r6 => exact ⟨rfl, rfl⟩
  | _ => simp [G.still, ctr, isStop] at hs
theorem CI.le {m : Nat} {k : Co} {a s : Nat} (h : CI m k a s) : s ≤ 4 * m + 1 := by cases h <;> omega
theorem CI.step {m : Nat} {k : Co} {a s : Nat} {i : In} {x : Int} (hm : 1 ≤ m) (hm2 : m ≤ 60000) (h : CI m k a s) (hs : G.still (ctr m) k.row = false) (hi : (ctr m)[k.row.toNat]? = some i) :
    isStore i = false ∧ ∃ a', CI m (doI i k [(x + a) % 65536, 0]).1 a' (s + 1) ∧ ∃ d : Nat, a' = a + d ∧ (doI i k [(x + a) % 65536, 0]).2 = [(x + a') % 65536, 0] := by
  cases h with
  | r0 =>
    cases hi
    exact ⟨rfl, 0, .r1, 0, rfl, rfl⟩
  | r1 =>
    cases hi
    obtain ⟨b, rfl⟩ : ∃ b, m = b + 1 := ⟨m - 1, by omega⟩
    exact ⟨rfl, 0, .r2 (a := 0) (b := b) rfl, 0, rfl, rfl⟩
  | @r2 x' a b e =>
    cases hi
    refine ⟨rfl, a + 1, ?_, 1, rfl, ?_⟩
    · have := CI.r3 (x := (x + a) % 65536) e
      rw [show 2 + 4 * a + 1 = 3 + 4 * a by omega]
      exact this
    · show [((x + a) % 65536 + 1) % 65536, 0] = _
      rw [Int.emod_add_emod]
      congr 2
      omega
  | @r3 x' a b e =>
    cases hi
    refine ⟨rfl, a + 1, ?_, 0, rfl, rfl⟩
    have := CI.r4 (x := x') e
    rw [show 3 + 4 * a + 1 = 4 + 4 * a by omega]
    have hb : sumI "sub" ((b + 1 : Nat) : Int) 1 = (b : Int) := by
      rw [sub_i]
      omega
    show CI m ⟨4, [sumI "sub" ((b + 1 : Nat) : Int) 1, 1, x', 0, 0, 0, 0, 0], []⟩ _ _
    rw [hb]
    exact this
  | @r4 x' a b e =>
    cases hi
    refine ⟨rfl, a + 1, ?_, 0, rfl, rfl⟩
    show CI m ⟨if (b : Int) = 0 then 6 else 5, [(b : Int), 1, x', 0, 0, 0, 0, 0], []⟩ (a + 1) _
    cases b with
    | zero =>
      have e' : a + 1 = m := by omega
      subst e'
      rw [if_pos (show ((0 : Nat) : Int) = 0 from rfl), show 4 + 4 * a + 1 = 4 * (a + 1) + 1 by omega]
      exact .r6
    | succ b =>
      rw [if_neg (by omega), show 4 + 4 * a + 1 = 5 + 4 * a by omega]
      exact .r5 (by omega)
  | @r5 x' a b e =>
    cases hi
    refine ⟨rfl, a + 1, ?_, 0, rfl, rfl⟩
    rw [show 5 + 4 * a + 1 = 2 + 4 * (a + 1) by omega]
    exact .r2 e
  | r6 => simp [G.still, ctr] at hs
/-- two counters beside each other -/
def CJ (m1 m2 : Nat) (S : Sd) (j : Nat) : Prop := ∃ k1 k2 a1 a2 s1 s2, S = ⟨[k1, k2], [(65500 + ((a1 + a2 : Nat) : Int)) % 65536, 0]⟩ ∧ CI m1 k1 a1 s1 ∧ CI m2 k2 a2 s2 ∧ j = s1 + s2
theorem CJ.run {m1 m2 : Nat} (h1 : 1 ≤ m1) (h2 : 1 ≤ m2) (h3 : m1 ≤ 60000) (h4 : m2 ≤ 60000) {S S' : Sd} {cs : List Nat} {st : List PyData} (h : Run [ctr m1, ctr m2] S cs st S') : ∀ {j : Nat}, CJ m1 m2 S j → CJ m1 m2 S' (j + cs.length) := by
  induction h with
  | nil => exact fun h => h
  | @cons S S' c R k i cs st b1 b2 b3 b4 _ ih =>
    intro j ⟨k1, k2, a1, a2, s1, s2, e, c1, c2, hj⟩
    subst e
    rw [List.length_cons, show j + (cs.length + 1) = j + 1 + cs.length by omega]
    refine ih ?_
    match c, b1, b2 with
    | 0, b1, b2 =>
      obtain rfl : ctr m1 = R := Option.some.inj b1
      obtain rfl : k1 = k := Option.some.inj b2
      obtain ⟨q1, a', q2, d, q3, q4⟩ := c1.step (x := 65500 + (a2 : Int)) h1 h3 b3 b4
      have hx : (65500 + ((a1 + a2 : Nat) : Int)) = 65500 + (a2 : Int) + (a1 : Int) := by omega
      have hx' : (65500 + ((a' + a2 : Nat) : Int)) = 65500 + (a2 : Int) + (a' : Int) := by omega
      refine ⟨_, k2, a', a2, s1 + 1, s2, ?_, q2, c2, by omega⟩
      unfold goS
      rw [q1]
      show doS _ 0 k1 i = _
      unfold doS setC
      rw [hx, hx', q4]
      rfl
    | 1, b1, b2 =>
      obtain rfl : ctr m2 = R := Option.some.inj b1
      obtain rfl : k2 = k := Option.some.inj b2
      obtain ⟨q1, a', q2, d, q3, q4⟩ := c2.step (x := 65500 + (a1 : Int)) h2 h4 b3 b4
      have hx : (65500 + ((a1 + a2 : Nat) : Int)) = 65500 + (a1 : Int) + (a2 : Int) := by omega
      have hx' : (65500 + ((a1 + a' : Nat) : Int)) = 65500 + (a1 : Int) + (a' : Int) := by omega
      refine ⟨k1, _, a1, a', s1, s2 + 1, ?_, c1, q2, by omega⟩
      unfold goS
      rw [q1]
      show doS _ 1 k2 i = _
      unfold doS setC
      rw [hx, hx', q4]
      rfl
    | c + 2, b1, b2 => cases b1
theorem CJ0 {m1 m2 : Nat} : CJ m1 m2 (S0 [ctr m1, ctr m2] [65500, 0]) 0 := ⟨_, _, 0, 0, 0, 0, rfl, .r0, .r0, rfl⟩
theorem CJ.fin {m1 m2 : Nat} {S : Sd} {j : Nat} (h : CJ m1 m2 S j) (hl : leftL [ctr m1, ctr m2] S = []) : S.mem = [(65500 + (m1 : Int) + (m2 : Int)) % 65536, 0] ∧ j = 4 * m1 + 1 + (4 * m2 + 1) := by
  obtain ⟨k1, k2, a1, a2, s1, s2, e, c1, c2, hj⟩ := h
  subst e
  have hn := fun c => List.filter_eq_nil_iff.mp hl c
  have n0 := hn 0 (by simp)
  have n1 := hn 1 (by simp)
  have n0' : G.still (ctr m1) k1.row = true := by simpa [stl] using n0
  have n1' : G.still (ctr m2) k2.row = true := by simpa [stl] using n1
  obtain ⟨rfl, rfl⟩ := c1.still n0'
  obtain ⟨rfl, rfl⟩ := c2.still n1'
  refine ⟨?_, hj⟩
  show [_, _] = _
  congr 2
  omega
theorem CJ.le {m1 m2 : Nat} {S : Sd} {j : Nat} (h : CJ m1 m2 S j) : j ≤ 4 * m1 + 1 + (4 * m2 + 1) := by
  obtain ⟨k1, k2, a1, a2, s1, s2, e, c1, c2, hj⟩ := h
  have := c1.le
  have := c2.le
  omega
theorem ctr_ok {m : Nat} (h : m ≤ 60000) : OkR (ctr m) := ⟨by simp [ctr], fun i hi => by
  have hm : wrd m := ⟨by omega, by omega⟩
  simp only [ctr, List.mem_cons, List.not_mem_nil, or_false] at hi
  rcases hi with e | e | e | e | e | e <;> subst e
  · exact ⟨⟨by decide, by decide⟩, hm⟩
  · exact ⟨⟨by decide, by decide⟩, by decide, by decide⟩
  · exact ⟨⟨by decide, by decide⟩, ⟨by decide, by decide⟩, ⟨by decide, by decide⟩, by decide, by decide⟩
  · exact ⟨.inr (.inl rfl), ⟨by decide, by decide⟩, ⟨by decide, by decide⟩, by decide, by decide⟩
  · exact ⟨⟨by decide, by decide⟩, by decide, by simp [ctr]⟩
  · exact ⟨by decide, by simp [ctr]⟩⟩
theorem ctrs_ok {m1 m2 : Nat} (h1 : m1 ≤ 60000) (h2 : m2 ≤ 60000) : OkB [ctr m1, ctr m2] := ⟨by simp, by simp, fun R hR => by
  simp only [List.mem_cons, List.not_mem_nil, or_false] at hR
  rcases hR with e | e <;> subst e
  · exact ctr_ok h1
  · exact ctr_ok h2⟩
theorem mem0_ok : OkM [65500, 0] := ⟨by decide, by decide, fun x hx => by
  simp only [List.mem_cons, List.not_mem_nil, or_false] at hx
  rcases hx with e | e <;> subst e <;> exact ⟨by decide, by decide⟩⟩
section
variable {n : Nat} {s : Stk} {o : Ob} {t : Stk} {b : Nat}
theorem p_49 (D : DeckO o b) (hb : b ≤ 100000000) : ∃ o' m, callAt PT (n + 2) 49 [.ref 0] (o :: t) = .ok (.val (.tuple [toR (ctr ((m : Nat) : Int)), .int (m : Int)])) (o' :: t) ∧ DeckO o' (b + 1) ∧ 1 ≤ m ∧ m ≤ 90 := by
  obtain ⟨o1, v1, e1, D1, a1, b1⟩ := tkL (n := n) (t := t) 90 (by decide) (by decide) D (by omega)
  obtain ⟨m, hm⟩ : ∃ m : Nat, 1 + v1 = (m : Int) := ⟨(1 + v1).toNat, by omega⟩
  refine ⟨o1, m, ?_, D1, by omega, by omega⟩
  rw [c_49]
  simp [F_49, e1, hm, ctr, toR, toD]
end
end G
set_option maxRecDepth 100000
namespace G
open PySem MP
section
variable {n : Nat} {s : Stk} {o : Ob} {t : Stk} {B : Bk} {S : Sd} {mem : List Int} {cs : List Nat} {st : List PyData} {b : Nat} {d : PyData} {l : List Int}
structure Bad (d : PyData) : Prop where
  mb : memB d = false
  nd : d.hasDict = false
  ok : okA 3 d
  rp : reprOk d = true
theorem hd_none : PyData.hasDict .none = false := by rfl
theorem bad_none : Bad .none := ⟨rfl, hd_none, trivial, reprOk_num rfl (Nat.zero_le _) (show 31 ≤ 16777216 by decide)⟩
theorem okA_ints (h : l.length ≤ 1000) : okA 3 (intsT l) ∧ okA 3 (.list (l.map PyData.int)) := by
  have h1 : (l.map PyData.int).length ≤ 1000000 := by rw [List.length_map]; omega
  have h2 : ∀ x ∈ l.map PyData.int, okA 2 x := fun x hx => by
    obtain ⟨i, _, rfl⟩ := List.mem_map.mp hx
    trivial
  exact ⟨⟨h1, h2⟩, ⟨h1, h2⟩⟩
theorem bnum_ints (h : ∀ x ∈ l, x.natAbs < 10 ^ 30) (hl : l.length ≤ 1000) : reprOk (intsT l) = true ∧ reprOk (.list (l.map PyData.int)) = true := by
  have hn : numAll (l.map PyData.int) = true := numA_map fun x hx => decide_eq_true (h x hx)
  have hd : PyData.depthAll (l.map PyData.int) ≤ 0 := depA_map fun x _ => by simp
  have hw := wdA_map (f := PyData.int) (b := 31) (l := l) fun x _ => Nat.le_refl _
  refine ⟨reprOk_num hn ?_ ?_, reprOk_num hn ?_ ?_⟩
  · rw [dep_tup]
    omega
  · show wdAll _ + 4 ≤ _
    omega
  · rw [dep_lst]
    omega
  · show wdAll _ + 2 ≤ _
    omega
theorem nd_list : PyData.hasDict (.list (l.map PyData.int)) = false := ints_nd (l := l)
theorem bad_list (h : OkM mem) : Bad (.list (mem.map PyData.int)) := ⟨rfl, nd_list, (okA_ints (Nat.le_trans h.l2 (by decide))).2, (bnum_ints (fun x hx => by
  obtain ⟨h1, h2⟩ := h.ws x hx
  exact Nat.lt_of_le_of_lt (show x.natAbs ≤ 65535 by omega) (by decide)) (Nat.le_trans h.l2 (by decide))).2⟩
theorem bad_nil : Bad (.tuple []) := ⟨rfl, ints_nd (l := []), ⟨Nat.zero_le _, fun x hx => by simp at hx⟩, (bnum_ints (l := []) (fun x hx => by simp at hx) (Nat.zero_le _)).1⟩
theorem bad_more (h : OkM mem) : Bad (.tuple (mem.map PyData.int ++ [.int 70000])) := by
  have e : PyData.tuple (mem.map PyData.int ++ [.int 70000]) = intsT (mem ++ [70000]) := by simp
  have hl : (mem ++ [70000]).length ≤ 1000 := by rw [List.length_append, List.length_singleton]; have := h.l2; omega
  rw [e]
  refine ⟨?_, ints_nd, (okA_ints hl).1, (bnum_ints (fun x hx => ?_) hl).1⟩
  · have : ((mem ++ [70000]).map PyData.int).all (fun x => within x 0 65535) = false := List.all_eq_false.mpr ⟨.int 70000, by simp, by simp [within]⟩
    simp only [memB, this, Bool.and_false]
  · rcases List.mem_append.mp hx with hx | hx
    · obtain ⟨h1, h2⟩ := h.ws x hx
      exact Nat.lt_of_le_of_lt (show x.natAbs ≤ 65535 by omega) (by decide)
    · have : x = 70000 := by simpa using hx
      subst this
      decide
theorem p_31b : callAt PT (n + 9) 31 [.val .none, .val d] s = .exc 0 .none s := by
  rw [c_31]
  have h1 := p_9x (n := n) (s := s) (d := .none) rfl hd_none trivial
  simp [F_31, h1]
theorem p_31m (hB : OkB B) (h : Bad d) : callAt PT (n + 9) 31 [.val (toB B), .val d] s = .exc 1 d s := by
  rw [c_31]
  have h1 := p_9 (n := n) (s := s) (book_true (book_of hB)) (book_nd (book_of hB))
  have h2 := p_10x (n := n + 3) (s := s) h.mb h.nd h.ok
  simp [F_31, h1, h2]
theorem p_33b {l : PyData} : callAt PT (n + 10) 33 [.val .none, .val d, .val l] s = .exc 0 .none s := by
  rw [c_33]
  have h1 := p_31b (n := n) (s := s) (d := d)
  simp [F_33, h1]
theorem p_33m {l : PyData} (hB : OkB B) (h : Bad d) : callAt PT (n + 10) 33 [.val (toB B), .val d, .val l] s = .exc 1 d s := by
  rw [c_33]
  have h1 := p_31m (n := n) (s := s) hB h
  simp [F_33, h1]
end
end G
set_option maxRecDepth 100000
namespace G
open PySem MP
section
variable {n : Nat} {s : Stk} {o : Ob} {t : Stk} {B : Bk} {S : Sd} {mem : List Int} {cs : List Nat} {st : List PyData} {b : Nat} {d : PyData} {l : List Int}
def BODY5 : Ss := match F_50.body with
  | .cons _ (.cons (.forS _ _ b) _) => b
  | _ => .nil
theorem sh_none : PyData.none.shown = Str.ofString "None" := by simp [PyData.shown]
theorem pick3 {a b c : W} : pick [2, 1, 0] [a, b, c] = [c, b, a] := (rfl)
theorem few_nl (hS : Sr B S) : ∀ k ∈ S.cs, k.late.length ≤ 1000 := fun k hk => by
  rw [hS.nl k hk]
  exact Nat.zero_le _
theorem rep1 (hB : OkB B) (hS : Sr B S) : reprOk (toS S) = true := by
  obtain ⟨h1, h2, h3⟩ := sd_show hB hS.ok (few_nl hS)
  exact reprOk_num h1 (by omega) (by omega)
theorem rep2 (hB : OkB B) (hS : Sr B S) : reprOk (.list [toS S, toS S]) = true := by
  obtain ⟨h1, h2, h3⟩ := sd_show hB hS.ok (few_nl hS)
  refine reprOk_num ?_ ?_ ?_
  · simp [num, numAll, h1]
  · rw [dep_lst, depA_cons, depA_cons, depA_nil]
    omega
  · show wd (toS S) + 2 + (wd (toS S) + 2 + 0) + 2 ≤ _
    omega
theorem memL {v : Int} (h0 : 0 ≤ v) (h1 : v < 5) : ∃ m : Nat, L2.atI ([.int 1, .int 2, .int 3, .int 8, .int 32] : List PyData) v = some (.int (m : Int)) ∧ 1 ≤ m ∧ m ≤ 32 := by
  obtain ⟨d, e, hd⟩ := pickL (l := [.int 1, .int 2, .int 3, .int 8, .int 32]) h0 (by simpa using h1)
  simp only [List.mem_cons, List.not_mem_nil, or_false] at hd
  rcases hd with h | h | h | h | h <;> subst h
  · exact ⟨1, e, by decide, by decide⟩
  · exact ⟨2, e, by decide, by decide⟩
  · exact ⟨3, e, by decide, by decide⟩
  · exact ⟨8, e, by decide, by decide⟩
  · exact ⟨32, e, by decide, by decide⟩
theorem turn5 (D : DeckO o b) (hb : b ≤ 1000000) {i : Int} {x0 x3 x4 x5 x6 x7 x8 x9 : Option W} {j : PyData} :
    ∃ o' y4 y5 y6 y7 y8 y9, fT (callAt PT (n + 13)) (.name 3) BODY5 j [x0, some (.ref 0), some (.val (.int i)), x3, x4, x5, x6, x7, x8, x9, none, none, none, none, none] [o] =
      .ok (.nx [x0, some (.ref 0), some (.val (.int (i + 1))), some (.val j), y4, y5, y6, y7, y8, y9, none, none, none, none, none]) [o'] ∧ DeckO o' (b + 2000) := by
  obtain ⟨o1, x, e1, D1, hx⟩ := p_42 (n := n + 10) (t := []) (m := 9) (by decide) (by decide) D (by omega)
  obtain ⟨B, rfl, hB⟩ := typed_book hx
  obtain ⟨o2, v2, e2, D2, a2, b2⟩ := tkL (n := n + 12) (t := []) 5 (by decide) (by decide) D1 (by omega)
  obtain ⟨m, em, m1, m2⟩ := memL a2 b2
  obtain ⟨o3, x, e3, D3, hx⟩ := p_43 (n := n + 11) (t := []) (j := (m : Int)) (by omega) (by omega) D2 (by omega)
  rw [Int.toNat_natCast] at hx
  obtain ⟨mem, rfl, hlm, hM⟩ := typed_mem hx m1 m2
  obtain ⟨o4, cs, st, S, e4, hr, D4, hst, hcs, _⟩ := p_46 (n := n + 7) (t := []) (m := 120) hB hM (by decide) D3 (by omega)
  rw [show ((120 : Nat) : Int) = 120 from rfl] at e4
  have hS := hr.ok hB (Sr0 hB hM)
  have e5 := p_33 (n := n + 3) (s := [o4]) hB hM hr
  have e6 := p_32 (n := n + 3) (s := [o4]) hB hM (hr.plain hB (Sr0 hB hM)) (by omega)
  obtain ⟨o5, e7, D5⟩ := p_47 (n := n + 1) (t := []) hB hM hr (by omega) D4 (by omega)
  obtain ⟨o6, v6, e8, D6, a6, b6⟩ := tkL (n := n + 12) (t := []) 4 (by decide) (by decide) D5 (by omega)
  obtain ⟨d, e9, hd⟩ := pickL (l := [.none, .list (mem.map PyData.int), .tuple [], .tuple (mem.map PyData.int ++ [.int 70000])]) a6 (by simpa using b6)
  have hbad : Bad d := by
    simp only [List.mem_cons, List.not_mem_nil, or_false] at hd
    rcases hd with h | h | h | h <;> subst h
    · exact bad_none
    · exact bad_list hM
    · exact bad_nil
    · exact bad_more hM
  have e10 := p_44 (p_33b (n := n + 2) (s := [o6]) (d := d) (l := .list [.int 9])) bad_none.rp rfl
  have e11 := p_44 (p_33m (n := n + 2) (s := [o6]) (d := d) (l := .list [.int 9]) hB hbad) hbad.rp (nd_is hbad.nd)
  have r1 := rep1 hB hS
  have r2 := rep2 hB hS
  have hX : isDict (toS S) = false := rfl
  have hD := nd_is hbad.nd
  have hDr := hbad.rp
  have z : lenOk (mem.length + 1) = true := lenOk_le (by have := hM.l2; omega)
  generalize toS S = X at e4 e5 e6 r1 r2 hX
  generalize csD cs = L at e4 e5 e7
  have hBd : isDict (toB B) = false := rfl
  generalize toB B = Y at e1 e4 e5 e6 e7 e11 hBd
  refine ⟨o6, some (.val Y), some (.val (intsT mem)), some (.val (.list L)), some (.val (.list st)), some (.val X), some (.val d), ?_, Dk_le D6 (by omega)⟩
  simp [fT_eq, BODY5, F_50, e1, e2, em, e3, e4, e5, e6, e7, e8, e9, e10, e11, r1, r2, hX, hD, hDr, z, hBd, pick3, sh_none]
end
end G
set_option maxRecDepth 100000
namespace G
open PySem MP
theorem lawRun (ns : List Int) (h : ns.length ≤ 63) : ∃ s', callAt PT 14 50 [.val (.list (ns.map PyData.int))] [] = .ok (.val (.bool true)) s' := by
  have e0 := p_34 (n := 12) (s := []) (xs := ns.map PyData.int)
  obtain ⟨env', s', e, ⟨o, x3, x4, x5, x6, x7, x8, x9, rfl, rfl, D⟩⟩ := for_inv (f := fT (callAt PT 13) (.name 3) BODY5)
    (fun i env s => ∃ o x3 x4 x5 x6 x7 x8 x9, env = [some (.val (.list (ns.map PyData.int))), some (.ref 0), some (.val (.int (i : Int))), x3, x4, x5, x6, x7, x8, x9, none, none, none, none, none] ∧ s = [o] ∧ DeckO o (2000 * i)) (ds := rangeD 0 5) (k := 0)
    (env := [some (.val (.list (ns.map PyData.int))), some (.ref 0), some (.val (.int 0)), none, none, none, none, none, none, none, none, none, none, none, none]) (s := [.lst [.list (ns.map PyData.int), .int 0, .int 0]]) (fun i d env s hd hi => by
      obtain ⟨o, x3, x4, x5, x6, x7, x8, x9, rfl, rfl, D⟩ := hi
      have hi2 := (rangeD_get _ _ _ _ hd).1
      obtain ⟨o', y4, y5, y6, y7, y8, y9, e, D'⟩ := turn5 (n := 0) D (by omega) (i := ((0 + i : Nat) : Int)) (x0 := some (.val (.list (ns.map PyData.int)))) (x3 := x3) (x4 := x4) (x5 := x5) (x6 := x6) (x7 := x7) (x8 := x8) (x9 := x9) (j := d)
      refine ⟨_, [o'], e, o', some (.val d), y4, y5, y6, y7, y8, y9, ?_, rfl, Dk_le D' (by omega)⟩
      have : ((0 + i : Nat) : Int) + 1 = ((0 + i + 1 : Nat) : Int) := by omega
      rw [this]) ⟨_, none, none, none, none, none, none, none, rfl, rfl, ns, 0, 0, rfl, by decide, by decide⟩
  rw [rangeD_len] at e D
  rw [show ((0 + 5 : Nat) : Int) = 5 from rfl] at e
  have z5 : rngOk 5 = true := rng_small (by decide) (by decide)
  obtain ⟨o1, m1, e1, D1, a1, b1⟩ := p_49 (n := 11) (t := []) D (by decide)
  obtain ⟨o2, m2, e2, D2, a2, b2⟩ := p_49 (n := 11) (t := []) D1 (by decide)
  have hB := ctrs_ok (m1 := m1) (m2 := m2) (by omega) (by omega)
  obtain ⟨o3, cs, st, S, e3, hr, D3, hst, hcs, hfin⟩ := p_46 (n := 7) (t := []) (m := 2000) hB mem0_ok (by decide) D2 (by decide)
  rw [show ((2000 : Nat) : Int) = 2000 from rfl] at e3
  have hS := hr.ok hB (Sr0 hB mem0_ok)
  have e4 := p_33 (n := 3) (s := [o3]) hB mem0_ok hr
  have r1 := rep1 hB hS
  have hJ := CJ.run a1 a2 (by omega) (by omega) hr (CJ0 (m1 := m1) (m2 := m2))
  rw [Nat.zero_add] at hJ
  have hle := hJ.le
  have hl : leftL [ctr m1, ctr m2] S = [] := hfin.resolve_right (by omega)
  obtain ⟨hm, hlen⟩ := hJ.fin hl
  have hlen2 : ((csD cs).length : Int) = 2 + 4 * (m1 : Int) - 1 + 2 + 4 * (m2 : Int) - 1 := by
    rw [csD_len]
    omega
  have eS : toS S = .tuple [.tuple (S.cs.map toC), .tuple [.int ((65500 + (m1 : Int) + (m2 : Int)) % 65536), .int 0]] := by
    unfold toS
    rw [hm]
    rfl
  have eB : toB [ctr m1, ctr m2] = .tuple [toR (ctr m1), toR (ctr m2)] := rfl
  rw [eS] at e3 e4 r1
  have eM : intsT [65500, 0] = .tuple [.int 65500, .int 0] := rfl
  rw [eB, eM] at e3 e4
  have hX : isDict (toR (ctr m1)) = false := rfl
  have hY : isDict (toR (ctr m2)) = false := rfl
  generalize toR (ctr m1) = X at e1 e3 e4 hX
  generalize toR (ctr m2) = Y at e2 e3 e4 hY
  generalize csD cs = L at e3 e4 hlen2
  simp only [BODY5, F_50] at e
  refine ⟨[], ?_⟩
  rw [c_50]
  simp [F_50, e0, e, e1, e2, e3, e4, r1, hX, hY, hlen2, z5, mulOk_l (show -18446744073709551616 < (4 : Int) by decide) (show (4 : Int) < 18446744073709551616 by decide)]
end G
set_option maxRecDepth 100000
set_option maxHeartbeats 0
open PySem PySem.W PySem.Calls PyProof.Rows
theorem PySem.Challenge.cw_touchroad_k53_one_row_runs_beside_plain_holds : PySem.Challenge.rw_touchroad_k53_one_row_runs_beside_plain.Holds := by
  w_on; o_law
  refine HandSHeadRun.head_any (r := OpenLaw.row PySem.Challenge.rw_touchroad_k53_one_row_runs_beside_plain) (q := view (OpenLaw.row PySem.Challenge.rw_touchroad_k53_one_row_runs_beside_plain).prog [69]) (H := G.hk) (ob := G.ob) (M := 8000) (loose := G.names) (d := HandSHeadRun.topDef (OpenLaw.row PySem.Challenge.rw_touchroad_k53_one_row_runs_beside_plain).prog 69) (kwd := []) G.ob_eq
    (by kernel_rfl) (fun s => by kernel_rfl) G.run (by kernel_rfl) (by kernel_rfl) (by kernel_rfl) (by rfl) (by first | assumption | decide +kernel) (by decide +kernel) ⟨rfl, rfl, rfl, rfl, rfl, by decide +kernel⟩ ?hw ?hc
  case hw => w_witness2
  case hc =>
    refine MP.walkM (l := PySem.Challenge.rw_touchroad_k53_one_row_runs_beside_plain) (n := 63) (k := 14) (x := "script") rfl (by decide) (by kernel_rfl) ⟨rfl, by decide, by decide⟩ ?F
    intro w mg fa h Y Gr hmg0
    obtain ⟨K, KX, c⟩ := Y
    have hmg : mg ("law" : PySem.Str) = some (.ref fa) := by
      have e : (HandSHeadRun.topDef (OpenLaw.row PySem.Challenge.rw_touchroad_k53_one_row_runs_beside_plain).prog 69).name = ("law" : PySem.Str) := by kernel_rfl
      rw [← e]
      exact hmg0
    obtain ⟨⟨fa', fv, D⟩, F, hE, hI⟩ := MP.toldE KX Gr c G.binds
    have EFx := MP.ef_of (prog := PySem.Challenge.rw_touchroad_k53_one_row_runs_beside_plain.prog) KX Gr (by decide) (by kernel_rfl) hE hI G.initOk
    have hl : G.sig[50]? = some G.sg_50 := rfl
    have dl := D 50 G.sg_50 hl
    have e : fa = fa' 50 := by
      have q := hmg.symm.trans dl.mg
      cases q
      rfl
    subst e
    refine ⟨K, fv 50, MP.spM w K (MP.ctOf K G.er) (MP.callAt G.PT 14) 1 50, KX, fun s v => L2.FunD.bindsA dl.fn G.bn_50 s [v] rfl, fun Gh a ns hns hS => MP.law_sp hS (G.lawRun ns hns), fun base _ _ => ?_⟩
    exact (MP.lev_all (P := PySem.Challenge.rw_touchroad_k53_one_row_runs_beside_plain.prog) (w := w) (base := base) (ct := MP.ctOf K G.er) (PT := G.PT) (fun i g q => by have z := MP.Bods.at (G.bods (P := PySem.Challenge.rw_touchroad_k53_one_row_runs_beside_plain.prog) (base := base) (ct := MP.ctOf K G.er) (fa := fa') (fv := fv) F EFx) i g q; rw [Nat.zero_add] at z; exact z) D 14 50 G.sg_50 hl).2
