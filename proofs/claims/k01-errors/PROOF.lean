import PyProof.Rows.All
import Wide.All
import OpenK.AllK
import Wide.FinOn
import HandS.ForMost
import HandS.Exc
import HandS.ExcInit
import HandS.TryMany
import HandS.Defaults
import HandS.Strs
import HandS.Conv
import HandS.FStr
import HandS.TupAny
import HandS.TupLe
import HandS.TupMul
import HandS.Style
import HandS.IsInst
import HandS.Lambda
import HandS.Flow
import HandS.Wide
import KE.SortData
import KE.KDictKeyed
import HandS.Deep
import HandS.WordsDict
import HandS.Small
import HandS.RaiseMore
import KE.KTupSum
import HandS.SetFor
import HandS.SetKeys
import KE.KIndexOf
import HandS.ExcField
import HandS.Zip
import HandS.Iter
import HandS.Comp
import KE.KExcIs
import HandS.ExcValue
import HandS.Ends
import HandS.HeadEnd
import HandS.HeadHook1
import HandS.HeadHook2
import HandS.Head0
import HandS.Head1
import HandS.Head2
import PyProof.ReprLen
import PySem.Challenge.RW_howevermany_k01_errors
set_option Elab.async false
set_option autoImplicit false
set_option linter.all false
set_option maxRecDepth 100000
namespace MP
open PySem

/-! ### values, the store -/
inductive D where
  | non | bl (b : Bool) | int (i : Int) | str (s : Str) | tup (ds : List D)
  | ref (n : Nat) | fn (g : Nat) | cls (c : Nat) | ty (s : String) | err (c : Nat) (fs : List (Str × D)) | thk

inductive C where
  | lst (ds : List D)          -- a list
  | fls (ds : List D)          -- a list that is read alone (the script)
  | dct (kvs : List (D × D))   -- a dict with int or text keys
  | ins (c : Nat) (fs : List (Str × D))
  | xin (c : Nat) (fs : List (Str × D)) -- an error that was made, not raised
  | clo (l : Nat) (cs : List D) -- a closure: its code, its captured values
  | dead

abbrev AH := List C
abbrev En := List (Option D)

inductive Res (α : Type) where
  | ok (a : α) (h : AH)
  | exc (c : Nat) (fs : List (Str × D)) (h : AH)
  | bad

def Res.bind {α β : Type} (r : Res α) (f : α → AH → Res β) : Res β :=
  match r with
  | .ok a h => f a h
  | .exc c ds h => .exc c ds h
  | .bad => .bad
def ofOpt {α : Type} (o : Option α) (h : AH) : Res α := match o with | some a => .ok a h | none => .bad
def alloc (c : C) (h : AH) : Res D := .ok (.ref h.length) (h ++ [c])

/-! ### syntax -/
inductive Bop | add | sub | mul | fdiv | mod | pow
  deriving DecidableEq
inductive Cop | eq | ne | lt | le | gt | ge | isN | ntN | isB (b : Bool) | ntB (b : Bool) | isin | notin
  deriving DecidableEq
inductive Bi | len | int | str | repr | lst | tup | all | any | sum | min1 | max1 | min2 | max2 | sorted | sset | lset | gcd | abs
  deriving DecidableEq
inductive Mt | append | extend | pop0 | pop1 | remove | index | get1 | get2 | setdefault | update | join | split | upper
  deriving DecidableEq
inductive Ty | int | bool | str | tup | lst | cls (c : Nat)
  deriving DecidableEq

mutual
inductive Ex where
  | non | bl (b : Bool) | int (i : Int) | str (s : Str)
  | var (i : Nat)
  | glo (g : Nat)
  | tup (es : Exs) | lst (es : Exs) | dct (ks vs : Exs)
  | bin (o : Bop) (a b : Ex)
  | neg (a : Ex) | not (a : Ex)
  | cmp (o : Cop) (a b : Ex)
  | chn (o o' : Cop) (a b c : Ex)
  | and (es : Exs) | or (es : Exs)
  | ife (c a b : Ex)
  | idx (a b : Ex)
  | slc (a : Ex) (lo hi : Ox)
  | rev (a : Ex)
  | att (a : Ex) (f : Str)
  | bi (b : Bi) (es : Exs)
  | isi (a : Ex) (ts : List Ty)
  | mth (m : Mt) (o : Ex) (es : Exs)
  | call (g : Nat) (es : Exs)
  | make (c : Nat) (es : Exs)
  | obj (o : Ex) (f : Str) (es : Exs)
  | cal (i : Nat) (es : Exs)
  | lc (elt : Ex) (tg : Tg) (it : It) (cs : Exs)
  | lcl (g : Nat) (b : Ex)
  | mke (k : Nat) (es : Exs)
  | atx (a : Ex) (f : Str)
  | isx (a : Ex) (t : Option Nat)
  | fst (es : Exs)
inductive Ox where
  | no | yes (a : Ex)
inductive Exs where
  | nil | cons (a : Ex) (es : Exs)
inductive It where
  | ex (a : Ex)
  | rng1 (a : Ex) | rng2 (a b : Ex) | rng3 (a b c : Ex)
  | zip (a b : Ex) | enum (a : Ex)
inductive Tg where
  | var (i : Nat) | tup (is : List Nat)
end

inductive Tgt where
  | var (i : Nat) | tup (is : List Nat) | idx (o i : Ex) | att (o : Ex) (f : Str)

mutual
inductive St where
  | asg (t : Tgt) (e : Ex)
  | par (is : List Nat) (es : Exs)
  | augv (i : Nat) (o : Bop) (e : Ex)
  | augi (a b : Ex) (o : Bop) (e : Ex)
  | auga (a : Ex) (f : Str) (o : Bop) (e : Ex)
  | exp (e : Ex)
  | ifs (c : Ex) (a b : Sts)
  | for (t : Tg) (it : It) (b : Sts)
  | whl (c : Ex) (b : Sts)
  | ret (e : Ex) | retn
  | brk | cnt | pas
  | rse (c : Nat) (es : Exs)
  | try (b : Sts) (hs : Hs)
  | del (a b : Ex)
  | act (i : Nat)
inductive Sts where
  | nil | cons (s : St) (ss : Sts)
inductive Hs where
  | nil | cons (c : Nat) (v : Option Nat) (b : Sts) (hs : Hs)
end

/-! ### what operations do -/
/-- the data that a value stands for -/
def toP : Nat → AH → D → Option PyData
  | 0, _, _ => none
  | n + 1, h, d => match d with
    | .non => some .none
    | .bl b => some (.bool b)
    | .int i => some (.int i)
    | .str s => some (.str s)
    | .tup ds => (ds.mapM (toP n h)).map .tuple
    | .ref r => match h[r]? with
      | some (.lst ds) => (ds.mapM (toP n h)).map .list
      | some (.fls ds) => (ds.mapM (toP n h)).map .list
      | _ => none
    | _ => none
abbrev dep : Nat := 40
def lstAt (h : AH) (r : Nat) : Option (List D) := match h[r]? with
  | some (.lst ds) => some ds
  | some (.fls ds) => some ds
  | _ => none
def seqAt (h : AH) : D → Option (List D)
  | .tup ds => some ds
  | .ref r => lstAt h r
  | _ => none

def truD (h : AH) : D → Option Bool
  | .non => some false
  | .bl b => some b
  | .int i => some (i != 0)
  | .str s => if s.length ≤ sizeLine then some (s.length != 0) else none
  | .tup ds => some (!ds.isEmpty)
  | .ref r => match h[r]? with
    | some (.lst ds) => some (!ds.isEmpty)
    | some (.fls ds) => some (!ds.isEmpty)
    | some (.dct kvs) => some (!kvs.isEmpty)
    | _ => none
  | _ => none

def binD (o : Bop) (a b : D) (h : AH) : Res D := match o, a, b with
  | .add, .int i, .int j => .ok (.int (i + j)) h
  | .add, .str x, .str y => if x.length + y.length ≤ sizeLine then .ok (.str (x ++ y)) h else .bad
  | .add, .tup x, .tup y => if x.length + y.length ≤ sizeLine then .ok (.tup (x ++ y)) h else .bad
  | .add, .ref p, .ref q => match h[p]?, h[q]? with
    | some (.lst x), some (.lst y) => if x.length + y.length ≤ sizeLine then alloc (.lst (x ++ y)) h else .bad
    | _, _ => .bad
  | .sub, .int i, .int j => .ok (.int (i - j)) h
  | .mul, .int i, .int j => if (-(2 ^ 64) < i ∧ i < 2 ^ 64) ∨ (-(2 ^ 64) < j ∧ j < 2 ^ 64) then .ok (.int (i * j)) h else .bad
  | .mul, .tup x, .int k => if x ≠ [] ∧ 2 ≤ k ∧ k ≤ 1000 ∧ x.length ≤ 1000 then .ok (.tup (List.replicate k.toNat x).flatten) h else .bad
  | .mul, .ref p, .int k => match h[p]? with
    | some (.lst x) => if -(2 ^ 63) ≤ k ∧ k < 2 ^ 63 ∧ x.length * k.toNat ≤ sizeLine then alloc (.lst (List.replicate k.toNat x).flatten) h else .bad
    | _ => .bad
  | .fdiv, .int i, .int j => if j ≠ 0 ∧ j.natAbs < 1073741824 then .ok (.int (i.fdiv j)) h else .bad
  | .mod, .int i, .int j => if j ≠ 0 then .ok (.int (i.fmod j)) h else .bad
  | .pow, .int i, .int j => if 0 ≤ j ∧ j ≤ 1000000 ∧ i.natAbs < 2 ^ 64 then .ok (.int (i ^ j.toNat)) h else .bad
  | _, _, _ => .bad

/-- keys of dicts -/
def keyOk : D → Bool
  | .int _ => true
  | .str _ => true
  | _ => false
def eqK : D → D → Bool
  | .int i, .int j => i == j
  | .str x, .str y => x == y
  | _, _ => false
def getK (k : D) (kvs : List (D × D)) : Option D := (kvs.find? fun kv => eqK kv.1 k).map (·.2)
def putK (k v : D) (kvs : List (D × D)) : List (D × D) := if (kvs.any fun kv => eqK kv.1 k) = true then kvs.map (fun kv => if eqK kv.1 k = true then (kv.1, v) else kv) else kvs ++ [(k, v)]
def delK (k : D) (kvs : List (D × D)) : List (D × D) := kvs.filter fun kv => !eqK kv.1 k

def eqD (h : AH) (a b : D) : Option Bool := match toP dep h a, toP dep h b with
  | some x, some y => if SeqAt.shaped x && SeqAt.shaped y then some (PyData.eqv x y) else none
  | _, _ => none
def eqQ (h : AH) (a b : D) : Option Bool := match a, b with
  | .str x, .str y => some (decide (x = y))
  | _, _ => eqD h a b
/-- is one of some equal to x -/
def inD (h : AH) (x : D) (ds : List D) : Option Bool := match toP dep h x, ds.mapM (toP dep h) with
  | some p, some ps => if SeqAt.shaped p && SeqAt.shaped (.list ps) && SeqAt.shaped (.tuple ps) then some (ps.any fun q => PyData.eqv q p) else none
  | _, _ => none
def notNone : PyData → Bool
  | .none => false
  | _ => true
def ltD (h : AH) (a b : D) : Option Bool := match a, b with
  | .int i, .int j => some (decide (i < j))
  | .str x, .str y => some (decide (x.cps.toList < y.cps.toList))
  | _, _ => match toP dep h a, toP dep h b with
    | some x, some y => if W.alike x y && notNone x && decide (x.depth ≤ 40) then some (W.dataLt x y) else none
    | _, _ => none

/-! ### keys, sets, sorting -/
mutual
def kyD : D → Option NestedKey
  | .non => some .none
  | .int i => some (.num i)
  | .str s => some (.text s)
  | .tup ds => (kyDs ds).map .tup
  | _ => none
def kyDs : List D → Option (List NestedKey)
  | [] => some []
  | d :: ds => match kyD d, kyDs ds with
    | some k, some ks => some (k :: ks)
    | _, _ => none
end
def dedup : List (D × NestedKey) → List (D × NestedKey)
  | [] => []
  | p :: ps => p :: (dedup ps).filter fun q => !decide (q.2 = p.2)
def allAlike (ps : List PyData) : Bool := ps.all fun p => ps.all fun q => W.alike p q
def sortable (ps : List PyData) : Bool :=
  (ps.all fun p => match p with | .tuple (_ :: _) => true | _ => false) || ps.all fun p => match p with | .none => false | .tuple _ => false | _ => true
def sortP (l : List (D × PyData)) : List D := (l.mergeSort (W.dataLe false Prod.snd)).map Prod.fst
def sortD (h : AH) (ds : List D) : Option (List D) := match ds.mapM (toP dep h) with
  | some ps => if allAlike ps && sortable ps && ps.all fun p => decide (p.depth ≤ 40) then some (sortP (ds.zip ps)) else none
  | none => none
def setD (ds : List D) : Option (List D) := match kyDs ds with
  | some ks => some ((dedup (ds.zip ks)).map Prod.fst)
  | none => none

def intsOf : List D → Option (List Int)
  | [] => some []
  | .int i :: r => (intsOf r).map (i :: ·)
  | _ => none
def boolsOf : List D → Option (List Bool)
  | [] => some []
  | .bl b :: r => (boolsOf r).map (b :: ·)
  | _ => none
def strsOf : List D → Option (List Str)
  | [] => some []
  | .str b :: r => (strsOf r).map (b :: ·)
  | _ => none
inductive Kd | non | bool | int | str | tup | lst | dct | ins (c : Nat)
  deriving DecidableEq
def kindD (h : AH) : D → Option Kd
  | .non => some .non
  | .bl _ => some .bool
  | .int _ => some .int
  | .str _ => some .str
  | .tup _ => some .tup
  | .ref r => match h[r]? with
    | some (.lst _) => some .lst
    | some (.fls _) => some .lst
    | some (.dct _) => some .dct
    | some (.ins c _) => some (.ins c)
    | _ => none
  | _ => none
def isTy (k : Kd) : Ty → Bool
  | .int => decide (k = .int ∨ k = .bool)
  | .bool => decide (k = .bool)
  | .str => decide (k = .str)
  | .tup => decide (k = .tup)
  | .lst => decide (k = .lst)
  | .cls c => decide (k = .ins c)
def isiD (h : AH) (d : D) (ts : List Ty) : Option Bool := (kindD h d).map fun k => ts.any (isTy k)

def cut {α : Type} (xs : List α) (lo hi : Option Int) : List α := (xs.drop (HT.sIx xs.length 0 lo)).take (HT.sIx xs.length xs.length hi - HT.sIx xs.length 0 lo)
def idxD (a b : D) (h : AH) : Res D := match b with
  | .int i => match a with
    | .str z => if z.length ≤ sizeLine then match L2.atI z.cps.toList i with | some c => .ok (.str ⟨#[c]⟩) h | none => .bad else .bad
    | .tup ds => ofOpt (L2.atI ds i) h
    | .ref r => match h[r]? with
      | some (.lst ds) => ofOpt (L2.atI ds i) h
      | some (.fls ds) => ofOpt (L2.atI ds i) h
      | some (.dct kvs) => ofOpt (getK b kvs) h
      | _ => .bad
    | _ => .bad
  | .str _ => match a with
    | .ref r => match h[r]? with
      | some (.dct kvs) => ofOpt (getK b kvs) h
      | _ => .bad
    | _ => .bad
  | _ => .bad
def slcD (a : D) (lo hi : Option Int) (h : AH) : Res D := match a with
  | .str z => if z.length ≤ sizeLine then .ok (.str (L2.cutS z lo hi)) h else .bad
  | .tup ds => .ok (.tup (cut ds lo hi)) h
  | .ref r => match lstAt h r with
    | some ds => alloc (.lst (cut ds lo hi)) h
    | none => .bad
  | _ => .bad
def setI (a b v : D) (h : AH) : Res Unit := match a with
  | .ref r => match h[r]? with
    | some (.lst ds) => match b with
      | .int i => match L2.ixN ds.length i with
        | some j => .ok () (h.set r (.lst (ds.set j v)))
        | none => .bad
      | _ => .bad
    | some (.dct kvs) => if keyOk b && decide (kvs.length < sizeLine) then .ok () (h.set r (.dct (putK b v kvs))) else .bad
    | _ => .bad
  | _ => .bad
def attD (a : D) (f : Str) (h : AH) : Res D := match a with
  | .ref r => match h[r]? with
    | some (.ins _ fs) => ofOpt (fs.lookup f) h
    | _ => .bad
  | .err _ fs => ofOpt (fs.lookup f) h
  | _ => .bad
/-- errors as values -/
def attX (a : D) (f : Str) (h : AH) : Res D := match a with
  | .ref r => match h[r]? with
    | some (.xin _ fs) => ofOpt (fs.lookup f) h
    | _ => .bad
  | .err _ fs => ofOpt (fs.lookup f) h
  | _ => .bad
def xinD (h : AH) : D → Option Nat
  | .ref r => match h[r]? with
    | some (.xin c _) => some c
    | _ => none
  | .err c _ => some c
  | _ => none
/-- none: ValueError -/
def isxB (ups : List Nat) (c : Nat) : Option Nat → Bool
  | none => true
  | some j => decide (j = c ∨ j ∈ ups)
def setA (a : D) (f : Str) (v : D) (h : AH) : Res Unit := match a with
  | .ref r => match h[r]? with
    | some (.ins c fs) => if fs.length < 1000 then .ok () (h.set r (.ins c (putA f v fs))) else .bad
    | _ => .bad
  | _ => .bad
where putA (f : Str) (v : D) : List (Str × D) → List (Str × D)
  | [] => [(f, v)]
  | (g, u) :: r => if g = f then (f, v) :: r else (g, u) :: putA f v r

def biD (b : Bi) (ds : List D) (h : AH) : Res D := match b, ds with
  | .len, [d] => match d with
    | .str z => if z.length ≤ sizeLine then .ok (.int z.length) h else .bad
    | .tup ds => .ok (.int ds.length) h
    | .ref r => match h[r]? with
      | some (.lst ds) => .ok (.int ds.length) h
      | some (.fls ds) => .ok (.int ds.length) h
      | some (.dct kvs) => .ok (.int kvs.length) h
      | _ => .bad
    | _ => .bad
  | .int, [.int i] => .ok (.int i) h
  | .int, [.bl b] => .ok (.int (if b then 1 else 0)) h
  | .int, [.str s] => match intText? s with
    | some n => if s.length ≤ 640 then .ok (.int n) h else .bad
    | none => .bad
  | .str, [.int i] => if i.natAbs.log2 < 1920 then .ok (.str (toString i)) h else .bad
  | .str, [.str s] => .ok (.str s) h
  | .repr, [d] => match toP dep h d with
    | some p => if p.showable && p.canLay0 && decide (p.depth ≤ 40) && decide (p.shown.length ≤ sizeLine) then .ok (.str p.shown) h else .bad
    | none => .bad
  | .lst, [d] => match seqAt h d with
    | some ds => alloc (.lst ds) h
    | none => .bad
  | .tup, [d] => match seqAt h d with
    | some ds => .ok (.tup ds) h
    | none => .bad
  | .all, [.ref r] => match (lstAt h r).bind boolsOf with
    | some bs => .ok (.bl (bs.all id)) h
    | none => .bad
  | .any, [.ref r] => match (lstAt h r).bind boolsOf with
    | some bs => .ok (.bl (bs.any id)) h
    | none => .bad
  | .sum, [d] => match (seqAt h d).bind intsOf with
    | some ns => .ok (.int ns.sum) h
    | none => .bad
  | .min1, [.ref r] => match ((lstAt h r).bind intsOf).bind List.min? with
    | some n => .ok (.int n) h
    | none => .bad
  | .max1, [.ref r] => match ((lstAt h r).bind intsOf).bind List.max? with
    | some n => .ok (.int n) h
    | none => .bad
  | .min2, [.int i, .int j] => .ok (.int (if j < i then j else i)) h
  | .max2, [.int i, .int j] => .ok (.int (if j > i then j else i)) h
  | .sorted, [.ref r] => match (lstAt h r).bind (sortD h) with
    | some ds => alloc (.lst ds) h
    | none => .bad
  | .sset, [d] => match ((seqAt h d).bind setD).bind (sortD h) with
    | some ds => alloc (.lst ds) h
    | none => .bad
  | .lset, [d] => match (seqAt h d).bind setD with
    | some ds => .ok (.int ds.length) h
    | none => .bad
  | .abs, [.int i] => .ok (.int (if i < 0 then -i else i)) h
  | .gcd, [.int i, .int j] => .ok (.int (Int.gcd i j)) h
  | _, _ => .bad

/-- methods of built-in things -/
inductive Mk | lst | dct | str | tup
  deriving DecidableEq
def mkOf (h : AH) : D → Option Mk
  | .str _ => some .str
  | .tup _ => some .tup
  | .ref r => match h[r]? with
    | some (.lst _) => some .lst
    | some (.dct _) => some .dct
    | _ => none
  | _ => none
def mtOk : Mt → Mk → Bool
  | .append, .lst => true
  | .extend, .lst => true
  | .pop0, .lst => true
  | .pop1, .lst => true
  | .index, .lst => true
  | .index, .tup => false
  | .remove, .lst => true
  | .get1, .dct => true
  | .get2, .dct => true
  | .setdefault, .dct => true
  | .join, .str => true
  | .split, .str => true
  | .upper, .str => true
  | _, _ => false
def lstM (h : AH) : D → Option (Nat × List D)
  | .ref r => match h[r]? with
    | some (.lst xs) => some (r, xs)
    | _ => none
  | _ => none
def dctM (h : AH) : D → Option (Nat × List (D × D))
  | .ref r => match h[r]? with
    | some (.dct xs) => some (r, xs)
    | _ => none
  | _ => none
def mAppend (o : D) (ds : List D) (h : AH) : Res D := match lstM h o, ds with
  | some (r, xs), [d] => if xs.length < sizeLine then .ok .non (h.set r (.lst (xs ++ [d]))) else .bad
  | _, _ => .bad
def mExtend (o : D) (ds : List D) (h : AH) : Res D := match lstM h o, ds with
  | some (r, xs), [.ref q] => match h[q]? with
    | some (.lst ys) => if xs.length + ys.length ≤ sizeLine then .ok .non (h.set r (.lst (xs ++ ys))) else .bad
    | _ => .bad
  | some (r, xs), [.tup ys] => if xs.length + ys.length ≤ sizeLine then .ok .non (h.set r (.lst (xs ++ ys))) else .bad
  | _, _ => .bad
def mPop0 (o : D) (ds : List D) (h : AH) : Res D := match lstM h o, ds with
  | some (r, xs), [] => match xs[xs.length - 1]? with
    | some y => .ok y (h.set r (.lst xs.dropLast))
    | none => .bad
  | _, _ => .bad
def mPop1 (o : D) (ds : List D) (h : AH) : Res D := match lstM h o, ds with
  | some (r, xs), [.int i] => match L2.ixN xs.length i with
    | some k => match xs[k]? with
      | some y => if -(2 ^ 63) ≤ i ∧ i < 2 ^ 63 then .ok y (h.set r (.lst (xs.eraseIdx k))) else .bad
      | none => .bad
    | none => .bad
  | _, _ => .bad
def mIndexL (o : D) (ds : List D) (h : AH) : Res D := match lstM h o, ds with
  | some (_, xs), [d] => match xs.mapM (toP dep h), toP dep h d with
    | some ps, some p => if SeqAt.shaped (.list ps) && SeqAt.shaped p then match ps.findIdx? fun q => PyData.eqv q p with
      | some j => .ok (.int (j : Nat)) h
      | none => .bad else .bad
    | _, _ => .bad
  | _, _ => .bad
def mIndexT (o : D) (ds : List D) (h : AH) : Res D := match o, ds with
  | .tup xs, [.str z] => match strsOf xs with
    | some ys => if z ∈ ys then .ok (.int (ys.idxOf z : Nat)) h else .bad
    | none => .bad
  | _, _ => .bad
def mRemove (o : D) (ds : List D) (h : AH) : Res D := match lstM h o, ds with
  | some (r, xs), [.int i] => match intsOf xs with
    | some ns => match ns.findIdx? fun z => z == i with
      | some j => .ok .non (h.set r (.lst (xs.eraseIdx j)))
      | none => .bad
    | none => .bad
  | _, _ => .bad
def mGet1 (o : D) (ds : List D) (h : AH) : Res D := match dctM h o, ds with
  | some (_, kvs), [k] => if keyOk k then .ok ((getK k kvs).getD .non) h else .bad
  | _, _ => .bad
def mGet2 (o : D) (ds : List D) (h : AH) : Res D := match dctM h o, ds with
  | some (_, kvs), [k, d] => if keyOk k then .ok ((getK k kvs).getD d) h else .bad
  | _, _ => .bad
def mSetdef (o : D) (ds : List D) (h : AH) : Res D := match dctM h o, ds with
  | some (r, kvs), [k, d] => if keyOk k && decide (kvs.length < sizeLine) then match getK k kvs with
        | some v => .ok v h
        | none => .ok d (h.set r (.dct (putK k d kvs))) else .bad
  | _, _ => .bad
def mJoin (o : D) (ds : List D) (h : AH) : Res D := match o, ds with
  | .str z, [d] => match (seqAt h d).bind strsOf with
    | some ys => if (ys.map (·.length)).sum + ys.length * z.length ≤ 16777216 then .ok (.str (Txt.join z ys)) h else .bad
    | none => .bad
  | _, _ => .bad
def mSplit (o : D) (ds : List D) (h : AH) : Res D := match o, ds with
  | .str z, [.str b] => if (b.length == 0) = false ∧ z.length + 2 ≤ sizeLine then alloc (.lst ((Txt.split z b).map .str)) h else .bad
  | _, _ => .bad
def mUpper (o : D) (ds : List D) (h : AH) : Res D := match o, ds with
  | .str z, [] => if z.length ≤ 5592405 then .ok (.str (Txt.upper z)) h else .bad
  | _, _ => .bad
def mtD (m : Mt) (k : Mk) (o : D) (ds : List D) (h : AH) : Res D := match m with
  | .append => mAppend o ds h
  | .extend => mExtend o ds h
  | .pop0 => mPop0 o ds h
  | .pop1 => mPop1 o ds h
  | .index => match k with
    | .tup => mIndexT o ds h
    | _ => mIndexL o ds h
  | .remove => mRemove o ds h
  | .get1 => mGet1 o ds h
  | .get2 => mGet2 o ds h
  | .setdefault => mSetdef o ds h
  | .update => .bad
  | .join => mJoin o ds h
  | .split => mSplit o ds h
  | .upper => mUpper o ds h
def mkM (m : Mt) (o : D) (h : AH) : Res Mk := match mkOf h o with
  | some k => if mtOk m k = true then .ok k h else .bad
  | none => .bad
end MP
namespace MP
open PySem

structure Cli where
  meths : List (Str × Nat)
/-- an own class of errors: its fields, the own classes above it -/
structure Eri where
  fields : List Str
  up : List Nat

/-- one level of calls -/
structure LvF where
  call : Nat → List D → AH → Res D
  make : Nat → List D → AH → Res D
  lcl : Nat → (AH → Res D) → AH → Res D
/-- what the code around gives: the levels of calls that are left, what a handed lambda does, the program's own things -/
structure Cg where
  fs : List LvF
  tk : AH → Res D
  glo : Nat → Option D
  cls : Nat → Option Cli
  ers : Nat → Option Eri
  fuel : Nat
def Cg.call (c : Cg) (g : Nat) (ds : List D) (h : AH) : Res D := match c.fs with
  | f :: _ => f.call g ds h
  | [] => .bad
def Cg.make (c : Cg) (g : Nat) (ds : List D) (h : AH) : Res D := match c.fs with
  | f :: _ => f.make g ds h
  | [] => .bad
def Cg.lcl (c : Cg) (g : Nat) (a : AH → Res D) (h : AH) : Res D := match c.fs with
  | f :: _ => f.lcl g a h
  | [] => .bad
/-- two levels lower, no lambda at hand -/
def Cg.low (c : Cg) : Cg := { c with fs := c.fs.tail.tail, tk := fun _ => .bad }

def Cg.ups (c : Cg) (k : Nat) : List Nat := ((c.ers k).map (·.up)).getD []
def mkeD (c : Cg) (k : Nat) (ds : List D) (h : AH) : Res D := match c.ers k with
  | some K => if ds.length = K.fields.length then alloc (.xin k (K.fields.zip ds).reverse) h else .bad
  | none => .bad
def isxD (c : Cg) (h : AH) (d : D) (t : Option Nat) : Option Bool := (xinD h d).map fun k => isxB (c.ups k) k t
structure Itr where
  rd : AH → Option (List D)
  turns : Nat

def bindTg (t : Tg) (v : D) (e : En) : Option En := match t with
  | .var i => some (e.set i (some v))
  | .tup is => match v with
    | .tup ds => if ds.length = is.length then some ((is.zip ds).foldl (fun e p => e.set p.1 (some p.2)) e) else none
    | _ => none
def tgVars : Tg → List Nat
  | .var i => [i]
  | .tup is => is
def wipeE (e : En) : List Nat → En
  | [] => e
  | v :: vs => (wipeE e vs).set v none

/-- a comprehension's turns; acc: what is made so far -/
def lcGo (t : Tg) (vs : List Nat) (I : Itr) (c : En → AH → Res Bool) (f : En → AH → Res D) (e : En) : Nat → Nat → List D → AH → Res (List D)
  | 0, _, _, _ => .bad
  | n + 1, i, acc, h => match I.rd h with
    | none => .bad
    | some ds => match ds[i]? with
      | none => .ok acc h
      | some d => match bindTg t d (wipeE e vs) with
        | none => .bad
        | some e1 => match c e1 h with
          | .ok false h1 => lcGo t vs I c f e n (i + 1) acc h1
          | .ok true h1 => match f e1 h1 with
            | .ok d h2 => if acc.length < sizeLine then lcGo t vs I c f e n (i + 1) (acc ++ [d]) h2 else .bad
            | _ => .bad
          | _ => .bad

def rangeL (lo : Int) (n : Nat) : List D := (List.range n).map fun (k : Nat) => D.int (lo + k)
def itSeq (d : D) (h : AH) : Res Itr := match d with
  | .tup ds => .ok ⟨fun _ => some ds, ds.length + 1⟩ h
  | .ref r => match lstAt h r with
    | some ds => .ok ⟨fun h => lstAt h r, ds.length + 1⟩ h
    | none => .bad
  | .str z => .ok ⟨fun _ => some (z.cps.toList.map fun c => .str ⟨#[c]⟩), z.cps.size + 1⟩ h
  | _ => .bad
def itRng (lo hi : D) (h : AH) : Res Itr := match lo, hi with
  | .int i, .int j => if -(2 ^ 62) ≤ i ∧ i < 2 ^ 62 ∧ -(2 ^ 62) ≤ j ∧ j < 2 ^ 62 then .ok ⟨fun _ => some (rangeL i (j - i).toNat), (j - i).toNat + 1⟩ h else .bad
  | _, _ => .bad
def itZip (a b : D) (h : AH) : Res Itr := match a, b with
  | .ref p, .ref q => match lstAt h p, lstAt h q with
    | some x, some y => .ok ⟨fun h => match lstAt h p, lstAt h q with
      | some x, some y => some ((x.zip y).map fun p => .tup [p.1, p.2])
      | _, _ => none, x.length + 1⟩ h
    | _, _ => .bad
  | .tup x, .tup y => .ok ⟨fun _ => some ((x.zip y).map fun p => .tup [p.1, p.2]), x.length + 1⟩ h
  | _, _ => .bad
def enumL (i : Nat) : List D → List D
  | [] => []
  | d :: ds => .tup [.int (i : Nat), d] :: enumL (i + 1) ds
def itEnum (a : D) (h : AH) : Res Itr := match a with
  | .ref p => match lstAt h p with
    | some x => .ok ⟨fun h => (lstAt h p).map (enumL 0), x.length + 1⟩ h
    | none => .bad
  | _ => .bad

def isIn (h : AH) (a b : D) : Option Bool := match b with
  | .str y => match a with
    | .str x => some (!(Builtin.Str.occurrences y x 0 y.length 1).isEmpty)
    | _ => none
  | .tup ds => inD h a ds
  | .ref r => match h[r]? with
    | some (.lst ds) => inD h a ds
    | some (.fls ds) => inD h a ds
    | some (.dct kvs) => if keyOk a then some (getK a kvs).isSome else none
    | _ => none
  | _ => none
def isNone : D → Option Bool
  | .non => some true
  | .bl _ => some false
  | .int _ => some false
  | .str _ => some false
  | .tup _ => some false
  | .ref _ => some false
  | _ => none
def isBool (b : Bool) : D → Option Bool
  | .non => some false
  | .bl k => some (k == b)
  | .int _ => some false
  | .str _ => some false
  | .tup _ => some false
  | .ref _ => some false
  | _ => none
def cmpB (o : Cop) (a b : D) (h : AH) : Option Bool := match o with
  | .eq => eqQ h a b
  | .ne => (eqQ h a b).map (!·)
  | .lt => ltD h a b
  | .gt => match a, b with
    | .int i, .int j => some (decide (j < i))
    | .str x, .str y => some (decide (y.cps.toList < x.cps.toList))
    | _, _ => none
  | .le => match a, b with
    | .int i, .int j => some (decide (i ≤ j))
    | .str x, .str y => some (!decide (y.cps.toList < x.cps.toList))
    | _, _ => none
  | .ge => match a, b with
    | .int i, .int j => some (decide (j ≤ i))
    | .str x, .str y => some (!decide (x.cps.toList < y.cps.toList))
    | _, _ => none
  | .isN => isNone a
  | .ntN => (isNone a).map (!·)
  | .isB b => isBool b a
  | .ntB b => (isBool b a).map (!·)
  | .isin => isIn h a b
  | .notin => (isIn h a b).map (!·)
def cmpD (o : Cop) (a b : D) (h : AH) : Res D := ofOpt ((cmpB o a b h).map .bl) h

/-- the own method behind a name -/
def mthD (c : Cg) (o : D) (f : Str) (h : AH) : Res Nat := match o with
  | .ref r => match h[r]? with
    | some (.ins k fs) => ofOpt (match fs.lookup f with
      | none => (c.cls k).bind fun K => K.meths.lookup f
      | some _ => none) h
    | _ => .bad
  | _ => .bad
def fnD (o : D) (h : AH) : Res Nat := match o with
  | .fn g => .ok g h
  | _ => .bad

/-- what an expression does: as a value, as a test -/
structure Sx where
  v : En → AH → Res D
  t : En → AH → Res Bool
def Sx.of (v : En → AH → Res D) : Sx := ⟨v, fun e h => (v e h).bind fun x h => ofOpt (truD h x) h⟩
def asB (r : Res D) : Res Bool := r.bind fun x h => match x with
  | .bl k => .ok k h
  | _ => .bad
def Sx.cmp (v : En → AH → Res D) : Sx := ⟨v, fun e h => asB (v e h)⟩
def seqE : List Sx → En → AH → Res (List D)
  | [], _, h => .ok [] h
  | s :: ss, e, h => (s.v e h).bind fun x h => (seqE ss e h).bind fun xs h => .ok (x :: xs) h
def andE : List Sx → En → AH → Res D
  | [], _, _ => .bad
  | s :: ss, e, h => match ss with
    | [] => s.v e h
    | _ :: _ => (s.v e h).bind fun x h => (ofOpt (truD h x) h).bind fun k h => if k = true then andE ss e h else .ok x h
def orE : List Sx → En → AH → Res D
  | [], _, _ => .bad
  | s :: ss, e, h => match ss with
    | [] => s.v e h
    | _ :: _ => (s.v e h).bind fun x h => (ofOpt (truD h x) h).bind fun k h => if k = true then .ok x h else orE ss e h
def andT : List Sx → En → AH → Res Bool
  | [], _, _ => .bad
  | s :: ss, e, h => match ss with
    | [] => s.t e h
    | _ :: _ => (s.t e h).bind fun k h => if k = true then andT ss e h else .ok false h
def orT : List Sx → En → AH → Res Bool
  | [], _, _ => .bad
  | s :: ss, e, h => match ss with
    | [] => s.t e h
    | _ :: _ => (s.t e h).bind fun k h => if k = true then .ok true h else orT ss e h
def conT : List Sx → En → AH → Res Bool
  | [], _, h => .ok true h
  | s :: ss, e, h => (s.t e h).bind fun k h => if k = true then conT ss e h else .ok false h
def optE (s : Option Sx) (e : En) (h : AH) : Res (Option Int) := match s with
  | none => .ok none h
  | some s => (s.v e h).bind fun x h => match x with
    | .int i => .ok (some i) h
    | _ => .bad
def varE (i : Nat) (e : En) (h : AH) : Res D := match e[i]? with
  | some (some .thk) => .bad
  | some (some d) => .ok d h
  | _ => .bad
def actE (c : Cg) (i : Nat) (e : En) (h : AH) : Res D := match e[i]? with
  | some (some .thk) => c.tk h
  | _ => .bad
def tupE (ds : List D) (h : AH) : Res D := if ds.length ≤ sizeLine then .ok (.tup ds) h else .bad
def lstE (ds : List D) (h : AH) : Res D := if ds.length ≤ sizeLine then alloc (.lst ds) h else .bad
def negD (x : D) (h : AH) : Res D := match x with
  | .int i => .ok (.int (-i)) h
  | _ => .bad
def revD (x : D) (h : AH) : Res D := match x with
  | .ref r => match lstAt h r with
    | some ds => alloc (.lst ds.reverse) h
    | none => .bad
  | _ => .bad
def lcE (t : Tg) (it : En → AH → Res Itr) (cs : List Sx) (f : Sx) (e : En) (h : AH) : Res D :=
  (it e h).bind fun I h => (lcGo t (tgVars t) I (conT cs) f.v e I.turns 0 [] h).bind fun ds h => alloc (.lst ds) h

/-- the pairs of a display -/
def prsE : List Sx → List Sx → En → AH → Res (List (D × D))
  | [], [], _, h => .ok [] h
  | k :: ks, v :: vs, e, h => (k.v e h).bind fun x h => (v.v e h).bind fun y h => (prsE ks vs e h).bind fun ps h => .ok ((x, y) :: ps) h
  | _, _, _, _ => .bad
def mergeD (kvs more : List (D × D)) : List (D × D) := more.foldl (fun acc kv => putK kv.1 kv.2 acc) kvs
def dctE (ps : List (D × D)) (h : AH) : Res D := if ps.all (fun p => keyOk p.1) && decide (ps.length ≤ 15) then alloc (.dct (mergeD [] ps)) h else .bad
mutual
def sx (c : Cg) : Ex → Sx
  | .non => .of fun _ h => .ok .non h
  | .bl b => .of fun _ h => .ok (.bl b) h
  | .int i => .of fun _ h => .ok (.int i) h
  | .str s => .of fun _ h => .ok (.str s) h
  | .var i => .of fun e h => varE i e h
  | .glo g => .of fun _ h => ofOpt (c.glo g) h
  | .tup es => .of fun e h => (seqE (sxs c es) e h).bind tupE
  | .lst es => .of fun e h => (seqE (sxs c es) e h).bind lstE
  | .dct ks vs => .of fun e h => (prsE (sxs c ks) (sxs c vs) e h).bind dctE
  | .bin o a b => .of fun e h => ((sx c a).v e h).bind fun x h => ((sx c b).v e h).bind fun y h => binD o x y h
  | .neg a => .of fun e h => ((sx c a).v e h).bind negD
  | .not a => ⟨fun e h => ((sx c a).v e h).bind fun x h => (ofOpt (truD h x) h).bind fun b h => .ok (.bl (!b)) h, fun e h => ((sx c a).t e h).bind fun b h => .ok (!b) h⟩
  | .cmp o a b => .cmp fun e h => ((sx c a).v e h).bind fun x h => ((sx c b).v e h).bind fun y h => cmpD o x y h
  | .chn o o' a b d => .cmp fun e h => ((sx c a).v e h).bind fun x h => ((sx c b).v e h).bind fun y h => (asB (cmpD o x y h)).bind fun k h =>
      if k = true then ((sx c d).v e h).bind fun z h => cmpD o' y z h else .ok (.bl false) h
  | .and es => ⟨andE (sxs c es), andT (sxs c es)⟩
  | .or es => ⟨orE (sxs c es), orT (sxs c es)⟩
  | .ife t a b => ⟨fun e h => ((sx c t).t e h).bind fun k h => if k = true then (sx c a).v e h else (sx c b).v e h, fun e h => ((sx c t).t e h).bind fun k h => if k = true then (sx c a).t e h else (sx c b).t e h⟩
  | .idx a b => .of fun e h => ((sx c a).v e h).bind fun x h => ((sx c b).v e h).bind fun y h => idxD x y h
  | .slc a lo hi => .of fun e h => ((sx c a).v e h).bind fun x h => (optE (sxo c lo) e h).bind fun i h => (optE (sxo c hi) e h).bind fun j h => slcD x i j h
  | .rev a => .of fun e h => ((sx c a).v e h).bind revD
  | .att a f => .of fun e h => ((sx c a).v e h).bind fun x h => attD x f h
  | .bi b es => .of fun e h => (seqE (sxs c es) e h).bind fun ds h => biD b ds h
  | .isi a ts => .of fun e h => ((sx c a).v e h).bind fun x h => ofOpt ((isiD h x ts).map .bl) h
  | .mth m o es => .of fun e h => ((sx c o).v e h).bind fun x h => (mkM m x h).bind fun k h => (seqE (sxs c es) e h).bind fun ds h => mtD m k x ds h
  | .call g es => .of fun e h => (seqE (sxs c es) e h).bind fun ds h => c.call g ds h
  | .make k es => .of fun e h => (seqE (sxs c es) e h).bind fun ds h => c.make k ds h
  | .obj o f es => .of fun e h => ((sx c o).v e h).bind fun x h => (mthD c x f h).bind fun g h => (seqE (sxs c es) e h).bind fun ds h => c.call g (x :: ds) h
  | .cal i es => .of fun e h => (varE i e h).bind fun x h => (fnD x h).bind fun g h => (seqE (sxs c es) e h).bind fun ds h => c.call g ds h
  | .lc f t it cs => .of (lcE t (sxi c it) (sxs c cs) (sx c f))
  | .lcl g b => .of fun e h => c.lcl g (fun h => (sx c.low b).v e h) h
  | .mke k es => .of fun e h => (seqE (sxs c es) e h).bind fun ds h => mkeD c k ds h
  | .atx a f => .of fun e h => ((sx c a).v e h).bind fun x h => attX x f h
  | .isx a t => .of fun e h => ((sx c a).v e h).bind fun x h => ofOpt ((isxD c h x t).map .bl) h
  | .fst es => .of fun _ _ => .bad
def sxs (c : Cg) : Exs → List Sx
  | .nil => []
  | .cons a es => sx c a :: sxs c es
def sxo (c : Cg) : Ox → Option Sx
  | .no => none
  | .yes a => some (sx c a)
def sxi (c : Cg) : It → En → AH → Res Itr
  | .ex a => fun e h => ((sx c a).v e h).bind itSeq
  | .rng1 a => fun e h => ((sx c a).v e h).bind fun x h => itRng (.int 0) x h
  | .rng2 a b => fun e h => ((sx c a).v e h).bind fun x h => ((sx c b).v e h).bind fun y h => itRng x y h
  | .rng3 a b d => fun e h => .bad
  | .zip a b => fun e h => ((sx c a).v e h).bind fun x h => ((sx c b).v e h).bind fun y h => itZip x y h
  | .enum a => fun e h => ((sx c a).v e h).bind itEnum
end

/-! ### statements -/
inductive SR where
  | nx (e : En) (h : AH)
  | rt (d : D) (h : AH)
  | bk (e : En) (h : AH)
  | ct (e : En) (h : AH)
  | exc (c : Nat) (fs : List (Str × D)) (e : En) (h : AH)
  | bad
def onE {α : Type} (r : Res α) (e : En) (f : α → AH → SR) : SR := match r with
  | .ok a h => f a h
  | .exc c fs h => .exc c fs e h
  | .bad => .bad

def store (c : Cg) (t : Tgt) (v : D) (e : En) (h : AH) : SR := match t with
  | .var i => .nx (e.set i (some v)) h
  | .tup is => match bindTg (.tup is) v e with
    | some e' => .nx e' h
    | none => .bad
  | .idx o i => onE ((sx c o).v e h) e fun x h => onE ((sx c i).v e h) e fun y h => onE (setI x y v h) e fun _ h => .nx e h
  | .att o f => onE ((sx c o).v e h) e fun x h => onE (setA x f v h) e fun _ h => .nx e h
def ipD (o : Bop) (x y : D) (h : AH) : Res D := match o, x, y with
  | .add, .int i, .int j => .ok (.int (i + j)) h
  | .sub, .int i, .int j => .ok (.int (i - j)) h
  | _, _, _ => .bad

/-- what stands at a place, ahead of a change -/
def attM (a : D) (f : Str) (h : AH) : Res D := match a with
  | .ref r => match h[r]? with
    | some (.ins _ fs) => ofOpt (fs.lookup f) h
    | _ => .bad
  | _ => .bad
def idxM (a b : D) (h : AH) : Res D := match a with
  | .ref r => match h[r]?, b with
    | some (.lst ds), .int i => ofOpt (L2.atI ds i) h
    | _, _ => .bad
  | _ => .bad
def forGo (t : Tg) (I : Itr) (b : En → AH → SR) : Nat → Nat → En → AH → SR
  | 0, _, _, _ => .bad
  | n + 1, i, e, h => match I.rd h with
    | none => .bad
    | some ds => match ds[i]? with
      | none => .nx e h
      | some d => match bindTg t d e with
        | none => .bad
        | some e1 => match b e1 h with
          | .nx e2 h2 => forGo t I b n (i + 1) e2 h2
          | .ct e2 h2 => forGo t I b n (i + 1) e2 h2
          | .bk e2 h2 => .nx e2 h2
          | r => r
def whlGo (c : En → AH → Res Bool) (b : En → AH → SR) : Nat → En → AH → SR
  | 0, _, _ => .bad
  | n + 1, e, h => match c e h with
    | .ok true h1 => match b e h1 with
      | .nx e2 h2 => whlGo c b n e2 h2
      | .ct e2 h2 => whlGo c b n e2 h2
      | .bk e2 h2 => .nx e2 h2
      | r => r
    | .ok false h1 => .nx e h1
    | .exc k fs h1 => .exc k fs e h1
    | .bad => .bad

def rseD (c : Cg) (k : Nat) (ds : List D) (e : En) (h : AH) : SR := match c.ers k with
  | some K => if ds.length = K.fields.length then .exc k (K.fields.zip ds).reverse e h else .bad
  | none => .bad
mutual
def ex (c : Cg) : St → En → AH → SR
  | .asg t a, e, h => onE ((sx c a).v e h) e fun v h => store c t v e h
  | .par is es, e, h => onE (seqE (sxs c es) e h) e fun ds h => if ds.length = is.length then .nx ((is.zip ds).foldl (fun e p => e.set p.1 (some p.2)) e) h else .bad
  | .augv i o a, e, h => onE (varE i e h) e fun x h => onE ((sx c a).v e h) e fun y h => onE (ipD o x y h) e fun z h => .nx (e.set i (some z)) h
  | .augi a b o v, e, h => onE ((sx c a).v e h) e fun x h => onE ((sx c b).v e h) e fun y h => onE (idxM x y h) e fun w h => onE ((sx c v).v e h) e fun z h => onE (ipD o w z h) e fun n h => onE (setI x y n h) e fun _ h => .nx e h
  | .auga a f o v, e, h => onE ((sx c a).v e h) e fun x h => onE (attM x f h) e fun w h => onE ((sx c v).v e h) e fun z h => onE (ipD o w z h) e fun n h => onE (setA x f n h) e fun _ h => .nx e h
  | .exp a, e, h => onE ((sx c a).v e h) e fun _ h => .nx e h
  | .ifs t a b, e, h => onE ((sx c t).t e h) e fun k h => if k = true then exs c a e h else exs c b e h
  | .for t it b, e, h => onE (sxi c it e h) e fun I h => forGo t I (fun e h => exs c b e h) I.turns 0 e h
  | .whl t b, e, h => whlGo (fun e h => (sx c t).t e h) (fun e h => exs c b e h) c.fuel e h
  | .ret a, e, h => onE ((sx c a).v e h) e fun v h => .rt v h
  | .retn, _, h => .rt .non h
  | .brk, e, h => .bk e h
  | .cnt, e, h => .ct e h
  | .pas, e, h => .nx e h
  | .rse k es, e, h => onE (seqE (sxs c es) e h) e fun ds h => rseD c k ds e h
  | .try b hs, e, h => match exs c b e h with
    | .exc k fs e h => exH c hs k fs e h
    | r => r
  | .del a b, e, h => .bad
  | .act i, e, h => onE (actE c i e h) e fun _ h => .nx e h
def exs (c : Cg) : Sts → En → AH → SR
  | .nil, e, h => .nx e h
  | .cons s ss, e, h => match ex c s e h with
    | .nx e h => exs c ss e h
    | r => r
def exH (c : Cg) : Hs → Nat → List (Str × D) → En → AH → SR
  | .nil, k, fs, e, h => .exc k fs e h
  | .cons k' v b hs, k, fs, e, h => if k' = k ∨ k' ∈ ((c.ers k).map (·.up)).getD [] then
      match v with
      | none => match exs c b e h with
        | .nx e h => .nx e h
        | .rt d h => .rt d h
        | _ => .bad
      | some i => if i < e.length then match exs c b (e.set i (some (.err k fs))) h with
        | .nx e h => .nx (e.set i none) h
        | .rt d h => .rt d h
        | _ => .bad else .bad
    else exH c hs k fs e h
end

/-! ### the program -/
structure Fd where
  np : Nat
  nl : Nat
  dfl : List D
  body : Sts
/-- a def's arguments, the defaults filled up -/
def argsOf (fd : Fd) (ds : List D) : Option (List D) := if fd.np - fd.dfl.length ≤ ds.length ∧ ds.length ≤ fd.np then some (ds ++ fd.dfl.drop (ds.length - (fd.np - fd.dfl.length))) else none
def runFd (c : Cg) (fd : Fd) (ds : List D) (h : AH) : Res D := match argsOf fd ds with
  | none => .bad
  | some as => match exs c fd.body (as.map some ++ List.replicate (fd.nl - as.length) none) h with
    | .nx _ h => .ok .non h
    | .rt d h => .ok d h
    | .exc k fs _ h => .exc k fs h
    | _ => .bad
structure Pr where
  fns : Nat → Option Fd
  cls : Nat → Option Cli
  ini : Nat → Option Nat
  ers : Nat → Option Eri
  glo : Nat → Option D
  loop : Nat
def mkD (c : Cg) (fd : Fd) (k : Nat) (ds : List D) (h : AH) : Res D := (alloc (.ins k []) h).bind fun o h => (runFd c fd (o :: ds) h).bind fun r h => match r with
  | .non => .ok o h
  | _ => .bad
/-- the one argument of fd's def is a lambda -/
def runLc (c : Cg) (fd : Fd) (a : AH → Res D) (h : AH) : Res D := if fd.np = 1 then match exs { c with tk := a } fd.body (some .thk :: List.replicate (fd.nl - 1) none) h with
    | .nx _ h => .ok .non h
    | .rt d h => .ok d h
    | .exc k fs _ h => .exc k fs h
    | _ => .bad else .bad
def lvF (P : Pr) (c : Cg) : LvF where
  call := fun g ds h => match P.fns g with
    | some fd => runFd c fd ds h
    | none => .bad
  make := fun k ds h => match (P.ini k).bind P.fns with
    | some fd => mkD c fd k ds h
    | none => .bad
  lcl := fun g a h => match P.fns g with
    | some fd => runLc c fd a h
    | none => .bad
def cg (P : Pr) : Nat → Cg
  | 0 => ⟨[], fun _ => .bad, P.glo, P.cls, P.ers, P.loop⟩
  | n + 1 => ⟨lvF P (cg P n) :: (cg P n).fs, fun _ => .bad, P.glo, P.cls, P.ers, P.loop⟩
end MP
namespace MP
open PySem PySem.Spec PyProof.Rows L2
open LamX (Tabs TabS)

/-- a lambda that was handed to this def: its function object, its code object with its name, what was to be seen then -/
structure Lmd where
  f : Addr
  c : Addr
  q : Str
  ib : List Addr
/-- where the program's own things stand -/
structure Gx where
  K : W.Frag
  fa : Nat → Option Addr
  ca : Nat → Option Addr
  ea : Nat → Option Addr
  /-- the tables of code objects -/
  tt : List (Addr × Str)
  lm : List Lmd

/-- code objects stay -/
def CK (H H' : Hp) : Prop := ∀ c q, H c = some (LamX.CodeO c q) → H' c = some (LamX.CodeO c q)
/-- tuples stay -/
def TM (H H' : Hp) : Prop := ∀ a xs, Rd H a (.tup xs) → Rd H' a (.tup xs)
theorem TM.refl (H : Hp) : TM H H := fun _ _ h => h
theorem TM.trans {H H1 H2 : Hp} (a : TM H H1) (b : TM H1 H2) : TM H H2 := fun c xs h => b c xs (a c xs h)
theorem TM.of {H H' : Hp} (k : ∀ b o, H b = some o → H' b = some o) : TM H H' := fun a xs h => h.elim (fun h => .inl (k _ _ h)) fun ⟨o, h⟩ => .inr ⟨o, k _ _ h⟩
/-- what may be changed is no tuple -/
def Soft : HO → Prop
  | .tup _ => False
  | .frz _ _ => False
  | .tbl _ => False
  | .ext _ => False
  | _ => True
theorem tabs_upd {T : List (Addr × Str)} {H : Hp} {a : Addr} {o : HO} (t : Tabs T H) (h : ∀ u, H a = some u → Soft u) : Tabs T (upd H a o) := fun p hp => by
  obtain ⟨ps, e, ok, am⟩ := t p hp
  have ne : p.1 ≠ a := fun z => by rw [z] at e; exact h _ e
  refine ⟨ps, by rw [upd_ne ne]; exact e, ok, fun pos cv hc => ?_⟩
  obtain ⟨c, e1, e2⟩ := am pos cv hc
  have ne2 : c ≠ a := fun z => by rw [z] at e2; exact h _ e2
  exact ⟨c, e1, by rw [upd_ne ne2]; exact e2⟩
theorem code_upd {H : Hp} {a b : Addr} {q : Str} {o : HO} (e : H b = some (LamX.CodeO b q)) (h : ∀ u, H a = some u → Soft u) : L2.upd H a o b = some (LamX.CodeO b q) := by
  have ne : b ≠ a := fun z => by subst z; exact h _ e
  rw [upd_ne ne]
  exact e
theorem CK.upd {H : Hp} {a : Addr} {o : HO} (h : ∀ u, H a = some u → Soft u) : CK H (L2.upd H a o) := fun c q e => code_upd e h
theorem TM.upd {H : Hp} {a : Addr} {o : HO} (h : ∀ u, H a = some u → Soft u) : TM H (upd H a o) := fun b xs r => by
  have ne : b ≠ a := fun e => by
    subst e
    rcases r with r | ⟨o, r⟩
    · exact h _ r
    · exact h _ r
  rcases r with r | ⟨o, r⟩
  · exact .inl (by rw [upd_ne ne]; exact r)
  · exact .inr ⟨o, by rw [upd_ne ne]; exact r⟩
theorem TM.fresh {H : Hp} {a : Addr} {o : HO} (h : H a = none) : TM H (L2.upd H a o) := TM.upd fun u e => by rw [h] at e; cases e
theorem TM.sqT {K : W.Frag} {H H' : Hp} {a : Addr} {xs : List V} (t : TM H H') (h : SqT K H a xs) : SqT K H' a xs := h.elim (fun r => .inl (t _ _ r)) .inr

/-- the store grows: what the program sees keeps its place, the rest stays as it is (but for tables of code) -/
structure Gr (ι : List Addr) (H : Hp) (ι' : List Addr) (H' : Hp) : Prop where
  pre : ι <+: ι'
  tm : TM H H'
  fr : ∀ a o, a ∉ ι → H a = some o → (∀ ps, o ≠ .tbl ps) → H' a = some o
  new : ∀ a ∈ ι', a ∈ ι ∨ H a = none ∨ ∃ ps, H a = some (.tbl ps)
  cd : CK H H'
theorem Gr.refl (ι : List Addr) (H : Hp) : Gr ι H ι H := ⟨List.prefix_refl _, TM.refl _, fun _ _ _ h _ => h, fun _ h => .inl h, fun _ _ h => h⟩
theorem tbl_or (o : HO) : (∃ ps, o = .tbl ps) ∨ ∀ ps, o ≠ .tbl ps := by
  cases o <;> first | exact .inl ⟨_, rfl⟩ | exact .inr fun ps z => by cases z
theorem Gr.trans {ι ι1 ι2 : List Addr} {H H1 H2 : Hp} (a : Gr ι H ι1 H1) (b : Gr ι1 H1 ι2 H2) : Gr ι H ι2 H2 where
  pre := a.pre.trans b.pre
  tm := a.tm.trans b.tm
  cd := fun c q e => b.cd c q (a.cd c q e)
  fr := fun x o hx h n => by
    refine b.fr x o (fun hm => ?_) (a.fr x o hx h n) n
    rcases a.new x hm with z | z | ⟨ps, z⟩
    · exact hx z
    · rw [h] at z; cases z
    · rw [h] at z; exact n ps (Option.some.inj z)
  new := fun x hx => by
    rcases b.new x hx with z | z
    · exact a.new x z
    · by_cases hi : x ∈ ι
      · exact .inl hi
      · cases e : H x with
        | none => exact .inr (.inl rfl)
        | some o =>
          rcases tbl_or o with ⟨ps, rfl⟩ | n
          · exact .inr (.inr ⟨ps, rfl⟩)
          · have e1 := a.fr x o hi e n
            rcases z with z | ⟨ps, z⟩
            · rw [e1] at z; cases z
            · rw [e1] at z; exact absurd (Option.some.inj z) (n ps)
theorem Gr.of {ι : List Addr} {H H' : Hp} (k : ∀ b o, H b = some o → H' b = some o) : Gr ι H ι H' := ⟨List.prefix_refl _, TM.of k, fun a o _ h _ => k a o h, fun _ h => .inl h, fun _ _ e => k _ _ e⟩
theorem Gr.fresh {ι : List Addr} {H : Hp} {p : Addr} {o : HO} (n : H p = none) : Gr ι H ι (L2.upd H p o) := Gr.of fun b u e => by
  rw [upd_ne (ne_of_none e n)]
  exact e
theorem Gr.notin {ι ι' : List Addr} {H H' : Hp} (g : Gr ι H ι' H') {p : Addr} {o : HO} (n : p ∉ ι) (e : H p = some o) (ho : ∀ ps, o ≠ .tbl ps := by intro ps z; cases z) : p ∉ ι' := fun z => by
  rcases g.new p z with z | z | ⟨ps, z⟩
  · exact n z
  · rw [e] at z; cases z
  · rw [e] at z; exact ho ps (Option.some.inj z)
theorem pre_get {ι ι' : List Addr} {n : Nat} {a : Addr} (h : ι <+: ι') (e : ι[n]? = some a) : ι'[n]? = some a := by
  obtain ⟨t, rfl⟩ := h
  rw [List.getElem?_append_left (List.getElem?_eq_some_iff.mp e).1]
  exact e

mutual
inductive RD (G : Gx) (ι : List Addr) (H : Hp) : D → V → Prop
  | non : RD G ι H .non .non
  | bl (b : Bool) : RD G ι H (.bl b) (.bl b)
  | int (i : Int) : RD G ι H (.int i) (.int i)
  | str (s : Str) : RD G ι H (.str s) (.str s)
  | tup {a : Addr} {xs : List V} {ds : List D} : SqT G.K H a xs → RDs G ι H ds xs → RD G ι H (.tup ds) (.ref a)
  | ref {n : Nat} {a : Addr} : ι[n]? = some a → RD G ι H (.ref n) (.ref a)
  | fn {g : Nat} {a : Addr} : G.fa g = some a → RD G ι H (.fn g) (.ref a)
  | cls {g : Nat} {a : Addr} : G.ca g = some a → RD G ι H (.cls g) (.ref a)
  | ty (s : String) : RD G ι H (.ty s) (.ty s)
inductive RDs (G : Gx) (ι : List Addr) (H : Hp) : List D → List V → Prop
  | nil : RDs G ι H [] []
  | cons {d : D} {v : V} {ds : List D} {vs : List V} : RD G ι H d v → RDs G ι H ds vs → RDs G ι H (d :: ds) (v :: vs)
end
section
variable {G : Gx} {ι ι' : List Addr} {H H' : Hp}
mutual
theorem RD.mono (g : Gr ι H ι' H') : ∀ {d : D} {v : V}, RD G ι H d v → RD G ι' H' d v
  | _, _, .non => .non
  | _, _, .bl b => .bl b
  | _, _, .int i => .int i
  | _, _, .str s => .str s
  | _, _, .tup h r => .tup (g.tm.sqT h) (RDs.mono g r)
  | _, _, .ref e => .ref (pre_get g.pre e)
  | _, _, .fn e => .fn e
  | _, _, .cls e => .cls e
  | _, _, .ty s => .ty s
theorem RDs.mono (g : Gr ι H ι' H') : ∀ {ds : List D} {vs : List V}, RDs G ι H ds vs → RDs G ι' H' ds vs
  | _, _, .nil => .nil
  | _, _, .cons a b => .cons (RD.mono g a) (RDs.mono g b)
end
theorem RDs.length : ∀ {ds : List D} {vs : List V}, RDs G ι H ds vs → ds.length = vs.length
  | _, _, .nil => rfl
  | _, _, .cons _ t => congrArg (· + 1) (RDs.length t)
theorem RDs.get : ∀ {ds : List D} {vs : List V} {i : Nat} {d : D}, RDs G ι H ds vs → ds[i]? = some d → ∃ v, vs[i]? = some v ∧ RD G ι H d v
  | _, _, _, _, .nil, e => by simp at e
  | _, _, 0, _, .cons r _, e => by simp at e; subst e; exact ⟨_, rfl, r⟩
  | _, _, i + 1, d, .cons _ t, e => by
    obtain ⟨u, h1, h2⟩ := RDs.get (i := i) (d := d) t (by simpa using e)
    exact ⟨u, by simpa using h1, h2⟩
theorem RDs.getV : ∀ {ds : List D} {vs : List V} {i : Nat} {v : V}, RDs G ι H ds vs → vs[i]? = some v → ∃ d, ds[i]? = some d ∧ RD G ι H d v
  | _, _, _, _, .nil, e => by simp at e
  | _, _, 0, _, .cons r _, e => by simp at e; subst e; exact ⟨_, rfl, r⟩
  | _, _, i + 1, d, .cons _ t, e => by
    obtain ⟨u, h1, h2⟩ := RDs.getV (i := i) (v := d) t (by simpa using e)
    exact ⟨u, by simpa using h1, h2⟩
theorem RDs.append : ∀ {ds es : List D} {vs ws : List V}, RDs G ι H ds vs → RDs G ι H es ws → RDs G ι H (ds ++ es) (vs ++ ws)
  | _, _, _, _, .nil, s => s
  | _, _, _, _, .cons r t, s => .cons r (RDs.append t s)
theorem RDs.take : ∀ {ds : List D} {vs : List V} (n : Nat), RDs G ι H ds vs → RDs G ι H (ds.take n) (vs.take n)
  | _, _, 0, _ => .nil
  | _, _, _ + 1, .nil => .nil
  | _, _, n + 1, .cons r t => .cons r (RDs.take n t)
theorem RDs.drop : ∀ {ds : List D} {vs : List V} (n : Nat), RDs G ι H ds vs → RDs G ι H (ds.drop n) (vs.drop n)
  | _, _, 0, r => r
  | _, _, _ + 1, .nil => .nil
  | _, _, n + 1, .cons _ t => RDs.drop n t
theorem RDs.set {d : D} {v : V} (r : RD G ι H d v) : ∀ {ds : List D} {vs : List V} (i : Nat), RDs G ι H ds vs → RDs G ι H (ds.set i d) (vs.set i v)
  | _, _, _, .nil => .nil
  | _, _, 0, .cons _ t => .cons r t
  | _, _, i + 1, .cons q t => .cons q (RDs.set r i t)
theorem RDs.snoc {ds : List D} {vs : List V} {d : D} {v : V} (a : RDs G ι H ds vs) (r : RD G ι H d v) : RDs G ι H (ds ++ [d]) (vs ++ [v]) := a.append (.cons r .nil)
theorem RDs.reverse : ∀ {ds : List D} {vs : List V}, RDs G ι H ds vs → RDs G ι H ds.reverse vs.reverse
  | _, _, .nil => .nil
  | _, _, .cons r t => by
    rw [List.reverse_cons, List.reverse_cons]
    exact (RDs.reverse t).snoc r
theorem RDs.erase : ∀ {ds : List D} {vs : List V} (i : Nat), RDs G ι H ds vs → RDs G ι H (ds.eraseIdx i) (vs.eraseIdx i)
  | _, _, _, .nil => .nil
  | _, _, 0, .cons _ t => t
  | _, _, i + 1, .cons q t => .cons q (RDs.erase i t)
theorem RDs.dropLast : ∀ {ds : List D} {vs : List V}, RDs G ι H ds vs → RDs G ι H ds.dropLast vs.dropLast
  | _, _, .nil => .nil
  | _, _, .cons _ .nil => .nil
  | _, _, .cons a (.cons b t) => .cons a (RDs.dropLast (.cons b t))
end

/-! ### cells -/
def kD : Key → D
  | .inl i => .int i
  | .inr x => .str x
inductive RKs (G : Gx) (ι : List Addr) (H : Hp) : List (D × D) → List (Key × V) → Prop
  | nil : RKs G ι H [] []
  | cons {k : Key} {d : D} {v : V} {ds : List (D × D)} {vs : List (Key × V)} : RD G ι H d v → RKs G ι H ds vs → RKs G ι H ((kD k, d) :: ds) ((k, v) :: vs)
inductive RFs (G : Gx) (ι : List Addr) (H : Hp) : List (Str × D) → List (Str × V) → Prop
  | nil : RFs G ι H [] []
  | cons {f : Str} {d : D} {v : V} {ds : List (Str × D)} {vs : List (Str × V)} : RD G ι H d v → RFs G ι H ds vs → RFs G ι H ((f, d) :: ds) ((f, v) :: vs)
section
variable {G : Gx} {ι ι' : List Addr} {H H' : Hp}
theorem RKs.mono (g : Gr ι H ι' H') : ∀ {ds : List (D × D)} {vs : List (Key × V)}, RKs G ι H ds vs → RKs G ι' H' ds vs
  | _, _, .nil => .nil
  | _, _, .cons a b => .cons (a.mono g) (RKs.mono g b)
theorem RFs.mono (g : Gr ι H ι' H') : ∀ {ds : List (Str × D)} {vs : List (Str × V)}, RFs G ι H ds vs → RFs G ι' H' ds vs
  | _, _, .nil => .nil
  | _, _, .cons a b => .cons (a.mono g) (RFs.mono g b)
theorem RFs.length : ∀ {ds : List (Str × D)} {vs : List (Str × V)}, RFs G ι H ds vs → ds.length = vs.length
  | _, _, .nil => rfl
  | _, _, .cons _ t => congrArg (· + 1) (RFs.length t)
theorem RFs.look {f : Str} : ∀ {ds : List (Str × D)} {vs : List (Str × V)} {d : D}, RFs G ι H ds vs → ds.lookup f = some d → ∃ v, vs.lookup f = some v ∧ RD G ι H d v
  | _, _, _, .nil, e => by cases e
  | _, _, d, .cons (f := g) (d := d') (v := v') r t, e => by
    rw [List.lookup_cons] at e ⊢
    cases hb : f == g with
    | true =>
      rw [hb] at e
      cases e
      exact ⟨_, rfl, r⟩
    | false =>
      rw [hb] at e
      exact RFs.look t e
theorem RFs.lookN {f : Str} : ∀ {ds : List (Str × D)} {vs : List (Str × V)}, RFs G ι H ds vs → ds.lookup f = none → vs.lookup f = none
  | _, _, .nil, _ => rfl
  | _, _, .cons (f := g) (d := d') (v := v') r t, e => by
    rw [List.lookup_cons] at e ⊢
    cases hb : f == g with
    | true =>
      rw [hb] at e
      cases e
    | false =>
      rw [hb] at e
      exact RFs.lookN t e
theorem RKs.length : ∀ {ds : List (D × D)} {vs : List (Key × V)}, RKs G ι H ds vs → ds.length = vs.length
  | _, _, .nil => rfl
  | _, _, .cons _ t => congrArg (· + 1) (RKs.length t)

/-- an error's dict, not raised yet -/
inductive RXd (G : Gx) (ι : List Addr) (H : Hp) : List (Str × D) → Option Addr → Prop
  | no : RXd G ι H [] none
  | yes {dx : Addr} {fs : List (Str × D)} {vs : List (Str × V)} : dx ∉ ι → H dx = some (exd dx vs) → RFs G ι H fs vs → RXd G ι H fs (some dx)
theorem RXd.mono (g : Gr ι H ι' H') {fs : List (Str × D)} {d : Option Addr} : RXd G ι H fs d → RXd G ι' H' fs d
  | .no => .no
  | .yes n e r => .yes (g.notin n e fun ps z => by have z' : HO.ext _ = HO.tbl ps := z; cases z') (g.fr _ _ n e fun ps z => by have z' : HO.ext _ = HO.tbl ps := z; cases z') (r.mono g)
inductive RC (G : Gx) (ι : List Addr) (H : Hp) : C → Addr → Prop
  | lst {a : Addr} {xs : List V} {ds : List D} : H a = some (.lst xs) → RDs G ι H ds xs → RC G ι H (.lst ds) a
  | fls {a : Addr} {o : Obj} {xs : List V} {ds : List D} : H a = some (.frz o (.lst xs)) → RDs G ι H ds xs → RC G ι H (.fls ds) a
  | dct {a : Addr} {vs : List (Key × V)} {kvs : List (D × D)} : H a = some (.dK vs) → RKs G ι H kvs vs → RC G ι H (.dct kvs) a
  | ins {a Ca dx : Addr} {c : Nat} {fs : List (Str × D)} {vs : List (Str × V)} : G.ca c = some Ca → H a = some (.ins Ca dx vs) → RFs G ι H fs vs → RC G ι H (.ins c fs) a
  | xin {a Ca : Addr} {d : Option Addr} {c : Nat} {fs : List (Str × D)} : G.ea c = some Ca → H a = some (exo a Ca d) → RXd G ι H fs d → RC G ι H (.xin c fs) a
  | dead {a : Addr} : RC G ι H .dead a
theorem RC.mono (g : Gr ι H ι' H') {c : C} {a : Addr} (k : H' a = H a) : RC G ι H c a → RC G ι' H' c a
  | .lst e r => .lst (k.trans e) (r.mono g)
  | .fls e r => .fls (k.trans e) (r.mono g)
  | .dct e r => .dct (k.trans e) (r.mono g)
  | .ins q e r => .ins q (k.trans e) (r.mono g)
  | .xin q e r => .xin q (k.trans e) (r.mono g)
  | .dead => .dead

structure RH (G : Gx) (ι : List Addr) (h : AH) (H : Hp) : Prop where
  nd : ι.Nodup
  len : ι.length = h.length
  trk : ∀ a ∈ ι, ∃ o, H a = some o ∧ ∀ ps, o ≠ .tbl ps
  cell : ∀ (n : Nat) (c : C), h[n]? = some c → ∃ a, ι[n]? = some a ∧ RC G ι H c a
  tabs : Tabs G.tt H
  lm : ∀ m ∈ G.lm, H m.c = some (LamX.CodeO m.c m.q) ∧ m.ib <+: ι
variable {h : AH}
theorem RH.at (r : RH G ι h H) {n : Nat} {c : C} {a : Addr} (e : h[n]? = some c) (ea : ι[n]? = some a) : RC G ι H c a := by
  obtain ⟨b, eb, q⟩ := r.cell n c e
  rw [ea] at eb
  cases eb
  exact q
theorem RH.keep (r : RH G ι h H) (k : ∀ b o, H b = some o → H' b = some o) (k2 : ∀ b ps, H' b = some (.tbl ps) → H b = some (.tbl ps)) : RH G ι h H' :=
  ⟨r.nd, r.len, fun a ha => let ⟨o, e, n⟩ := r.trk a ha; ⟨o, k _ _ e, n⟩, fun n c e => by
    obtain ⟨a, ea, q⟩ := r.cell n c e
    obtain ⟨o, eo, _⟩ := r.trk a (List.mem_of_getElem? ea)
    exact ⟨a, ea, q.mono (Gr.of k) ((k _ _ eo).trans eo.symm)⟩, r.tabs.ext k, fun m e => ⟨k _ _ (r.lm m e).1, (r.lm m e).2⟩⟩
theorem upd_keep {H : Hp} {p : Addr} {o : HO} (n : H p = none) : ∀ b u, H b = some u → upd H p o b = some u := fun b u e => by
  rw [upd_ne (ne_of_none e n)]
  exact e
theorem upd_tbl {H : Hp} {p : Addr} {o : HO} (ho : ∀ ps, o ≠ .tbl ps) : ∀ b ps, upd H p o b = some (.tbl ps) → H b = some (.tbl ps) := fun b ps e => by
  by_cases hb : b = p
  · subst hb
    rw [upd_same] at e
    exact absurd (Option.some.inj e) (ho ps)
  · rw [upd_ne hb] at e
    exact e
theorem RH.other (r : RH G ι h H) {p : Addr} {o : HO} (n : H p = none) (ho : ∀ ps, o ≠ .tbl ps := by intro ps z; cases z) : RH G ι h (upd H p o) := r.keep (upd_keep n) (upd_tbl ho)
theorem RH.notin (r : RH G ι h H) {p : Addr} (n : H p = none) : p ∉ ι := fun hp => by
  obtain ⟨o, e, _⟩ := r.trk p hp
  rw [n] at e
  cases e
theorem Gr.push {p : Addr} {o : HO} (n : H p = none) : Gr ι H (ι ++ [p]) (upd H p o) :=
  ⟨List.prefix_append _ _, TM.fresh n, fun a o _ h _ => upd_keep n a o h, fun a ha => by
    rcases List.mem_append.mp ha with z | z
    · exact .inl z
    · have : a = p := by simpa using z
      subst this
      exact .inr (.inl n), fun _ _ e => upd_keep n _ _ e⟩
theorem RH.push (r : RH G ι h H) {p : Addr} {o : HO} {c : C} (n : H p = none) (q : RC G (ι ++ [p]) (upd H p o) c p) (ho : ∀ ps, o ≠ .tbl ps := by intro ps z; cases z) : RH G (ι ++ [p]) (h ++ [c]) (upd H p o) := by
  refine ⟨?_, by rw [List.length_append, List.length_append, r.len]; rfl, fun a ha => ?_, fun m c' e => ?_, r.tabs.ext (upd_keep n), fun m e => ⟨upd_keep n _ _ (r.lm m e).1, (r.lm m e).2.trans (List.prefix_append _ _)⟩⟩
  · rw [List.nodup_append]
    refine ⟨r.nd, by simp, fun a ha b hb => ?_⟩
    have : b = p := by simpa using hb
    subst this
    exact fun z => r.notin n (z ▸ ha)
  · rcases List.mem_append.mp ha with ha | ha
    · obtain ⟨u, e, nt⟩ := r.trk a ha
      exact ⟨u, upd_keep n _ _ e, nt⟩
    · have : a = p := by simpa using ha
      subst this
      exact ⟨_, upd_same, ho⟩
  · by_cases hm : m < h.length
    · rw [List.getElem?_append_left hm] at e
      obtain ⟨a, ea, qa⟩ := r.cell m c' e
      obtain ⟨u, eu, _⟩ := r.trk a (List.mem_of_getElem? ea)
      exact ⟨a, pre_get (List.prefix_append _ _) ea, qa.mono (Gr.push n) (by rw [upd_keep n _ _ eu, eu])⟩
    · have hm2 : m = h.length := by
        have := (List.getElem?_eq_some_iff.mp e).1
        rw [List.length_append] at this
        simp at this
        omega
      subst hm2
      rw [List.getElem?_append_right (Nat.le_refl _)] at e
      simp at e
      subst e
      refine ⟨p, ?_, q⟩
      rw [List.getElem?_append_right (by rw [r.len]; exact Nat.le_refl _), r.len]
      simp
theorem RH.new (r : RH G ι h H) {p : Addr} : (ι ++ [p])[h.length]? = some p := by
  rw [List.getElem?_append_right (by rw [r.len]; exact Nat.le_refl _), r.len]
  simp
theorem nd_get {α : Type} {l : List α} (hN : l.Nodup) {i j : Nat} {x : α} (a : l[i]? = some x) (b : l[j]? = some x) : i = j := L2.nd_ix hN a b
theorem Gr.put {n : Nat} {a : Addr} {o u : HO} (ea : ι[n]? = some a) (eu : H a = some u) (su : Soft u) : Gr ι H ι (upd H a o) :=
  ⟨List.prefix_refl _, TM.upd fun u' e => by rw [eu] at e; cases e; exact su, fun b w hb h _ => by
    rw [upd_ne (fun z => hb (by rw [z]; exact List.mem_of_getElem? ea))]
    exact h, fun _ h => .inl h, CK.upd fun u' e => by rw [eu] at e; cases e; exact su⟩
theorem RH.put (r : RH G ι h H) {n : Nat} {a : Addr} {o u : HO} {c : C} (ea : ι[n]? = some a) (eu : H a = some u) (su : Soft u) (q : RC G ι (upd H a o) c a) (ho : ∀ ps, o ≠ .tbl ps := by intro ps z; cases z) : RH G ι (h.set n c) (upd H a o) := by
  have g : Gr ι H ι (upd H a o) := Gr.put ea eu su
  refine ⟨r.nd, by rw [List.length_set]; exact r.len, fun b hb => ?_, fun m c' e => ?_, tabs_upd r.tabs (fun u' e' => by rw [eu] at e'; cases e'; exact su), fun m e => ⟨code_upd (r.lm m e).1 fun u' e' => by rw [eu] at e'; cases e'; exact su, (r.lm m e).2⟩⟩
  · by_cases hba : b = a
    · subst hba
      exact ⟨_, upd_same, ho⟩
    · rw [upd_ne hba]
      exact r.trk b hb
  · by_cases hm : m = n
    · subst hm
      have hl : m < h.length := by
        have := (List.getElem?_eq_some_iff.mp e).1
        rw [List.length_set] at this
        exact this
      rw [List.getElem?_set_self hl] at e
      cases e
      exact ⟨a, ea, q⟩
    · rw [List.getElem?_set_ne (Ne.symm hm)] at e
      obtain ⟨b, eb, qb⟩ := r.cell m c' e
      have hba : b ≠ a := fun z => by
        subst z
        exact hm (nd_get r.nd eb ea)
      exact ⟨b, eb, qb.mono g (upd_ne hba)⟩

/-! ### the frame -/
structure RS (G : Gx) (ι : List Addr) (H : Hp) (e : En) (σ : L2.St) : Prop where
  len : σ.length = e.length
  val : ∀ (i : Nat) (d : D), e[i]? = some (some d) → d ≠ .thk → ∃ v, σ[i]? = some (some v) ∧ RD G ι H d v
  thk : ∀ i : Nat, e[i]? = some (some .thk) → ∃ m, G.lm.head? = some m ∧ σ[i]? = some (some (.ref m.f))
theorem RD.nothk {d : D} {v : V} (r : RD G ι H d v) : d ≠ .thk := by
  rintro rfl
  cases r
theorem RS.mono {e : En} {σ : L2.St} (g : Gr ι H ι' H') (r : RS G ι H e σ) : RS G ι' H' e σ := ⟨r.len, fun i d q n => let ⟨v, a, b⟩ := r.val i d q n; ⟨v, a, b.mono g⟩, r.thk⟩
theorem RS.put {e : En} {σ : L2.St} {d : D} {v : V} (r : RS G ι H e σ) (q : RD G ι H d v) (i : Nat) : RS G ι H (e.set i (some d)) (σ.set i (some v)) := by
  have self : ∀ {j : Nat} {d' : D}, j = i → (e.set i (some d))[j]? = some (some d') → j < e.length ∧ d' = d := by
    intro j d' hj e'
    subst hj
    have hl : j < e.length := by
      have := (List.getElem?_eq_some_iff.mp e').1
      rw [List.length_set] at this
      exact this
    rw [List.getElem?_set_self hl] at e'
    cases e'
    exact ⟨hl, rfl⟩
  refine ⟨by rw [List.length_set, List.length_set, r.len], fun j d' e' n => ?_, fun j e' => ?_⟩
  · by_cases hj : j = i
    · obtain ⟨hl, rfl⟩ := self hj e'
      subst hj
      exact ⟨v, List.getElem?_set_self (by rw [r.len]; exact hl), q⟩
    · rw [List.getElem?_set_ne (Ne.symm hj)] at e'
      rw [List.getElem?_set_ne (Ne.symm hj)]
      exact r.val j d' e' n
  · by_cases hj : j = i
    · obtain ⟨hl, e2⟩ := self hj e'
      exact absurd e2.symm q.nothk
    · rw [List.getElem?_set_ne (Ne.symm hj)] at e'
      rw [List.getElem?_set_ne (Ne.symm hj)]
      exact r.thk j e'
theorem RS.clear {e : En} {σ : L2.St} (r : RS G ι H e σ) (i : Nat) : RS G ι H (e.set i none) (σ.set i none) := by
  have self : ∀ {j : Nat} {d' : D}, j = i → (e.set i none)[j]? = some (some d') → False := by
    intro j d' hj e'
    subst hj
    have hl : j < e.length := by
      have := (List.getElem?_eq_some_iff.mp e').1
      rw [List.length_set] at this
      exact this
    rw [List.getElem?_set_self hl] at e'
    cases e'
  refine ⟨by rw [List.length_set, List.length_set, r.len], fun j d' e' n => ?_, fun j e' => ?_⟩
  · by_cases hj : j = i
    · exact (self hj e').elim
    · rw [List.getElem?_set_ne (Ne.symm hj)] at e'
      rw [List.getElem?_set_ne (Ne.symm hj)]
      exact r.val j d' e' n
  · by_cases hj : j = i
    · exact (self hj e').elim
    · rw [List.getElem?_set_ne (Ne.symm hj)] at e'
      rw [List.getElem?_set_ne (Ne.symm hj)]
      exact r.thk j e'
theorem RS.wipe {e : En} {σ : L2.St} (r : RS G ι H e σ) : ∀ vs : List Nat, RS G ι H (wipeE e vs) (wipe σ vs)
  | [] => r
  | v :: vs => (RS.wipe r vs).clear v

/-! ### what follows -/
/-- an error's own dict -/
def RX (G : Gx) (ι : List Addr) (H : Hp) (fs : List (Str × D)) : Option Addr → Prop
  | none => fs = []
  | some d => d ∉ ι ∧ ∃ vs, H d = some (.xd vs) ∧ RFs G ι H fs vs
theorem RX.mono {fs : List (Str × D)} {d : Option Addr} (g : Gr ι H ι' H') (r : RX G ι H fs d) : RX G ι' H' fs d := by
  cases d with
  | none => exact r
  | some d =>
    obtain ⟨n, vs, e, q⟩ := r
    exact ⟨g.notin n e, vs, g.fr d _ n e (fun ps z => by cases z), q.mono g⟩

def Post {α β : Type} (rel : List Addr → Hp → α → β → Prop) (W : WX) (G : Gx) (ι : List Addr) (σ : L2.St) (H : Hp) (r : Res α) (Q : β → Hp → Prop) : Prop := match r with
  | .ok a h => ∀ ι' H' v, Gr ι H ι' H' → RH G ι' h H' → rel ι' H' a v → Q v H'
  | .exc c fs h => ∀ ι' H' Ca d, Gr ι H ι' H' → RH G ι' h H' → G.ea c = some Ca → RX G ι' H' fs d → W (.ref Ca) d σ H'
  | .bad => False
variable {α β α' β' : Type} {rel : List Addr → Hp → α → β → Prop} {rel' : List Addr → Hp → α' → β' → Prop} {W : WX} {σ : L2.St} {r : Res α} {Q : β → Hp → Prop}
theorem Post.mono (g : Gr ι H ι' H') (p : Post rel W G ι σ H r Q) : Post rel W G ι' σ H' r Q := by
  cases r with
  | ok a h => exact fun ι2 H2 v g2 => p ι2 H2 v (g.trans g2)
  | exc c fs h => exact fun ι2 H2 Ca d g2 => p ι2 H2 Ca d (g.trans g2)
  | bad => exact p
theorem Post.imp {Q' : β → Hp → Prop} (p : Post rel W G ι σ H r Q) (k : ∀ v H', Q v H' → Q' v H') : Post rel W G ι σ H r Q' := by
  cases r with
  | ok a h => exact fun ι2 H2 v g2 r2 q2 => k _ _ (p ι2 H2 v g2 r2 q2)
  | exc c fs h => exact p
  | bad => exact p
/-- the first of two steps -/
theorem Post.bind {f : α → AH → Res α'} {Q : β' → Hp → Prop} (rel : List Addr → Hp → α → β → Prop) (p : Post rel' W G ι σ H (r.bind f) Q) :
    Post rel W G ι σ H r fun x H1 => ∃ ι1 d h1, Gr ι H ι1 H1 ∧ RH G ι1 h1 H1 ∧ rel ι1 H1 d x ∧ Post rel' W G ι1 σ H1 (f d h1) Q := by
  cases r with
  | ok a h => exact fun ι2 H2 v g2 r2 q2 => ⟨ι2, a, h, g2, r2, q2, p.mono g2⟩
  | exc c fs h => exact p
  | bad => exact p
theorem Post.ok {a : α} {h : AH} {v : β} (p : Post rel W G ι σ H (.ok a h) Q) (r : RH G ι h H) (q : rel ι H a v) : Q v H := p ι H v (Gr.refl _ _) r q
theorem Post.ok' {a : α} {h : AH} {v : β} (p : Post rel W G ι σ H (.ok a h) Q) (g : Gr ι H ι' H') (r : RH G ι' h H') (q : rel ι' H' a v) : Q v H' := p ι' H' v g r q
end
end MP
namespace MP
open PySem PySem.Spec PyProof.Rows L2

/-- where the program's defs and classes stand -/
structure Wd where
  fa : Nat → Option Addr
  ca : Nat → Option Addr
  ea : Nat → Option Addr
  tt : List (Addr × Str)
  lm : List Lmd
  ok : PySem.W.Frag → (Str → Option Value) → Heap → Prop
  /-- the names of fields -/
  fns : List Str
abbrev Wd.g (Z : Wd) (X : Cx) : Gx := ⟨X.K, Z.fa, Z.ca, Z.ea, Z.tt, Z.lm⟩

def bnames : List Str := ["len", "int", "str", "repr", "list", "tuple", "all", "any", "sum", "min", "max", "sorted", "set", "range", "zip", "enumerate", "isinstance", "abs", "bool", "ValueError"]
/-- a context in which the code runs: what is raised is wished by W -/
structure Good (Z : Wd) (k : Nat) (X : Cx) (W : WX) : Prop where
  nd : X.N.Nodup
  tk : Takes X W
  calm : X.calm = true
  room : Room k X.A
  gd : X.A.guards = some []
  bt : ∀ x ∈ bnames, X.mg x = none
  cl : ∀ c C, Z.ca c = some C → Cls X.K C
  na : ∀ c C f, Z.ca c = some C → f ∈ Z.fns → NoAttr X.K C f

section
variable {Z : Wd} {k : Nat} {X : Cx} {W : WX}

/-- an operation of two values -/
def OpS (Z : Wd) (X : Cx) (W : WX) (f : Value → Value → Sem Value) (F : D → D → AH → Res D) : Prop :=
  ∀ (pins : List (Addr × Obj)) (s : Shared) (σ : L2.St) (H : Hp) (ι : List Addr) (h : AH) (a b : D) (x y : V) (v u : Value) (Q : VK), Inv X pins σ H s → RH (Z.g X) ι h H → RD (Z.g X) ι H a x → RD (Z.g X) ι H b y → RelV x v → RelV y u →
    Post (RD (Z.g X)) W (Z.g X) ι σ H (F a b h) Q → wpAny (model X.prog X.w) X.A (f v u) (EP X pins σ Q) X.xe s

/-- a new object that the program sees -/
theorem post_new {G : Gx} {ι : List Addr} {σ : L2.St} {H : Hp} {h : AH} {c : C} {o : HO} {Q : VK} (r : RH G ι h H) (p : Post (RD G) W G ι σ H (alloc c h) Q) (q : ∀ a, H a = none → RC G (ι ++ [a]) (upd H a o) c a) (ho : ∀ ps, o ≠ .tbl ps := by intro ps z; cases z) :
    ∀ a, H a = none → Q (.ref a) (upd H a o) := fun a n => p.ok' (Gr.push n) (r.push n (q a n) ho) (.ref r.new)
/-- a new tuple -/
theorem post_tup {G : Gx} {ι : List Addr} {σ : L2.St} {H : Hp} {h : AH} {ds : List D} {xs : List V} {Q : VK} (r : RH G ι h H) (p : Post (RD G) W G ι σ H (.ok (.tup ds) h) Q) (q : RDs G ι H ds xs) :
    ∀ a, H a = none → Q (.ref a) (upd H a (.tup xs)) := fun a n =>
  p.ok' (Gr.fresh n) (r.other n) (.tup (.inl (.inl upd_same)) (q.mono (Gr.fresh n)))
theorem binS (g : Good Z k X W) (o : Bop) : OpS Z X W (binaryOp (match o with | .add => .Add | .sub => .Sub | .mul => .Mult | .fdiv => .FloorDiv | .mod => .Mod | .pow => .Pow)) (binD o) := by
  intro pins s σ H ι h a b x y v u Q I rh ra rb rx ry p
  unfold binD at p
  split at p
  case h_1 => cases ra; cases rb; exact op_add pins s σ H _ _ v u Q I rx ry ⟨_, _, rfl, rfl, p.ok rh (.int _)⟩
  case h_2 =>
    cases ra; cases rb
    split at p
    · exact op_add_str pins s σ H _ _ v u Q I rx ry ⟨_, _, rfl, rfl, by assumption, p.ok rh (.str _)⟩
    · exact p.elim
  case h_3 =>
    cases ra with
    | tup s1 r1 =>
      cases rb with
      | tup s2 r2 =>
        split at p
        · rename_i hz
          refine op_catA pins s σ H _ _ v u Q I rx ry ⟨_, _, _, _, rfl, rfl, s1, s2, by rw [← r1.length, ← r2.length]; exact hz, fun e => ?_, fun _ e => ?_, fun _ _ => post_tup rh p (r1.append r2)⟩
          · subst e
            cases r1
            exact p.ok rh (.tup s2 r2)
          · subst e
            cases r2
            rw [List.append_nil] at p
            exact p.ok rh (.tup s1 r1)
        · exact p.elim
  case h_4 p' q' =>
    cases ra with
    | ref e1 =>
      cases rb with
      | ref e2 =>
        split at p
        · rename_i h1 h2
          split at p
          · rename_i hz
            have c1 := rh.at h1 e1
            have c2 := rh.at h2 e2
            cases c1 with
            | lst l1 r1 =>
              cases c2 with
              | lst l2 r2 =>
                exact op_cat pins s σ H _ _ v u Q I rx ry ⟨_, _, _, _, rfl, rfl, l1, l2, by rw [← r1.length, ← r2.length]; exact hz, post_new rh p fun a n => .lst upd_same ((r1.append r2).mono (Gr.push n))⟩
          · exact p.elim
        · exact p.elim
  case h_5 => cases ra; cases rb; exact op_sub pins s σ H _ _ v u Q I rx ry ⟨_, _, rfl, rfl, p.ok rh (.int _)⟩
  case h_6 =>
    cases ra; cases rb
    split at p
    · exact op_mul pins s σ H _ _ v u Q I rx ry ⟨_, _, rfl, rfl, by assumption, p.ok rh (.int _)⟩
    · exact p.elim
  case h_7 =>
    cases ra with
    | tup s1 r1 =>
      cases rb
      split at p
      · rename_i hz
        obtain ⟨z1, z2, z3, z4⟩ := hz
        refine op_repT pins s σ H _ _ v u Q I rx ry ⟨_, _, _, rfl, rfl, s1, fun e => ?_, z2, z3, by rw [← r1.length]; exact z4, post_tup rh p ?_⟩
        · subst e
          cases r1
          exact z1 rfl
        · exact rep_rd r1 _
      · exact p.elim
  case h_8 =>
    cases ra with
    | ref e1 =>
      cases rb
      split at p
      · rename_i h1
        split at p
        · rename_i hz
          obtain ⟨z1, z2, z3⟩ := hz
          have c1 := rh.at h1 e1
          cases c1 with
          | lst l1 r1 =>
            exact op_rep pins s σ H _ _ v u Q I rx ry ⟨_, _, _, rfl, rfl, l1, z1, z2, by rw [← r1.length]; exact z3, post_new rh p fun a n => .lst upd_same ((rep_rd r1 _).mono (Gr.push n))⟩
        · exact p.elim
      · exact p.elim
  case h_9 =>
    cases ra; cases rb
    split at p
    · exact op_fdivN pins s σ H _ _ v u Q I rx ry ⟨_, _, rfl, rfl, by assumption, p.ok rh (.int _)⟩
    · exact p.elim
  case h_10 =>
    cases ra; cases rb
    split at p
    · exact op_modN pins s σ H _ _ v u Q I rx ry ⟨_, _, rfl, rfl, by assumption, p.ok rh (.int _)⟩
    · exact p.elim
  case h_11 =>
    cases ra; cases rb
    split at p
    · exact op_pow pins s σ H _ _ v u Q I rx ry ⟨_, _, rfl, rfl, by assumption, p.ok rh (.int _)⟩
    · exact p.elim
  case h_12 => exact p.elim
where
  rep_rd {G : Gx} {ι : List Addr} {H : Hp} {ds : List D} {xs : List V} (r : RDs G ι H ds xs) : ∀ n : Nat, RDs G ι H (List.replicate n ds).flatten (List.replicate n xs).flatten
    | 0 => .nil
    | n + 1 => by
      rw [List.replicate_succ, List.replicate_succ, List.flatten_cons, List.flatten_cons]
      exact r.append (rep_rd r n)
end
end MP
namespace MP
open PySem PySem.Spec PyProof.Rows L2

section
variable {G : Gx} {ι : List Addr} {H : Hp} {h : AH}
theorem mapM_dp {n : Nat} (ih : ∀ {d : D} {v : V} {p : PyData}, RD G ι H d v → toP n h d = some p → Dp G.K H v p) : ∀ {ds : List D} {vs : List V} {ps : List PyData}, RDs G ι H ds vs → ds.mapM (toP n h) = some ps → DpAll G.K H vs ps
  | _, _, _, .nil, e => by
    simp at e
    subst e
    exact .nil
  | _, _, ps, .cons (d := d) (ds := ds) r t, e => by
    rw [List.mapM_cons] at e
    cases e1 : toP n h d with
    | none => rw [e1] at e; cases e
    | some p =>
      cases e2 : ds.mapM (toP n h) with
      | none => rw [e1, e2] at e; cases e
      | some qs =>
        rw [e1, e2] at e
        cases e
        exact .cons (ih r e1) (mapM_dp ih t e2)
theorem toP_dp (rh : RH G ι h H) : ∀ {n : Nat} {d : D} {v : V} {p : PyData}, RD G ι H d v → toP n h d = some p → Dp G.K H v p
  | 0, _, _, _, _, e => by cases e
  | n + 1, d, v, p, r, e => by
    cases r with
    | non => cases e; exact .non
    | bl b => cases e; exact .bl b
    | int i => cases e; exact .int i
    | str s => cases e; exact .str s
    | tup s r =>
      simp only [toP, Option.map_eq_some_iff] at e
      obtain ⟨ps, e1, rfl⟩ := e
      exact .tup s (mapM_dp (fun r q => toP_dp rh r q) r e1)
    | ref ea =>
      simp only [toP] at e
      split at e
      · rename_i ds e0
        simp only [Option.map_eq_some_iff] at e
        obtain ⟨ps, e1, rfl⟩ := e
        cases rh.at e0 ea with
        | lst l r => exact .lst (.inl (.inl l)) (mapM_dp (fun r q => toP_dp rh r q) r e1)
      · rename_i ds e0
        simp only [Option.map_eq_some_iff] at e
        obtain ⟨ps, e1, rfl⟩ := e
        cases rh.at e0 ea with
        | fls l r => exact .lst (.inl (.inr ⟨_, l⟩)) (mapM_dp (fun r q => toP_dp rh r q) r e1)
      · cases e
    | fn _ => cases e
    | cls _ => cases e
    | ty _ => cases e
end

section
variable {Z : Wd} {k : Nat} {X : Cx} {W : WX}
theorem Good.u64 (g : Good Z k X W) : X.A.units + 64 < cLine := g.room.units
theorem Good.u65 (g : Good Z k X W) : X.A.units + 65 < cLine := by have := g.room.un; omega
theorem Good.u1 (g : Good Z k X W) : X.A.units + 1 < cLine := by have := g.room.un; omega

theorem ofOpt_post {α β γ : Type} {rel : List Addr → Hp → α → β → Prop} {G : Gx} {ι : List Addr} {σ : L2.St} {H : Hp} {h : AH} {o : Option γ} {f : γ → α} {Q : β → Hp → Prop} (p : Post rel W G ι σ H (ofOpt (o.map f) h) Q) :
    ∃ a, o = some a ∧ Post rel W G ι σ H (.ok (f a) h) Q := by
  cases o with
  | none => exact p.elim
  | some a => exact ⟨a, rfl, p⟩
abbrev copOf : Cop → CmpOp
  | .eq => .Eq | .ne => .NotEq | .lt => .Lt | .le => .LtE | .gt => .Gt | .ge => .GtE
  | .isN => .Is | .ntN => .IsNot | .isB _ => .Is | .ntB _ => .IsNot | .isin => .In | .notin => .NotIn

theorem is_bool {M : Model} {A : Around} {E : Value → Shared → Prop} {s : Shared} {G : Gx} {ι : List Addr} {H : Hp} {d : D} {x : V} {v : Value} {b k : Bool} {Q : Value → Shared → Prop} (r : RD G ι H d x) (rv : RelV x v) (e : isBool b d = some k) (q : Q (.bool k) s) :
    wpAny M A (compareOp .Is v (.bool b)) Q E s := by
  cases r with
  | non => cases rv; cases e; exact wpAny_pure q
  | bl k' => cases rv; cases e; exact wpAny_pure (by cases k' <;> cases b <;> exact q)
  | int i => obtain ⟨t, rfl⟩ := rv; cases e; exact wpAny_pure q
  | str x => obtain ⟨t, rfl⟩ := rv; cases e; exact wpAny_pure q
  | tup _ _ => cases rv; cases e; exact wpAny_pure q
  | ref _ => cases rv; cases e; exact wpAny_pure q
  | fn _ => cases e
  | cls _ => cases e
  | ty _ => cases e
theorem isnt_bool {M : Model} {A : Around} {E : Value → Shared → Prop} {s : Shared} {G : Gx} {ι : List Addr} {H : Hp} {d : D} {x : V} {v : Value} {b k : Bool} {Q : Value → Shared → Prop} (r : RD G ι H d x) (rv : RelV x v) (e : isBool b d = some k) (q : Q (.bool (!k)) s) :
    wpAny M A (compareOp .IsNot v (.bool b)) Q E s := by
  cases r with
  | non => cases rv; cases e; exact wpAny_pure q
  | bl k' => cases rv; cases e; exact wpAny_pure (by cases k' <;> cases b <;> exact q)
  | int i => obtain ⟨t, rfl⟩ := rv; cases e; exact wpAny_pure q
  | str x => obtain ⟨t, rfl⟩ := rv; cases e; exact wpAny_pure q
  | tup _ _ => cases rv; cases e; exact wpAny_pure q
  | ref _ => cases rv; cases e; exact wpAny_pure q
  | fn _ => cases e
  | cls _ => cases e
  | ty _ => cases e
theorem isNone_rd {G : Gx} {ι : List Addr} {H : Hp} {d : D} {x : V} {k : Bool} (r : RD G ι H d x) (e : isNone d = some k) : k = decide (x = .non) := by
  cases r <;> cases e <;> rfl

/-- keys -/
theorem key_rd {G : Gx} {ι : List Addr} {H : Hp} {d : D} {x : V} (r : RD G ι H d x) (e : keyOk d = true) : ∃ k : Key, d = kD k ∧ x = kV k := by
  cases r <;> cases e
  · exact ⟨.inl _, rfl, rfl⟩
  · exact ⟨.inr _, rfl, rfl⟩
theorem kD_inj {a b : Key} (e : kD a = kD b) : a = b := by
  cases a <;> cases b <;> cases e <;> rfl
theorem eqK_kD (a b : Key) : eqK (kD a) (kD b) = decide (a = b) := by
  cases a with
  | inl i => cases b with
    | inl j => rw [key_ll]; rfl
    | inr y => rw [key_lr]; rfl
  | inr x => cases b with
    | inl j => rw [key_rl]; rfl
    | inr y => rw [key_rr]; rfl

section
variable {G : Gx} {ι : List Addr} {H : Hp}
theorem getK_rd (k : Key) : ∀ {kvs : List (D × D)} {vs : List (Key × V)}, RKs G ι H kvs vs → (∀ d, getK (kD k) kvs = some d → ∃ v, valV vs k = some v ∧ RD G ι H d v) ∧ (getK (kD k) kvs = none → valV vs k = none)
  | _, _, .nil => ⟨fun d e => (by cases e), fun _ => rfl⟩
  | _, _, .cons (k := j) (d := d) (v := v) r t => by
    have ih := getK_rd k t
    unfold getK at ih ⊢
    simp only [List.find?_cons, eqK_kD]
    by_cases e : j = k
    · simp only [e, decide_true]
      refine ⟨fun d' e' => ?_, fun e' => by cases e'⟩
      cases e'
      exact ⟨v, valV_pos rfl, r⟩
    · simp only [e, decide_false]
      rw [valV_neg (p := (j, v)) e]
      exact ih
theorem any_rd (k : Key) : ∀ {kvs : List (D × D)} {vs : List (Key × V)}, RKs G ι H kvs vs → (kvs.any fun kv => eqK kv.1 (kD k)) = vs.any fun kv => decide (kv.1 = k)
  | _, _, .nil => rfl
  | _, _, .cons (k := j) r t => by
    rw [List.any_cons, List.any_cons, any_rd k t, eqK_kD]
theorem map_rd (k : Key) {d : D} {v : V} (q : RD G ι H d v) : ∀ {kvs : List (D × D)} {vs : List (Key × V)}, RKs G ι H kvs vs → RKs G ι H (kvs.map fun kv => if eqK kv.1 (kD k) = true then (kv.1, d) else kv) (vs.map fun kv => if kv.1 = k then (kv.1, v) else kv)
  | _, _, .nil => .nil
  | _, _, .cons (k := j) (d := d') (v := v') r t => by
    rw [List.map_cons, List.map_cons]
    simp only [eqK_kD, decide_eq_true_eq]
    have ih := map_rd k q t

    by_cases e : j = k
    · simp only [e, if_true]
      exact .cons q ih
    · simp only [e, if_false]
      exact .cons r ih
theorem RKs.append : ∀ {ds es : List (D × D)} {vs ws : List (Key × V)}, RKs G ι H ds vs → RKs G ι H es ws → RKs G ι H (ds ++ es) (vs ++ ws)
  | _, _, _, _, .nil, s => s
  | _, _, _, _, .cons r t, s => .cons r (RKs.append t s)
theorem putK_rd (k : Key) {d : D} {v : V} (q : RD G ι H d v) {kvs : List (D × D)} {vs : List (Key × V)} (r : RKs G ι H kvs vs) : RKs G ι H (putK (kD k) d kvs) (L2.putK vs k v) := by
  unfold putK L2.putK
  rw [any_rd k r]
  split
  · exact map_rd k q r
  · exact r.append (.cons q .nil)
theorem delK_rd (k : Key) : ∀ {kvs : List (D × D)} {vs : List (Key × V)}, RKs G ι H kvs vs → RKs G ι H (delK (kD k) kvs) (dropK vs k)
  | _, _, .nil => .nil
  | _, _, .cons (k := j) r t => by
    have ih := delK_rd k t
    unfold delK dropK at ih ⊢
    simp only [List.filter_cons, eqK_kD]
    by_cases e : j = k
    · simp only [e, decide_true, Bool.not_true, Bool.false_eq_true, if_false, ne_eq, not_true_eq_false, decide_false]
      exact ih
    · simp only [e, decide_false, Bool.not_false, if_true, ne_eq, not_false_eq_true, decide_true]
      exact .cons r ih
theorem RKs.fsts : ∀ {kvs : List (D × D)} {vs : List (Key × V)}, RKs G ι H kvs vs → RDs G ι H (kvs.map Prod.fst) (vs.map fun p => kV p.1)
  | _, _, .nil => .nil
  | _, _, .cons (k := k) r t => .cons (by cases k <;> constructor) (RKs.fsts t)
end

theorem inD_some {h : AH} {a : D} {ds : List D} {k : Bool} (e : inD h a ds = some k) : ∃ p ps, toP dep h a = some p ∧ ds.mapM (toP dep h) = some ps ∧ SeqAt.shaped p = true ∧ SeqAt.shaped (.list ps) = true ∧ SeqAt.shaped (.tuple ps) = true ∧ k = ps.any fun q => PyData.eqv q p := by
  unfold inD at e
  split at e
  · rename_i p ps e1 e2
    split at e
    · rename_i hc
      cases e
      rw [Bool.and_eq_true, Bool.and_eq_true] at hc
      exact ⟨p, ps, e1, e2, hc.1.1, hc.1.2, hc.2, rfl⟩
    · cases e
  · cases e
theorem eqD_some {h : AH} {a b : D} {k : Bool} (e : eqD h a b = some k) : ∃ p q, toP dep h a = some p ∧ toP dep h b = some q ∧ SeqAt.shaped p = true ∧ SeqAt.shaped q = true ∧ k = PyData.eqv p q := by
  unfold eqD at e
  split at e
  · rename_i p q e1 e2
    split at e
    · rename_i hc
      cases e
      rw [Bool.and_eq_true] at hc
      exact ⟨p, q, e1, e2, hc.1, hc.2, rfl⟩
    · cases e
  · cases e

theorem op_eqQ (hu : X.A.units + 64 < cLine) {pins : List (Addr × Obj)} {s : Shared} {σ : L2.St} {H : Hp} {ι : List Addr} {h : AH} {a b : D} {x y : V} {v u : Value} {Q : VK} {k : Bool} (I : Inv X pins σ H s) (rh : RH (Z.g X) ι h H) (ra : RD (Z.g X) ι H a x) (rb : RD (Z.g X) ι H b y)
    (rx : RelV x v) (ry : RelV y u) (e : eqQ h a b = some k) (q : Q (.bl k) H) : wpAny (model X.prog X.w) X.A (compareOp .Eq v u) (EP X pins σ Q) X.xe s := by
  unfold eqQ at e
  split at e
  · cases ra; cases rb; cases e
    refine op_eq pins s σ H _ _ v u Q I rx ry ⟨rfl, ?_⟩
    rw [show ∀ p q : Str, decide (V.str p = V.str q) = decide (p = q) from fun p q => by simp]
    exact q
  · obtain ⟨p, p', e1, e2, s1, s2, rfl⟩ := eqD_some e
    exact op_eqD hu pins s σ H x y v u Q I rx ry ⟨p, p', toP_dp rh ra e1, toP_dp rh rb e2, s1, s2, q⟩
theorem op_neQ (hu : X.A.units + 64 < cLine) {pins : List (Addr × Obj)} {s : Shared} {σ : L2.St} {H : Hp} {ι : List Addr} {h : AH} {a b : D} {x y : V} {v u : Value} {Q : VK} {k : Bool} (I : Inv X pins σ H s) (rh : RH (Z.g X) ι h H) (ra : RD (Z.g X) ι H a x) (rb : RD (Z.g X) ι H b y)
    (rx : RelV x v) (ry : RelV y u) (e : eqQ h a b = some k) (q : Q (.bl (!k)) H) : wpAny (model X.prog X.w) X.A (compareOp .NotEq v u) (EP X pins σ Q) X.xe s := by
  unfold eqQ at e
  split at e
  · cases ra; cases rb; cases e
    refine op_ne pins s σ H _ _ v u Q I rx ry ⟨rfl, ?_⟩
    rw [show ∀ p q : Str, decide (V.str p = V.str q) = decide (p = q) from fun p q => by simp]
    exact q
  · obtain ⟨p, p', e1, e2, s1, s2, rfl⟩ := eqD_some e
    exact op_neD hu pins s σ H x y v u Q I rx ry ⟨p, p', toP_dp rh ra e1, toP_dp rh rb e2, s1, s2, q⟩

/-- comparisons that call nothing of the program's own -/
theorem cmpS (g : Good Z k X W) (o : Cop) (hN : ∀ b : V, True) : ∀ (pins : List (Addr × Obj)) (s : Shared) (σ : L2.St) (H : Hp) (ι : List Addr) (h : AH) (a b : D) (x y : V) (v u : Value) (Q : VK) (c : Bool), Inv X pins σ H s → RH (Z.g X) ι h H → RD (Z.g X) ι H a x → RD (Z.g X) ι H b y →
    RelV x v → RelV y u → (o = .isN ∨ o = .ntN → y = .non) → (∀ k, o = .isB k ∨ o = .ntB k → y = .bl k) → cmpB o a b h = some c → Q (.bl c) H → wpAny (model X.prog X.w) X.A (compareOp (copOf o) v u) (EP X pins σ Q) X.xe s := by
  intro pins s σ H ι h a b x y v u Q c I rh ra rb rx ry hn hb e q
  have fin : EP X pins σ Q (.bool c) s := ⟨.bl c, H, I, rfl, q⟩
  cases o with
  | eq => exact op_eqQ g.u64 I rh ra rb rx ry e q
  | ne =>
    simp only [cmpB, Option.map_eq_some_iff] at e
    obtain ⟨c', e, rfl⟩ := e
    exact op_neQ g.u64 I rh ra rb rx ry e q
  | lt =>
    simp only [cmpB] at e
    unfold ltD at e
    split at e
    · cases ra; cases rb; cases e
      exact op_lt pins s σ H _ _ v u Q I rx ry ⟨_, _, rfl, rfl, q⟩
    · cases ra; cases rb; cases e
      exact op_lt_str pins s σ H _ _ v u Q I rx ry ⟨_, _, rfl, rfl, q⟩
    · split at e
      · rename_i p p' e1 e2
        split at e
        · rename_i hc
          cases e
          simp only [Bool.and_eq_true, decide_eq_true_eq] at hc
          obtain ⟨as, r1⟩ := Dp.reads I p x v (toP_dp rh ra e1) rx
          obtain ⟨bs, r2⟩ := Dp.reads I p' y u (toP_dp rh rb e2) ry
          refine PySem.W.rcLt_alike p p' X.A s v u as bs r1 r2 hc.1.1 (fun z => ?_) ?_ X.prog X.w _ _ fin
          · rw [z] at hc
            exact absurd hc.1.2 (by decide)
          · have h1 : min p.depth p'.depth ≤ p.depth := Nat.min_le_left _ _
            have h2 := g.u64
            omega
        · cases e
      · cases e
  | le =>
    simp only [cmpB] at e
    split at e
    · cases ra; cases rb; cases e
      exact op_le pins s σ H _ _ v u Q I rx ry ⟨_, _, rfl, rfl, q⟩
    · cases ra; cases rb; cases e
      exact op_le_str pins s σ H _ _ v u Q I rx ry ⟨_, _, rfl, rfl, q⟩
    · cases e
  | gt =>
    simp only [cmpB] at e
    split at e
    · cases ra; cases rb; cases e
      exact op_gt pins s σ H _ _ v u Q I rx ry ⟨_, _, rfl, rfl, q⟩
    · cases ra; cases rb; cases e
      exact op_gt_str pins s σ H _ _ v u Q I rx ry ⟨_, _, rfl, rfl, q⟩
    · cases e
  | ge =>
    simp only [cmpB] at e
    split at e
    · cases ra; cases rb; cases e
      exact op_ge pins s σ H _ _ v u Q I rx ry ⟨_, _, rfl, rfl, q⟩
    · cases ra; cases rb; cases e
      exact op_ge_str pins s σ H _ _ v u Q I rx ry ⟨_, _, rfl, rfl, q⟩
    · cases e
  | isN =>
    have e := isNone_rd ra e
    subst e
    exact op_isN pins s σ H x y v u Q I rx ry ⟨hn (.inl rfl), q⟩
  | ntN =>
    simp only [cmpB, Option.map_eq_some_iff] at e
    obtain ⟨c', e, rfl⟩ := e
    have e := isNone_rd ra e
    subst e
    exact op_notN pins s σ H x y v u Q I rx ry ⟨hn (.inr rfl), q⟩
  | isB b =>
    have ey := hb b (.inl rfl)
    subst ey
    cases ry
    exact is_bool ra rx e fin
  | ntB b =>
    have ey := hb b (.inr rfl)
    subst ey
    cases ry
    simp only [cmpB, Option.map_eq_some_iff] at e
    obtain ⟨c', e, rfl⟩ := e
    exact isnt_bool ra rx e fin
  | isin => exact isIn_ok g I rh ra rb rx ry e q
  | notin =>
    simp only [cmpB, Option.map_eq_some_iff] at e
    obtain ⟨c', e, rfl⟩ := e
    exact notIn_ok g I rh ra rb rx ry e q
where
  isIn_ok (g : Good Z k X W) {pins : List (Addr × Obj)} {s : Shared} {σ : L2.St} {H : Hp} {ι : List Addr} {h : AH} {a b : D} {x y : V} {v u : Value} {Q : VK} {c : Bool} (I : Inv X pins σ H s) (rh : RH (Z.g X) ι h H) (ra : RD (Z.g X) ι H a x) (rb : RD (Z.g X) ι H b y)
      (rx : RelV x v) (ry : RelV y u) (e : isIn h a b = some c) (q : Q (.bl c) H) : wpAny (model X.prog X.w) X.A (compareOp .In v u) (EP X pins σ Q) X.xe s := by
    unfold isIn at e
    split at e
    · split at e
      · cases ra; cases rb; cases e
        exact op_in_str pins s σ H _ _ v u Q I rx ry ⟨_, _, rfl, rfl, q⟩
      · cases e
    · obtain ⟨p, ps, e1, e2, s1, s2, s3, rfl⟩ := inD_some e
      obtain ⟨as, r1⟩ := Dp.reads I p x v (toP_dp rh ra e1) rx
      cases rb with
      | tup sq r =>
        obtain ⟨bs, r2⟩ := Dp.reads I (.tuple ps) _ u (.tup sq (mapM_dp (fun r q => toP_dp rh r q) r e2)) ry
        exact SeqAt.in_tuple_reads r2 r1 (SeqAt.canLay_of_shaped s3) (SeqAt.canLay_of_shaped s1) (room_in_shaped s1 g.u65) ⟨.bl _, H, I, rfl, q⟩
    · split at e
      · rename_i e0
        obtain ⟨p, ps, e1, e2, s1, s2, s3, rfl⟩ := inD_some e
        cases rb with
        | ref ea =>
          cases rh.at e0 ea with
          | lst l r => exact op_inD g.u65 pins s σ H x _ v u Q I rx ry ⟨p, ps, toP_dp rh ra e1, .lst (.inl (.inl l)) (mapM_dp (fun r q => toP_dp rh r q) r e2), s1, s2, q⟩
      · rename_i e0
        obtain ⟨p, ps, e1, e2, s1, s2, s3, rfl⟩ := inD_some e
        cases rb with
        | ref ea =>
          cases rh.at e0 ea with
          | fls l r => exact op_inD g.u65 pins s σ H x _ v u Q I rx ry ⟨p, ps, toP_dp rh ra e1, .lst (.inl (.inr ⟨_, l⟩)) (mapM_dp (fun r q => toP_dp rh r q) r e2), s1, s2, q⟩
      · rename_i e0
        split at e
        · rename_i hk
          cases e
          obtain ⟨kk, rfl, rfl⟩ := key_rd ra hk
          cases rb with
          | ref ea =>
            cases rh.at e0 ea with
            | dct l r =>
              cases ry
              have gk := getK_rd kk r
              refine d_in g.u1 I (DGet.k l) rx fun s' I' => ⟨.bl _, H, I', rfl, ?_⟩
              cases hv : getK (kD kk) _ with
              | none => rw [hv] at q; rw [gk.2 hv]; exact q
              | some d => rw [hv] at q; obtain ⟨v', ev, _⟩ := gk.1 d hv; rw [ev]; exact q
        · cases e
      · cases e
    · cases e
  notIn_ok (g : Good Z k X W) {pins : List (Addr × Obj)} {s : Shared} {σ : L2.St} {H : Hp} {ι : List Addr} {h : AH} {a b : D} {x y : V} {v u : Value} {Q : VK} {c : Bool} (I : Inv X pins σ H s) (rh : RH (Z.g X) ι h H) (ra : RD (Z.g X) ι H a x) (rb : RD (Z.g X) ι H b y)
      (rx : RelV x v) (ry : RelV y u) (e : isIn h a b = some c) (q : Q (.bl (!c)) H) : wpAny (model X.prog X.w) X.A (compareOp .NotIn v u) (EP X pins σ Q) X.xe s := by
    unfold isIn at e
    split at e
    · split at e
      · cases ra; cases rb; cases e
        exact op_notin_str pins s σ H _ _ v u Q I rx ry ⟨_, _, rfl, rfl, q⟩
      · cases e
    · obtain ⟨p, ps, e1, e2, s1, s2, s3, rfl⟩ := inD_some e
      obtain ⟨as, r1⟩ := Dp.reads I p x v (toP_dp rh ra e1) rx
      cases rb with
      | tup sq r =>
        obtain ⟨bs, r2⟩ := Dp.reads I (.tuple ps) _ u (.tup sq (mapM_dp (fun r q => toP_dp rh r q) r e2)) ry
        exact SeqAt.notIn_tuple_reads r2 r1 (SeqAt.canLay_of_shaped s3) (SeqAt.canLay_of_shaped s1) (room_in_shaped s1 g.u65) ⟨.bl _, H, I, rfl, q⟩
    · split at e
      · rename_i e0
        obtain ⟨p, ps, e1, e2, s1, s2, s3, rfl⟩ := inD_some e
        cases rb with
        | ref ea =>
          cases rh.at e0 ea with
          | lst l r => exact op_notInD g.u65 pins s σ H x _ v u Q I rx ry ⟨p, ps, toP_dp rh ra e1, .lst (.inl (.inl l)) (mapM_dp (fun r q => toP_dp rh r q) r e2), s1, s2, q⟩
      · rename_i e0
        obtain ⟨p, ps, e1, e2, s1, s2, s3, rfl⟩ := inD_some e
        cases rb with
        | ref ea =>
          cases rh.at e0 ea with
          | fls l r => exact op_notInD g.u65 pins s σ H x _ v u Q I rx ry ⟨p, ps, toP_dp rh ra e1, .lst (.inl (.inr ⟨_, l⟩)) (mapM_dp (fun r q => toP_dp rh r q) r e2), s1, s2, q⟩
      · rename_i e0
        split at e
        · rename_i hk
          cases e
          obtain ⟨kk, rfl, rfl⟩ := key_rd ra hk
          cases rb with
          | ref ea =>
            cases rh.at e0 ea with
            | dct l r =>
              cases ry
              have gk := getK_rd kk r
              refine d_notIn g.u1 I (DGet.k l) rx fun s' I' => ⟨.bl _, H, I', rfl, ?_⟩
              cases hv : getK (kD kk) _ with
              | none => rw [hv] at q; rw [gk.2 hv]; exact q
              | some d => rw [hv] at q; obtain ⟨v', ev, _⟩ := gk.1 d hv; rw [ev]; exact q
        · cases e
      · cases e
    · cases e
end
end MP
namespace MP
open PySem PySem.Spec PyProof.Rows L2
section
variable {Z : Wd} {k : Nat} {X : Cx} {W : WX}
variable {pins : List (Addr × Obj)} {s : Shared} {σ : L2.St} {H : Hp} {ι : List Addr} {h : AH}

theorem RDs.emp {G : Gx} : ∀ {ds : List D} {vs : List V}, RDs G ι H ds vs → ds.isEmpty = vs.isEmpty
  | _, _, .nil => rfl
  | _, _, .cons _ _ => rfl
theorem RKs.emp {G : Gx} : ∀ {ds : List (D × D)} {vs : List (Key × V)}, RKs G ι H ds vs → ds.isEmpty = vs.isEmpty
  | _, _, .nil => rfl
  | _, _, .cons _ _ => rfl
theorem truD_ok {G : Gx} {d : D} {x : V} {b : Bool} (rh : RH G ι h H) (r : RD G ι H d x) (e : truD h d = some b) : TruV G.K x H b := by
  cases r with
  | non => cases e; rfl
  | bl k => cases e; rfl
  | int i => cases e; rfl
  | str z =>
    simp only [truD] at e
    split at e
    · rename_i hz
      cases e
      refine ⟨hz, ?_⟩
      by_cases h0 : z.length = 0
      · rw [h0]; rfl
      · have h1 : (z.length : Int) ≠ 0 := by omega
        rw [bne_iff_ne.mpr h0, bne_iff_ne.mpr h1]
    · cases e
  | tup sq r => cases e; exact .inr (.inl ⟨_, sq, by rw [r.emp]⟩)
  | ref ea =>
    simp only [truD] at e
    split at e
    · rename_i e0
      cases e
      cases rh.at e0 ea with
      | lst l r => exact .inl ⟨_, .inl (.inl l), by rw [r.emp]⟩
    · rename_i e0
      cases e
      cases rh.at e0 ea with
      | fls l r => exact .inl ⟨_, .inl (.inr ⟨_, l⟩), by rw [r.emp]⟩
    · rename_i e0
      cases e
      cases rh.at e0 ea with
      | dct l r => exact .inr (.inr ⟨_, l, by rw [r.emp]⟩)
    · cases e
  | fn _ => cases e
  | cls _ => cases e
  | ty _ => cases e

theorem RDs.at {G : Gx} {ds : List D} {vs : List V} {i : Int} {d : D} (r : RDs G ι H ds vs) (e : atI ds i = some d) : ∃ v, atI vs i = some v ∧ RD G ι H d v := by
  unfold atI at e ⊢
  rw [← r.length]
  cases hj : ixN ds.length i with
  | none => rw [hj] at e; cases e
  | some j =>
    rw [hj] at e
    obtain ⟨v, h1, h2⟩ := r.get (i := j) (by simpa using e)
    exact ⟨v, by simpa using h1, h2⟩
theorem ofOpt_ok {α β : Type} {rel : List Addr → Hp → α → β → Prop} {G : Gx} {σ : L2.St} {o : Option α} {Q : β → Hp → Prop} (p : Post rel W G ι σ H (ofOpt o h) Q) : ∃ a, o = some a ∧ Post rel W G ι σ H (.ok a h) Q := by
  cases o with
  | none => exact p.elim
  | some a => exact ⟨a, rfl, p⟩
/-- an item of a dict, behind the text of a subscript -/
def rIxD : R2 := fun x y H Q => ∃ a v, x = .ref a ∧ DGet H a y (some v) ∧ Q v H
theorem ix_dict (hu : X.A.units + 1 < cLine) : IxR X rIxD := by
  intro value slice pins s σ H x y v u Q I rx ry q hs
  obtain ⟨a, w, rfl, gt, q⟩ := q
  cases rx
  exact tail_any (dict_typeIs I gt) PySem.F.slot_dict_getitem.lookup (d_getItem hu I gt ry fun w' s3 I3 rw' => ⟨w, H, I3, rw', q⟩) hs
theorem idxS (g : Good Z k X W) {a b : D} {x y : V} {v u : Value} {Q : VK} (value slice : Expr) (I : Inv X pins σ H s) (rh : RH (Z.g X) ι h H) (ra : RD (Z.g X) ι H a x) (rb : RD (Z.g X) ι H b y) (rx : RelV x v) (ry : RelV y u)
    (p : Post (RD (Z.g X)) W (Z.g X) ι σ H (idxD a b h) Q) (hs : subscripted slice false v u = operate [v, u] (getItem v u)) : wpAny (model X.prog X.w) X.A (subscriptTail value slice v u) (EP X pins σ Q) X.xe s := by
  have dk : ∀ {n : Nat} {ad : Addr} {kvs : List (D × D)}, h[n]? = some (.dct kvs) → ι[n]? = some ad → keyOk b = true → x = .ref ad → Post (RD (Z.g X)) W (Z.g X) ι σ H (ofOpt (getK b kvs) h) Q → wpAny (model X.prog X.w) X.A (subscriptTail value slice v u) (EP X pins σ Q) X.xe s := by
    intro n ad kvs e0 ea hk ex p
    obtain ⟨kk, rfl, rfl⟩ := key_rd rb hk
    obtain ⟨d, ed, p⟩ := ofOpt_ok p
    cases rh.at e0 ea with
    | dct l r =>
      obtain ⟨w, ew, rw'⟩ := (getK_rd kk r).1 d ed
      exact ix_dict g.u1 value slice pins s σ H _ _ v u Q I rx ry ⟨ad, w, ex, by rw [← ew]; exact DGet.k l, p.ok rh rw'⟩ hs
  unfold idxD at p
  split at p
  · split at p
    · cases ra; cases rb
      split at p
      · rename_i hz
        split at p
        · rename_i ec
          exact ix_str value slice pins s σ H _ _ v u Q I rx ry ⟨_, _, _, rfl, rfl, hz, ec, p.ok rh (.str _)⟩ hs
        · exact p.elim
      · exact p.elim
    · cases rb
      cases ra with
      | tup sq r =>
        obtain ⟨d, ed, p⟩ := ofOpt_ok p
        obtain ⟨w, ew, rw'⟩ := r.at ed
        exact ix_tup value slice pins s σ H _ _ v u Q I rx ry ⟨_, _, _, _, rfl, rfl, sq, ew, p.ok rh rw'⟩ hs
    · cases ra with
      | ref ea =>
        split at p
        · rename_i e0
          cases rb
          obtain ⟨d, ed, p⟩ := ofOpt_ok p
          cases rh.at e0 ea with
          | lst l r =>
            obtain ⟨w, ew, rw'⟩ := r.at ed
            exact ix_list value slice pins s σ H _ _ v u Q I rx ry ⟨_, _, _, _, rfl, rfl, .inl (.inl l), ew, p.ok rh rw'⟩ hs
        · rename_i e0
          cases rb
          obtain ⟨d, ed, p⟩ := ofOpt_ok p
          cases rh.at e0 ea with
          | fls l r =>
            obtain ⟨w, ew, rw'⟩ := r.at ed
            exact ix_list value slice pins s σ H _ _ v u Q I rx ry ⟨_, _, _, _, rfl, rfl, .inl (.inr ⟨_, l⟩), ew, p.ok rh rw'⟩ hs
        · rename_i e0
          exact dk e0 ea rfl rfl p
        · exact p.elim
    · exact p.elim
  · split at p
    · cases ra with
      | ref ea =>
        split at p
        · rename_i e0
          exact dk e0 ea rfl rfl p
        · exact p.elim
    · exact p.elim
  · exact p.elim

theorem RDs.cut {G : Gx} {ds : List D} {vs : List V} (r : RDs G ι H ds vs) (lo hi : Option Int) : RDs G ι H (MP.cut ds lo hi) (cutV vs lo hi) := by
  unfold MP.cut cutV
  rw [r.length]
  exact (r.drop _).take _
def rSlM (Z : Wd) (X : Cx) (W : WX) (σ : L2.St) : V → Option Int → Option Int → Hp → VK → Prop := fun x lo hi H Q => ∃ ι h a, RH (Z.g X) ι h H ∧ RD (Z.g X) ι H a x ∧ Post (RD (Z.g X)) W (Z.g X) ι σ H (slcD a lo hi h) Q
theorem slcS : SlR X (rSlM Z X W σ) := by
  intro pins s σ' H x v vl vu lo hi sl Q I rx hs pl pu q
  obtain ⟨ι, h, a, rh, ra, p⟩ := q
  unfold slcD at p
  split at p
  · cases ra
    split at p
    · rename_i hz
      exact sl_str pins s σ' H _ v vl vu lo hi sl Q I rx hs pl pu ⟨_, rfl, hz, p.ok rh (.str _)⟩
    · exact p.elim
  · cases ra with
    | tup sq r =>
      refine sl_tupA pins s σ' H _ v vl vu lo hi sl Q I rx hs pl pu ⟨_, _, rfl, sq, fun e => ?_, fun _ => post_tup rh p (r.cut lo hi)⟩
      have e2 : MP.cut _ lo hi = _ := cut_all (ds := _) (by rw [r.length]; exact e)
      rw [e2] at p
      exact p.ok rh (.tup sq r)
  · cases ra with
    | ref ea =>
      split at p
      · rename_i e0
        unfold lstAt at e0
        split at e0
        · rename_i e1
          cases e0
          cases rh.at e1 ea with
          | lst l r => exact sl_list pins s σ' H _ v vl vu lo hi sl Q I rx hs pl pu ⟨_, _, rfl, .inl (.inl l), post_new rh p fun a n => .lst upd_same ((r.cut lo hi).mono (Gr.push n))⟩
        · rename_i e1
          cases e0
          cases rh.at e1 ea with
          | fls l r => exact sl_list pins s σ' H _ v vl vu lo hi sl Q I rx hs pl pu ⟨_, _, rfl, .inl (.inr ⟨_, l⟩), post_new rh p fun a n => .lst upd_same ((r.cut lo hi).mono (Gr.push n))⟩
        · cases e0
      · exact p.elim
  · exact p.elim
where
  cut_all {ds : List D} {lo hi : Option Int} (e : HT.sIx ds.length 0 lo = 0 ∧ HT.sIx ds.length ds.length hi = ds.length) : MP.cut ds lo hi = ds := by
    unfold MP.cut
    rw [e.1, e.2, List.drop_zero, Nat.sub_zero, List.take_length]

/-- o[i] = v -/
def rSetM (Z : Wd) (X : Cx) (W : WX) (σ : L2.St) : TSet := fun o i v H Q => ∃ ι h a b d, RH (Z.g X) ι h H ∧ RD (Z.g X) ι H a o ∧ RD (Z.g X) ι H b i ∧ RD (Z.g X) ι H d v ∧ Post (fun _ _ (_ : Unit) (_ : Unit) => True) W (Z.g X) ι σ H (setI a b d h) fun _ H' => Q H'
theorem setS (g : Good Z k X W) : PSet X (rSetM Z X W σ) := by
  intro pins s σ' H o i v ov iv u Q I ro ri rv q
  obtain ⟨ι, h, a, b, d, rh, ra, rb, rd, p⟩ := q
  unfold setI at p
  split at p
  · cases ra with
    | ref ea =>
      split at p
      · rename_i e0
        split at p
        · cases rb
          split at p
          · rename_i hj
            cases rh.at e0 ea with
            | lst l r =>
              refine set_list pins s σ' H _ _ v ov iv u Q I ro ri rv ⟨_, _, _, _, rfl, rfl, l, by rw [← r.length]; exact hj, ?_⟩
              exact Post.ok' (v := ()) p (Gr.put ea l trivial) (rh.put ea l trivial (.lst upd_same ((RDs.set rd _ r).mono (Gr.put ea l trivial)))) trivial
          · exact p.elim
        · exact p.elim
      · rename_i e0
        split at p
        · rename_i hc
          rw [Bool.and_eq_true, decide_eq_true_eq] at hc
          obtain ⟨kk, rfl, rfl⟩ := key_rd rb hc.1
          cases rh.at e0 ea with
          | dct l r =>
            refine set_dict g.u1 pins s σ' H _ _ v ov iv u Q I ro ri rv ⟨_, _, rfl, DPut.k l (by rw [← r.length]; exact hc.2), ?_⟩
            exact Post.ok' (v := ()) p (Gr.put ea l trivial) (rh.put ea l trivial (.dct upd_same ((putK_rd kk rd r).mono (Gr.put ea l trivial)))) trivial
        · exact p.elim
      · exact p.elim
  · exact p.elim

/-- fields -/
theorem putA_rd {G : Gx} {f : Str} {d : D} {v : V} (q : RD G ι H d v) : ∀ {fs : List (Str × D)} {vs : List (Str × V)}, RFs G ι H fs vs → RFs G ι H (setA.putA f d fs) (putF f v vs)
  | _, _, .nil => .cons q .nil
  | _, _, .cons (f := n) (d := d') (v := v') r t => by
    unfold setA.putA putF
    by_cases e : n = f
    · rw [if_pos e]
      simp only [e]
      first
        | (rw [if_pos rfl]; exact .cons q t)
        | (simp only [if_true]; exact .cons q t)
        | exact .cons q t
    · rw [if_neg e]
      first
        | (rw [if_neg e]; exact .cons r (putA_rd q t))
        | (simp only [e, if_false]; exact .cons r (putA_rd q t))
end
end MP
namespace MP
open PySem PySem.Spec PyProof.Rows L2
section
variable {Z : Wd} {k : Nat} {X : Cx} {W : WX}
variable {pins : List (Addr × Obj)} {s : Shared} {σ : L2.St} {H : Hp} {ι : List Addr} {h : AH}

theorem lstAt_sq (rh : RH (Z.g X) ι h H) {n : Nat} {a : Addr} {ds : List D} (e : lstAt h n = some ds) (ea : ι[n]? = some a) : ∃ xs, SqL X.K H a xs ∧ RDs (Z.g X) ι H ds xs := by
  unfold lstAt at e
  split at e
  · rename_i e1
    cases e
    cases rh.at e1 ea with
    | lst l r => exact ⟨_, .inl (.inl l), r⟩
  · rename_i e1
    cases e
    cases rh.at e1 ea with
    | fls l r => exact ⟨_, .inl (.inr ⟨_, l⟩), r⟩
  · cases e
theorem ints_rd {G : Gx} : ∀ {ds : List D} {vs : List V} {ns : List Int}, RDs G ι H ds vs → intsOf ds = some ns → vs = ns.map V.int
  | _, _, _, .nil, e => by cases e; rfl
  | _, _, _, .cons r t, e => by
    cases r with
    | int i =>
      simp only [intsOf, Option.map_eq_some_iff] at e
      obtain ⟨ms, e, rfl⟩ := e
      rw [ints_rd t e]
      rfl
    | _ => cases e
theorem bools_rd {G : Gx} : ∀ {ds : List D} {vs : List V} {ns : List Bool}, RDs G ι H ds vs → boolsOf ds = some ns → vs = ns.map V.bl
  | _, _, _, .nil, e => by cases e; rfl
  | _, _, _, .cons r t, e => by
    cases r with
    | bl i =>
      simp only [boolsOf, Option.map_eq_some_iff] at e
      obtain ⟨ms, e, rfl⟩ := e
      rw [bools_rd t e]
      rfl
    | _ => cases e
theorem strs_rd {G : Gx} : ∀ {ds : List D} {vs : List V} {ns : List Str}, RDs G ι H ds vs → strsOf ds = some ns → vs = ns.map V.str
  | _, _, _, .nil, e => by cases e; rfl
  | _, _, _, .cons r t, e => by
    cases r with
    | str i =>
      simp only [strsOf, Option.map_eq_some_iff] at e
      obtain ⟨ms, e, rfl⟩ := e
      rw [strs_rd t e]
      rfl
    | _ => cases e

def rBi (Z : Wd) (X : Cx) (W : WX) (σ : L2.St) (b : Bi) : List V → Hp → VK → Prop := fun xs H Q => ∃ ι h ds, RH (Z.g X) ι h H ∧ RDs (Z.g X) ι H ds xs ∧ Post (RD (Z.g X)) W (Z.g X) ι σ H (biD b ds h) Q

theorem RDs.one {G : Gx} {d : D} {vs : List V} (r : RDs G ι H [d] vs) : ∃ v, vs = [v] ∧ RD G ι H d v := by
  cases r with
  | cons r t => cases t; exact ⟨_, rfl, r⟩
theorem RDs.two {G : Gx} {d e : D} {vs : List V} (r : RDs G ι H [d, e] vs) : ∃ v w, vs = [v, w] ∧ RD G ι H d v ∧ RD G ι H e w := by
  cases r with
  | cons r t =>
    obtain ⟨w, rfl, r'⟩ := t.one
    exact ⟨_, _, rfl, r, r'⟩
theorem bi_len : CallR X (.builtin "len") (rBi Z X W σ .len) := by
  intro pins s σ' H xs us Q I r q
  obtain ⟨ι, h, ds, rh, rd, p⟩ := q
  unfold biD at p
  split at p <;> first | (rename_i hb; cases hb; done) | skip
  case h_1 =>
    obtain ⟨x, rfl, rx⟩ := rd.one
    split at p
    · cases rx
      split at p
      · rename_i hz
        exact call_len pins s σ' H _ us Q I r ⟨_, _, rfl, ⟨hz, rfl⟩, p.ok rh (.int _)⟩
      · exact p.elim
    · cases rx with
      | tup sq rs => exact call_len pins s σ' H _ us Q I r ⟨_, _, rfl, .inr ⟨_, sq, rs.length⟩, p.ok rh (.int _)⟩
    · cases rx with
      | ref ea =>
        split at p
        · rename_i e1
          cases rh.at e1 ea with
          | lst l rs => exact call_len pins s σ' H _ us Q I r ⟨_, _, rfl, .inl ⟨_, .inl (.inl l), rs.length⟩, p.ok rh (.int _)⟩
        · rename_i e1
          cases rh.at e1 ea with
          | fls l rs => exact call_len pins s σ' H _ us Q I r ⟨_, _, rfl, .inl ⟨_, .inl (.inr ⟨_, l⟩), rs.length⟩, p.ok rh (.int _)⟩
        · rename_i e1
          cases rh.at e1 ea with
          | dct l rs => exact call_lenD pins s σ' H _ us Q I r ⟨_, _, rfl, l, by rw [← rs.length]; exact p.ok rh (.int _)⟩
        · exact p.elim
    · exact p.elim
  all_goals exact p.elim
theorem bi_int : CallR X (.type "int") (rBi Z X W σ .int) := by
  intro pins s σ' H xs us Q I r q
  obtain ⟨ι, h, ds, rh, rd, p⟩ := q
  unfold biD at p
  split at p <;> first | (rename_i hb; cases hb; done) | skip
  case h_2 => obtain ⟨x, rfl, rx⟩ := rd.one; cases rx; exact call_int1 pins s σ' H _ us Q I r (.inl ⟨_, rfl, p.ok rh (.int _)⟩)
  case h_3 => obtain ⟨x, rfl, rx⟩ := rd.one; cases rx; exact call_int1 pins s σ' H _ us Q I r (.inr ⟨_, rfl, p.ok rh (.int _)⟩)
  case h_4 =>
    obtain ⟨x, rfl, rx⟩ := rd.one
    cases rx
    split at p
    · rename_i n e
      split at p
      · rename_i hz
        exact call_int_str pins s σ' H _ us Q I r ⟨_, n, rfl, e, hz, p.ok rh (.int _)⟩
      · exact p.elim
    · exact p.elim
  all_goals exact p.elim
theorem bi_str : CallR X (.type "str") (rBi Z X W σ .str) := by
  intro pins s σ' H xs us Q I r q
  obtain ⟨ι, h, ds, rh, rd, p⟩ := q
  unfold biD at p
  split at p <;> first | (rename_i hb; cases hb; done) | skip
  case h_5 =>
    obtain ⟨x, rfl, rx⟩ := rd.one
    cases rx
    split at p
    · rename_i hz
      exact call_str_int pins s σ' H _ us Q I r ⟨_, rfl, hz, p.ok rh (.str _)⟩
    · exact p.elim
  case h_6 => obtain ⟨x, rfl, rx⟩ := rd.one; cases rx; exact SkE.call_str_str pins s σ' H _ us Q I r ⟨_, rfl, p.ok rh (.str _)⟩
  all_goals exact p.elim
theorem bi_repr (hgd : X.A.guards = some []) (hu : X.A.units + 64 < cLine) : CallR X (.builtin "repr") (rBi Z X W σ .repr) := by
  intro pins s σ' H xs us Q I r q
  obtain ⟨ι, h, ds, rh, rd, p⟩ := q
  unfold biD at p
  split at p <;> first | (rename_i hb; cases hb; done) | skip
  case h_7 =>
    obtain ⟨x, rfl, rx⟩ := rd.one
    obtain ⟨u, rfl, ru⟩ := vals1 r
    split at p
    · rename_i pd e
      split at p
      · rename_i hc
        simp only [Bool.and_eq_true, decide_eq_true_eq] at hc
        obtain ⟨⟨⟨h1, h2⟩, h3⟩, h4⟩ := hc
        have dp := toP_dp rh rx e
        obtain ⟨as, rr⟩ := Dp.reads I pd x u dp ru
        have q := p.ok rh (.str _)
        cases rr with
        | none => exact PySem.P.repr_of_none ⟨.str _, H, I.tok _, ⟨_, rfl⟩, q⟩
        | bool b => exact PySem.P.repr_of_bool ⟨.str _, H, I.tok _, ⟨_, rfl⟩, by cases b <;> exact q⟩
        | int i t => exact PySem.P.repr_of_int (by simpa [PyData.showable] using h1) ⟨.str _, H, I.tok _, ⟨_, rfl⟩, q⟩
        | str z t => exact PySem.P.repr_of_str (hsz := h4) ⟨.str _, H, I.tok _, ⟨_, rfl⟩, q⟩
        | list a b c d => exact repr_of_reads' (Reads.list a b c d) h1 (PyData.noDict_hsm (PyData.hasDict_of_canLay _ h2)) hgd (by omega) (fun _ _ e => e) (fun h' u tk kk => ⟨.str _, H, I.kept kk, ⟨_, rfl⟩, q⟩) h4
        | tuple a b c d => exact repr_of_reads' (Reads.tuple a b c d) h1 (PyData.noDict_hsm (PyData.hasDict_of_canLay _ h2)) hgd (by omega) (fun _ _ e => e) (fun h' u tk kk => ⟨.str _, H, I.kept kk, ⟨_, rfl⟩, q⟩) h4
        | dict a b c d e => simp [PyData.canLay0] at h2
      · exact p.elim
    · exact p.elim
  all_goals exact p.elim
theorem seqAt_sq (rh : RH (Z.g X) ι h H) {d : D} {x : V} {ds : List D} (e : seqAt h d = some ds) (r : RD (Z.g X) ι H d x) : ∃ a xs, x = .ref a ∧ RDs (Z.g X) ι H ds xs ∧ ((SqL X.K H a xs ∧ ∃ n, d = .ref n) ∨ (SqT X.K H a xs ∧ d = .tup ds)) := by
  cases r with
  | tup sq r => cases e; exact ⟨_, _, rfl, r, .inr ⟨sq, rfl⟩⟩
  | ref ea =>
    obtain ⟨xs, h1, h2⟩ := lstAt_sq rh e ea
    exact ⟨_, _, rfl, h2, .inl ⟨h1, _, rfl⟩⟩
  | _ => cases e
theorem bi_tup : CallR X (.type "tuple") (rBi Z X W σ .tup) := by
  intro pins s σ' H xs us Q I r q
  obtain ⟨ι, h, ds, rh, rd, p⟩ := q
  unfold biD at p
  split at p <;> first | (rename_i hb; cases hb; done) | skip
  case h_9 =>
    obtain ⟨x, rfl, rx⟩ := rd.one
    split at p
    · rename_i e
      obtain ⟨a, xs, rfl, rs, sq | sq⟩ := seqAt_sq rh e rx
      · exact call_tuple_of pins s σ' H _ us Q I r ⟨_, _, rfl, .inl ⟨sq.1, post_tup rh p rs⟩⟩
      · exact call_tuple_of pins s σ' H _ us Q I r ⟨_, _, rfl, .inr ⟨sq.1, p.ok rh (.tup sq.1 rs)⟩⟩
    · exact p.elim
  all_goals exact p.elim
theorem bi_lst : CallR X (.type "list") (rBi Z X W σ .lst) := by
  intro pins s σ' H xs us Q I r q
  obtain ⟨ι, h, ds, rh, rd, p⟩ := q
  unfold biD at p
  split at p <;> first | (rename_i hb; cases hb; done) | skip
  case h_8 =>
    obtain ⟨x, rfl, rx⟩ := rd.one
    split at p
    · rename_i e
      obtain ⟨a, xs, rfl, rs, sq⟩ := seqAt_sq rh e rx
      refine call_list_of pins s σ' H _ us Q I r ⟨_, _, rfl, sq.elim (fun z => .inl z.1) fun z => .inr z.1, post_new rh p fun a n => .lst upd_same (rs.mono (Gr.push n))⟩
    · exact p.elim
  all_goals exact p.elim
theorem bi_all (g : Good Z k X W) : CallR X (.builtin "all") (rBi Z X W σ .all) := by
  intro pins s σ' H xs us Q I r q
  obtain ⟨ι, h, ds, rh, rd, p⟩ := q
  unfold biD at p
  split at p <;> first | (rename_i hb; cases hb; done) | skip
  case h_10 =>
    obtain ⟨x, rfl, rx⟩ := rd.one
    split at p
    · rename_i bs e
      obtain ⟨ds, e1, e2⟩ := Option.bind_eq_some_iff.mp e
      cases rx with
      | ref ea =>
        obtain ⟨xs, sq, rs⟩ := lstAt_sq rh e1 ea
        have ex := bools_rd rs e2
        subst ex
        exact cr_all g.calm pins s σ' H _ us Q I r ⟨_, _, rfl, sq, p.ok rh (.bl _)⟩
    · exact p.elim
  all_goals exact p.elim
theorem bi_any (g : Good Z k X W) : CallR X (.builtin "any") (rBi Z X W σ .any) := by
  intro pins s σ' H xs us Q I r q
  obtain ⟨ι, h, ds, rh, rd, p⟩ := q
  unfold biD at p
  split at p <;> first | (rename_i hb; cases hb; done) | skip
  case h_11 =>
    obtain ⟨x, rfl, rx⟩ := rd.one
    split at p
    · rename_i bs e
      obtain ⟨ds, e1, e2⟩ := Option.bind_eq_some_iff.mp e
      cases rx with
      | ref ea =>
        obtain ⟨xs, sq, rs⟩ := lstAt_sq rh e1 ea
        have ex := bools_rd rs e2
        subst ex
        exact cr_any g.calm pins s σ' H _ us Q I r ⟨_, _, rfl, sq, p.ok rh (.bl _)⟩
    · exact p.elim
  all_goals exact p.elim
theorem ints_of_vals : ∀ {ns : List Int} {us : List Value}, Vals (ns.map V.int) us → IntsAre us ns
  | [], _, .nil => .nil
  | n :: ns, _, .cons ⟨t, e⟩ r => by
    subst e
    exact .cons _ t (ints_of_vals r)
theorem bi_sum (g : Good Z k X W) : CallR X (.builtin "sum") (rBi Z X W σ .sum) := by
  intro pins s σ' H xs us Q I r q
  obtain ⟨ι, h, ds, rh, rd, p⟩ := q
  unfold biD at p
  split at p <;> first | (rename_i hb; cases hb; done) | skip
  case h_12 =>
    obtain ⟨x, rfl, rx⟩ := rd.one
    split at p
    · rename_i ns e
      obtain ⟨ds, e1, e2⟩ := Option.bind_eq_some_iff.mp e
      obtain ⟨a, xs, rfl, rs, sq | sq⟩ := seqAt_sq rh e1 rx
      · have ex := ints_rd rs e2
        subst ex
        exact cr_sum g.calm pins s σ' H _ us Q I r ⟨_, _, rfl, sq.1, p.ok rh (.int _)⟩
      · have ex := ints_rd rs e2
        subst ex
        obtain ⟨u, rfl, ru⟩ := vals1 r
        cases ru
        obtain ⟨its, rv, ht, hz⟩ := I.tuple sq.1
        have hi := ints_of_vals rv
        obtain ⟨ys, hx⟩ := hi.allInts.items
        have hn : numsOf its.toArray.toList = ns := by rw [show its.toArray.toList = its from rfl, hi.numsOf]
        have hx : its.toArray = intItems ys := by first | exact hx | (rw [← hx])
        rw [hx] at ht hn
        rw [nums_intItems] at hn
        refine PySem.W.ktm_sumG (I.ok.hd g.calm) ht fun h' tk t' hk => ⟨.int ns.sum, H, I.kept hk, ⟨t', ?_⟩, p.ok rh (.int _)⟩
        rw [preSum_eq, List.take_of_length_le (by simp), hn]
    · exact p.elim
  all_goals exact p.elim
theorem bi_min1 (g : Good Z k X W) : CallR X (.builtin "min") (rBi Z X W σ .min1) := by
  intro pins s σ' H xs us Q I r q
  obtain ⟨ι, h, ds, rh, rd, p⟩ := q
  unfold biD at p
  split at p <;> first | (rename_i hb; cases hb; done) | skip
  case h_13 =>
    obtain ⟨x, rfl, rx⟩ := rd.one
    split at p
    · rename_i n e
      obtain ⟨ns, e, e3⟩ := Option.bind_eq_some_iff.mp e
      obtain ⟨ds, e1, e2⟩ := Option.bind_eq_some_iff.mp e
      rw [List.min?_eq_some_iff] at e3
      cases rx with
      | ref ea =>
        obtain ⟨xs, sq, rs⟩ := lstAt_sq rh e1 ea
        have ex := ints_rd rs e2
        subst ex
        refine cr_min g.calm pins s σ' H _ us Q I r ⟨_, _, rfl, sq, List.length_pos_of_mem e3.1, fun m hm hle => ?_⟩
        have em : m = n := Int.le_antisymm (hle _ e3.1) (e3.2 _ hm)
        rw [em]
        exact p.ok rh (.int _)
    · exact p.elim
  all_goals exact p.elim
theorem bi_max1 (g : Good Z k X W) : CallR X (.builtin "max") (rBi Z X W σ .max1) := by
  intro pins s σ' H xs us Q I r q
  obtain ⟨ι, h, ds, rh, rd, p⟩ := q
  unfold biD at p
  split at p <;> first | (rename_i hb; cases hb; done) | skip
  case h_14 =>
    obtain ⟨x, rfl, rx⟩ := rd.one
    split at p
    · rename_i n e
      obtain ⟨ns, e, e3⟩ := Option.bind_eq_some_iff.mp e
      obtain ⟨ds, e1, e2⟩ := Option.bind_eq_some_iff.mp e
      rw [List.max?_eq_some_iff] at e3
      cases rx with
      | ref ea =>
        obtain ⟨xs, sq, rs⟩ := lstAt_sq rh e1 ea
        have ex := ints_rd rs e2
        subst ex
        refine cr_max g.calm pins s σ' H _ us Q I r ⟨_, _, rfl, sq, List.length_pos_of_mem e3.1, fun m hm hle => ?_⟩
        have em : m = n := Int.le_antisymm (e3.2 _ hm) (hle _ e3.1)
        rw [em]
        exact p.ok rh (.int _)
    · exact p.elim
  all_goals exact p.elim
theorem bi_min2 (g : Good Z k X W) : CallR X (.builtin "min") (rBi Z X W σ .min2) := by
  intro pins s σ' H xs us Q I r q
  obtain ⟨ι, h, ds, rh, rd, p⟩ := q
  unfold biD at p
  split at p <;> first | (rename_i hb; cases hb; done) | skip
  case h_15 =>
    obtain ⟨x, y, rfl, rx, ry⟩ := rd.two
    cases rx; cases ry
    exact call_min2 g.calm pins s σ' H _ us Q I r ⟨_, _, rfl, p.ok rh (.int _)⟩
  all_goals exact p.elim
theorem bi_max2 (g : Good Z k X W) : CallR X (.builtin "max") (rBi Z X W σ .max2) := by
  intro pins s σ' H xs us Q I r q
  obtain ⟨ι, h, ds, rh, rd, p⟩ := q
  unfold biD at p
  split at p <;> first | (rename_i hb; cases hb; done) | skip
  case h_16 =>
    obtain ⟨x, y, rfl, rx, ry⟩ := rd.two
    cases rx; cases ry
    exact call_max2 g.calm pins s σ' H _ us Q I r ⟨_, _, rfl, p.ok rh (.int _)⟩
  all_goals exact p.elim
theorem bi_abs : CallR X (.builtin "abs") (rBi Z X W σ .abs) := by
  intro pins s σ' H xs us Q I r q
  obtain ⟨ι, h, ds, rh, rd, p⟩ := q
  unfold biD at p
  split at p <;> first | (rename_i hb; cases hb; done) | skip
  case h_20 =>
    obtain ⟨x, rfl, rx⟩ := rd.one
    cases rx
    exact call_abs pins s σ' H _ us Q I r ⟨_, rfl, p.ok rh (.int _)⟩
  all_goals exact p.elim
end
end MP
namespace MP
open PySem PySem.Spec PyProof.Rows L2
section
variable {Z : Wd} {k : Nat} {X : Cx} {W : WX}
variable {pins : List (Addr × Obj)} {s : Shared} {σ : L2.St} {H : Hp} {ι : List Addr} {h : AH}

theorem allAlike_of {ps : List PyData} (e : allAlike ps = true) : PySem.W.AllAlike ps := fun d hd d' hd' => by
  unfold allAlike at e
  exact List.all_eq_true.mp (List.all_eq_true.mp e d hd) d' hd'
theorem sortable_of {ps : List PyData} (e : sortable ps = true) : PySem.W.Sortable ps := by
  unfold sortable at e
  rcases Bool.or_eq_true_iff.mp e with e | e
  · refine .inl fun d hd => ?_
    have q := List.all_eq_true.mp e d hd
    split at q
    · exact ⟨_, _, rfl⟩
    · cases q
  · refine .inr fun d hd => ?_
    have q := List.all_eq_true.mp e d hd
    split at q
    · cases q
    · cases q
    · rename_i h1 h2
      exact ⟨h1, h2⟩
/-- what the items of a list are known to be -/
def Knows (G : Gx) (ι : List Addr) (H : Hp) (u : Value) (b : D × PyData) : Prop := ∃ v, RD G ι H b.1 v ∧ RelV v u
theorem knows_of {G : Gx} {n : Nat} (rh : RH G ι h H) : ∀ {ds : List D} {ps : List PyData} {vs : List V} {us : List Value}, RDs G ι H ds vs → Vals vs us → ds.mapM (toP n h) = some ps →
    PySem.W.EachIs (Knows G ι H) us (ds.zip ps) ∧ (ds.zip ps).map Prod.snd = ps ∧ PySem.W.EachIs (fun u (b : D × PyData) => ∃ v, RelV v u ∧ Dp G.K H v b.2) us (ds.zip ps)
  | _, _, _, _, .nil, .nil, e => by
    simp at e
    subst e
    exact ⟨.nil, rfl, .nil⟩
  | _, _, _, _, .cons (d := d) (ds := ds) r t, .cons q u, e => by
    rw [List.mapM_cons] at e
    cases e1 : toP n h d with
    | none => rw [e1] at e; cases e
    | some p =>
      cases e2 : ds.mapM (toP n h) with
      | none => rw [e1, e2] at e; cases e
      | some qs =>
        rw [e1, e2] at e
        cases e
        obtain ⟨a, b, c⟩ := knows_of rh t u e2
        exact ⟨.cons ⟨_, r, q⟩ a, by rw [List.zip_cons_cons, List.map_cons, b], .cons ⟨_, q, toP_dp rh r e1⟩ c⟩
theorem each_out {G : Gx} : ∀ {us : List Value} {bs : List (D × PyData)}, PySem.W.EachIs (Knows G ι H) us bs → ∃ vs, RDs G ι H (bs.map Prod.fst) vs ∧ Vals vs us
  | _, _, .nil => ⟨[], .nil, .nil⟩
  | _, _, .cons ⟨v, r, q⟩ t => by
    obtain ⟨vs, a, b⟩ := each_out t
    exact ⟨v :: vs, .cons r a, .cons q b⟩
theorem each_imp {α β : Type} {R R' : α → β → Prop} (k : ∀ a b, R a b → R' a b) : ∀ {as : List α} {bs : List β}, PySem.W.EachIs R as bs → PySem.W.EachIs R' as bs
  | _, _, .nil => .nil
  | _, _, .cons r t => .cons (k _ _ r) (each_imp k t)
/-- sorted over a list of known data: a new list -/
theorem sorted_known (g : Good Z k X W) {Q : VK} {l : Addr} {ds : List D} {xs : List V} {out : List D} (I : Inv X pins σ H s) (rh : RH (Z.g X) ι h H) (sq : SqL X.K H l xs) (rs : RDs (Z.g X) ι H ds xs) (e : sortD h ds = some out)
    (q : ∀ vs a, RDs (Z.g X) ι H out vs → H a = none → Q (.ref a) (upd H a (.lst vs))) : wpAny (model X.prog X.w) X.A (call (.builtin "sorted") [.ref l]) (EP X pins σ Q) X.xe s := by
  unfold sortD at e
  split at e
  · rename_i ps e1
    split at e
    · rename_i hc
      cases e
      simp only [Bool.and_eq_true, List.all_eq_true, decide_eq_true_eq] at hc
      obtain ⟨⟨h1, h2⟩, h3⟩ := hc
      obtain ⟨its, rv, hl, hz⟩ := I.list sq
      obtain ⟨k1, k2, k3⟩ := knows_of rh rs rv e1
      have hlen : (ds.zip ps).length ≤ sizeLine := by
        rw [← k1.length, ← rv.length]
        exact hz
      refine PySem.W.sorted_data (bs := ds.zip ps) (enc := Prod.snd) (R := Knows (Z.g X) ι H) hl.isList k1 (each_imp (fun u b ⟨v, a, c⟩ => Dp.reads I _ v u c a) k3) (by rw [k2]; exact allAlike_of h1) (by rw [k2]; exact sortable_of h2) hlen (fun b hb => ?_) fun o ho eo => ?_
      · have hm : b.2 ∈ ps := by
          rw [← k2]
          exact List.mem_map_of_mem hb
        have := h3 _ hm
        have := g.u64
        omega
      · obtain ⟨vs, r1, r2⟩ := each_out eo
        obtain ⟨ep, he'⟩ := sortedAll_at s.heap its (List.toArray o)
        have hvl : vs.length ≤ sizeLine := by
          rw [r2.length, ho]
          exact hlen
        exact ⟨.ref _, upd H (s.heap.objs.size + 1) (.lst vs), I.laid (t' := s.toks) (fun _ _ => sortedAll_old) (Nat.le_succ _) ⟨hvl, o, ep, r2, he'⟩, rfl, q vs _ r1 (I.hok.fresh (Nat.le_succ _))⟩
    · cases e
  · cases e
theorem bi_sorted (g : Good Z k X W) : CallR X (.builtin "sorted") (rBi Z X W σ .sorted) := by
  intro pins s σ' H xs us Q I r q
  obtain ⟨ι, h, ds, rh, rd, p⟩ := q
  unfold biD at p
  split at p <;> first | (rename_i hb; cases hb; done) | skip
  case h_17 =>
    obtain ⟨x, rfl, rx⟩ := rd.one
    obtain ⟨u, rfl, ru⟩ := vals1 r
    split at p
    · rename_i out e
      obtain ⟨ds, e1, e2⟩ := Option.bind_eq_some_iff.mp e
      cases rx with
      | ref ea =>
        cases ru
        obtain ⟨xs, sq, rs⟩ := lstAt_sq rh e1 ea
        exact sorted_known g I rh sq rs e2 fun vs a rv n => post_new rh p (fun a n => .lst upd_same (rv.mono (Gr.push n))) (fun ps z => by cases z) a n
    · exact p.elim
  all_goals exact p.elim

end
end MP
namespace MP
open PySem PySem.Spec PyProof.Rows L2
section
variable {Z : Wd} {k : Nat} {X : Cx} {W : WX}
variable {pins : List (Addr × Obj)} {s : Shared} {σ : L2.St} {H : Hp} {ι : List Addr} {h : AH}
theorem post_put {G : Gx} {σ : L2.St} {Q : VK} {n : Nat} {a : Addr} {u o : HO} {c : C} {d : D} {v : V} (p : Post (RD G) W G ι σ H (.ok d (h.set n c)) Q) (rh : RH G ι h H) (ea : ι[n]? = some a) (eu : H a = some u) (su : Soft u) (q : RC G ι (upd H a o) c a) (r : RD G ι H d v) (ho : ∀ ps, o ≠ .tbl ps := by intro ps z; cases z) :
    Q v (upd H a o) := p.ok' (Gr.put ea eu su) (rh.put ea eu su q ho) (r.mono (Gr.put ea eu su))
def rMt (Z : Wd) (X : Cx) (W : WX) (σ : L2.St) (F : D → List D → AH → Res D) : V → List V → Hp → VK → Prop := fun x xs H Q => ∃ ι h d ds, RH (Z.g X) ι h H ∧ RD (Z.g X) ι H d x ∧ RDs (Z.g X) ι H ds xs ∧ Post (RD (Z.g X)) W (Z.g X) ι σ H (F d ds h) Q
theorem lstM_rd {G : Gx} {d : D} {x : V} {n : Nat} {ds : List D} (rh : RH G ι h H) (rx : RD G ι H d x) (e : lstM h d = some (n, ds)) : ∃ a xs, x = .ref a ∧ d = .ref n ∧ ι[n]? = some a ∧ H a = some (.lst xs) ∧ RDs G ι H ds xs := by
  cases rx with
  | ref ea =>
    simp only [lstM] at e
    split at e
    · rename_i e1
      cases e
      cases rh.at e1 ea with
      | lst l r => exact ⟨_, _, rfl, rfl, ea, l, r⟩
    · cases e
  | _ => cases e
theorem dctM_rd {G : Gx} {d : D} {x : V} {n : Nat} {kvs : List (D × D)} (rh : RH G ι h H) (rx : RD G ι H d x) (e : dctM h d = some (n, kvs)) : ∃ a vs, x = .ref a ∧ ι[n]? = some a ∧ H a = some (.dK vs) ∧ RKs G ι H kvs vs := by
  cases rx with
  | ref ea =>
    simp only [dctM] at e
    split at e
    · rename_i e1
      cases e
      cases rh.at e1 ea with
      | dct l r => exact ⟨_, _, rfl, ea, l, r⟩
    · cases e
  | _ => cases e
theorem mt_app : MtR X "list.append" (rMt Z X W σ mAppend) := by
  intro pins s σ' H x xs v us Q I rx rxs q
  obtain ⟨ι, h, d, ds, rh, rd, rds, p⟩ := q
  unfold mAppend at p
  split at p
  · rename_i e
    obtain ⟨a, ys, rfl, rfl, ea, l, r⟩ := lstM_rd rh rd e
    obtain ⟨y, rfl, ry⟩ := rds.one
    split at p
    · rename_i hz
      exact mt_append pins s σ' H _ _ v us Q I rx rxs ⟨_, _, _, rfl, rfl, l, by rw [← r.length]; exact hz, post_put p rh ea l trivial (.lst upd_same ((r.snoc ry).mono (Gr.put ea l trivial))) .non⟩
    · exact p.elim
  · exact p.elim
theorem ext_tuple (l : Addr) (items : Array Value) (n : Nat) (b : Addr) (its : Array Value) (h1 : items.size ≤ sizeLine) (h2 : items.size + its.size ≤ sizeLine) :
    Meets (Builtin.«list.extend» ⟨[.ref l, .ref b], []⟩) (fun _ R s => s.heap.get? l = some { cls := .type "list", dict := none, data := .seq items n, slots := #[] } ∧ IsTup s.heap b its ∧ R (.ok (.ret Value.none)) { s with heap := s.heap.update l (Obj.mapSeq fun x => x ++ its) }) :=
  .of_wp fun prog w A R s h => by
    obtain ⟨hl, ⟨o, ho, hc, m, hd⟩, hR⟩ := h
    show wpAny _ A.in1 (Builtin.List.listExtendWith (.ref l) (.ref b) .none) _ _ s
    unfold Builtin.List.listExtendWith
    refine wpAny_bind (wpAny_typeOf ⟨o, ho, hc⟩ ?_)
    have e1 : (Builtin.List.listSameRef (.ref l) (.ref b) || Value.type "tuple" == Value.type "list" || Value.type "tuple" == Value.type "tuple") = true := by simp
    simp only [e1, if_true]
    refine wpAny_bind ?_
    unfold Builtin.List.listItems
    refine wpAny_bind (wpAny_seqItems ho hd (wpAny_pure ?_))
    refine wpAny_bind ?_
    refine wpAny_bind (wpAny_seqItems hl rfl (wpAny_pure ?_))
    have e2 : (!items.isEmpty && Builtin.List.listTooLong (items.size + its.size)) = false := by rw [notLongL h2, Bool.and_false]
    simp only [e2, Bool.false_eq_true, if_false]
    first
      | refine wpAny_bind (wpAny_pure ?_)
      | skip
    show wpAny _ A.in1 (updateSeq l (· ++ its) >>= fun _ => ret Value.none) _ _ s
    refine wpAny_bind (wpAny_updateSeq hl rfl ?_ (hz := h1) (_hz' := by rw [Array.size_append]; omega))
    exact wpAny_pure ⟨_, rfl, hR⟩
theorem mt_extT (pins : List (Addr × Obj)) (s : Shared) (σ' : L2.St) (H : Hp) (l b : Addr) (xs zs : List V) (Q : VK) (I : Inv X pins σ' H s) (hH : H l = some (.lst xs)) (hB : SqT X.K H b zs) (hz : xs.length + zs.length ≤ sizeLine) (q : Q .non (upd H l (.lst (xs ++ zs)))) :
    wpAny (model X.prog X.w) X.A (call (.builtin "list.extend") [.ref l, .ref b]) (EP X pins σ' Q) X.xe s := by
  obtain ⟨z, its, n, r, hl, e⟩ := I.lstM hH
  obtain ⟨its2, r2, ht, z2⟩ := I.tuple hB
  have hl2 := r2.length
  refine call_meets PySem.F.slot_list_extend ⟨_, e, rfl⟩ PySem.F.entry_list_extend (PySem.F.args_list_extend_2 _ _) (ext_tuple l its.toArray n b its2.toArray (by rw [List.size_toArray]; omega) (by rw [List.size_toArray, List.size_toArray]; omega)) ⟨e, ht, ?_⟩
  refine ⟨.non, _, I.lset (t' := s.toks) (its' := its ++ its2) hH e (by simp) (r.append r2) ?_, rfl, q⟩
  rw [List.length_append]
  omega
theorem mt_ext : MtR X "list.extend" (rMt Z X W σ mExtend) := by
  intro pins s σ' H x xs v us Q I rx rxs q
  obtain ⟨ι, h, d, ds, rh, rd, rds, p⟩ := q
  unfold mExtend at p
  split at p
  · rename_i e
    obtain ⟨a, ys, rfl, rfl, ea, l, r⟩ := lstM_rd rh rd e
    obtain ⟨y, rfl, ry⟩ := rds.one
    split at p
    · rename_i e2
      split at p
      · rename_i hz
        cases ry with
        | ref eb =>
          cases rh.at e2 eb with
          | lst l2 r2 => exact mt_extend pins s σ' H _ _ v us Q I rx rxs ⟨_, _, _, _, rfl, rfl, l, l2, by rw [← r.length, ← r2.length]; exact hz, post_put p rh ea l trivial (.lst upd_same ((r.append r2).mono (Gr.put ea l trivial))) .non⟩
      · exact p.elim
    · exact p.elim
  · rename_i e
    obtain ⟨a, ys, rfl, rfl, ea, l, r⟩ := lstM_rd rh rd e
    obtain ⟨y, rfl, ry⟩ := rds.one
    split at p
    · rename_i hz
      cases ry with
      | tup sq r2 =>
        obtain ⟨u, rfl, ru⟩ := vals1 rxs
        cases ru
        cases rx
        exact mt_extT pins s σ' H _ _ _ _ Q I l sq (by rw [← r.length, ← r2.length]; exact hz) (post_put p rh ea l trivial (.lst upd_same ((r.append r2).mono (Gr.put ea l trivial))) .non)
    · exact p.elim
  · exact p.elim
theorem mt_pp0 : MtR X "list.pop" (rMt Z X W σ mPop0) := by
  intro pins s σ' H x xs v us Q I rx rxs q
  obtain ⟨ι, h, d, ds, rh, rd, rds, p⟩ := q
  unfold mPop0 at p
  split at p
  · rename_i e
    obtain ⟨a, ys, rfl, rfl, ea, l, r⟩ := lstM_rd rh rd e
    cases rds
    split at p
    · rename_i ey
      rw [r.length] at ey
      obtain ⟨w, ew, rw'⟩ := r.get ey
      exact mt_pop pins s σ' H _ _ v us Q I rx rxs ⟨_, _, _, rfl, rfl, l, ew, post_put p rh ea l trivial (.lst upd_same (r.dropLast.mono (Gr.put ea l trivial))) rw'⟩
    · exact p.elim
  · exact p.elim
theorem mt_pp1 : MtR X "list.pop" (rMt Z X W σ mPop1) := by
  intro pins s σ' H x xs v us Q I rx rxs q
  obtain ⟨ι, h, d, ds, rh, rd, rds, p⟩ := q
  unfold mPop1 at p
  split at p
  · rename_i e
    obtain ⟨a, ys, rfl, rfl, ea, l, r⟩ := lstM_rd rh rd e
    obtain ⟨y, rfl, ry⟩ := rds.one
    cases ry
    split at p
    · rename_i ej
      split at p
      · rename_i ey
        split at p
        · rename_i hz
          obtain ⟨w, ew, rw'⟩ := r.get ey
          rw [r.length] at ej
          exact mt_popAt pins s σ' H _ _ v us Q I rx rxs ⟨_, _, _, _, _, rfl, rfl, l, hz.1, hz.2, (ixN_seq ej).1, ew, post_put p rh ea l trivial (.lst upd_same ((RDs.erase _ r).mono (Gr.put ea l trivial))) rw'⟩
        · exact p.elim
      · exact p.elim
    · exact p.elim
  · exact p.elim
theorem dpAll_get {K : PySem.W.Frag} : ∀ {vs : List V} {ps : List PyData}, DpAll K H vs ps → vs.length = ps.length
  | _, _, .nil => rfl
  | _, _, .cons _ t => congrArg (· + 1) (dpAll_get t)
theorem mt_ixL (g : Good Z k X W) : MtR X "list.index" (rMt Z X W σ mIndexL) := by
  intro pins s σ' H x xs v us Q I rx rxs q
  obtain ⟨ι, h, d, ds, rh, rd, rds, p⟩ := q
  unfold mIndexL at p
  split at p
  · rename_i e
    obtain ⟨a, ys, rfl, rfl, ea, l, r⟩ := lstM_rd rh rd e
    obtain ⟨y, rfl, ry⟩ := rds.one
    split at p
    · rename_i ps pd e1 e2
      split at p
      · rename_i hc
        rw [Bool.and_eq_true] at hc
        split at p
        · rename_i j ej
          rw [List.findIdx?_eq_some_iff_getElem] at ej
          obtain ⟨hj, h1, h2⟩ := ej
          exact mt_indexD g.u65 pins s σ' H _ _ v us Q I rx rxs ⟨_, _, pd, ps, j, ps[j], rfl, rfl, .lst (.inl (.inl l)) (mapM_dp (fun r q => toP_dp rh r q) r e1), toP_dp rh ry e2, hc.1, hc.2, List.getElem?_eq_getElem hj, h1, fun m z' hm hz => by
            obtain ⟨hl, rfl⟩ := List.getElem?_eq_some_iff.mp hz
            have := h2 m hm
            simpa using this, p.ok rh (.int _)⟩
        · exact p.elim
      · exact p.elim
    · exact p.elim
  · exact p.elim
theorem strs_of_vals : ∀ {ns : List Str} {us : List Value}, Vals (ns.map V.str) us → StrsAre us ns
  | [], _, .nil => .nil
  | n :: ns, _, .cons ⟨t, e⟩ r => by
    subst e
    exact .cons _ t (strs_of_vals r)
theorem mt_ixT : MtR X "tuple.index" (rMt Z X W σ mIndexT) := by
  intro pins s σ' H x xs v us Q I rx rxs q
  obtain ⟨ι, h, d, ds, rh, rd, rds, p⟩ := q
  unfold mIndexT at p
  split at p
  · obtain ⟨y, rfl, ry⟩ := rds.one
    cases ry
    cases rd with
    | tup sq r =>
      split at p
      · rename_i e
        split at p
        · rename_i hm
          have ex := strs_rd r e
          subst ex
          cases rx
          obtain ⟨u, rfl, t, rfl⟩ := vals1 rxs
          obtain ⟨its, rv, ht, hz⟩ := I.tuple sq
          exact PySem.SeqAt.tuple_index_strs ht (strs_of_vals rv) hm ⟨.int _, H, I.tok _, ⟨_, rfl⟩, p.ok rh (.int _)⟩
        · exact p.elim
      · exact p.elim
  · exact p.elim
theorem mt_rem : MtR X "list.remove" (rMt Z X W σ mRemove) := by
  intro pins s σ' H x xs v us Q I rx rxs q
  obtain ⟨ι, h, d, ds, rh, rd, rds, p⟩ := q
  unfold mRemove at p
  split at p
  · rename_i e
    obtain ⟨a, ys, rfl, rfl, ea, l, r⟩ := lstM_rd rh rd e
    obtain ⟨y, rfl, ry⟩ := rds.one
    cases ry
    split at p
    · rename_i ns en
      split at p
      · rename_i j ej
        rw [List.findIdx?_eq_some_iff_getElem] at ej
        obtain ⟨hj, h1, h2⟩ := ej
        have ex := ints_rd r en
        subst ex
        refine mt_remove pins s σ' H _ _ v us Q I rx rxs ⟨_, ns, _, j, rfl, rfl, l, ?_, fun m hlt e => ?_, ?_⟩
        · rw [List.getElem?_eq_getElem hj]
          exact congrArg some (by simpa using h1)
        · obtain ⟨hl, e'⟩ := List.getElem?_eq_some_iff.mp e
          exact h2 m hlt (by simp [e'])
        · rw [← erase_mapI]
          exact post_put p rh ea l trivial (.lst upd_same ((RDs.erase _ r).mono (Gr.put ea l trivial))) .non
      · exact p.elim
    · exact p.elim
  · exact p.elim
theorem getD_rd {G : Gx} {kk : Key} {kvs : List (D × D)} {vs : List (Key × V)} {d : D} {v : V} (r : RKs G ι H kvs vs) (q : RD G ι H d v) : RD G ι H ((getK (kD kk) kvs).getD d) ((valV vs kk).getD v) := by
  cases e : getK (kD kk) kvs with
  | none => rw [(getK_rd kk r).2 e]; exact q
  | some z => obtain ⟨w, ew, rw'⟩ := (getK_rd kk r).1 z e; rw [ew]; exact rw'
theorem mt_g1 (g : Good Z k X W) : MtR X "dict.get" (rMt Z X W σ mGet1) := by
  intro pins s σ' H x xs v us Q I rx rxs q
  obtain ⟨ι, h, d, ds, rh, rd, rds, p⟩ := q
  unfold mGet1 at p
  split at p
  · rename_i e
    obtain ⟨a, vs, rfl, ea, l, r⟩ := dctM_rd rh rd e
    obtain ⟨y, rfl, ry⟩ := rds.one
    split at p
    · rename_i hk
      obtain ⟨kk, rfl, rfl⟩ := key_rd ry hk
      obtain ⟨u, rfl, ru⟩ := vals1 rxs
      cases rx
      exact d_get1 g.u1 I (DGet.k l) ru fun w' s' I' rw' => ⟨_, H, I', rw', p.ok rh (getD_rd r .non)⟩
    · exact p.elim
  · exact p.elim
theorem mt_g2 (g : Good Z k X W) : MtR X "dict.get" (rMt Z X W σ mGet2) := by
  intro pins s σ' H x xs v us Q I rx rxs q
  obtain ⟨ι, h, d, ds, rh, rd, rds, p⟩ := q
  unfold mGet2 at p
  split at p
  · rename_i e
    obtain ⟨a, vs, rfl, ea, l, r⟩ := dctM_rd rh rd e
    obtain ⟨y, z, rfl, ry, rz⟩ := rds.two
    split at p
    · rename_i hk
      obtain ⟨kk, rfl, rfl⟩ := key_rd ry hk
      obtain ⟨u, u', rfl, ru, ru'⟩ := vals2 rxs
      cases rx
      exact d_get2 g.u1 I (DGet.k l) ru ru' fun w' s' I' rw' => ⟨_, H, I', rw', p.ok rh (getD_rd r rz)⟩
    · exact p.elim
  · exact p.elim
theorem mt_sd (g : Good Z k X W) : MtR X "dict.setdefault" (rMt Z X W σ mSetdef) := by
  intro pins s σ' H x xs v us Q I rx rxs q
  obtain ⟨ι, h, d, ds, rh, rd, rds, p⟩ := q
  unfold mSetdef at p
  split at p
  · rename_i e
    obtain ⟨a, vs, rfl, ea, l, r⟩ := dctM_rd rh rd e
    obtain ⟨y, z, rfl, ry, rz⟩ := rds.two
    split at p
    · rename_i hk
      rw [Bool.and_eq_true, decide_eq_true_eq] at hk
      obtain ⟨kk, rfl, rfl⟩ := key_rd ry hk.1
      obtain ⟨u, u', rfl, ru, ru'⟩ := vals2 rxs
      cases rx
      refine d_setd I l ru ru' (by rw [← r.length]; exact hk.2) (fun w ew w' s' I' rw' => ?_) (fun en w' s' I' rw' => ?_)
      · cases eg : getK (kD kk) _ with
        | none => rw [(getK_rd kk r).2 eg] at ew; cases ew
        | some z' =>
          rw [eg] at p
          obtain ⟨w2, e2, r2⟩ := (getK_rd kk r).1 _ eg
          rw [ew] at e2
          cases e2
          exact ⟨_, H, I', rw', p.ok rh r2⟩
      · cases eg : getK (kD kk) _ with
        | some z' =>
          obtain ⟨w2, e2, r2⟩ := (getK_rd kk r).1 _ eg
          rw [en] at e2
          cases e2
        | none =>
          rw [eg] at p
          exact ⟨_, _, I', rw', post_put p rh ea l trivial (.dct upd_same ((putK_rd kk rz r).mono (Gr.put ea l trivial))) rz⟩
    · exact p.elim
  · exact p.elim
theorem mt_jn : MtR X "str.join" (rMt Z X W σ mJoin) := by
  intro pins s σ' H x xs v us Q I rx rxs q
  obtain ⟨ι, h, d, ds, rh, rd, rds, p⟩ := q
  unfold mJoin at p
  split at p
  · obtain ⟨y, rfl, ry⟩ := rds.one
    cases rd
    split at p
    · rename_i ys e
      obtain ⟨ds, e1, e2⟩ := Option.bind_eq_some_iff.mp e
      split at p
      · rename_i hz
        obtain ⟨a, zs, rfl, rs, sq⟩ := seqAt_sq rh e1 ry
        have ex := strs_rd rs e2
        subst ex
        exact mt_join pins s σ' H _ _ v us Q I rx rxs ⟨_, _, _, rfl, rfl, sq.elim (fun z => .inl z.1) fun z => .inr z.1, hz, p.ok rh (.str _)⟩
      · exact p.elim
    · exact p.elim
  · exact p.elim
theorem strs_rds {G : Gx} : ∀ ys : List Str, RDs G ι H (ys.map D.str) (ys.map V.str)
  | [] => .nil
  | y :: ys => .cons (.str y) (strs_rds ys)
theorem mt_spl : MtR X "str.split" (rMt Z X W σ mSplit) := by
  intro pins s σ' H x xs v us Q I rx rxs q
  obtain ⟨ι, h, d, ds, rh, rd, rds, p⟩ := q
  unfold mSplit at p
  split at p
  · obtain ⟨y, rfl, ry⟩ := rds.one
    cases ry
    cases rd
    split at p
    · rename_i hz
      exact mt_split pins s σ' H _ _ v us Q I rx rxs ⟨_, _, rfl, rfl, hz.1, hz.2, post_new rh p fun a n => .lst upd_same (strs_rds _)⟩
    · exact p.elim
  · exact p.elim
theorem mt_upp : MtR X "str.upper" (rMt Z X W σ mUpper) := by
  intro pins s σ' H x xs v us Q I rx rxs q
  obtain ⟨ι, h, d, ds, rh, rd, rds, p⟩ := q
  unfold mUpper at p
  split at p
  · cases rds
    cases rd
    split at p
    · rename_i hz
      exact mt_upper pins s σ' H _ _ v us Q I rx rxs ⟨_, rfl, rfl, hz, p.ok rh (.str _)⟩
    · exact p.elim
  · exact p.elim
end
end MP
namespace MP
open PySem PySem.Spec PyProof.Rows L2

/-! ### which text an expression stands for -/
/-- the program's own names -/
structure Tb where
  gl : List Str     -- constants, defs and classes as values
  fs : List Str     -- defs
  cs : List Str     -- classes
  er : List Str     -- classes of errors
  fns : List Str    -- fields
  ms : List Str     -- methods
  efs : List Str    -- fields of errors
  lam : Bool        -- whether a lambda may stand
  mkx : Bool        -- whether an error may be made as a value

def gloB (sc : Scope) (x : Str) : Bool := decide (sc.names.lookup x = some .globalImplicit)
def visB (sc : Scope) (x : Str) : Bool := match sc.names.lookup x with
  | some .local => true
  | some .cell => true
  | some .free => true
  | _ => false
def locB (sc : Scope) (x : Str) : Bool := match sc.names.lookup x with
  | some .local => true
  | some .cell => true
  | _ => false
def dbg (x : Str) : Bool := (x == ("__debug__" : Str)) || (x == ("__classdict__" : Str)) || decide (x = ("__name__" : Str))
def notStar : Expr → Bool
  | .Starred .. => false
  | _ => true
def notSlice : Expr → Bool
  | .Slice .. => false
  | _ => true
def attB : Expr → Bool
  | .Call (.Name id _) [] [] _ => id != "super"
  | _ => true
def biName : Bi → Str
  | .len => "len" | .int => "int" | .str => "str" | .repr => "repr" | .lst => "list" | .tup => "tuple" | .all => "all" | .any => "any" | .sum => "sum" | .min1 => "min" | .max1 => "max" | .min2 => "min" | .max2 => "max"
  | .sorted => "sorted" | .sset => "" | .lset => "" | .gcd => "" | .abs => "abs"
def biN : Bi → Nat
  | .min2 => 2 | .max2 => 2 | _ => 1
def biOk : Bi → Bool
  | .sset => false | .lset => false | .gcd => false | _ => true
def mtName : Mt → Str
  | .append => "append" | .extend => "extend" | .pop0 => "pop" | .pop1 => "pop" | .remove => "remove" | .index => "index" | .get1 => "get" | .get2 => "get" | .setdefault => "setdefault" | .update => "update"
  | .join => "join" | .split => "split" | .upper => "upper"
def mtN : Mt → Nat
  | .append => 1 | .extend => 1 | .pop0 => 0 | .pop1 => 1 | .remove => 1 | .index => 1 | .get1 => 1 | .get2 => 2 | .setdefault => 2 | .update => 1 | .join => 1 | .split => 1 | .upper => 0
def opOf : Bop → Operator
  | .add => .Add | .sub => .Sub | .mul => .Mult | .fdiv => .FloorDiv | .mod => .Mod | .pow => .Pow
/-- the right side of «is» -/
def isSide : Cop → Expr → Bool
  | .isN, .Constant .none _ _ => true
  | .ntN, .Constant .none _ _ => true
  | .isB b, .Constant (.bool k) _ _ => k == b
  | .ntB b, .Constant (.bool k) _ _ => k == b
  | .isN, _ => false
  | .ntN, _ => false
  | .isB _, _ => false
  | .ntB _, _ => false
  | _, _ => true
def tyName : Ty → Option Str
  | .int => some "int" | .bool => some "bool" | .str => some "str" | .tup => some "tuple" | .lst => some "list" | .cls _ => none
def fstEx : Expr → Bool
  | .Constant (.str _) _ _ => true
  | _ => false

/-- a target's name; fc: the names that may be stored through a cell -/
def tnB (N : List Str) (sc : Scope) (fc : Str → Bool) (i : Nat) : Expr → Bool
  | .Name x _ => decide (N[i]? = some x) && match sc.names.lookup x with
    | some .local => true
    | some .cell => fc x
    | _ => false
  | _ => false
def tnsB (N : List Str) (sc : Scope) (fc : Str → Bool) : List Nat → List Expr → Bool
  | [], [] => true
  | i :: is, e :: es => tnB N sc fc i e && tnsB N sc fc is es
  | _, _ => false
def tgB (N : List Str) (sc : Scope) (fc : Str → Bool) : Tg → Expr → Bool
  | .var i, e => tnB N sc fc i e
  | .tup is, .Tuple es _ _ => tnsB N sc fc is es
  | _, _ => false
def notSet : Expr → Bool
  | .Set .. => false
  | _ => true
def isTupT : Expr → Bool
  | .Tuple .. => true
  | _ => false

def lamPB : Arguments → Bool
  | ⟨[], [], none, [], [], none, []⟩ => true
  | _ => false
def neB : List Expr → Bool
  | [] => false
  | _ => true
def optsE : List (Option Expr) → Option (List Expr)
  | [] => some []
  | some e :: r => (optsE r).map (e :: ·)
  | none :: _ => none
def tyN (T : Tb) (sc : Scope) : Ty → Expr → Bool
  | .int, .Name x _ => decide (x = ("int" : Str)) && gloB sc x
  | .bool, .Name x _ => decide (x = ("bool" : Str)) && gloB sc x
  | .str, .Name x _ => decide (x = ("str" : Str)) && gloB sc x
  | .tup, .Name x _ => decide (x = ("tuple" : Str)) && gloB sc x
  | .lst, .Name x _ => decide (x = ("list" : Str)) && gloB sc x
  | .cls c, .Name x _ => decide (T.cs[c]? = some x) && gloB sc x && !dbg x
  | _, _ => false
def tyNs (T : Tb) (sc : Scope) : List Ty → List Expr → Bool
  | [], [] => true
  | t :: ts, e :: es => tyN T sc t e && tyNs T sc ts es
  | _, _ => false
def tyE (T : Tb) (sc : Scope) (ts : List Ty) : Expr → Bool
  | .Tuple es _ _ => tyNs T sc ts es && decide (ts.length ≤ 1000)
  | e => tyNs T sc ts [e]
def txN (T : Tb) (sc : Scope) : Option Nat → Expr → Bool
  | none, .Name x _ => decide (x = ("ValueError" : Str)) && gloB sc x
  | some j, .Name x _ => decide (T.er[j]? = some x) && gloB sc x && !dbg x
  | _, _ => false
def Tb.low (T : Tb) : Tb := { T with lam := false, mkx := false }
def dctB (ks : List (Option Expr)) (vs : List Expr) : Bool := decide (ks.length = vs.length) && decide (ks.length ≤ 15) && ks.all (·.isSome)
mutual
def chE (T : Tb) (N : List Str) (sc : Scope) : Ex → Expr → Bool
  | .non, .Constant .none _ _ => true
  | .bl b, .Constant (.bool k) _ _ => b == k
  | .int i, .Constant (.int j) _ _ => decide (i = j)
  | .str s, .Constant (.str z) _ _ => decide (s = z)
  | .var i, .Name x _ => decide (N[i]? = some x) && visB sc x && !dbg x
  | .glo g, .Name x _ => decide (T.gl[g]? = some x) && gloB sc x && !dbg x
  | .tup es, .Tuple l _ _ => chEs T N sc es l
  | .lst es, .List l _ => chEs T N sc es l
  | .dct ks vs, .Dict ks' vs' _ => (match optsE ks' with | some l => chEs T N sc ks l | none => false) && chEs T N sc vs vs' && dctB ks' vs'
  | .bin o a b, .BinOp a' o' b' _ => decide (o' = opOf o) && chE T N sc a a' && chE T N sc b b'
  | .neg a, .UnaryOp .USub a' _ => chE T N sc a a'
  | .not a, .UnaryOp .Not a' _ => chE T N sc a a'
  | .cmp o a b, .Compare a' [o'] [b'] _ => decide (o' = copOf o) && isSide o b' && !behindInMarks o' b' && chE T N sc a a' && chE T N sc b b'
  | .chn o o' a b d, .Compare a' [p, p'] [b', d'] _ => decide (p = copOf o) && decide (p' = copOf o') && isSide o b' && isSide o' d' && !lastMarks [p, p'] [b', d'] && chE T N sc a a' && chE T N sc b b' && chE T N sc d d'
  | .and es, .BoolOp .And l _ => neB l && chEs T N sc es l
  | .or es, .BoolOp .Or l _ => neB l && chEs T N sc es l
  | .ife t a b, .IfExp t' a' b' _ => chE T N sc t t' && chE T N sc a a' && chE T N sc b b'
  | .idx a b, .Subscript a' b' _ => notSlice b' && chE T N sc a a' && chE T N sc b b'
  | .slc a lo hi, .Subscript a' (.Slice lo' hi' none _) _ => chE T N sc a a' && chO T N sc lo lo' && chO T N sc hi hi'
  | .rev a, .Subscript a' (.Slice none none (some (.UnaryOp .USub (.Constant (.int 1) _ _) _)) _) _ => chE T N sc a a'
  | .att a f, .Attribute a' f' _ => decide (f = f') && decide (f ∈ T.fns) && attB a' && chE T N sc a a'
  | .bi b es, .Call (.Name x _) l [] _ => biOk b && decide (x = biName b) && decide (l.length = biN b) && gloB sc x && chEs T N sc es l
  | .mth m o es, .Call (.Attribute o' f apos) l [] pos => decide (f = mtName m) && decide (l.length = mtN m) && attB o' && (apos.endLine == pos.line) && chE T N sc o o' && chEs T N sc es l
  | .call g es, .Call (.Name x _) l [] _ => decide (T.fs[g]? = some x) && gloB sc x && !dbg x && chEs T N sc es l
  | .make k es, .Call (.Name x _) l [] _ => decide (T.cs[k]? = some x) && gloB sc x && !dbg x && chEs T N sc es l
  | .obj o f es, .Call (.Attribute o' f' apos) l [] pos => decide (f = f') && decide (l.length < 30) && attB o' && (apos.endLine == pos.line) && chE T N sc o o' && chEs T N sc es l
  | .isi a ts, .Call (.Name x _) [a', c'] [] _ => decide (x = ("isinstance" : Str)) && gloB sc x && notStar a' && notStar c' && tyE T sc ts c' && chE T N sc a a'
  | .cal i es, .Call (.Name x _) l [] _ => decide (N[i]? = some x) && visB sc x && !dbg x && chEs T N sc es l
  | .lcl g b, .Call (.Name x _) [.Lambda ps b' scope _] [] _ => T.lam && decide (T.fs[g]? = some x) && gloB sc x && !dbg x && lamPB ps && LamX.lamSB sc scope && chE T.low N scope b b'
  | .mke k es, .Call (.Name x _) l [] _ => T.mkx && decide (T.er[k]? = some x) && gloB sc x && !dbg x && chEs T N sc es l
  | .atx a f, .Attribute a' f' _ => decide (f = f') && decide (f ∈ T.efs) && attB a' && chE T N sc a a'
  | .isx a t, .Call (.Name x _) [a', c'] [] _ => decide (x = ("isinstance" : Str)) && gloB sc x && notStar a' && txN T sc t c' && chE T N sc a a'
  | .lc f t it cs, .ListComp f' [⟨t', it', cs', a⟩] scope _ => decide (a = 0) && blkC N sc scope ((tgVars t).filterMap fun i => (N[i]?).map fun x => (x, i)) && decide (((tgVars t).filterMap fun i => (N[i]?).map fun x => (x, i)).map (·.2) = tgVars t) &&
      decide (cs'.length ≤ 1) && notSet it' && tgB N (relS scope sc) (fun x => scope.names.lookup x == some .cell) t t' && chI T N sc (isTupT t') it it' && chEs T N (relS scope sc) cs cs' && chE T N (relS scope sc) f f'
  | _, _ => false
def chEs (T : Tb) (N : List Str) (sc : Scope) : Exs → List Expr → Bool
  | .nil, [] => true
  | .cons a es, a' :: l => notStar a' && chE T N sc a a' && chEs T N sc es l
  | _, _ => false
def chO (T : Tb) (N : List Str) (sc : Scope) : Ox → Option Expr → Bool
  | .no, none => true
  | .yes a, some a' => chE T N sc a a'
  | _, _ => false
/-- what is walked; tup: the target is written as a tuple -/
def chI (T : Tb) (N : List Str) (sc : Scope) (tup : Bool) : It → Expr → Bool
  | .ex a, e => chE T N sc a e
  | .rng1 a, .Call (.Name x _) [a'] [] _ => decide (x = ("range" : Str)) && gloB sc x && notStar a' && chE T N sc a a'
  | .rng2 a b, .Call (.Name x _) [a', b'] [] _ => decide (x = ("range" : Str)) && gloB sc x && notStar a' && notStar b' && chE T N sc a a' && chE T N sc b b'
  | .zip a b, .Call (.Name x _) [a', b'] [] _ => tup && decide (x = ("zip" : Str)) && gloB sc x && notStar a' && notStar b' && chE T N sc a a' && chE T N sc b b'
  | .enum a, .Call (.Name x _) [a'] [] _ => tup && decide (x = ("enumerate" : Str)) && gloB sc x && notStar a' && chE T N sc a a'
  | _, _ => false
end

/-! ### the readings -/
section
variable (Z : Wd) (X : Cx) (W : WX)
def trD (f : En → AH → Res D) : TE := fun σ H Q => ∃ ι e h, RH (Z.g X) ι h H ∧ RS (Z.g X) ι H e σ ∧ Post (RD (Z.g X)) W (Z.g X) ι σ H (f e h) Q
def relB (ι : List Addr) (H : Hp) (a b : Bool) : Prop := a = b
def trB (f : En → AH → Res Bool) : TT := fun σ H Q => ∃ ι e h, RH (Z.g X) ι h H ∧ RS (Z.g X) ι H e σ ∧ Post relB W (Z.g X) ι σ H (f e h) Q
def trA (f : En → AH → Res (List D)) : TA := fun σ H Q => ∃ ι e h, RH (Z.g X) ι h H ∧ RS (Z.g X) ι H e σ ∧ Post (RDs (Z.g X)) W (Z.g X) ι σ H (f e h) Q
def relO (ι : List Addr) (H : Hp) (a b : Option Int) : Prop := a = b
def trO (f : En → AH → Res (Option Int)) : TO := fun σ H Q => ∃ ι e h, RH (Z.g X) ι h H ∧ RS (Z.g X) ι H e σ ∧ Post relO W (Z.g X) ι σ H (f e h) Q
/-- how an iterator of the machine goes along with what is walked -/
structure RI (G : Gx) (ι₀ : List Addr) (H₀ : Hp) (I : Itr) (J : L2.It) : Prop where
  go : ∀ (ι : List Addr) (h : AH) (H : Hp) (i : Nat) (ds : List D) (d : D), Gr ι₀ H₀ ι H → RH G ι h H → I.rd h = some ds → ds[i]? = some d → J.go i H ∧ ∀ x H', J.yld i H x H' → RH G ι h H' ∧ Gr ι H ι H' ∧ RD G ι H' d x
  stop : ∀ (ι : List Addr) (h : AH) (H : Hp) (i : Nat) (ds : List D), Gr ι₀ H₀ ι H → RH G ι h H → I.rd h = some ds → ds[i]? = none → J.stop i H
def trI (f : En → AH → Res Itr) : TI := fun σ H Q => ∃ ι e h, RH (Z.g X) ι h H ∧ RS (Z.g X) ι H e σ ∧ Post (RI (Z.g X)) W (Z.g X) ι σ H (f e h) Q
/-- an expression's text does what its reading says, as a value and as a test -/
structure SS (s : Sx) (e : Expr) : Prop where
  pe : PE X e (trD Z X W s.v)
  pt : PT X e (trB Z X W s.t)
end
inductive SSs (Z : Wd) (X : Cx) (W : WX) : List Sx → List Expr → Prop
  | nil : SSs Z X W [] []
  | cons {s : Sx} {e : Expr} {ss : List Sx} {es : List Expr} : SS Z X W s e → notStar e = true → SSs Z X W ss es → SSs Z X W (s :: ss) (e :: es)
end MP
namespace MP
open PySem PySem.Spec PyProof.Rows L2

/-! ### what the text's form gives -/
theorem starEach_cons {e : Expr} {es : List Expr} {env : Env} (h : notStar e = true) : starEach (e :: es) env = (false, eval e env) :: starEach es env := by
  cases e <;> first | rfl | cases h
theorem plainIx_of {b : Expr} (h : notSlice b = true) : PlainIx b := by
  intro o i
  cases b <;> first | (with_unfolding_all rfl) | cases h
theorem att_of {e : Expr} {f : Str} {env : Env} (h : attB e = true) : attributeBase e f env (eval e env) = eval e env := by
  cases e with
  | Call c as kws p =>
    cases c with
    | Name id p' =>
      cases as with
      | nil =>
        cases kws with
        | nil =>
          have h : (id != "super") = true := h
          have h2 : (id == ("super" : Str)) = false := by
            rw [bne] at h
            exact Bool.not_eq_true' _ |>.mp h
          unfold attributeBase
          simp [h2]
          intro e
          subst e
          exact absurd h (by decide)
        | cons k ks => with_unfolding_all rfl
      | cons a as => with_unfolding_all rfl
    | _ => with_unfolding_all rfl
  | _ => with_unfolding_all rfl
def trB' : Expr → Bool
  | .BoolOp .. => false
  | .UnaryOp .Not _ _ => false
  | .Compare .. => false
  | .IfExp .. => false
  | .NamedExpr .. => false
  | _ => true
theorem truth_of {x : Expr} {env : Env} (h : trB' x = true) : ∀ whole, isTrue x env whole = (do let v ← whole; standAt x.pos; holding [v] (truthy v)) := by
  intro whole
  cases x <;> first | rfl | cases h | skip
  case UnaryOp op a p => cases op <;> first | rfl | cases h

theorem Res.assoc {α β γ : Type} (r : Res α) (f : α → AH → Res β) (g : β → AH → Res γ) : (r.bind f).bind g = r.bind fun a h => (f a h).bind g := by cases r <;> rfl
theorem Res.bind_ok {α : Type} (r : Res α) : (r.bind fun a h => .ok a h) = r := by cases r <;> rfl

structure Same (X Y : Cx) : Prop where
  prog : Y.prog = X.prog
  w : Y.w = X.w
  K : Y.K = X.K
  mg : Y.mg = X.mg
  base : Y.base = X.base

section
variable {Z : Wd} {k : Nat} {X : Cx} {W : WX}
variable {pins : List (Addr × Obj)} {s : Shared} {σ : L2.St} {H : Hp} {ι : List Addr} {h : AH} {en : En}

def CallS (Z : Wd) (X : Cx) (W : WX) (f : Value) (F : List D → AH → Res D) : Prop :=
  ∀ (pins : List (Addr × Obj)) (s : Shared) (σ : L2.St) (H : Hp) (ι : List Addr) (h : AH) (ds : List D) (xs : List V) (us : List Value) (Q : VK), Inv X pins σ H s → RH (Z.g X) ι h H → RDs (Z.g X) ι H ds xs → Vals xs us →
    Post (RD (Z.g X)) W (Z.g X) ι σ H (F ds h) Q → wpAny (model X.prog X.w) X.A (call f us) (EP X pins σ Q) X.xe s

/-- the type of a kind of values -/
inductive KdV (Z : Wd) : Kd → Value → Prop
  | non : KdV Z .non (.type "NoneType")
  | bool : KdV Z .bool (.type "bool")
  | int : KdV Z .int (.type "int")
  | str : KdV Z .str (.type "str")
  | tup : KdV Z .tup (.type "tuple")
  | lst : KdV Z .lst (.type "list")
  | dct : KdV Z .dct (.type "dict")
  | ins {c : Nat} {C : Addr} (h : Z.ca c = some C) : KdV Z (.ins c) (.ref C)
/-- what is asked for -/
inductive TyW (Z : Wd) : Ty → Value → Prop
  | int : TyW Z .int (.type "int")
  | bool : TyW Z .bool (.type "bool")
  | str : TyW Z .str (.type "str")
  | tup : TyW Z .tup (.type "tuple")
  | lst : TyW Z .lst (.type "list")
  | cls {c : Nat} {C : Addr} (h : Z.ca c = some C) : TyW Z (.cls c) (.ref C)
structure IsC (K : PySem.W.Frag) (C : Addr) : Prop where
  ha : PySem.W.findIn K (.ref C) "__class__" = some (some (.builtin "object.__class__"))
  hn : PySem.W.specialIn K (.builtin "object.__class__") "__get__" = some (some (.builtin "getset_descriptor.__get__"))
  htk : PySem.W.takesIn K (.builtin "object.__class__") = some true
  hm : PySem.W.mroIn K C (.type "object") = some true
/-- a class of errors that is asked for -/
inductive TxW (Z : Wd) : Option Nat → Value → Prop
  | ve : TxW Z none (.type "ValueError")
  | own {j : Nat} {C : Addr} (h : Z.ea j = some C) : TxW Z (some j) (.ref C)
/-- what isinstance asks of a class of errors -/
structure XkC (K : PySem.W.Frag) (C : Addr) : Prop where
  cl : (PySem.W.clsIn K C).isSome = true
  ga : PySem.W.findIn K (.ref C) "__getattribute__" = some (some (.builtin "BaseException.__getattribute__"))
  gt : PySem.W.findIn K (.ref C) "__getattr__" = some none
  sub : PySem.W.subIn K (.ref C) (.type "BaseException") = some true
  ha : PySem.W.findIn K (.ref C) "__class__" = some (some (.builtin "object.__class__"))
  hn : PySem.W.specialIn K (.builtin "object.__class__") "__get__" = some (some (.builtin "getset_descriptor.__get__"))
  htk : PySem.W.takesIn K (.builtin "object.__class__") = some true
  hm : PySem.W.mroIn K C (.type "object") = some true
/-- what a def's code object gives to its lambdas -/
def LamF (T : Tb) (Z : Wd) (X : Cx) : Prop := T.lam = true → ∃ c P, X.env.code = .ref c ∧ LamX.TabB X.base X.mg c P ∧ (P, X.env.qual ++ "<lambda>") ∈ Z.tt ∧ ∀ p ∈ Z.tt, p.1 = P → p.2 = X.env.qual ++ "<lambda>"
/-- a lambda's own context -/
structure LmX (Y : Cx) (scope : Scope) (Xl : Cx) : Prop where
  N : Xl.N = Y.N
  sc : Xl.env.scope = scope
  same : Same Y Xl
/-- what the code around is: its names, its defs, its classes -/
structure Lv (T : Tb) (Z : Wd) (c : Cg) (k : Nat) (X : Cx) : Prop where
  glo : ∀ g x d, T.gl[g]? = some x → c.glo g = some d → ∃ v u, X.mg x = some u ∧ RelV v u ∧ ∀ ι H, RD (Z.g X) ι H d v
  fn : ∀ g x, T.fs[g]? = some x → ∃ a, X.mg x = some (.ref a) ∧ Z.fa g = some a ∧ PySem.W.keepIn X.K (.ref a) = true
  cls : ∀ g x, T.cs[g]? = some x → ∃ a, X.mg x = some (.ref a) ∧ Z.ca g = some a ∧ PySem.W.keepIn X.K (.ref a) = true
  met : ∀ j C K f g, Z.ca j = some C → c.cls j = some K → K.meths.lookup f = some g → ∃ a, Meth X.K C f a ∧ Z.fa g = some a
  cal : ∀ Y V, Same X Y → Good Z k Y V → ∀ g a, Z.fa g = some a → CallS Z Y V (.ref a) (c.call g)
  mak : ∀ Y V, Same X Y → Good Z k Y V → ∀ g a, Z.ca g = some a → CallS Z Y V (.ref a) (c.make g)
  fns : ∀ f ∈ T.fns, f ∈ Z.fns
  ecl : ∀ g x, T.er[g]? = some x → ∃ a, X.mg x = some (.ref a) ∧ Z.ea g = some a
  xfc : ∀ j C f, Z.ea j = some C → f ∈ T.efs → XfC X.K C ∧ PySem.W.findIn X.K (.ref C) f = some none
  exm : ∀ j C j' C', Z.ea j = some C → Z.ea j' = some C' → PySem.W.exmOne X.K (.ref C) (.ref C') = some (decide (j' = j ∨ j' ∈ ((c.ers j).map (·.up)).getD []))
  isk : ∀ (kd : Kd) (ty : Ty) (t u : Value), KdV Z kd t → TyW Z ty u → PySem.W.kitOne X.K t u = some (isTy kd ty)
  isc : ∀ c C, Z.ca c = some C → IsC X.K C
  fnk : ∀ g a, Z.fa g = some a → PySem.W.keepIn X.K (.ref a) = true
  ok : Z.ok X.K X.mg X.base
  lam : LamF T Z X
  lcl : T.lam = true → ∀ Y V, Same X Y → LamF T Z Y → Good Z k Y V → ∀ (g : Nat) (x : Str) (pn pos lp : Pos) (b : Expr) (scope : Scope) (bf : En → AH → Res D), T.fs[g]? = some x → Gl Y x → (x == ("__debug__" : Str)) = false → LamX.LamS Y.env.scope scope →
    (∀ Xl W', LmX Y scope Xl → Good Z (k - 4) Xl W' → PE Xl b (trD Z Xl W' bf)) → PE Y (.Call (.Name x pn) [.Lambda ⟨[], [], none, [], [], none, []⟩ b scope lp] [] pos) (trD Z Y V fun e h => c.lcl g (fun h => bf e h) h)
  mke : T.mkx = true → ∀ Y V, Same X Y → Good Z k Y V → ∀ (j : Nat) (x : Str) (l : List Expr) (ss : List Sx) (p pos : Pos), T.er[j]? = some x → Gl Y x → (x == ("__debug__" : Str)) = false → SSs Z Y V ss l →
    PE Y (.Call (.Name x p) l [] pos) (trD Z Y V fun e h => (seqE ss e h).bind fun ds h => mkeD c j ds h)
  xis : ∀ (j : Nat) (C : Addr) (t : Option Nat) (u : Value), Z.ea j = some C → TxW Z t u → PySem.W.kitOne X.K (.ref C) u = some (isxB (c.ups j) j t)
  xkc : ∀ j C, Z.ea j = some C → XkC X.K C
/-- .. and what is so two levels lower, for a lambda's body -/
structure LvE (T : Tb) (Z : Wd) (c : Cg) (k : Nat) (X : Cx) : Prop extends Lv T Z c k X where
  lower : T.lam = true → ∀ Xl, Z.ok Xl.K Xl.mg Xl.base → Lv T.low Z c.low (k - 4) Xl

/-! ### steps -/
theorem ofOpt_bind {α β β' : Type} {rel : List Addr → Hp → α → β' → Prop} {G : Gx} {o : Option β} {f : β → AH → Res α} {Q : β' → Hp → Prop} (p : Post rel W G ι σ H ((ofOpt o h).bind f) Q) : ∃ b, o = some b ∧ Post rel W G ι σ H (f b h) Q := by
  cases o with
  | none => exact p.elim
  | some b => exact ⟨b, rfl, p⟩
variable {t : Sx} {e : Expr} {ss : List Sx} {es : List Expr} {pos : Pos}
theorem SS.run (ss : SS Z X W t e) {Q : VK} (I : Inv X pins σ H s) (rh : RH (Z.g X) ι h H) (rs : RS (Z.g X) ι H en σ) (p : Post (RD (Z.g X)) W (Z.g X) ι σ H (t.v en h) Q) : wpAny (model X.prog X.w) X.A (eval e X.env) (EP X pins σ Q) X.xe s :=
  ss.pe.run pins s σ H Q I ⟨ι, en, h, rh, rs, p⟩
theorem SS.runT (ss : SS Z X W t e) {Q : Bool → Hp → Prop} (I : Inv X pins σ H s) (rh : RH (Z.g X) ι h H) (rs : RS (Z.g X) ι H en σ) (p : Post relB W (Z.g X) ι σ H (t.t en h) Q) : wpAny (model X.prog X.w) X.A (isTrue e X.env (eval e X.env)) (TP X pins σ Q) X.xe s :=
  ss.pt.run pins s σ H Q I ⟨ι, en, h, rh, rs, p⟩
theorem SS.bind {α β : Type} {rel : List Addr → Hp → α → β → Prop} {f : D → AH → Res α} {Q : β → Hp → Prop} (ss : SS Z X W t e) (I : Inv X pins σ H s) (rh : RH (Z.g X) ι h H) (rs : RS (Z.g X) ι H en σ) (p : Post rel W (Z.g X) ι σ H ((t.v en h).bind f) Q) :
    wpAny (model X.prog X.w) X.A (eval e X.env) (fun v s1 => ∃ ι1 H1 h1 d x, Inv X pins σ H1 s1 ∧ RH (Z.g X) ι1 h1 H1 ∧ RS (Z.g X) ι1 H1 en σ ∧ RelV x v ∧ RD (Z.g X) ι1 H1 d x ∧ Gr ι H ι1 H1 ∧ Post rel W (Z.g X) ι1 σ H1 (f d h1) Q) X.xe s :=
  thn (ss.run I rh rs (Post.bind _ p)) fun v s1 ⟨x, H1, I1, rx, ι1, d, h1, g1, rh1, rd, p1⟩ => ⟨ι1, H1, h1, d, x, I1, rh1, rs.mono g1, rx, rd, g1, p1⟩
theorem SS.bindT {α β : Type} {rel : List Addr → Hp → α → β → Prop} {f : Bool → AH → Res α} {Q : β → Hp → Prop} (ss : SS Z X W t e) (I : Inv X pins σ H s) (rh : RH (Z.g X) ι h H) (rs : RS (Z.g X) ι H en σ) (p : Post rel W (Z.g X) ι σ H ((t.t en h).bind f) Q) :
    wpAny (model X.prog X.w) X.A (isTrue e X.env (eval e X.env)) (fun b s1 => ∃ ι1 H1 h1, Inv X pins σ H1 s1 ∧ RH (Z.g X) ι1 h1 H1 ∧ RS (Z.g X) ι1 H1 en σ ∧ Gr ι H ι1 H1 ∧ Post rel W (Z.g X) ι1 σ H1 (f b h1) Q) X.xe s :=
  thn (ss.runT I rh rs (Post.bind relB p)) fun v s1 ⟨H1, I1, ι1, d, h1, g1, rh1, rd, p1⟩ => by
    cases (show d = v from rd)
    exact ⟨ι1, H1, h1, I1, rh1, rs.mono g1, g1, p1⟩

/-- a value's truth -/
theorem tru_of {d : D} {x : V} {v : Value} {b : Bool} (I : Inv X pins σ H s) (rh : RH (Z.g X) ι h H) (rd : RD (Z.g X) ι H d x) (rx : RelV x v) (e : truD h d = some b) {Q : Bool → Hp → Prop} (q : Q b H) : wpAny (model X.prog X.w) X.A (truthy v) (TP X pins σ Q) X.xe s :=
  tru_ok pins s σ H x v Q I rx ⟨b, truD_ok rh rd e, q⟩
theorem SS.of {v : En → AH → Res D} (hp : PE X e (trD Z X W v)) (ht : trB' e = true) : SS Z X W (Sx.of v) e := by
  refine ⟨hp, ⟨fun pins s σ H Q I hw => ?_⟩⟩
  obtain ⟨ι, en, h, rh, rs, p⟩ := hw
  have p : Post relB W (Z.g X) ι σ H ((v en h).bind fun x h => ofOpt (truD h x) h) Q := p
  refine isTrue_plain (thn (hp.run pins s σ H _ I ⟨ι, en, h, rh, rs, Post.bind (RD (Z.g X)) p⟩) fun u s1 ⟨x, H1, I1, rx, ι1, d, h1, g1, rh1, rd, p1⟩ => ?_) (truth_of ht _)
  obtain ⟨b, eb, p1⟩ := ofOpt_ok p1
  exact tru_of I1 rh1 rd rx eb (p1.ok rh1 rfl)

/-- argument lists -/
theorem SSs.run (r : SSs Z X W ss es) : ∀ {pins : List (Addr × Obj)} {s : Shared} {H : Hp} {ι : List Addr} {h : AH} {Q : List V → Hp → Prop}, Inv X pins σ H s → RH (Z.g X) ι h H → RS (Z.g X) ι H en σ → Post (RDs (Z.g X)) W (Z.g X) ι σ H (seqE ss en h) Q →
    wpAny (model X.prog X.w) X.A (spliced (backTo pos (starEach es X.env))) (AP X pins σ Q) X.xe s := by
  induction r with
  | nil => exact fun {pins s H ι h Q} I rh rs p => Calls.spliced_nil ⟨[], H, I, .nil, p.ok rh .nil⟩
  | cons hs hn hr ih =>
    intro pins s H ι h Q I rh rs p
    rw [starEach_cons hn]
    show wpAny _ _ (spliced ((false, eval _ X.env) :: backTo pos (starEach _ X.env))) _ _ s
    refine Calls.spliced_cons (thn (hs.bind I rh rs p) fun u s1 ⟨ι1, H1, h1, d, x, I1, rh1, rs1, rx, rd, g1, p1⟩ => ?_)
    exact thn (ih I1 rh1 rs1 (Post.bind (RDs (Z.g X)) p1)) fun us s2 ⟨xs, H2, I2, rxs, ι2, ds, h2, g2, rh2, rds, p2⟩ => ⟨x :: xs, H2, I2, .cons rx rxs, p2.ok rh2 (.cons (rd.mono g2) rds)⟩
theorem SSs.bind {α β : Type} {rel : List Addr → Hp → α → β → Prop} {f : List D → AH → Res α} {Q : β → Hp → Prop} (r : SSs Z X W ss es) (I : Inv X pins σ H s) (rh : RH (Z.g X) ι h H) (rs : RS (Z.g X) ι H en σ) (p : Post rel W (Z.g X) ι σ H ((seqE ss en h).bind f) Q) :
    wpAny (model X.prog X.w) X.A (spliced (backTo pos (starEach es X.env))) (fun us s1 => ∃ ι1 H1 h1 ds xs, Inv X pins σ H1 s1 ∧ RH (Z.g X) ι1 h1 H1 ∧ RS (Z.g X) ι1 H1 en σ ∧ Vals xs us ∧ RDs (Z.g X) ι1 H1 ds xs ∧ Gr ι H ι1 H1 ∧ Post rel W (Z.g X) ι1 σ H1 (f ds h1) Q) X.xe s :=
  thn (r.run I rh rs (Post.bind _ p)) fun us s1 ⟨xs, H1, I1, rxs, ι1, ds, h1, g1, rh1, rds, p1⟩ => ⟨ι1, H1, h1, ds, xs, I1, rh1, rs.mono g1, rxs, rds, g1, p1⟩
theorem SSs.pa (r : SSs Z X W ss es) : PA X es (trA Z X W (seqE ss)) := ⟨fun pos pins s σ H Q I ⟨ι, en, h, rh, rs, p⟩ => r.run I rh rs p⟩
theorem SSs.few (r : SSs Z X W ss es) : (backTo pos (starEach es X.env)).any (·.1) = false := by
  induction r with
  | nil => rfl
  | cons hs hn hr ih =>
    rw [starEach_cons hn]
    show (false || (backTo pos (starEach _ X.env)).any (·.1)) = false
    rw [ih]
    rfl
theorem SSs.few2 (r : SSs Z X W ss es) : (backTo pos (starEach es X.env)).all (fun x => !x.1) = true := by
  induction r with
  | nil => rfl
  | cons hs hn hr ih =>
    rw [starEach_cons hn]
    show (true && (backTo pos (starEach _ X.env)).all (fun x => !x.1)) = true
    rw [ih]
    rfl

/-! ### and, or -/
theorem and_pe (r : SSs Z X W ss es) (ne : es ≠ []) : PE X (.BoolOp .And es pos) (trD Z X W (andE ss)) := by
  refine ⟨fun pins s σ H Q I hw => ?_⟩
  obtain ⟨ι, en, h, rh, rs, p⟩ := hw
  induction r generalizing pins s H ι h with
  | nil => exact absurd rfl ne
  | cons hs hn hr ih =>
    cases hr with
    | nil => exact BoolOp_one (hs.run I rh rs p)
    | cons hs' hn' hr' =>
      refine BoolOp_and (thn (hs.bind I rh rs p) fun v s1 ⟨ι1, H1, h1, d, x, I1, rh1, rs1, rx, rd, g1, p1⟩ => ?_)
      obtain ⟨b, eb, p1⟩ := ofOpt_bind p1
      refine thn (tru_of (Q := fun b' H' => b' = b ∧ H' = H1) I1 rh1 rd rx eb ⟨rfl, rfl⟩) fun b' s2 ⟨H2, I2, e1, e2⟩ => ?_
      subst e1 e2
      cases b' with
      | true => exact ih (by simp) pins s2 H2 I2 ι1 h1 rh1 rs1 p1
      | false => exact ⟨x, H2, I2, rx, p1.ok rh1 rd⟩
theorem or_pe (r : SSs Z X W ss es) (ne : es ≠ []) : PE X (.BoolOp .Or es pos) (trD Z X W (orE ss)) := by
  refine ⟨fun pins s σ H Q I hw => ?_⟩
  obtain ⟨ι, en, h, rh, rs, p⟩ := hw
  induction r generalizing pins s H ι h with
  | nil => exact absurd rfl ne
  | cons hs hn hr ih =>
    cases hr with
    | nil => exact BoolOp_one (hs.run I rh rs p)
    | cons hs' hn' hr' =>
      refine BoolOp_or (thn (hs.bind I rh rs p) fun v s1 ⟨ι1, H1, h1, d, x, I1, rh1, rs1, rx, rd, g1, p1⟩ => ?_)
      obtain ⟨b, eb, p1⟩ := ofOpt_bind p1
      refine thn (tru_of (Q := fun b' H' => b' = b ∧ H' = H1) I1 rh1 rd rx eb ⟨rfl, rfl⟩) fun b' s2 ⟨H2, I2, e1, e2⟩ => ?_
      subst e1 e2
      cases b' with
      | false => exact ih (by simp) pins s2 H2 I2 ι1 h1 rh1 rs1 p1
      | true => exact ⟨x, H2, I2, rx, p1.ok rh1 rd⟩
theorem and_pt (r : SSs Z X W ss es) (ne : es ≠ []) : PW X (.BoolOp .And es pos) (trB Z X W (andT ss)) := by
  refine ⟨fun wh pins s σ H Q I hw => ?_⟩
  obtain ⟨ι, en, h, rh, rs, p⟩ := hw
  induction r generalizing pins s H ι h with
  | nil => exact absurd rfl ne
  | cons hs hn hr ih =>
    cases hr with
    | nil =>
      refine isTrue_and (thn (hs.runT I rh rs p) fun b s1 e => ?_)
      cases b with
      | true => exact isTrue_and_nil e
      | false => exact e
    | cons hs' hn' hr' =>
      refine isTrue_and (thn (hs.bindT I rh rs p) fun b s1 ⟨ι1, H1, h1, I1, rh1, rs1, g1, p1⟩ => ?_)
      cases b with
      | true => exact ih (by simp) pins s1 H1 I1 ι1 h1 rh1 rs1 p1
      | false => exact ⟨H1, I1, p1.ok rh1 rfl⟩
theorem or_pt (r : SSs Z X W ss es) (ne : es ≠ []) : PW X (.BoolOp .Or es pos) (trB Z X W (orT ss)) := by
  refine ⟨fun wh pins s σ H Q I hw => ?_⟩
  obtain ⟨ι, en, h, rh, rs, p⟩ := hw
  induction r generalizing pins s H ι h with
  | nil => exact absurd rfl ne
  | cons hs hn hr ih =>
    cases hr with
    | nil =>
      refine isTrue_or (thn (hs.runT I rh rs p) fun b s1 e => ?_)
      cases b with
      | false => exact isTrue_or_nil e
      | true => exact e
    | cons hs' hn' hr' =>
      refine isTrue_or (thn (hs.bindT I rh rs p) fun b s1 ⟨ι1, H1, h1, I1, rh1, rs1, g1, p1⟩ => ?_)
      cases b with
      | false => exact ih (by simp) pins s1 H1 I1 ι1 h1 rh1 rs1 p1
      | true => exact ⟨H1, I1, p1.ok rh1 rfl⟩

/-! ### comparisons -/
/-- what the sides of «is» are -/
def SideV (o : Cop) (y : V) : Prop := (o = .isN ∨ o = .ntN → y = .non) ∧ ∀ k, o = .isB k ∨ o = .ntB k → y = .bl k
/-- a comparison of two values -/
theorem cmp_vals (g : Good Z k X W) {α β : Type} {rel : List Addr → Hp → α → β → Prop} {o : Cop} {a b : D} {x y : V} {v u : Value} {f : D → AH → Res α} {Q : β → Hp → Prop} (I : Inv X pins σ H s) (rh : RH (Z.g X) ι h H) (ra : RD (Z.g X) ι H a x) (rb : RD (Z.g X) ι H b y)
    (rx : RelV x v) (ry : RelV y u) (sd : SideV o y) (p : Post rel W (Z.g X) ι σ H ((cmpD o a b h).bind f) Q) :
    wpAny (model X.prog X.w) X.A (compareOp (copOf o) v u) (fun c s1 => ∃ k, c = .bool k ∧ Inv X pins σ H s1 ∧ Post rel W (Z.g X) ι σ H (f (.bl k) h) Q) X.xe s := by
  unfold cmpD at p
  cases e : cmpB o a b h with
  | none => rw [e] at p; exact p.elim
  | some c =>
    rw [e] at p
    refine thn (cmpS g o (fun _ => trivial) pins s σ H ι h a b x y v u (fun z H' => z = .bl c ∧ H' = H) c I rh ra rb rx ry sd.1 sd.2 e ⟨rfl, rfl⟩) fun w s1 ⟨z, H1, I1, rz, e1, e2⟩ => ?_
    subst e1 e2
    cases rz
    exact ⟨c, rfl, I1, p⟩
/-- a right side, its value known to fit -/
structure Side (Z : Wd) (X : Cx) (W : WX) (o : Cop) (t : Sx) (e : Expr) : Prop where
  run : ∀ {α β : Type} {rel : List Addr → Hp → α → β → Prop} {f : D → AH → Res α} {Q : β → Hp → Prop} {pins : List (Addr × Obj)} {s : Shared} {σ : L2.St} {H : Hp} {ι : List Addr} {h : AH} {en : En}, Inv X pins σ H s → RH (Z.g X) ι h H → RS (Z.g X) ι H en σ → Post rel W (Z.g X) ι σ H ((t.v en h).bind f) Q →
    wpAny (model X.prog X.w) X.A (eval e X.env) (fun v s1 => ∃ ι1 H1 h1 d x, Inv X pins σ H1 s1 ∧ RH (Z.g X) ι1 h1 H1 ∧ RS (Z.g X) ι1 H1 en σ ∧ RelV x v ∧ RD (Z.g X) ι1 H1 d x ∧ Gr ι H ι1 H1 ∧ SideV o x ∧ Post rel W (Z.g X) ι1 σ H1 (f d h1) Q) X.xe s
theorem side_plain {o : Cop} (ss : SS Z X W t e) (n1 : o ≠ .isN) (n2 : o ≠ .ntN) (n3 : ∀ k, o ≠ .isB k) (n4 : ∀ k, o ≠ .ntB k) : Side Z X W o t e :=
  ⟨fun {α β rel f Q pins s σ H ι h en} I rh rs p => thn (ss.bind I rh rs p) fun v s1 ⟨ι1, H1, h1, d, x, I1, rh1, rs1, rx, rd, g1, p1⟩ => ⟨ι1, H1, h1, d, x, I1, rh1, rs1, rx, rd, g1,
    ⟨fun z => z.elim (fun z => absurd z n1) fun z => absurd z n2, fun k z => z.elim (fun z => absurd z (n3 k)) fun z => absurd z (n4 k)⟩, p1⟩⟩
theorem side_non {o : Cop} {j : Nat} (n3 : ∀ k, o ≠ .isB k) (n4 : ∀ k, o ≠ .ntB k) : Side Z X W o (Sx.of fun _ h => .ok .non h) (.Constant .none j pos) :=
  ⟨fun {α β rel f Q pins s σ H ι h en} I rh rs p => Constant_none ⟨ι, H, h, .non, .non, I, rh, rs, rfl, .non, Gr.refl _ _, ⟨fun _ => rfl, fun k z => z.elim (fun z => absurd z (n3 k)) fun z => absurd z (n4 k)⟩, p⟩⟩
theorem side_bl {o : Cop} {j : Nat} {b : Bool} (n1 : o ≠ .isN) (n2 : o ≠ .ntN) (n3 : ∀ k, o = .isB k ∨ o = .ntB k → k = b) : Side Z X W o (Sx.of fun _ h => .ok (.bl b) h) (.Constant (.bool b) j pos) :=
  ⟨fun {α β rel f Q pins s σ H ι h en} I rh rs p => Constant_bool ⟨ι, H, h, .bl b, .bl b, I, rh, rs, rfl, .bl b, Gr.refl _ _, ⟨fun z => z.elim (fun z => absurd z n1) fun z => absurd z n2, fun k z => by rw [n3 k z]⟩, p⟩⟩
variable {a b d : Expr} {ta tb td : Sx} {o o' : Cop}
theorem cmp_road (g : Good Z k X W) (ha : SS Z X W ta a) (hb : Side Z X W o tb b) {α β : Type} {rel : List Addr → Hp → α → β → Prop} {f : D → AH → Res α} {Q : β → Hp → Prop} (I : Inv X pins σ H s) (rh : RH (Z.g X) ι h H) (rs : RS (Z.g X) ι H en σ)
    (p : Post rel W (Z.g X) ι σ H ((ta.v en h).bind fun x h => (tb.v en h).bind fun y h => (cmpD o x y h).bind f) Q) :
    wpAny (model X.prog X.w) X.A (eval a X.env) (fun v s1 => wpAny (model X.prog X.w) X.A (eval b X.env) (fun u s2 => wpAny (model X.prog X.w) X.A (compareOp (copOf o) v u)
      (fun c s3 => ∃ k ι1 H1 h1, c = .bool k ∧ Inv X pins σ H1 s3 ∧ RH (Z.g X) ι1 h1 H1 ∧ Post rel W (Z.g X) ι1 σ H1 (f (.bl k) h1) Q) X.xe s2) X.xe s1) X.xe s := by
  refine thn (ha.bind I rh rs p) fun v s1 ⟨ι1, H1, h1, d, x, I1, rh1, rs1, rx, rd, g1, p1⟩ => ?_
  refine thn (hb.run I1 rh1 rs1 p1) fun u s2 ⟨ι2, H2, h2, d2, y, I2, rh2, rs2, ry, rd2, g2, sd, p2⟩ => ?_
  exact thn (cmp_vals g I2 rh2 (rd.mono g2) rd2 rx ry sd p2) fun c s3 ⟨k, e, I3, p3⟩ => ⟨k, ι2, H2, h2, e, I3, rh2, p3⟩
theorem cmp_ss (g : Good Z k X W) (ha : SS Z X W ta a) (hb : Side Z X W o tb b) (hm : behindInMarks (copOf o) b = false) : SS Z X W (.cmp fun e h => (ta.v e h).bind fun x h => (tb.v e h).bind fun y h => cmpD o x y h) (.Compare a [copOf o] [b] pos) := by
  refine ⟨⟨fun pins s σ H Q I hw => ?_⟩, ⟨fun pins s σ H Q I hw => ?_⟩⟩
  · obtain ⟨ι, en, h, rh, rs, p⟩ := hw
    have p : Post (RD (Z.g X)) W (Z.g X) ι σ H ((ta.v en h).bind fun x h => (tb.v en h).bind fun y h => (cmpD o x y h).bind fun d h => .ok d h) Q := by
      simp only [Res.bind_ok]
      exact p
    refine wpAny_Compare1 (thn (cmp_road g ha hb I rh rs p) fun v s1 h1 => thn h1 fun u s2 h2 => thn h2 fun c s3 ⟨k, ι1, H1, h1, e, I1, rh1, p1⟩ => ?_) hm
    subst e
    exact ⟨.bl k, H1, I1, rfl, p1.ok rh1 (.bl k)⟩
  · obtain ⟨ι, en, h, rh, rs, p⟩ := hw
    have p : Post relB W (Z.g X) ι σ H (asB ((ta.v en h).bind fun x h => (tb.v en h).bind fun y h => cmpD o x y h)) Q := p
    unfold asB at p
    rw [Res.assoc] at p
    simp only [Res.assoc] at p
    refine wpAny_isTrue_Compare1 (thn (cmp_road g ha hb I rh rs p) fun v s1 h1 => thn h1 fun u s2 h2 => thn h2 fun c s3 ⟨k, ι1, H1, h1, e, I1, rh1, p1⟩ => ?_) hm
    subst e
    exact wpAny_truthy_bool ⟨H1, I1, p1.ok rh1 rfl⟩
theorem chn_ss (g : Good Z k X W) (ha : SS Z X W ta a) (hb : Side Z X W o tb b) (hd : Side Z X W o' td d) (hm : lastMarks [copOf o, copOf o'] [b, d] = false) :
    SS Z X W (.cmp fun e h => (ta.v e h).bind fun x h => (tb.v e h).bind fun y h => (asB (cmpD o x y h)).bind fun k h => if k = true then (td.v e h).bind fun z h => cmpD o' y z h else .ok (.bl false) h)
      (.Compare a [copOf o, copOf o'] [b, d] pos) := by
  have step : ∀ {α β : Type} {rel : List Addr → Hp → α → β → Prop} {f : D → AH → Res α} {Q : β → Hp → Prop} {pins : List (Addr × Obj)} {s : Shared} {σ : L2.St} {H : Hp} {ι : List Addr} {h : AH} {en : En}, Inv X pins σ H s → RH (Z.g X) ι h H → RS (Z.g X) ι H en σ →
      Post rel W (Z.g X) ι σ H (((ta.v en h).bind fun x h => (tb.v en h).bind fun y h => (asB (cmpD o x y h)).bind fun k h => if k = true then (td.v en h).bind fun z h => cmpD o' y z h else .ok (.bl false) h).bind f) Q →
      wpAny (model X.prog X.w) X.A (eval a X.env) (fun v s1 => wpAny (model X.prog X.w) X.A (eval b X.env) (fun u s2 => wpAny (model X.prog X.w) X.A (compareOp (copOf o) v u)
        (fun c s3 => ∃ k, c = .bool k ∧ if k = true then wpAny (model X.prog X.w) X.A (eval d X.env) (fun w' s4 => wpAny (model X.prog X.w) X.A (compareOp (copOf o') u w')
          (fun c s5 => ∃ k ι1 H1 h1, c = .bool k ∧ Inv X pins σ H1 s5 ∧ RH (Z.g X) ι1 h1 H1 ∧ Post rel W (Z.g X) ι1 σ H1 (f (.bl k) h1) Q) X.xe s4) X.xe s3
          else ∃ ι1 H1 h1, Inv X pins σ H1 s3 ∧ RH (Z.g X) ι1 h1 H1 ∧ Post rel W (Z.g X) ι1 σ H1 (f (.bl false) h1) Q) X.xe s2) X.xe s1) X.xe s := by
    intro α β rel f Q pins s σ H ι h en I rh rs p
    rw [Res.assoc] at p
    refine thn (ha.bind I rh rs p) fun v s1 ⟨ι1, H1, h1, d1, x, I1, rh1, rs1, rx, rd, g1, p1⟩ => ?_
    rw [Res.assoc] at p1
    refine thn (hb.run I1 rh1 rs1 p1) fun u s2 ⟨ι2, H2, h2, d2, y, I2, rh2, rs2, ry, rd2, g2, sd, p2⟩ => ?_
    unfold asB at p2
    rw [Res.assoc, Res.assoc] at p2
    refine thn (cmp_vals g I2 rh2 (rd.mono g2) rd2 rx ry sd p2) fun c s3 ⟨k, e, I3, p3⟩ => ?_
    subst e
    refine ⟨k, rfl, ?_⟩
    cases k with
    | false => exact ⟨ι2, H2, h2, I3, rh2, p3⟩
    | true =>
      have p3 : Post rel W (Z.g X) ι2 σ H2 (((td.v en h2).bind fun z h => cmpD o' d2 z h).bind f) Q := p3
      rw [Res.assoc] at p3
      show wpAny _ _ _ _ _ _
      refine thn (hd.run I3 rh2 rs2 p3) fun u' s4 ⟨ι4, H4, h4, d4, z, I4, rh4, rs4, rz, rd4, g4, sd4, p4⟩ => ?_
      exact thn (cmp_vals g I4 rh4 (rd2.mono g4) rd4 ry rz sd4 p4) fun c s5 ⟨k, e, I5, p5⟩ => ⟨k, ι4, H4, h4, e, I5, rh4, p5⟩
  refine ⟨⟨fun pins s σ H Q I hw => ?_⟩, ⟨fun pins s σ H Q I hw => ?_⟩⟩
  · obtain ⟨ι, en, h, rh, rs, p⟩ := hw
    have p := step I rh rs (Eq.mpr (by rw [Res.bind_ok]; rfl) p : Post (RD (Z.g X)) W (Z.g X) ι σ H (((ta.v en h).bind fun x h => (tb.v en h).bind fun y h => (asB (cmpD o x y h)).bind fun k h => if k = true then (td.v en h).bind fun z h => cmpD o' y z h else .ok (.bl false) h).bind fun d h => .ok d h) Q)
    refine Compare_chain (thn p fun v s1 h1 => chain_link (thn h1 fun u s2 h2 => thn h2 fun c s3 ⟨k, e, h3⟩ => ?_)) hm
    subst e
    refine wpAny_truthy_bool ?_
    cases k with
    | false =>
      obtain ⟨ι1, H1, h1, I1, rh1, p1⟩ := h3
      exact ite_ff ⟨.bl false, H1, I1, rfl, p1.ok rh1 (.bl false)⟩
    | true =>
      refine ite_tt (chain_last (thn h3 fun w' s4 h4 => thn h4 fun c s5 ⟨k, ι1, H1, h1, e, I1, rh1, p1⟩ => ?_))
      subst e
      exact ⟨.bl k, H1, I1, rfl, p1.ok rh1 (.bl k)⟩
  · obtain ⟨ι, en, h, rh, rs, p⟩ := hw
    have p := step I rh rs p
    refine isTrue_chain (thn p fun v s1 h1 => test_link (thn h1 fun u s2 h2 => thn h2 fun c s3 ⟨k, e, h3⟩ => ?_)) hm
    subst e
    refine wpAny_truthy_bool ?_
    cases k with
    | false =>
      obtain ⟨ι1, H1, h1, I1, rh1, p1⟩ := h3
      exact ite_ff ⟨H1, I1, p1.ok rh1 rfl⟩
    | true =>
      refine ite_tt (test_last (thn h3 fun w' s4 h4 => thn h4 fun c s5 ⟨k, ι1, H1, h1, e, I1, rh1, p1⟩ => ?_))
      subst e
      exact wpAny_truthy_bool ⟨H1, I1, p1.ok rh1 rfl⟩

/-! ### operators, not, if -/
theorem bin_pe (g : Good Z k X W) {o : Bop} (ha : SS Z X W ta a) (hb : SS Z X W tb b) : PE X (.BinOp a (opOf o) b pos) (trD Z X W fun e h => (ta.v e h).bind fun x h => (tb.v e h).bind fun y h => binD o x y h) := by
  refine ⟨fun pins s σ H Q I hw => ?_⟩
  obtain ⟨ι, en, h, rh, rs, p⟩ := hw
  refine wpAny_BinOp (thn (ha.bind I rh rs p) fun v s1 ⟨ι1, H1, h1, d1, x, I1, rh1, rs1, rx, rd, g1, p1⟩ => thn (hb.bind I1 rh1 rs1 p1) fun u s2 ⟨ι2, H2, h2, d2, y, I2, rh2, rs2, ry, rd2, g2, p2⟩ => ?_)
  have := binS g o pins s2 σ H2 ι2 h2 d1 d2 x y v u Q I2 rh2 (rd.mono g2) rd2 rx ry p2
  cases o <;> exact this
theorem neg_pe (ha : SS Z X W ta a) : PE X (.UnaryOp .USub a pos) (trD Z X W fun e h => (ta.v e h).bind negD) := by
  refine ⟨fun pins s σ H Q I hw => ?_⟩
  obtain ⟨ι, en, h, rh, rs, p⟩ := hw
  refine UnaryOp_ (thn (ha.bind I rh rs p) fun v s1 ⟨ι1, H1, h1, d1, x, I1, rh1, rs1, rx, rd, g1, p1⟩ => ?_)
  cases rd with
  | int i => exact un_neg pins s1 σ H1 _ v Q I1 rx ⟨i, rfl, p1.ok rh1 (.int _)⟩
  | _ => exact p1.elim
theorem not_ss (ha : SS Z X W ta a) : SS Z X W ⟨fun e h => (ta.v e h).bind fun x h => (ofOpt (truD h x) h).bind fun b h => .ok (.bl (!b)) h, fun e h => (ta.t e h).bind fun b h => .ok (!b) h⟩ (.UnaryOp .Not a pos) := by
  refine ⟨⟨fun pins s σ H Q I hw => ?_⟩, ⟨fun pins s σ H Q I hw => ?_⟩⟩
  · obtain ⟨ι, en, h, rh, rs, p⟩ := hw
    refine UnaryOp_ (thn (ha.bind I rh rs p) fun v s1 ⟨ι1, H1, h1, d1, x, I1, rh1, rs1, rx, rd, g1, p1⟩ => ?_)
    obtain ⟨b, eb, p1⟩ := ofOpt_bind p1
    refine not_of (thn (tru_of (Q := fun b' H' => b' = b ∧ H' = H1) I1 rh1 rd rx eb ⟨rfl, rfl⟩) fun b' s2 ⟨H2, I2, e1, e2⟩ => ?_)
    subst e1 e2
    exact ⟨.bl (!b'), H2, I2, rfl, p1.ok rh1 (.bl _)⟩
  · obtain ⟨ι, en, h, rh, rs, p⟩ := hw
    exact isTrue_not (thn (ha.bindT I rh rs p) fun b s1 ⟨ι1, H1, h1, I1, rh1, rs1, g1, p1⟩ => ⟨H1, I1, p1.ok rh1 rfl⟩)
theorem ife_ss (hd : SS Z X W td d) (ha : SS Z X W ta a) (hb : SS Z X W tb b) :
    SS Z X W ⟨fun e h => (td.t e h).bind fun k h => if k = true then ta.v e h else tb.v e h, fun e h => (td.t e h).bind fun k h => if k = true then ta.t e h else tb.t e h⟩ (.IfExp d a b pos) := by
  refine ⟨⟨fun pins s σ H Q I hw => ?_⟩, ⟨fun pins s σ H Q I hw => ?_⟩⟩
  · obtain ⟨ι, en, h, rh, rs, p⟩ := hw
    refine wpAny_IfExp (thn (hd.bindT I rh rs p) fun k s1 ⟨ι1, H1, h1, I1, rh1, rs1, g1, p1⟩ => ?_)
    cases k with
    | true => exact ha.run I1 rh1 rs1 p1
    | false => exact hb.run I1 rh1 rs1 p1
  · obtain ⟨ι, en, h, rh, rs, p⟩ := hw
    refine isTrue_IfExp (thn (hd.bindT I rh rs p) fun k s1 ⟨ι1, H1, h1, I1, rh1, rs1, g1, p1⟩ => ?_)
    cases k with
    | true => exact ha.runT I1 rh1 rs1 p1
    | false => exact hb.runT I1 rh1 rs1 p1

/-! ### displays -/
theorem tup_pe {j : Nat} (r : SSs Z X W ss es) : PE X (.Tuple es j pos) (trD Z X W fun e h => (seqE ss e h).bind tupE) := by
  refine ⟨fun pins s σ H Q I hw => ?_⟩
  obtain ⟨ι, en, h, rh, rs, p⟩ := hw
  refine (pe_tup r.pa).run pins s σ H Q I ⟨ι, en, h, rh, rs, (Post.bind _ p).imp fun xs H1 ⟨ι1, ds, h1, g1, rh1, rds, p1⟩ => ?_⟩
  unfold tupE at p1
  split at p1
  · rename_i hz
    exact ⟨by rw [← rds.length]; exact hz, post_tup rh1 p1 rds⟩
  · exact p1.elim
theorem lst_pe (r : SSs Z X W ss es) : PE X (.List es pos) (trD Z X W fun e h => (seqE ss e h).bind lstE) := by
  refine ⟨fun pins s σ H Q I hw => ?_⟩
  obtain ⟨ι, en, h, rh, rs, p⟩ := hw
  refine (pe_lst r.pa).run pins s σ H Q I ⟨ι, en, h, rh, rs, (Post.bind _ p).imp fun xs H1 ⟨ι1, ds, h1, g1, rh1, rds, p1⟩ => ?_⟩
  unfold lstE at p1
  split at p1
  · rename_i hz
    exact ⟨by rw [← rds.length]; exact hz, post_new rh1 p1 fun a n => .lst upd_same (rds.mono (Gr.push n))⟩
  · exact p1.elim

/-! ### parts -/
theorem idx_pe (g : Good Z k X W) (ha : SS Z X W ta a) (hb : SS Z X W tb b) (hs : notSlice b = true) : PE X (.Subscript a b pos) (trD Z X W fun e h => (ta.v e h).bind fun x h => (tb.v e h).bind fun y h => idxD x y h) := by
  refine ⟨fun pins s σ H Q I hw => ?_⟩
  obtain ⟨ι, en, h, rh, rs, p⟩ := hw
  refine Subscript_ (thn (ha.bind I rh rs p) fun v s1 ⟨ι1, H1, h1, d1, x, I1, rh1, rs1, rx, rd, g1, p1⟩ => thn (hb.bind I1 rh1 rs1 p1) fun u s2 ⟨ι2, H2, h2, d2, y, I2, rh2, rs2, ry, rd2, g2, p2⟩ => ?_)
  exact idxS g a b I2 rh2 (rd.mono g2) rd2 rx ry p2 (plainIx_of hs _ _)
theorem po_no : PO X none (trO Z X W (optE none)) := ⟨fun pins s σ H Q I ⟨ι, en, h, rh, rs, p⟩ => po_none.run pins s σ H Q I (p.ok rh rfl)⟩
theorem po_yes (ha : SS Z X W ta a) : PO X (some a) (trO Z X W (optE (some ta))) := by
  refine ⟨fun pins s σ H Q I hw => ?_⟩
  obtain ⟨ι, en, h, rh, rs, p⟩ := hw
  refine (po_some ha.pe).run pins s σ H Q I ⟨ι, en, h, rh, rs, (Post.bind _ p).imp fun x H1 ⟨ι1, d, h1, g1, rh1, rd, p1⟩ => ?_⟩
  cases rd with
  | int i => exact ⟨i, rfl, p1.ok rh1 rfl⟩
  | _ => exact p1.elim
variable {lo hi : Option Expr} {tl th : Option Sx}
theorem slc_pe {p2 : Pos} (ha : SS Z X W ta a) (hl : PO X lo (trO Z X W (optE tl))) (hh : PO X hi (trO Z X W (optE th))) :
    PE X (.Subscript a (.Slice lo hi none p2) pos) (trD Z X W fun e h => (ta.v e h).bind fun x h => (optE tl e h).bind fun i h => (optE th e h).bind fun j h => slcD x i j h) := by
  refine ⟨fun pins s σ H Q I hw => ?_⟩
  obtain ⟨ι, en, h, rh, rs, p⟩ := hw
  refine (pe_slice (slcS (Z := Z) (W := W) (σ := σ)) ha.pe hl hh).run pins s σ H Q I ⟨ι, en, h, rh, rs, (Post.bind _ p).imp fun x H1 ⟨ι1, d, h1, g1, rh1, rd, p1⟩ => ?_⟩
  refine ⟨ι1, en, h1, rh1, rs.mono g1, (Post.bind relO p1).imp fun i H2 ⟨ι2, i', h2, g2, rh2, ei, p2⟩ => ?_⟩
  cases (show i' = i from ei)
  refine ⟨ι2, en, h2, rh2, (rs.mono g1).mono g2, (Post.bind relO p2).imp fun j H3 ⟨ι3, j', h3, g3, rh3, ej, p3⟩ => ?_⟩
  cases (show j' = j from ej)
  exact ⟨ι3, h3, d, rh3, (rd.mono g2).mono g3, p3⟩
theorem rev_pe {j : Nat} {p1 p2 p3 : Pos} (ha : SS Z X W ta a) : PE X (.Subscript a (.Slice none none (some (.UnaryOp .USub (.Constant (.int 1) j p1) p2)) p3) pos) (trD Z X W fun e h => (ta.v e h).bind revD) := by
  refine ⟨fun pins s σ H Q I hw => ?_⟩
  obtain ⟨ι, en, h, rh, rs, p⟩ := hw
  refine (pe_revL ha.pe).run pins s σ H Q I ⟨ι, en, h, rh, rs, (Post.bind _ p).imp fun x H1 ⟨ι1, d, h1, g1, rh1, rd, p1⟩ => ?_⟩
  cases rd with
  | ref ea =>
    simp only [revD] at p1
    split at p1
    · rename_i e1
      obtain ⟨xs, sq, rds⟩ := lstAt_sq (X := X) rh1 e1 ea
      exact ⟨_, _, rfl, sq, post_new rh1 p1 fun a n => .lst upd_same (rds.reverse.mono (Gr.push n))⟩
    · exact p1.elim
  | _ => exact p1.elim
theorem att_pe (g : Good Z k X W) {f : Str} (hf : f ∈ Z.fns) (ha : SS Z X W ta a) (hb : attB a = true) : PE X (.Attribute a f pos) (trD Z X W fun e h => (ta.v e h).bind fun x h => attD x f h) := by
  refine ⟨fun pins s σ H Q I hw => ?_⟩
  obtain ⟨ι, en, h, rh, rs, p⟩ := hw
  refine attr_of (att_of hb) (thn (ha.bind I rh rs p) fun v s1 ⟨ι1, H1, h1, d1, x, I1, rh1, rs1, rx, rd, g1, p1⟩ => ?_)
  cases rd with
  | ref ea =>
    simp only [attD] at p1
    split at p1
    · rename_i e1
      obtain ⟨d, ed, p1⟩ := ofOpt_ok p1
      cases rh1.at e1 ea with
      | ins ec l rf =>
        obtain ⟨w, ew, rw'⟩ := rf.look ed
        cases rx
        exact getattr_ok I1 l (g.cl _ _ ec) (g.na _ _ _ ec hf) ew fun u s2 I2 ru => ⟨w, H1, I2, ru, p1.ok rh1 rw'⟩
    · exact p1.elim
  | _ => exact p1.elim
end
end MP
namespace MP
open PySem PySem.Spec PyProof.Rows L2
def mkT : Mk → String
  | .lst => "list" | .dct => "dict" | .str => "str" | .tup => "tuple"
section
variable {Z : Wd} {k : Nat} {X : Cx} {W : WX}
variable {pins : List (Addr × Obj)} {s : Shared} {σ : L2.St} {H : Hp} {ι : List Addr} {h : AH} {en : En}
theorem mt_tab (g : Good Z k X W) {m : Mt} {kd : Mk} (ok : mtOk m kd = true) : ∃ id, Slot (mkT kd) (mtName m) id ∧ typeOf (.builtin id) = pure (.type "method_descriptor") ∧ ∀ σ, MtR X id (rMt Z X W σ (mtD m kd)) := by
  cases m <;> cases kd <;> first | exact absurd ok Bool.false_ne_true | skip
  · exact ⟨_, PySem.F.slot_list_append, PySem.F.type_list_append, fun σ => mt_app⟩
  · exact ⟨_, PySem.F.slot_list_extend, PySem.F.type_list_extend, fun σ => mt_ext⟩
  · exact ⟨_, PySem.F.slot_list_pop, PySem.F.type_list_pop, fun σ => mt_pp0⟩
  · exact ⟨_, PySem.F.slot_list_pop, PySem.F.type_list_pop, fun σ => mt_pp1⟩
  · exact ⟨_, PySem.F.slot_list_remove, PySem.F.type_list_remove, fun σ => mt_rem⟩
  · exact ⟨_, PySem.F.slot_list_index, PySem.F.type_list_index, fun σ => mt_ixL g⟩
  · exact ⟨_, PySem.F.slot_dict_get, PySem.F.type_dict_get, fun σ => mt_g1 g⟩
  · exact ⟨_, PySem.F.slot_dict_get, PySem.F.type_dict_get, fun σ => mt_g2 g⟩
  · exact ⟨_, PySem.F.slot_dict_setdefault, PySem.F.type_dict_setdefault, fun σ => mt_sd g⟩
  · exact ⟨_, PySem.F.slot_str_join, PySem.F.type_str_join, fun σ => mt_jn⟩
  · exact ⟨_, PySem.F.slot_str_split, PySem.F.type_str_split, fun σ => mt_spl⟩
  · exact ⟨_, PySem.F.slot_str_upper, PySem.F.type_str_upper, fun σ => mt_upp⟩
theorem mk_pa (kd : Mk) : PlainAttrs (mkT kd) := by
  cases kd
  · exact PySem.F.plainAttrs_list
  · exact PySem.F.plainAttrs_dict
  · exact PySem.F.plainAttrs_str
  · exact PySem.F.plainAttrs_tuple
/-- the built-in behind a name -/
def biV : Bi → Value
  | .int => .type "int" | .str => .type "str" | .lst => .type "list" | .tup => .type "tuple" | .len => .builtin "len" | .repr => .builtin "repr" | .all => .builtin "all" | .any => .builtin "any" | .sum => .builtin "sum"
  | .min1 => .builtin "min" | .min2 => .builtin "min" | .max1 => .builtin "max" | .max2 => .builtin "max" | .sorted => .builtin "sorted" | .abs => .builtin "abs" | _ => .none
theorem boots : ∀ b, biOk b = true → bootBuiltins (biName b) = some (biV b) := by
  intro b
  cases b <;> decide +kernel
theorem biNs : ∀ b, biOk b = true → biName b ∈ bnames ∧ biName b ≠ "__name__" ∧ (biName b == ("__debug__" : Str)) = false := by
  intro b
  cases b <;> decide +kernel
theorem bi_tab (g : Good Z k X W) {b : Bi} (ok : biOk b = true) (σ : L2.St) : CallR X (biV b) (rBi Z X W σ b) := by
  cases b <;> first | exact absurd ok Bool.false_ne_true | skip
  · exact bi_len
  · exact bi_int
  · exact bi_str
  · exact bi_repr g.gd g.u64
  · exact bi_lst
  · exact bi_tup
  · exact bi_all g
  · exact bi_any g
  · exact bi_sum g
  · exact bi_min1 g
  · exact bi_max1 g
  · exact bi_min2 g
  · exact bi_max2 g
  · exact bi_sorted g
  · exact bi_abs
theorem gl_of {x : Str} (h : gloB X.env.scope x = true) : Gl X x := by
  unfold gloB at h
  have h := of_decide_eq_true h
  exact h
theorem vis_of {x : Str} (h : visB X.env.scope x = true) : Vis X.env.scope x := by
  unfold visB at h
  split at h
  · exact .inl (by assumption)
  · exact .inr (.inl (by assumption))
  · exact .inr (.inr (by assumption))
  · cases h
theorem loc_of {x : Str} (h : locB X.env.scope x = true) : Loc X.env.scope x := by
  unfold locB at h
  split at h
  · exact .inl (by assumption)
  · exact .inr (by assumption)
  · cases h
variable {t : Sx} {e o : Expr} {ss : List Sx} {es : List Expr} {pos : Pos} {to : Sx}
theorem bi_pe (g : Good Z k X W) {b : Bi} {x : Str} {pn : Pos} (ok : biOk b = true) (hx : x = biName b) (hl : es.length = biN b) (hg : Gl X x) (r : SSs Z X W ss es) : PE X (.Call (.Name x pn) es [] pos) (trD Z X W fun e h => (seqE ss e h).bind fun ds h => biD b ds h) := by
  obtain ⟨n1, n2, n3⟩ := biNs b ok
  subst hx
  refine ⟨fun pins s σ H Q I hw => ?_⟩
  obtain ⟨ι, en, h, rh, rs, p⟩ := hw
  have rule : ∀ (id : String), biV b = .builtin id ∨ biV b = .type id → wpAny (model X.prog X.w) X.A (eval (.Call (.Name (biName b) pn) es [] pos) X.env) (EP X pins σ Q) X.xe s := by
    intro id hid
    cases r with
    | nil => exact absurd hl (by cases b <;> decide)
    | cons hs hn hr =>
      refine wpAny_Call_Name_kw (ld_blt I hg (g.bt _ n1) (boots b ok) ?_ n2 n3)
      have run := (SSs.cons hs hn hr).bind (pos := pos) I rh rs p
      have fin : wpAny (model X.prog X.w) X.A (spliced (backTo pos (starEach _ X.env))) (fun us s₁ => wpAny (model X.prog X.w) X.A (call (biV b) us) (EP X pins σ Q) X.xe s₁) X.xe s :=
        thn run fun us s1 ⟨ι1, H1, h1, ds, xs, I1, rh1, rs1, rxs, rds, g1, p1⟩ => bi_tab g ok σ pins s1 σ H1 xs us Q I1 rxs ⟨ι1, h1, ds, rh1, rds, p1⟩
      rcases hid with hid | hid
      · rw [hid] at fin ⊢
        exact PyProof.Rows.callWith_builtin1 fin (starEach_cons hn) hr.few
      · rw [hid] at fin ⊢
        exact PyProof.Rows.callWith_type1 fin (starEach_cons hn) hr.few
  cases b <;> first | exact rule _ (.inl rfl) | exact rule _ (.inr rfl) | exact absurd ok Bool.false_ne_true

/-! ### methods of built-in things -/
theorem kind_ty {m : Mt} {kd : Mk} {d : D} {x : V} (rh : RH (Z.g X) ι h H) (rd : RD (Z.g X) ι H d x) (e : mkOf h d = some kd) (ok : mtOk m kd = true) : tyV X.K (mkT kd) x H := by
  cases rd with
  | str z => cases e; rfl
  | tup _ _ => cases e; cases m <;> exact absurd ok Bool.false_ne_true
  | ref ea =>
    simp only [mkOf] at e
    split at e
    · rename_i e1
      cases e
      cases rh.at e1 ea with
      | lst l r => exact .inl ⟨rfl, _, .inl (.inl l)⟩
    · rename_i e1
      cases e
      cases rh.at e1 ea with
      | dct l r => exact .inr (.inr (.inl ⟨rfl, .inl ⟨_, l⟩⟩))
    · cases e
  | _ => cases e
theorem mth_pe (g : Good Z k X W) {m : Mt} {apos : Pos} (hl : es.length = mtN m) (hb : attB o = true) (hline : (apos.endLine == pos.line) = true) (ho : SS Z X W to o) (r : SSs Z X W ss es) :
    PE X (.Call (.Attribute o (mtName m) apos) es [] pos) (trD Z X W fun e h => (to.v e h).bind fun x h => (mkM m x h).bind fun k h => (seqE ss e h).bind fun ds h => mtD m k x ds h) := by
  refine ⟨fun pins s σ H Q I hw => ?_⟩
  obtain ⟨ι, en, h, rh, rs, p⟩ := hw
  have few : ((backTo pos (starEach es X.env)).all (fun x => !x.1) && (backToKw pos (keywordEach [] X.env)).all (fun x => x.1.isSome) && decide (es.length + ([] : List Keyword).length + (if ([] : List Keyword).isEmpty then 0 else 1) < 30)) = true := by
    rw [r.few2, hl]
    cases m <;> rfl
  refine wpAny_Call_method_late (att_of hb) few hline rfl (thn (ho.bind I rh rs p) fun v s1 ⟨ι1, H1, h1, d1, x, I1, rh1, rs1, rx, rd, g1, p1⟩ => ?_)
  unfold mkM at p1
  split at p1
  · rename_i kd ek
    split at p1
    · rename_i ok
      obtain ⟨id, sl, ty, rule⟩ := mt_tab g ok
      obtain ⟨z1, z2⟩ := tyV_is I1 rx (kind_ty rh1 rd ek ok)
      refine ⟨mkT kd, id, mk_pa kd, sl, ty, z1, z2, ?_⟩
      have p1 : Post (RD (Z.g X)) W (Z.g X) ι1 σ H1 ((seqE ss en h1).bind fun ds h => mtD m kd d1 ds h) Q := p1
      cases r with
      | nil =>
        exact callWith_method0 (rule σ pins s1 σ H1 x [] v [] Q I1 rx .nil ⟨ι1, h1, d1, [], rh1, rd, .nil, p1⟩)
      | cons hs hn hr =>
        exact callWith_method1 (thn ((SSs.cons hs hn hr).bind I1 rh1 rs1 p1) fun us s2 ⟨ι2, H2, h2, ds, xs, I2, rh2, rs2, rxs, rds, g2, p2⟩ => rule σ pins s2 σ H2 x xs v us Q I2 rx rxs ⟨ι2, h2, d1, ds, rh2, rd.mono g2, rds, p2⟩) (starEach_cons hn) hr.few
    · exact p1.elim
  · exact p1.elim

/-! ### calls of defs, of classes, of own methods -/
theorem call_road {x : Str} {p : Pos} {a : Addr} {F : List D → AH → Res D} {V : Value} (hV : V = .ref a) (hd : (x == ("__debug__" : Str)) = false) (hg : Gl X x) (hm : X.mg x = some V) (hk : PySem.W.keepIn X.K (.ref a) = true) (c : CallS Z X W (.ref a) F) (r : SSs Z X W ss es) :
    PE X (.Call (.Name x p) es [] pos) (trD Z X W fun e h => (seqE ss e h).bind fun ds h => F ds h) := by
  subst hV
  refine ⟨fun pins s σ H Q I hw => ?_⟩
  obtain ⟨ι, en, h, rh, rs, p⟩ := hw
  refine wpAny_Call_Name_kw (ld_glob I hg hm ?_ hd)
  cases r with
  | nil => exact PySem.W.callWith_K0 I.kIn hk (c pins s σ H ι h [] [] [] Q I rh .nil .nil p)
  | cons hs hn hr =>
    exact PySem.W.callWith_K (h₀ := X.base) I.ok.mod.kin hk (thn ((SSs.cons hs hn hr).bind I rh rs p) fun us s1 ⟨ι1, H1, h1, ds, xs, I1, rh1, rs1, rxs, rds, g1, p1⟩ => ⟨I1.kIn, c pins s1 σ H1 ι1 h1 ds xs us Q I1 rh1 rds rxs p1⟩) (starEach_cons hn) hr.few
theorem meth_tree {f : Str} {apos : Pos} (hb : attB o = true) (hline : (apos.endLine == pos.line) = true) (hl : es.length < 30) (hf : (backTo pos (starEach es X.env)).all (fun x => !x.1) = true) :
    eval (.Call (.Attribute o f apos) es [] pos) X.env = (do
      let ov ← eval o X.env
      standAt apos.atName
      let (f, first) ← holding [ov] (getMethod ov f (do
        let b ← importBound o X.env
        pure (b.getD true)))
      callWith pos f first (backTo pos (starEach es X.env)) (backToKw pos (keywordEach [] X.env))) := by
  have hform : methodCallForm (es.length + ([] : List Keyword).length) (backTo pos (starEach es X.env)) (backToKw pos (keywordEach [] X.env)) = true := by
    unfold methodCallForm
    rw [hf]
    have e : (backToKw pos (keywordEach [] X.env)) = [] := rfl
    rw [e]
    simpa using hl
  have hpos : methodCallPos true o X.env apos pos = pure pos := by unfold methodCallPos; simp [hline]
  rw [arm_eval_Call, att_of hb]
  unfold methodCall
  rw [hform, hpos]
  unfold calleeOf
  simp only [if_true, pure_bind]
theorem obj_pe (g : Good Z k X W) {T : Tb} {c : Cg} (lv : Lv T Z c k X) {f : Str} {apos : Pos} (hl : es.length < 30) (hb : attB o = true) (hline : (apos.endLine == pos.line) = true) (ho : SS Z X W to o) (r : SSs Z X W ss es) :
    PE X (.Call (.Attribute o f apos) es [] pos) (trD Z X W fun e h => (to.v e h).bind fun x h => (mthD c x f h).bind fun gg h => (seqE ss e h).bind fun ds h => c.call gg (x :: ds) h) := by
  refine ⟨fun pins s σ H Q I hw => ?_⟩
  obtain ⟨ι, en, h, rh, rs, p⟩ := hw
  refine PySem.W.methodCall_KW (thn (ho.bind I rh rs p) fun v s1 ⟨ι1, H1, h1, d1, x, I1, rh1, rs1, rx, rd, g1, p1⟩ => ?_) (meth_tree hb hline hl r.few2)
  cases rd with
  | ref ea =>
    simp only [mthD] at p1
    split at p1
    · rename_i e1
      obtain ⟨gg, egg, p1⟩ := ofOpt_bind p1
      split at egg
      · rename_i en0
        cases rh1.at e1 ea with
        | ins ec l rf =>
          rw [Option.bind_eq_some_iff] at egg
          obtain ⟨KK, eK, eM⟩ := egg
          obtain ⟨a, hm, ha⟩ := lv.met _ _ _ _ _ ec eK eM
          have cs := lv.cal X W ⟨rfl, rfl, rfl, rfl, rfl⟩ g _ _ ha
          cases rx
          refine getmeth_ok I1 l (g.cl _ _ ec) hm (rf.lookN en0) ?_
          cases r with
          | nil => exact PySem.W.callWith_K0 I1.kIn hm.kp (cs pins s1 σ H1 ι1 h1 [_] [_] [_] Q I1 rh1 (.cons (.ref ea) .nil) (.cons rfl .nil) p1)
          | cons hs hn hr =>
            exact PySem.W.callWith_K (first := [_]) (h₀ := X.base) I.ok.mod.kin hm.kp (thn ((SSs.cons hs hn hr).bind I1 rh1 rs1 p1) fun us s2 ⟨ι2, H2, h2, ds, xs, I2, rh2, rs2, rxs, rds, g2, p2⟩ =>
              ⟨I2.kIn, cs pins s2 σ H2 ι2 h2 (_ :: ds) (_ :: xs) (_ :: us) Q I2 rh2 (.cons ((RD.ref ea).mono g2) rds) (.cons rfl rxs) p2⟩) (starEach_cons hn) hr.few
      · cases egg
    · exact p1.elim
  | _ => exact p1.elim
end
end MP
namespace MP
open PySem PySem.Spec PyProof.Rows L2

/-! ### what is kept by prefixes and tuples alone -/
section
variable {G : Gx} {ι ι' : List Addr} {H H' : Hp}
mutual
theorem RD.mono2 (p : ι <+: ι') (t : TM H H') : ∀ {d : D} {v : V}, RD G ι H d v → RD G ι' H' d v
  | _, _, .non => .non
  | _, _, .bl b => .bl b
  | _, _, .int i => .int i
  | _, _, .str s => .str s
  | _, _, .tup h r => .tup (t.sqT h) (RDs.mono2 p t r)
  | _, _, .ref e => .ref (pre_get p e)
  | _, _, .fn e => .fn e
  | _, _, .cls e => .cls e
  | _, _, .ty s => .ty s
theorem RDs.mono2 (p : ι <+: ι') (t : TM H H') : ∀ {ds : List D} {vs : List V}, RDs G ι H ds vs → RDs G ι' H' ds vs
  | _, _, .nil => .nil
  | _, _, .cons a b => .cons (RD.mono2 p t a) (RDs.mono2 p t b)
end
theorem RKs.mono2 (p : ι <+: ι') (t : TM H H') : ∀ {ds : List (D × D)} {vs : List (Key × V)}, RKs G ι H ds vs → RKs G ι' H' ds vs
  | _, _, .nil => .nil
  | _, _, .cons a b => .cons (a.mono2 p t) (RKs.mono2 p t b)
theorem RFs.mono2 (p : ι <+: ι') (t : TM H H') : ∀ {ds : List (Str × D)} {vs : List (Str × V)}, RFs G ι H ds vs → RFs G ι' H' ds vs
  | _, _, .nil => .nil
  | _, _, .cons a b => .cons (a.mono2 p t) (RFs.mono2 p t b)
theorem RC.mono2 (p : ι <+: ι') (t : TM H H') {c : C} {a : Addr} (k : H' a = H a) (kd : ∀ dx vs, dx ∉ ι → H dx = some (exd dx vs) → dx ∉ ι' ∧ H' dx = some (exd dx vs)) : RC G ι H c a → RC G ι' H' c a
  | .lst e r => .lst (k.trans e) (r.mono2 p t)
  | .fls e r => .fls (k.trans e) (r.mono2 p t)
  | .dct e r => .dct (k.trans e) (r.mono2 p t)
  | .ins q e r => .ins q (k.trans e) (r.mono2 p t)
  | .xin q e .no => .xin q (k.trans e) .no
  | .xin q e (.yes n ed r) => .xin q (k.trans e) (.yes (kd _ _ n ed).1 (kd _ _ n ed).2 (r.mono2 p t))
  | .dead => .dead
variable {h : AH}
/-- a thing beside what the program sees is written -/
theorem RH.side (r : RH G ι h H) {p : Addr} {o u : HO} (hp : p ∉ ι) (e : H p = some u) (su : Soft u) (ho : ∀ ps, o ≠ .tbl ps := by intro ps z; cases z) : RH G ι h (upd H p o) :=
  ⟨r.nd, r.len, fun a ha => let ⟨o', e', nt⟩ := r.trk a ha; ⟨o', by rw [upd_ne (fun z => hp (by rw [← z]; exact ha))]; exact e', nt⟩, fun n c ec => by
    obtain ⟨a, ea, q⟩ := r.cell n c ec
    have ne : a ≠ p := fun z => hp (by rw [← z]; exact List.mem_of_getElem? ea)
    exact ⟨a, ea, q.mono2 (List.prefix_refl _) (TM.upd fun u' e' => by rw [e] at e'; cases e'; exact su) (upd_ne ne) fun dx vs n ed => ⟨n, by rw [upd_ne (fun z => by rw [z, e] at ed; cases ed; exact su)]; exact ed⟩⟩, tabs_upd r.tabs (fun u' e' => by rw [e] at e'; cases e'; exact su), fun m em => ⟨code_upd (r.lm m em).1 fun u' e' => by rw [e] at e'; cases e'; exact su, (r.lm m em).2⟩⟩
theorem Gr.side (g : Gr ι H ι' H') {p : Addr} {o u : HO} (n : H p = none) (e : H' p = some u) (su : Soft u) : Gr ι H ι' (upd H' p o) :=
  ⟨g.pre, g.tm.trans (TM.upd fun u' e' => by rw [e] at e'; cases e'; exact su), fun a o' ha ho nt => by
    rw [upd_ne (ne_of_none ho n)]
    exact g.fr a o' ha ho nt, g.new, fun c q ec => CK.upd (fun u' e' => by rw [e] at e'; cases e'; exact su) c q (g.cd c q ec)⟩
/-- it is taken among what the program sees -/
theorem RH.adopt (r : RH G ι h H) {p : Addr} {o : HO} {c : C} (hp : p ∉ ι) (e : H p = some o) (q : RC G (ι ++ [p]) H c p) (ho : ∀ ps, o ≠ .tbl ps := by intro ps z; cases z) (hx : ∀ φ, o ≠ .ext φ := by intro φ z; cases z) : RH G (ι ++ [p]) (h ++ [c]) H := by
  refine ⟨?_, by rw [List.length_append, List.length_append, r.len]; rfl, fun a ha => ?_, fun m c' ec => ?_, r.tabs, fun m e => ⟨(r.lm m e).1, (r.lm m e).2.trans (List.prefix_append _ _)⟩⟩
  · rw [List.nodup_append]
    refine ⟨r.nd, by simp, fun a ha b hb => ?_⟩
    have : b = p := by simpa using hb
    subst this
    exact fun z => hp (z ▸ ha)
  · rcases List.mem_append.mp ha with ha | ha
    · exact r.trk a ha
    · have : a = p := by simpa using ha
      subst this
      exact ⟨_, e, ho⟩
  · by_cases hm : m < h.length
    · rw [List.getElem?_append_left hm] at ec
      obtain ⟨a, ea, qa⟩ := r.cell m c' ec
      exact ⟨a, pre_get (List.prefix_append _ _) ea, qa.mono2 (List.prefix_append _ _) (TM.refl _) rfl fun dx vs n ed => ⟨fun z => by
        rcases List.mem_append.mp z with z | z
        · exact n z
        · have z : dx = p := by simpa using z
          subst z
          rw [e] at ed
          exact hx _ (Option.some.inj ed), ed⟩⟩
    · have hm2 : m = h.length := by
        have := (List.getElem?_eq_some_iff.mp ec).1
        rw [List.length_append] at this
        simp at this
        omega
      subst hm2
      rw [List.getElem?_append_right (Nat.le_refl _)] at ec
      simp at ec
      subst ec
      refine ⟨p, ?_, q⟩
      rw [List.getElem?_append_right (by rw [r.len]; exact Nat.le_refl _), r.len]
      simp
theorem Gr.adopt (g : Gr ι H ι' H') {p : Addr} (n : H p = none) : Gr ι H (ι' ++ [p]) H' :=
  ⟨g.pre.trans (List.prefix_append _ _), g.tm, g.fr, fun a ha => by
    rcases List.mem_append.mp ha with ha | ha
    · exact g.new a ha
    · have : a = p := by simpa using ha
      subst this
      exact .inr (.inl n), g.cd⟩
end

section
variable {Z : Wd} {k : Nat} {X : Cx} {W : WX}
variable {pins : List (Addr × Obj)} {s : Shared} {σ : L2.St} {H : Hp} {ι : List Addr} {h : AH} {en : En}

/-! ### what is walked -/
theorem ri_list {r n : Nat} {a : Addr} (ea : ι[r]? = some a) : RI (Z.g X) ι H ⟨fun h => lstAt h r, n⟩ (Itl X.K a) where
  go := fun ι1 h1 H1 i ds d g rh e1 e2 => by
    obtain ⟨xs, sq, rds⟩ := lstAt_sq (X := X) rh e1 (pre_get g.pre ea)
    obtain ⟨v, hv, rv⟩ := rds.get e2
    refine ⟨⟨xs, v, sq, hv⟩, fun x H' ⟨e, hx⟩ => ?_⟩
    subst e
    have := hx xs sq
    rw [hv] at this
    cases this
    exact ⟨rh, Gr.refl _ _, rv⟩
  stop := fun ι1 h1 H1 i ds g rh e1 e2 => by
    obtain ⟨xs, sq, rds⟩ := lstAt_sq (X := X) rh e1 (pre_get g.pre ea)
    exact ⟨xs, sq, by rw [← rds.length]; exact List.getElem?_eq_none_iff.mp e2⟩
theorem ri_tup {n : Nat} {ds0 : List D} {a : Addr} {xs : List V} (sq : SqT X.K H a xs) (rds : RDs (Z.g X) ι H ds0 xs) : RI (Z.g X) ι H ⟨fun _ => some ds0, n⟩ (Itt X.K a) where
  go := fun ι1 h1 H1 i ds d g rh e1 e2 => by
    cases e1
    obtain ⟨v, hv, rv⟩ := (rds.mono g).get e2
    refine ⟨⟨xs, v, g.tm.sqT sq, hv⟩, fun x H' ⟨e, hx⟩ => ?_⟩
    subst e
    have := hx xs (g.tm.sqT sq)
    rw [hv] at this
    cases this
    exact ⟨rh, Gr.refl _ _, rv⟩
  stop := fun ι1 h1 H1 i ds g rh e1 e2 => by
    cases e1
    exact ⟨xs, g.tm.sqT sq, by rw [← rds.length]; exact List.getElem?_eq_none_iff.mp e2⟩
theorem ri_str {n : Nat} {z : Str} : RI (Z.g X) ι H ⟨fun _ => some (z.cps.toList.map fun c => .str ⟨#[c]⟩), n⟩ (Its z) where
  go := fun ι1 h1 H1 i ds d g rh e1 e2 => by
    cases e1
    rw [List.getElem?_map] at e2
    cases hc : z.cps.toList[i]? with
    | none => rw [hc] at e2; cases e2
    | some c =>
      rw [hc] at e2
      cases e2
      have hc' : z.cps[i]? = some c := by simpa using hc
      refine ⟨(Array.getElem?_eq_some_iff.mp hc').1, fun x H' ⟨e, c', h1, h2⟩ => ?_⟩
      subst e h2
      rw [hc'] at h1
      cases h1
      exact ⟨rh, Gr.refl _ _, .str _⟩
  stop := fun ι1 h1 H1 i ds g rh e1 e2 => by
    cases e1
    rw [List.getElem?_map] at e2
    have q := List.getElem?_eq_none_iff.mp (Option.map_eq_none_iff.mp e2)
    show z.cps.size ≤ i
    simpa using q
theorem rangeL_get {lo : Int} {n i : Nat} {d : D} (e : (rangeL lo n)[i]? = some d) : i < n ∧ d = .int (lo + i) := by
  unfold rangeL at e
  rw [List.getElem?_map] at e
  by_cases hi : i < n
  · rw [List.getElem?_range hi] at e
    cases e
    exact ⟨hi, rfl⟩
  · rw [List.getElem?_eq_none (by simpa using hi)] at e
    cases e
theorem rangeL_none {lo : Int} {n i : Nat} (e : (rangeL lo n)[i]? = none) : n ≤ i := by
  have := List.getElem?_eq_none_iff.mp e
  unfold rangeL at this
  simpa using this
theorem ri_rng {m n : Nat} {lo : Int} : RI (Z.g X) ι H ⟨fun _ => some (rangeL lo n), m⟩ (L2.Itr lo n) where
  go := fun ι1 h1 H1 i ds d g rh e1 e2 => by
    cases e1
    obtain ⟨hi, rfl⟩ := rangeL_get e2
    refine ⟨hi, fun x H' ⟨e, hx⟩ => ?_⟩
    subst e hx
    exact ⟨rh, Gr.refl _ _, .int _⟩
  stop := fun ι1 h1 H1 i ds g rh e1 e2 => by
    cases e1
    exact rangeL_none e2
theorem zip_get {x y : List D} {i : Nat} {d : D} (e : ((x.zip y).map fun p => D.tup [p.1, p.2])[i]? = some d) : ∃ a b, x[i]? = some a ∧ y[i]? = some b ∧ d = .tup [a, b] := by
  rw [List.getElem?_map] at e
  cases hc : (x.zip y)[i]? with
  | none => rw [hc] at e; cases e
  | some c =>
    rw [hc] at e
    cases e
    obtain ⟨h1, h2⟩ := List.getElem?_zip_eq_some.mp hc
    exact ⟨c.1, c.2, h1, h2, rfl⟩
theorem zip_none {x y : List D} {i : Nat} (e : ((x.zip y).map fun p => D.tup [p.1, p.2])[i]? = none) : x.length ≤ i ∨ y.length ≤ i := by
  have := List.getElem?_eq_none_iff.mp e
  rw [List.length_map, List.length_zip] at this
  omega
/-- a new pair -/
theorem pair_rd {a b : D} {x y : V} {T : Addr} (rh : RH (Z.g X) ι h H) (n : H T = none) (ra : RD (Z.g X) ι H a x) (rb : RD (Z.g X) ι H b y) :
    RH (Z.g X) ι h (upd H T (.tup [x, y])) ∧ Gr ι H ι (upd H T (.tup [x, y])) ∧ RD (Z.g X) ι (upd H T (.tup [x, y])) (.tup [a, b]) (.ref T) :=
  ⟨rh.other n, Gr.fresh n, .tup (.inl (.inl upd_same)) (.cons (ra.mono (Gr.fresh n)) (.cons (rb.mono (Gr.fresh n)) .nil))⟩
theorem ri_zipL {p q n : Nat} {a b : Addr} (ea : ι[p]? = some a) (eb : ι[q]? = some b) : RI (Z.g X) ι H ⟨fun h => match lstAt h p, lstAt h q with
      | some x, some y => some ((x.zip y).map fun p => .tup [p.1, p.2])
      | _, _ => none, n⟩ (Itz X.K a b) where
  go := fun ι1 h1 H1 i ds d g rh e1 e2 => by
    dsimp only at e1
    split at e1
    · rename_i x y ex ey
      cases e1
      obtain ⟨xs, sx, rx⟩ := lstAt_sq (X := X) rh ex (pre_get g.pre ea)
      obtain ⟨ys, sy, ry⟩ := lstAt_sq (X := X) rh ey (pre_get g.pre eb)
      obtain ⟨u, w, hu, hw, rfl⟩ := zip_get e2
      obtain ⟨v1, hv1, r1⟩ := rx.get hu
      obtain ⟨v2, hv2, r2⟩ := ry.get hw
      refine ⟨⟨xs, ys, v1, v2, sx, sy, hv1, hv2⟩, fun z H' ⟨T, x', y', e, n, eH, q1, q2⟩ => ?_⟩
      have a1 := q1 xs sx
      have a2 := q2 ys sy
      rw [hv1] at a1
      rw [hv2] at a2
      cases a1
      cases a2
      subst e eH
      exact pair_rd rh n r1 r2
    · cases e1
  stop := fun ι1 h1 H1 i ds g rh e1 e2 => by
    dsimp only at e1
    split at e1
    · rename_i x y ex ey
      cases e1
      obtain ⟨xs, sx, rx⟩ := lstAt_sq (X := X) rh ex (pre_get g.pre ea)
      obtain ⟨ys, sy, ry⟩ := lstAt_sq (X := X) rh ey (pre_get g.pre eb)
      exact ⟨xs, ys, sx, sy, by rw [← rx.length, ← ry.length]; exact zip_none e2⟩
    · cases e1
theorem ri_zipT {n : Nat} {a b : Addr} {x y : List D} {xs ys : List V} (sx : SqT X.K H a xs) (sy : SqT X.K H b ys) (rx : RDs (Z.g X) ι H x xs) (ry : RDs (Z.g X) ι H y ys) :
    RI (Z.g X) ι H ⟨fun _ => some ((x.zip y).map fun p => .tup [p.1, p.2]), n⟩ (RZ.ItzT X.K a b) where
  go := fun ι1 h1 H1 i ds d g rh e1 e2 => by
    cases e1
    obtain ⟨u, w, hu, hw, rfl⟩ := zip_get e2
    obtain ⟨v1, hv1, r1⟩ := (rx.mono g).get hu
    obtain ⟨v2, hv2, r2⟩ := (ry.mono g).get hw
    refine ⟨⟨xs, ys, v1, v2, g.tm.sqT sx, g.tm.sqT sy, hv1, hv2⟩, fun z H' ⟨T, x', y', e, n, eH, q1, q2⟩ => ?_⟩
    have a1 := q1 xs (g.tm.sqT sx)
    have a2 := q2 ys (g.tm.sqT sy)
    rw [hv1] at a1
    rw [hv2] at a2
    cases a1
    cases a2
    subst e eH
    exact pair_rd rh n r1 r2
  stop := fun ι1 h1 H1 i ds g rh e1 e2 => by
    cases e1
    exact ⟨xs, ys, g.tm.sqT sx, g.tm.sqT sy, by rw [← rx.length, ← ry.length]; exact zip_none e2⟩
theorem enumL_get : ∀ {x : List D} {j i : Nat} {d : D}, (enumL j x)[i]? = some d → ∃ a, x[i]? = some a ∧ d = .tup [.int ((j + i : Nat) : Int), a]
  | [], _, _, _, e => by simp [enumL] at e
  | a :: x, j, 0, d, e => by
    simp [enumL] at e
    exact ⟨a, rfl, by rw [← e]; rfl⟩
  | a :: x, j, i + 1, d, e => by
    obtain ⟨b, h1, h2⟩ := enumL_get (x := x) (j := j + 1) (i := i) (d := d) (by simpa [enumL] using e)
    refine ⟨b, by simpa using h1, ?_⟩
    rw [h2, show j + 1 + i = j + (i + 1) by omega]
theorem enumL_len : ∀ (x : List D) (j : Nat), (enumL j x).length = x.length
  | [], _ => rfl
  | a :: x, j => congrArg (· + 1) (enumL_len x (j + 1))
theorem ri_enum {p n : Nat} {a : Addr} (ea : ι[p]? = some a) : RI (Z.g X) ι H ⟨fun h => (lstAt h p).map (enumL 0), n⟩ (Ite X.K a) where
  go := fun ι1 h1 H1 i ds d g rh e1 e2 => by
    dsimp only at e1
    rw [Option.map_eq_some_iff] at e1
    obtain ⟨x, ex, rfl⟩ := e1
    obtain ⟨xs, sx, rx⟩ := lstAt_sq (X := X) rh ex (pre_get g.pre ea)
    obtain ⟨u, hu, rfl⟩ := enumL_get e2
    obtain ⟨v1, hv1, r1⟩ := rx.get hu
    refine ⟨⟨xs, v1, sx, hv1⟩, fun z H' ⟨T, x', e, n, eH, q1⟩ => ?_⟩
    have a1 := q1 xs sx
    rw [hv1] at a1
    cases a1
    subst e eH
    rw [show (0 + i) = i by omega]
    exact pair_rd rh n (.int _) r1
  stop := fun ι1 h1 H1 i ds g rh e1 e2 => by
    dsimp only at e1
    rw [Option.map_eq_some_iff] at e1
    obtain ⟨x, ex, rfl⟩ := e1
    obtain ⟨xs, sx, rx⟩ := lstAt_sq (X := X) rh ex (pre_get g.pre ea)
    refine ⟨xs, sx, ?_⟩
    have := List.getElem?_eq_none_iff.mp e2
    rw [enumL_len] at this
    rw [← rx.length]
    exact this

variable {t ta tb : Sx} {e a b : Expr} {ss : List Sx} {es : List Expr} {pos : Pos} {tg : Expr}
theorem pi_seq (hs : SS Z X W t e) : PI X tg e (trI Z X W fun en h => (t.v en h).bind itSeq) := by
  refine ⟨fun pins s σ H R I hw => ?_⟩
  obtain ⟨ι, en, h, rh, rs, p⟩ := hw
  refine thn (hs.bind I rh rs p) fun v s1 ⟨ι1, H1, h1, d, x, I1, rh1, rs1, rx, rd, g1, p1⟩ => ?_
  cases rd with
  | @tup a xs ds sq rds =>
    cases rx
    obtain ⟨its, rv, pt, hz⟩ := I1.tuple sq
    refine wpAny_pyIter_tuple (show s1.heap.IsTuple a its.toArray from pt) ?_
    refine ⟨s1.heap.objs.size, [s1.heap.objs.size], _, _, H1, rfl, I1.kept (t' := s1.toks) fun b o e => Heap.get?_push_of_some _ e, turn_tuple a _, ⟨_, Heap.get?_push_size _ rfl, rfl, rfl⟩, fun b hb => ?_, p1.ok rh1 (ri_tup sq rds)⟩
    have e : b = s1.heap.objs.size := by simpa using hb
    subst e
    exact I1.fpOk (Nat.le_refl _) (I1.hok.fresh (Nat.le_refl _))
  | @ref r a ea =>
    cases rx
    simp only [itSeq] at p1
    split at p1
    · rename_i ds e1
      obtain ⟨xs, sq, rds⟩ := lstAt_sq (X := X) rh1 e1 ea
      obtain ⟨its, rv, pl, hz⟩ := I1.list sq
      refine wpAny_pyIter_list pl.isList ?_
      refine ⟨s1.heap.objs.size, [s1.heap.objs.size], _, _, H1, rfl, I1.kept (t' := s1.toks) fun b o e => Heap.get?_push_of_some _ e, turn_list a _, ⟨_, Heap.get?_push_size _ rfl, rfl, rfl⟩, fun b hb => ?_, p1.ok rh1 (ri_list ea)⟩
      have e : b = s1.heap.objs.size := by simpa using hb
      subst e
      exact I1.fpOk (Nat.le_refl _) (I1.hok.fresh (Nat.le_refl _))
    · exact p1.elim
  | str z =>
    obtain ⟨tt, rfl⟩ := rx
    have q := p1.ok rh1 ri_str
    cases ha : z.cps.all (· < 128)
    · exact wpAny_pyIter_wide ha (pi_one (tk := s1.toks) I1 _ (turn_str _ z tt "str_iterator" (.inr rfl)) ⟨_, Heap.get?_push_size _ rfl, rfl, rfl⟩ q)
    · exact wpAny_pyIter_ascii ha (pi_one (tk := s1.toks) I1 _ (turn_str _ z tt "str_ascii_iterator" (.inl rfl)) ⟨_, Heap.get?_push_size _ rfl, rfl, rfl⟩ q)
  | _ => exact p1.elim
theorem pi_rng1 (g : Good Z k X W) {pn : Pos} (hg : Gl X "range") (ha : SS Z X W ta a) (hn : notStar a = true) : PI X tg (.Call (.Name "range" pn) [a] [] pos) (trI Z X W fun en h => (ta.v en h).bind fun x h => itRng (.int 0) x h) := by
  refine ⟨fun pins s σ H R I hw => ?_⟩
  obtain ⟨ι, en, h, rh, rs, p⟩ := hw
  refine (pi_range1 hg (g.bt _ (by decide)) (SSs.cons ha hn .nil).pa (starEach_cons hn)).run pins s σ H R I ⟨ι, en, h, rh, rs, ?_⟩
  show Post _ W _ ι σ H ((ta.v en h).bind fun x h => .ok [x] h) _
  have key : ∀ (r : Res D), Post (RI (Z.g X)) W (Z.g X) ι σ H (r.bind fun x h => itRng (.int 0) x h) R → Post (RDs (Z.g X)) W (Z.g X) ι σ H (r.bind fun x h => .ok [x] h) (fun vs H1 => ∃ j : Int, vs = [.int j] ∧ -(2 ^ 62) ≤ j ∧ j < 2 ^ 62 ∧ R (L2.Itr 0 j.toNat) H1) := by
    intro r p
    cases r with
    | ok d h1 =>
      intro ι1 H1 vs g1 rh1 rds
      obtain ⟨v, rfl, rv⟩ := rds.one
      have p1 : Post (RI (Z.g X)) W (Z.g X) ι1 σ H1 (itRng (.int 0) d h1) R := Post.mono g1 p
      cases rv with
      | int j =>
        simp only [itRng] at p1
        split at p1
        · rename_i hz
          have q := p1.ok rh1 ri_rng
          exact ⟨j, rfl, hz.2.2.1, hz.2.2.2, by simpa using q⟩
        · exact p1.elim
      | _ => exact p1.elim
    | exc c fs h1 => exact p
    | bad => exact p
  exact key _ p
theorem pi_rng2 (g : Good Z k X W) {pn : Pos} (hg : Gl X "range") (ha : SS Z X W ta a) (hn : notStar a = true) (hb : SS Z X W tb b) (hn2 : notStar b = true) :
    PI X tg (.Call (.Name "range" pn) [a, b] [] pos) (trI Z X W fun en h => (ta.v en h).bind fun x h => (tb.v en h).bind fun y h => itRng x y h) := by
  refine ⟨fun pins s σ H R I hw => ?_⟩
  obtain ⟨ι, en, h, rh, rs, p⟩ := hw
  have e2 : starEach [b] X.env = [(false, eval b X.env)] := starEach_cons hn2
  refine (pi_range2 hg (g.bt _ (by decide)) (SSs.cons ha hn (SSs.cons hb hn2 .nil)).pa (by rw [starEach_cons hn, e2]) e2).run pins s σ H R I ⟨ι, en, h, rh, rs, ?_⟩
  dsimp only at p
  show Post _ W _ ι σ H ((ta.v en h).bind fun x h => ((tb.v en h).bind fun y h => .ok [y] h).bind fun xs h => .ok (x :: xs) h) _
  cases ea : ta.v en h with
  | ok d h1 =>
    rw [ea] at p
    show Post _ W _ ι σ H (((tb.v en h1).bind fun y h => .ok [y] h).bind fun xs h => .ok (d :: xs) h) _
    have p : Post (RI (Z.g X)) W (Z.g X) ι σ H ((tb.v en h1).bind fun y h => itRng d y h) R := p
    cases eb : tb.v en h1 with
    | ok d2 h2 =>
      rw [eb] at p
      intro ι1 H1 vs g1 rh1 rds
      obtain ⟨v, w, rfl, rv, rw'⟩ := rds.two
      have p1 : Post (RI (Z.g X)) W (Z.g X) ι1 σ H1 (itRng d d2 h2) R := Post.mono g1 p
      cases rv with
      | int i =>
        cases rw' with
        | int j =>
          simp only [itRng] at p1
          split at p1
          · rename_i hz
            exact ⟨i, j, rfl, hz, p1.ok rh1 ri_rng⟩
          · exact p1.elim
        | _ => exact p1.elim
      | _ => cases rw' <;> exact p1.elim
    | exc c fs h2 => rw [eb] at p; exact p
    | bad => rw [eb] at p; exact p
  | exc c fs h1 => rw [ea] at p; exact p
  | bad => rw [ea] at p; exact p
theorem pi_zipS (g : Good Z k X W) {pn tpos : Pos} {elts : List Expr} {kk : Nat} (hg : Gl X "zip") (ha : SS Z X W ta a) (hn : notStar a = true) (hb : SS Z X W tb b) (hn2 : notStar b = true) :
    PI X (.Tuple elts kk tpos) (.Call (.Name "zip" pn) [a, b] [] pos) (trI Z X W fun en h => (ta.v en h).bind fun x h => (tb.v en h).bind fun y h => itZip x y h) := by
  refine ⟨fun pins s σ H R I hw => ?_⟩
  obtain ⟨ι, en, h, rh, rs, p⟩ := hw
  refine (RZ.pi_zipA hg (g.bt _ (by decide)) (SSs.cons ha hn (SSs.cons hb hn2 .nil)).pa (starEach_cons hn) (SSs.cons hb hn2 .nil).few).run pins s σ H R I ⟨ι, en, h, rh, rs, ?_⟩
  dsimp only at p
  show Post _ W _ ι σ H ((ta.v en h).bind fun x h => ((tb.v en h).bind fun y h => .ok [y] h).bind fun xs h => .ok (x :: xs) h) _
  cases ea : ta.v en h with
  | ok d h1 =>
    rw [ea] at p
    show Post _ W _ ι σ H (((tb.v en h1).bind fun y h => .ok [y] h).bind fun xs h => .ok (d :: xs) h) _
    have p : Post (RI (Z.g X)) W (Z.g X) ι σ H ((tb.v en h1).bind fun y h => itZip d y h) R := p
    cases eb : tb.v en h1 with
    | ok d2 h2 =>
      rw [eb] at p
      intro ι1 H1 vs g1 rh1 rds
      obtain ⟨v, w, rfl, rv, rw'⟩ := rds.two
      have p1 : Post (RI (Z.g X)) W (Z.g X) ι1 σ H1 (itZip d d2 h2) R := Post.mono g1 p
      cases rv with
      | @ref n1 a1 ea1 =>
        cases rw' with
        | @ref n2 a2 ea2 =>
          simp only [itZip] at p1
          split at p1
          · rename_i x y ex ey
            obtain ⟨xs, sx, rx⟩ := lstAt_sq (X := X) rh1 ex ea1
            obtain ⟨ys, sy, ry⟩ := lstAt_sq (X := X) rh1 ey ea2
            exact ⟨_, _, xs, ys, rfl, .inl ⟨sx, sy, p1.ok rh1 (ri_zipL ea1 ea2)⟩⟩
          · exact p1.elim
        | _ => exact p1.elim
      | tup sx rx =>
        cases rw' with
        | tup sy ry => exact ⟨_, _, _, _, rfl, .inr ⟨sx, sy, p1.ok rh1 (ri_zipT sx sy rx ry)⟩⟩
        | _ => exact p1.elim
      | _ => cases rw' <;> exact p1.elim
    | exc c fs h2 => rw [eb] at p; exact p
    | bad => rw [eb] at p; exact p
  | exc c fs h1 => rw [ea] at p; exact p
  | bad => rw [ea] at p; exact p
theorem pi_enumS (g : Good Z k X W) {pn tpos : Pos} {elts : List Expr} {kk : Nat} (hg : Gl X "enumerate") (ha : SS Z X W ta a) (hn : notStar a = true) :
    PI X (.Tuple elts kk tpos) (.Call (.Name "enumerate" pn) [a] [] pos) (trI Z X W fun en h => (ta.v en h).bind itEnum) := by
  refine ⟨fun pins s σ H R I hw => ?_⟩
  obtain ⟨ι, en, h, rh, rs, p⟩ := hw
  refine (pi_enum hg (g.bt _ (by decide)) (SSs.cons ha hn .nil).pa (starEach_cons hn)).run pins s σ H R I ⟨ι, en, h, rh, rs, ?_⟩
  dsimp only at p
  show Post _ W _ ι σ H ((ta.v en h).bind fun x h => .ok [x] h) _
  cases ea : ta.v en h with
  | ok d h1 =>
    rw [ea] at p
    intro ι1 H1 vs g1 rh1 rds
    obtain ⟨v, rfl, rv⟩ := rds.one
    have p1 : Post (RI (Z.g X)) W (Z.g X) ι1 σ H1 (itEnum d h1) R := Post.mono g1 p
    cases rv with
    | ref ea1 =>
      simp only [itEnum] at p1
      split at p1
      · rename_i x ex
        obtain ⟨xs, sx, rx⟩ := lstAt_sq (X := X) rh1 ex ea1
        exact ⟨_, xs, rfl, sx, p1.ok rh1 (ri_enum ea1)⟩
      · exact p1.elim
    | _ => exact p1.elim
  | exc c fs h1 => rw [ea] at p; exact p
  | bad => rw [ea] at p; exact p

/-! ### targets -/
def trG (Z : Wd) (X : Cx) (t : Tg) : TG := fun v σ H Q => ∃ ι en d en', RD (Z.g X) ι H d v ∧ RS (Z.g X) ι H en σ ∧ bindTg t d en = some en' ∧ ∀ σ', RS (Z.g X) ι H en' σ' → σ'.length = σ.length → (∀ j, j ∉ tgVars t → σ'[j]? = σ[j]?) → Q σ' H
def putAll (en : En) (l : List (Nat × D)) : En := l.foldl (fun e p => e.set p.1 (some p.2)) en
def gIs : List Nat → TGs
  | [] => gNil
  | i :: is => gCons (gName i) (gIs is)
theorem gIs_ok {G : Gx} {Q : L2.St → Hp → Prop} : ∀ (is : List Nat) {ds : List D} {xs : List V} {en : En} {σ : L2.St}, RDs G ι H ds xs → ds.length = is.length → RS G ι H en σ →
    (∀ σ', RS G ι H (putAll en (is.zip ds)) σ' → σ'.length = σ.length → (∀ j, j ∉ is → σ'[j]? = σ[j]?) → Q σ' H) → gIs is xs σ H Q
  | [], _, _, en, σ, .nil, _, rs, q => ⟨rfl, q σ rs rfl fun _ _ => rfl⟩
  | i :: is, _, _, en, σ, .cons (d := d) (v := v) rd rds, hl, rs, q => by
    refine ⟨_, _, rfl, ?_⟩
    show gIs is _ (σ.set i (some v)) H Q
    refine gIs_ok is rds (by simpa using hl) (rs.put rd i) fun σ' r1 r2 r3 => q σ' r1 (by rw [r2, List.length_set]) fun j hj => ?_
    simp only [List.mem_cons, not_or] at hj
    rw [r3 j hj.2, List.getElem?_set_ne (fun e => hj.1 e.symm)]
structure TnOk (X : Cx) (i : Nat) (e : Expr) : Prop where
  ex : ∃ x p, e = .Name x p ∧ X.N[i]? = some x ∧ Loc X.env.scope x ∧ (X.fn x = true ∨ X.env.scope.names.lookup x = some .local)
theorem tn_of {fc : Str → Bool} (hf : ∀ x, fc x = true → X.fn x = true) {i : Nat} (h : tnB X.N X.env.scope fc i e = true) : TnOk X i e := by
  unfold tnB at h
  split at h
  · rename_i x p
    rw [Bool.and_eq_true] at h
    obtain ⟨h1, h2⟩ := h
    refine ⟨x, p, rfl, of_decide_eq_true h1, ?_⟩
    split at h2
    · rename_i e1
      exact ⟨.inl e1, .inr e1⟩
    · rename_i e1
      exact ⟨.inr e1, .inl (hf x h2)⟩
    · cases h2
  · cases h
theorem tn_pg (g : X.N.Nodup) {i : Nat} (h : TnOk X i e) : PG X e (gName i) := by
  obtain ⟨x, p, rfl, h1, h2, h3⟩ := h.ex
  exact pg_name g h1 h2 h3
theorem tns_pg (g : X.N.Nodup) {fc : Str → Bool} (hf : ∀ x, fc x = true → X.fn x = true) : ∀ {is : List Nat} {es : List Expr}, tnsB X.N X.env.scope fc is es = true → PGs X es (gIs is) ∧ (assignEach es X.env).length = is.length ∧ (assignEach es X.env).findIdx? (·.1) = none
  | [], [], _ => ⟨pgs_nil, rfl, rfl⟩
  | i :: is, e :: es, h => by
    have h : (tnB X.N X.env.scope fc i e && tnsB X.N X.env.scope fc is es) = true := h
    rw [Bool.and_eq_true] at h
    obtain ⟨r1, r2, r3⟩ := tns_pg g hf h.2
    have tn := tn_of hf h.1
    obtain ⟨x, p, rfl, _⟩ := id tn.ex
    refine ⟨pgs_cons (tn_pg g tn) r1, ?_, ?_⟩
    · show (assignEach es X.env).length + 1 = is.length + 1
      rw [r2]
    · show (((false, assign (.Name x p) X.env) :: assignEach es X.env).findIdx? (·.1)) = none
      rw [List.findIdx?_cons, r3]
      rfl
  | [], _ :: _, h => nomatch h
  | _ :: _, [], h => nomatch h
theorem tg_pg (g : X.N.Nodup) (hc : X.calm = true) {fc : Str → Bool} (hf : ∀ x, fc x = true → X.fn x = true) {t : Tg} (h : tgB X.N X.env.scope fc t e = true) : PG X e (trG Z X t) := by
  cases t with
  | var i =>
    have tn := tn_of hf (i := i) (e := e) (by cases e <;> exact h)
    refine ⟨fun pins s σ H v u Q I r hw => ?_⟩
    obtain ⟨ι, en, d, en', rd, rs, hb, q⟩ := hw
    cases hb
    exact (tn_pg g tn).run pins s σ H v u Q I r (q _ (rs.put rd i) (by rw [List.length_set]) fun j hj => by
      have : i ≠ j := fun z => hj (by rw [z]; exact List.mem_cons_self)
      rw [List.getElem?_set_ne this])
  | tup is =>
    cases e with
    | Tuple es j p =>
      obtain ⟨r1, r2, r3⟩ := tns_pg g hf (is := is) (es := es) h
      refine ⟨fun pins s σ H v u Q I r hw => ?_⟩
      obtain ⟨ι, en, d, en', rd, rs, hb, q⟩ := hw
      refine (pg_tup hc r1 r2 r3).run pins s σ H v u Q I r ?_
      cases rd with
      | tup sq rds =>
        simp only [bindTg] at hb
        split at hb
        · rename_i hl
          cases hb
          exact ⟨_, _, rfl, sq, by rw [← rds.length]; exact hl, gIs_ok is rds hl rs q⟩
        · cases hb
      | _ => cases hb
    | _ => exact absurd h Bool.false_ne_true
end
end MP
namespace MP
open PySem PySem.Spec PyProof.Rows L2
theorem wipe_at : ∀ {vs : List Nat} {σ : L2.St} {i : Nat}, i ∈ vs → (wipe σ vs)[i]? = if i < σ.length then some none else none
  | v :: vs, σ, i, h => by
    show ((wipe σ vs).set v none)[i]? = _
    by_cases e : v = i
    · subst e
      by_cases hl : v < σ.length
      · rw [List.getElem?_set_self (by rw [wipe_length]; exact hl), if_pos hl]
      · rw [if_neg hl, List.getElem?_eq_none (by rw [List.length_set, wipe_length]; omega)]
    · rw [List.getElem?_set_ne e]
      rcases List.mem_cons.mp h with z | z
      · exact absurd z.symm e
      · exact wipe_at z
theorem wipe_same {vs : List Nat} {σ σ' : L2.St} (hl : σ'.length = (wipe σ vs).length) (ho : ∀ j, j ∉ vs → σ'[j]? = (wipe σ vs)[j]?) : wipe σ' vs = wipe σ vs := by
  apply List.ext_getElem?
  intro i
  by_cases h : i ∈ vs
  · rw [wipe_at h, wipe_at h, hl, wipe_length]
  · rw [wipe_out h]
    exact ho i h
def WNo : WX := fun _ _ _ _ => False
section
variable {Z : Wd} {k : Nat} {X : Cx} {W : WX}
variable {pins : List (Addr × Obj)} {s : Shared} {σ : L2.St} {H : Hp} {ι : List Addr} {h : AH} {en : En}
theorem Good.blk (g : Good Z k X W) {s : Shared} {H : Hp} {scope : Scope} {cenv : Env} {fp : List Addr} : Good Z k (X.blk s H scope cenv fp) WNo :=
  ⟨g.nd, fun u s' ⟨_, _, _, _, _, _, _, _, _, _, _, _, _, _, _, _, w⟩ => w.elim, g.calm, g.room, g.gd, g.bt, g.cl, g.na⟩
theorem Lv.blk {T : Tb} {c : Cg} (l : Lv T Z c k X) {s : Shared} {H : Hp} {scope : Scope} {C : Addr} {cl : List (Str × Addr)} {fp : List Addr} : Lv T Z c k (X.blk s H scope (compEnvC scope cl C X.env) fp) :=
  ⟨l.glo, l.fn, l.cls, l.met, fun Y V q => l.cal Y V ⟨q.prog, q.w, q.K, q.mg, q.base⟩, fun Y V q => l.mak Y V ⟨q.prog, q.w, q.K, q.mg, q.base⟩, l.fns, l.ecl, l.xfc, l.exm, l.isk, l.isc, l.fnk, l.ok, l.lam, fun t Y V q => l.lcl t Y V ⟨q.prog, q.w, q.K, q.mg, q.base⟩, fun t Y V q => l.mke t Y V ⟨q.prog, q.w, q.K, q.mg, q.base⟩, l.xis, l.xkc⟩
theorem LvE.blk {T : Tb} {c : Cg} (l : LvE T Z c k X) {s : Shared} {H : Hp} {scope : Scope} {C : Addr} {cl : List (Str × Addr)} {fp : List Addr} : LvE T Z c k (X.blk s H scope (compEnvC scope cl C X.env) fp) := ⟨l.toLv.blk, l.lower⟩
theorem pts_of {cs : List Sx} {ifs : List Expr} (r : SSs Z X W cs ifs) (hl : ifs.length ≤ 1) : PTs X ifs (trB Z X W (conT cs)) := by
  cases r with
  | nil => exact ⟨fun pins s σ H Q I ⟨ι, en, h, rh, rs, p⟩ => pts_nil.run pins s σ H Q I (p.ok rh rfl)⟩
  | cons hs hn hr =>
    cases hr with
    | nil =>
      refine ⟨fun pins s σ H Q I hw => ?_⟩
      obtain ⟨ι, en, h, rh, rs, p⟩ := hw
      refine (pts_one hs.pt).run pins s σ H Q I ⟨ι, en, h, rh, rs, (Post.bind relB p).imp fun b H1 ⟨ι1, b', h1, g1, rh1, eb, p1⟩ => ?_⟩
      cases (show b' = b from eb)
      cases b with
      | true => exact p1.ok rh1 rfl
      | false => exact p1.ok rh1 rfl
    | cons _ _ _ => exact absurd hl (by simp)
variable {pos : Pos} {tg iter elt : Expr} {ifs : List Expr}
theorem lc_read {own : List (Str × Nat)} {t : Tg} {itf : En → AH → Res Itr} {cs : List Sx} {tf : Sx} {Q : VK} (hvs : own.map (·.2) = tgVars t) (rh : RH (Z.g X) ι h H) (rs : RS (Z.g X) ι H en σ)
    (p : Post (RD (Z.g X)) W (Z.g X) ι σ H (lcE t itf cs tf en h) Q) : tLc (trI Z X W itf) (trG Z X t) (trB Z X WNo (conT cs)) (trD Z X WNo tf.v) (own.map (·.2)) σ H Q := by
  rw [hvs]
  refine ⟨ι, en, h, rh, rs, (Post.bind (RI (Z.g X)) p).imp fun J H1 ⟨ι1, I', h1, g1, rh1, ri, p1⟩ D hD => ?_⟩
  refine ⟨fun i m H2 => ∃ ι2 h2 acc vs, Gr ι1 H1 ι2 H2 ∧ RH (Z.g X) ι2 h2 H2 ∧ D ∉ ι2 ∧ H2 D = some (.lst vs) ∧ RDs (Z.g X) ι2 H2 acc vs ∧
    Post (RD (Z.g X)) W (Z.g X) ι1 σ H1 ((lcGo t (tgVars t) I' (conT cs) tf.v en m i acc h2).bind fun ds h => alloc (.lst ds) h) Q,
    ⟨I'.turns, ι1, h1, [], [], Gr.fresh hD, rh1.other hD, rh1.notin hD, upd_same, .nil, p1⟩, ?_⟩
  rintro i m H2 ⟨ι2, h2, acc, vs, gr, rh2, nD, eD, rv, pp⟩
  cases m with
  | zero => exact pp.elim
  | succ m =>
    cases hI : I'.rd h2 with
    | none => simp only [lcGo, hI] at pp; exact pp.elim
    | some ds =>
      cases hd : ds[i]? with
      | none =>
        simp only [lcGo, hI, hd] at pp
        exact .inl ⟨ri.stop ι2 h2 H2 i ds gr rh2 hI hd, pp.ok' (gr.adopt hD) (rh2.adopt nD eD (.lst eD (rv.mono2 (List.prefix_append _ _) (TM.refl _)))) (.ref rh2.new)⟩
      | some d =>
        obtain ⟨hgo, hy⟩ := ri.go ι2 h2 H2 i ds d gr rh2 hI hd
        refine .inr ⟨hgo, _, fun H' w => ⟨m, Nat.lt_succ_self m, w⟩, fun x H' y => ?_⟩
        obtain ⟨rh3, g3, rd⟩ := hy x H' y
        cases hb : bindTg t d (wipeE en (tgVars t)) with
        | none => simp only [lcGo, hI, hd, hb] at pp; exact pp.elim
        | some e1 =>
          refine ⟨ι2, wipeE en (tgVars t), d, e1, rd, (((rs.mono g1).mono gr).mono g3).wipe _, hb, fun σ' rs' len' out => ⟨wipe_same len' out, ι2, e1, h2, rh3, rs', ?_⟩⟩
          cases hc : conT cs e1 h2 with
          | exc c fs h3 => simp only [lcGo, hI, hd, hb, hc] at pp; exact pp.elim
          | bad => simp only [lcGo, hI, hd, hb, hc] at pp; exact pp.elim
          | ok b h3 =>
            intro ι3 H3 v g4 rh4 ev
            cases (show b = v from ev)
            have g34 := g3.trans g4
            have nD3 : D ∉ ι3 := g34.notin nD eD
            have eD3 : H3 D = some (.lst vs) := g34.fr D _ nD eD fun ps z => by cases z
            cases b with
            | false =>
              simp only [lcGo, hI, hd, hb, hc] at pp
              exact ⟨ι3, h3, acc, vs, gr.trans g34, rh4, nD3, eD3, rv.mono g34, pp⟩
            | true =>
              refine ⟨ι3, e1, h3, rh4, rs'.mono g4, ?_⟩
              cases hf : tf.v e1 h3 with
              | exc c fs h4 => simp only [lcGo, hI, hd, hb, hc, hf] at pp; exact pp.elim
              | bad => simp only [lcGo, hI, hd, hb, hc, hf] at pp; exact pp.elim
              | ok d' h4 =>
                intro ι4 H4 y g5 rh5 rd'
                simp only [lcGo, hI, hd, hb, hc, hf] at pp
                split at pp
                · rename_i hz
                  have g345 := g34.trans g5
                  have nD4 : D ∉ ι4 := g345.notin nD eD
                  have eD4 : H4 D = some (.lst vs) := g345.fr D _ nD eD fun ps z => by cases z
                  have tm : TM H4 (upd H4 D (.lst (vs ++ [y]))) := TM.upd fun u' e' => by rw [eD4] at e'; cases e'; trivial
                  exact ⟨vs, eD4, by rw [← rv.length]; exact hz, ι4, h4, acc ++ [d'], vs ++ [y], (gr.trans g345).side hD eD4 trivial, rh5.side nD4 eD4 trivial, nD4, upd_same,
                    ((rv.mono g345).mono2 (List.prefix_refl _) tm).snoc (rd'.mono2 (List.prefix_refl _) tm), pp⟩
                · exact pp.elim
theorem lc_pe (g : Good Z k X W) {scope : Scope} {own : List (Str × Nat)} {t : Tg} {itf : En → AH → Res Itr} {cs : List Sx} {tf : Sx} (hi : PI X tg iter (trI Z X W itf)) (ok : BlkOk X.N X.env.scope scope own) (hvs : own.map (·.2) = tgVars t)
    (hg : ∀ (s : Shared) (H : Hp) (C : Addr) (cl : List (Str × Addr)) (fp : List Addr), PG (X.blk s H scope (compEnvC scope cl C X.env) fp) tg (trG Z X t))
    (ht : ∀ (s : Shared) (H : Hp) (C : Addr) (cl : List (Str × Addr)) (fp : List Addr), PTs (X.blk s H scope (compEnvC scope cl C X.env) fp) ifs (trB Z X WNo (conT cs)))
    (he : ∀ (s : Shared) (H : Hp) (C : Addr) (cl : List (Str × Addr)) (fp : List Addr), PE (X.blk s H scope (compEnvC scope cl C X.env) fp) elt (trD Z X WNo tf.v))
    (hs : ∀ x, foldedSetIterable iter X.env x = pure x) : PE X (.ListComp elt [⟨tg, iter, ifs, 0⟩] scope pos) (trD Z X W (lcE t itf cs tf)) := by
  refine ⟨fun pins s σ H Q I hw => ?_⟩
  obtain ⟨ι, en, h, rh, rs, p⟩ := hw
  exact (pe_lc g.calm g.nd hi ok hg ht he hs).run pins s σ H Q I (lc_read hvs rh rs p)
theorem fset_of {e : Expr} {env : Env} (h : notSet e = true) : ∀ x, foldedSetIterable e env x = pure x := by
  intro x
  cases e <;> first | rfl | cases h
theorem var_ok {α β : Type} {rel : List Addr → Hp → α → β → Prop} {G : Gx} {i : Nat} {Q : β → Hp → Prop} {f : D → AH → Res α} (rs : RS G ι H en σ) (p : Post rel W G ι σ H ((varE i en h).bind f) Q) : ∃ d v, σ[i]? = some (some v) ∧ RD G ι H d v ∧ Post rel W G ι σ H (f d h) Q := by
  unfold varE at p
  split at p
  · exact p.elim
  · rename_i d n ed
    obtain ⟨v, ev, rd⟩ := rs.val i d ed fun z => n (by rw [z])
    exact ⟨d, v, ev, rd, p⟩
  · exact p.elim
theorem var_pe {i : Nat} {x : Str} (hN : X.N[i]? = some x) (hv : visB X.env.scope x = true) (hd : dbg x = false) : PE X (.Name x pos) (trD Z X W fun e h => varE i e h) := by
  refine ⟨fun pins s σ H Q I hw => ?_⟩
  obtain ⟨ι, en, h, rh, rs, p⟩ := hw
  unfold dbg at hd
  simp only [Bool.or_eq_false_iff] at hd
  refine (pe_var hN (vis_of hv) hd.1.1 hd.1.2).run pins s σ H Q I ?_
  have p : Post (RD (Z.g X)) W (Z.g X) ι σ H ((varE i en h).bind fun d h => .ok d h) Q := by rw [Res.bind_ok]; exact p
  obtain ⟨d, v, ev, rd, p⟩ := var_ok rs p
  exact ⟨v, ev, p.ok rh rd⟩
theorem glo_pe {T : Tb} {c : Cg} (lv : Lv T Z c k X) {g : Nat} {x : Str} (hN : T.gl[g]? = some x) (hg : gloB X.env.scope x = true) (hd : dbg x = false) : PE X (.Name x pos) (trD Z X W fun _ h => ofOpt (c.glo g) h) := by
  refine ⟨fun pins s σ H Q I hw => ?_⟩
  obtain ⟨ι, en, h, rh, rs, p⟩ := hw
  unfold dbg at hd
  simp only [Bool.or_eq_false_iff] at hd
  obtain ⟨d, ed, p⟩ := ofOpt_ok p
  obtain ⟨v, u, hm, rv, rd⟩ := lv.glo g x d hN ed
  exact (pe_glob (gl_of hg) hm rv hd.1.1).run pins s σ H Q I (p.ok rh (rd ι H))
end
end MP
namespace MP
open PySem PySem.Spec PyProof.Rows L2
theorem and2 {a b : Bool} (h : (a && b) = true) : a = true ∧ b = true := by rwa [Bool.and_eq_true] at h
section
variable {Z : Wd} {k : Nat} {X : Cx} {W : WX} {T : Tb} {c : Cg}
variable {pins : List (Addr × Obj)} {s : Shared} {σ : L2.St} {H H' : Hp} {ι ι' : List Addr} {h : AH} {en : En}
variable {t ta : Sx} {e a : Expr} {ss : List Sx} {es : List Expr} {pos : Pos}

/-! ### a value that is called -/
theorem cal_pe (lv : Lv T Z c k X) (g : Good Z k X W) {i : Nat} {x : Str} {pn : Pos} (hN : X.N[i]? = some x) (hv : visB X.env.scope x = true) (hd : dbg x = false) (r : SSs Z X W ss es) :
    PE X (.Call (.Name x pn) es [] pos) (trD Z X W fun e h => (varE i e h).bind fun x h => (fnD x h).bind fun g h => (seqE ss e h).bind fun ds h => c.call g ds h) := by
  refine ⟨fun pins s σ H Q I hw => ?_⟩
  obtain ⟨ι, en, h, rh, rs, p⟩ := hw
  refine wpAny_Call_Name_kw (thn ((var_pe hN hv hd).run pins s σ H _ I ⟨ι, en, h, rh, rs, Post.bind (RD (Z.g X)) p⟩) fun v s1 ⟨y, H1, I1, ry, ι1, d, h1, g1, rh1, rd, p1⟩ => ?_)
  cases rd with
  | @fn gg ad ea =>
    have cs := lv.cal X W ⟨rfl, rfl, rfl, rfl, rfl⟩ g gg ad ea
    have hk := lv.fnk gg ad ea
    cases ry
    cases r with
    | nil => exact PySem.W.callWith_K0 I1.kIn hk (cs pins s1 σ H1 ι1 h1 [] [] [] Q I1 rh1 .nil .nil p1)
    | cons hs hn hr =>
      exact PySem.W.callWith_K (h₀ := X.base) I1.ok.mod.kin hk (thn ((SSs.cons hs hn hr).bind (pos := pos) I1 rh1 (rs.mono g1) p1) fun us s2 ⟨ι2, H2, h2, ds, xs, I2, rh2, rs2, rxs, rds, g2, p2⟩ => ⟨I2.kIn, cs pins s2 σ H2 ι2 h2 ds xs us Q I2 rh2 rds rxs p2⟩) (starEach_cons hn) hr.few
  | _ => exact p1.elim

/-! ### isinstance -/
theorem kd_ty (lv : Lv T Z c k X) (g : Good Z k X W) {d : D} {x : V} {kd : Kd} (rh : RH (Z.g X) ι h H) (rd : RD (Z.g X) ι H d x) (e : kindD h d = some kd) : ∃ t, TyX X.K H x t ∧ KdV Z kd t := by
  cases rd with
  | non => cases e; exact ⟨_, .base .non, .non⟩
  | bl b => cases e; exact ⟨_, .base (.bl b), .bool⟩
  | int i => cases e; exact ⟨_, .base (.int i), .int⟩
  | str z => cases e; exact ⟨_, .base (.str z), .str⟩
  | tup sq r =>
    cases e
    rcases sq with (l | ⟨o, l⟩) | ⟨o, its, n, l, hc, _⟩
    · exact ⟨_, .base (.tup l), .tup⟩
    · exact ⟨_, .fTuple l, .tup⟩
    · exact ⟨_, .kTuple l hc, .tup⟩
  | ref ea =>
    simp only [kindD] at e
    split at e
    · rename_i e1
      cases e
      cases rh.at e1 ea with
      | lst l r => exact ⟨_, .base (.lst l), .lst⟩
    · rename_i e1
      cases e
      cases rh.at e1 ea with
      | fls l r => exact ⟨_, .base (.frz l), .lst⟩
    · rename_i e1
      cases e
      cases rh.at e1 ea with
      | dct l r => exact ⟨_, .base (.dK l), .dct⟩
    · rename_i e1
      cases e
      cases rh.at e1 ea with
      | ins ec l r =>
        obtain ⟨ha, hn, htk, hm⟩ := lv.isc _ _ ec
        exact ⟨_, .base (.ins l (g.cl _ _ ec) ha hn htk hm), .ins ec⟩
    · cases e
  | _ => cases e
theorem ty_pe (lv : Lv T Z c k X) (g : Good Z k X W) {ty : Ty} {e : Expr} (h : tyN T X.env.scope ty e = true) : ∃ v u, PE X e (tC v) ∧ ClsV v u ∧ TyW Z ty u ∧ notStar e = true := by
  have bi : ∀ {x : Str} {n : String} {pn : Pos}, x = Str.ofString n → Gl X x → X.mg x = none → bootBuiltins x = some (.type n) → x ≠ "__name__" → (x == ("__debug__" : Str)) = false → PE X (.Name x pn) (tC (.ty n)) := fun _ hg hm hb h1 h2 => pe_bltn hg hm hb rfl h1 h2
  cases e with
  | Name x pn =>
    cases ty with
    | int =>
      obtain ⟨h1, h2⟩ := and2 (show (decide (x = ("int" : Str)) && gloB X.env.scope x) = true from h)
      have h1 := of_decide_eq_true h1
      subst h1
      exact ⟨_, _, bi rfl (gl_of h2) (g.bt _ (by decide)) (boots .int rfl) (by decide) (by decide), .ty _, .int, rfl⟩
    | bool =>
      obtain ⟨h1, h2⟩ := and2 (show (decide (x = ("bool" : Str)) && gloB X.env.scope x) = true from h)
      have h1 := of_decide_eq_true h1
      subst h1
      exact ⟨_, _, bi rfl (gl_of h2) (g.bt _ (by decide)) PyProof.Rows.boot_bool (by decide) (by decide), .ty _, .bool, rfl⟩
    | str =>
      obtain ⟨h1, h2⟩ := and2 (show (decide (x = ("str" : Str)) && gloB X.env.scope x) = true from h)
      have h1 := of_decide_eq_true h1
      subst h1
      exact ⟨_, _, bi rfl (gl_of h2) (g.bt _ (by decide)) (boots .str rfl) (by decide) (by decide), .ty _, .str, rfl⟩
    | tup =>
      obtain ⟨h1, h2⟩ := and2 (show (decide (x = ("tuple" : Str)) && gloB X.env.scope x) = true from h)
      have h1 := of_decide_eq_true h1
      subst h1
      exact ⟨_, _, bi rfl (gl_of h2) (g.bt _ (by decide)) (boots .tup rfl) (by decide) (by decide), .ty _, .tup, rfl⟩
    | lst =>
      obtain ⟨h1, h2⟩ := and2 (show (decide (x = ("list" : Str)) && gloB X.env.scope x) = true from h)
      have h1 := of_decide_eq_true h1
      subst h1
      exact ⟨_, _, bi rfl (gl_of h2) (g.bt _ (by decide)) (boots .lst rfl) (by decide) (by decide), .ty _, .lst, rfl⟩
    | cls j =>
      have h : (decide (T.cs[j]? = some x) && gloB X.env.scope x && !dbg x) = true := h
      obtain ⟨h, h3⟩ := and2 h
      obtain ⟨h1, h2⟩ := and2 h
      obtain ⟨C, hm, hC, _⟩ := lv.cls j x (of_decide_eq_true h1)
      have h3 := Bool.not_eq_true' _ |>.mp h3
      unfold dbg at h3
      simp only [Bool.or_eq_false_iff] at h3
      exact ⟨.ref C, .ref C, pe_glob (gl_of h2) hm rfl h3.1.1, .own C, .cls hC, rfl⟩
  | _ => cases ty <;> exact absurd h Bool.false_ne_true
theorem tys_pa (lv : Lv T Z c k X) (g : Good Z k X W) : ∀ {ts : List Ty} {es : List Expr}, tyNs T X.env.scope ts es = true → ∃ vs us, PA X es (fun _ H Q => Q vs H) ∧ Paired ClsV vs us ∧ Paired (TyW Z) ts us
  | [], [], _ => ⟨[], [], ⟨fun pos pins s σ H Q I q => pa_nil.run pos pins s σ H Q I q⟩, .nil, .nil⟩
  | t :: ts, e :: es, h => by
    obtain ⟨h1, h2⟩ := and2 (show (tyN T X.env.scope t e && tyNs T X.env.scope ts es) = true from h)
    obtain ⟨v, u, p1, p2, p3, p4⟩ := ty_pe lv g h1
    obtain ⟨vs, us, q1, q2, q3⟩ := tys_pa lv g h2
    exact ⟨v :: vs, u :: us, ⟨fun pos pins s σ H Q I q => (pa_cons p1 q1 (starEach_cons p4)).run pos pins s σ H Q I q⟩, .cons p2 q2, .cons p3 q3⟩
  | [], _ :: _, h => nomatch h
  | _ :: _, [], h => nomatch h
theorem any_kit (lv : Lv T Z c k X) {kd : Kd} {t : Value} (hk : KdV Z kd t) : ∀ {ts : List Ty} {us : List Value}, Paired (TyW Z) ts us → PySem.W.kitAny X.K t us = some (ts.any (isTy kd))
  | [], _, .nil => kitAny_nil
  | ty :: ts, _, .cons r rs => by
    refine kitAny_cons (lv.isk kd ty t _ hk r) (fun hb => ?_) fun hb => ?_
    · rw [any_kit lv hk rs, List.any_cons, hb, Bool.false_or]
    · rw [List.any_cons, hb, Bool.true_or]
theorem isi_pe (lv : Lv T Z c k X) (g : Good Z k X W) {ts : List Ty} {x : Str} {pn : Pos} {ce : Expr} (hx : x = ("isinstance" : Str)) (hg : Gl X x) (hn : notStar a = true) (hn2 : notStar ce = true) (ht : tyE T X.env.scope ts ce = true) (ha : SS Z X W ta a) :
    PE X (.Call (.Name x pn) [a, ce] [] pos) (trD Z X W fun e h => (ta.v e h).bind fun x h => ofOpt ((isiD h x ts).map .bl) h) := by
  subst hx
  refine ⟨fun pins s σ H Q I hw => ?_⟩
  obtain ⟨ι, en, h, rh, rs, p⟩ := hw
  have hm := g.bt ("isinstance" : Str) (by decide)
  have step : ∀ {H1 : Hp} {ι1 : List Addr} {h1 : AH} {d : D} {y : V}, RH (Z.g X) ι1 h1 H1 → RD (Z.g X) ι1 H1 d y → Post (RD (Z.g X)) W (Z.g X) ι1 σ H1 (ofOpt ((isiD h1 d ts).map .bl) h1) Q → ∃ kd t, TyX X.K H1 y t ∧ KdV Z kd t ∧ Post (RD (Z.g X)) W (Z.g X) ι1 σ H1 (.ok (.bl (ts.any (isTy kd))) h1) Q := by
    intro H1 ι1 h1 d y rh1 rd p1
    unfold isiD at p1
    cases ek : kindD h1 d with
    | none => rw [ek] at p1; exact p1.elim
    | some kd =>
      rw [ek] at p1
      obtain ⟨t, q1, q2⟩ := kd_ty lv g rh1 rd ek
      exact ⟨kd, t, q1, q2, p1⟩
  by_cases htup : ∃ es j p, ce = .Tuple es j p
  · obtain ⟨es, j, p2, rfl⟩ := htup
    obtain ⟨hts, hlen⟩ := and2 (show (tyNs T X.env.scope ts es && decide (ts.length ≤ 1000)) = true from ht)
    obtain ⟨vs, us, q1, q2, q3⟩ := tys_pa lv g hts
    refine (pe_callB call_isiT hg hm PyProof.Rows.boot_isinstance (pa_cons ha.pe (pa_cons (pe_tup q1) pa_nil) (starEach_cons hn)) (by decide) (by decide) (starEach_cons hn) rfl).run pins s σ H Q I ⟨ι, en, h, rh, rs, (Post.bind _ p).imp fun y H1 ⟨ι1, d, h1, g1, rh1, rd, p1⟩ => ?_⟩
    have few : vs.length ≤ sizeLine := by
      have e1 := Paired.length q2
      have e2 := Paired.length q3
      have e3 := of_decide_eq_true hlen
      rw [sizeLine_eq]
      omega
    refine ⟨few, fun q nq => ?_⟩
    obtain ⟨kd, t, z1, z2, z3⟩ := step (rh1.other (o := .tup vs) nq) (rd.mono (Gr.fresh nq)) (p1.mono (Gr.fresh nq))
    exact ⟨y, q, vs, t, us, _, rfl, upd_same, q2, z1, any_kit lv z2 q3, z3.ok (rh1.other nq) (.bl _)⟩
  · have ht1 : tyNs T X.env.scope ts [ce] = true := by
      cases ce <;> first | exact ht | exact absurd ⟨_, _, _, rfl⟩ htup
    match ts, ht1 with
    | [ty], ht1 =>
      obtain ⟨v, u, p1, p2, p3, p4⟩ := ty_pe lv g (and2 ht1).1
      refine (pe_callB call_isi hg hm PyProof.Rows.boot_isinstance (pa_cons ha.pe (pa_cons p1 pa_nil (starEach_cons p4)) (starEach_cons hn)) (by decide) (by decide) (starEach_cons hn) (by rw [starEach_cons p4]; rfl)).run pins s σ H Q I ⟨ι, en, h, rh, rs, (Post.bind _ p).imp fun y H1 ⟨ι1, d, h1, g1, rh1, rd, p1'⟩ => ?_⟩
      obtain ⟨kd, t, z1, z2, z3⟩ := step rh1 rd p1'
      refine ⟨y, v, t, u, _, rfl, p2, z1, lv.isk kd ty t u z2 p3, ?_⟩
      have z3 := z3.ok rh1 (.bl _)
      simpa using z3
    | [], ht1 => exact absurd ht1 Bool.false_ne_true
    | _ :: _ :: _, ht1 => exact absurd (and2 ht1).2 Bool.false_ne_true

/-! ### dict displays -/
theorem Post.bind0 {α β α' β' : Type} {rel' : List Addr → Hp → α' → β' → Prop} {G : Gx} {r : Res α} {f : α → AH → Res α'} {Q : β' → Hp → Prop} {ι2 : List Addr} {H2 : Hp} (rel : List Addr → Hp → α → β → Prop) (g : Gr ι H ι2 H2) (p : Post rel' W G ι σ H (r.bind f) Q) :
    Post rel W G ι2 σ H2 r fun x H3 => ∃ ι3 d h3, Gr ι2 H2 ι3 H3 ∧ RH G ι3 h3 H3 ∧ rel ι3 H3 d x ∧ Post rel' W G ι σ H (f d h3) Q := by
  cases r with
  | ok a h => exact fun ι3 H3 v g3 r3 q3 => ⟨ι3, a, h, g3, r3, q3, p⟩
  | exc c fs h => exact Post.mono (r := .exc c fs h) (rel := rel) (Q := fun _ _ => True) g p
  | bad => exact p
inductive RPs (G : Gx) (ι : List Addr) (H : Hp) : List (D × D) → List (V × V) → Prop
  | nil : RPs G ι H [] []
  | cons {d d' : D} {v v' : V} {ds : List (D × D)} {vs : List (V × V)} : RD G ι H d v → RD G ι H d' v' → RPs G ι H ds vs → RPs G ι H ((d, d') :: ds) ((v, v') :: vs)
theorem RPs.mono {G : Gx} (g : Gr ι H ι' H') : ∀ {ds : List (D × D)} {vs : List (V × V)}, RPs G ι H ds vs → RPs G ι' H' ds vs
  | _, _, .nil => .nil
  | _, _, .cons a b r => .cons (a.mono g) (b.mono g) (RPs.mono g r)
theorem prs_pps : ∀ {ks vs : List Sx} {ke : List (Option Expr)} {l ve : List Expr}, optsE ke = some l → SSs Z X W ks l → SSs Z X W vs ve → ke.length = ve.length → PPs X pos ke ve ((ks.zip vs).map fun p => (trD Z X W p.1.v, trD Z X W p.2.v))
  | ks, vs, [], l, [], ho, rk, rv, _ => by
    cases ho
    cases rk
    cases rv
    exact pps_nil
  | ks, vs, some k :: ke, l, v :: ve, ho, rk, rv, hl => by
    unfold optsE at ho
    rw [Option.map_eq_some_iff] at ho
    obtain ⟨l', e1, rfl⟩ := ho
    cases rk with
    | cons hk _ rk =>
      cases rv with
      | cons hv _ rv => exact pps_cons hk.pe hv.pe (prs_pps e1 rk rv (by simpa using hl))
  | ks, vs, none :: ke, l, ve, ho, _, _, _ => by cases ho
  | ks, vs, [], l, _ :: _, _, _, _, hl => by simp at hl
  | ks, vs, some _ :: _, l, [], _, _, _, hl => by simp at hl
theorem opts_len : ∀ {ke : List (Option Expr)} {l : List Expr}, optsE ke = some l → ke.length = l.length
  | [], _, h => by cases h; rfl
  | some e :: ke, l, h => by
    unfold optsE at h
    rw [Option.map_eq_some_iff] at h
    obtain ⟨l', e1, rfl⟩ := h
    exact congrArg (· + 1) (opts_len e1)
  | none :: ke, l, h => by cases h
theorem SSs.len : ∀ {ss : List Sx} {es : List Expr}, SSs Z X W ss es → ss.length = es.length
  | _, _, .nil => rfl
  | _, _, .cons _ _ r => congrArg (· + 1) (SSs.len r)
/-- the pairs, walked beside the new dict -/
theorem prs_walk {p : Addr} {Q : VK} (n : H p = none) (fin : ∀ {ps : List (D × D)} {vs : List (V × V)} {ι2 : List Addr} {H2 : Hp} {h2 : AH}, Gr ι H ι2 H2 → RH (Z.g X) ι2 h2 H2 → p ∉ ι2 → H2 p = some (.dK []) → RPs (Z.g X) ι2 H2 ps vs → Post (RD (Z.g X)) W (Z.g X) ι σ H (dctE ps h2) Q →
      ∃ kvs : List (Key × V), vs = kvs.map (fun kv => (kV kv.1, kv.2)) ∧ kvs.length ≤ 15 ∧ Q (.ref p) (upd H2 p (.dK (mergeK [] kvs)))) :
    ∀ {ks vs : List Sx} {done : List (D × D)} {dv : List (V × V)} {ι2 : List Addr} {H2 : Hp} {h2 : AH}, ks.length = vs.length → Gr ι H ι2 H2 → RH (Z.g X) ι2 h2 H2 → RS (Z.g X) ι2 H2 en σ → p ∉ ι2 → H2 p = some (.dK []) → RPs (Z.g X) ι2 H2 done dv →
      Post (RD (Z.g X)) W (Z.g X) ι σ H ((prsE ks vs en h2).bind fun ps h => dctE (done ++ ps) h) Q →
      tPairs ((ks.zip vs).map fun p => (trD Z X W p.1.v, trD Z X W p.2.v)) σ H2 fun ps H3 => H3 p = some (.dK []) ∧ ∃ kvs : List (Key × V), dv ++ ps = kvs.map (fun kv => (kV kv.1, kv.2)) ∧ kvs.length ≤ 15 ∧ Q (.ref p) (upd H3 p (.dK (mergeK [] kvs)))
  | [], [], done, dv, ι2, H2, h2, _, g, rh, rs, np, ep, rp, pp => by
    have pp : Post (RD (Z.g X)) W (Z.g X) ι σ H (dctE (done ++ []) h2) Q := pp
    rw [List.append_nil] at pp
    refine ⟨ep, ?_⟩
    rw [List.append_nil]
    exact fin g rh np ep rp pp
  | k :: ks, v :: vs, done, dv, ι2, H2, h2, hl, g, rh, rs, np, ep, rp, pp => by
    have pp : Post (RD (Z.g X)) W (Z.g X) ι σ H (((k.v en h2).bind fun x h => (v.v en h).bind fun y h => (prsE ks vs en h).bind fun ps h => .ok ((x, y) :: ps) h).bind fun ps h => dctE (done ++ ps) h) Q := pp
    rw [Res.assoc] at pp
    refine ⟨ι2, en, h2, rh, rs, (Post.bind0 (RD (Z.g X)) g pp).imp fun x H3 ⟨ι3, d, h3, g3, rh3, rd, p3⟩ => ?_⟩
    rw [Res.assoc] at p3
    refine ⟨ι3, en, h3, rh3, rs.mono g3, (Post.bind0 (RD (Z.g X)) (g.trans g3) p3).imp fun y H4 ⟨ι4, d2, h4, g4, rh4, rd2, p4⟩ => ?_⟩
    have g34 := g3.trans g4
    have np4 : p ∉ ι4 := g34.notin np ep
    have ep4 : H4 p = some (.dK []) := g34.fr p _ np ep fun ps z => by cases z
    rw [Res.assoc] at p4
    have rp4 : RPs (Z.g X) ι4 H4 (done ++ [(d, d2)]) (dv ++ [(x, y)]) := by
      have app : ∀ {a b : List (D × D)} {u w : List (V × V)}, RPs (Z.g X) ι4 H4 a u → RPs (Z.g X) ι4 H4 b w → RPs (Z.g X) ι4 H4 (a ++ b) (u ++ w) := by
        intro a b u w r1 r2
        induction r1 with
        | nil => exact r2
        | cons q1 q2 _ ih => exact .cons q1 q2 ih
      exact app (rp.mono g34) (.cons (rd.mono g4) rd2 .nil)
    have q := prs_walk n fin (ks := ks) (vs := vs) (by simpa using hl) (g.trans g34) rh4 (rs.mono g34) np4 ep4 rp4 (by
      have e : (fun ps h => dctE (done ++ [(d, d2)] ++ ps) h) = fun ps h => (Res.ok ((d, d2) :: ps) h).bind fun ps h => dctE (done ++ ps) h := by
        funext ps h
        show dctE (done ++ [(d, d2)] ++ ps) h = dctE (done ++ ((d, d2) :: ps)) h
        rw [List.append_assoc]
        rfl
      rw [e]
      exact p4)
    have e2 : (fun ps H3 => H3 p = some (HO.dK []) ∧ ∃ kvs : List (Key × V), dv ++ (x, y) :: ps = kvs.map (fun kv => (kV kv.1, kv.2)) ∧ kvs.length ≤ 15 ∧ Q (.ref p) (upd H3 p (.dK (mergeK [] kvs)))) =
        fun ps H3 => H3 p = some (HO.dK []) ∧ ∃ kvs : List (Key × V), dv ++ [(x, y)] ++ ps = kvs.map (fun kv => (kV kv.1, kv.2)) ∧ kvs.length ≤ 15 ∧ Q (.ref p) (upd H3 p (.dK (mergeK [] kvs))) := by
      funext ps H3
      rw [List.append_assoc]
      rfl
    show tPairs _ σ H4 (fun ps H3 => H3 p = some (HO.dK []) ∧ ∃ kvs : List (Key × V), dv ++ (x, y) :: ps = kvs.map (fun kv => (kV kv.1, kv.2)) ∧ kvs.length ≤ 15 ∧ Q (.ref p) (upd H3 p (.dK (mergeK [] kvs))))
    rw [e2]
    exact q
  | [], _ :: _, _, _, _, _, _, hl, _, _, _, _, _, _, _ => by simp at hl
  | _ :: _, [], _, _, _, _, _, hl, _, _, _, _, _, _, _ => by simp at hl
theorem merge_rd {G : Gx} : ∀ {ps : List (D × D)} {vs : List (V × V)} {a : List (D × D)} {b : List (Key × V)}, RPs G ι H ps vs → (ps.all fun p => keyOk p.1) = true → RKs G ι H a b → ∃ kvs : List (Key × V), vs = kvs.map (fun kv => (kV kv.1, kv.2)) ∧ kvs.length = ps.length ∧ RKs G ι H (mergeD a ps) (mergeK b kvs)
  | _, _, a, b, .nil, _, r => ⟨[], rfl, rfl, r⟩
  | _, _, a, b, .cons (d := d) (d' := d') (v := v) (v' := v') rk rv rest, hk, r => by
    rw [List.all_cons] at hk
    obtain ⟨h1, h2⟩ := and2 hk
    obtain ⟨key, rfl, rfl⟩ := key_rd rk h1
    obtain ⟨kvs, e1, e2, e3⟩ := merge_rd rest h2 (putK_rd key rv r)
    exact ⟨(key, v') :: kvs, by rw [e1]; rfl, by simp [e2], e3⟩
theorem dct_pe {ks vs : List Sx} {ke : List (Option Expr)} {l ve : List Expr} (hb : dctB ke ve = true) (ho : optsE ke = some l) (rk : SSs Z X W ks l) (rv : SSs Z X W vs ve) : PE X (.Dict ke ve pos) (trD Z X W fun e h => (prsE ks vs e h).bind dctE) := by
  unfold dctB at hb
  obtain ⟨hb, h3⟩ := and2 hb
  obtain ⟨h1, h2⟩ := and2 hb
  have h1 := of_decide_eq_true h1
  have h2 := of_decide_eq_true h2
  refine ⟨fun pins s σ H Q I hw => ?_⟩
  obtain ⟨ι, en, h, rh, rs, p⟩ := hw
  by_cases h0 : ke = []
  · subst h0
    cases ho
    cases rk
    cases ve with
    | cons _ _ => simp at h1
    | nil =>
      cases rv
      exact pe_dnewK.run pins s σ H Q I (post_new rh p fun a n => .dct upd_same .nil)
  · refine (pe_disp (prs_pps ho rk rv h1) h3 h1 h0 h2).run pins s σ H Q I fun q nq => ?_
    have hl : ks.length = vs.length := by rw [rk.len, rv.len, ← opts_len ho, h1]
    have w := prs_walk (Z := Z) (W := W) (en := en) (σ := σ) (Q := Q) nq (fun {ps vs ι2 H2 h2} g rh2 np ep rp pp => ?_) (done := []) (dv := []) hl (Gr.fresh (o := .dK []) nq) (rh.other nq) (rs.mono (Gr.fresh nq)) (rh.notin nq) upd_same .nil p
    · exact w
    · unfold dctE at pp
      split at pp
      · rename_i hz
        obtain ⟨z1, z2⟩ := and2 hz
        obtain ⟨kvs, e1, e2, e3⟩ := merge_rd rp z1 .nil
        refine ⟨kvs, e1, by rw [e2]; exact of_decide_eq_true z2, ?_⟩
        have tm : TM H2 (upd H2 q (.dK (mergeK [] kvs))) := TM.upd fun u' e' => by rw [ep] at e'; cases e'; trivial
        exact pp.ok' ((g.side nq ep trivial).adopt nq) ((rh2.side np ep trivial).adopt np upd_same (.dct upd_same (e3.mono2 (List.prefix_append _ _) tm))) (.ref rh2.new)
      · exact pp.elim
end
end MP
namespace MP
open PySem PySem.Spec PyProof.Rows L2
section
variable {Z : Wd} {k : Nat} {X : Cx} {W : WX} {T : Tb} {c : Cg}
variable {pins : List (Addr × Obj)} {s : Shared} {σ : L2.St} {H H' : Hp} {ι ι' : List Addr} {h : AH} {en : En}
variable {t ta : Sx} {e a : Expr} {ss : List Sx} {es : List Expr} {pos : Pos}
/-- isinstance of an error that is at hand -/
theorem isx_run {p C : Addr} {oe : Obj} {od : Option Obj} {u : Value} {b : Bool} {Q : VK} (I : Inv X pins σ H s) (J : PySem.W.InstAt s.heap p oe C od) (xk : XkC X.K C) (e : PySem.W.kitOne X.K (.ref C) u = some b) (q : Q (.bl b) H) :
    wpAny (model X.prog X.w) X.A (call (.builtin "isinstance") [.ref p, u]) (EP X pins σ Q) X.xe s :=
  PySem.W.kia_one (PySem.W.kitx_exc xk.cl xk.ga xk.gt xk.sub xk.ha xk.hn xk.htk xk.hm) I.kIn J e (fun z => nomatch z) fun tk => ⟨.bl b, H, I.tok tk, rfl, q⟩
/-- an error's object -/
theorem xin_inst {G : Gx} {p C : Addr} {d : Option Addr} {fs : List (Str × D)} (I : Inv X pins σ H s) (e : H p = some (exo p C d)) (r : RXd G ι H fs d) :
    ∃ (t1 : Addr) (od : Option Obj), PySem.W.InstAt s.heap p ({ cls := .ref C, dict := d, data := .fields #[.ref t1, .none, .none, .none, .bool false, .none] } : Obj) C od := by
  obtain ⟨t1, ho⟩ := exo_at I.hok e
  cases r with
  | no => exact ⟨t1, none, ho, rfl, rfl, trivial⟩
  | yes n ed rf =>
    obtain ⟨mA, hns, rel⟩ := exd_at I.hok ed
    obtain ⟨oD, _, _, hoD, _, _⟩ := hns
    exact ⟨t1, some oD, ho, rfl, rfl, hoD⟩
theorem atx_pe (lv : Lv T Z c k X) {f : Str} (hf : f ∈ T.efs) (ha : SS Z X W ta a) (hb : attB a = true) : PE X (.Attribute a f pos) (trD Z X W fun e h => (ta.v e h).bind fun x h => attX x f h) := by
  refine ⟨fun pins s σ H Q I hw => ?_⟩
  obtain ⟨ι, en, h, rh, rs, p⟩ := hw
  refine attr_of (att_of hb) (thn (ha.bind I rh rs p) fun v s1 ⟨ι1, H1, h1, d1, x, I1, rh1, rs1, rx, rd, g1, p1⟩ => ?_)
  cases rd with
  | ref ea =>
    simp only [attX] at p1
    split at p1
    · rename_i e1
      obtain ⟨d, ed, p1⟩ := ofOpt_ok p1
      cases rh1.at e1 ea with
      | xin ec l rx' =>
        obtain ⟨T', hno⟩ := lv.xfc _ _ f ec hf
        cases rx' with
        | no => cases ed
        | yes n exd' rf =>
          obtain ⟨w, ew, rw'⟩ := rf.look ed
          cases rx
          obtain ⟨t1, ho⟩ := exo_at I1.hok l
          obtain ⟨mA, hns, rel⟩ := exd_at I1.hok exd'
          obtain ⟨od, hod, hl⟩ := lookIn_ns hns
          obtain ⟨u, hu, ru⟩ := RelO.some_of (v := w) (o := mA f) (by rw [← ew]; exact rel f)
          exact HandSPX.exc_get I1.kIn (⟨ho, rfl, rfl, hod⟩ : PySem.W.InstAt s1.heap _ _ _ (some od)) T'.ga T'.gg T'.exC (PySem.W.findObj_own T'.hdC hno rfl (by rw [hl, hu])) (handed_of ru) ⟨w, H1, I1.tok _, ru, p1.ok rh1 rw'⟩
    · exact p1.elim
  | _ => exact p1.elim
theorem tx_pe (ecl : ∀ g x, T.er[g]? = some x → ∃ a, X.mg x = some (.ref a) ∧ Z.ea g = some a) (hv : X.mg ("ValueError" : Str) = none) {t : Option Nat} {e : Expr} (h : txN T X.env.scope t e = true) : ∃ v u, PE X e (tC v) ∧ ClsV v u ∧ TxW Z t u ∧ notStar e = true := by
  cases t with
  | none =>
    cases e with
    | Name x pn =>
      obtain ⟨h1, h2⟩ := and2 (show (decide (x = ("ValueError" : Str)) && gloB X.env.scope x) = true from h)
      have h1 := of_decide_eq_true h1
      subst h1
      exact ⟨_, _, (pe_bltn (gl_of h2) hv PyProof.Rows.Boot.«ValueError» rfl (by decide) (by decide) : PE X (.Name ("ValueError" : Str) pn) (tC (.ty "ValueError"))), .ty _, .ve, rfl⟩
    | _ => exact absurd h Bool.false_ne_true
  | some j =>
    cases e with
    | Name x pn =>
      have h : (decide (T.er[j]? = some x) && gloB X.env.scope x && !dbg x) = true := h
      obtain ⟨h, h3⟩ := and2 h
      obtain ⟨h1, h2⟩ := and2 h
      obtain ⟨C, hm, hC⟩ := ecl j x (of_decide_eq_true h1)
      have h3 := Bool.not_eq_true' _ |>.mp h3
      unfold dbg at h3
      simp only [Bool.or_eq_false_iff] at h3
      exact ⟨.ref C, .ref C, pe_glob (gl_of h2) hm rfl h3.1.1, .own C, .own hC, rfl⟩
    | _ => exact absurd h Bool.false_ne_true
/-- isinstance(x, C), x an error -/
def rIsx (K : PySem.W.Frag) (σ : L2.St) (Z : Wd) (X : Cx) (W : WX) (c : Cg) (t : Option Nat) (u : Value) : List V → Hp → VK → Prop := fun xs H Q => ∃ ι h d x v, xs = [x, v] ∧ ClsV v u ∧ RH (Z.g X) ι h H ∧ RD (Z.g X) ι H d x ∧ Post (RD (Z.g X)) W (Z.g X) ι σ H (ofOpt ((isxD c h d t).map .bl) h) Q
theorem call_isx (lv : Lv T Z c k X) {t : Option Nat} {u : Value} (tw : TxW Z t u) (σ0 : L2.St) : CallR X (.builtin "isinstance") (rIsx X.K σ0 Z X W c t u) := by
  intro pins s σ H xs us Q I r hw
  obtain ⟨ι, h, d, x, v, rfl, cv, rh, rd, p⟩ := hw
  obtain ⟨u1, u2, rfl, r1, r2⟩ := vals2 r
  have e2 := cv.eq r2
  subst e2
  unfold isxD at p
  cases rd with
  | ref ea =>
    simp only [xinD] at p
    split at p
    · rename_i cc fs e1
      cases rh.at e1 ea with
      | xin ec l rx' =>
        cases (show u1 = Value.ref _ from r1)
        obtain ⟨t1, od, J⟩ := xin_inst I l rx'
        exact isx_run I J (lv.xkc _ _ ec) (lv.xis _ _ _ _ ec tw) (p.ok rh (.bl _))
    · exact p.elim
  | _ => exact p.elim
theorem isx_pe (lv : Lv T Z c k X) (g : Good Z k X W) {t : Option Nat} {x : Str} {pn : Pos} {ce : Expr} (hx : x = ("isinstance" : Str)) (hg : Gl X x) (hn : notStar a = true) (ht : txN T X.env.scope t ce = true) (ha : SS Z X W ta a) :
    PE X (.Call (.Name x pn) [a, ce] [] pos) (trD Z X W fun e h => (ta.v e h).bind fun x h => ofOpt ((isxD c h x t).map .bl) h) := by
  subst hx
  obtain ⟨v, u, p1, p2, p3, p4⟩ := tx_pe lv.ecl (g.bt _ (by decide)) ht
  refine ⟨fun pins s σ H Q I hw => ?_⟩
  obtain ⟨ι, en, h, rh, rs, p⟩ := hw
  have hm := g.bt ("isinstance" : Str) (by decide)
  refine (pe_callB (call_isx (W := W) lv p3 σ) hg hm PyProof.Rows.boot_isinstance (pa_cons ha.pe (pa_cons p1 pa_nil (starEach_cons p4)) (starEach_cons hn)) (by decide) (by decide) (starEach_cons hn) (by rw [starEach_cons p4]; rfl)).run pins s σ H Q I ⟨ι, en, h, rh, rs, (Post.bind _ p).imp fun y H1 ⟨ι1, d, h1, g1, rh1, rd, p1'⟩ => ?_⟩
  exact ⟨ι1, h1, d, y, v, rfl, p2, rh1, rd, p1'⟩
end
end MP
namespace MP
open PySem PySem.Spec PyProof.Rows L2
theorem ne_of_match {es : List Expr} (h : neB es = true) : es ≠ [] := by
  cases es with
  | nil => exact absurd h Bool.false_ne_true
  | cons a l => simp
/-- the right side of «is» -/
theorem side_of {Z : Wd} {X : Cx} {W : WX} {T : Tb} {c : Cg} {o : Cop} {b : Ex} {e : Expr} {N : List Str} {sc : Scope} (hs : isSide o e = true) (hc : chE T N sc b e = true) (ss : SS Z X W (sx c b) e) : Side Z X W o (sx c b) e := by
  have non : ∀ {j : Nat} {p : Pos}, e = .Constant .none j p → b = .non := by
    intro j p h
    subst h
    cases b <;> first | rfl | exact absurd hc Bool.false_ne_true
  have bl : ∀ {v : Bool} {j : Nat} {p : Pos}, e = .Constant (.bool v) j p → b = .bl v := by
    intro v j p h
    subst h
    cases b <;> first | exact absurd hc Bool.false_ne_true | skip
    have hc : (_ == v) = true := hc
    rw [beq_iff_eq] at hc
    rw [hc]
  cases o with
  | isN =>
    cases e with
    | Constant cc j p =>
      cases cc with
      | none => cases non rfl; exact side_non (by simp) (by simp)
      | _ => exact absurd hs Bool.false_ne_true
    | _ => exact absurd hs Bool.false_ne_true
  | ntN =>
    cases e with
    | Constant cc j p =>
      cases cc with
      | none => cases non rfl; exact side_non (by simp) (by simp)
      | _ => exact absurd hs Bool.false_ne_true
    | _ => exact absurd hs Bool.false_ne_true
  | isB w =>
    cases e with
    | Constant cc j p =>
      cases cc with
      | bool v =>
        cases bl rfl
        have hs : (v == w) = true := hs
        rw [beq_iff_eq] at hs
        subst hs
        exact side_bl (by simp) (by simp) fun k z => by
          rcases z with z | z
          · exact (Cop.isB.inj z).symm
          · cases z
      | _ => exact absurd hs Bool.false_ne_true
    | _ => exact absurd hs Bool.false_ne_true
  | ntB w =>
    cases e with
    | Constant cc j p =>
      cases cc with
      | bool v =>
        cases bl rfl
        have hs : (v == w) = true := hs
        rw [beq_iff_eq] at hs
        subst hs
        exact side_bl (by simp) (by simp) fun k z => by
          rcases z with z | z
          · cases z
          · exact (Cop.ntB.inj z).symm
      | _ => exact absurd hs Bool.false_ne_true
    | _ => exact absurd hs Bool.false_ne_true
  | _ => exact side_plain ss (by simp) (by simp) (by simp) (by simp)
mutual
theorem sE {Z : Wd} : ∀ (x : Ex) {T : Tb} {c : Cg} {k : Nat} {X : Cx} {W : WX} {e : Expr}, LvE T Z c k X → Good Z k X W → chE T X.N X.env.scope x e = true → SS Z X W (sx c x) e
  | .non, T, c, k, X, W, e, lv, g, h => by
    cases e with
    | Constant cc j p =>
      cases cc with
      | none => exact SS.of ⟨fun pins s σ H Q I ⟨ι, en, h, rh, rs, p⟩ => pe_non.run pins s σ H Q I (p.ok rh .non)⟩ rfl
      | _ => exact absurd h Bool.false_ne_true
    | _ => exact absurd h Bool.false_ne_true
  | .bl b, T, c, k, X, W, e, lv, g, h => by
    cases e with
    | Constant cc j p =>
      cases cc with
      | bool v =>
        have h : (b == v) = true := h
        rw [beq_iff_eq] at h
        subst h
        exact SS.of ⟨fun pins s σ H Q I ⟨ι, en, h, rh, rs, p⟩ => pe_bl.run pins s σ H Q I (p.ok rh (.bl _))⟩ rfl
      | _ => exact absurd h Bool.false_ne_true
    | _ => exact absurd h Bool.false_ne_true
  | .int i, T, c, k, X, W, e, lv, g, h => by
    cases e with
    | Constant cc j p =>
      cases cc with
      | int v =>
        have h : i = v := of_decide_eq_true h
        subst h
        exact SS.of ⟨fun pins s σ H Q I ⟨ι, en, h, rh, rs, p⟩ => pe_int.run pins s σ H Q I (p.ok rh (.int _))⟩ rfl
      | _ => exact absurd h Bool.false_ne_true
    | _ => exact absurd h Bool.false_ne_true
  | .str i, T, c, k, X, W, e, lv, g, h => by
    cases e with
    | Constant cc j p =>
      cases cc with
      | str v =>
        have h : i = v := of_decide_eq_true h
        subst h
        exact SS.of ⟨fun pins s σ H Q I ⟨ι, en, h, rh, rs, p⟩ => pe_str.run pins s σ H Q I (p.ok rh (.str _))⟩ rfl
      | _ => exact absurd h Bool.false_ne_true
    | _ => exact absurd h Bool.false_ne_true
  | .var i, T, c, k, X, W, e, lv, g, h => by
    cases e with
    | Name x p =>
      have h : (decide (X.N[i]? = some x) && visB X.env.scope x && !dbg x) = true := h
      obtain ⟨h, h3⟩ := and2 h
      obtain ⟨h1, h2⟩ := and2 h
      exact SS.of (var_pe (of_decide_eq_true h1) h2 (Bool.not_eq_true' _ |>.mp h3)) rfl
    | _ => exact absurd h Bool.false_ne_true
  | .glo i, T, c, k, X, W, e, lv, g, h => by
    cases e with
    | Name x p =>
      have h : (decide (T.gl[i]? = some x) && gloB X.env.scope x && !dbg x) = true := h
      obtain ⟨h, h3⟩ := and2 h
      obtain ⟨h1, h2⟩ := and2 h
      exact SS.of (glo_pe lv.toLv (of_decide_eq_true h1) h2 (Bool.not_eq_true' _ |>.mp h3)) rfl
    | _ => exact absurd h Bool.false_ne_true
  | .tup es, T, c, k, X, W, e, lv, g, h => by
    cases e with
    | Tuple l j p => exact SS.of (tup_pe (sEs es lv g h)) rfl
    | _ => exact absurd h Bool.false_ne_true
  | .lst es, T, c, k, X, W, e, lv, g, h => by
    cases e with
    | List l p => exact SS.of (lst_pe (sEs es lv g h)) rfl
    | _ => exact absurd h Bool.false_ne_true
  | .dct ks vs, T, c, k, X, W, e, lv, g, h => by
    cases e with
    | Dict ke ve p =>
      have h : ((match optsE ke with | some l => chEs T X.N X.env.scope ks l | none => false) && chEs T X.N X.env.scope vs ve && dctB ke ve) = true := h
      obtain ⟨h, h3⟩ := and2 h
      obtain ⟨h1, h2⟩ := and2 h
      cases ho : optsE ke with
      | none => rw [ho] at h1; exact absurd h1 Bool.false_ne_true
      | some l =>
        rw [ho] at h1
        exact SS.of (dct_pe h3 ho (sEs ks lv g h1) (sEs vs lv g h2)) rfl
    | _ => exact absurd h Bool.false_ne_true
  | .bin o a b, T, c, k, X, W, e, lv, g, h => by
    cases e with
    | BinOp a' o' b' p =>
      have h : (decide (o' = opOf o) && chE T X.N X.env.scope a a' && chE T X.N X.env.scope b b') = true := h
      obtain ⟨h, h3⟩ := and2 h
      obtain ⟨h1, h2⟩ := and2 h
      have h1 := of_decide_eq_true h1
      subst h1
      exact SS.of (bin_pe g (sE a lv g h2) (sE b lv g h3)) rfl
    | _ => exact absurd h Bool.false_ne_true
  | .neg a, T, c, k, X, W, e, lv, g, h => by
    cases e with
    | UnaryOp o a' p =>
      cases o with
      | USub => exact SS.of (neg_pe (sE a lv g h)) rfl
      | _ => exact absurd h Bool.false_ne_true
    | _ => exact absurd h Bool.false_ne_true
  | .not a, T, c, k, X, W, e, lv, g, h => by
    cases e with
    | UnaryOp o a' p =>
      cases o with
      | Not => exact not_ss (sE a lv g h)
      | _ => exact absurd h Bool.false_ne_true
    | _ => exact absurd h Bool.false_ne_true
  | .cmp o a b, T, c, k, X, W, e, lv, g, h => by
    cases e with
    | Compare a' os bs p =>
      cases os with
      | nil => exact absurd h Bool.false_ne_true
      | cons o' os =>
        cases os with
        | nil =>
          cases bs with
          | nil => exact absurd h Bool.false_ne_true
          | cons b' bs =>
            cases bs with
            | nil =>
              have h : (decide (o' = copOf o) && isSide o b' && !behindInMarks o' b' && chE T X.N X.env.scope a a' && chE T X.N X.env.scope b b') = true := h
              obtain ⟨h, h5⟩ := and2 h
              obtain ⟨h, h4⟩ := and2 h
              obtain ⟨h, h3⟩ := and2 h
              obtain ⟨h1, h2⟩ := and2 h
              have h1 := of_decide_eq_true h1
              subst h1
              exact cmp_ss g (sE a lv g h4) (side_of h2 h5 (sE b lv g h5)) (Bool.not_eq_true' _ |>.mp h3)
            | cons _ _ => exact absurd h Bool.false_ne_true
        | cons o2 os =>
          cases os <;> cases bs with
          | nil => exact absurd h Bool.false_ne_true
          | cons b2 bs => cases bs with
            | nil => exact absurd h Bool.false_ne_true
            | cons b3 bs => cases bs <;> exact absurd h Bool.false_ne_true
    | _ => exact absurd h Bool.false_ne_true
  | .chn o o' a b d, T, c, k, X, W, e, lv, g, h => by
    cases e with
    | Compare a' os bs p =>
      cases os with
      | nil => exact absurd h Bool.false_ne_true
      | cons q os =>
        cases os with
        | nil =>
          cases bs with
          | nil => exact absurd h Bool.false_ne_true
          | cons b2 bs => cases bs <;> exact absurd h Bool.false_ne_true
        | cons q' os =>
          cases os with
          | nil =>
            cases bs with
            | nil => exact absurd h Bool.false_ne_true
            | cons b' bs =>
              cases bs with
              | nil => exact absurd h Bool.false_ne_true
              | cons d' bs =>
                cases bs with
                | nil =>
                  have h : (decide (q = copOf o) && decide (q' = copOf o') && isSide o b' && isSide o' d' && !lastMarks [q, q'] [b', d'] && chE T X.N X.env.scope a a' && chE T X.N X.env.scope b b' && chE T X.N X.env.scope d d') = true := h
                  obtain ⟨h, h8⟩ := and2 h
                  obtain ⟨h, h7⟩ := and2 h
                  obtain ⟨h, h6⟩ := and2 h
                  obtain ⟨h, h5⟩ := and2 h
                  obtain ⟨h, h4⟩ := and2 h
                  obtain ⟨h, h3⟩ := and2 h
                  obtain ⟨h1, h2⟩ := and2 h
                  have h1 := of_decide_eq_true h1
                  have h2 := of_decide_eq_true h2
                  subst h1 h2
                  exact chn_ss g (sE a lv g h6) (side_of h3 h7 (sE b lv g h7)) (side_of h4 h8 (sE d lv g h8)) (Bool.not_eq_true' _ |>.mp h5)
                | cons _ _ => exact absurd h Bool.false_ne_true
          | cons _ _ =>
            cases bs with
            | nil => exact absurd h Bool.false_ne_true
            | cons b2 bs => cases bs with
              | nil => exact absurd h Bool.false_ne_true
              | cons b3 bs => cases bs <;> exact absurd h Bool.false_ne_true
    | _ => exact absurd h Bool.false_ne_true
  | .and es, T, c, k, X, W, e, lv, g, h => by
    cases e with
    | BoolOp o l p =>
      cases o with
      | And =>
        have h : (neB l && chEs T X.N X.env.scope es l) = true := h
        obtain ⟨h1, h2⟩ := and2 h
        exact ⟨and_pe (sEs es lv g h2) (ne_of_match h1), (and_pt (sEs es lv g h2) (ne_of_match h1)).pt⟩
      | _ => exact absurd h Bool.false_ne_true
    | _ => exact absurd h Bool.false_ne_true
  | .or es, T, c, k, X, W, e, lv, g, h => by
    cases e with
    | BoolOp o l p =>
      cases o with
      | Or =>
        have h : (neB l && chEs T X.N X.env.scope es l) = true := h
        obtain ⟨h1, h2⟩ := and2 h
        exact ⟨or_pe (sEs es lv g h2) (ne_of_match h1), (or_pt (sEs es lv g h2) (ne_of_match h1)).pt⟩
      | _ => exact absurd h Bool.false_ne_true
    | _ => exact absurd h Bool.false_ne_true
  | .ife t a b, T, c, k, X, W, e, lv, g, h => by
    cases e with
    | IfExp t' a' b' p =>
      have h : (chE T X.N X.env.scope t t' && chE T X.N X.env.scope a a' && chE T X.N X.env.scope b b') = true := h
      obtain ⟨h, h3⟩ := and2 h
      obtain ⟨h1, h2⟩ := and2 h
      exact ife_ss (sE t lv g h1) (sE a lv g h2) (sE b lv g h3)
    | _ => exact absurd h Bool.false_ne_true
  | .idx a b, T, c, k, X, W, e, lv, g, h => by
    cases e with
    | Subscript a' b' p =>
      have h : (notSlice b' && chE T X.N X.env.scope a a' && chE T X.N X.env.scope b b') = true := by
        cases b' <;> exact h
      obtain ⟨h, h3⟩ := and2 h
      obtain ⟨h1, h2⟩ := and2 h
      exact SS.of (idx_pe g (sE a lv g h2) (sE b lv g h3) h1) rfl
    | _ => exact absurd h Bool.false_ne_true
  | .slc a lo hi, T, c, k, X, W, e, lv, g, h => by
    cases e with
    | Subscript a' b' p =>
      cases b' with
      | Slice lo' hi' st p2 =>
        cases st with
        | none =>
          have h : (chE T X.N X.env.scope a a' && chO T X.N X.env.scope lo lo' && chO T X.N X.env.scope hi hi') = true := h
          obtain ⟨h, h3⟩ := and2 h
          obtain ⟨h1, h2⟩ := and2 h
          exact SS.of (slc_pe (sE a lv g h1) (sO lo lv g h2) (sO hi lv g h3)) rfl
        | some _ => exact absurd h Bool.false_ne_true
      | _ => exact absurd h Bool.false_ne_true
    | _ => exact absurd h Bool.false_ne_true
  | .rev a, T, c, k, X, W, e, lv, g, h => by
    cases e with
    | Subscript a' b' p =>
      cases b' with
      | Slice lo' hi' st p2 =>
        cases lo' with
        | some _ => exact absurd h Bool.false_ne_true
        | none =>
          cases hi' with
          | some _ => exact absurd h Bool.false_ne_true
          | none =>
            cases st with
            | none => exact absurd h Bool.false_ne_true
            | some z =>
              cases z with
              | UnaryOp o y p3 =>
                cases o with
                | USub =>
                  cases y with
                  | Constant cc j p4 =>
                    cases cc with
                    | int i =>
                      by_cases hi : i = 1
                      · subst hi
                        exact SS.of (rev_pe (sE a lv g h)) rfl
                      · exfalso
                        unfold chE at h
                        split at h <;> first | (rename_i e1 _ ; injection e1; done) | skip
                        all_goals simp_all
                    | _ => exact absurd h Bool.false_ne_true
                  | _ => exact absurd h Bool.false_ne_true
                | _ => exact absurd h Bool.false_ne_true
              | _ => exact absurd h Bool.false_ne_true
      | _ => exact absurd h Bool.false_ne_true
    | _ => exact absurd h Bool.false_ne_true
  | .att a f, T, c, k, X, W, e, lv, g, h => by
    cases e with
    | Attribute a' f' p =>
      have h : (decide (f = f') && decide (f ∈ T.fns) && attB a' && chE T X.N X.env.scope a a') = true := h
      obtain ⟨h, h4⟩ := and2 h
      obtain ⟨h, h3⟩ := and2 h
      obtain ⟨h1, h2⟩ := and2 h
      have h1 := of_decide_eq_true h1
      subst h1
      exact SS.of (att_pe g (lv.fns _ (of_decide_eq_true h2)) (sE a lv g h4) h3) rfl
    | _ => exact absurd h Bool.false_ne_true
  | .bi b es, T, c, k, X, W, e, lv, g, h => by
    cases e with
    | Call fn l kw p =>
      cases fn with
      | Name x pn =>
        cases kw with
        | nil =>
          have h : (biOk b && decide (x = biName b) && decide (l.length = biN b) && gloB X.env.scope x && chEs T X.N X.env.scope es l) = true := h
          obtain ⟨h, h5⟩ := and2 h
          obtain ⟨h, h4⟩ := and2 h
          obtain ⟨h, h3⟩ := and2 h
          obtain ⟨h1, h2⟩ := and2 h
          exact SS.of (bi_pe g h1 (of_decide_eq_true h2) (of_decide_eq_true h3) (gl_of h4) (sEs es lv g h5)) rfl
        | cons _ _ => exact absurd h Bool.false_ne_true
      | _ => exact absurd h Bool.false_ne_true
    | _ => exact absurd h Bool.false_ne_true
  | .isi a ts, T, c, k, X, W, e, lv, g, h => by
    cases e with
    | Call fn l kw p =>
      cases fn with
      | Name x pn =>
        cases l with
        | nil => exact absurd h Bool.false_ne_true
        | cons a' l =>
          cases l with
          | nil => cases kw <;> exact absurd h Bool.false_ne_true
          | cons c' l =>
            cases l with
            | cons _ _ => cases kw <;> exact absurd h Bool.false_ne_true
            | nil =>
              cases kw with
              | cons _ _ => exact absurd h Bool.false_ne_true
              | nil =>
                have h : (decide (x = ("isinstance" : Str)) && gloB X.env.scope x && notStar a' && notStar c' && tyE T X.env.scope ts c' && chE T X.N X.env.scope a a') = true := h
                obtain ⟨h, h6⟩ := and2 h
                obtain ⟨h, h5⟩ := and2 h
                obtain ⟨h, h4⟩ := and2 h
                obtain ⟨h, h3⟩ := and2 h
                obtain ⟨h1, h2⟩ := and2 h
                exact SS.of (isi_pe lv.toLv g (of_decide_eq_true h1) (gl_of h2) h3 h4 h5 (sE a lv g h6)) rfl
      | _ => exact absurd h Bool.false_ne_true
    | _ => exact absurd h Bool.false_ne_true
  | .mth m o es, T, c, k, X, W, e, lv, g, h => by
    cases e with
    | Call fn l kw p =>
      cases fn with
      | Attribute o' f apos =>
        cases kw with
        | nil =>
          have h : (decide (f = mtName m) && decide (l.length = mtN m) && attB o' && (apos.endLine == p.line) && chE T X.N X.env.scope o o' && chEs T X.N X.env.scope es l) = true := h
          obtain ⟨h, h6⟩ := and2 h
          obtain ⟨h, h5⟩ := and2 h
          obtain ⟨h, h4⟩ := and2 h
          obtain ⟨h, h3⟩ := and2 h
          obtain ⟨h1, h2⟩ := and2 h
          have h1 := of_decide_eq_true h1
          subst h1
          exact SS.of (mth_pe g (of_decide_eq_true h2) h3 h4 (sE o lv g h5) (sEs es lv g h6)) rfl
        | cons _ _ => exact absurd h Bool.false_ne_true
      | _ => exact absurd h Bool.false_ne_true
    | _ => exact absurd h Bool.false_ne_true
  | .call gg es, T, c, k, X, W, e, lv, g, h => by
    cases e with
    | Call fn l kw p =>
      cases fn with
      | Name x pn =>
        cases kw with
        | nil =>
          have h : (decide (T.fs[gg]? = some x) && gloB X.env.scope x && !dbg x && chEs T X.N X.env.scope es l) = true := h
          obtain ⟨h, h4⟩ := and2 h
          obtain ⟨h, h3⟩ := and2 h
          obtain ⟨h1, h2⟩ := and2 h
          obtain ⟨a, hm, ha, hk⟩ := lv.fn gg x (of_decide_eq_true h1)
          have h3 := Bool.not_eq_true' _ |>.mp h3
          unfold dbg at h3
          simp only [Bool.or_eq_false_iff] at h3
          exact SS.of (call_road rfl h3.1.1 (gl_of h2) hm hk (lv.cal X W ⟨rfl, rfl, rfl, rfl, rfl⟩ g gg a ha) (sEs es lv g h4)) rfl
        | cons _ _ => exact absurd h Bool.false_ne_true
      | _ => exact absurd h Bool.false_ne_true
    | _ => exact absurd h Bool.false_ne_true
  | .make gg es, T, c, k, X, W, e, lv, g, h => by
    cases e with
    | Call fn l kw p =>
      cases fn with
      | Name x pn =>
        cases kw with
        | nil =>
          have h : (decide (T.cs[gg]? = some x) && gloB X.env.scope x && !dbg x && chEs T X.N X.env.scope es l) = true := h
          obtain ⟨h, h4⟩ := and2 h
          obtain ⟨h, h3⟩ := and2 h
          obtain ⟨h1, h2⟩ := and2 h
          obtain ⟨a, hm, ha, hk⟩ := lv.cls gg x (of_decide_eq_true h1)
          have h3 := Bool.not_eq_true' _ |>.mp h3
          unfold dbg at h3
          simp only [Bool.or_eq_false_iff] at h3
          exact SS.of (call_road rfl h3.1.1 (gl_of h2) hm hk (lv.mak X W ⟨rfl, rfl, rfl, rfl, rfl⟩ g gg a ha) (sEs es lv g h4)) rfl
        | cons _ _ => exact absurd h Bool.false_ne_true
      | _ => exact absurd h Bool.false_ne_true
    | _ => exact absurd h Bool.false_ne_true
  | .obj o f es, T, c, k, X, W, e, lv, g, h => by
    cases e with
    | Call fn l kw p =>
      cases fn with
      | Attribute o' f' apos =>
        cases kw with
        | nil =>
          have h : (decide (f = f') && decide (l.length < 30) && attB o' && (apos.endLine == p.line) && chE T X.N X.env.scope o o' && chEs T X.N X.env.scope es l) = true := h
          obtain ⟨h, h6⟩ := and2 h
          obtain ⟨h, h5⟩ := and2 h
          obtain ⟨h, h4⟩ := and2 h
          obtain ⟨h, h3⟩ := and2 h
          obtain ⟨h1, h2⟩ := and2 h
          have h1 := of_decide_eq_true h1
          subst h1
          exact SS.of (obj_pe g lv.toLv (of_decide_eq_true h2) h3 h4 (sE o lv g h5) (sEs es lv g h6)) rfl
        | cons _ _ => exact absurd h Bool.false_ne_true
      | _ => exact absurd h Bool.false_ne_true
    | _ => exact absurd h Bool.false_ne_true
  | .cal i es, T, c, k, X, W, e, lv, g, h => by
    cases e with
    | Call fn l kw p =>
      cases fn with
      | Name x pn =>
        cases kw with
        | nil =>
          have h : (decide (X.N[i]? = some x) && visB X.env.scope x && !dbg x && chEs T X.N X.env.scope es l) = true := h
          obtain ⟨h, h4⟩ := and2 h
          obtain ⟨h, h3⟩ := and2 h
          obtain ⟨h1, h2⟩ := and2 h
          exact SS.of (cal_pe lv.toLv g (of_decide_eq_true h1) h2 (Bool.not_eq_true' _ |>.mp h3) (sEs es lv g h4)) rfl
        | cons _ _ => exact absurd h Bool.false_ne_true
      | _ => exact absurd h Bool.false_ne_true
    | _ => exact absurd h Bool.false_ne_true
  | .lc f t it cs, T, c, k, X, W, e, lv, g, h => by
    cases e with
    | ListComp f' gs scope p =>
      cases gs with
      | nil => exact absurd h Bool.false_ne_true
      | cons g0 gs =>
        obtain ⟨t', it', cs', as⟩ := g0
        cases gs with
        | cons _ _ => exact absurd h Bool.false_ne_true
        | nil =>
          have h : (decide (as = 0) && blkC X.N X.env.scope scope ((tgVars t).filterMap fun i => (X.N[i]?).map fun x => (x, i)) && decide (((tgVars t).filterMap fun i => (X.N[i]?).map fun x => (x, i)).map (·.2) = tgVars t) &&
            decide (cs'.length ≤ 1) && notSet it' && tgB X.N (relS scope X.env.scope) (fun x => scope.names.lookup x == some .cell) t t' && chI T X.N X.env.scope (isTupT t') it it' && chEs T X.N (relS scope X.env.scope) cs cs' && chE T X.N (relS scope X.env.scope) f f') = true := h
          obtain ⟨h, h9⟩ := and2 h
          obtain ⟨h, h8⟩ := and2 h
          obtain ⟨h, h7⟩ := and2 h
          obtain ⟨h, h6⟩ := and2 h
          obtain ⟨h, h5⟩ := and2 h
          obtain ⟨h, h4⟩ := and2 h
          obtain ⟨h, h3⟩ := and2 h
          obtain ⟨h1, h2⟩ := and2 h
          have h1 := of_decide_eq_true h1
          subst h1
          exact SS.of (lc_pe g (sI it lv g h7) (blkOk_by h2) (of_decide_eq_true h3)
            (fun s H C cl fp => tg_pg (X := X.blk s H scope (compEnvC scope cl C X.env) fp) g.nd g.calm (fun x hx => hx) h6)
            (fun s H C cl fp => pts_of (X := X.blk s H scope (compEnvC scope cl C X.env) fp) (sEs cs lv.blk g.blk h8) (of_decide_eq_true h4))
            (fun s H C cl fp => (sE f (X := X.blk s H scope (compEnvC scope cl C X.env) fp) lv.blk g.blk h9).pe) (fset_of h5)) rfl
    | _ => exact absurd h Bool.false_ne_true
  | .lcl gg b, T, c, k, X, W, e, lv, g, h => by
    cases e with
    | Call fn l kw p =>
      cases fn with
      | Name x pn =>
        cases l with
        | nil => exact absurd h Bool.false_ne_true
        | cons a' l =>
          cases l with
          | cons _ _ => cases a' <;> cases kw <;> exact absurd h Bool.false_ne_true
          | nil =>
            cases a' with
            | Lambda ps b' scope lp =>
              cases kw with
              | cons _ _ => exact absurd h Bool.false_ne_true
              | nil =>
                have h : (T.lam && decide (T.fs[gg]? = some x) && gloB X.env.scope x && !dbg x && lamPB ps && LamX.lamSB X.env.scope scope && chE T.low X.N scope b b') = true := h
                obtain ⟨h, h7⟩ := and2 h
                obtain ⟨h, h6⟩ := and2 h
                obtain ⟨h, h5⟩ := and2 h
                obtain ⟨h, h4⟩ := and2 h
                obtain ⟨h, h3⟩ := and2 h
                obtain ⟨h1, h2⟩ := and2 h
                have h4 := Bool.not_eq_true' _ |>.mp h4
                unfold dbg at h4
                simp only [Bool.or_eq_false_iff] at h4
                have hp : ps = ⟨[], [], none, [], [], none, []⟩ := by
                  unfold lamPB at h5
                  split at h5
                  · rfl
                  · cases h5
                subst hp
                refine SS.of (lv.lcl h1 X W ⟨rfl, rfl, rfl, rfl, rfl⟩ lv.lam g gg x pn p lp b' scope (sx c.low b).v (of_decide_eq_true h2) (gl_of h3) h4.1.1 (LamX.lamS_by h6) fun Xl W' q gl => ?_) rfl
                have okl : Z.ok Xl.K Xl.mg Xl.base := by rw [q.same.K, q.same.mg, q.same.base]; exact lv.ok
                exact (sE b (⟨lv.lower h1 Xl okl, fun z => by cases z⟩ : LvE T.low Z c.low (k - 4) Xl) gl (by rw [q.N, q.sc]; exact h7)).pe
            | _ => cases kw <;> exact absurd h Bool.false_ne_true
      | _ => cases l with
        | nil => exact absurd h Bool.false_ne_true
        | cons a' l => cases l <;> cases a' <;> cases kw <;> exact absurd h Bool.false_ne_true
    | _ => exact absurd h Bool.false_ne_true
  | .mke gg es, T, c, k, X, W, e, lv, g, h => by
    cases e with
    | Call fn l kw p =>
      cases fn with
      | Name x pn =>
        cases kw with
        | cons _ _ => exact absurd h Bool.false_ne_true
        | nil =>
          have h : (T.mkx && decide (T.er[gg]? = some x) && gloB X.env.scope x && !dbg x && chEs T X.N X.env.scope es l) = true := h
          obtain ⟨h, h5⟩ := and2 h
          obtain ⟨h, h4⟩ := and2 h
          obtain ⟨h, h3⟩ := and2 h
          obtain ⟨h1, h2⟩ := and2 h
          have h4 := Bool.not_eq_true' _ |>.mp h4
          unfold dbg at h4
          simp only [Bool.or_eq_false_iff] at h4
          exact SS.of (lv.mke h1 X W ⟨rfl, rfl, rfl, rfl, rfl⟩ g gg x l (sxs c es) pn p (of_decide_eq_true h2) (gl_of h3) h4.1.1 (sEs es lv g h5)) rfl
      | _ => cases kw <;> exact absurd h Bool.false_ne_true
    | _ => exact absurd h Bool.false_ne_true
  | .atx a f, T, c, k, X, W, e, lv, g, h => by
    cases e with
    | Attribute a' f' p =>
      have h : (decide (f = f') && decide (f ∈ T.efs) && attB a' && chE T X.N X.env.scope a a') = true := h
      obtain ⟨h, h4⟩ := and2 h
      obtain ⟨h, h3⟩ := and2 h
      obtain ⟨h1, h2⟩ := and2 h
      have h1 := of_decide_eq_true h1
      subst h1
      exact SS.of (atx_pe lv.toLv (of_decide_eq_true h2) (sE a lv g h4) h3) rfl
    | _ => exact absurd h Bool.false_ne_true
  | .isx a t, T, c, k, X, W, e, lv, g, h => by
    cases e with
    | Call fn l kw p =>
      cases fn with
      | Name x pn =>
        cases l with
        | nil => exact absurd h Bool.false_ne_true
        | cons a' l =>
          cases l with
          | nil => exact absurd h Bool.false_ne_true
          | cons c' l =>
            cases l with
            | cons _ _ => exact absurd h Bool.false_ne_true
            | nil =>
              cases kw with
              | cons _ _ => exact absurd h Bool.false_ne_true
              | nil =>
                have h : (decide (x = ("isinstance" : Str)) && gloB X.env.scope x && notStar a' && txN T X.env.scope t c' && chE T X.N X.env.scope a a') = true := h
                obtain ⟨h, h5⟩ := and2 h
                obtain ⟨h, h4⟩ := and2 h
                obtain ⟨h, h3⟩ := and2 h
                obtain ⟨h1, h2⟩ := and2 h
                exact SS.of (isx_pe lv.toLv g (of_decide_eq_true h1) (gl_of h2) h3 h4 (sE a lv g h5)) rfl
      | _ =>
        cases l with
        | nil => exact absurd h Bool.false_ne_true
        | cons a' l =>
          cases l with
          | nil => exact absurd h Bool.false_ne_true
          | cons c' l => cases l <;> cases kw <;> exact absurd h Bool.false_ne_true
    | _ => exact absurd h Bool.false_ne_true
  | .fst es, T, c, k, X, W, e, lv, g, h => absurd h Bool.false_ne_true
theorem sEs {Z : Wd} : ∀ (x : Exs) {T : Tb} {c : Cg} {k : Nat} {X : Cx} {W : WX} {es : List Expr}, LvE T Z c k X → Good Z k X W → chEs T X.N X.env.scope x es = true → SSs Z X W (sxs c x) es
  | .nil, T, c, k, X, W, es, lv, g, h => by
    cases es with
    | nil => exact .nil
    | cons _ _ => exact absurd h Bool.false_ne_true
  | .cons a xs, T, c, k, X, W, es, lv, g, h => by
    cases es with
    | nil => exact absurd h Bool.false_ne_true
    | cons e es =>
      have h : (notStar e && chE T X.N X.env.scope a e && chEs T X.N X.env.scope xs es) = true := h
      obtain ⟨h, h3⟩ := and2 h
      obtain ⟨h1, h2⟩ := and2 h
      exact .cons (sE a lv g h2) h1 (sEs xs lv g h3)
theorem sO {Z : Wd} : ∀ (x : Ox) {T : Tb} {c : Cg} {k : Nat} {X : Cx} {W : WX} {e : Option Expr}, LvE T Z c k X → Good Z k X W → chO T X.N X.env.scope x e = true → PO X e (trO Z X W (optE (sxo c x)))
  | .no, T, c, k, X, W, e, lv, g, h => by
    cases e with
    | none => exact po_no
    | some _ => exact absurd h Bool.false_ne_true
  | .yes a, T, c, k, X, W, e, lv, g, h => by
    cases e with
    | none => exact absurd h Bool.false_ne_true
    | some e => exact po_yes (sE a lv g h)
theorem sI {Z : Wd} : ∀ (x : It) {T : Tb} {c : Cg} {k : Nat} {X : Cx} {W : WX} {tg e : Expr}, LvE T Z c k X → Good Z k X W → chI T X.N X.env.scope (isTupT tg) x e = true → PI X tg e (trI Z X W (sxi c x))
  | .ex a, T, c, k, X, W, tg, e, lv, g, h => pi_seq (sE a lv g (by cases e <;> exact h))
  | .rng1 a, T, c, k, X, W, tg, e, lv, g, h => by
    cases e with
    | Call fn l kw p =>
      cases fn with
      | Name x pn =>
        cases l with
        | nil => exact absurd h Bool.false_ne_true
        | cons a' l =>
          cases l with
          | cons _ _ => cases kw <;> exact absurd h Bool.false_ne_true
          | nil =>
            cases kw with
            | nil =>
              have h : (decide (x = ("range" : Str)) && gloB X.env.scope x && notStar a' && chE T X.N X.env.scope a a') = true := h
              obtain ⟨h, h4⟩ := and2 h
              obtain ⟨h, h3⟩ := and2 h
              obtain ⟨h1, h2⟩ := and2 h
              have h1 := of_decide_eq_true h1
              subst h1
              exact pi_rng1 g (gl_of h2) (sE a lv g h4) h3
            | cons _ _ => exact absurd h Bool.false_ne_true
      | _ => exact absurd h Bool.false_ne_true
    | _ => exact absurd h Bool.false_ne_true
  | .rng2 a b, T, c, k, X, W, tg, e, lv, g, h => by
    cases e with
    | Call fn l kw p =>
      cases fn with
      | Name x pn =>
        cases l with
        | nil => exact absurd h Bool.false_ne_true
        | cons a' l =>
          cases l with
          | nil => cases kw <;> exact absurd h Bool.false_ne_true
          | cons b' l =>
            cases l with
            | cons _ _ => cases kw <;> exact absurd h Bool.false_ne_true
            | nil =>
              cases kw with
              | nil =>
                have h : (decide (x = ("range" : Str)) && gloB X.env.scope x && notStar a' && notStar b' && chE T X.N X.env.scope a a' && chE T X.N X.env.scope b b') = true := h
                obtain ⟨h, h6⟩ := and2 h
                obtain ⟨h, h5⟩ := and2 h
                obtain ⟨h, h4⟩ := and2 h
                obtain ⟨h, h3⟩ := and2 h
                obtain ⟨h1, h2⟩ := and2 h
                have h1 := of_decide_eq_true h1
                subst h1
                exact pi_rng2 g (gl_of h2) (sE a lv g h5) h3 (sE b lv g h6) h4
              | cons _ _ => exact absurd h Bool.false_ne_true
      | _ => exact absurd h Bool.false_ne_true
    | _ => exact absurd h Bool.false_ne_true
  | .rng3 a b d, T, c, k, X, W, tg, e, lv, g, h => absurd h Bool.false_ne_true
  | .zip a b, T, c, k, X, W, tg, e, lv, g, h => by
    cases e with
    | Call fn l kw p =>
      cases fn with
      | Name x pn =>
        cases l with
        | nil => exact absurd h Bool.false_ne_true
        | cons a' l =>
          cases l with
          | nil => cases kw <;> exact absurd h Bool.false_ne_true
          | cons b' l =>
            cases l with
            | cons _ _ => cases kw <;> exact absurd h Bool.false_ne_true
            | nil =>
              cases kw with
              | nil =>
                have h : (isTupT tg && decide (x = ("zip" : Str)) && gloB X.env.scope x && notStar a' && notStar b' && chE T X.N X.env.scope a a' && chE T X.N X.env.scope b b') = true := h
                obtain ⟨h, h6⟩ := and2 h
                obtain ⟨h, h5⟩ := and2 h
                obtain ⟨h, h4⟩ := and2 h
                obtain ⟨h, h3⟩ := and2 h
                obtain ⟨h, h2⟩ := and2 h
                obtain ⟨h0, h1⟩ := and2 h
                have h1 := of_decide_eq_true h1
                subst h1
                cases tg with
                | Tuple ts j tp => exact pi_zipS g (gl_of h2) (sE a lv g h5) h3 (sE b lv g h6) h4
                | _ => exact absurd h0 Bool.false_ne_true
              | cons _ _ => exact absurd h Bool.false_ne_true
      | _ => exact absurd h Bool.false_ne_true
    | _ => exact absurd h Bool.false_ne_true
  | .enum a, T, c, k, X, W, tg, e, lv, g, h => by
    cases e with
    | Call fn l kw p =>
      cases fn with
      | Name x pn =>
        cases l with
        | nil => exact absurd h Bool.false_ne_true
        | cons a' l =>
          cases l with
          | cons _ _ => cases kw <;> exact absurd h Bool.false_ne_true
          | nil =>
            cases kw with
            | nil =>
              have h : (isTupT tg && decide (x = ("enumerate" : Str)) && gloB X.env.scope x && notStar a' && chE T X.N X.env.scope a a') = true := h
              obtain ⟨h, h4⟩ := and2 h
              obtain ⟨h, h3⟩ := and2 h
              obtain ⟨h, h2⟩ := and2 h
              obtain ⟨h0, h1⟩ := and2 h
              have h1 := of_decide_eq_true h1
              subst h1
              cases tg with
              | Tuple ts j tp => exact pi_enumS g (gl_of h2) (sE a lv g h4) h3
              | _ => exact absurd h0 Bool.false_ne_true
            | cons _ _ => exact absurd h Bool.false_ne_true
      | _ => exact absurd h Bool.false_ne_true
    | _ => exact absurd h Bool.false_ne_true
end
end MP
namespace MP
open PySem PySem.Spec PyProof.Rows L2

/-! ### which text a statement stands for -/
def starE : Expr → Bool
  | .Starred .. => true
  | _ => false
def nameOn (sc : Scope) (line : Nat) : Expr → Option Str
  | .Name id pos => if sc.names.lookup id == some .local && pos.line == line then some id else none
  | _ => none
def swT (ts vs : List Expr) (n : List Str) : Option (List Str) := if (n.length != ts.length || n.eraseDups.length != n.length) = true then none else if vs.all (foldedForSure 8) = true then none else some n
/-- the names that are stored from the right -/
def swN (sc : Scope) (ts vs : List Expr) : Option (List Str) :=
  if (!(ts.length == 2 || ts.length == 3) || vs.length != ts.length) = true then none else
  if vs.any starE = true then none else swT ts vs (ts.filterMap (nameOn sc ((ts.head?.map (·.pos.line)).getD 0)))
def noSwap (sc : Scope) : Expr → Expr → Bool
  | .Tuple ts _ _, .Tuple vs _ _ => (swN sc ts vs).isNone && (!vs.all (constantsAlone 8) || vs.all (foldedForSure 8))
  | .List .., .Tuple .. => false
  | _, _ => true
def compS : Expr → Option Scope
  | .ListComp _ _ s _ => some s
  | .SetComp _ _ s _ => some s
  | .DictComp _ _ _ s _ => some s
  | _ => none
/-- whether a comprehension is stored from within -/
def swB (sc : Scope) (v t : Expr) : Bool := match compS v with
  | none => false
  | some s => match t with
    | .Name x p => decide (sc.names.lookup x = some .local) && p.line == v.pos.line && !(s.names.any fun (n, k) => n == x && (k == .local || k == .cell))
    | _ => false
theorem blockKind_of {env : Env} (hk : env.scope.kind = .function) : env.blockKind = .function := by unfold Env.blockKind; rw [hk]; rfl
theorem swaps_eq {env : Env} (hk : env.scope.kind = .function) (v t : Expr) (l : Nat) : swapsWith v (some t) l env = pure (swB env.scope v t) := by
  have hb := blockKind_of hk
  cases v <;> first
    | rfl
    | (cases t <;> first
        | rfl
        | simp [swapsWith, swB, compS, hb, Env.kindOf, Bool.beq_eq_decide_eq])
theorem swT_eq {ts vs : List Expr} (n : List Str) (hc : vs.all (constantsAlone 8) = true → vs.all (foldedForSure 8) = true) :
    (if (n.length != ts.length || n.eraseDups.length != n.length) = true then pure none else if vs.all (foldedForSure 8) = true then pure none else if vs.all (constantsAlone 8) = true then (do unsupported "assign.tuple-of-constant-expressions:order-of-the-stores"; pure (some n)) else pure (some n) : Sem (Option (List Str))) = pure (swT ts vs n) := by
  unfold swT
  split
  · rfl
  · split
    · rfl
    · rename_i h4
      rw [if_neg fun z => h4 (hc z)]
theorem swap_eq {env : Env} (hk : env.scope.kind = .function) {ts vs : List Expr} {j j2 : Nat} {p p2 : Pos} (hc : vs.all (constantsAlone 8) = true → vs.all (foldedForSure 8) = true) : swappedStores [.Tuple ts j p] (.Tuple vs j2 p2) env = pure (swN env.scope ts vs) := by
  have hb := blockKind_of hk
  unfold swappedStores swN
  simp only [hb, bne_self_eq_false, Bool.or_false]
  dsimp only [Env.kindOf]
  split
  · rfl
  · split
    · rename_i h2
      have h2' : vs.any starE = true := by
        rw [← h2]
        exact congrArg vs.any (funext fun x => by cases x <;> rfl)
      rw [if_pos h2']
    · rename_i h2
      have h2' : ¬ vs.any starE = true := by
        rw [show vs.any starE = _ from congrArg vs.any (funext fun x => by cases x <;> rfl)]
        exact h2
      rw [if_neg h2']
      refine Eq.trans (swT_eq _ hc) ?_
      exact congrArg (fun n => pure (swT ts vs n)) (congrArg (fun f => List.filterMap f ts) (funext fun x => by cases x <;> rfl))
end MP
namespace MP
open PySem PySem.Spec PyProof.Rows L2

structure GoodS (Z : Wd) (k : Nat) (X : Cx) (W : WX) : Prop extends Good Z k X W where
  own : PassesOwn (model X.prog X.w) X.A X.env X.xe
  fnT : ∀ x, X.fn x = true
  stk : X.stack = X.env :: X.outer
  frm : X.env.frame = some X.env.locals

def PostS (W : WX) (G : Gx) (ι : List Addr) (H : Hp) (r : SR) (D : Ends) : Prop := match r with
  | .nx e h => ∀ ι' σ' H', Gr ι H ι' H' → RH G ι' h H' → RS G ι' H' e σ' → D.nx σ' H'
  | .rt d h => ∀ ι' H' v, Gr ι H ι' H' → RH G ι' h H' → RD G ι' H' d v → D.rt v H'
  | .bk e h => ∀ ι' σ' H', Gr ι H ι' H' → RH G ι' h H' → RS G ι' H' e σ' → D.bk σ' H'
  | .ct e h => ∀ ι' σ' H', Gr ι H ι' H' → RH G ι' h H' → RS G ι' H' e σ' → D.ct σ' H'
  | .exc c fs e h => ∀ ι' σ' H' Ca d, Gr ι H ι' H' → RH G ι' h H' → RS G ι' H' e σ' → G.ea c = some Ca → RX G ι' H' fs d → W (.ref Ca) d σ' H'
  | .bad => False
def trS (Z : Wd) (X : Cx) (W : WX) (f : En → AH → SR) : TS := fun D σ H => ∃ ι e h, RH (Z.g X) ι h H ∧ RS (Z.g X) ι H e σ ∧ PostS W (Z.g X) ι H (f e h) D

structure LvS (T : Tb) (Z : Wd) (c : Cg) (k : Nat) (X : Cx) : Prop extends LvE T Z c k X where
  act : ∀ pn xe VW, GoodS Z k (X.tr pn xe) VW → ∀ (i : Nat) (x : Str) (p1 p2 pos : Pos), X.N[i]? = some x → Vis X.env.scope x → dbg x = false →
    PS (X.tr pn xe) (.Expr (.Call (.Name x p1) [] [] p2) pos) (trS Z (X.tr pn xe) VW fun e h => onE (actE c i e h) e fun _ h => .nx e h)
  rse : ∀ Y V, Same X Y → GoodS Z k Y V → ∀ j x l ss p pos pos', T.er[j]? = some x → Gl Y x → (x == ("__debug__" : Str)) = false → SSs Z Y V ss l →
    PS Y (.Raise (some (.Call (.Name x p) l [] pos)) none pos') (trS Z Y V fun e h => onE (seqE ss e h) e fun ds h => rseD c j ds e h)

section
variable {Z : Wd} {k : Nat} {X : Cx} {W : WX} {G : Gx}
variable {pins : List (Addr × Obj)} {s : Shared} {σ : L2.St} {H H' : Hp} {ι ι' : List Addr} {h : AH} {en : En} {Dn : Ends}
theorem PostS.mono {r : SR} (g : Gr ι H ι' H') (p : PostS W G ι H r Dn) : PostS W G ι' H' r Dn := by
  cases r with
  | nx e h => exact fun a b c g2 => p a b c (g.trans g2)
  | rt d h => exact fun a b c g2 => p a b c (g.trans g2)
  | bk e h => exact fun a b c g2 => p a b c (g.trans g2)
  | ct e h => exact fun a b c g2 => p a b c (g.trans g2)
  | exc c fs e h => exact fun a b c Ca d g2 => p a b c Ca d (g.trans g2)
  | bad => exact p
/-- an expression, then a statement's rest -/
theorem PostS.onE {α β : Type} (rel : List Addr → Hp → α → β → Prop) {r : Res α} {f : α → AH → SR} (rs : RS G ι H en σ) (p : PostS W G ι H (onE r en f) Dn) :
    Post rel W G ι σ H r fun v H1 => ∃ ι1 d h1, Gr ι H ι1 H1 ∧ RH G ι1 h1 H1 ∧ rel ι1 H1 d v ∧ PostS W G ι1 H1 (f d h1) Dn := by
  cases r with
  | ok a h => exact fun ι2 H2 v g2 r2 q2 => ⟨ι2, a, h, g2, r2, q2, PostS.mono g2 p⟩
  | exc c fs h => exact fun ι2 H2 Ca d g2 r2 ec rx => p ι2 σ H2 Ca d g2 r2 (rs.mono g2) ec rx
  | bad => exact p
theorem SS.bindS {t : Sx} {e : Expr} {f : D → AH → SR} (ss : SS Z X W t e) (I : Inv X pins σ H s) (rh : RH (Z.g X) ι h H) (rs : RS (Z.g X) ι H en σ) (p : PostS W (Z.g X) ι H (onE (t.v en h) en f) Dn) :
    wpAny (model X.prog X.w) X.A (eval e X.env) (fun v s1 => ∃ ι1 H1 h1 d x, Inv X pins σ H1 s1 ∧ RH (Z.g X) ι1 h1 H1 ∧ RS (Z.g X) ι1 H1 en σ ∧ RelV x v ∧ RD (Z.g X) ι1 H1 d x ∧ Gr ι H ι1 H1 ∧ PostS W (Z.g X) ι1 H1 (f d h1) Dn) X.xe s :=
  thn (ss.run I rh rs (PostS.onE _ rs p)) fun v s1 ⟨x, H1, I1, rx, ι1, d, h1, g1, rh1, rd, p1⟩ => ⟨ι1, H1, h1, d, x, I1, rh1, rs.mono g1, rx, rd, g1, p1⟩
theorem PostS.nx {e : En} {h' : AH} (p : PostS W G ι H (.nx e h') Dn) (rh : RH G ι h' H) (rs : RS G ι H e σ) : Dn.nx σ H := p ι σ H (Gr.refl _ _) rh rs

variable {t ta tb : Sx} {e a b : Expr} {ss : List Sx} {es : List Expr} {pos : Pos} {st : Stmt} {c : Cg}

/-! ### stores -/
theorem asg_var (g : GoodS Z k X W) {i : Nat} {te : Expr} (hn : TnOk X i te) (ht : SS Z X W t e) (hs : swB X.env.scope e te = false) : PS X (.Assign [te] e pos) (trS Z X W fun en h => onE (t.v en h) en fun v h => .nx (en.set i (some v)) h) := by
  obtain ⟨x, px, rfl, h1, h2, h3⟩ := hn.ex
  refine ⟨fun pins s σ H D I hw => ?_⟩
  obtain ⟨ι, en, h, rh, rs, p⟩ := hw
  refine (ps_set g.nd h1 h2 ht.pe (by rw [swaps_eq I.ok.kind, hs]) h3).run pins s σ H D I ⟨ι, en, h, rh, rs, (PostS.onE _ rs p).imp fun x H1 ⟨ι1, d, h1, g1, rh1, rd, p1⟩ => ?_⟩
  exact p1.nx rh1 ((rs.mono g1).put rd i)
theorem asg_tup (g : GoodS Z k X W) {is : List Nat} {ts : List Expr} {j : Nat} {tp : Pos} (hn : tnsB X.N X.env.scope (fun _ => true) is ts = true) (ht : SS Z X W t e) (hw : noSwap X.env.scope (.Tuple ts j tp) e = true) :
    PS X (.Assign [.Tuple ts j tp] e pos) (trS Z X W fun en h => onE (t.v en h) en fun v h => match bindTg (.tup is) v en with
      | some e' => .nx e' h
      | none => .bad) := by
  have hg := tg_pg (Z := Z) (X := X) (t := .tup is) (e := .Tuple ts j tp) (fc := fun _ => true) g.nd g.calm (fun x _ => g.fnT x) hn
  refine ⟨fun pins s σ H D I hw' => ?_⟩
  obtain ⟨ι, en, h, rh, rs, p⟩ := hw'
  have hsw : swappedStores [.Tuple ts j tp] e X.env = pure none := by
    cases e <;> first
      | rfl
      | skip
    rename_i vs j2 p2
    have hw : ((swN X.env.scope ts vs).isNone && (!vs.all (constantsAlone 8) || vs.all (foldedForSure 8))) = true := hw
    obtain ⟨w1, w2⟩ := and2 hw
    rw [swap_eq I.ok.kind, Option.isNone_iff_eq_none.mp w1]
    intro z
    rw [z] at w2
    simpa using w2
  have hs1 : swapsWithSole [.Tuple ts j tp] e pos.line X.env = pure false := by
    show swapsWith e (some (.Tuple ts j tp)) pos.line X.env = pure false
    rw [swaps_eq I.ok.kind]
    unfold swB
    cases compS e <;> rfl
  refine (ps_asg ht.pe hg hs1 hsw).run pins s σ H D I ⟨ι, en, h, rh, rs, (PostS.onE _ rs p).imp fun x H1 ⟨ι1, d, h1, g1, rh1, rd, p1⟩ => ?_⟩
  split at p1
  · rename_i e' eb
    exact ⟨ι1, en, d, e', rd, rs.mono g1, eb, fun σ' rs' _ _ => p1.nx rh1 rs'⟩
  · exact p1.elim
theorem asg_idx (g : GoodS Z k X W) {tp : Pos} (ho : SS Z X W ta a) (hi : SS Z X W tb b) (hn : notSlice b = true) (ht : SS Z X W t e) :
    PS X (.Assign [.Subscript a b tp] e pos) (trS Z X W fun en h => onE (t.v en h) en fun v h => onE (ta.v en h) en fun x h => onE (tb.v en h) en fun y h => onE (setI x y v h) en fun _ h => .nx en h) := by
  refine ⟨fun pins s σ H D I hw' => ?_⟩
  obtain ⟨ι, en, h, rh, rs, p⟩ := hw'
  have hs1 : swapsWithSole [.Subscript a b tp] e pos.line X.env = pure false := by
    show swapsWith e (some (.Subscript a b tp)) pos.line X.env = pure false
    rw [swaps_eq I.ok.kind]
    unfold swB
    cases compS e <;> rfl
  refine (ps_asg ht.pe (pg_sub ho.pe hi.pe (setS (W := W) (σ := σ) g.toGood) (by intro v; cases b <;> first | rfl | exact absurd hn Bool.false_ne_true)) hs1 (by cases e <;> rfl)).run pins s σ H D I ⟨ι, en, h, rh, rs, (PostS.onE _ rs p).imp fun v H1 ⟨ι1, d, h1, g1, rh1, rd, p1⟩ => ?_⟩
  refine ⟨ι1, en, h1, rh1, rs.mono g1, (PostS.onE _ (rs.mono g1) p1).imp fun x H2 ⟨ι2, d2, h2, g2, rh2, rd2, p2⟩ => ?_⟩
  refine ⟨ι2, en, h2, rh2, (rs.mono g1).mono g2, (PostS.onE _ ((rs.mono g1).mono g2) p2).imp fun y H3 ⟨ι3, d3, h3, g3, rh3, rd3, p3⟩ => ?_⟩
  exact ⟨ι3, h3, d2, d3, d, rh3, rd2.mono g3, rd3, (rd.mono g2).mono g3, (PostS.onE _ (((rs.mono g1).mono g2).mono g3) p3).imp fun _ H4 ⟨ι4, _, h4, g4, rh4, _, p4⟩ => p4.nx rh4 ((((rs.mono g1).mono g2).mono g3).mono g4)⟩
theorem setattr_rd (g : Good Z k X W) {o v : D} {x y : V} {u ov : Value} {f : Str} (hf : f ∈ Z.fns) (I : Inv X pins σ H s) (rh : RH (Z.g X) ι h H) (ro : RD (Z.g X) ι H o x) (rv : RD (Z.g X) ι H v y) (rx : RelV x ov) (ry : RelV y u) {Q : Hp → Prop}
    (p : Post (fun _ _ (_ : Unit) (_ : Unit) => True) W (Z.g X) ι σ H (setA o f v h) fun _ H' => Q H') : wpAny (model X.prog X.w) X.A (setAttr ov f u) (fun _ s' => ∃ H', Inv X pins σ H' s' ∧ Q H') X.xe s := by
  cases ro with
  | ref ea =>
    simp only [setA] at p
    split at p
    · rename_i e1
      split at p
      · rename_i hz
        cases rh.at e1 ea with
        | ins ec l rf =>
          cases rx
          refine setattr_ok I l (g.cl _ _ ec) (g.na _ _ _ ec hf) (by rw [← rf.length]; exact hz) ry fun s' I' => ⟨_, I', ?_⟩
          exact p.ok' (v := ()) (Gr.put ea l trivial) (rh.put ea l trivial (.ins ec upd_same (putA_rd (rv.mono (Gr.put ea l trivial)) (rf.mono (Gr.put ea l trivial))))) trivial
      · exact p.elim
    · exact p.elim
  | _ => exact p.elim
theorem asg_att (g : GoodS Z k X W) {tp : Pos} {f : Str} (hf : f ∈ Z.fns) (ho : SS Z X W ta a) (ht : SS Z X W t e) :
    PS X (.Assign [.Attribute a f tp] e pos) (trS Z X W fun en h => onE (t.v en h) en fun v h => onE (ta.v en h) en fun x h => onE (setA x f v h) en fun _ h => .nx en h) := by
  refine ⟨fun pins s σ H D I hw' => ?_⟩
  obtain ⟨ι, en, h, rh, rs, p⟩ := hw'
  have hs1 : swapsWith e (some (.Attribute a f tp)) pos.line X.env = pure false := by
    rw [swaps_eq I.ok.kind]
    unfold swB
    cases compS e <;> rfl
  refine plainObj_wpAny_Assign_Attribute (thn (ht.bindS I rh rs p) fun u s1 ⟨ι1, H1, h1, d, y, I1, rh1, rs1, ry, rd, g1, p1⟩ => thn (ho.bindS I1 rh1 rs1 p1) fun ov s2 ⟨ι2, H2, h2, d2, x, I2, rh2, rs2, rx, rd2, g2, p2⟩ => ?_) hs1
  exact thn (setattr_rd g.toGood hf I2 rh2 rd2 (rd.mono g2) rx ry (PostS.onE (fun _ _ (_ : Unit) (_ : Unit) => True) rs2 p2)) fun _ s3 ⟨H3, I3, ι3, _, h3, g3, rh3, _, p3⟩ => ⟨σ, H3, I3, p3.nx rh3 (rs2.mono g3)⟩

/-! ### op= -/
theorem ip_vals {o : Bop} {d1 d2 : D} {x y : V} {v u : Value} (I : Inv X pins σ H s) (rh : RH (Z.g X) ι h H) (r1 : RD (Z.g X) ι H d1 x) (r2 : RD (Z.g X) ι H d2 y) (rx : RelV x v) (ry : RelV y u) {Q : VK} (p : Post (RD (Z.g X)) W (Z.g X) ι σ H (ipD o d1 d2 h) Q) :
    wpAny (model X.prog X.w) X.A (inplaceOp (opOf o) v u) (EP X pins σ Q) X.xe s := by
  unfold ipD at p
  split at p
  · cases r1; cases r2
    exact iop_add pins s σ H _ _ v u Q I rx ry ⟨_, _, rfl, rfl, p.ok rh (.int _)⟩
  · cases r1; cases r2
    exact iop_sub pins s σ H _ _ v u Q I rx ry ⟨_, _, rfl, rfl, p.ok rh (.int _)⟩
  · exact p.elim
/-- the same in a fixed frame -/
def rIpM (Z : Wd) (X : Cx) (W : WX) (σ : L2.St) (o : Bop) : R2 := fun x y H Q => ∃ ι h d1 d2, RH (Z.g X) ι h H ∧ RD (Z.g X) ι H d1 x ∧ RD (Z.g X) ι H d2 y ∧ Post (RD (Z.g X)) W (Z.g X) ι σ H (ipD o d1 d2 h) Q
theorem pip_of {o : Bop} : PIp X (opOf o) (rIpM Z X W σ o) := by
  intro pins s σ' H x y v u Q I rx ry q
  obtain ⟨ι, h, d1, d2, rh, r1, r2, p⟩ := q
  unfold ipD at p
  split at p
  · cases r1; cases r2
    exact iop_add pins s σ' H _ _ v u Q I rx ry ⟨_, _, rfl, rfl, p.ok rh (.int _)⟩
  · cases r1; cases r2
    exact iop_sub pins s σ' H _ _ v u Q I rx ry ⟨_, _, rfl, rfl, p.ok rh (.int _)⟩
  · exact p.elim
theorem var_okS {i : Nat} {f : D → AH → SR} (rs : RS G ι H en σ) (p : PostS W G ι H (onE (varE i en h) en f) Dn) : ∃ d v, σ[i]? = some (some v) ∧ RD G ι H d v ∧ PostS W G ι H (f d h) Dn := by
  unfold varE at p
  split at p
  · exact p.elim
  · rename_i d n ed
    obtain ⟨v, ev, rd⟩ := rs.val i d ed fun z => n (by rw [z])
    exact ⟨d, v, ev, rd, p⟩
  · exact p.elim
theorem aug_var (g : GoodS Z k X W) {i : Nat} {te : Expr} {o : Bop} (hn : TnOk X i te) (ht : SS Z X W t e) :
    PS X (.AugAssign te (opOf o) e pos) (trS Z X W fun en h => onE (varE i en h) en fun x h => onE (t.v en h) en fun y h => onE (ipD o x y h) en fun z h => .nx (en.set i (some z)) h) := by
  obtain ⟨x, px, rfl, h1, h2, h3⟩ := hn.ex
  refine ⟨fun pins s σ H D I hw => ?_⟩
  obtain ⟨ι, en, h, rh, rs, p⟩ := hw
  obtain ⟨d, v, ev, rv, p⟩ := var_okS rs p
  refine (ps_aug g.nd h1 h2 ht.pe (pip_of (Z := Z) (W := W) (σ := σ) (o := o)) h3).run pins s σ H D I ⟨v, ev, ι, en, h, rh, rs, (PostS.onE _ rs p).imp fun y H1 ⟨ι1, d1, h1, g1, rh1, rd, p1⟩ => ?_⟩
  exact ⟨ι1, h1, d, d1, rh1, rv.mono g1, rd, (PostS.onE _ (rs.mono g1) p1).imp fun z H2 ⟨ι2, d2, h2, g2, rh2, rd2, p2⟩ => p2.nx rh2 (((rs.mono g1).mono g2).put rd2 i)⟩
theorem get_rd (g : Good Z k X W) {d1 d2 : D} {x y : V} {v u : Value} {Q : VK} (I : Inv X pins σ H s) (rh : RH (Z.g X) ι h H) (ra : RD (Z.g X) ι H d1 x) (rb : RD (Z.g X) ι H d2 y) (rx : RelV x v) (ry : RelV y u)
    (p : Post (RD (Z.g X)) W (Z.g X) ι σ H (idxM d1 d2 h) Q) : wpAny (model X.prog X.w) X.A (getItem v u) (EP X pins σ Q) X.xe s := by
  cases ra with
  | @ref n ad ea =>
    cases rx
    simp only [idxM] at p
    split at p
    · rename_i ds i e0
      cases rb
      obtain ⟨tk, rfl⟩ := ry
      obtain ⟨d, ed, p⟩ := ofOpt_ok p
      cases rh.at e0 ea with
      | lst l r =>
        obtain ⟨w, ew, rw'⟩ := r.at ed
        obtain ⟨its, rv, pl, hz⟩ := I.list (SqL.of (K := X.K) l)
        obtain ⟨j, h1, h2, h3, h4, h5⟩ := atI_get ew
        obtain ⟨w2, ew2, rw2⟩ := rv.get h2
        have hl := rv.length
        have hn := line63
        have fin : EP X pins σ Q w2 s := ⟨w, H, I, rw2, p.ok rh rw'⟩
        by_cases h0 : 0 ≤ i
        · have hj : i.toNat = j := by
            rw [seqIndex_of h0 h5] at h1
            exact Option.some.inj h1
          exact wpAny_getItem_list pl.isList h0 (by omega) (by rw [hj]; simpa using ew2) fin
        · have hj : (i + (its.toArray.size : Int)).toNat = j := by
            rw [seqIndex_neg (by omega) h4] at h1
            rw [List.size_toArray, ← hl]
            exact Option.some.inj h1
          exact wpAny_getItem_list_neg pl.isList (by omega) (by rw [List.size_toArray] <;> omega) (by omega) (by rw [hj]; simpa using ew2) fin
    · exact p.elim
  | _ => exact p.elim
theorem aug_idx (g : GoodS Z k X W) {tp : Pos} {o : Bop} (ha : SS Z X W ta a) (hb : SS Z X W tb b) (hn : notSlice b = true) (ht : SS Z X W t e) :
    PS X (.AugAssign (.Subscript a b tp) (opOf o) e pos) (trS Z X W fun en h => onE (ta.v en h) en fun x h => onE (tb.v en h) en fun y h => onE (idxM x y h) en fun w h => onE (t.v en h) en fun z h => onE (ipD o w z h) en fun n h => onE (setI x y n h) en fun _ h => .nx en h) := by
  refine ⟨fun pins s σ H D I hw => ?_⟩
  obtain ⟨ι, en, h, rh, rs, p⟩ := hw
  refine wpAny_AugAssign_SubscriptAny (thn (ha.bindS I rh rs p) fun ov s1 ⟨ι1, H1, h1, d1, x1, I1, rh1, rs1, rx1, rd1, g1, p1⟩ => ?_) (by intro ov iv new; cases b <;> first | rfl | exact absurd hn Bool.false_ne_true)
  refine thn (hb.bindS I1 rh1 rs1 p1) fun iv s2 ⟨ι2, H2, h2, d2, x2, I2, rh2, rs2, rx2, rd2, g2, p2⟩ => ?_
  refine thn (get_rd g.toGood I2 rh2 (rd1.mono g2) rd2 rx1 rx2 (PostS.onE _ rs2 p2)) fun old s3 ⟨x3, H3, I3, rx3, ι3, d3, h3, g3, rh3, rd3, p3⟩ => ?_
  refine thn (ht.bindS I3 rh3 (rs2.mono g3) p3) fun v s4 ⟨ι4, H4, h4, d4, x4, I4, rh4, rs4, rx4, rd4, g4, p4⟩ => ?_
  refine thn (ip_vals I4 rh4 (rd3.mono g4) rd4 rx3 rx4 (PostS.onE _ rs4 p4)) fun new s5 ⟨x5, H5, I5, rx5, ι5, d5, h5, g5, rh5, rd5, p5⟩ => ?_
  refine thn (setS (W := W) (σ := σ) g.toGood pins s5 σ H5 x1 x2 x5 ov iv new _ I5 rx1 rx2 rx5 ⟨ι5, h5, d1, d2, d5, rh5, (((rd1.mono g2).mono g3).mono g4).mono g5, ((rd2.mono g3).mono g4).mono g5, rd5, PostS.onE _ (rs4.mono g5) p5⟩) fun _ s6 ⟨H6, I6, ι6, _, h6, g6, rh6, _, p6⟩ => ?_
  exact ⟨σ, H6, I6, p6.nx rh6 ((rs4.mono g5).mono g6)⟩
theorem aug_att (g : GoodS Z k X W) {tp : Pos} {o : Bop} {f : Str} (hf : f ∈ Z.fns) (ha : SS Z X W ta a) (ht : SS Z X W t e) :
    PS X (.AugAssign (.Attribute a f tp) (opOf o) e pos) (trS Z X W fun en h => onE (ta.v en h) en fun x h => onE (attM x f h) en fun w h => onE (t.v en h) en fun z h => onE (ipD o w z h) en fun n h => onE (setA x f n h) en fun _ h => .nx en h) := by
  refine ⟨fun pins s σ H D I hw => ?_⟩
  obtain ⟨ι, en, h, rh, rs, p⟩ := hw
  refine wpAny_AugAssign_AttributeAny (thn (ha.bindS I rh rs p) fun ov s1 ⟨ι1, H1, h1, d1, x1, I1, rh1, rs1, rx1, rd1, g1, p1⟩ => ?_)
  cases rd1 with
  | ref ea =>
    have p1 := PostS.onE (RD (Z.g X)) (σ := σ) rs1 p1
    simp only [attM] at p1
    split at p1
    · rename_i e1
      obtain ⟨d, ed, p1⟩ := ofOpt_ok p1
      cases rh1.at e1 ea with
      | ins ec l rf =>
        obtain ⟨w, ew, rw'⟩ := rf.look ed
        cases rx1
        refine getattr_ok I1 l (g.cl _ _ ec) (g.na _ _ _ ec hf) ew fun u s2 I2 ru => ?_
        obtain ⟨ι3, d3, h3, g3, rh3, rd3, p3⟩ := p1.ok rh1 rw'
        refine thn (ht.bindS I2 rh3 (rs1.mono g3) p3) fun w3 s3 ⟨ι4, H4, h4, d4, y4, I4, rh4, rs4, ry4, rd4, g4, p4⟩ => ?_
        refine thn (ip_vals I4 rh4 (rd3.mono g4) rd4 ru ry4 (PostS.onE _ rs4 p4)) fun w4 s4 ⟨z, H5, I5, rz, ι5, d5, h5, g5, rh5, rd5, p5⟩ => ?_
        refine thn (setattr_rd g.toGood hf I5 rh5 ((((RD.ref ea).mono g3).mono g4).mono g5) rd5 rfl rz (PostS.onE (fun _ _ (_ : Unit) (_ : Unit) => True) (rs4.mono g5) p5)) fun _ s6 ⟨H6, I6, ι6, _, h6, g6, rh6, _, p6⟩ => ?_
        exact ⟨σ, H6, I6, p6.nx rh6 ((rs4.mono g5).mono g6)⟩
    · exact p1.elim
  | _ => exact absurd (PostS.onE (RD (Z.g X)) (σ := σ) rs1 p1) (fun z => z.elim)
end
end MP
namespace MP
open PySem PySem.Spec PyProof.Rows L2
def notComp (e : Expr) : Bool := (compS e).isNone
def isLc : Ex → Bool
  | .lc .. => true
  | _ => false
def allT : Str → Bool := fun _ => true
def noT : Str → Bool := fun _ => false
def namesOf (N : List Str) (is : List Nat) : List Str := is.filterMap fun i => N[i]?
def parL : List Nat → Bool
  | [_, _] => true
  | [_, _, _] => true
  | _ => false

section
variable {Z : Wd} {k : Nat} {X : Cx} {W : WX} {G : Gx} {T : Tb} {c : Cg}
variable {pins : List (Addr × Obj)} {s : Shared} {σ : L2.St} {H H' : Hp} {ι ι' : List Addr} {h : AH} {en : En} {Dn : Ends}
variable {t : Sx} {e : Expr} {ss : List Sx} {es : List Expr} {pos : Pos}
/-- name = [..], stored from within -/
theorem asg_lc (lv : LvE T Z c k X) (g : GoodS Z k X W) {i : Nat} {te : Expr} {f : Ex} {tg : Tg} {it : It} {cs : Exs} (hn : tnB X.N X.env.scope noT i te = true) (hc : chE T X.N X.env.scope (.lc f tg it cs) e = true) (hs : swB X.env.scope e te = true) :
    PS X (.Assign [te] e pos) (trS Z X W fun en h => onE ((sx c (.lc f tg it cs)).v en h) en fun v h => .nx (en.set i (some v)) h) := by
  cases te with
  | Name x px =>
    obtain ⟨x', px', ex, h1, _, h3⟩ := (tn_of (X := X) (fc := noT) (fun _ z => absurd z Bool.false_ne_true) hn).ex
    cases ex
    have hl : X.env.scope.names.lookup x = some .local := by
      have hn : (decide (X.N[i]? = some x) && match X.env.scope.names.lookup x with
        | some .local => true
        | some .cell => noT x
        | _ => false) = true := hn
      have := (and2 hn).2
      split at this
      · assumption
      · exact absurd this Bool.false_ne_true
      · exact absurd this Bool.false_ne_true
    cases e with
    | ListComp f' gs scope p =>
      cases gs with
      | nil => exact absurd hc Bool.false_ne_true
      | cons g0 gs =>
        obtain ⟨t', it', cs', as⟩ := g0
        cases gs with
        | cons _ _ => exact absurd hc Bool.false_ne_true
        | nil =>
          have h : (decide (as = 0) && blkC X.N X.env.scope scope ((tgVars tg).filterMap fun i => (X.N[i]?).map fun x => (x, i)) && decide (((tgVars tg).filterMap fun i => (X.N[i]?).map fun x => (x, i)).map (·.2) = tgVars tg) &&
            decide (cs'.length ≤ 1) && notSet it' && tgB X.N (relS scope X.env.scope) (fun x => scope.names.lookup x == some .cell) tg t' && chI T X.N X.env.scope (isTupT t') it it' && chEs T X.N (relS scope X.env.scope) cs cs' && chE T X.N (relS scope X.env.scope) f f') = true := hc
          obtain ⟨h, h9⟩ := and2 h
          obtain ⟨h, h8⟩ := and2 h
          obtain ⟨h, h7⟩ := and2 h
          obtain ⟨h, h6⟩ := and2 h
          obtain ⟨h, h5⟩ := and2 h
          obtain ⟨h, h4⟩ := and2 h
          obtain ⟨h, h3'⟩ := and2 h
          obtain ⟨h1', h2⟩ := and2 h
          have h1' := of_decide_eq_true h1'
          subst h1'
          refine ⟨fun pins s σ H D I hw => ?_⟩
          obtain ⟨ι, en, h, rh, rs, p⟩ := hw
          refine (ps_setLc (g := trG Z X tg) (tt := trB Z X WNo (conT (sxs c cs))) (te := trD Z X WNo (sx c f).v) g.calm g.nd h1 hl (by rw [swaps_eq I.ok.kind, hs]) (sI it lv g.toGood h7) (blkOk_by h2)
            (fun s H C cl fp => tg_pg (X := X.blk s H scope (compEnvC scope cl C X.env) fp) g.nd g.calm (fun x hx => hx) h6)
            (fun s H C cl fp => pts_of (X := X.blk s H scope (compEnvC scope cl C X.env) fp) (sEs cs lv.blk g.toGood.blk h8) (of_decide_eq_true h4))
            (fun s H C cl fp => (sE f (X := X.blk s H scope (compEnvC scope cl C X.env) fp) lv.blk g.toGood.blk h9).pe) (fset_of h5)).run pins s σ H D I ?_
          have q := PostS.onE (RD (Z.g X)) (σ := σ) rs p
          refine lc_read (of_decide_eq_true h3') rh rs (q.imp fun x H1 ⟨ι1, d, h1, g1, rh1, rd, p1⟩ => ?_)
          exact p1.nx rh1 ((rs.mono g1).put rd i)
    | _ => exact absurd hc Bool.false_ne_true
  | _ =>
    unfold swB at hs
    cases hcs : compS e with
    | none => rw [hcs] at hs; exact absurd hs Bool.false_ne_true
    | some s => rw [hcs] at hs; exact absurd hs Bool.false_ne_true
end
end MP
namespace MP
open PySem PySem.Spec PyProof.Rows L2
section
variable {Z : Wd} {k : Nat} {X : Cx} {W : WX} {G : Gx} {T : Tb} {c : Cg}
variable {pins : List (Addr × Obj)} {s : Shared} {σ : L2.St} {H H' : Hp} {ι ι' : List Addr} {h : AH} {en : En} {Dn : Ends}
variable {t : Sx} {e : Expr} {ss : List Sx} {es : List Expr} {pos : Pos}
theorem tn_loc {i : Nat} {te : Expr} (hn : tnB X.N X.env.scope noT i te = true) : ∃ x p, te = .Name x p ∧ X.N[i]? = some x ∧ X.env.scope.names.lookup x = some .local := by
  cases te with
  | Name x px =>
    have hn : (decide (X.N[i]? = some x) && match X.env.scope.names.lookup x with
      | some .local => true
      | some .cell => noT x
      | _ => false) = true := hn
    obtain ⟨h1, h2⟩ := and2 hn
    refine ⟨x, px, rfl, of_decide_eq_true h1, ?_⟩
    split at h2
    · assumption
    · exact absurd h2 Bool.false_ne_true
    · exact absurd h2 Bool.false_ne_true
  | _ => exact absurd hn Bool.false_ne_true
theorem par_ps (g : GoodS Z k X W) {is : List Nat} {ts vs : List Expr} {j j2 : Nat} {p p2 : Pos} (hp : parL is = true) (hl : vs.length = is.length) (nd : is.Nodup) (hn : tnsB X.N X.env.scope noT is ts = true) (hw : swN X.env.scope ts vs = some (namesOf X.N is))
    (hc : (!vs.all (constantsAlone 8)) = true) (r : SSs Z X W ss vs) : PS X (.Assign [.Tuple ts j p] (.Tuple vs j2 p2) pos) (trS Z X W fun e h => onE (seqE ss e h) e fun ds h => if ds.length = is.length then .nx (putAll e (is.zip ds)) h else .bad) := by
  have hc : vs.all (constantsAlone 8) = true → vs.all (foldedForSure 8) = true := fun z => by rw [z] at hc; exact absurd hc Bool.false_ne_true
  have go : ∀ {pins : List (Addr × Obj)} {s : Shared} {σ : L2.St} {H : Hp} {ι : List Addr} {h : AH} {en : En} {Dn : Ends}, L2.Inv X pins σ H s → RH (Z.g X) ι h H → RS (Z.g X) ι H en σ →
      PostS W (Z.g X) ι H (onE (seqE ss en h) en fun ds h => if ds.length = is.length then .nx (putAll en (is.zip ds)) h else .bad) Dn →
      Post (RDs (Z.g X)) W (Z.g X) ι σ H (seqE ss en h) fun vs H1 => gIs is vs σ H1 Dn.nx := by
    intro pins s σ H ι h en Dn I rh rs p
    refine (PostS.onE (RDs (Z.g X)) rs p).imp fun xs H1 ⟨ι1, ds, h1, g1, rh1, rds, p1⟩ => ?_
    split at p1
    · rename_i hz
      exact gIs_ok is rds hz (rs.mono g1) fun σ' r1 _ _ => p1.nx rh1 r1
    · exact p1.elim
  have stw : ∀ (env : Env), swapsWithSole [.Tuple ts j p] (.Tuple vs j2 p2) pos.line env = pure false := fun env => rfl
  cases is with
  | nil => exact absurd hp Bool.false_ne_true
  | cons i is =>
    cases is with
    | nil => exact absurd hp Bool.false_ne_true
    | cons i2 is =>
      cases ts with
      | nil => exact absurd hn Bool.false_ne_true
      | cons t1 ts =>
        cases ts with
        | nil => exact absurd (and2 hn).2 Bool.false_ne_true
        | cons t2 ts =>
          obtain ⟨x, px, rfl, a1, a2⟩ := tn_loc (and2 hn).1
          obtain ⟨y, py, rfl, b1, b2⟩ := tn_loc (and2 (and2 hn).2).1
          cases is with
          | nil =>
            cases ts with
            | cons _ _ => exact absurd (and2 (and2 hn).2).2 Bool.false_ne_true
            | nil =>
              obtain ⟨v1, v2, rfl⟩ : ∃ v1 v2, vs = [v1, v2] := by
                match vs, hl with
                | [v1, v2], _ => exact ⟨v1, v2, rfl⟩
              refine ⟨fun pins s σ H D I hw' => ?_⟩
              obtain ⟨ι, en, h, rh, rs, pp⟩ := hw'
              have hnm : namesOf X.N [i, i2] = [x, y] := by simp [namesOf, a1, b1]
              have ne : i ≠ i2 := fun z => by rw [z] at nd; simp at nd
              refine (ps_par g.calm g.nd a1 b1 ne a2 b2 r.pa (by rw [swap_eq I.ok.kind hc, hw, hnm]) (stw _)).run pins s σ H D I ⟨ι, en, h, rh, rs, (go I rh rs pp).imp fun xs H1 q => ?_⟩
              obtain ⟨v, r1, rfl, w, r2, rfl, rfl, q⟩ := q
              exact ⟨v, w, rfl, q⟩
          | cons i3 is =>
            cases is with
            | cons _ _ => exact absurd hp Bool.false_ne_true
            | nil =>
              cases ts with
              | nil => exact absurd (and2 (and2 hn).2).2 Bool.false_ne_true
              | cons t3 ts =>
                cases ts with
                | cons _ _ => exact absurd (and2 (and2 (and2 hn).2).2).2 Bool.false_ne_true
                | nil =>
                  obtain ⟨z, pz, rfl, c1, c2⟩ := tn_loc (and2 (and2 (and2 hn).2).2).1
                  obtain ⟨v1, v2, v3, rfl⟩ : ∃ v1 v2 v3, vs = [v1, v2, v3] := by
                    match vs, hl with
                    | [v1, v2, v3], _ => exact ⟨v1, v2, v3, rfl⟩
                  refine ⟨fun pins s σ H D I hw' => ?_⟩
                  obtain ⟨ι, en, h, rh, rs, pp⟩ := hw'
                  have hnm : namesOf X.N [i, i2, i3] = [x, y, z] := by simp [namesOf, a1, b1, c1]
                  simp only [List.nodup_cons, List.mem_cons, not_or, List.not_mem_nil, not_false_eq_true, and_true] at nd
                  refine (ps_par3 g.calm g.nd a1 b1 c1 nd.1.1 nd.1.2 nd.2.1 a2 b2 c2 r.pa (by rw [swap_eq I.ok.kind hc, hw, hnm]) (stw _)).run pins s σ H D I ⟨ι, en, h, rh, rs, (go I rh rs pp).imp fun xs H1 q => ?_⟩
                  obtain ⟨v, r1, rfl, w, r2, rfl, u, r3, rfl, rfl, q⟩ := q
                  exact ⟨v, w, u, rfl, q⟩

/-! ### loops -/
theorem for_ps (g : GoodS Z k X W) {tg iter : Expr} {body : List Stmt} {tt : Tg} {itf : En → AH → Res Itr} {b : En → AH → SR} (hi : PI X tg iter (trI Z X W itf)) (ht : PG X tg (trG Z X tt)) (hb : PSs X body (trS Z X W b)) (hs : ∀ x, foldedSetIterable iter X.env x = pure x) :
    PS X (.For tg iter body [] pos) (trS Z X W fun e h => onE (itf e h) e fun I h => forGo tt I b I.turns 0 e h) := by
  refine ⟨fun pins s σ H D I hw => ?_⟩
  obtain ⟨ι, en, h, rh, rs, p⟩ := hw
  refine (ps_for g.own g.calm hi ht hb hs).run pins s σ H D I ⟨ι, en, h, rh, rs, (PostS.onE (RI (Z.g X)) rs p).imp fun J H1 ⟨ι1, I', h1, g1, rh1, ri, p1⟩ => ?_⟩
  refine ⟨fun i m σ H => ∃ ι2 e2 h2, Gr ι1 H1 ι2 H ∧ RH (Z.g X) ι2 h2 H ∧ RS (Z.g X) ι2 H e2 σ ∧ PostS W (Z.g X) ι1 H1 (forGo tt I' b m i e2 h2) D, ⟨I'.turns, ι1, en, h1, Gr.refl _ _, rh1, rs.mono g1, p1⟩, ?_⟩
  rintro i m σ2 H2 ⟨ι2, e2, h2, gr, rh2, rs2, pp⟩
  cases m with
  | zero => exact pp.elim
  | succ m =>
    cases hI : I'.rd h2 with
    | none => simp only [forGo, hI] at pp; exact pp.elim
    | some ds =>
      cases hd : ds[i]? with
      | none =>
        simp only [forGo, hI, hd] at pp
        exact .inl ⟨ri.stop ι2 h2 H2 i ds gr rh2 hI hd, pp ι2 σ2 H2 gr rh2 rs2⟩
      | some d =>
        obtain ⟨hgo, hy⟩ := ri.go ι2 h2 H2 i ds d gr rh2 hI hd
        refine .inr ⟨hgo, _, fun σ' H' w => ⟨m, Nat.lt_succ_self m, w⟩, fun x H' y => ?_⟩
        obtain ⟨rh3, g3, rd⟩ := hy x H' y
        cases hb1 : bindTg tt d e2 with
        | none => simp only [forGo, hI, hd, hb1] at pp; exact pp.elim
        | some e3 =>
          refine ⟨ι2, e2, d, e3, rd, rs2.mono g3, hb1, fun σ' rs' len' out => ⟨ι2, e3, h2, rh3, rs', ?_⟩⟩
          have g23 := gr.trans g3
          cases hr : b e3 h2 with
          | nx e4 h4 =>
            simp only [forGo, hI, hd, hb1, hr] at pp
            exact fun ι4 σ4 H4 g4 rh4 rs4 => ⟨ι4, e4, h4, g23.trans g4, rh4, rs4, pp⟩
          | ct e4 h4 =>
            simp only [forGo, hI, hd, hb1, hr] at pp
            exact fun ι4 σ4 H4 g4 rh4 rs4 => ⟨ι4, e4, h4, g23.trans g4, rh4, rs4, pp⟩
          | bk e4 h4 =>
            simp only [forGo, hI, hd, hb1, hr] at pp
            exact fun ι4 σ4 H4 g4 rh4 rs4 => pp ι4 σ4 H4 (g23.trans g4) rh4 rs4
          | rt v h4 =>
            simp only [forGo, hI, hd, hb1, hr] at pp
            exact fun ι4 H4 v4 g4 rh4 rd4 => pp ι4 H4 v4 (g23.trans g4) rh4 rd4
          | exc cc fs e4 h4 =>
            simp only [forGo, hI, hd, hb1, hr] at pp
            exact fun ι4 σ4 H4 Ca dd g4 rh4 rs4 => pp ι4 σ4 H4 Ca dd (g23.trans g4) rh4 rs4
          | bad => simp only [forGo, hI, hd, hb1, hr] at pp; exact pp.elim
theorem whl_ps (g : GoodS Z k X W) {te : Expr} {body : List Stmt} {b : En → AH → SR} {n : Nat} (ht : PT X te (trB Z X W t.t)) (hb : PSs X body (trS Z X W b)) :
    PS X (.While te body [] pos) (trS Z X W fun e h => whlGo t.t b n e h) := by
  refine ⟨fun pins s σ H D I hw => ?_⟩
  obtain ⟨ι, en, h, rh, rs, p⟩ := hw
  refine (ps_while g.own ht hb).run pins s σ H D I ?_
  refine ⟨fun m σ2 H2 => ∃ ι2 e2 h2, Gr ι H ι2 H2 ∧ RH (Z.g X) ι2 h2 H2 ∧ RS (Z.g X) ι2 H2 e2 σ2 ∧ PostS W (Z.g X) ι H (whlGo t.t b m e2 h2) D, ⟨n, ι, en, h, Gr.refl _ _, rh, rs, p⟩, ?_⟩
  rintro m σ2 H2 ⟨ι2, e2, h2, gr, rh2, rs2, pp⟩
  cases m with
  | zero => exact pp.elim
  | succ m =>
    refine ⟨ι2, e2, h2, rh2, rs2, ?_⟩
    cases hc : t.t e2 h2 with
    | bad => simp only [whlGo, hc] at pp; exact pp.elim
    | exc cc fs h3 =>
      simp only [whlGo, hc] at pp
      exact fun ι3 H3 Ca dd g3 rh3 ec rx => pp ι3 σ2 H3 Ca dd (gr.trans g3) rh3 (rs2.mono g3) ec rx
    | ok v h3 =>
      intro ι3 H3 v' g3 rh3 ev
      cases (show v = v' from ev)
      cases v with
      | false =>
        simp only [whlGo, hc] at pp
        rw [if_neg Bool.false_ne_true]
        exact pp ι3 σ2 H3 (gr.trans g3) rh3 (rs2.mono g3)
      | true =>
        rw [if_pos rfl]
        refine ⟨_, fun σ' H' w => ⟨m, Nat.lt_succ_self m, w⟩, ι3, e2, h3, rh3, rs2.mono g3, ?_⟩
        have g23 := gr.trans g3
        cases hr : b e2 h3 with
        | nx e4 h4 =>
          simp only [whlGo, hc, hr] at pp
          exact fun ι4 σ4 H4 g4 rh4 rs4 => ⟨ι4, e4, h4, g23.trans g4, rh4, rs4, pp⟩
        | ct e4 h4 =>
          simp only [whlGo, hc, hr] at pp
          exact fun ι4 σ4 H4 g4 rh4 rs4 => ⟨ι4, e4, h4, g23.trans g4, rh4, rs4, pp⟩
        | bk e4 h4 =>
          simp only [whlGo, hc, hr] at pp
          exact fun ι4 σ4 H4 g4 rh4 rs4 => pp ι4 σ4 H4 (g23.trans g4) rh4 rs4
        | rt v h4 =>
          simp only [whlGo, hc, hr] at pp
          exact fun ι4 H4 v4 g4 rh4 rd4 => pp ι4 H4 v4 (g23.trans g4) rh4 rd4
        | exc cc fs e4 h4 =>
          simp only [whlGo, hc, hr] at pp
          exact fun ι4 σ4 H4 Ca dd g4 rh4 rs4 => pp ι4 σ4 H4 Ca dd (g23.trans g4) rh4 rs4
        | bad => simp only [whlGo, hc, hr] at pp; exact pp.elim
end
end MP
namespace MP
open PySem PySem.Spec PyProof.Rows L2

/-! ### except suites -/
/-- the caught error: its name's place, its class, its fields, where it lies, its dict -/
structure Erx where
  v : Option Nat
  k : Nat
  fs : List (Str × D)
  a : Addr
  d : Option Addr
def RSu (G : Gx) (ι : List Addr) (H : Hp) (en : En) (σ : L2.St) (E : Erx) : Prop := match E.v with
  | none => RS G ι H en σ
  | some i => RS G ι H (en.set i none) σ ∧ en[i]? = some (some (.err E.k E.fs)) ∧ σ[i]? = some (some (.ref E.a))
mutual
/-- the expressions of suites -/
inductive Ux where
  | non | bl (b : Bool) | int (i : Int) | str (s : Str)
  | var (i : Nat)
  | tup (es : Uxs) | lst (es : Uxs)
  | tat (i : Nat) (f : Str)
  | rep (a : Ux)
  | isx (i : Nat) (t : Option Nat)
  | and (es : Uxs)
  | eq (a b : Ux)
inductive Uxs where
  | nil | cons (a : Ux) (es : Uxs)
end
mutual
def Ux.ex : Ux → Ex
  | .non => .non
  | .bl b => .bl b
  | .int i => .int i
  | .str s => .str s
  | .var i => .var i
  | .tup es => .tup es.exs
  | .lst es => .lst es.exs
  | .tat i f => .att (.var i) f
  | .rep a => .bi .repr (.cons a.ex .nil)
  | .isx i t => .isx (.var i) t
  | .and es => .and es.exs
  | .eq a b => .cmp .eq a.ex b.ex
def Uxs.exs : Uxs → Exs
  | .nil => .nil
  | .cons a es => .cons a.ex es.exs
end
mutual
def uxOf : Ex → Option Ux
  | .non => some .non
  | .bl b => some (.bl b)
  | .int i => some (.int i)
  | .str s => some (.str s)
  | .var i => some (.var i)
  | .tup es => (uxsOf es).map .tup
  | .lst es => (uxsOf es).map .lst
  | .att a f => match a with
    | .var i => some (.tat i f)
    | _ => none
  | .bi b es => match b with
    | .repr => match uxsOf es with
      | some (.cons a .nil) => some (.rep a)
      | _ => none
    | _ => none
  | .isx a t => match a with
    | .var i => some (.isx i t)
    | _ => none
  | .and es => (uxsOf es).map .and
  | .cmp o a b => match o with
    | .eq => match uxOf a, uxOf b with
      | some x, some y => some (.eq x y)
      | _, _ => none
    | _ => none
  | _ => none
def uxsOf : Exs → Option Uxs
  | .nil => some .nil
  | .cons a es => match uxOf a, uxsOf es with
    | some x, some xs => some (.cons x xs)
    | _, _ => none
end
mutual
theorem uxOf_ex : ∀ (x : Ex) {u : Ux}, uxOf x = some u → u.ex = x
  | .non, u, h => by cases h; rfl
  | .bl b, u, h => by cases h; rfl
  | .int i, u, h => by cases h; rfl
  | .str s, u, h => by cases h; rfl
  | .var i, u, h => by cases h; rfl
  | .tup es, u, h => by
    rw [uxOf, Option.map_eq_some_iff] at h
    obtain ⟨v, e, rfl⟩ := h
    rw [Ux.ex, uxsOf_ex es e]
  | .lst es, u, h => by
    rw [uxOf, Option.map_eq_some_iff] at h
    obtain ⟨v, e, rfl⟩ := h
    rw [Ux.ex, uxsOf_ex es e]
  | .att a f, u, h => by cases a <;> cases h <;> rfl
  | .bi b es, u, h => by
    cases b <;> first | (cases h; done) | skip
    have h : (match uxsOf es with
      | some (.cons a .nil) => some (Ux.rep a)
      | _ => none) = some u := h
    split at h
    · rename_i a e
      cases h
      have := uxsOf_ex es e
      rw [← this]
      rfl
    · cases h
  | .isx a t, u, h => by cases a <;> cases h <;> rfl
  | .and es, u, h => by
    rw [uxOf, Option.map_eq_some_iff] at h
    obtain ⟨v, e, rfl⟩ := h
    rw [Ux.ex, uxsOf_ex es e]
  | .cmp o a b, u, h => by
    cases o <;> first | (cases h; done) | skip
    have h : (match uxOf a, uxOf b with
      | some x, some y => some (Ux.eq x y)
      | _, _ => none) = some u := h
    split at h
    · rename_i x y e1 e2
      cases h
      rw [Ux.ex, uxOf_ex a e1, uxOf_ex b e2]
    · cases h
  | .glo _, u, h => by cases h
  | .dct _ _, u, h => by cases h
  | .bin _ _ _, u, h => by cases h
  | .neg _, u, h => by cases h
  | .not _, u, h => by cases h
  | .chn _ _ _ _ _, u, h => by cases h
  | .or _, u, h => by cases h
  | .ife _ _ _, u, h => by cases h
  | .idx _ _, u, h => by cases h
  | .slc _ _ _, u, h => by cases h
  | .rev _, u, h => by cases h
  | .mth _ _ _, u, h => by cases h
  | .call _ _, u, h => by cases h
  | .make _ _, u, h => by cases h
  | .obj _ _ _, u, h => by cases h
  | .cal _ _, u, h => by cases h
  | .lc _ _ _ _, u, h => by cases h
  | .lcl _ _, u, h => by cases h
  | .mke _ _, u, h => by cases h
  | .atx _ _, u, h => by cases h
  | .fst _, u, h => by cases h
theorem uxsOf_ex : ∀ (x : Exs) {u : Uxs}, uxsOf x = some u → u.exs = x
  | .nil, u, h => by cases h; rfl
  | .cons a es, u, h => by
    rw [uxsOf] at h
    split at h
    · rename_i x xs e1 e2
      cases h
      rw [Uxs.exs, uxOf_ex a e1, uxsOf_ex es e2]
    · cases h
end
mutual
def chX (T : Tb) (N : List Str) (sc : Scope) (v : Option Nat) : Ux → Expr → Bool
  | .non, .Constant .none _ _ => true
  | .bl b, .Constant (.bool k) _ _ => b == k
  | .int i, .Constant (.int j) _ _ => decide (i = j)
  | .str s, .Constant (.str z) _ _ => decide (s = z)
  | .var i, .Name x _ => decide (v ≠ some i) && decide (N[i]? = some x) && visB sc x && !dbg x
  | .tup es, .Tuple l _ _ => chXs T N sc v es l
  | .lst es, .List l _ => chXs T N sc v es l
  | .tat i f, .Attribute (.Name x _) f' _ => decide (v = some i) && decide (N[i]? = some x) && visB sc x && !dbg x && decide (f = f') && decide (f ∈ T.efs)
  | .rep a, .Call (.Name x _) [a'] [] _ => decide (x = ("repr" : Str)) && gloB sc x && notStar a' && chX T N sc v a a'
  | .isx i t, .Call (.Name x _) [.Name y _, c'] [] _ => decide (v = some i) && decide (N[i]? = some y) && visB sc y && !dbg y && decide (x = ("isinstance" : Str)) && gloB sc x && txN T sc t c'
  | .and es, .BoolOp .And l _ => neB l && chXs T N sc v es l
  | .eq a b, .Compare a' [.Eq] [b'] _ => chX T N sc v a a' && !behindInMarks .Eq b' && chX T N sc v b b'
  | _, _ => false
def chXs (T : Tb) (N : List Str) (sc : Scope) (v : Option Nat) : Uxs → List Expr → Bool
  | .nil, [] => true
  | .cons a es, a' :: l => notStar a' && chX T N sc v a a' && chXs T N sc v es l
  | _, _ => false
end
def chU (T : Tb) (N : List Str) (sc : Scope) (v : Option Nat) (x : Ex) (e : Expr) : Bool := match uxOf x with
  | some u => chX T N sc v u e
  | none => false
def chV (T : Tb) (N : List Str) (sc : Scope) (v : Option Nat) : St → Stmt → Bool
  | .asg (.var i) e, .Assign [t] e' _ => decide (v ≠ some i) && tnB N sc allT i t && chU T N sc v e e' && notComp e'
  | .exp (.mth .append (.var j) (.cons e .nil)), .Expr (.Call (.Attribute (.Name y _) f apos) [e'] [] pos) _ => decide (v ≠ some j) && decide (N[j]? = some y) && visB sc y && !dbg y && decide (f = ("append" : Str)) && (apos.endLine == pos.line) && notStar e' && chU T N sc v e e'
  | .ret e, .Return (some e') _ => chU T N sc v e e'
  | .retn, .Return none _ => true
  | .pas, .Pass _ => true
  | _, _ => false
def chVs (T : Tb) (N : List Str) (sc : Scope) (v : Option Nat) : Sts → List Stmt → Bool
  | .nil, [] => true
  | .cons s ss, s' :: ss' => chV T N sc v s s' && chVs T N sc v ss ss'
  | _, _ => false

section
variable {Z : Wd} {k : Nat} {X : Cx} {W : WX} {G : Gx} {T : Tb} {c : Cg}
variable {pins : List (Addr × Obj)} {s : Shared} {σ : L2.St} {H H' : Hp} {ι ι' : List Addr} {h : AH} {en : En} {Dn : Ends} {E : Erx}
theorem RSu.mono (g : Gr ι H ι' H') (r : RSu G ι H en σ E) : RSu G ι' H' en σ E := by
  unfold RSu at r ⊢
  split
  · rename_i e
    rw [e] at r
    exact RS.mono g r
  · rename_i i e
    rw [e] at r
    exact ⟨r.1.mono g, r.2⟩
theorem RSu.get (r : RSu G ι H en σ E) {j : Nat} {d : D} (hj : E.v ≠ some j) (e : en[j]? = some (some d)) (hn : d ≠ .thk) : ∃ v, σ[j]? = some (some v) ∧ RD G ι H d v := by
  unfold RSu at r
  split at r
  · exact r.val j d e hn
  · rename_i i ei
    refine r.1.val j d ?_ hn
    rw [List.getElem?_set_ne fun z => hj (by rw [ei, z])]
    exact e
theorem RSu.put (r : RSu G ι H en σ E) {j : Nat} {d : D} {v : V} (hj : E.v ≠ some j) (q : RD G ι H d v) : RSu G ι H (en.set j (some d)) (σ.set j (some v)) E := by
  unfold RSu at r ⊢
  split
  · rename_i e
    rw [e] at r
    exact RS.put r q j
  · rename_i i e
    rw [e] at r
    have ne : i ≠ j := fun z => hj (by rw [e, z])
    refine ⟨?_, by rw [List.getElem?_set_ne ne.symm]; exact r.2.1, by rw [List.getElem?_set_ne ne.symm]; exact r.2.2⟩
    rw [List.set_comm _ _ ne.symm]
    exact r.1.put q j
def trDu (Z : Wd) (X : Cx) (E : Erx) (f : En → AH → Res D) : TE := fun σ H Q => ∃ ι e h, RH (Z.g X) ι h H ∧ RSu (Z.g X) ι H e σ E ∧ RX (Z.g X) ι H E.fs E.d ∧ Post (RD (Z.g X)) WNo (Z.g X) ι σ H (f e h) Q
def trAu (Z : Wd) (X : Cx) (E : Erx) (f : En → AH → Res (List D)) : TA := fun σ H Q => ∃ ι e h, RH (Z.g X) ι h H ∧ RSu (Z.g X) ι H e σ E ∧ RX (Z.g X) ι H E.fs E.d ∧ Post (RDs (Z.g X)) WNo (Z.g X) ι σ H (f e h) Q
/-- what is known where an error was caught -/
structure Sui (T : Tb) (Z : Wd) (c : Cg) (k : Nat) (X : Cx) (E : Erx) (oe : Obj) (C : Addr) : Prop where
  lv : Lv T Z c k X
  bt : ∀ x ∈ bnames, X.mg x = none
  z : Zc (.ref C) E.d oe
  fl : ∃ vs, oe.data = .fields vs
  ec : Z.ea E.k = some C
  gd : X.A.guards = some []
  un : X.A.units + 64 < cLine
variable {oe : Obj} {C : Addr} {pn : List (Addr × Obj)} {e : Expr} {es : List Expr} {pos : Pos}
/-- what the caught error's dict is, at the machine -/
inductive RXt (H : Hp) : Option Addr → Prop
  | no : RXt H none
  | yes {d : Addr} {vs : List (Str × V)} (e : H d = some (.xd vs)) : RXt H (some d)
theorem RXt.of {fs : List (Str × D)} {d : Option Addr} (r : RX G ι H fs d) : RXt H d := by
  cases d with
  | none => exact .no
  | some d =>
    obtain ⟨_, vs, e, _⟩ := r
    exact .yes e
theorem call_told (S : Sui T Z c k X E oe C) {t : Option Nat} {u : Value} (tw : TxW Z t u) : CallR (X.suite E.a ((E.a, oe) :: pn)) (.builtin "isinstance") (fun xs H Q => ∃ v, xs = [.ref E.a, v] ∧ ClsV v u ∧ RXt H E.d ∧ Q (.bl (isxB (c.ups E.k) E.k t)) H) := by
  intro pins s σ H xs us Q I r hw
  obtain ⟨v, rfl, cv, rx, q⟩ := hw
  obtain ⟨u1, u2, rfl, r1, r2⟩ := vals2 r
  have e2 := cv.eq r2
  subst e2
  cases (show u1 = Value.ref _ from r1)
  obtain ⟨ha, _⟩ := I.pin (E.a, oe) (List.mem_append_left _ List.mem_cons_self)
  obtain ⟨vs, hd⟩ := S.fl
  have J : ∃ od : Option Obj, PySem.W.InstAt s.heap E.a oe C od := by
    generalize hEd : E.d = ed at rx
    have hz := S.z
    rw [hEd] at hz
    cases rx with
    | no => exact ⟨none, ha, hz.1, by unfold PySem.W.notCls; rw [hd] <;> rfl, by rw [hz.2]; trivial⟩
    | yes e =>
      obtain ⟨mA, hns, _⟩ : ObjOk X.prog X.w H s.heap _ (.xd _) := I.hok _ _ e
      obtain ⟨oD, _, _, hoD, _, _⟩ := hns
      exact ⟨some oD, ha, hz.1, by unfold PySem.W.notCls; rw [hd] <;> rfl, by rw [hz.2]; exact hoD⟩
  obtain ⟨od, J⟩ := J
  exact isx_run (X := X.suite E.a ((E.a, oe) :: pn)) I J (S.lv.xkc _ _ S.ec) (S.lv.xis _ _ _ _ S.ec tw) q
mutual
theorem uX (S : Sui T Z c k X E oe C) : ∀ (x : Ux) {e : Expr}, chX T X.N X.env.scope E.v x e = true → PE (X.suite E.a ((E.a, oe) :: pn)) e (trDu Z X E (sx c x.ex).v)
  | .non, e, h => by
    cases e with
    | Constant cc j p =>
      cases cc with
      | none => exact ⟨fun pins s σ H Q I ⟨ι, en, h, rh, rs, rx, p⟩ => pe_non.run pins s σ H Q I (p.ok rh .non)⟩
      | _ => exact absurd h Bool.false_ne_true
    | _ => exact absurd h Bool.false_ne_true
  | .bl b, e, h => by
    cases e with
    | Constant cc j p =>
      cases cc with
      | bool v =>
        have h : (b == v) = true := h
        rw [beq_iff_eq] at h
        subst h
        exact ⟨fun pins s σ H Q I ⟨ι, en, h, rh, rs, rx, p⟩ => pe_bl.run pins s σ H Q I (p.ok rh (.bl _))⟩
      | _ => exact absurd h Bool.false_ne_true
    | _ => exact absurd h Bool.false_ne_true
  | .int i, e, h => by
    cases e with
    | Constant cc j p =>
      cases cc with
      | int v =>
        have h : i = v := of_decide_eq_true h
        subst h
        exact ⟨fun pins s σ H Q I ⟨ι, en, h, rh, rs, rx, p⟩ => pe_int.run pins s σ H Q I (p.ok rh (.int _))⟩
      | _ => exact absurd h Bool.false_ne_true
    | _ => exact absurd h Bool.false_ne_true
  | .str i, e, h => by
    cases e with
    | Constant cc j p =>
      cases cc with
      | str v =>
        have h : i = v := of_decide_eq_true h
        subst h
        exact ⟨fun pins s σ H Q I ⟨ι, en, h, rh, rs, rx, p⟩ => pe_str.run pins s σ H Q I (p.ok rh (.str _))⟩
      | _ => exact absurd h Bool.false_ne_true
    | _ => exact absurd h Bool.false_ne_true
  | .var i, e, h => by
    cases e with
    | Name x p =>
      have h : (decide (E.v ≠ some i) && decide (X.N[i]? = some x) && visB X.env.scope x && !dbg x) = true := h
      obtain ⟨h, h4⟩ := and2 h
      obtain ⟨h, h3⟩ := and2 h
      obtain ⟨h1, h2⟩ := and2 h
      have h4 := Bool.not_eq_true' _ |>.mp h4
      unfold dbg at h4
      simp only [Bool.or_eq_false_iff] at h4
      refine ⟨fun pins s σ H Q I hw => ?_⟩
      obtain ⟨ι, en, h, rh, rs, rx, p⟩ := hw
      refine (pe_var (X := X.suite E.a ((E.a, oe) :: pn)) (of_decide_eq_true h2) (vis_of (X := X) h3) h4.1.1 h4.1.2).run pins s σ H Q I ?_
      have p : Post (RD (Z.g X)) WNo (Z.g X) ι σ H (varE i en h) Q := p
      unfold varE at p
      split at p
      · exact p.elim
      · rename_i d nd ed
        obtain ⟨v, ev, rd⟩ := rs.get (of_decide_eq_true h1) ed fun z => nd (by rw [z])
        exact ⟨v, ev, p.ok rh rd⟩
      · exact p.elim
    | _ => exact absurd h Bool.false_ne_true
  | .tup es, e, h => by
    cases e with
    | Tuple l j p =>
      refine ⟨fun pins s σ H Q I hw => ?_⟩
      obtain ⟨ι, en, h', rh, rs, rx, p⟩ := hw
      refine (pe_tup (uXs S es h)).run pins s σ H Q I ⟨ι, en, h', rh, rs, rx, (Post.bind _ p).imp fun xs H1 ⟨ι1, ds, h1, g1, rh1, rds, p1⟩ => ?_⟩
      unfold tupE at p1
      split at p1
      · rename_i hz
        exact ⟨by rw [← rds.length]; exact hz, post_tup rh1 p1 rds⟩
      · exact p1.elim
    | _ => exact absurd h Bool.false_ne_true
  | .lst es, e, h => by
    cases e with
    | List l p =>
      refine ⟨fun pins s σ H Q I hw => ?_⟩
      obtain ⟨ι, en, h', rh, rs, rx, p⟩ := hw
      refine (pe_lst (uXs S es h)).run pins s σ H Q I ⟨ι, en, h', rh, rs, rx, (Post.bind _ p).imp fun xs H1 ⟨ι1, ds, h1, g1, rh1, rds, p1⟩ => ?_⟩
      unfold lstE at p1
      split at p1
      · rename_i hz
        exact ⟨by rw [← rds.length]; exact hz, post_new rh1 p1 fun a n => .lst upd_same (rds.mono (Gr.push n))⟩
      · exact p1.elim
    | _ => exact absurd h Bool.false_ne_true
  | .tat i f, e, h => by
    cases e with
    | Attribute o f' pat =>
      cases o with
      | Name x px =>
        have h : (decide (E.v = some i) && decide (X.N[i]? = some x) && visB X.env.scope x && !dbg x && decide (f = f') && decide (f ∈ T.efs)) = true := h
        obtain ⟨h, h6⟩ := and2 h
        obtain ⟨h, h5⟩ := and2 h
        obtain ⟨h, h4⟩ := and2 h
        obtain ⟨h, h3⟩ := and2 h
        obtain ⟨h1, h2⟩ := and2 h
        have h1 := of_decide_eq_true h1
        have h5 := of_decide_eq_true h5
        subst h5
        have h4 := Bool.not_eq_true' _ |>.mp h4
        unfold dbg at h4
        simp only [Bool.or_eq_false_iff] at h4
        obtain ⟨q1, q2⟩ := S.lv.xfc _ _ f S.ec (of_decide_eq_true h6)
        refine ⟨fun pins s σ H Q I hw => ?_⟩
        obtain ⟨ι, en, h, rh, rs, rx, p⟩ := hw
        have hv : PE (X.suite E.a ((E.a, oe) :: pn)) (.Name x px) (tVar i) := pe_var (X := X.suite E.a ((E.a, oe) :: pn)) (of_decide_eq_true h2) (vis_of (X := X) h3) h4.1.1 h4.1.2
        refine (pe_xf (pos := pat) q1 q2 S.z S.fl hv rfl).run pins s σ H Q I ?_
        unfold RSu at rs
        rw [h1] at rs
        obtain ⟨rs1, rs2, rs3⟩ := rs
        refine ⟨_, rs3, rfl, rfl, ?_⟩
        have p : Post (RD (Z.g X)) WNo (Z.g X) ι σ H ((varE i en h).bind fun x h => attD x f h) Q := p
        unfold varE at p
        rw [rs2] at p
        have p : Post (RD (Z.g X)) WNo (Z.g X) ι σ H (ofOpt (E.fs.lookup f) h) Q := p
        obtain ⟨d, ed, p⟩ := ofOpt_ok p
        cases hd : E.d with
        | none =>
          rw [hd] at rx
          rw [show E.fs = [] from rx] at ed
          cases ed
        | some dd =>
          rw [hd] at rx
          obtain ⟨_, vs, e1, rf⟩ := rx
          obtain ⟨v, ev, rd⟩ := rf.look ed
          exact ⟨dd, vs, v, rfl, e1, ev, p.ok rh rd⟩
      | _ => exact absurd h Bool.false_ne_true
    | _ => exact absurd h Bool.false_ne_true
  | .rep a, e, h => by
    cases e with
    | Call fn l kw p =>
      cases fn with
      | Name x pnm =>
        cases l with
        | nil => exact absurd h Bool.false_ne_true
        | cons a' l =>
          cases l with
          | cons _ _ => cases kw <;> exact absurd h Bool.false_ne_true
          | nil =>
            cases kw with
            | nil =>
              have h : (decide (x = ("repr" : Str)) && gloB X.env.scope x && notStar a' && chX T X.N X.env.scope E.v a a') = true := h
              obtain ⟨h, h4⟩ := and2 h
              obtain ⟨h, h3⟩ := and2 h
              obtain ⟨h1, h2⟩ := and2 h
              have h1 := of_decide_eq_true h1
              subst h1
              refine ⟨fun pins s σ H Q I hw => ?_⟩
              obtain ⟨ι, en, h, rh, rs, rx, pp⟩ := hw
              have ha : PA (X.suite E.a ((E.a, oe) :: pn)) [a'] (tCons (trDu Z X E (sx c a.ex).v) tNil) := pa_cons (uX S a h4) pa_nil (starEach_cons h3)
              refine (pe_callB (X := X.suite E.a ((E.a, oe) :: pn)) (bi_repr (Z := Z) (W := WNo) (σ := σ) S.gd S.un) (gl_of (X := X) h2) (S.bt _ (by decide)) (boots .repr rfl) ha (by decide) (by decide) (starEach_cons h3) rfl).run pins s σ H Q I ?_
              have pp : Post (RD (Z.g X)) WNo (Z.g X) ι σ H ((((sx c a.ex).v en h).bind fun x h => .ok [x] h).bind fun ds h => biD .repr ds h) Q := pp
              rw [Res.assoc] at pp
              exact ⟨ι, en, h, rh, rs, rx, (Post.bind _ pp).imp fun x H1 ⟨ι1, d, h1, g1, rh1, rd, p1⟩ => ⟨ι1, h1, [d], rh1, .cons rd .nil, p1⟩⟩
            | cons _ _ => exact absurd h Bool.false_ne_true
      | _ => cases l with
        | nil => exact absurd h Bool.false_ne_true
        | cons a' l => cases l <;> cases kw <;> exact absurd h Bool.false_ne_true
    | _ => exact absurd h Bool.false_ne_true
  | .eq a b, e, h => by
    cases e with
    | Compare a' os bs p =>
      match os, bs, h with
      | [.Eq], [b'], h =>
        have h : (chX T X.N X.env.scope E.v a a' && !behindInMarks .Eq b' && chX T X.N X.env.scope E.v b b') = true := h
        obtain ⟨h, h3⟩ := and2 h
        obtain ⟨h1, h2⟩ := and2 h
        refine ⟨fun pins s σ H Q I hw => ?_⟩
        obtain ⟨ι, en, h', rh, rs, rx, pp⟩ := hw
        have pp : Post (RD (Z.g X)) WNo (Z.g X) ι σ H (((sx c a.ex).v en h').bind fun x h => ((sx c b.ex).v en h).bind fun y h => cmpD .eq x y h) Q := pp
        refine wpAny_Compare1 (thn ((uX S a h1).run pins s σ H _ I ⟨ι, en, h', rh, rs, rx, Post.bind _ pp⟩) fun v s1 ⟨x, H1, I1, rxv, ι1, d1, h1', g1, rh1, rd1, p1⟩ => ?_) (Bool.not_eq_true' _ |>.mp h2)
        refine thn ((uX S b h3).run pins s1 σ H1 _ I1 ⟨ι1, en, h1', rh1, rs.mono g1, rx.mono g1, Post.bind _ p1⟩) fun u s2 ⟨y, H2, I2, ryv, ι2, d2, h2', g2, rh2, rd2, p2⟩ => ?_
        unfold cmpD at p2
        obtain ⟨k, ek, p2⟩ := ofOpt_post p2
        exact op_eqQ (X := X.suite E.a ((E.a, oe) :: pn)) (Z := Z) S.un I2 rh2 (rd1.mono g2) rd2 rxv ryv ek (p2.ok rh2 (.bl _))
    | _ => exact absurd h Bool.false_ne_true
  | .and es, e, h => by
    cases e with
    | BoolOp op l p =>
      cases op with
      | And =>
        have h : (neB l && chXs T X.N X.env.scope E.v es l) = true := h
        obtain ⟨h1, h2⟩ := and2 h
        exact uAnd S es h2 (ne_of_match h1)
      | _ => exact absurd h Bool.false_ne_true
    | _ => exact absurd h Bool.false_ne_true
  | .isx i t, e, h => by
      cases e with
      | Call fn l kw p =>
        cases fn with
        | Name x pnm =>
          match l, kw, h with
          | [.Name y py, c'], [], h =>
            have h : (decide (E.v = some i) && decide (X.N[i]? = some y) && visB X.env.scope y && !dbg y && decide (x = ("isinstance" : Str)) && gloB X.env.scope x && txN T X.env.scope t c') = true := h
            obtain ⟨h, h7⟩ := and2 h
            obtain ⟨h, h6⟩ := and2 h
            obtain ⟨h, h5⟩ := and2 h
            obtain ⟨h, h4⟩ := and2 h
            obtain ⟨h, h3⟩ := and2 h
            obtain ⟨h1, h2⟩ := and2 h
            have h1 := of_decide_eq_true h1
            have h5 := of_decide_eq_true h5
            subst h5
            have h4 := Bool.not_eq_true' _ |>.mp h4
            unfold dbg at h4
            simp only [Bool.or_eq_false_iff] at h4
            obtain ⟨tv, tu, p1, p2, p3, p4⟩ := tx_pe (X := X.suite E.a ((E.a, oe) :: pn)) (Z := Z) (T := T) S.lv.ecl (S.bt _ (by decide)) h7
            refine ⟨fun pins s σ H Q I hw => ?_⟩
            obtain ⟨ι, en, h', rh, rs, rx, pp⟩ := hw
            have hv : PE (X.suite E.a ((E.a, oe) :: pn)) (.Name y py) (tVar i) := pe_var (X := X.suite E.a ((E.a, oe) :: pn)) (of_decide_eq_true h2) (vis_of (X := X) h3) h4.1.1 h4.1.2
            unfold RSu at rs
            rw [h1] at rs
            obtain ⟨rs1, rs2, rs3⟩ := rs
            have pp : Post (RD (Z.g X)) WNo (Z.g X) ι σ H ((varE i en h').bind fun x h => ofOpt ((isxD c h x t).map .bl) h) Q := pp
            unfold varE at pp
            rw [rs2] at pp
            have pp : Post (RD (Z.g X)) WNo (Z.g X) ι σ H (.ok (.bl (isxB (c.ups E.k) E.k t)) h') Q := pp
            refine (pe_callB (X := X.suite E.a ((E.a, oe) :: pn)) (call_told (pn := pn) S p3) (gl_of (X := X) h6) (S.bt ("isinstance" : Str) (by decide)) PyProof.Rows.boot_isinstance (pa_cons hv (pa_cons p1 pa_nil (starEach_cons p4)) (starEach_cons rfl)) (by decide) (by decide) (starEach_cons rfl) (by rw [starEach_cons p4]; rfl)).run pins s σ H Q I ⟨_, rs3, ?_⟩
            exact ⟨tv, rfl, p2, RXt.of rx, pp.ok rh (.bl _)⟩
        | _ => cases l with
          | nil => exact absurd h Bool.false_ne_true
          | cons a1 l => cases l with
            | nil => exact absurd h Bool.false_ne_true
            | cons a2 l => cases a1 <;> cases l <;> cases kw <;> exact absurd h Bool.false_ne_true
      | _ => exact absurd h Bool.false_ne_true
theorem uXs (S : Sui T Z c k X E oe C) : ∀ (x : Uxs) {es : List Expr}, chXs T X.N X.env.scope E.v x es = true → PA (X.suite E.a ((E.a, oe) :: pn)) es (trAu Z X E (seqE (sxs c x.exs)))
  | .nil, es, h => by
    cases es with
    | nil => exact ⟨fun pos pins s σ H Q I ⟨ι, en, h, rh, rs, rx, p⟩ => pa_nil.run pos pins s σ H Q I (p.ok rh .nil)⟩
    | cons _ _ => exact absurd h Bool.false_ne_true
  | .cons a xs, es, h => by
    cases es with
    | nil => exact absurd h Bool.false_ne_true
    | cons e es =>
      have h : (notStar e && chX T X.N X.env.scope E.v a e && chXs T X.N X.env.scope E.v xs es) = true := h
      obtain ⟨h, h3⟩ := and2 h
      obtain ⟨h1, h2⟩ := and2 h
      refine ⟨fun pos pins s σ H Q I hw => ?_⟩
      obtain ⟨ι, en, h', rh, rs, rx, p⟩ := hw
      refine (pa_cons (uX S a h2) (uXs S xs h3) (starEach_cons h1)).run pos pins s σ H Q I ⟨ι, en, h', rh, rs, rx, (Post.bind _ p).imp fun x H1 ⟨ι1, d, h1, g1, rh1, rd, p1⟩ => ?_⟩
      exact ⟨ι1, en, h1, rh1, rs.mono g1, rx.mono g1, (Post.bind _ p1).imp fun xs H2 ⟨ι2, ds, h2, g2, rh2, rds, p2⟩ => p2.ok rh2 (.cons (rd.mono g2) rds)⟩
theorem uAnd (S : Sui T Z c k X E oe C) : ∀ (x : Uxs) {l : List Expr} {pos : Pos}, chXs T X.N X.env.scope E.v x l = true → l ≠ [] → PE (X.suite E.a ((E.a, oe) :: pn)) (.BoolOp .And l pos) (trDu Z X E (andE (sxs c x.exs)))
  | .nil, l, pos, h, ne => by
    cases l with
    | nil => exact absurd rfl ne
    | cons _ _ => exact absurd h Bool.false_ne_true
  | .cons a .nil, l, pos, h, ne => by
    cases l with
    | nil => exact absurd rfl ne
    | cons e l =>
      have h : (notStar e && chX T X.N X.env.scope E.v a e && chXs T X.N X.env.scope E.v .nil l) = true := h
      obtain ⟨h, h3⟩ := and2 h
      obtain ⟨h1, h2⟩ := and2 h
      cases l with
      | cons _ _ => exact absurd h3 Bool.false_ne_true
      | nil => exact ⟨fun pins s σ H Q I ⟨ι, en, h', rh, rs, rx, p⟩ => BoolOp_one ((uX S a h2).run pins s σ H Q I ⟨ι, en, h', rh, rs, rx, p⟩)⟩
  | .cons a (.cons b xs), l, pos, h, ne => by
    cases l with
    | nil => exact absurd rfl ne
    | cons e l =>
      have h : (notStar e && chX T X.N X.env.scope E.v a e && chXs T X.N X.env.scope E.v (.cons b xs) l) = true := h
      obtain ⟨h, h3⟩ := and2 h
      obtain ⟨h1, h2⟩ := and2 h
      cases l with
      | nil => exact absurd h3 Bool.false_ne_true
      | cons e2 l =>
        refine ⟨fun pins s σ H Q I hw => ?_⟩
        obtain ⟨ι, en, h', rh, rs, rx, p⟩ := hw
        have p : Post (RD (Z.g X)) WNo (Z.g X) ι σ H (((sx c a.ex).v en h').bind fun x h => (ofOpt (truD h x) h).bind fun k h => if k = true then andE (sxs c (Uxs.cons b xs).exs) en h else .ok x h) Q := p
        refine BoolOp_and (thn ((uX S a h2).run pins s σ H _ I ⟨ι, en, h', rh, rs, rx, Post.bind _ p⟩) fun v s1 ⟨x, H1, I1, rxv, ι1, d1, h1', g1, rh1, rd1, p1⟩ => ?_)
        obtain ⟨k, ek, p1⟩ := ofOpt_bind p1
        refine thn (tru_of (Z := Z) (X := X.suite E.a ((E.a, oe) :: pn)) (Q := fun b' H' => b' = k ∧ H' = H1) I1 rh1 rd1 rxv ek ⟨rfl, rfl⟩) fun b' s2 ⟨H2, I2, e1, e2⟩ => ?_
        subst e1 e2
        cases b' with
        | true => exact (uAnd S (.cons b xs) h3 (by simp)).run pins s2 σ _ Q I2 ⟨ι1, en, h1', rh1, rs.mono g1, rx.mono g1, p1⟩
        | false => exact ⟨x, _, I2, rxv, p1.ok rh1 rd1⟩
end
theorem uE (S : Sui T Z c k X E oe C) (x : Ex) {e : Expr} (h : chU T X.N X.env.scope E.v x e = true) : PE (X.suite E.a ((E.a, oe) :: pn)) e (trDu Z X E (sx c x).v) := by
  unfold chU at h
  split at h
  · rename_i u eu
    rw [← uxOf_ex x eu]
    exact uX S u h
  · cases h
end
end MP
namespace MP
open PySem PySem.Spec PyProof.Rows L2
section
variable {Z : Wd} {k : Nat} {X : Cx} {W : WX} {G : Gx} {T : Tb} {c : Cg}
variable {pins : List (Addr × Obj)} {s : Shared} {σ : L2.St} {H H' : Hp} {ι ι' : List Addr} {h : AH} {en : En} {Dn : Ends} {E : Erx}
variable {oe : Obj} {C : Addr} {pn : List (Addr × Obj)} {e : Expr} {es : List Expr} {pos : Pos}
/-- what follows a suite's statement -/
def PostU (G : Gx) (E : Erx) (ι : List Addr) (H : Hp) (r : SR) (D : Ends) : Prop := match r with
  | .nx e h => ∀ ι' σ' H', Gr ι H ι' H' → RH G ι' h H' → RSu G ι' H' e σ' E → D.nx σ' H'
  | .rt d h => ∀ ι' H' v, Gr ι H ι' H' → RH G ι' h H' → RD G ι' H' d v → D.rt v H'
  | _ => False
def trSu (Z : Wd) (X : Cx) (E : Erx) (f : En → AH → SR) : TS := fun D σ H => ∃ ι e h, RH (Z.g X) ι h H ∧ RSu (Z.g X) ι H e σ E ∧ RX (Z.g X) ι H E.fs E.d ∧ PostU (Z.g X) E ι H (f e h) D
theorem PostU.mono {r : SR} (g : Gr ι H ι' H') (p : PostU G E ι H r Dn) : PostU G E ι' H' r Dn := by
  cases r with
  | nx e h => exact fun a b c g2 => p a b c (g.trans g2)
  | rt d h => exact fun a b c g2 => p a b c (g.trans g2)
  | _ => exact p
theorem PostU.onE {α β : Type} (rel : List Addr → Hp → α → β → Prop) {r : Res α} {f : α → AH → SR} (p : PostU G E ι H (onE r en f) Dn) :
    Post rel WNo G ι σ H r fun v H1 => ∃ ι1 d h1, Gr ι H ι1 H1 ∧ RH G ι1 h1 H1 ∧ rel ι1 H1 d v ∧ PostU G E ι1 H1 (f d h1) Dn := by
  cases r with
  | ok a h => exact fun ι2 H2 v g2 r2 q2 => ⟨ι2, a, h, g2, r2, q2, PostU.mono g2 p⟩
  | exc c fs h => exact p.elim
  | bad => exact p
theorem sui_ok (S : Sui T Z c k X E oe C) : (X.suite E.a ((E.a, oe) :: pn)).N = X.N := rfl
theorem app_ps (g : GoodS Z k X W) (S : Sui T Z c k X E oe C) {j : Nat} {x : Ex} {y f : Str} {yp apos pos pp : Pos} {e' : Expr}
    (h : (decide (E.v ≠ some j) && decide (X.N[j]? = some y) && visB X.env.scope y && !dbg y && decide (f = ("append" : Str)) && (apos.endLine == pos.line) && notStar e' && chU T X.N X.env.scope E.v x e') = true) :
    PS (X.suite E.a ((E.a, oe) :: pn)) (.Expr (.Call (.Attribute (.Name y yp) f apos) [e'] [] pos) pp) (trSu Z X E (ex c (.exp (.mth .append (.var j) (.cons x .nil))))) := by
  obtain ⟨h, h8⟩ := and2 h
  obtain ⟨h, h7⟩ := and2 h
  obtain ⟨h, h6⟩ := and2 h
  obtain ⟨h, h5⟩ := and2 h
  obtain ⟨h, h4⟩ := and2 h
  obtain ⟨h, h3⟩ := and2 h
  obtain ⟨h1, h2⟩ := and2 h
  have h5 := of_decide_eq_true h5
  subst h5
  have h4 := Bool.not_eq_true' _ |>.mp h4
  unfold dbg at h4
  simp only [Bool.or_eq_false_iff] at h4
  have hv : PE (X.suite E.a ((E.a, oe) :: pn)) (.Name y yp) (tVar j) := pe_var (X := X.suite E.a ((E.a, oe) :: pn)) (of_decide_eq_true h2) (vis_of (X := X) h3) h4.1.1 h4.1.2
  have key : PE (X.suite E.a ((E.a, oe) :: pn)) (.Call (.Attribute (.Name y yp) "append" apos) [e'] [] pos) (trDu Z X E (sx c (.mth .append (.var j) (.cons x .nil))).v) := by
    refine ⟨fun pins s σ H Q I hw => ?_⟩
    obtain ⟨ι, en, h', rh, rs, rx, p⟩ := hw
    have p : Post (RD (Z.g X)) WNo (Z.g X) ι σ H ((varE j en h').bind fun o h => (mkM .append o h).bind fun k h => (((sx c x).v en h).bind fun d h => (Res.ok ([] : List D) h).bind fun ds h => .ok (d :: ds) h).bind fun ds h => mtD .append k o ds h) Q := p
    unfold varE at p
    split at p
    · exact p.elim
    · rename_i d nd ed
      obtain ⟨v, ev, rd⟩ := rs.get (of_decide_eq_true h1) ed fun z => nd (by rw [z])
      have p : Post (RD (Z.g X)) WNo (Z.g X) ι σ H ((mkM .append d h').bind fun k h => (((sx c x).v en h).bind fun d h => (Res.ok ([] : List D) h).bind fun ds h => .ok (d :: ds) h).bind fun ds h => mtD .append k d ds h) Q := p
      have few : ((backTo pos (starEach [e'] X.env)).all (fun x => !x.1) && (backToKw pos (keywordEach [] X.env)).all (fun x => x.1.isSome) && decide ([e'].length + ([] : List Keyword).length + (if ([] : List Keyword).isEmpty then 0 else 1) < 30)) = true := by
        rw [starEach_cons h7]; rfl
      refine wpAny_Call_method_late rfl few h6 rfl (thn (hv.run pins s σ H (fun u H' => u = v ∧ H' = H) I ⟨v, ev, rfl, rfl⟩) fun w s1 ⟨u, H1, I1, ru, e1, e2⟩ => ?_)
      subst e1 e2
      unfold mkM at p
      cases ek : mkOf h' d with
      | none => rw [ek] at p; exact p.elim
      | some kd =>
        rw [ek] at p
        dsimp only at p
        by_cases ok : mtOk .append kd = true
        · rw [if_pos ok] at p
          cases kd <;> first | exact absurd ok Bool.false_ne_true | skip
          obtain ⟨z1, z2⟩ := tyV_is I1 ru (kind_ty (X := X) rh rd ek ok)
          refine ⟨mkT .lst, "list.append", mk_pa .lst, PySem.F.slot_list_append, PySem.F.type_list_append, z1, z2, ?_⟩
          have p : Post (RD (Z.g X)) WNo (Z.g X) ι σ _ ((((sx c x).v en h').bind fun d h => (Res.ok ([] : List D) h).bind fun ds h => .ok (d :: ds) h).bind fun ds h => mtD .append .lst d ds h) Q := p
          rw [Res.assoc] at p
          refine callWith_method1 (thn ((pa_cons (uE (pn := pn) S x h8) pa_nil (starEach_cons h7)).run pos pins s1 σ H1 (fun xs H2 => ∃ a, xs = [a] ∧ ∃ ι2 d2 h2, Gr ι H1 ι2 H2 ∧ RH (Z.g X) ι2 h2 H2 ∧ RD (Z.g X) ι2 H2 d2 a ∧ Post (RD (Z.g X)) WNo (Z.g X) ι2 σ H2 (mtD .append .lst d [d2] h2) Q) I1 ⟨ι, en, h', rh, rs, rx, (Post.bind _ p).imp fun a H2 q => ?_⟩) fun us s2 ⟨xs, H2, I2, rxs, a, ea, ι2, d2, h2, g2, rh2, rd2, p2⟩ => ?_) (starEach_cons h7) rfl
          · obtain ⟨ι2, d2, h2, g2, rh2, rd2, p2⟩ := q
            exact ⟨a, rfl, ι2, d2, h2, g2, rh2, rd2, p2⟩
          · subst ea
            exact mt_app (Z := Z) (X := X.suite E.a ((E.a, oe) :: pn)) (W := WNo) (σ := σ) pins s2 σ H2 u [a] w us Q I2 ru rxs ⟨ι2, h2, d, [d2], rh2, rd.mono g2, .cons rd2 .nil, p2⟩
        · rw [if_neg ok] at p
          exact p.elim
    · exact p.elim
  refine ⟨fun pins s σ H D I hw => ?_⟩
  obtain ⟨ι, en, h', rh, rs, rx, p⟩ := hw
  exact (ps_expr key rfl).run pins s σ H D I ⟨ι, en, h', rh, rs, rx, (PostU.onE _ p).imp fun v H1 ⟨ι1, d, h1, g1, rh1, rd, p1⟩ => p1 ι1 σ H1 (Gr.refl _ _) rh1 (rs.mono g1)⟩
theorem vV (g : GoodS Z k X W) (S : Sui T Z c k X E oe C) {st : St} {stm : Stmt} (h : chV T X.N X.env.scope E.v st stm = true) : PS (X.suite E.a ((E.a, oe) :: pn)) stm (trSu Z X E (ex c st)) := by
  cases st with
  | asg t x =>
    cases t with
    | var i =>
      cases stm with
      | Assign ts e' p =>
        cases ts with
        | nil => exact absurd h Bool.false_ne_true
        | cons tx ts =>
          cases ts with
          | cons _ _ => exact absurd h Bool.false_ne_true
          | nil =>
            have h : (decide (E.v ≠ some i) && tnB X.N X.env.scope allT i tx && chU T X.N X.env.scope E.v x e' && notComp e') = true := h
            obtain ⟨h, h4⟩ := and2 h
            obtain ⟨h, h3⟩ := and2 h
            obtain ⟨hv0, h2⟩ := and2 h
            have hv0 := of_decide_eq_true hv0
            have tn := tn_of (X := X.suite E.a ((E.a, oe) :: pn)) (fc := allT) (fun x _ => g.fnT x) h2
            obtain ⟨y, py, rfl, n1, n2, n3⟩ := tn.ex
            refine ⟨fun pins s σ H D I hw => ?_⟩
            obtain ⟨ι, en, h, rh, rs, rx, p⟩ := hw
            refine (ps_set (X := X.suite E.a ((E.a, oe) :: pn)) g.nd n1 n2 (uE (pn := pn) S x h3) (by rw [swaps_eq I.ok.kind]; unfold swB; rw [Option.isNone_iff_eq_none.mp h4]) n3).run pins s σ H D I ⟨ι, en, h, rh, rs, rx, (PostU.onE _ p).imp fun v H1 ⟨ι1, d, h1, g1, rh1, rd, p1⟩ => ?_⟩
            exact p1 ι1 _ H1 (Gr.refl _ _) rh1 ((rs.mono g1).put hv0 rd)
      | _ => exact absurd h Bool.false_ne_true
    | _ => cases stm <;> exact absurd h Bool.false_ne_true
  | ret x =>
    cases stm with
    | Return e' p =>
      cases e' with
      | none => exact absurd h Bool.false_ne_true
      | some e' =>
        refine ⟨fun pins s σ H D I hw => ?_⟩
        obtain ⟨ι, en, h', rh, rs, rx, p⟩ := hw
        exact (ps_ret (uE (pn := pn) S x h)).run pins s σ H D I ⟨ι, en, h', rh, rs, rx, (PostU.onE _ p).imp fun v H1 ⟨ι1, d, h1, g1, rh1, rd, p1⟩ => p1 ι1 H1 v (Gr.refl _ _) rh1 rd⟩
    | _ => exact absurd h Bool.false_ne_true
  | retn =>
    cases stm with
    | Return e' p =>
      cases e' with
      | some _ => exact absurd h Bool.false_ne_true
      | none => exact ⟨fun pins s σ H D I ⟨ι, en, h', rh, rs, rx, p⟩ => ps_retN.run pins s σ H D I (p ι H _ (Gr.refl _ _) rh .non)⟩
    | _ => exact absurd h Bool.false_ne_true
  | pas =>
    cases stm with
    | Pass p => exact ⟨fun pins s σ H D I ⟨ι, en, h', rh, rs, rx, p⟩ => ps_pass.run pins s σ H D I (p ι σ H (Gr.refl _ _) rh rs)⟩
    | _ => exact absurd h Bool.false_ne_true
  | exp x =>
    unfold chV at h
    split at h
    all_goals try (cases h; done)
    all_goals first | (rename_i hq; cases hq; done) | skip
    rename_i hq
    cases hq
    exact app_ps g S h
  | _ => cases stm <;> exact absurd h Bool.false_ne_true
theorem vVs (g : GoodS Z k X W) (S : Sui T Z c k X E oe C) : ∀ {ss : Sts} {l : List Stmt}, chVs T X.N X.env.scope E.v ss l = true → PSs (X.suite E.a ((E.a, oe) :: pn)) l (trSu Z X E (exs c ss))
  | .nil, l, h => by
    cases l with
    | nil => exact ⟨fun pins s σ H D I ⟨ι, en, h', rh, rs, rx, p⟩ => pss_nil.run pins s σ H D I (p ι σ H (Gr.refl _ _) rh rs)⟩
    | cons _ _ => exact absurd h Bool.false_ne_true
  | .cons st ss, l, h => by
    cases l with
    | nil => exact absurd h Bool.false_ne_true
    | cons stm l =>
      obtain ⟨h1, h2⟩ := and2 h
      refine ⟨fun pins s σ H D I hw => ?_⟩
      obtain ⟨ι, en, h', rh, rs, rx, p⟩ := hw
      refine (pss_cons (vV (pn := pn) g S h1) (vVs g S h2)).run pins s σ H D I ⟨ι, en, h', rh, rs, rx, ?_⟩
      have p : PostU (Z.g X) E ι H (match ex c st en h' with
        | .nx e h => exs c ss e h
        | r => r) D := p
      cases hr : ex c st en h' with
      | nx e1 h1 =>
        rw [hr] at p
        exact fun ι2 σ2 H2 g2 rh2 rs2 => ⟨ι2, e1, h1, rh2, rs2, rx.mono g2, PostU.mono g2 p⟩
      | rt d h1 => rw [hr] at p; exact p
      | bk _ _ => rw [hr] at p; exact p.elim
      | ct _ _ => rw [hr] at p; exact p.elim
      | exc _ _ _ _ => rw [hr] at p; exact p.elim
      | bad => rw [hr] at p; exact p.elim
end
end MP
namespace MP
open PySem PySem.Spec PyProof.Rows L2

/-! ### try with several clauses, each with or without a name -/
abbrev Tsu := Addr → Value → Option Addr → TS
def endsU (v : Option Nat) (D : Ends) : Ends := match v with
  | none => D
  | some i => { nx := fun σ H => D.nx (σ.set i none) H, rt := D.rt, bk := fun σ H => D.bk (σ.set i none) H, ct := fun σ H => D.ct (σ.set i none) H }
def stU (v : Option Nat) (a : Addr) (σ : L2.St) : L2.St := match v with
  | none => σ
  | some i => σ.set i (some (.ref a))
def wU (K : PySem.W.Frag) (Wout : WX) (D : Ends) : List (Value × Option Nat × Tsu) → WX
  | [] => Wout
  | (c, v, ts) :: r => fun cls d σ H => ∃ b, PySem.W.exmOne K cls c = some b ∧ (b = true → ∀ a, H a = none → ts a cls d (endsU v D) (stU v a σ) H) ∧ (b = false → wU K Wout D r cls d σ H)
inductive NmOk (X : Cx) : Option Nat → Option Str → Prop
  | no : NmOk X none none
  | yes {i : Nat} {n : Str} (h1 : X.N[i]? = some n) (h2 : X.env.kindOf n = some .local) : NmOk X (some i) (some n)
inductive HdU (X : Cx) : List ExceptHandler → List (Value × Option Nat × Tsu) → Prop
  | nil : HdU X [] []
  | cons {x : Str} {c : Value} {v : Option Nat} {ts : Tsu} {b₀ : Stmt} {suite : List Stmt} {nm : Option Str} {np pos' : Pos} {hds : List ExceptHandler} {l : List (Value × Option Nat × Tsu)} (hc : Names X x c) (hv : NmOk X v nm)
      (hsu : ∀ (a : Addr) (oe : Obj) (cls : Value) (d : Option Addr) (pn : List (Addr × Obj)), Zc cls d oe → (∃ vs, oe.data = .fields vs) → PSs (X.suite a ((a, oe) :: pn)) (b₀ :: suite) (ts a cls d)) (r : HdU X hds l) :
      HdU X (.ExceptHandler (some (.Name x np)) nm (b₀ :: suite) pos' :: hds) ((c, v, ts) :: l)
section
variable {X : Cx} {body : List Stmt} {h₀ : ExceptHandler} {hds : List ExceptHandler} {l : List (Value × Option Nat × Tsu)} {pos : Pos} {tb : WX → TS} {Wout : WX}
theorem try_rule (hs : X.stack = X.env :: X.outer) (hf : X.env.frame = some X.env.locals) (hN : X.N.Nodup) (tk : Takes X Wout)
    (hb : ∀ (W : WX) (pn : List (Addr × Obj)) (xe : Value → Shared → Prop), Takes (X.tr pn xe) W → PassesOwn (model X.prog X.w) X.A X.env xe → PSs (X.tr pn xe) body (tb W))
    (hh : HdU X (h₀ :: hds) l) : PS X (.Try body (h₀ :: hds) [] [] pos) (fun D σ H => tb (wU X.K Wout D l) D σ H) := by
  refine ⟨fun pins s σ H D I h => ?_⟩
  have ok := I.ok
  have hfr : X.A.frames = some (X.env :: X.outer) := by rw [ok.frames, hs]
  refine wpAny_Try_except ?_
  refine wpAny_mono ((hb (wU X.K Wout D l) (X.pn ++ pins) (fun e s₁ => wpAny (model X.prog X.w) X.A (noteFrame e X.env) (fun _ s₂ => wpAny (model X.prog X.w) X.A (setFlight e none) (fun _ s₃ =>
    wpAny (model X.prog X.w) X.A (handleBy e X.env (h₀ :: hds)) (SP X pins D) X.xe s₃) X.xe s₂) X.xe s₁) (fun u s' xx => ?_) PassesOwn.looking).run [] s σ H D (I.toTry _) h) (fun f s1 hsp => ?_) (fun e s1 he => he)
  · obtain ⟨a, B, sI, pins', σ', H', cls, d, rfl, J', nb, up, sky, na, os, ag, w⟩ := xx
    have J : Inv X pins σ' H' sI := J'.ofTry ok
    have sky' : Sky B (X.env :: X.outer) a (Zc cls d) X.env.locals s'.heap := by rw [← hs]; exact sky
    show wpAny (model X.prog X.w) X.A (noteFrame (.ref a) X.env) _ _ _
    refine Sky.land Zc.steady hfr hf sky' fun h3 fl3 up3 => ?_
    have J3 : Inv X pins σ' H' { s' with heap := h3 } := J.landed nb fl3.1 (up.trans up3) os ag
    obtain ⟨oe3, vs3, he3, hz3, hd3⟩ := fl3.there
    have apart : a ∉ frs (X.env :: X.outer) := fun hm => by
      obtain ⟨_, o', e', hnf⟩ := fl3.2.2.1.mem hm
      rw [he3] at e'
      cases e'
      exact hnf _ hd3
    have nL : a ≠ X.env.locals := fun z => apart (List.mem_filterMap.mpr ⟨X.env, List.mem_cons_self, by rw [hf, z]⟩)
    have nF : a ∉ X.fs := fun hm => by
      obtain ⟨e, he, q⟩ := List.mem_filterMap.mp hm
      exact apart (List.mem_filterMap.mpr ⟨e, List.mem_cons_of_mem _ he, q⟩)
    have S3 := J3.suite he3 hd3 na nL nF
    have go : ∀ {hds' : List ExceptHandler} {l' : List (Value × Option Nat × Tsu)}, HdU X hds' l' → wU X.K Wout D l' cls d σ' H' → wpAny (model X.prog X.w) X.A (handleBy (.ref a) X.env hds') (SP X pins D) X.xe { s' with heap := h3 } := by
      intro hds' l' hk
      induction hk with
      | nil =>
        intro w
        refine wpAny_handleBy_nil ?_
        obtain ⟨k1, k2, k3, oe, vs, T, oT, ts', he, hz, hd, h1, hr⟩ := id fl3
        unfold PySem.passOn
        refine wpAny_bind (wpAny_field he hd h1 ?_)
        rw [if_neg (show ¬ ((Value.ref T == Value.none) = true) from by simp)]
        have fin : wpAny (model X.prog X.w) X.A (setFlight (.ref a) X.env.frame) (fun _ s4 => wpAny (model X.prog X.w) X.A (throw (.ref a) : Sem Flow) (SP X pins D) X.xe s4) X.xe { s' with heap := h3 } := by
          rw [hf]
          refine HandSPX.setFlight_upZ fl3 fun h4 hh4 up4 => wpAny_throw (tk _ _ ?_)
          exact ⟨a, B, sI, pins, σ', H', cls, d, rfl, J, nb, (up.trans up3).trans up4, .inr (.inr (by rw [hs]; exact hh4)), na, os, ag, w⟩
        first
          | exact wpAny_bind (wpAny_pure (wpAny_bind fin))
          | exact wpAny_bind fin
      | @cons x c v ts b₀ suite nm np pos' hds2 l2 hc hv hsu r ih =>
        intro w
        obtain ⟨b, hb1, hyes, hno⟩ := w
        refine wpAny_handleBy_cons (codeAny_handlers_test ?_) (by intro q; cases q)
        have LT : PySem.W.Looks (model X.prog X.w) h3 (typeOf (.ref a)) cls := fun A Q E s k q => wpAny_typeOf_ref (k _ _ he3) (by rw [hz3.1]; exact q)
        have LM := PySem.W.exm_one (M := model X.prog X.w) (J3.kIn) LT hb1
        have test : ∀ {Q : Value → Shared → Prop} {E : Value → Shared → Prop}, Q c { s' with heap := h3 } → wpAny (model X.prog X.w) (X.A.mark (some (.ref a))) (eval (.Name x np) X.env) Q E { s' with heap := h3 } := fun {Q E} q => by
          obtain ⟨hg, hdbg, hm | ⟨hm, hvv, hnn⟩⟩ := hc
          · exact ld_glob (X := X.suite a ((a, oe3) :: (X.pn ++ pins))) S3 hg hm q hdbg
          · exact ld_blt (X := X.suite a ((a, oe3) :: (X.pn ++ pins))) S3 hg hm hvv q hnn hdbg
        refine test (LM.here ?_)
        cases b with
        | false =>
          show wpAny _ X.A (handleBy (.ref a) X.env hds2) _ _ _
          exact ih (hno rfl)
        | true =>
          have w1 := hyes rfl a na
          cases hv with
          | no =>
            refine codeAny_handlers_suite ?_
            refine HandSPX.lands_againZ fl3 fun h4 fl4 up4 => ?_
            have J4 : Inv X pins σ' H' { s' with heap := h4 } := J.landed nb fl4.1 ((up.trans up3).trans up4) os ag
            obtain ⟨oe4, vs4, he4, hz4, hd4⟩ := fl4.there
            have S4 := J4.suite he4 hd4 na nL nF
            refine wpAny_mono ((hsu a oe4 cls d (X.pn ++ pins) hz4 ⟨_, hd4⟩).run [] _ _ H' _ S4 w1) (fun f s6 hsp => ?_) (fun _ _ z => False.elim z)
            cases f with
            | ret u =>
              obtain ⟨v6, σ6, H6, S6, r6, q6⟩ := hsp
              exact ⟨_, _, _, S6.unsuite ok, r6, q6⟩
            | _ =>
              obtain ⟨σ6, H6, S6, q6⟩ := hsp
              exact ⟨_, _, S6.unsuite ok, q6⟩
          | @yes i n hi hln =>
            have hloc : Loc X.env.scope n := .inl hln
            refine codeAny_handlers_suite_as ?_
            refine HandSPX.lands_againZ fl3 fun h4 fl4 up4 => ?_
            have J4 : Inv X pins σ' H' { s' with heap := h4 } := J.landed nb fl4.1 ((up.trans up3).trans up4) os ag
            obtain ⟨oe4, vs4, he4, hz4, hd4⟩ := fl4.there
            have S4 := J4.suite he4 hd4 na nL nF
            refine store_ok (X := X.suite a ((a, oe4) :: (X.pn ++ pins))) (v := .ref a) S4 hN hi hloc rfl (fun s5 S5 => ?_) (.inr hln)
            refine wpAny_mono ((hsu a oe4 cls d (X.pn ++ pins) hz4 ⟨_, hd4⟩).run [] s5 _ H' _ S5 w1) (fun f s6 hsp => ?_) (fun _ _ z => False.elim z)
            have over : ∀ {σ6 : L2.St} {H6 : Hp} {Q : Shared → Prop}, Inv (X.suite a ((a, oe4) :: (X.pn ++ pins))) [] σ6 H6 s6 → (∀ s7, Inv X pins (σ6.set i none) H6 s7 → Q s7) →
                wpAny (model X.prog X.w) X.A (do bindName X.env n .none; unbindBehindTheSuite X.env n pos') (fun _ s7 => Q s7) X.xe s6 := fun {σ6 H6 Q} S6 hq => gone_ok (S6.unsuite ok) hN hi hln hq
            cases f with
            | ret u =>
              obtain ⟨v6, σ6, H6, S6, r6, q6⟩ := hsp
              exact over S6 fun s7 J7 => ⟨_, _, _, J7, r6, q6⟩
            | _ =>
              obtain ⟨σ6, H6, S6, q6⟩ := hsp
              exact over S6 fun s7 J7 => ⟨_, _, J7, q6⟩
    exact go hh w
  · cases f with
    | next =>
      obtain ⟨σ', H', J', q⟩ := hsp
      exact wpAny_execs_nil ⟨σ', H', J'.ofTry ok, q⟩
    | ret u =>
      obtain ⟨v, σ', H', J', r, q⟩ := hsp
      exact ⟨v, σ', H', J'.ofTry ok, r, q⟩
    | _ =>
      obtain ⟨σ', H', J', q⟩ := hsp
      exact ⟨σ', H', J'.ofTry ok, q⟩
end

/-! ### the checker's side -/
def chHs (T : Tb) (N : List Str) (sc : Scope) : Hs → List ExceptHandler → Bool
  | .nil, [] => true
  | .cons k v b hs, .ExceptHandler (some (.Name x _)) nm (b0 :: suite) _ :: l => decide (T.er[k]? = some x) && gloB sc x && !dbg x && (match v, nm with
      | none, none => true
      | some i, some n => decide (N[i]? = some n) && decide (sc.names.lookup n = some .local)
      | _, _ => false) && chVs T N sc v b (b0 :: suite) && chHs T N sc hs l
  | _, _ => false
section
variable {Z : Wd} {k : Nat} {X : Cx} {W : WX} {T : Tb} {c : Cg}
def tsU (Z : Wd) (X : Cx) (c : Cg) (v : Option Nat) (b : Sts) : Tsu := fun a cls d D σ H => ∃ j fs C, cls = .ref C ∧ Z.ea j = some C ∧ trSu Z X ⟨v, j, fs, a, d⟩ (exs c b) D σ H
/-- what the clauses stand for -/
inductive HsL (Z : Wd) (X : Cx) (c : Cg) : Hs → List (Value × Option Nat × Tsu) → Prop
  | nil : HsL Z X c .nil []
  | cons {j : Nat} {C : Addr} {v : Option Nat} {b : Sts} {hs : Hs} {l : List (Value × Option Nat × Tsu)} (ec : Z.ea j = some C) (r : HsL Z X c hs l) : HsL Z X c (.cons j v b hs) ((.ref C, v, tsU Z X c v b) :: l)
theorem hds_of (g : GoodS Z k X W) (lv : Lv T Z c k X) : ∀ {hs : Hs} {l : List ExceptHandler}, chHs T X.N X.env.scope hs l = true → ∃ L, HdU X l L ∧ HsL Z X c hs L
  | .nil, l, h => by
    cases l with
    | nil => exact ⟨_, .nil, .nil⟩
    | cons _ _ => exact absurd h Bool.false_ne_true
  | .cons j v b hs, l, h => by
    unfold chHs at h
    split at h
    · rename_i e2; cases e2
    · rename_i j' v' b' hs' x np nm b0 suite pp l' e1
      cases e1
      obtain ⟨h, h6⟩ := and2 h
      obtain ⟨h, h5⟩ := and2 h
      obtain ⟨h, h4⟩ := and2 h
      obtain ⟨h, h3⟩ := and2 h
      obtain ⟨h1, h2⟩ := and2 h
      obtain ⟨L, r1, r2⟩ := hds_of g lv h6
      obtain ⟨C, hm, hC⟩ := lv.ecl j x (of_decide_eq_true h1)
      have h3 := Bool.not_eq_true' _ |>.mp h3
      unfold dbg at h3
      simp only [Bool.or_eq_false_iff] at h3
      refine ⟨_, .cons ⟨gl_of h2, h3.1.1, .inl hm⟩ ?_ (fun a oe cls d pn hz hf => ?_) r1, .cons hC r2⟩
      · split at h4
        · exact .no
        · obtain ⟨q1, q2⟩ := and2 h4
          have q2 := of_decide_eq_true q2
          exact .yes (of_decide_eq_true q1) q2
        · cases h4
      · refine ⟨fun pins s σ H D I hw => ?_⟩
        obtain ⟨j2, fs, C2, rfl, ec2, hw⟩ := hw
        have S : Sui T Z c k X ⟨v, j2, fs, a, d⟩ oe C2 := ⟨lv, g.bt, hz, hf, ec2, g.gd, g.toGood.u64⟩
        exact (vVs (pn := pn) g S h5).run pins s σ H D I hw
    · cases h
end
end MP
namespace MP
open PySem PySem.Spec PyProof.Rows L2
mutual
def chS (T : Tb) (N : List Str) (sc : Scope) : St → Stmt → Bool
  | .asg (.var i) e, .Assign [t] e' _ => tnB N sc allT i t && chE T N sc e e' && (!swB sc e' t || (isLc e && tnB N sc noT i t))
  | .asg (.tup is) e, .Assign [.Tuple ts j p] e' _ => tnsB N sc allT is ts && chE T N sc e e' && noSwap sc (.Tuple ts j p) e'
  | .asg (.idx a b) e, .Assign [.Subscript a' b' _] e' _ => notSlice b' && chE T N sc a a' && chE T N sc b b' && chE T N sc e e'
  | .asg (.att a f) e, .Assign [.Attribute a' f' _] e' _ => decide (f = f') && decide (f ∈ T.fns) && chE T N sc a a' && chE T N sc e e'
  | .par is es, .Assign [.Tuple ts _ _] (.Tuple vs _ _) _ => parL is && decide (vs.length = is.length) && decide is.Nodup && tnsB N sc noT is ts && decide (swN sc ts vs = some (namesOf N is)) && !vs.all (constantsAlone 8) && chEs T N sc es vs
  | .augv i o e, .AugAssign t op e' _ => decide (op = opOf o) && tnB N sc allT i t && chE T N sc e e'
  | .augi a b o e, .AugAssign (.Subscript a' b' _) op e' _ => decide (op = opOf o) && notSlice b' && chE T N sc a a' && chE T N sc b b' && chE T N sc e e'
  | .auga a f o e, .AugAssign (.Attribute a' f' _) op e' _ => decide (op = opOf o) && decide (f = f') && decide (f ∈ T.fns) && chE T N sc a a' && chE T N sc e e'
  | .exp e, .Expr e' _ => notComp e' && chE T N sc e e'
  | .ifs t a b, .If t' a' b' _ => chE T N sc t t' && chSs T N sc a a' && chSs T N sc b b'
  | .for t it b, .For t' it' b' [] _ => tgB N sc allT t t' && notSet it' && chI T N sc (isTupT t') it it' && chSs T N sc b b'
  | .whl t b, .While t' b' [] _ => chE T N sc t t' && chSs T N sc b b'
  | .ret e, .Return (some e') _ => chE T N sc e e'
  | .retn, .Return none _ => true
  | .brk, .Break _ => true
  | .cnt, .Continue _ => true
  | .pas, .Pass _ => true
  | .act i, .Expr (.Call (.Name x _) [] [] _) _ => decide (N[i]? = some x) && visB sc x && !dbg x
  | .rse k es, .Raise (some (.Call (.Name x _) l [] _)) none _ => decide (T.er[k]? = some x) && gloB sc x && !dbg x && chEs T N sc es l
  | .try b hs, .Try b' (h0 :: hs') [] [] _ => chSs T N sc b b' && chHs T N sc hs (h0 :: hs')
  | _, _ => false
def chSs (T : Tb) (N : List Str) (sc : Scope) : Sts → List Stmt → Bool
  | .nil, [] => true
  | .cons s ss, s' :: ss' => chS T N sc s s' && chSs T N sc ss ss'
  | _, _ => false
end


section
variable {Z : Wd} {k : Nat} {X : Cx} {W : WX} {T : Tb} {c : Cg}
theorem LvS.tr (l : LvS T Z c k X) {pn : List (Addr × Obj)} {xe : Value → Shared → Prop} : LvS T Z c k (X.tr pn xe) :=
  ⟨⟨⟨l.glo, l.fn, l.cls, l.met, fun Y V q => l.cal Y V ⟨q.prog, q.w, q.K, q.mg, q.base⟩, fun Y V q => l.mak Y V ⟨q.prog, q.w, q.K, q.mg, q.base⟩, l.fns, l.ecl, l.xfc, l.exm, l.isk, l.isc, l.fnk, l.ok, l.lam, fun t Y V q => l.lcl t Y V ⟨q.prog, q.w, q.K, q.mg, q.base⟩, fun t Y V q => l.mke t Y V ⟨q.prog, q.w, q.K, q.mg, q.base⟩, l.xis, l.xkc⟩, l.lower⟩,
    fun pn xe V => l.act pn xe V, fun Y V q => l.rse Y V ⟨q.prog, q.w, q.K, q.mg, q.base⟩⟩
theorem GoodS.tr (g : GoodS Z k X W) {V : WX} {pn : List (Addr × Obj)} {xe : Value → Shared → Prop} (tk : Takes (X.tr pn xe) V) (ow : PassesOwn (model X.prog X.w) X.A X.env xe) : GoodS Z k (X.tr pn xe) V :=
  ⟨⟨g.nd, tk, g.calm, g.room, g.gd, g.bt, g.cl, g.na⟩, ow, g.fnT, g.stk, g.frm⟩
theorem exH_w {G : Gx} (hG : G = Z.g X) (lv : Lv T Z c k X) {hs : Hs} {L : List (Value × Option Nat × Tsu)} (r : HsL Z X c hs L) {ι : List Addr} {H : Hp} {j : Nat} {fs : List (Str × D)} {en : En} {h : AH} {Dn : Ends}
    (p : PostS W (Z.g X) ι H (exH c hs j fs en h) Dn) {ι' : List Addr} {σ' : L2.St} {H' : Hp} {C : Addr} {d : Option Addr} (g : Gr ι H ι' H') (rh : RH (Z.g X) ι' h H') (rs : RS (Z.g X) ι' H' en σ') (ec : Z.ea j = some C) (rx : RX (Z.g X) ι' H' fs d) :
    wU X.K W Dn L (.ref C) d σ' H' := by
  induction r with
  | nil => exact p ι' σ' H' C d g rh rs ec rx
  | @cons j' C' v b hs l ec' r ih =>
    refine ⟨decide (j' = j ∨ j' ∈ ((c.ers j).map (·.up)).getD []), lv.exm j C j' C' ec ec', fun hb a ha => ?_, fun hb => ?_⟩
    · have hb := of_decide_eq_true hb
      refine ⟨j, fs, C, rfl, ec, ?_⟩
      cases v with
      | none =>
        have p : PostS W (Z.g X) ι H (match exs c b en h with
          | .nx e h => .nx e h
          | .rt d h => .rt d h
          | _ => .bad) Dn := by
          simp only [exH, hb, if_true] at p
          exact p
        refine ⟨ι', en, h, rh, rs, rx, ?_⟩
        cases hr : exs c b en h with
        | nx e1 h1 => rw [hr] at p; exact fun a1 a2 a3 g2 => p a1 a2 a3 (g.trans g2)
        | rt d1 h1 => rw [hr] at p; exact fun a1 a2 a3 g2 => p a1 a2 a3 (g.trans g2)
        | _ => rw [hr] at p; exact p.elim
      | some i =>
        have p : PostS W (Z.g X) ι H (if i < en.length then match exs c b (en.set i (some (.err j fs))) h with
          | .nx e h => .nx (e.set i none) h
          | .rt d h => .rt d h
          | _ => .bad else .bad) Dn := by
          simp only [exH, hb, if_true] at p
          exact p
        by_cases hi : i < en.length
        · rw [if_pos hi] at p
          refine ⟨ι', en.set i (some (.err j fs)), h, rh, ⟨?_, List.getElem?_set_self hi, List.getElem?_set_self (by rw [rs.len]; exact hi)⟩, rx, ?_⟩
          · rw [List.set_set]
            exact ⟨by show (List.set _ _ _).length = _; rw [List.length_set, List.length_set, rs.len], fun m dd e n => by
              by_cases hm : m = i
              · subst hm
                rw [List.getElem?_set_self hi] at e
                cases e
              · rw [List.getElem?_set_ne (Ne.symm hm)] at e
                obtain ⟨v, e1, e2⟩ := rs.val m dd e n
                exact ⟨v, by show (List.set _ _ _)[m]? = _; rw [List.getElem?_set_ne (Ne.symm hm)]; exact e1, e2⟩, fun m e => by
              by_cases hm : m = i
              · subst hm
                rw [List.getElem?_set_self hi] at e
                cases e
              · rw [List.getElem?_set_ne (Ne.symm hm)] at e
                obtain ⟨f, e1, e2⟩ := rs.thk m e
                exact ⟨f, e1, by show (List.set _ _ _)[m]? = _; rw [List.getElem?_set_ne (Ne.symm hm)]; exact e2⟩⟩
          · cases hr : exs c b (en.set i (some (.err j fs))) h with
            | nx e1 h1 =>
              rw [hr] at p
              intro a1 a2 a3 g2 r2 r3
              refine p a1 _ a3 (g.trans g2) r2 ?_
              have r3 : RS (Z.g X) a1 a3 (e1.set i none) a2 := r3.1
              have := r3.clear i
              rw [List.set_set] at this
              exact this
            | rt d1 h1 => rw [hr] at p; exact fun a1 a2 a3 g2 => p a1 a2 a3 (g.trans g2)
            | _ => rw [hr] at p; exact p.elim
        · rw [if_neg hi] at p
          exact p.elim
    · have hb := of_decide_eq_false hb
      simp only [exH, hb, if_false] at p
      exact ih p
mutual
theorem sS : ∀ (x : St) {X : Cx} {W : WX} {st : Stmt}, LvS T Z c k X → GoodS Z k X W → chS T X.N X.env.scope x st = true → PS X st (trS Z X W (ex c x))
  | .asg (.var i) x, X, W, st, lv, g, h => by
    cases st with
    | Assign ts e p =>
      cases ts with
      | nil => exact absurd h Bool.false_ne_true
      | cons t ts =>
        cases ts with
        | cons _ _ => exact absurd h Bool.false_ne_true
        | nil =>
          have h : (tnB X.N X.env.scope allT i t && chE T X.N X.env.scope x e && (!swB X.env.scope e t || (isLc x && tnB X.N X.env.scope noT i t))) = true := h
          obtain ⟨h, h3⟩ := and2 h
          obtain ⟨h1, h2⟩ := and2 h
          cases hs : swB X.env.scope e t with
          | false => exact asg_var g (tn_of (fc := allT) (fun x _ => g.fnT x) h1) (sE x lv.toLvE g.toGood h2) hs
          | true =>
            rw [hs] at h3
            obtain ⟨q1, q2⟩ := and2 (by simpa using h3 : (isLc x && tnB X.N X.env.scope noT i t) = true)
            cases x with
            | lc f tg it cs => exact asg_lc lv.toLvE g q2 h2 hs
            | _ => exact absurd q1 Bool.false_ne_true
    | _ => exact absurd h Bool.false_ne_true
  | .asg (.tup is) x, X, W, st, lv, g, h => by
    cases st with
    | Assign ts e p =>
      cases ts with
      | nil => exact absurd h Bool.false_ne_true
      | cons t ts =>
        cases t with
        | Tuple tn j pt =>
          cases ts with
          | cons _ _ => exact absurd h Bool.false_ne_true
          | nil =>
            have h : (tnsB X.N X.env.scope allT is tn && chE T X.N X.env.scope x e && noSwap X.env.scope (.Tuple tn j pt) e) = true := h
            obtain ⟨h, h3⟩ := and2 h
            obtain ⟨h1, h2⟩ := and2 h
            exact asg_tup g h1 (sE x lv.toLvE g.toGood h2) h3
        | _ => cases ts <;> exact absurd h Bool.false_ne_true
    | _ => exact absurd h Bool.false_ne_true
  | .asg (.idx a b) x, X, W, st, lv, g, h => by
    cases st with
    | Assign ts e p =>
      cases ts with
      | nil => exact absurd h Bool.false_ne_true
      | cons t ts =>
        cases t with
        | Subscript a' b' pt =>
          cases ts with
          | cons _ _ => exact absurd h Bool.false_ne_true
          | nil =>
            have h : (notSlice b' && chE T X.N X.env.scope a a' && chE T X.N X.env.scope b b' && chE T X.N X.env.scope x e) = true := h
            obtain ⟨h, h4⟩ := and2 h
            obtain ⟨h, h3⟩ := and2 h
            obtain ⟨h1, h2⟩ := and2 h
            exact asg_idx g (sE a lv.toLvE g.toGood h2) (sE b lv.toLvE g.toGood h3) h1 (sE x lv.toLvE g.toGood h4)
        | _ => cases ts <;> exact absurd h Bool.false_ne_true
    | _ => exact absurd h Bool.false_ne_true
  | .asg (.att a f) x, X, W, st, lv, g, h => by
    cases st with
    | Assign ts e p =>
      cases ts with
      | nil => exact absurd h Bool.false_ne_true
      | cons t ts =>
        cases t with
        | Attribute a' f' pt =>
          cases ts with
          | cons _ _ => exact absurd h Bool.false_ne_true
          | nil =>
            have h : (decide (f = f') && decide (f ∈ T.fns) && chE T X.N X.env.scope a a' && chE T X.N X.env.scope x e) = true := h
            obtain ⟨h, h4⟩ := and2 h
            obtain ⟨h, h3⟩ := and2 h
            obtain ⟨h1, h2⟩ := and2 h
            have h1 := of_decide_eq_true h1
            subst h1
            exact asg_att g (lv.fns _ (of_decide_eq_true h2)) (sE a lv.toLvE g.toGood h3) (sE x lv.toLvE g.toGood h4)
        | _ => cases ts <;> exact absurd h Bool.false_ne_true
    | _ => exact absurd h Bool.false_ne_true
  | .par is es, X, W, st, lv, g, h => by
    cases st with
    | Assign ts e p =>
      cases ts with
      | nil => exact absurd h Bool.false_ne_true
      | cons t ts =>
        cases t with
        | Tuple tn j pt =>
          cases ts with
          | cons _ _ => exact absurd h Bool.false_ne_true
          | nil =>
            cases e with
            | Tuple vs j2 p2 =>
              have h : (parL is && decide (vs.length = is.length) && decide is.Nodup && tnsB X.N X.env.scope noT is tn && decide (swN X.env.scope tn vs = some (namesOf X.N is)) && !vs.all (constantsAlone 8) && chEs T X.N X.env.scope es vs) = true := h
              obtain ⟨h, h7⟩ := and2 h
              obtain ⟨h, h6⟩ := and2 h
              obtain ⟨h, h5⟩ := and2 h
              obtain ⟨h, h4⟩ := and2 h
              obtain ⟨h, h3⟩ := and2 h
              obtain ⟨h1, h2⟩ := and2 h
              exact par_ps g h1 (of_decide_eq_true h2) (of_decide_eq_true h3) h4 (of_decide_eq_true h5) h6 (sEs es lv.toLvE g.toGood h7)
            | _ => exact absurd h Bool.false_ne_true
        | _ => cases ts <;> cases e <;> exact absurd h Bool.false_ne_true
    | _ => exact absurd h Bool.false_ne_true
  | .augv i o x, X, W, st, lv, g, h => by
    cases st with
    | AugAssign t op e p =>
      have h : (decide (op = opOf o) && tnB X.N X.env.scope allT i t && chE T X.N X.env.scope x e) = true := h
      obtain ⟨h, h3⟩ := and2 h
      obtain ⟨h1, h2⟩ := and2 h
      have h1 := of_decide_eq_true h1
      subst h1
      exact aug_var g (tn_of (fc := allT) (fun x _ => g.fnT x) h2) (sE x lv.toLvE g.toGood h3)
    | _ => exact absurd h Bool.false_ne_true
  | .augi a b o x, X, W, st, lv, g, h => by
    cases st with
    | AugAssign t op e p =>
      cases t with
      | Subscript a' b' pt =>
        have h : (decide (op = opOf o) && notSlice b' && chE T X.N X.env.scope a a' && chE T X.N X.env.scope b b' && chE T X.N X.env.scope x e) = true := h
        obtain ⟨h, h5⟩ := and2 h
        obtain ⟨h, h4⟩ := and2 h
        obtain ⟨h, h3⟩ := and2 h
        obtain ⟨h1, h2⟩ := and2 h
        have h1 := of_decide_eq_true h1
        subst h1
        exact aug_idx g (sE a lv.toLvE g.toGood h3) (sE b lv.toLvE g.toGood h4) h2 (sE x lv.toLvE g.toGood h5)
      | _ => exact absurd h Bool.false_ne_true
    | _ => exact absurd h Bool.false_ne_true
  | .auga a f o x, X, W, st, lv, g, h => by
    cases st with
    | AugAssign t op e p =>
      cases t with
      | Attribute a' f' pt =>
        have h : (decide (op = opOf o) && decide (f = f') && decide (f ∈ T.fns) && chE T X.N X.env.scope a a' && chE T X.N X.env.scope x e) = true := h
        obtain ⟨h, h5⟩ := and2 h
        obtain ⟨h, h4⟩ := and2 h
        obtain ⟨h, h3⟩ := and2 h
        obtain ⟨h1, h2⟩ := and2 h
        have h1 := of_decide_eq_true h1
        have h2 := of_decide_eq_true h2
        subst h1 h2
        exact aug_att g (lv.fns _ (of_decide_eq_true h3)) (sE a lv.toLvE g.toGood h4) (sE x lv.toLvE g.toGood h5)
      | _ => exact absurd h Bool.false_ne_true
    | _ => exact absurd h Bool.false_ne_true
  | .exp x, X, W, st, lv, g, h => by
    cases st with
    | Expr e p =>
      obtain ⟨h1, h2⟩ := and2 h
      refine ⟨fun pins s σ H D I hw => ?_⟩
      obtain ⟨ι, en, h, rh, rs, pp⟩ := hw
      refine (ps_expr (sE x lv.toLvE g.toGood h2).pe (by cases e <;> first | rfl | exact absurd h1 Bool.false_ne_true)).run pins s σ H D I ⟨ι, en, h, rh, rs, (PostS.onE _ rs pp).imp fun v H1 ⟨ι1, d, h1, g1, rh1, rd, p1⟩ => p1.nx rh1 (rs.mono g1)⟩
    | _ => exact absurd h Bool.false_ne_true
  | .ifs t a b, X, W, st, lv, g, h => by
    cases st with
    | If t' a' b' p =>
      have h : (chE T X.N X.env.scope t t' && chSs T X.N X.env.scope a a' && chSs T X.N X.env.scope b b') = true := h
      obtain ⟨h, h3⟩ := and2 h
      obtain ⟨h1, h2⟩ := and2 h
      refine ⟨fun pins s σ H D I hw => ?_⟩
      obtain ⟨ι, en, h, rh, rs, pp⟩ := hw
      refine (ps_if (sE t lv.toLvE g.toGood h1).pt (sSs a lv g h2) (sSs b lv g h3)).run pins s σ H D I ⟨ι, en, h, rh, rs, (PostS.onE relB rs pp).imp fun v H1 ⟨ι1, d, h1, g1, rh1, ev, p1⟩ => ?_⟩
      cases (show d = v from ev)
      cases v with
      | true => exact ⟨ι1, en, h1, rh1, rs.mono g1, p1⟩
      | false => exact ⟨ι1, en, h1, rh1, rs.mono g1, p1⟩
    | _ => exact absurd h Bool.false_ne_true
  | .for t it b, X, W, st, lv, g, h => by
    cases st with
    | For t' it' b' oe p =>
      cases oe with
      | cons _ _ => exact absurd h Bool.false_ne_true
      | nil =>
        have h : (tgB X.N X.env.scope allT t t' && notSet it' && chI T X.N X.env.scope (isTupT t') it it' && chSs T X.N X.env.scope b b') = true := h
        obtain ⟨h, h4⟩ := and2 h
        obtain ⟨h, h3⟩ := and2 h
        obtain ⟨h1, h2⟩ := and2 h
        exact for_ps g (sI it lv.toLvE g.toGood h3) (tg_pg g.nd g.calm (fc := allT) (fun x _ => g.fnT x) h1) (sSs b lv g h4) (fset_of h2)
    | _ => exact absurd h Bool.false_ne_true
  | .whl t b, X, W, st, lv, g, h => by
    cases st with
    | While t' b' oe p =>
      cases oe with
      | cons _ _ => exact absurd h Bool.false_ne_true
      | nil =>
        obtain ⟨h1, h2⟩ := and2 h
        exact whl_ps g (sE t lv.toLvE g.toGood h1).pt (sSs b lv g h2)
    | _ => exact absurd h Bool.false_ne_true
  | .ret x, X, W, st, lv, g, h => by
    cases st with
    | Return e p =>
      cases e with
      | none => exact absurd h Bool.false_ne_true
      | some e =>
        refine ⟨fun pins s σ H D I hw => ?_⟩
        obtain ⟨ι, en, h', rh, rs, pp⟩ := hw
        exact (ps_ret (sE x lv.toLvE g.toGood h).pe).run pins s σ H D I ⟨ι, en, h', rh, rs, (PostS.onE _ rs pp).imp fun v H1 ⟨ι1, d, h1, g1, rh1, rd, p1⟩ => p1 ι1 H1 v (Gr.refl _ _) rh1 rd⟩
    | _ => exact absurd h Bool.false_ne_true
  | .retn, X, W, st, lv, g, h => by
    cases st with
    | Return e p =>
      cases e with
      | some _ => exact absurd h Bool.false_ne_true
      | none => exact ⟨fun pins s σ H D I ⟨ι, en, h', rh, rs, p⟩ => ps_retN.run pins s σ H D I (p ι H _ (Gr.refl _ _) rh .non)⟩
    | _ => exact absurd h Bool.false_ne_true
  | .brk, X, W, st, lv, g, h => by
    cases st with
    | Break p => exact ⟨fun pins s σ H D I ⟨ι, en, h', rh, rs, p⟩ => ps_break.run pins s σ H D I (p ι σ H (Gr.refl _ _) rh rs)⟩
    | _ => exact absurd h Bool.false_ne_true
  | .cnt, X, W, st, lv, g, h => by
    cases st with
    | Continue p => exact ⟨fun pins s σ H D I ⟨ι, en, h', rh, rs, p⟩ => ps_continue.run pins s σ H D I (p ι σ H (Gr.refl _ _) rh rs)⟩
    | _ => exact absurd h Bool.false_ne_true
  | .pas, X, W, st, lv, g, h => by
    cases st with
    | Pass p => exact ⟨fun pins s σ H D I ⟨ι, en, h', rh, rs, p⟩ => ps_pass.run pins s σ H D I (p ι σ H (Gr.refl _ _) rh rs)⟩
    | _ => exact absurd h Bool.false_ne_true
  | .rse j es, X, W, st, lv, g, h => by
    cases st with
    | Raise e ca p =>
      cases e with
      | none => exact absurd h Bool.false_ne_true
      | some e =>
        cases e with
        | Call fn l kw p2 =>
          cases fn with
          | Name x pn =>
            cases kw with
            | cons _ _ => exact absurd h Bool.false_ne_true
            | nil =>
              cases ca with
              | some _ => exact absurd h Bool.false_ne_true
              | none =>
                have h : (decide (T.er[j]? = some x) && gloB X.env.scope x && !dbg x && chEs T X.N X.env.scope es l) = true := h
                obtain ⟨h, h4⟩ := and2 h
                obtain ⟨h, h3⟩ := and2 h
                obtain ⟨h1, h2⟩ := and2 h
                have h3 := Bool.not_eq_true' _ |>.mp h3
                unfold dbg at h3
                simp only [Bool.or_eq_false_iff] at h3
                exact lv.rse X W ⟨rfl, rfl, rfl, rfl, rfl⟩ g j x l _ pn p2 p (of_decide_eq_true h1) (gl_of h2) h3.1.1 (sEs es lv.toLvE g.toGood h4)
          | _ => exact absurd h Bool.false_ne_true
        | _ => exact absurd h Bool.false_ne_true
    | _ => exact absurd h Bool.false_ne_true
  | .try b hs, X, W, st, lv, g, h => by
    cases st with
    | Try b' hs' oe fb p =>
      cases hs' with
      | nil => exact absurd h Bool.false_ne_true
      | cons h0 hs' =>
        cases oe with
        | cons _ _ => exact absurd h Bool.false_ne_true
        | nil =>
          cases fb with
          | cons _ _ => exact absurd h Bool.false_ne_true
          | nil =>
            obtain ⟨h1, h2⟩ := and2 h
            obtain ⟨L, r1, r2⟩ := hds_of g lv.toLv h2
            refine ⟨fun pins s σ H D I hw => ?_⟩
            obtain ⟨ι, en, h', rh, rs, pp⟩ := hw
            refine (try_rule g.stk g.frm g.nd g.tk (tb := fun V => trS Z X V (exs c b)) (fun V pn xe tk ow => sSs b (X := X.tr pn xe) lv.tr (g.tr tk ow) h1) r1).run pins s σ H D I ⟨ι, en, h', rh, rs, ?_⟩
            have pp : PostS W (Z.g X) ι H (match exs c b en h' with
              | .exc k fs e h => exH c hs k fs e h
              | r => r) D := pp
            cases hr : exs c b en h' with
            | exc j fs e1 h1 =>
              rw [hr] at pp
              exact fun ι2 σ2 H2 Ca d g2 rh2 rs2 ec rx => exH_w rfl lv.toLv r2 pp g2 rh2 rs2 ec rx
            | bad => rw [hr] at pp; exact pp.elim
            | nx _ _ => rw [hr] at pp; exact pp
            | rt _ _ => rw [hr] at pp; exact pp
            | bk _ _ => rw [hr] at pp; exact pp
            | ct _ _ => rw [hr] at pp; exact pp
    | _ => exact absurd h Bool.false_ne_true
  | .del a b, X, W, st, lv, g, h => absurd h (by cases st <;> exact Bool.false_ne_true)
  | .act i, X, W, st, lv, g, h => by
    cases st with
    | Expr e p =>
      cases e with
      | Call fn l kw p2 =>
        cases fn with
        | Name x pn =>
          cases l with
          | cons _ _ => cases kw <;> exact absurd h Bool.false_ne_true
          | nil =>
            cases kw with
            | cons _ _ => exact absurd h Bool.false_ne_true
            | nil =>
              have h : (decide (X.N[i]? = some x) && visB X.env.scope x && !dbg x) = true := h
              obtain ⟨h, h3⟩ := and2 h
              obtain ⟨h1, h2⟩ := and2 h
              exact lv.act X.pn X.xe W g i x pn p2 p (of_decide_eq_true h1) (vis_of h2) (Bool.not_eq_true' _ |>.mp h3)
        | _ => exact absurd h Bool.false_ne_true
      | _ => exact absurd h Bool.false_ne_true
    | _ => exact absurd h Bool.false_ne_true
theorem sSs : ∀ (x : Sts) {X : Cx} {W : WX} {l : List Stmt}, LvS T Z c k X → GoodS Z k X W → chSs T X.N X.env.scope x l = true → PSs X l (trS Z X W (exs c x))
  | .nil, X, W, l, lv, g, h => by
    cases l with
    | nil => exact ⟨fun pins s σ H D I ⟨ι, en, h', rh, rs, p⟩ => pss_nil.run pins s σ H D I (p ι σ H (Gr.refl _ _) rh rs)⟩
    | cons _ _ => exact absurd h Bool.false_ne_true
  | .cons x xs, X, W, l, lv, g, h => by
    cases l with
    | nil => exact absurd h Bool.false_ne_true
    | cons st l =>
      obtain ⟨h1, h2⟩ := and2 h
      refine ⟨fun pins s σ H D I hw => ?_⟩
      obtain ⟨ι, en, h', rh, rs, p⟩ := hw
      refine (pss_cons (sS x lv g h1) (sSs xs lv g h2)).run pins s σ H D I ⟨ι, en, h', rh, rs, ?_⟩
      have p : PostS W (Z.g X) ι H (match ex c x en h' with
        | .nx e h => exs c xs e h
        | r => r) D := p
      cases hr : ex c x en h' with
      | nx e1 h1 =>
        rw [hr] at p
        exact fun ι2 σ2 H2 g2 rh2 rs2 => ⟨ι2, e1, h1, rh2, rs2, PostS.mono g2 p⟩
      | rt d h1 => rw [hr] at p; exact p
      | bk _ _ => rw [hr] at p; exact p
      | ct _ _ => rw [hr] at p; exact p
      | exc _ _ _ _ => rw [hr] at p; exact p
      | bad => rw [hr] at p; exact p.elim
end
end
end MP
namespace MP
open PySem PySem.Spec PyProof.Rows L2
def Tb.l (T : Tb) (b : Bool) : Tb := { T with lam := b }
def Wd.w (Z : Wd) (m : List Lmd) : Wd := { Z with lm := m }
/-- what the text says of a def -/
structure FnF (K : PySem.W.Frag) (mg : Str → Option Value) (base : Heap) (T : Tb) (Z : Wd) (f : Addr) (fd : Fd) : Prop where
  ex : ∃ (x qual : Str) (params : Arguments) (body : List Stmt) (scope : Scope) (dvs : List V) (fu : FuncData) (N ps : List Str) (l : Bool), FunD K x qual params body scope dvs [] f fu ∧ FnScope N ps scope ∧ N.length = fd.nl ∧ ps.length = fd.np ∧ chSs (T.l l) N scope fd.body body = true ∧
    (l = true → ∃ c Pt, fu.code = .ref c ∧ LamX.TabB base mg c Pt ∧ (Pt, qual ++ ".<locals>." ++ "<lambda>") ∈ Z.tt ∧ ∀ p ∈ Z.tt, p.1 = Pt → p.2 = qual ++ ".<locals>." ++ "<lambda>") ∧
    fd.dfl.length ≤ fd.np ∧ ∀ n, fd.np - fd.dfl.length ≤ n → n ≤ fd.np → ∃ (vs : List V) (ds : List Value), Vals vs ds ∧ (∀ G ι H, RDs G ι H (fd.dfl.drop (n - (fd.np - fd.dfl.length))) vs) ∧
      ∀ (s : Shared) (us : List Value), K.In s.heap → us.length = n → BindsTo s fu ⟨us, []⟩ (ps.zip (us ++ ds))
section
variable {P : Program} {w : World} {K : PySem.W.Frag} {mg : Str → Option Value} {base : Heap}
/-- a def's body runs, at one call -/
theorem fn_run {CX : CXT} {f : Addr} {name qual : Str} {params : Arguments} {body : List Stmt} {scope : Scope} {dV kV doc pm cdv ct oc : Value} {an od : Option Addr} {osl : Array (Option Value)} {N ps : List Str} {k : Nat} {A : Around} {outer : List Env} {s : Shared} {H : Hp} {args : Args} {us : List Value} {vs : List V} {Q : VK} {E : XK}
    (lk : K.lookup f = some ⟨oc, od, .func (PySem.W.fnOf name qual params body scope dV kV doc pm an cdv ct), osl⟩) (hcd : PySem.W.codeIn K cdv qual = true) (S : FnScope N ps scope) (hl : vs.length = ps.length) (hr : Room k A) (e0 : Env0 P w K mg base A outer s H)
    (hb : BindsTo s (PySem.W.fnOf name qual params body scope dV kV doc pm an cdv ct) args (ps.zip us)) (r : Vals vs us) {t : TS}
    (hbody : PSs (cxOf CX P w K mg base N qual scope f cdv A outer s H E) body t) (hq : t { nx := fun _ H' => Q .non H', rt := Q } (L2.start N vs) H) : codeAny (model P w) A (.call (.ref f) args) (CR CX outer P w H s Q E) s := by
  have KX : K.In s.heap := e0.mod.kin.keeps fun b o e => (e0.bs b o e).1
  have lim : s.heap.NoLimit := e0.mod.nolimit.keeps fun b o e => (e0.bs b o e).1
  have kinds : ∀ y ∈ ps.zip us, scope.names.lookup y.1 = some .local ∨ (scope.names.lookup y.1 = some .cell ∧ ((cellsFrom (s.heap.objs.size + 1) scope.names []).lookup y.1).isSome = true) := fun ⟨n, v⟩ hy => by
    rcases S.par n (List.of_mem_zip hy).1 with q | q
    · exact .inl q
    · exact .inr ⟨q, PySem.W.cellsFrom_some _ _ _ (.inl q)⟩
  refine codeAny_call_function hr.depth (KX _ _ lk) rfl S.co S.gen rfl (PySem.W.codeRec_of KX hcd) (hb _ _ _ _ ?_)
  refine wpAny_newFunctionEnv_cells S.kind kinds fun env he s1 x => ?_
  subst he
  refine ⟨lim.keeps x.toInCall.keep, codeAny_func ?_⟩
  have I : Inv (cxOf CX P w K mg base N qual scope f cdv A outer s H E) [] (L2.start N vs) H s1 := inv_start S hr.hd e0 hl r x
  refine wpAny_mono (hbody.run [] s1 (L2.start N vs) H _ I hq) (fun fl s' hs => ?_) fun e s' hs => hs
  cases fl with
  | ret u =>
    obtain ⟨v, σ', H', J, rv, q⟩ := hs
    exact ⟨v, H', J.os, J.bare, J.base, J.hok, rv, q⟩
  | next =>
    obtain ⟨σ', H', J, q⟩ := hs
    exact ⟨.non, H', J.os, J.bare, J.base, J.hok, rfl, q⟩
  | brk => exact hs.elim fun _ h => h.elim fun _ h => h.2.elim
  | cont => exact hs.elim fun _ h => h.elim fun _ h => h.2.elim
end

/-- what holds of the program's own things, whatever calls do -/
structure PrOk (P : Pr) (T : Tb) (Z : Wd) (K : PySem.W.Frag) (mg : Str → Option Value) (base : Heap) : Prop where
  glo : ∀ g x d, T.gl[g]? = some x → P.glo g = some d → ∃ v u, mg x = some u ∧ RelV v u ∧ ∀ m ι H, RD ⟨K, Z.fa, Z.ca, Z.ea, Z.tt, m⟩ ι H d v
  fn : ∀ g x, T.fs[g]? = some x → ∃ a, mg x = some (.ref a) ∧ Z.fa g = some a ∧ PySem.W.keepIn K (.ref a) = true
  cls : ∀ g x, T.cs[g]? = some x → ∃ a, mg x = some (.ref a) ∧ Z.ca g = some a ∧ PySem.W.keepIn K (.ref a) = true
  met : ∀ j C KK f g, Z.ca j = some C → P.cls j = some KK → KK.meths.lookup f = some g → ∃ a, Meth K C f a ∧ Z.fa g = some a
  fns : ∀ f ∈ T.fns, f ∈ Z.fns
  ecl : ∀ g x, T.er[g]? = some x → ∃ a, mg x = some (.ref a) ∧ Z.ea g = some a
  xfc : ∀ j C f, Z.ea j = some C → f ∈ T.efs → XfC K C ∧ PySem.W.findIn K (.ref C) f = some none
  exm : ∀ j C j' C', Z.ea j = some C → Z.ea j' = some C' → PySem.W.exmOne K (.ref C) (.ref C') = some (decide (j' = j ∨ j' ∈ ((P.ers j).map (·.up)).getD []))
  fnf : ∀ g fd a, P.fns g = some fd → Z.fa g = some a → FnF K mg base T Z a fd
  ini : ∀ j g C, P.ini j = some g → Z.ca j = some C → ∃ a, Z.fa g = some a ∧ PySem.W.findIn K (.ref C) "__init__" = some (some (.ref a)) ∧ L2.Mk K C a
  isk : ∀ (kd : Kd) (ty : Ty) (t u : Value), KdV Z kd t → TyW Z ty u → PySem.W.kitOne K t u = some (isTy kd ty)
  isc : ∀ c C, Z.ca c = some C → IsC K C
  fnk : ∀ g a, Z.fa g = some a → PySem.W.keepIn K (.ref a) = true
  bt : ∀ x ∈ bnames, mg x = none
  cl : ∀ c C, Z.ca c = some C → Cls K C
  na : ∀ c C f, Z.ca c = some C → f ∈ Z.fns → NoAttr K C f
  rse : ∀ m n (Y : Cx) (V : WX), 4 ≤ n → Y.K = K → Y.mg = mg → GoodS (Z.w m) n Y V → ∀ j x l ss p pos pos', T.er[j]? = some x → Gl Y x → (x == ("__debug__" : Str)) = false → SSs (Z.w m) Y V ss l →
    PS Y (.Raise (some (.Call (.Name x p) l [] pos)) none pos') (trS (Z.w m) Y V fun e h => onE (seqE ss e h) e fun ds h => rseD (cg P 0) j ds e h)
  mke : ∀ m n (Y : Cx) (V : WX), 4 ≤ n → Y.K = K → Y.mg = mg → Good (Z.w m) n Y V → ∀ j x l ss p pos, T.er[j]? = some x → Gl Y x → (x == ("__debug__" : Str)) = false → SSs (Z.w m) Y V ss l →
    PE Y (.Call (.Name x p) l [] pos) (trD (Z.w m) Y V fun e h => (seqE ss e h).bind fun ds h => mkeD (cg P 0) j ds h)
  xis : ∀ (j : Nat) (C : Addr) (t : Option Nat) (u : Value), Z.ea j = some C → TxW Z t u → PySem.W.kitOne K (.ref C) u = some (isxB (((P.ers j).map (·.up)).getD []) j t)
  xkc : ∀ j C, Z.ea j = some C → XkC K C

section
variable {P : Pr} {T : Tb} {Z : Wd} {X : Cx} {W : WX} {n : Nat}
variable {pins : List (Addr × Obj)} {s : Shared} {σ : L2.St} {H : Hp} {ι : List Addr} {h : AH}
theorem rs_start {G : Gx} {N : List Str} {ds : List D} {vs : List V} (r : RDs G ι H ds vs) (hl : vs.length ≤ N.length) : RS G ι H (ds.map some ++ List.replicate (N.length - ds.length) none) (L2.start N vs) := by
  have e := r.length
  have key : ∀ (i : Nat) (d : D), (ds.map some ++ List.replicate (N.length - ds.length) none)[i]? = some (some d) → ∃ v, (L2.start N vs)[i]? = some (some v) ∧ RD G ι H d v := fun i d q => by
    by_cases hi : i < ds.length
    · rw [List.getElem?_append_left (by simpa using hi), List.getElem?_map] at q
      cases hd : ds[i]? with
      | none => rw [hd] at q; cases q
      | some d' =>
        rw [hd] at q
        cases q
        obtain ⟨v, hv, rv⟩ := r.get hd
        refine ⟨v, ?_, rv⟩
        unfold L2.start
        show (vs.map some ++ List.replicate (N.length - vs.length) none)[i]? = _
        rw [List.getElem?_append_left (by simp; omega), List.getElem?_map, hv]
        rfl
    · rw [List.getElem?_append_right (by simpa using hi), List.getElem?_replicate] at q
      split at q <;> cases q
  refine ⟨?_, fun i d q _ => key i d q, fun i q => ?_⟩
  · unfold L2.start
    show (List.length (vs.map some ++ List.replicate (N.length - vs.length) none)) = _
    simp only [List.length_append, List.length_map, List.length_replicate]
    omega
  · obtain ⟨v, _, rv⟩ := key i _ q
    exact absurd rfl rv.nothk
/-- what a body does, told as a call's end -/
theorem body_post {G : Gx} {c : Cg} {fd : Fd} {as : List D} {en : En} {Q : VK} (he : en = as.map some ++ List.replicate (fd.nl - as.length) none) {ds : List D} (ha : argsOf fd ds = some as) (p : Post (RD G) W G ι σ H (runFd c fd ds h) Q) :
    PostS (fun cls d _ H' => W cls d σ H') G ι H (exs c fd.body en h) { nx := fun _ H' => Q .non H', rt := Q } := by
  unfold runFd at p
  rw [ha] at p
  have p : Post (RD G) W G ι σ H (match exs c fd.body (as.map some ++ List.replicate (fd.nl - as.length) none) h with
    | .nx _ h => .ok .non h
    | .rt d h => .ok d h
    | .exc k fs _ h => .exc k fs h
    | _ => .bad) Q := p
  rw [← he] at p
  cases hr : exs c fd.body en h with
  | nx e1 h1 => rw [hr] at p; exact fun ι' σ' H' g rh _ => p ι' H' .non g rh .non
  | rt d h1 => rw [hr] at p; exact fun ι' H' v g rh rd => p ι' H' v g rh rd
  | exc k fs e1 h1 => rw [hr] at p; exact fun ι' σ' H' Ca d g rh _ ec rx => p ι' H' Ca d g rh ec rx
  | bk _ _ => rw [hr] at p; exact p.elim
  | ct _ _ => rw [hr] at p; exact p.elim
  | bad => rw [hr] at p; exact p.elim

theorem rseD_lv (n : Nat) : rseD (cg P n) = rseD (cg P 0) := by cases n <;> rfl
theorem mkeD_ers {c : Cg} (h : c.ers = P.ers) : mkeD c = mkeD (cg P 0) := by
  funext k ds h'
  unfold mkeD
  rw [h]
  rfl
theorem Lv.toLow {c : Cg} {k : Nat} {b : Bool} (l : Lv (T.l b) Z c k X) : Lv T.low Z c k X :=
  ⟨l.glo, l.fn, l.cls, l.met, l.cal, l.mak, l.fns, l.ecl, l.xfc, l.exm, l.isk, l.isc, l.fnk, l.ok, (fun z => by cases z), (fun z => by cases z), (fun z => by cases z), l.xis, l.xkc⟩
/-- where no calls are left -/
def Tb.fl (T : Tb) (a b : Bool) : Tb := { T with lam := a, mkx := b }
theorem lv_nil {c : Cg} {k : Nat} {fa fb : Bool} (hc : c.fs = []) (hg : c.glo = P.glo) (hk : c.cls = P.cls) (he : c.ers = P.ers) (ok : PrOk P T Z X.K X.mg X.base) (hX : Z.ok X.K X.mg X.base) (hl : LamF (T.fl fa fb) Z X) (hk4 : fb = true → 4 ≤ k) : Lv (T.fl fa fb) Z c k X where
  glo := fun g x d h1 h2 => by
    rw [hg] at h2
    obtain ⟨v, u, q1, q2, q3⟩ := ok.glo g x d h1 h2
    exact ⟨v, u, q1, q2, q3 _⟩
  fn := ok.fn
  cls := ok.cls
  met := by rw [hk]; exact ok.met
  cal := fun Y V q g gg a ha => fun _ _ _ _ _ _ _ _ _ _ _ _ _ _ p => by
    unfold Cg.call at p
    rw [hc] at p
    exact p.elim
  mak := fun Y V q g gg a ha => fun _ _ _ _ _ _ _ _ _ _ _ _ _ _ p => by
    unfold Cg.make at p
    rw [hc] at p
    exact p.elim
  fns := ok.fns
  ecl := ok.ecl
  xfc := ok.xfc
  exm := by rw [he]; exact ok.exm
  isk := ok.isk
  isc := ok.isc
  fnk := ok.fnk
  ok := hX
  lam := hl
  lcl := fun _ Y V q lf g gg x pn pos lp b scope bf h1 h2 h3 h4 h5 => ⟨fun pins s σ H Q I hw => by
    obtain ⟨ι, en, h, rh, rs, p⟩ := hw
    unfold Cg.lcl at p
    rw [hc] at p
    exact p.elim⟩
  mke := fun t Y V q g j x l ss p pos h1 h2 h3 h4 => by
    rw [mkeD_ers he]
    exact ok.mke Z.lm k Y V (hk4 t) q.K q.mg g j x l ss p pos h1 h2 h3 h4
  xis := by
    unfold Cg.ups
    rw [he]
    exact ok.xis
  xkc := ok.xkc
/-- one call of a def, its body's calls being sound -/
theorem body_run (lv : ∀ (l : Bool) (X : Cx), Z.ok X.K X.mg X.base → LamF (T.l l) Z X → LvS (T.l l) Z (cg P n) (2 * n + 4) X) {Y : Cx} {VW : WX} (ok : PrOk P T Z Y.K Y.mg Y.base) (hY : Z.ok Y.K Y.mg Y.base) {g : Nat} {fd : Fd} {a : Addr} {A : Around} (hfn : P.fns g = some fd) (ha : Z.fa g = some a) (hr : Room (2 * n + 5) A) (hgd : A.guards = some [])
    {s : Shared} {σ : L2.St} {H : Hp} {ι : List Addr} {h : AH} {ds : List D} {xs : List V} {us : List Value} {Q : VK} (e0 : Env0 Y.prog Y.w Y.K Y.mg Y.base A Y.stack s H) (rh : RH (Z.g Y) ι h H) (rds : RDs (Z.g Y) ι H ds xs) (rxs : Vals xs us)
    (p : Post (RD (Z.g Y)) VW (Z.g Y) ι σ H (runFd (cg P n) fd ds h) Q) : codeAny (model Y.prog Y.w) A (.call (.ref a) ⟨us, []⟩) (CR (L2.CX Y.prog Y.w) Y.stack Y.prog Y.w H s Q fun cls d H' => VW cls d σ H') s := by
  obtain ⟨x, qual, params, body, scope, dvs, fu, N, ps, l, F, S, hN, hps, hch, hlam, hdf, hbd⟩ := (ok.fnf g fd a hfn ha).ex
  obtain ⟨oc, od, dV, kV, doc, pm, an, cdv, ct, osl, rfl, lk, hcd, _, _⟩ := F.ex
  have KX : Y.K.In s.heap := e0.mod.kin.keeps fun b o e => (e0.bs b o e).1
  cases has : argsOf fd ds with
  | none =>
    unfold runFd at p
    rw [has] at p
    exact p.elim
  | some as =>
    have has' := has
    unfold argsOf at has'
    split at has'
    · rename_i hc
      cases has'
      obtain ⟨vs, dsv, rv, rdv, bind⟩ := hbd ds.length hc.1 hc.2
      have el : us.length = ds.length := by rw [← rxs.length, ← rds.length]
      have r2 := rds.append (rdv (Z.g Y) ι H)
      have hl : (xs ++ vs).length = ps.length := by
        rw [← r2.length, hps, List.length_append, List.length_drop]
        omega
      have hN2 : (xs ++ vs).length ≤ N.length := by
        rw [hl]
        have := congrArg List.length S.pre
        rw [List.length_take] at this
        omega
      have he : (ds ++ fd.dfl.drop (ds.length - (fd.np - fd.dfl.length))).map some ++ List.replicate (N.length - (ds ++ fd.dfl.drop (ds.length - (fd.np - fd.dfl.length))).length) none = (ds ++ fd.dfl.drop (ds.length - (fd.np - fd.dfl.length))).map some ++ List.replicate (fd.nl - (ds ++ fd.dfl.drop (ds.length - (fd.np - fd.dfl.length))).length) none := by rw [hN]
      refine fn_run lk hcd S hl hr e0 (bind s us KX el) (rxs.append rv)
        (t := trS Z (cxOf (L2.CX Y.prog Y.w) Y.prog Y.w Y.K Y.mg Y.base N qual scope a cdv A Y.stack s H fun cls d H' => VW cls d σ H') (fun cls d _ H' => VW cls d σ H') (exs (cg P n) fd.body)) ?_ ⟨ι, _, h, rh, rs_start r2 hN2, body_post he has p⟩
      refine sSs fd.body (lv l _ hY hlam) ⟨⟨S.nd, takes_of rfl rfl rfl rfl, rfl, hr.deeper _, ?_, ok.bt, ok.cl, ok.na⟩, passes_of rfl, fun _ => rfl, rfl, rfl⟩ hch
      exact hgd
    · cases has'
theorem act_bad {c : Cg} {k : Nat} (hc : c.tk = fun _ => .bad) : ∀ pn xe VW, GoodS Z k (X.tr pn xe) VW → ∀ (i : Nat) (x : Str) (p1 p2 pos : Pos), X.N[i]? = some x → Vis X.env.scope x → dbg x = false →
    PS (X.tr pn xe) (.Expr (.Call (.Name x p1) [] [] p2) pos) (trS Z (X.tr pn xe) VW fun e h => onE (actE c i e h) e fun _ h => .nx e h) := fun pn xe VW g i x p1 p2 pos _ _ _ => ⟨fun pins s σ H Dn I hw => by
  obtain ⟨ι, en, h, rh, rs, p⟩ := hw
  unfold actE at p
  rw [hc] at p
  dsimp only at p
  split at p
  · exact p.elim
  · exact p.elim⟩
theorem PrOk.tl {K : PySem.W.Frag} {mg : Str → Option Value} {base : Heap} (o : PrOk P T Z K mg base) (b : Bool) : PrOk P (T.l b) Z K mg base :=
  ⟨o.glo, o.fn, o.cls, o.met, o.fns, o.ecl, o.xfc, o.exm, fun g fd a h1 h2 => ⟨(o.fnf g fd a h1 h2).ex⟩, o.ini, o.isk, o.isc, o.fnk, o.bt, o.cl, o.na, o.rse, o.mke, o.xis, o.xkc⟩
theorem low_cg : ∀ m, (cg P (m + 2)).low = cg P m
  | 0 => rfl
  | _ + 1 => rfl
/-- a lambda handed to a def at once -/
def LclOk (P : Pr) (T : Tb) (n : Nat) : Prop := ∀ (Z : Wd), (∀ K mg base, Z.ok K mg base → PrOk P T Z K mg base) → (∀ (Z' : Wd), (∀ K mg base, Z'.ok K mg base → PrOk P T Z' K mg base) → ∀ (l : Bool) (X : Cx), Z'.ok X.K X.mg X.base → LamF (T.l l) Z' X → LvS (T.l l) Z' (cg P n) (2 * n + 4) X) →
  ∀ (Y : Cx) (VW : WX), Z.ok Y.K Y.mg Y.base → LamF (T.l true) Z Y → Good Z (2 * (n + 1) + 4) Y VW → ∀ (g : Nat) (x : Str) (pn pos lp : Pos) (b : Expr) (scope : Scope) (bf : En → AH → Res D), T.fs[g]? = some x → Gl Y x → (x == ("__debug__" : Str)) = false → LamX.LamS Y.env.scope scope →
    (∀ Xl W', LmX Y scope Xl → Good Z (2 * (n + 1) + 4 - 4) Xl W' → PE Xl b (trD Z Xl W' bf)) → PE Y (.Call (.Name x pn) [.Lambda ⟨[], [], none, [], [], none, []⟩ b scope lp] [] pos) (trD Z Y VW fun e h => (cg P (n + 1)).lcl g (fun h => bf e h) h)
/-- the knot: n levels of calls -/
theorem lv_of (lc : ∀ n, LclOk P T n) : ∀ (n : Nat) (Z : Wd), (∀ K mg base, Z.ok K mg base → PrOk P T Z K mg base) → ∀ (l : Bool) (X : Cx), Z.ok X.K X.mg X.base → LamF (T.l l) Z X → LvS (T.l l) Z (cg P n) (2 * n + 4) X
  | 0, Z, hok, l, X, hX, hl => by
    have ok := hok _ _ _ hX
    refine ⟨⟨lv_nil (T := T) (fa := l) (fb := T.mkx) rfl rfl rfl rfl ok hX hl (fun _ => Nat.le_refl 4), fun _ Xl hXl => lv_nil (T := T) (fa := false) (fb := false) rfl rfl rfl rfl (hok _ _ _ hXl) hXl (fun z => by cases z) fun z => by cases z⟩, act_bad rfl, fun Y VW q g => ?_⟩
    exact (hok X.K X.mg X.base hX).rse Z.lm _ Y VW (by omega) q.K q.mg g
  | n + 1, Z, hok, l, X, hX, hl => by
    have ok := hok _ _ _ hX
    have lvn := lv_of lc n
    have okS : ∀ {Y : Cx}, Same X Y → Z.ok Y.K Y.mg Y.base := fun {Y} q => by rw [q.K, q.mg, q.base]; exact hX
    refine ⟨⟨⟨fun g x d h1 h2 => ?_, ok.fn, ok.cls, ok.met, fun Y VW q g gg a ha => ?_, fun Y VW q g j C hC => ?_, ok.fns, ok.ecl, ok.xfc, ok.exm, ok.isk, ok.isc, ok.fnk, hX, hl, fun t Y VW q lf g gg x pn pos lp b scope bf h1 h2 h3 h4 h5 => ?_, fun t Y V q g j x l ss p pos h1 h2 h3 h4 => by rw [mkeD_ers rfl]; exact ok.mke Z.lm _ Y V (by omega) (q.K) (q.mg) g j x l ss p pos h1 h2 h3 h4, ok.xis, ok.xkc⟩, fun t Xl hXl => ?_⟩, act_bad rfl, fun Y VW q g => ?_⟩
    · obtain ⟨v, u, q1, q2, q3⟩ := ok.glo g x d h1 h2
      exact ⟨v, u, q1, q2, q3 _⟩
    · have hY := okS q
      have okY := hok _ _ _ hY
      intro pins s σ H ι h ds xs us Q I rh rds rxs p
      have p : Post (RD (Z.g Y)) VW (Z.g Y) ι σ H (match P.fns gg with
        | some fd => runFd (cg P n) fd ds h
        | none => .bad) Q := p
      cases hf : P.fns gg with
      | none => rw [hf] at p; exact p.elim
      | some fd =>
        rw [hf] at p
        refine wpAny_call (codeAny_mono (body_run (lvn Z hok) okY hY hf ha (g.room.mono (by omega)) g.gd I.env0 rh rds rxs p) fun r s' hq => ?_)
        cases r with
        | error e => exact g.tk e s' (XE.of_call I (fun cls d H' h => h) hq)
        | ok fl =>
          cases fl with
          | ret u => exact I.after hq
          | next => exact False.elim hq
          | brk => exact False.elim hq
          | cont => exact False.elim hq
    · have hY := okS q
      have okY := hok _ _ _ hY
      intro pins s σ H ι h ds xs us Q I rh rds rxs p
      have p : Post (RD (Z.g Y)) VW (Z.g Y) ι σ H (match (P.ini j).bind P.fns with
        | some fd => mkD (cg P n) fd j ds h
        | none => .bad) Q := p
      cases hi : P.ini j with
      | none => rw [hi] at p; exact p.elim
      | some gi =>
        rw [hi] at p
        have p : Post (RD (Z.g Y)) VW (Z.g Y) ι σ H (match P.fns gi with
          | some fd => mkD (cg P n) fd j ds h
          | none => .bad) Q := p
        cases hf : P.fns gi with
        | none => rw [hf] at p; exact p.elim
        | some fd =>
          rw [hf] at p
          obtain ⟨a, ha, _, M⟩ := okY.ini j gi C hi hC
          have n1 : H s.heap.objs.size = none := I.hok.fresh (Nat.le_refl _)
          have n2 : (upd H s.heap.objs.size (.own (s.heap.objs.size + 1))) (s.heap.objs.size + 1) = none := by
            rw [upd_ne (Nat.succ_ne_self _)]
            exact I.hok.fresh (Nat.le_succ _)
          have g2 : Gr ι H (ι ++ [s.heap.objs.size + 1]) (upd (upd H s.heap.objs.size (.own (s.heap.objs.size + 1))) (s.heap.objs.size + 1) (.ins C s.heap.objs.size [])) := (Gr.fresh n1).trans (Gr.push n2)
          have rh2 : RH (Z.g Y) (ι ++ [s.heap.objs.size + 1]) (h ++ [.ins j []]) (upd (upd H s.heap.objs.size (.own (s.heap.objs.size + 1))) (s.heap.objs.size + 1) (.ins C s.heap.objs.size [])) := (rh.other n1).push n2 (.ins hC upd_same .nil)
          have I2 := Inv.made (C := C) I
          have p : Post (RD (Z.g Y)) VW (Z.g Y) ι σ H ((runFd (cg P n) fd (.ref h.length :: ds) (h ++ [.ins j []])).bind fun r h' => match r with
            | .non => .ok (.ref h.length) h'
            | _ => .bad) Q := p
          refine wpAny_call (make_map (f := a) I.kIn M.makes M.init (beq_iff_eq.mp M.fn) (codeAny_mono (body_run (lvn Z hok) okY hY hf ha ((g.room.mono (by omega : 2 * n + 5 + 1 ≤ 2 * (n + 1) + 4)).make C us []) ?_ (I2.env0.make C us []) rh2 (.cons (.ref rh.new) (rds.mono g2)) (.cons rfl rxs) (Post.bind (RD (Z.g Y)) (p.mono g2))) fun r s' hq => ?_))
          · first | exact g.gd | (simp only [Around.under]; exact g.gd)
          · cases r with
            | error e => exact g.tk e s' (XE.of_call I2 (fun cls d H' h => h) hq)
            | ok fl =>
              cases fl with
              | ret u =>
                obtain ⟨v, H3, I3, rv, ι3, d, h3, g3, rh3, rd3, p3⟩ := I2.after hq
                cases rd3 with
                | non => exact ⟨rv, ⟨.ref (s.heap.objs.size + 1), H3, I3, rfl, p3.ok rh3 ((RD.ref rh.new).mono g3)⟩⟩
                | _ => exact p3.elim
              | next => exact False.elim hq
              | brk => exact False.elim hq
              | cont => exact False.elim hq
    · have t : l = true := t
      subst t
      exact lc n Z hok lvn Y VW (okS q) lf g gg x pn pos lp b scope bf h1 h2 h3 h4 h5
    · match n with
      | 0 => exact lv_nil (T := T) (fa := false) (fb := false) rfl rfl rfl rfl (hok _ _ _ hXl) hXl (fun z => by cases z) fun z => by cases z
      | m + 1 =>
        rw [low_cg]
        exact (lv_of lc m Z hok false Xl hXl fun z => by cases z).toLv.toLow
    · rw [rseD_lv]
      exact ok.rse Z.lm _ Y VW (by omega) q.K q.mg g
end
end MP
namespace MP
open PySem PySem.Spec PyProof.Rows L2
/-! ### a lambda that is handed to a def -/
section
variable {G : Gx} {lm : List Lmd} {ι ι' : List Addr} {H H' : Hp} {h : AH} {W : WX} {σ : L2.St}
abbrev Gx.w (G : Gx) (lm : List Lmd) : Gx := ⟨G.K, G.fa, G.ca, G.ea, G.tt, lm⟩
mutual
theorem RD.w : ∀ {d : D} {v : V}, RD G ι H d v → RD (G.w lm) ι H d v
  | _, _, .non => .non
  | _, _, .bl b => .bl b
  | _, _, .int i => .int i
  | _, _, .str s => .str s
  | _, _, .tup h r => .tup h (RDs.w r)
  | _, _, .ref e => .ref e
  | _, _, .fn e => .fn e
  | _, _, .cls e => .cls e
  | _, _, .ty s => .ty s
theorem RDs.w : ∀ {ds : List D} {vs : List V}, RDs G ι H ds vs → RDs (G.w lm) ι H ds vs
  | _, _, .nil => .nil
  | _, _, .cons a b => .cons (RD.w a) (RDs.w b)
end
theorem RKs.w : ∀ {ds : List (D × D)} {vs : List (Key × V)}, RKs G ι H ds vs → RKs (G.w lm) ι H ds vs
  | _, _, .nil => .nil
  | _, _, .cons a b => .cons a.w (RKs.w b)
theorem RFs.w : ∀ {ds : List (Str × D)} {vs : List (Str × V)}, RFs G ι H ds vs → RFs (G.w lm) ι H ds vs
  | _, _, .nil => .nil
  | _, _, .cons a b => .cons a.w (RFs.w b)
theorem RC.w {c : C} {a : Addr} : RC G ι H c a → RC (G.w lm) ι H c a
  | .lst e r => .lst e r.w
  | .fls e r => .fls e r.w
  | .dct e r => .dct e r.w
  | .ins q e r => .ins q e r.w
  | .xin q e .no => .xin q e .no
  | .xin q e (.yes n ed r) => .xin q e (.yes n ed r.w)
  | .dead => .dead
theorem RX.w {fs : List (Str × D)} {d : Option Addr} (r : RX G ι H fs d) : RX (G.w lm) ι H fs d := by
  cases d with
  | none => exact r
  | some d =>
    obtain ⟨n, vs, e, q⟩ := r
    exact ⟨n, vs, e, q.w⟩
theorem RH.w (r : RH G ι h H) (k : ∀ m ∈ lm, H m.c = some (LamX.CodeO m.c m.q) ∧ m.ib <+: ι) : RH (G.w lm) ι h H :=
  ⟨r.nd, r.len, r.trk, fun n c e => let ⟨a, ea, q⟩ := r.cell n c e; ⟨a, ea, q.w⟩, r.tabs, k⟩
theorem Post.w {W' : WX} {σ' : L2.St} {r : Res D} {Q : VK} (k : ∀ ι' h' H', Gr ι H ι' H' → RH (G.w lm) ι' h' H' → ∀ m ∈ G.lm, H' m.c = some (LamX.CodeO m.c m.q) ∧ m.ib <+: ι') (hW : ∀ cls d H', W cls d σ H' → W' cls d σ' H') (p : Post (RD G) W G ι σ H r Q) : Post (RD (G.w lm)) W' (G.w lm) ι σ' H r Q := by
  cases r with
  | ok a h => exact fun ι' H' v g rh rd => p ι' H' v g (rh.w (lm := G.lm) (k ι' h H' g rh)) (rd.w (lm := G.lm))
  | exc c fs h => exact fun ι' H' Ca d g rh ec rx => hW _ _ _ (p ι' H' Ca d g (rh.w (lm := G.lm) (k ι' h H' g rh)) ec (rx.w (lm := G.lm)))
  | bad => exact p
theorem tm_extN (e : LamX.ExtN H H') : TM H H' := fun a xs r => by
  rcases r with r | ⟨o, r⟩
  · exact .inl (e _ _ r (fun ps z => by cases z))
  · exact .inr ⟨o, e _ _ r (fun ps z => by cases z)⟩
theorem Gr.extN (e : LamX.ExtN H H') : Gr ι H ι H' := ⟨List.prefix_refl _, tm_extN e, fun a o _ h n => e a o h n, fun _ h => .inl h, fun c q h => e _ _ h LamX.codeO_ne⟩
theorem RC.extN (e : LamX.ExtN H H') {c : C} {a : Addr} : RC G ι H c a → RC G ι H' c a
  | .lst q r => .lst (e _ _ q (fun ps z => by cases z)) (r.mono (Gr.extN e))
  | .fls q r => .fls (e _ _ q (fun ps z => by cases z)) (r.mono (Gr.extN e))
  | .dct q r => .dct (e _ _ q (fun ps z => by cases z)) (r.mono (Gr.extN e))
  | .ins c q r => .ins c (e _ _ q (fun ps z => by cases z)) (r.mono (Gr.extN e))
  | .xin c q r => .xin c (e _ _ q (fun ps z => by have z' : HO.ext _ = HO.tbl ps := z; cases z')) (r.mono (Gr.extN e))
  | .dead => .dead
theorem RH.extN (r : RH G ι h H) (e : LamX.ExtN H H') (t : LamX.Tabs G.tt H') : RH G ι h H' := by
  refine ⟨r.nd, r.len, fun a ha => ?_, fun n c ec => let ⟨a, ea, q⟩ := r.cell n c ec; ⟨a, ea, q.extN e⟩, t, fun m hm => ⟨e _ _ (r.lm m hm).1 LamX.codeO_ne, (r.lm m hm).2⟩⟩
  obtain ⟨o, eo, n⟩ := r.trk a ha
  exact ⟨o, e _ _ eo n, n⟩
end

section
variable {Z : Wd} {k : Nat} {Y : Cx} {pins : List (Addr × Obj)} {σ : L2.St} {H : Hp} {s : Shared} {ι : List Addr} {h : AH} {en : En}
/-- x(), in the def that got the lambda -/
theorem act_pe {Eg : XK} {Ng : List Str} {qg : Str} {sg : Scope} {g f c' : Addr} {cdg pm ctv : Value} {b : Expr} {scope : Scope} {i : Nat} {a : Str} {pn : List (Addr × Obj)} {xe : Value → Shared → Prop} {VW : WX} {p1 p2 : Pos} {cc : Cg} {bf : En → AH → Res D}
    (I : Inv Y pins σ H s) (L : LamX.LamS Y.env.scope scope) (hf : s.heap.get? f = some (PySem.W.kla_obj "<lambda>" (Y.env.qual ++ "<lambda>") ⟨[], [], none, [], [], none, []⟩ b scope (cloFrom Y.env.cells scope.names []) pm c' ctv)) (hfn : H f = none) (hfr : f ∉ frs Y.stack)
    (rs : RS (Z.g Y) ι H en σ) (gd : Good (Z.w (⟨f, c', Y.env.qual ++ "<lambda>", ι⟩ :: Z.lm)) (k + 2) ((cxOf (L2.CX Y.prog Y.w) Y.prog Y.w Y.K Y.mg Y.base Ng qg sg g cdg Y.A Y.stack s H Eg).tr pn xe) VW) (htk : cc.tk = bf en)
    (hbody : ∀ Xl W', LmX Y scope Xl → Good Z k Xl W' → PE Xl b (trD Z Xl W' bf))
    (hnd : Y.N.Nodup) (hN : Ng[i]? = some a) (hv : Vis sg a) (hd : dbg a = false) :
    PE ((cxOf (L2.CX Y.prog Y.w) Y.prog Y.w Y.K Y.mg Y.base Ng qg sg g cdg Y.A Y.stack s H Eg).tr pn xe) (.Call (.Name a p1) [] [] p2)
      (trD (Z.w (⟨f, c', Y.env.qual ++ "<lambda>", ι⟩ :: Z.lm)) ((cxOf (L2.CX Y.prog Y.w) Y.prog Y.w Y.K Y.mg Y.base Ng qg sg g cdg Y.A Y.stack s H Eg).tr pn xe) VW (actE cc i)) := by
  refine ⟨fun pinsZ sZ σZ HZ Q IZ hw => ?_⟩
  obtain ⟨ιZ, enZ, hZ, rhZ, rsZ, pZ⟩ := hw
  unfold actE at pZ
  split at pZ
  case h_2 => exact pZ.elim
  case h_1 ei =>
    rw [htk] at pZ
    obtain ⟨m, em, hs⟩ := rsZ.thk i ei
    cases em
    have hc := (rhZ.lm _ List.mem_cons_self).1
    have hp := (rhZ.lm _ List.mem_cons_self).2
    unfold dbg at hd
    simp only [Bool.or_eq_false_iff] at hd
    refine wpAny_Call_Name_kw (thn ((pe_var (pos := p1) (i := i) hN hv hd.1.1 hd.1.2).run pinsZ sZ σZ HZ (fun v H1 => v = .ref f ∧ H1 = HZ) IZ ⟨.ref f, hs, rfl, rfl⟩) fun u s1 ⟨v, H1, I1, r1, q1⟩ => ?_)
    obtain ⟨ev, eH⟩ := q1
    subst ev
    rw [eH] at I1
    obtain rfl : u = Value.ref f := r1
    have of1 : s1.heap.get? f = some (PySem.W.kla_obj "<lambda>" (Y.env.qual ++ "<lambda>") ⟨[], [], none, [], [], none, []⟩ b scope (cloFrom Y.env.cells scope.names []) pm c' ctv) := I1.base.keep f _ hf hfn hfr (fun z => nomatch (show f ∈ ([] : List Addr) from z))
    refine PySem.W.callWith_F0 ⟨_, _, _, _, of1⟩ ?_
    have un : Un (frs Y.stack) [] H HZ s.heap s1.heap := I1.base
    obtain ⟨⟨oc, vs, t, hoc, hdc, hvc⟩, _, _⟩ := I1.hok c' _ hc
    have rc : codeAny (model Y.prog Y.w) (Y.A.deeper (envOfC qg sg s.heap.objs.size g cdg)) (.call (.ref f) ⟨[], []⟩) (CR (L2.CX Y.prog Y.w) (envOfC qg sg s.heap.objs.size g cdg :: Y.stack) Y.prog Y.w HZ s1 Q fun cls d H' => VW cls d σZ H') s1 := by
      refine PySem.W.kla_callFunE gd.room.depth of1 rfl L.co L.gen rfl ⟨c', oc, vs, t, rfl, hoc, hdc, hvc⟩ ?_
      rw [show bindArgs (PySem.W.kla_fn "<lambda>" (Y.env.qual ++ "<lambda>") ⟨[], [], none, [], [], none, []⟩ b scope (cloFrom Y.env.cells scope.names []) pm (.ref c') ctv) ⟨[], []⟩ = pure [] from rfl]
      refine wpAny_pure (wpAny_newFunctionEnv (fun y hy => (L.own y hy).2) (fun y hy => absurd hy (by simp)) (fun h₁ hns hsb => ⟨I1.nolimit.fresh _ hsb, ?_⟩) L.kind)
      show codeAny _ _ (.expr b (LamX.lamEnv Y scope s1.heap.objs.size f c')) _ _
      have kp : ∀ b o, s1.heap.get? b = some o → h₁.get? b = some o := fun b o e => hsb.extBut b o (Nat.ne_of_lt (Heap.lt_size e)) (Heap.get?_push_of_some _ e)
      have J : Inv (LamX.lamCx Y (Y.A.deeper (envOfC qg sg s.heap.objs.size g cdg)) (envOfC qg sg s.heap.objs.size g cdg :: Y.stack) s1 HZ (fun cls d H' => VW cls d σZ H') scope f c') [] σ HZ { s1 with heap := h₁, toks := s1.toks + ([] : List (Str × Value)).length } :=
        LamX.lam_start2 I L I1.env0 gd.room.hd un hns kp
      have tm : TM H HZ := fun a xs r => by
        rcases r with r | ⟨o, r⟩
        · exact .inl (un.tups _ _ r)
        · exact .inr ⟨o, un.frzs _ _ _ r⟩
      have rsl : RS (Z.g Y) ιZ HZ en σ := ⟨rs.len, fun i d e n => let ⟨v, q1, q2⟩ := rs.val i d e n; ⟨v, q1, q2.mono2 hp tm⟩, rs.thk⟩
      have pb := hbody (LamX.lamCx Y (Y.A.deeper (envOfC qg sg s.heap.objs.size g cdg)) (envOfC qg sg s.heap.objs.size g cdg :: Y.stack) s1 HZ (fun cls d H' => VW cls d σZ H') scope f c') (fun cls d _ H' => VW cls d σZ H') ⟨rfl, rfl, ⟨rfl, rfl, rfl, rfl, rfl⟩⟩
        ⟨hnd, takes_of rfl rfl rfl rfl, rfl, (gd.room.mono (by omega : k + 1 ≤ k + 2)).deeper _, gd.gd, gd.bt, gd.cl, gd.na⟩
      refine PySem.W.kla_codeExpr (wpAny_mono (pb.run [] _ σ HZ Q J ⟨ιZ, en, hZ, RH.w (lm := Z.lm) rhZ fun m hm => rhZ.lm m (List.mem_cons_of_mem _ hm), rsl, ?_⟩) (fun v s' hq => ?_) fun e s' hq => hq)
      · refine Post.w (G := (Z.w (⟨f, c', Y.env.qual ++ "<lambda>", ι⟩ :: Z.lm)).g Y) (lm := Z.lm) (W := VW) (σ := σZ) (fun ι' h' H' g rh m hm => ?_) (fun _ _ _ h => h) pZ
        rcases List.mem_cons.mp hm with rfl | hm
        · exact ⟨g.cd _ _ hc, hp.trans g.pre⟩
        · exact rh.lm m hm
      · obtain ⟨w', H', J', rv, q⟩ := hq
        exact ⟨w', H', J'.os, J'.bare, J'.base, J'.hok, rv, q⟩
    refine wpAny_call (codeAny_mono rc fun r s' hq => ?_)
    cases r with
    | error e => exact gd.tk e s' (XE.of_call I1 (fun cls d H' h => h) hq)
    | ok fl =>
      cases fl with
      | ret u => exact I1.after hq
      | next => exact False.elim hq
      | brk => exact False.elim hq
      | cont => exact False.elim hq

/-! ### the program's own things, with lambdas at hand -/
theorem KdV.w {lm : List Lmd} {kd : Kd} {v : Value} (h : KdV (Z.w lm) kd v) : KdV Z kd v := by
  cases h <;> constructor <;> assumption
theorem TyW.w {lm : List Lmd} {ty : Ty} {v : Value} (h : TyW (Z.w lm) ty v) : TyW Z ty v := by
  cases h <;> constructor <;> assumption
theorem TxW.w {lm : List Lmd} {t : Option Nat} {v : Value} (h : TxW (Z.w lm) t v) : TxW Z t v := by
  cases h <;> constructor <;> assumption
theorem PrOk.w {P : Pr} {T : Tb} {K : PySem.W.Frag} {mg : Str → Option Value} {base : Heap} (o : PrOk P T Z K mg base) (lm : List Lmd) : PrOk P T (Z.w lm) K mg base :=
  ⟨o.glo, o.fn, o.cls, o.met, o.fns, o.ecl, o.xfc, o.exm, fun g fd a h1 h2 => ⟨(o.fnf g fd a h1 h2).ex⟩, o.ini, fun kd ty t u h1 h2 => o.isk kd ty t u h1.w h2.w, o.isc, o.fnk, o.bt, o.cl, o.na, o.rse, o.mke, fun j C t u h1 h2 => o.xis j C t u h1 h2.w, o.xkc⟩
/-- a handed lambda is sound -/
theorem lcl_ok {P : Pr} {T : Tb} (n : Nat) : LclOk P T n := by
  intro Z hok lvn Y VW hY hl gY g x pn pos lp b scope bf h1 h2 h3 h4 h5
  refine ⟨fun pins s σ H Q I hw => ?_⟩
  obtain ⟨ι, en, h, rh, rs, p⟩ := hw
  have ok := hok _ _ _ hY
  obtain ⟨ag, hm, hfa, hk⟩ := ok.fn g x h1
  have p : Post (RD (Z.g Y)) VW (Z.g Y) ι σ H (match P.fns g with
    | some fd => runLc (cg P n) fd (bf en) h
    | none => .bad) Q := p
  cases hf : P.fns g with
  | none => rw [hf] at p; exact p.elim
  | some fd =>
    rw [hf] at p
    have p : Post (RD (Z.g Y)) VW (Z.g Y) ι σ H (runLc (cg P n) fd (bf en) h) Q := p
    unfold runLc at p
    split at p
    case isFalse => exact p.elim
    case isTrue hnp =>
      obtain ⟨c, Pt, hcode, TB, hmT, hu⟩ := hl rfl
      obtain ⟨x', qual, params, body, scope', dvs, fu, N, ps, l, F, S, hN, hps, hch, hlam, hdf, hbd⟩ := (ok.fnf g fd ag hf hfa).ex
      obtain ⟨oc, od, dV, kV, doc, pm, an, cdv, ct, osl, rfl, lk, hcd, _, _⟩ := F.ex
      refine wpAny_Call_Name_kw (ld_glob I h2 hm ?_ h3)
      refine PySem.W.callWith_K (h₀ := Y.base) I.ok.mod.kin hk ?_ (by rfl) (by rfl)
      show wpAny _ _ (spliced ((false, eval (.Lambda ⟨[], [], none, [], [], none, []⟩ b scope lp) Y.env) :: backTo pos (starEach [] Y.env))) _ _ s
      refine Calls.spliced_cons (LamX.lam_make2 I TB hcode hmT hu rh.tabs rfl (h4.has I.ok) fun f c' pm' ctv H1 s' I1 eN T1 hfo hfn hfr hco => ?_)
      refine Calls.spliced_nil ⟨I1.kIn, ?_⟩
      have g1 : Gr ι H ι H1 := Gr.extN eN
      have rhZ : RH (Z.g Y) ι h H1 := rh.extN eN T1
      have rh1 : RH ((Z.w (⟨f, c', Y.env.qual ++ "<lambda>", ι⟩ :: Z.lm)).g Y) ι h H1 := RH.w rhZ fun m hm => by
        rcases List.mem_cons.mp hm with rfl | hm
        · exact ⟨hco, List.prefix_refl _⟩
        · exact rhZ.lm m hm
      have p1 := Post.w (lm := ⟨f, c', Y.env.qual ++ "<lambda>", ι⟩ :: Z.lm) (W' := VW) (σ' := σ) (fun ι' h' H' _ rh' m hm => rh'.lm m (List.mem_cons_of_mem _ hm)) (fun _ _ _ h => h) (p.mono g1)
      obtain ⟨vs, dsv, rv, rdv, bind⟩ := hbd 1 (by omega) (by omega)
      have ev : vs = [] := by
        have := (rdv (Z.g Y) ι H).length
        rw [List.length_drop] at this
        exact List.eq_nil_of_length_eq_zero (by omega)
      subst ev
      cases rv
      have hok' : ∀ K mg base, (Z.w (⟨f, c', Y.env.qual ++ "<lambda>", ι⟩ :: Z.lm)).ok K mg base → PrOk P T (Z.w (⟨f, c', Y.env.qual ++ "<lambda>", ι⟩ :: Z.lm)) K mg base := fun K mg base h => (hok K mg base h).w _
      have L := lvn _ hok' l (cxOf (L2.CX Y.prog Y.w) Y.prog Y.w Y.K Y.mg Y.base N qual scope' ag cdv Y.A Y.stack s' H1 fun cls d H' => VW cls d σ H') hY hlam
      have hNl : 1 ≤ N.length := by
        have := congrArg List.length S.pre
        rw [List.length_take] at this
        omega
      have rsg : RS ((Z.w (⟨f, c', Y.env.qual ++ "<lambda>", ι⟩ :: Z.lm)).g Y) ι H1 (some .thk :: List.replicate (fd.nl - 1) none) (L2.start N [.ref f]) := by
        refine ⟨?_, fun i d e nt => ?_, fun i e => ?_⟩
        · unfold L2.start
          show (List.length ([some (V.ref f)] ++ List.replicate (N.length - 1) none)) = _
          simp only [List.length_append, List.length_replicate, List.length_cons, List.length_nil]
          omega
        · cases i with
          | zero => cases e; exact absurd rfl nt
          | succ i =>
            rw [List.getElem?_cons_succ, List.getElem?_replicate] at e
            split at e <;> cases e
        · cases i with
          | zero => exact ⟨_, rfl, rfl⟩
          | succ i =>
            rw [List.getElem?_cons_succ, List.getElem?_replicate] at e
            split at e <;> cases e
      have rc : codeAny (model Y.prog Y.w) Y.A (.call (.ref ag) ⟨[.ref f], []⟩) (CR (L2.CX Y.prog Y.w) Y.stack Y.prog Y.w H1 s' Q fun cls d H' => VW cls d σ H') s' := by
        refine fn_run lk hcd S (vs := [.ref f]) (by rw [hps, hnp]; rfl) (k := 2 * n + 5) (gY.room.mono (by omega)) I1.env0 (bind s' [.ref f] I1.kIn rfl) (.cons rfl .nil)
          (t := trS (Z.w (⟨f, c', Y.env.qual ++ "<lambda>", ι⟩ :: Z.lm)) (cxOf (L2.CX Y.prog Y.w) Y.prog Y.w Y.K Y.mg Y.base N qual scope' ag cdv Y.A Y.stack s' H1 fun cls d H' => VW cls d σ H') (fun cls d _ H' => VW cls d σ H') (exs { cg P n with tk := bf en } fd.body)) ?_ ⟨ι, _, h, rh1, rsg, ?_⟩
        · refine sSs fd.body (c := { cg P n with tk := bf en }) (k := 2 * n + 4) ⟨⟨⟨L.glo, L.fn, L.cls, L.met, L.cal, L.mak, L.fns, L.ecl, L.xfc, L.exm, L.isk, L.isc, L.fnk, L.ok, L.lam, L.lcl, L.mke, L.xis, L.xkc⟩, L.lower⟩, fun pn xe VW' gd i a p1 p2 pos e1 e2 e3 => ⟨fun pins2 s2 σ2 H2 Dn I2 hw => ?_⟩, L.rse⟩
            ⟨⟨S.nd, takes_of rfl rfl rfl rfl, rfl, (gY.room.mono (by omega : 2 * n + 5 ≤ 2 * (n + 1) + 4)).deeper _, gY.gd, ok.bt, ok.cl, ok.na⟩, passes_of rfl, fun _ => rfl, rfl, rfl⟩ hch
          obtain ⟨ι2, en2, h2', rh2, rs2, pp⟩ := hw
          have pp := PostS.onE (RD ((Z.w (⟨f, c', Y.env.qual ++ "<lambda>", ι⟩ :: Z.lm)).g Y)) rs2 pp
          have ap := act_pe (k := 2 * n + 2) (p1 := p1) (p2 := p2) (cc := { cg P n with tk := bf en }) I1 h4 hfo hfn hfr (rs.mono g1) gd.toGood rfl h5 gY.nd e1 e2 e3
          exact (ps_expr (pos := pos) ap).run pins2 s2 σ2 H2 Dn I2 ⟨ι2, en2, h2', rh2, rs2, pp.imp fun v H3 ⟨ι3, d3, h3', g3, rh3, rd3, p3⟩ => p3 ι3 σ2 H3 (Gr.refl _ _) rh3 ((rs2.mono g3))⟩
        · cases hr : exs { cg P n with tk := bf en } fd.body (some .thk :: List.replicate (fd.nl - 1) none) h with
          | nx e1 h1 => rw [hr] at p1; exact fun ι' σ' H' g rh _ => p1 ι' H' .non g rh .non
          | rt d h1 => rw [hr] at p1; exact fun ι' H' v g rh rd => p1 ι' H' v g rh rd
          | exc k fs e1 h1 => rw [hr] at p1; exact fun ι' σ' H' Ca d g rh _ ec rx => p1 ι' H' Ca d g rh ec rx
          | bk _ _ => rw [hr] at p1; exact p1.elim
          | ct _ _ => rw [hr] at p1; exact p1.elim
          | bad => rw [hr] at p1; exact p1.elim
      refine wpAny_call (codeAny_mono rc fun r s2 hq => ?_)
      cases r with
      | error e => exact gY.tk e s2 (XE.of_call I1 (fun cls d H' h => h) hq)
      | ok fl =>
        cases fl with
        | ret u => exact I1.after hq
        | next => exact False.elim hq
        | brk => exact False.elim hq
        | cont => exact False.elim hq
end
end MP
namespace MP
/-- the knot: n levels of calls -/
theorem lv_all {P : Pr} {T : Tb} (n : Nat) (Z : Wd) (hok : ∀ K mg base, Z.ok K mg base → PrOk P T Z K mg base) (l : Bool) (X : L2.Cx) (hX : Z.ok X.K X.mg X.base) (hl : LamF (T.l l) Z X) : LvS (T.l l) Z (cg P n) (2 * n + 4) X := lv_of lcl_ok n Z hok l X hX hl
end MP
namespace MP
open PySem PySem.Spec PyProof.Rows L2
/-! ### errors that are raised -/
def chIn (N : List Str) (sc : Scope) : List Str → Nat → List Stmt → Bool
  | [], _, [] => true
  | f :: fs, i, .Assign [.Attribute (.Name s _) f' _] (.Name p _) _ :: l => decide (f = f') && decide (N[0]? = some s) && visB sc s && !dbg s && decide (N[i]? = some p) && visB sc p && !dbg p && chIn N sc fs (i + 1) l
  | _, _, _ => false
def tIn (K : PySem.W.Frag) : List Str → Nat → TS
  | [], _ => tNext
  | f :: fs, i => tSeq (tOst K f (tVar 0) (tVar i)) (tIn K fs (i + 1))
theorem in_pss {X : Cx} : ∀ {fs : List Str} {i : Nat} {l : List Stmt}, chIn X.N X.env.scope fs i l = true → PSs X l (tIn X.K fs i)
  | [], i, l, h => by
    cases l with
    | nil => exact pss_nil
    | cons _ _ => exact absurd h Bool.false_ne_true
  | f :: fs, i, l, h => by
    unfold chIn at h
    split at h
    · rename_i e; cases e
    · rename_i f1 fs1 i1 s1 ps1 f2 pf p1 pp pos l1 e
      cases e
      obtain ⟨h, h8⟩ := and2 h
      obtain ⟨h, h7⟩ := and2 h
      obtain ⟨h, h6⟩ := and2 h
      obtain ⟨h, h5⟩ := and2 h
      obtain ⟨h, h4⟩ := and2 h
      obtain ⟨h, h3⟩ := and2 h
      obtain ⟨h1, h2⟩ := and2 h
      have h1 := of_decide_eq_true h1
      subst h1
      have h4 := Bool.not_eq_true' _ |>.mp h4
      have h7 := Bool.not_eq_true' _ |>.mp h7
      unfold dbg at h4 h7
      simp only [Bool.or_eq_false_iff] at h4 h7
      exact pss_cons (ps_ost (pe_var (of_decide_eq_true h2) (vis_of h3) h4.1.1 h4.1.2) (pe_var (of_decide_eq_true h5) (vis_of h6) h7.1.1 h7.1.2) rfl) (in_pss h8)
    · cases h
theorem upd_self {H : Hp} {a : Addr} {o : HO} (e : H a = some o) : upd H a o = H := by
  funext b
  unfold upd
  split
  · rename_i h; rw [h, e]
  · rfl
theorem upd_comm {H : Hp} {a b : Addr} {o u : HO} (n : a ≠ b) : upd (upd H a o) b u = upd (upd H b u) a o := by
  funext c
  unfold upd
  by_cases h1 : c = a
  · subst h1
    simp [n]
  · by_cases h2 : c = b
    · subst h2
      simp [h1]
    · simp [h1, h2]
theorem in_rest {K : PySem.W.Frag} {a C dx : Addr} {σ : L2.St} {Dn : Ends} (T : OexC K C) (ne : dx ≠ a) (h0 : σ[0]? = some (some (.ref a))) : ∀ {fs : List Str} {ys : List V} {i : Nat} {done : List (Str × V)} {H : Hp}, (∀ f ∈ fs, PySem.W.findIn K (.ref C) f = some none) → H a = some (exo a C (some dx)) → H dx = some (exd dx done) →
    done.length + fs.length ≤ 900 → ys.length = fs.length → (∀ j y, ys[j]? = some y → σ[i + j]? = some (some y)) → Dn.nx σ (upd H dx (exd dx ((fs.zip ys).reverse ++ done))) → tIn K fs i Dn σ H
  | [], ys, i, done, H, hf, ha, hd, hz, hl, hy, q => by
    have e : (([] : List Str).zip ys).reverse ++ done = done := by simp
    rw [e, upd_self hd] at q
    exact q
  | f :: fs, [], i, done, H, hf, ha, hd, hz, hl, hy, q => by simp at hl
  | f :: fs, y :: ys, i, done, H, hf, ha, hd, hz, hl, hy, q => by
    simp only [List.length_cons] at hz hl
    refine ⟨y, by simpa using hy 0 y rfl, .ref a, h0, a, C, rfl, T, hf f List.mem_cons_self, .inr ⟨dx, done, ha, hd, by omega, ?_⟩⟩
    refine in_rest (fs := fs) (ys := ys) T ne h0 (fun g hg => hf g (List.mem_cons_of_mem _ hg)) (done := (f, y) :: done) (by rw [upd_ne ne.symm]; exact ha) upd_same (by simp only [List.length_cons]; omega) (by omega) (fun j z hj => ?_) ?_
    · have := hy (j + 1) z (by simpa using hj)
      rw [show i + 1 + j = i + (j + 1) by omega]
      exact this
    · rw [upd_upd]
      have e : (((f :: fs).zip (y :: ys)).reverse ++ done) = ((fs.zip ys).reverse ++ (f, y) :: done) := by simp
      rw [e] at q
      exact q
/-- what a class's __init__ promises -/
def spIn (C : Addr) (fs : List Str) : Sp := fun vs H Q _ => ∃ a ys, vs = .ref a :: ys ∧ ys.length = fs.length ∧ H a = some (exo a C none) ∧ ∀ dx, H dx = none → dx ≠ a → Q .non (upd (upd H dx (exd dx (fs.zip ys).reverse)) a (exo a C (some dx)))
/-- what the text says of a class of errors -/
structure ErF (K : PySem.W.Frag) (C : Addr) (fs : List Str) : Prop where
  oc : OexC K C
  ne : fs ≠ []
  few : fs.length ≤ 100
  no : ∀ f ∈ fs, PySem.W.findIn K (.ref C) f = some none
  ex : ∃ (fI : Addr) (x qual : Str) (params : Arguments) (body : List Stmt) (scope : Scope) (fu : FuncData) (N ps : List Str), PySem.W.findIn K (.ref C) "__init__" = some (some (.ref fI)) ∧ PySem.W.typeIn K (.ref fI) = some (.type "function") ∧
    FunD K x qual params body scope [] [] fI fu ∧ FnScope N ps scope ∧ ps.length = fs.length + 1 ∧ chIn N scope fs 1 body = true ∧ Binds K fu ps []
section
variable {P : Program} {w : World} {K : PySem.W.Frag} {mg : Str → Option Value} {base : Heap}
theorem in_ok {C fI : Addr} {fs : List Str} {x qual : Str} {params : Arguments} {body : List Stmt} {scope : Scope} {fu : FuncData} {N ps : List Str} (E : ErF K C fs) (F : FunD K x qual params body scope [] [] fI fu) (S : FnScope N ps scope) (hl : ps.length = fs.length + 1) (hc : chIn N scope fs 1 body = true) :
    FnOk P w K mg base (L2.CX P w) 1 fI fu ps (spIn C fs) := by
  refine F.ok S (fun vs H Q E' h => ?_) fun cdv A outer s H vs Q E' hr h => ⟨tIn K fs 1, in_pss hc, ?_⟩
  · obtain ⟨a, ys, rfl, e, _⟩ := h
    rw [hl, List.length_cons, e]
  · obtain ⟨a, ys, rfl, e, ha, q⟩ := h
    have hN : (V.ref a :: ys).length ≤ N.length := by
      have := congrArg List.length S.pre
      rw [List.length_take] at this
      rw [List.length_cons, e]
      omega
    have hσ : ∀ (j : Nat) (y : V), (V.ref a :: ys)[j]? = some y → (L2.start N (V.ref a :: ys))[j]? = some (some y) := fun j y hj => by
      unfold L2.start
      show (List.map some (V.ref a :: ys) ++ _)[j]? = _
      have hlt : j < (V.ref a :: ys).length := (List.getElem?_eq_some_iff.mp hj).1
      rw [List.getElem?_append_left (by simpa using hlt), List.getElem?_map, hj]
      rfl
    cases fs with
    | nil => exact absurd rfl E.ne
    | cons f fs =>
      cases ys with
      | nil => simp at e
      | cons y ys =>
        refine ⟨y, hσ 1 y rfl, .ref a, hσ 0 _ rfl, a, C, rfl, E.oc, E.no f List.mem_cons_self, .inl ⟨ha, fun dx hd ne => ?_⟩⟩
        have few := E.few
        simp only [List.length_cons] at few e
        refine in_rest (fs := fs) (ys := ys) E.oc ne (hσ 0 _ rfl) (fun g hg => E.no g (List.mem_cons_of_mem _ hg)) (done := [(f, y)]) upd_same (by rw [upd_ne ne]; exact upd_same) (by simp only [List.length_cons, List.length_nil]; omega) (by omega) (fun j z hj => ?_) ?_
        · have := hσ (j + 2) z (by simpa using hj)
          rw [show 1 + 1 + j = j + 2 by omega]
          exact this
        · rw [upd_comm ne.symm, upd_upd]
          have := q dx hd ne
          have e2 : ((f :: fs).zip (y :: ys)).reverse = ((fs.zip ys).reverse ++ [(f, y)]) := by simp
          rw [e2] at this
          exact this
end
section
variable {T : Tb} {Z : Wd} {c : Cg}
theorem zip_rd {G : Gx} {ι : List Addr} {H : Hp} : ∀ {fs : List Str} {ds : List D} {xs : List V}, RDs G ι H ds xs → RFs G ι H (fs.zip ds) (fs.zip xs)
  | [], _, _, _ => by simp; exact .nil
  | f :: fs, _, _, .nil => by simp; exact .nil
  | f :: fs, _, _, .cons r t => .cons r (zip_rd t)
theorem RFs.app {G : Gx} {ι : List Addr} {H : Hp} : ∀ {a b : List (Str × D)} {x y : List (Str × V)}, RFs G ι H a x → RFs G ι H b y → RFs G ι H (a ++ b) (x ++ y)
  | _, _, _, _, .nil, s => s
  | _, _, _, _, .cons r t, s => .cons r (RFs.app t s)
theorem RFs.rev {G : Gx} {ι : List Addr} {H : Hp} : ∀ {a : List (Str × D)} {x : List (Str × V)}, RFs G ι H a x → RFs G ι H a.reverse x.reverse
  | _, _, .nil => .nil
  | _, _, .cons r t => by
    rw [List.reverse_cons, List.reverse_cons]
    exact (RFs.rev t).app (.cons r .nil)
/-- raise C(..) -/
theorem rse_ps {n : Nat} {Y : Cx} {W : WX} (h4 : 4 ≤ n) (g : GoodS Z n Y W) {j : Nat} {x : Str} {l : List Expr} {ss : List Sx} {p pos pos' : Pos} {E : Eri} {C : Addr} (hE : c.ers j = some E) (hC : Z.ea j = some C) (hm : Y.mg x = some (.ref C)) (er : ErF Y.K C E.fields) (hg : Gl Y x) (hd : (x == ("__debug__" : Str)) = false)
    (r : SSs Z Y W ss l) : PS Y (.Raise (some (.Call (.Name x p) l [] pos)) none pos') (trS Z Y W fun e h => onE (seqE ss e h) e fun ds h => rseD c j ds e h) := by
  refine ⟨fun pins s σ H Dn I hw => ?_⟩
  obtain ⟨ι, en, h, rh, rs, pp⟩ := hw
  have pp := PostS.onE (RDs (Z.g Y)) rs pp
  cases r with
  | nil =>
    have q := pp.ok' (ι' := ι) (H' := H) (v := []) (Gr.refl _ _) rh .nil
    obtain ⟨ι1, ds, h1, g1, rh1, rds, p1⟩ := q
    cases rds
    unfold rseD at p1
    rw [hE] at p1
    have : ¬ (([] : List D).length = E.fields.length) := fun z => er.ne (List.length_eq_zero_iff.mp z.symm)
    dsimp only at p1
    rw [if_neg this] at p1
    exact p1.elim
  | @cons s0 e0 ss es hs hn hr =>
    obtain ⟨fI, x', qual, params, body, scope, fu, N, ps, iC, tI, F, S, hl, hch, hb⟩ := er.ex
    have F1 := in_ok (P := Y.prog) (w := Y.w) (mg := Y.mg) (base := Y.base) er F S hl hch
    have mk := pmk_oex (X := Y) (x := x) (p := p) (pos := pos) er.oc iC tI F1 (g.room.mono (by omega)) hb .nil (fun _ _ _ _ _ _ _ ⟨_, _, _, _, _, _, _, _, _, _, _, _, z⟩ => z.elim) hg hm (SSs.cons hs hn hr).pa hd (starEach_cons hn) hr.few
    refine (ps_raise (pos := pos') g.calm g.tk mk).run pins s σ H Dn I ⟨ι, en, h, rh, rs, pp.imp fun xs H1 ⟨ι1, ds, h1, g1, rh1, rds, p1⟩ => ?_⟩
    unfold rseD at p1
    rw [hE] at p1
    dsimp only at p1
    split at p1
    · rename_i hz
      have few := er.few
      refine ⟨by rw [← rds.length, hz]; omega, fun a ha => ⟨a, xs, by simp, by rw [← rds.length, hz], upd_same, fun dx hdx ne => ⟨rfl, dx, (E.fields.zip xs).reverse, upd_same, ?_, ?_, ?_⟩⟩⟩
      · rw [upd_ne ne]; exact upd_same
      · rw [upd_ne ne] at hdx; exact hdx
      · rw [upd_ne ne] at hdx
        have e : upd (del (upd (upd (upd H1 a (exo a C none)) dx (exd dx (E.fields.zip xs).reverse)) a (exo a C (some dx))) a) dx (.xd (E.fields.zip xs).reverse) = upd H1 dx (.xd (E.fields.zip xs).reverse) := by
          funext b
          by_cases h1 : b = dx
          · subst h1
            rw [upd_same, upd_same]
          · rw [upd_ne h1, upd_ne h1]
            by_cases h2 : b = a
            · subst h2
              rw [del_same, ha]
            · rw [del_ne h2, upd_ne h2, upd_ne h1, upd_ne h2]
        rw [e]
        exact p1 ι1 σ _ C (some dx) (Gr.fresh hdx) (rh1.other hdx) ((rs.mono g1).mono (Gr.fresh hdx)) hC ⟨rh1.notin hdx, _, upd_same, (zip_rd rds).rev.mono (Gr.fresh hdx)⟩
    · exact p1.elim
end
end MP
namespace MP
open PySem PySem.Spec PyProof.Rows L2
/-- a class of errors without own __init__ -/
structure Er0 (K : PySem.W.Frag) (C : Addr) : Prop where
  k : PySem.W.keepIn K (.ref C) = true
  exC : PySem.W.subIn K (.ref C) (.type "BaseException") = some true
  tyC : PySem.W.typeIn K (.ref C) = some (.type "type")
  ex : ∃ (B newId initId : String) (bmB : List Value), ExcBaseFacts B newId initId bmB ∧ PySem.W.excIn K C bmB newId = true
section
variable {T : Tb} {Z : Wd} {c : Cg}
theorem seqE_length : ∀ {ss : List Sx} {e : En} {h h1 : AH} {ds : List D}, seqE ss e h = .ok ds h1 → ds.length = ss.length
  | [], e, h, h1, ds, q => by cases q; rfl
  | s :: ss, e, h, h1, ds, q => by
    unfold seqE at q
    cases ha : s.v e h with
    | ok x h2 =>
      rw [ha] at q
      have q : ((seqE ss e h2).bind fun xs h => Res.ok (x :: xs) h) = .ok ds h1 := q
      cases hb : seqE ss e h2 with
      | ok xs h3 =>
        rw [hb] at q
        cases q
        rw [List.length_cons, List.length_cons, seqE_length hb]
      | exc _ _ _ => rw [hb] at q; cases q
      | bad => rw [hb] at q; cases q
    | exc _ _ _ => rw [ha] at q; cases q
    | bad => rw [ha] at q; cases q
theorem seqE_keep {β : Type} {ss : List Sx} {e : En} {h : AH} {f : List D → AH → Res β} : (seqE ss e h).bind f = (seqE ss e h).bind fun ds h => if ds.length = ss.length then f ds h else .bad := by
  cases ha : seqE ss e h with
  | ok ds h1 =>
    show f ds h1 = if ds.length = ss.length then f ds h1 else .bad
    rw [if_pos (seqE_length ha)]
  | _ => rfl
/-- C(..) as a value -/
theorem mke_pe {n : Nat} {Y : Cx} {W : WX} (h4 : 4 ≤ n) (g : Good Z n Y W) {j : Nat} {x : Str} {l : List Expr} {ss : List Sx} {p pos : Pos} {E : Eri} {C : Addr} (hE : c.ers j = some E) (hC : Z.ea j = some C) (hm : Y.mg x = some (.ref C))
    (er : ErF Y.K C E.fields ∨ (E.fields = [] ∧ Er0 Y.K C)) (hg : Gl Y x) (hd : (x == ("__debug__" : Str)) = false) (r : SSs Z Y W ss l) : PE Y (.Call (.Name x p) l [] pos) (trD Z Y W fun e h => (seqE ss e h).bind fun ds h => mkeD c j ds h) := by
  refine ⟨fun pins s σ H Q I hw => ?_⟩
  obtain ⟨ι, en, h, rh, rs, pp⟩ := hw
  cases r with
  | nil =>
    have pp : Post (RD (Z.g Y)) W (Z.g Y) ι σ H (mkeD c j [] h) Q := pp
    unfold mkeD at pp
    rw [hE] at pp
    dsimp only at pp
    split at pp
    · rename_i hz
      rcases er with er | ⟨ef, er⟩
      · exact absurd (List.length_eq_zero_iff.mp hz.symm) er.ne
      · obtain ⟨B, newId, initId, bmB, F, q⟩ := er.ex
        refine wpAny_Call_Name_kw (ld_glob I hg hm ?_ hd)
        refine PySem.W.callWith_K0 I.kIn er.k ?_
        show wpAny _ _ (call (.ref C) []) _ _ _
        obtain ⟨hp, gs, dr, tk, os⟩ := s
        obtain ⟨bm, N, nm, qn, bs, hdct, sn, sub, ab, col, dd, k0, k1, k2, k3, k5, mN, hCo, hN, hni, Tl⟩ := exc_obj I.kIn q
        refine wpAny_call_exc_subT F Tl hCo hN hni (fun h' e hmd => ?_) (Nat.zero_le _)
        obtain ⟨t, ht, _, _⟩ := hmd.there
        have hn : H e = none := I.hok.gone hmd.new
        have I2 : Inv Y pins σ (upd H e (exo e C none)) ⟨h', gs, dr, tk, os⟩ := I.laidN hmd.keeps hmd.new hn (exo_ok ht)
        refine ⟨.ref e, _, I2, rfl, ?_⟩
        have ex : (E.fields.zip ([] : List D)).reverse = [] := by simp
        rw [ex] at pp
        exact pp.ok' (Gr.push hn) (rh.push hn (.xin hC upd_same .no) (fun ps z => exo_tbl z)) (.ref rh.new)
    · exact pp.elim
  | @cons s0 e0 ss es hs hn hr =>
    rcases er with er | ⟨ef, er⟩
    · obtain ⟨fI, x', qual, params, body, scope, fu, N, ps, iC, tI, F, S, hl, hch, hb⟩ := er.ex
      have F1 := in_ok (P := Y.prog) (w := Y.w) (mg := Y.mg) (base := Y.base) er F S hl hch
      obtain ⟨nm, q, Nn, bs, bm, sn, sub, ab, col, dd, k0, k1, k2, k3, k5, hCo, hbm⟩ := er.oc.cls
      refine wpAny_Call_Name_kw (ld_glob I hg hm ?_ hd)
      refine PySem.W.callWith_K (h₀ := Y.base) I.ok.mod.kin er.oc.kC (thn ((SSs.cons hs hn hr).bind (pos := pos) I rh rs pp) fun us s1 ⟨ι1, H1, h1, ds, xs, I1, rh1, rs1, rxs, rds, g1, p1⟩ => ⟨I1.kIn, ?_⟩) (starEach_cons hn) hr.few
      show wpAny _ _ (call (.ref C) us) _ _ _
      unfold mkeD at p1
      rw [hE] at p1
      dsimp only at p1
      split at p1
      · rename_i hz
        have few := er.few
        obtain ⟨hp, gs, dr, tk, os⟩ := s1
        have hsz : hp.objs.size ≤ hp.objs.size + 1 := Nat.le_succ _
        have hna : H1 (hp.objs.size + 1) = none := I1.hok.fresh hsz
        have kk : ∀ b o, hp.get? b = some o → ((hp.push (PySem.W.kdv_tup us)).push (PySem.HandSPX.excO C hp.objs.size)).get? b = some o := fun b o e => Heap.get?_push_of_some _ (Heap.get?_push_of_some _ e)
        have hget : ((hp.push (PySem.W.kdv_tup us)).push (PySem.HandSPX.excO C hp.objs.size)).get? (hp.objs.size + 1) = some (PySem.HandSPX.excO C hp.objs.size) := by heap_get
        have I2 : Inv Y pins σ (upd H1 (hp.objs.size + 1) (exo (hp.objs.size + 1) C none)) ⟨(hp.push (PySem.W.kdv_tup us)).push (PySem.HandSPX.excO C hp.objs.size), gs, dr, tk, os⟩ :=
          I1.laid (t' := tk) (a := hp.objs.size + 1) (o := exo (hp.objs.size + 1) C none) (h' := (hp.push (PySem.W.kdv_tup us)).push (PySem.HandSPX.excO C hp.objs.size)) kk hsz (exo_ok hget)
        have r2 : Vals (V.ref (hp.objs.size + 1) :: xs) (Value.ref (hp.objs.size + 1) :: us) := .cons rfl rxs
        have hlen : (Value.ref (hp.objs.size + 1) :: us).length = ps.length := by
          rw [List.length_cons, ← rxs.length, ← rds.length, hz, hl]
        have hus : us.length ≤ sizeLine := by
          rw [← rxs.length, ← rds.length, hz, sizeLine_eq]
          omega
        have hbb := hb _ (Value.ref (hp.objs.size + 1) :: us) I2.kIn (by rw [List.append_nil]; exact hlen)
        rw [List.append_nil] at hbb
        refine wpAny_call (PySem.HandSPX.call_own PySem.F.excBase_ValueError (fun Y => PySem.HandSPX.refsVE_contains Y bm hbm) (I1.kIn _ _ hCo) (PySem.W.looks_findIn I1.kIn iC) (fun self => PySem.W.bind_fn I1.kIn self tI) hus
          (codeAny_mono (F1.run _ Y.stack _ _ ⟨Value.ref (hp.objs.size + 1) :: us, []⟩ (Value.ref (hp.objs.size + 1) :: us) _ (fun v H3 => v = .non ∧ Q (.ref (hp.objs.size + 1)) H3) (fun _ _ _ => False) ((g.room.mono (by omega : 1 + 1 ≤ n)).make C us []) (I2.env0.make C us []) hbb r2 ?_) fun r s' hq' => ?_))
        · refine ⟨hp.objs.size + 1, xs, rfl, by rw [← rds.length, hz], upd_same, fun dx hdx ne => ⟨rfl, ?_⟩⟩
          have hdx1 : H1 dx = none := by rw [upd_ne ne] at hdx; exact hdx
          rw [upd_comm (fun z => ne z.symm), upd_upd]
          have n2 : (upd H1 dx (exd dx (E.fields.zip xs).reverse)) (hp.objs.size + 1) = none := by rw [upd_ne (fun z => ne z.symm)]; exact hna
          have rh2 := rh1.other hdx1 (o := exd dx (E.fields.zip xs).reverse) (fun ps z => by have z' : HO.ext _ = HO.tbl ps := z; cases z')
          refine p1.ok' ((Gr.fresh hdx1).trans (Gr.push n2)) (rh2.push n2 (.xin hC upd_same (.yes (fun z => ?_) (by rw [upd_ne ne]; exact upd_same) (((zip_rd rds).rev.mono (Gr.fresh hdx1)).mono (Gr.push n2)))) (fun ps z => exo_tbl z)) (.ref rh2.new)
          rcases List.mem_append.mp z with z | z
          · exact rh1.notin hdx1 z
          · exact ne (by simpa using z)
        · cases r with
          | error er => exact (hq'.elim fun a ⟨_, _, _, _, _, _, _, _, _, _, _, z⟩ => z.elim)
          | ok fl =>
            cases fl with
            | ret u =>
              obtain ⟨v, H3, I3, rv, e3, q3⟩ := I2.after hq'
              subst e3
              exact ⟨rv, ⟨.ref (hp.objs.size + 1), H3, I3, rfl, q3⟩⟩
            | next => exact False.elim hq'
            | brk => exact False.elim hq'
            | cont => exact False.elim hq'
      · exact p1.elim
    · have pp : Post (RD (Z.g Y)) W (Z.g Y) ι σ H ((seqE (s0 :: ss) en h).bind fun ds h => mkeD c j ds h) Q := pp
      rw [seqE_keep] at pp
      refine wpAny_Call_Name_kw (ld_glob I hg hm ?_ hd)
      refine PySem.W.callWith_K (h₀ := Y.base) I.ok.mod.kin er.k (thn ((SSs.cons hs hn hr).bind (pos := pos) I rh rs pp) fun us s1 ⟨ι1, H1, h1, ds, xs, I1, rh1, rs1, rxs, rds, g1, p1⟩ => ⟨I1.kIn, ?_⟩) (starEach_cons hn) hr.few
      split at p1
      · rename_i hz
        unfold mkeD at p1
        rw [hE] at p1
        dsimp only at p1
        rw [ef, hz] at p1
        exact p1.elim
      · exact p1.elim
theorem onE_keep {ss : List Sx} {e : En} {h : AH} {f : List D → AH → SR} : onE (seqE ss e h) e f = onE (seqE ss e h) e fun ds h => if ds.length = ss.length then f ds h else .bad := by
  cases ha : seqE ss e h with
  | ok ds h1 =>
    show f ds h1 = if ds.length = ss.length then f ds h1 else .bad
    rw [if_pos (seqE_length ha)]
  | _ => rfl
/-- C(), C without own __init__ -/
theorem pmk0 {X : Cx} {x : Str} {p pos : Pos} {C : Addr} (er : Er0 X.K C) (hm : X.mg x = some (.ref C)) (hg : Gl X x) (hd : (x == ("__debug__" : Str)) = false) : PMk X (.Call (.Name x p) [] [] pos) (fun _ H Q => Q (.ref C) none H) := by
  intro pins s σ H Q I h
  obtain ⟨B, newId, initId, bmB, F, q⟩ := er.ex
  refine wpAny_Call_Name_kw (ld_glob I hg hm ?_ hd)
  refine PySem.W.callWith_K0 I.kIn er.k ?_
  show wpAny _ _ (call (.ref C) []) _ _ _
  obtain ⟨bm, N, nm, qn, bs, hdct, sn, sub, ab, col, dd, k0, k1, k2, k3, k5, mN, hCo, hN, hni, Tl⟩ := exc_obj I.kIn q
  exact wpAny_call_exc_subT F Tl hCo hN hni (fun h' e hmd => mk_of I hmd (raises_own er.exC er.tyC) h (I.hok.gone hmd.new)) (Nat.zero_le _)
/-- raise C(), C without own __init__ -/
theorem rse0_ps {n : Nat} {Y : Cx} {W : WX} (h4 : 4 ≤ n) (g : GoodS Z n Y W) {j : Nat} {x : Str} {l : List Expr} {ss : List Sx} {p pos pos' : Pos} {E : Eri} {C : Addr} (hE : c.ers j = some E) (hC : Z.ea j = some C) (hm : Y.mg x = some (.ref C)) (e0 : E.fields = []) (er : Er0 Y.K C) (hg : Gl Y x) (hd : (x == ("__debug__" : Str)) = false)
    (r : SSs Z Y W ss l) : PS Y (.Raise (some (.Call (.Name x p) l [] pos)) none pos') (trS Z Y W fun e h => onE (seqE ss e h) e fun ds h => rseD c j ds e h) := by
  refine ⟨fun pins s σ H Dn I hw => ?_⟩
  obtain ⟨ι, en, h, rh, rs, pp⟩ := hw
  have pp : PostS W (Z.g Y) ι H (onE (seqE ss en h) en fun ds h => rseD c j ds en h) Dn := pp
  rw [onE_keep] at pp
  cases r with
  | nil =>
    have pp : PostS W (Z.g Y) ι H (rseD c j [] en h) Dn := pp
    unfold rseD at pp
    rw [hE] at pp
    dsimp only at pp
    rw [e0] at pp
    exact (ps_raise (pos := pos') g.calm g.tk (pmk0 (p := p) (pos := pos) er hm hg hd)).run pins s σ H Dn I (pp ι σ H C none (Gr.refl _ _) rh rs hC rfl)
  | @cons s0 ex0 ss es hs hn hr =>
    obtain ⟨B, newId, initId, bmB, F, q⟩ := er.ex
    have pp := PostS.onE (RDs (Z.g Y)) rs pp
    refine (ps_raise (pos := pos') g.calm g.tk (pmk_ownA (x := x) (p := p) (pos := pos) F q hm er.k (raises_own er.exC er.tyC) hg (SSs.cons hs hn hr).pa hd (starEach_cons hn) hr.few)).run pins s σ H Dn I ⟨ι, en, h, rh, rs, pp.imp fun xs H1 ⟨ι1, ds, h1, g1, rh1, rds, p1⟩ => ?_⟩
    split at p1
    · rename_i hz
      unfold rseD at p1
      rw [hE] at p1
      dsimp only at p1
      rw [e0, hz] at p1
      exact p1.elim
    · exact p1.elim
end
end MP
namespace MP
open PySem PySem.Spec PyProof.Rows L2

/-! ### the end of a law, its caller's guards being known -/
/-- the script alone is tracked -/
def onlyAt (a : Addr) (o : Obj) (ns : List Int) : Hp := fun b => if b = a then some (.frz o (.lst (ns.map V.int))) else none
theorem onlyAt_self {a : Addr} {o : Obj} {ns : List Int} : onlyAt a o ns a = some (.frz o (.lst (ns.map V.int))) := if_pos rfl
theorem onlyAt_ne {a b : Addr} {o : Obj} {ns : List Int} (h : b ≠ a) : onlyAt a o ns b = none := if_neg h
theorem onlyAt_some {a b : Addr} {o : Obj} {ns : List Int} {u : HO} (h : onlyAt a o ns b = some u) : b = a := by
  by_cases e : b = a
  · exact e
  · rw [onlyAt_ne e] at h
    cases h
/-- no lists among the written part's objects -/
def NoL (K : PySem.W.Frag) : Prop := ∀ a o, K.lookup a = some o → o.cls ≠ .type "list"
/-- what is to be shown of the law's def, at its one call -/
def Runs (P : Program) (w : World) (K : PySem.W.Frag) (mg : Str → Option Value) (fa : Addr) (n : Nat) : Prop :=
  ∀ (base : Heap) (s : Shared) (a : Addr) (o : Obj) (ns : List Int), ns.length ≤ n → K.In base → base.Ns mainGlobals mg → Env0 P w K mg base callerA [] s (onlyAt a o ns) →
    codeAny (model P w) callerA (.call (.ref fa) ⟨[.ref a], []⟩) (CR (L2.CX P w) [] P w (onlyAt a o ns) s (fun v _ => v = .bl true) fun _ _ _ => False) s
section
variable {P : Program} {w : World} {K : PySem.W.Frag} {mg mb : Str → Option Value} {fa a : Addr} {s : Shared} {vs : List Value} {ns : List Int} {n : Nat}
theorem env_call (kin : K.In s.heap) (nl : NoL K) (glob : s.heap.Ns mainGlobals mg) (blt : s.heap.Ns builtinsNs mb) (same : ∀ x : Str, x ≠ "__name__" → mb x = bootBuiltins x) (free : s.heap.NoLimit) (gens : s.gens = #[])
    (scr : s.heap.get? a = some { cls := .type "list", data := .seq vs.toArray }) (hints : IntsAre vs ns) (few : ns.length ≤ sizeLine) :
    ∃ base : Heap, K.In base ∧ base.Ns mainGlobals mg ∧ Env0 P w K mg base callerA [] s (onlyAt a { cls := .type "list", data := .seq vs.toArray } ns) := by
  obtain ⟨sc, hsc⟩ : ∃ sc : Obj, sc = ({ cls := .type "list", data := .seq vs.toArray } : Obj) := ⟨_, rfl⟩
  rw [← hsc] at scr ⊢
  have cov : ∀ {b : Addr} {u : Obj}, s.heap.get? b = some u → b ≠ a → (hidT s.heap (onlyAt a sc ns)).get? b = some u := fun g d => hidT_get g (onlyAt_ne d)
  have dic : ∀ {b : Addr} {u : Obj} {es : Array DictEntry} {ep : Nat}, s.heap.get? b = some u → u.data = .dict es ep → b ≠ a := fun {b u es ep} g d z => by
    rw [z, scr, hsc] at g
    cases g
    cases d
  have spc : ∀ {b : Addr} {m : Str → Option Value}, s.heap.Ns b m → (hidT s.heap (onlyAt a sc ns)).Ns b m := fun {b m} z => by
    obtain ⟨u, es, ep, g, d, r⟩ := z
    exact ⟨u, es, ep, cov g (dic g d), d, r⟩
  have kb : K.In (hidT s.heap (onlyAt a sc ns)) := fun b u g => cov (kin b u g) fun z => by
    have g2 := kin b u g
    rw [z, scr, hsc] at g2
    cases g2
    exact nl b _ g rfl
  have ok : HOk P w (onlyAt a sc ns) s.heap := fun b u g => by
    have eb := onlyAt_some g
    subst eb
    rw [onlyAt_self] at g
    cases g
    refine ⟨scr, ?_⟩
    rw [hsc] at scr
    exact ⟨by rw [List.length_map]; exact few, vs, _, vals_ints hints, scr⟩
  obtain ⟨mc, l1, l2⟩ := free
  exact ⟨_, kb, spc glob, rfl, ⟨kb, spc glob, ⟨mb, spc blt, same⟩, ⟨mc, spc l1, l2⟩⟩, fun b u g => of_hidT g, Nat.le_of_eq (hidT_size _ _), trivial, (fun b z => absurd z (by simp [frs])), ok, .of_eq gens⟩
theorem end_call (kin : K.In s.heap) (nl : NoL K) (glob : s.heap.Ns mainGlobals mg) (blt : s.heap.Ns builtinsNs mb) (same : ∀ x : Str, x ≠ "__name__" → mb x = bootBuiltins x) (free : s.heap.NoLimit) (gens : s.gens = #[])
    (scr : s.heap.get? a = some { cls := .type "list", data := .seq vs.toArray }) (hints : IntsAre vs ns) (hn : ns.length ≤ n) (few : n ≤ sizeLine) (R : Runs P w K mg fa n) :
    codeAny (model P w) callerA (.call (.ref fa) ⟨[.ref a], []⟩) (fun r t => r = .ok (.ret (.bool true)) ∧ OldK s.heap t.heap ∧ t.os = s.os ∧ AllBare t.gens) s := by
  obtain ⟨base, kb, gb, e0⟩ := env_call (P := P) (w := w) kin nl glob blt same free gens scr hints (Nat.le_trans hn few)
  refine codeAny_mono (R base s a _ ns hn kb gb e0) fun r t q => ?_
  match r, q with
  | .error e, q => exact (q.elim fun _ ⟨_, _, _, _, _, _, _, _, _, _, _, z⟩ => z.elim)
  | .ok .next, q => exact q.elim
  | .ok .brk, q => exact q.elim
  | .ok .cont, q => exact q.elim
  | .ok (.ret u), q =>
    obtain ⟨v, H2, os2, bare2, un2, ok2, ru, ev⟩ := q
    have ev : v = .bl true := ev
    subst ev
    obtain rfl : u = Value.bool true := ru
    refine ⟨rfl, OldK.of_keep fun b u g => ?_, os2, bare2⟩
    by_cases eb : b = a
    · subst eb
      have z := un2.frzs b _ _ onlyAt_self
      have g2 := (ok2 b _ z).1
      rw [scr] at g
      cases g
      exact g2
    · exact un2.keep b u g (onlyAt_ne eb) (fun z => by cases z) (fun z => by cases z)
end
/-- the law, from the head's facts -/
theorem end_walk {l : PySem.W.OpenLaw} {n : Nat} {q : Program} {loose : List Str} {XP : (Str → Option Value) → Heap → Prop} {YP : World → Heap → Prop} {d : DefRec} (hn : l.most = some n) (few : n ≤ sizeLine) (hdf : d.params.defaults = [])
    (F : ∀ (w : World) (mg : Str → Option Value) (fa : Addr) (h : Heap), YP w h → h.Ns mainGlobals mg → mg d.name = some (.ref fa) → ∃ K : PySem.W.Frag, K.In h ∧ NoL K ∧ Runs l.prog w K mg fa n) :
    PySem.W.WalkO q loose XP YP l.row.toRowW d [] (fun f vs => PySem.call f vs) :=
  Att.attach_call hn hdf fun w s0 s1 mg mb fa o pm cd doc a vs ns G Y ho hd hcd hmg hobj hints hlen hg => by
    obtain ⟨K, kin, nl, R⟩ := F w mg fa _ Y G.T.g hmg
    exact end_call kin nl G.T.g G.T.b G.T.builtins G.T.nolimit hg hobj hints hlen few R

/-! ### the head's hook: the written part without its lists -/
def asL (g : Addr → Option Obj) (n : Nat) : List Addr := (He.asD g n).filter fun a => match g a with
  | some o => decide (o.cls ≠ .type "list")
  | none => false
theorem frG_mem {g : Addr → Option Obj} {a : Addr} {o : Obj} : ∀ {as : List Addr}, (He.frG g as).lookup a = some o → a ∈ as
  | [], e => by cases e
  | b :: r, e => by
    unfold He.frG at e
    rw [List.filterMap_cons] at e
    cases hb : g b with
    | none =>
      rw [hb] at e
      exact List.mem_cons_of_mem _ (frG_mem (as := r) e)
    | some u =>
      rw [hb] at e
      have e : List.lookup a ((b, u) :: He.frG g r) = some o := e
      rw [List.lookup_cons] at e
      cases hq : a == b with
      | true =>
        rw [beq_iff_eq.mp hq]
        exact List.mem_cons_self
      | false =>
        rw [hq] at e
        exact List.mem_cons_of_mem _ (frG_mem (as := r) e)
theorem noL_as {g : Addr → Option Obj} {n : Nat} : NoL (He.frG g (asL g n)) := fun a o e => by
  have h1 := He.frG_at _ e
  have h2 := (List.mem_filter.mp (frG_mem e)).2
  rw [h1] at h2
  exact of_decide_eq_true h2
abbrev AlM : Type := Bool × List He.FnW
def obsM (ok : PySem.W.Frag → Bool) (fn : List He.DefD) (K : PySem.W.Frag) : AlM := (ok K && fn.all fun d => d.ok K, fn.map fun d => He.fnW K d.at_)
def valM (fn : List He.DefD) : AlM := (true, fn.map He.DefD.val)
def SaysM (ok : PySem.W.Frag → Bool) (fn : List He.DefD) (K : PySem.W.Frag) : Prop := obsM ok fn K = valM fn
def obsMG (n : Nat) (ok : PySem.W.Frag → Bool) (fn : List He.DefD) (g : Addr → Option Obj) : AlM := obsM ok fn (He.frG g (asL g n))
def hookM (n : Nat) (ok : PySem.W.Frag → Bool) (fn : List He.DefD) : PySem.W.Hook where
  α := AlM
  obs := fun s => obsMG n ok fn s.heap.get?
  val := fun _ => valM fn
  says := fun _ h => ∃ K : PySem.W.Frag, K.In h ∧ NoL K ∧ SaysM ok fn K
  of := fun _ _ e => ⟨_, He.frG_in, noL_as, e⟩
  keeps := fun _ _ _ ⟨K, hK, hL, c⟩ k => ⟨K, PySem.W.Frag.In.keeps hK k, hL, c⟩
theorem obsMG_eq {n : Nat} {ok : PySem.W.Frag → Bool} {fn : List He.DefD} {g : Addr → Option Obj} {s : Shared} (h : ∀ a, g a = s.heap.get? a) : obsMG n ok fn g = (hookM n ok fn).obs s := by
  have e : g = s.heap.get? := funext h
  rw [e] <;> rfl
section
variable {okb : PySem.W.Frag → Bool} {fn : List He.DefD} {K : PySem.W.Frag}
theorem SaysM.ok (c : SaysM okb fn K) : okb K = true := (and2 (show (okb K && fn.all fun d => d.ok K) = true from congrArg (fun z : AlM => z.1) c)).1
theorem SaysM.def_ (c : SaysM okb fn K) {i : Nat} {d : He.DefD} (h : fn[i]? = some d) : ∃ fd, FunD K d.name d.qual d.params d.body d.scope (d.dvs K) (d.kws K) (He.fAd K d.at_) fd := by
  have c2 := (and2 (show (okb K && fn.all fun d => d.ok K) = true from congrArg (fun z : AlM => z.1) c)).2
  have e : (fn.map fun d => He.fnW K d.at_)[i]? = (fn.map He.DefD.val)[i]? := congrArg (fun z : AlM => z.2[i]?) c
  rw [List.getElem?_map, List.getElem?_map, h] at e
  exact He.DefD.funD (Option.some.inj e) (List.all_eq_true.mp c2 d (List.mem_of_getElem? h))
end
end MP
namespace MP
open PySem PySem.Spec PyProof.Rows L2

/-! ### a program, as data -/
structure Dx where
  defs : List He.DefD
  fds : List Fd
  npl : Nat
  cs : List Str
  clis : List Cli
  inis : List (Option Nat)
  er : List Str
  eris : List Eri
  glos : List (Str × D)
  fns : List Str
  efs : List Str
  loop : Nat
  lam : Bool
  mkx : Bool
def Dx.P (d : Dx) : Pr := ⟨fun g => d.fds[g]?, fun k => d.clis[k]?, fun k => (d.inis[k]?).join, fun k => d.eris[k]?, fun g => (d.glos[g]?).map (·.2), d.loop⟩
def Dx.T (d : Dx) : Tb := ⟨d.glos.map (·.1), (d.defs.take d.npl).map (·.name), d.cs, d.er, d.fns, [], d.efs, d.lam, d.mkx⟩
def Dx.fa (d : Dx) (K : PySem.W.Frag) (g : Nat) : Option Addr := (d.defs[g]?).map fun x => He.fAd K x.at_
def Dx.Z (d : Dx) (K : PySem.W.Frag) (mg : Str → Option Value) (base : Heap) (tt : List (Addr × Str)) : Wd :=
  ⟨d.fa K, fun c => (d.cs[c]?).map (He.ga K), fun e => (d.er[e]?).map (He.ga K), tt, [], fun K' mg' b' => K' = K ∧ mg' = mg ∧ b' = base, d.fns⟩

/-! ### what is looked at, in the written part -/
def nameB (K : PySem.W.Frag) (x : Str) : Bool := He.eqO (PySem.W.nsIn K mainGlobals x) (some (some (.ref (He.ga K x)))) && PySem.W.keepIn K (.ref (He.ga K x))
def freeB (K : PySem.W.Frag) (x : Str) : Bool := He.eqO (PySem.W.nsIn K mainGlobals x) (some none)
def slotsB : List (Option Value) → Bool
  | [_, _, _, _, some (.builtin s), _] => s == "ValueError.__new__"
  | _ => false
def mroB (C : Addr) : List Value → Bool
  | .ref c :: bm => decide (c = C) && PySem.HandSPX.refsVE bm
  | _ => false
def oexB (K : PySem.W.Frag) (C : Addr) : Bool := match K.lookup C with
  | some ⟨.type t, _, .cls cd, sl⟩ => decide (t = "type") && mroB C cd.mro && cd.hasDict && !cd.hasDel && slotsB sl.toList
  | _ => false
def xkB (K : PySem.W.Frag) (C : Addr) : Bool := (PySem.W.clsIn K C).isSome && decide (PySem.W.findIn K (.ref C) "__getattribute__" = some (some (.builtin "BaseException.__getattribute__"))) && decide (PySem.W.findIn K (.ref C) "__getattr__" = some none) &&
  decide (PySem.W.subIn K (.ref C) (.type "BaseException") = some true) && decide (PySem.W.findIn K (.ref C) "__class__" = some (some (.builtin "object.__class__"))) &&
  decide (PySem.W.specialIn K (.builtin "object.__class__") "__get__" = some (some (.builtin "getset_descriptor.__get__"))) && decide (PySem.W.takesIn K (.builtin "object.__class__") = some true) && decide (PySem.W.mroIn K C (.type "object") = some true)
def errB (d : Dx) (K : PySem.W.Frag) (x : Str) (E : Eri) : Bool := nameB K x && L2.xfB K (He.ga K x) && xkB K (He.ga K x) && (d.efs.all fun f => He.eqO (PySem.W.findIn K (.ref (He.ga K x)) f) (some none)) && decide (PySem.W.typeIn K (.ref (He.ga K x)) = some (.type "type")) &&
  (if E.fields = [] then PySem.W.excIn K (He.ga K x) He.veBase "ValueError.__new__"
    else oexB K (He.ga K x) && He.eqO (PySem.W.findIn K (.ref (He.ga K x)) "__setattr__") (some (some (.builtin "object.__setattr__"))) &&
      He.eqO (PySem.W.findIn K (.ref (He.ga K x)) "__init__") (some (some (.ref (He.ma K (He.ga K x) "__init__")))) && decide (PySem.W.typeIn K (.ref (He.ma K (He.ga K x) "__init__")) = some (.type "function")) && decide (E.fields.length ≤ 100) && E.fields.all fun f => decide (f ∈ d.efs))
def pairB (K : PySem.W.Frag) (ups : Nat → List Nat) (er : List Str) : Bool := (List.range er.length).all fun j => decide (PySem.W.kitOne K (.ref (He.ga K (er.getD j ""))) (.type "ValueError") = some true) && (List.range er.length).all fun i =>
  decide (PySem.W.exmOne K (.ref (He.ga K (er.getD j ""))) (.ref (He.ga K (er.getD i ""))) = some (decide (i = j ∨ i ∈ ups j))) && decide (PySem.W.kitOne K (.ref (He.ga K (er.getD j ""))) (.ref (He.ga K (er.getD i ""))) = some (decide (i = j ∨ i ∈ ups j)))
def tyNames : List String := ["int", "bool", "str", "tuple", "list"]
def kdNames : List String := ["NoneType", "bool", "int", "str", "tuple", "list", "dict"]
def clsB (d : Dx) (K : PySem.W.Frag) (x : Str) : Bool := nameB K x && (He.Fa.cls x).ok K && (d.fns.all fun f => (He.Fa.noat x f).ok K) &&
  decide (PySem.W.findIn K (.ref (He.ga K x)) "__class__" = some (some (.builtin "object.__class__"))) && decide (PySem.W.specialIn K (.builtin "object.__class__") "__get__" = some (some (.builtin "getset_descriptor.__get__"))) &&
  decide (PySem.W.takesIn K (.builtin "object.__class__") = some true) && decide (PySem.W.mroIn K (He.ga K x) (.type "object") = some true) &&
  (tyNames.all fun t => decide (PySem.W.kitOne K (.ref (He.ga K x)) (.type t) = some false)) && (kdNames.all fun t => decide (PySem.W.kitOne K (.type t) (.ref (He.ga K x)) = some false))
def clpB (K : PySem.W.Frag) (cs : List Str) : Bool := (List.range cs.length).all fun j => (List.range cs.length).all fun i => decide (PySem.W.kitOne K (.ref (He.ga K (cs.getD j ""))) (.ref (He.ga K (cs.getD i ""))) = some (decide (j = i)))
def metB (d : Dx) (K : PySem.W.Frag) : Bool := (List.range d.cs.length).all fun c => (match d.clis[c]? with
  | some k => k.meths.all fun m => (He.Fa.meth (d.cs.getD c "") m.1).ok K && decide ((d.defs[m.2]?).map (·.at_) = some (d.cs.getD c "", some m.1))
  | none => true) && (match (d.inis[c]?).join with
  | some g => (He.Fa.mkr (d.cs.getD c "")).ok K && decide ((d.defs[g]?).map (·.at_) = some (d.cs.getD c "", some ("__init__" : Str)))
  | none => true)
mutual
def valB (K : PySem.W.Frag) (fa : Nat → Option Addr) : D → Value → Bool
  | .non, .none => true
  | .bl b, .bool c => b == c
  | .int i, .int j _ => decide (i = j)
  | .str x, .str y _ => decide (x = y)
  | .fn g, .ref a => decide (fa g = some a)
  | .tup ds, .ref a => match K.lookup a with
    | some ⟨.type c, _, .seq its _, _⟩ => decide (c = "tuple") && decide (its.size ≤ sizeLine) && valBs K fa ds its.toList
    | _ => false
  | _, _ => false
def valBs (K : PySem.W.Frag) (fa : Nat → Option Addr) : List D → List Value → Bool
  | [], [] => true
  | d :: ds, u :: us => valB K fa d u && valBs K fa ds us
  | _, _ => false
end
def gloBs (K : PySem.W.Frag) (fa : Nat → Option Addr) (l : List (Str × D)) : Bool := l.all fun p => match PySem.W.nsIn K mainGlobals p.1 with
  | some (some u) => valB K fa p.2 u
  | _ => false
/-- all that is looked at -/
def Dx.okB (d : Dx) (K : PySem.W.Frag) : Bool := ((d.defs.take d.npl).all fun x => decide (x.at_ = (x.name, none)) && nameB K x.name) && ((d.er.zip d.eris).all fun p => errB d K p.1 p.2) && pairB K (fun k => ((d.eris[k]?).map (·.up)).getD []) d.er &&
  (d.cs.all fun x => clsB d K x) && clpB K d.cs && metB d K && gloBs K (d.fa K) d.glos && bnames.all fun x => freeB K x
section
variable {K : PySem.W.Frag} {h : Heap} {mg : Str → Option Value} {d : Dx}
theorem nameB_ok (X : K.In h) (G : h.Ns mainGlobals mg) {x : Str} (c : nameB K x = true) : mg x = some (.ref (He.ga K x)) ∧ PySem.W.keepIn K (.ref (He.ga K x)) = true := by
  obtain ⟨c1, c2⟩ := and2 c
  exact ⟨PySem.W.mg_of X G (He.eqO_ok c1), c2⟩
theorem slotsB_ok {l : List (Option Value)} (h : slotsB l = true) : ∃ k0 k1 k2 k3 k5, l = [k0, k1, k2, k3, some (.builtin "ValueError.__new__"), k5] := by
  unfold slotsB at h
  split at h
  · rename_i a b c e s f
    rw [beq_iff_eq] at h
    subst h
    exact ⟨_, _, _, _, _, rfl⟩
  · cases h
theorem oexB_ok {C : Addr} (h : oexB K C = true) : ∃ nm q N bs bm sn sub ab col dd k0 k1 k2 k3 k5, K.lookup C = some (excClassObj nm q C N bs bm true sn sub ab col dd k0 k1 k2 k3 k5 "ValueError.__new__") ∧ PySem.HandSPX.refsVE bm = true := by
  unfold oexB at h
  split at h
  · rename_i t dd cd sl e
    obtain ⟨h, h5⟩ := and2 h
    obtain ⟨h, h4⟩ := and2 h
    obtain ⟨h, h3⟩ := and2 h
    obtain ⟨h1, h2⟩ := and2 h
    have h1 := of_decide_eq_true h1
    subst h1
    obtain ⟨k0, k1, k2, k3, k5, es⟩ := slotsB_ok h5
    obtain ⟨l⟩ := sl
    have es : l = _ := es
    subst es
    obtain ⟨nm, bs, mro, ns, qn, hd, sn, sub, ab, col, del⟩ := cd
    have h2 : mroB C mro = true := h2
    unfold mroB at h2
    split at h2
    · rename_i c bm
      obtain ⟨q1, q2⟩ := and2 h2
      have q1 := of_decide_eq_true q1
      subst q1
      have hh : hd = true := h3
      have hl : (!del) = true := h4
      have hl2 : del = false := by simpa using hl
      subst hh
      subst hl2
      exact ⟨_, _, _, _, _, _, _, _, _, _, _, _, _, _, _, e, q2⟩
    · cases h2
  · cases h
theorem xkB_ok {C : Addr} (h : xkB K C = true) : XkC K C := by
  obtain ⟨h, h8⟩ := and2 h
  obtain ⟨h, h7⟩ := and2 h
  obtain ⟨h, h6⟩ := and2 h
  obtain ⟨h, h5⟩ := and2 h
  obtain ⟨h, h4⟩ := and2 h
  obtain ⟨h, h3⟩ := and2 h
  obtain ⟨h1, h2⟩ := and2 h
  exact ⟨h1, of_decide_eq_true h2, of_decide_eq_true h3, of_decide_eq_true h4, of_decide_eq_true h5, of_decide_eq_true h6, of_decide_eq_true h7, of_decide_eq_true h8⟩
/-- what is known of an error's class -/
theorem errB_oex {x : Str} {E : Eri} (h : errB d K x E = true) (ne : E.fields ≠ []) (fu : ∃ (x' qual : Str) (params : Arguments) (body : List Stmt) (scope : Scope) (fu : FuncData) (N ps : List Str), FunD K x' qual params body scope [] [] (He.ma K (He.ga K x) "__init__") fu ∧ FnScope N ps scope ∧ ps.length = E.fields.length + 1 ∧ chIn N scope E.fields 1 body = true ∧ Binds K fu ps []) :
    ErF K (He.ga K x) E.fields := by
  obtain ⟨h, h5⟩ := and2 h
  obtain ⟨h, q3⟩ := and2 h
  obtain ⟨h, h4⟩ := and2 h
  obtain ⟨h, h3⟩ := and2 h
  obtain ⟨h1, h2⟩ := and2 h
  rw [if_neg ne] at h5
  obtain ⟨h5, q7⟩ := and2 h5
  obtain ⟨h5, q6⟩ := and2 h5
  obtain ⟨h5, q5⟩ := and2 h5
  obtain ⟨h5, q4⟩ := and2 h5
  obtain ⟨q1, q2⟩ := and2 h5
  have xf := L2.xfB_ok h2
  obtain ⟨x', qual, params, body, scope, fu, N, ps, e⟩ := fu
  exact ⟨⟨oexB_ok q1, He.eqO_ok q2, xf.exC, of_decide_eq_true q3, (and2 h1).2⟩, ne, of_decide_eq_true q6, fun f hf => He.eqO_ok (List.all_eq_true.mp h4 f (of_decide_eq_true (List.all_eq_true.mp q7 f hf))),
    ⟨_, x', qual, params, body, scope, fu, N, ps, He.eqO_ok q4, of_decide_eq_true q5, e⟩⟩
theorem errB_er0 {x : Str} {E : Eri} (h : errB d K x E = true) (e : E.fields = []) : Er0 K (He.ga K x) := by
  obtain ⟨h, h5⟩ := and2 h
  obtain ⟨h, q3⟩ := and2 h
  obtain ⟨h, h4⟩ := and2 h
  obtain ⟨h, h3⟩ := and2 h
  obtain ⟨h1, h2⟩ := and2 h
  rw [if_pos e] at h5
  exact ⟨(and2 h1).2, (L2.xfB_ok h2).exC, of_decide_eq_true q3, _, _, _, _, PySem.F.excBase_ValueError, h5⟩
mutual
theorem valB_ok {fa ca ea : Nat → Option Addr} {tt : List (Addr × Str)} : ∀ {x : D} {u : Value}, valB K fa x u = true → ∃ v, RelV v u ∧ ∀ m ι H, RD ⟨K, fa, ca, ea, tt, m⟩ ι H x v
  | .non, u, h => by
    cases u <;> first | exact absurd h Bool.false_ne_true | skip
    exact ⟨.non, rfl, fun m ι H => .non⟩
  | .bl b, u, h => by
    cases u <;> first | exact absurd h Bool.false_ne_true | skip
    rename_i c
    have h : (b == c) = true := h
    rw [beq_iff_eq] at h
    subst h
    exact ⟨.bl b, rfl, fun m ι H => .bl b⟩
  | .int i, u, h => by
    cases u <;> first | exact absurd h Bool.false_ne_true | skip
    have h := of_decide_eq_true h
    subst h
    exact ⟨.int i, ⟨_, rfl⟩, fun m ι H => .int i⟩
  | .str i, u, h => by
    cases u <;> first | exact absurd h Bool.false_ne_true | skip
    have h := of_decide_eq_true h
    subst h
    exact ⟨.str i, ⟨_, rfl⟩, fun m ι H => .str i⟩
  | .fn g, u, h => by
    cases u <;> first | exact absurd h Bool.false_ne_true | skip
    exact ⟨.ref _, rfl, fun m ι H => .fn (of_decide_eq_true h)⟩
  | .tup ds, u, h => by
    cases u <;> first | exact absurd h Bool.false_ne_true | skip
    rename_i a
    unfold valB at h
    split at h
    · rename_i c dd its n sl e
      obtain ⟨h, h3⟩ := and2 h
      obtain ⟨h1, h2⟩ := and2 h
      obtain ⟨vs, q1, q2⟩ := valBs_ok (ca := ca) (ea := ea) (tt := tt) h3
      exact ⟨.ref a, rfl, fun m ι H => .tup (.inr ⟨_, its, n, e, congrArg Value.type (of_decide_eq_true h1), rfl, of_decide_eq_true h2, q1⟩) (q2 m ι H)⟩
    · cases h
  | .ref _, u, h => by cases u <;> exact absurd h Bool.false_ne_true
  | .cls _, u, h => by cases u <;> exact absurd h Bool.false_ne_true
  | .ty _, u, h => by cases u <;> exact absurd h Bool.false_ne_true
  | .err _ _, u, h => by cases u <;> exact absurd h Bool.false_ne_true
  | .thk, u, h => by cases u <;> exact absurd h Bool.false_ne_true
theorem valBs_ok {fa ca ea : Nat → Option Addr} {tt : List (Addr × Str)} : ∀ {xs : List D} {us : List Value}, valBs K fa xs us = true → ∃ vs, Vals vs us ∧ ∀ m ι H, RDs ⟨K, fa, ca, ea, tt, m⟩ ι H xs vs
  | [], [], _ => ⟨[], .nil, fun m ι H => .nil⟩
  | [], _ :: _, h => absurd h Bool.false_ne_true
  | _ :: _, [], h => absurd h Bool.false_ne_true
  | x :: xs, u :: us, h => by
    obtain ⟨h1, h2⟩ := and2 (show (valB K fa x u && valBs K fa xs us) = true from h)
    obtain ⟨v, q1, q2⟩ := valB_ok (ca := ca) (ea := ea) (tt := tt) h1
    obtain ⟨vs, p1, p2⟩ := valBs_ok (ca := ca) (ea := ea) (tt := tt) h2
    exact ⟨v :: vs, .cons q1 p1, fun m ι H => .cons (q2 m ι H) (p2 m ι H)⟩
end
theorem all_get {α : Type} {p : α → Bool} {l : List α} {i : Nat} {x : α} (h : l.all p = true) (e : l[i]? = some x) : p x = true := List.all_eq_true.mp h x (List.mem_of_getElem? e)
theorem map_some {α β : Type} {o : Option α} {f : α → β} {b : β} (h : o.map f = some b) : ∃ a, o = some a ∧ b = f a := by
  cases o with
  | none => cases h
  | some a => cases h; exact ⟨a, rfl, rfl⟩
theorem getD_of {l : List Str} {i : Nat} {x : Str} (e : l[i]? = some x) : l.getD i "" = x := by rw [List.getD_eq_getElem?_getD, e]; rfl
theorem lt_of_get {α : Type} {l : List α} {i : Nat} {x : α} (e : l[i]? = some x) : i < l.length := (List.getElem?_eq_some_iff.mp e).1
theorem errAt (ok : d.okB K = true) {j : Nat} {x : Str} {E : Eri} (e1 : d.er[j]? = some x) (e2 : d.eris[j]? = some E) : errB d K x E = true := by
  obtain ⟨ok, _⟩ := and2 ok
  obtain ⟨ok, _⟩ := and2 ok
  obtain ⟨ok, _⟩ := and2 ok
  obtain ⟨ok, _⟩ := and2 ok
  obtain ⟨ok, _⟩ := and2 ok
  obtain ⟨ok, _⟩ := and2 ok
  obtain ⟨_, o2⟩ := and2 ok
  have this : (d.er.zip d.eris)[j]? = some (x, E) := by rw [List.getElem?_zip_eq_some]; exact ⟨e1, e2⟩
  have q := all_get o2 this
  exact q
/-- the program's facts, from what was looked at -/
theorem prok (X : K.In h) (G : h.Ns mainGlobals mg) (base : Heap) (tt : List (Addr × Str)) (ok : d.okB K = true) (sz : d.er.length = d.eris.length)
    (fnf : ∀ (g : Nat) (x : He.DefD) (fd : Fd), d.defs[g]? = some x → d.fds[g]? = some fd → FnF K mg base d.T (d.Z K mg base tt) (He.fAd K x.at_) fd)
    (erf : ∀ (j : Nat) (x : Str) (E : Eri), d.er[j]? = some x → d.eris[j]? = some E → ErF K (He.ga K x) E.fields ∨ (E.fields = [] ∧ Er0 K (He.ga K x))) (kpf : ∀ (g : Nat) (x : He.DefD), d.defs[g]? = some x → PySem.W.keepIn K (.ref (He.fAd K x.at_)) = true) :
    PrOk d.P d.T (d.Z K mg base tt) K mg base := by
  obtain ⟨ok, o8⟩ := and2 ok
  obtain ⟨ok, o7⟩ := and2 ok
  obtain ⟨ok, o6⟩ := and2 ok
  obtain ⟨ok, o5⟩ := and2 ok
  obtain ⟨ok, o4⟩ := and2 ok
  obtain ⟨ok, o3⟩ := and2 ok
  obtain ⟨o1, o2⟩ := and2 ok
  have eat : ∀ {j : Nat} {x : Str} {E : Eri}, d.er[j]? = some x → d.eris[j]? = some E → errB d K x E = true := fun {j x E} e1 e2 => by
    have : (d.er.zip d.eris)[j]? = some (x, E) := by rw [List.getElem?_zip_eq_some]; exact ⟨e1, e2⟩
    have q := all_get o2 this
    exact q
  have eri : ∀ {j : Nat} {x : Str}, d.er[j]? = some x → ∃ E, d.eris[j]? = some E := fun {j x} e => ⟨_, List.getElem?_eq_getElem (by rw [← sz]; exact lt_of_get e)⟩
  have ecl : ∀ g x, d.T.er[g]? = some x → ∃ a, mg x = some (.ref a) ∧ (d.Z K mg base tt).ea g = some a := fun g x e => by
    obtain ⟨E, eE⟩ := eri e
    have b := eat e eE
    obtain ⟨b, _⟩ := and2 b
    obtain ⟨b, _⟩ := and2 b
    obtain ⟨b, _⟩ := and2 b
    obtain ⟨b, _⟩ := and2 b
    obtain ⟨b, _⟩ := and2 b
    exact ⟨_, (nameB_ok X G b).1, by show (d.er[g]?).map _ = _; rw [show d.er[g]? = some x from e]; rfl⟩
  have prs : ∀ {j i : Nat} {x y : Str}, d.er[j]? = some x → d.er[i]? = some y → PySem.W.kitOne K (.ref (He.ga K x)) (.type "ValueError") = some true ∧ PySem.W.exmOne K (.ref (He.ga K x)) (.ref (He.ga K y)) = some (decide (i = j ∨ i ∈ ((d.eris[j]?).map (·.up)).getD [])) ∧ PySem.W.kitOne K (.ref (He.ga K x)) (.ref (He.ga K y)) = some (decide (i = j ∨ i ∈ ((d.eris[j]?).map (·.up)).getD [])) := fun {j i x y} e1 e2 => by
    have q := List.all_eq_true.mp o3 j (List.mem_range.mpr (lt_of_get e1))
    obtain ⟨q1, q2⟩ := and2 q
    have q3 := List.all_eq_true.mp q2 i (List.mem_range.mpr (lt_of_get e2))
    obtain ⟨q4, q5⟩ := and2 q3
    rw [getD_of e1] at q1 q4 q5
    rw [getD_of e2] at q4 q5
    exact ⟨of_decide_eq_true q1, of_decide_eq_true q4, of_decide_eq_true q5⟩
  have clsF : ∀ {c : Nat} {x : Str}, d.cs[c]? = some x → clsB d K x = true := fun e => all_get o4 e
  refine {
    glo := fun g x v e1 e2 => ?_
    fn := fun g x e => ?_
    cls := fun g x e => ?_
    met := fun j C KK f g hC hK hm => ?_
    fns := fun f hf => hf
    ecl := ecl
    xfc := fun j C f hC hf => ?_
    exm := fun j C j' C' h1 h2 => ?_
    fnf := fun g fd a h1 h2 => ?_
    ini := fun j g C h1 h2 => ?_
    isk := fun kd ty t u h1 h2 => ?_
    isc := fun c C hC => ?_
    fnk := fun g a hg => ?_
    bt := fun x hx => PySem.W.mg_none_of X G (He.eqO_ok (List.all_eq_true.mp o8 x hx))
    cl := fun c C hC => ?_
    na := fun c C f hC hf => ?_
    rse := fun m n Y V h4 hK hmg gd j x l ss p pos pos' h1 h2 h3 r => ?_
    mke := fun m n Y V h4 hK hmg gd j x l ss p pos h1 h2 h3 r => ?_
    xis := fun j C t u hC ht => ?_
    xkc := fun j C hC => ?_ }
  · have e1 : (d.glos.map (·.1))[g]? = some x := e1
    rw [List.getElem?_map] at e1
    obtain ⟨p, ep, rfl⟩ := map_some e1
    have e2 : (d.glos[g]?).map (·.2) = some v := e2
    rw [ep] at e2
    cases e2
    have q := all_get o7 ep
    split at q
    · rename_i u eu
      obtain ⟨w, q1, q2⟩ := valB_ok (ca := (d.Z K mg base tt).ca) (ea := (d.Z K mg base tt).ea) (tt := tt) q
      exact ⟨w, u, PySem.W.mg_of X G eu, q1, q2⟩
    · cases q
  · have e : ((d.defs.take d.npl).map (·.name))[g]? = some x := e
    rw [List.getElem?_map] at e
    obtain ⟨D, eD, rfl⟩ := map_some e
    have q0 := all_get o1 eD
    obtain ⟨q1, q2⟩ := and2 q0
    have q1 := of_decide_eq_true q1
    obtain ⟨q3, q4⟩ := nameB_ok X G q2
    have eD2 : d.defs[g]? = some D := by
      rw [List.getElem?_take] at eD
      split at eD
      · exact eD
      · cases eD
    refine ⟨_, q3, ?_, q4⟩
    show (d.defs[g]?).map _ = _
    rw [eD2]
    show some (He.fAd K D.at_) = _
    rw [q1]
    rfl
  · have b := clsF e
    obtain ⟨b, _⟩ := and2 b
    obtain ⟨b, _⟩ := and2 b
    obtain ⟨b, _⟩ := and2 b
    obtain ⟨b, _⟩ := and2 b
    obtain ⟨b, _⟩ := and2 b
    obtain ⟨b, _⟩ := and2 b
    obtain ⟨b, _⟩ := and2 b
    obtain ⟨b, _⟩ := and2 b
    obtain ⟨q1, q2⟩ := nameB_ok X G b
    exact ⟨_, q1, by show (d.cs[g]?).map _ = _; rw [show d.cs[g]? = some x from e]; rfl, q2⟩
  · obtain ⟨x, ex, rfl⟩ := map_some (show (d.cs[j]?).map (He.ga K) = some C from hC)
    have q := List.all_eq_true.mp o6 j (List.mem_range.mpr (lt_of_get ex))
    obtain ⟨q, _⟩ := and2 q
    have hK : d.clis[j]? = some KK := hK
    rw [hK, getD_of ex] at q
    have key : ∀ (l : List (Str × Nat)), l.lookup f = some g → (f, g) ∈ l := by
      intro l
      induction l with
      | nil => intro z; cases z
      | cons p r ih =>
        obtain ⟨f', g'⟩ := p
        intro z
        rw [List.lookup_cons] at z
        cases hb : f == f' with
        | true =>
          rw [hb] at z
          cases z
          rw [beq_iff_eq.mp hb]
          exact List.mem_cons_self
        | false =>
          rw [hb] at z
          exact List.mem_cons_of_mem _ (ih z)
    obtain ⟨q1, q2⟩ := and2 (List.all_eq_true.mp q (f, g) (key _ hm))
    have q2 : (d.defs[g]?).map (·.at_) = some (x, some f) := of_decide_eq_true q2
    obtain ⟨D, eD, eA⟩ := map_some q2
    refine ⟨_, He.meth_ok q1, ?_⟩
    show (d.defs[g]?).map _ = _
    rw [eD]
    show some (He.fAd K D.at_) = _
    rw [← eA]
    rfl
  · obtain ⟨x, ex, rfl⟩ := map_some (show (d.er[j]?).map (He.ga K) = some C from hC)
    obtain ⟨E, eE⟩ := eri ex
    have b := eat ex eE
    obtain ⟨b, _⟩ := and2 b
    obtain ⟨b, _⟩ := and2 b
    obtain ⟨b, b4⟩ := and2 b
    obtain ⟨b, b3⟩ := and2 b
    obtain ⟨b1, b2⟩ := and2 b
    exact ⟨L2.xfB_ok b2, He.eqO_ok (List.all_eq_true.mp b4 f hf)⟩
  · obtain ⟨x, ex, rfl⟩ := map_some (show (d.er[j]?).map (He.ga K) = some C from h1)
    obtain ⟨y, ey, rfl⟩ := map_some (show (d.er[j']?).map (He.ga K) = some C' from h2)
    exact (prs ex ey).2.1
  · obtain ⟨x, ex, rfl⟩ := map_some (show (d.defs[g]?).map (fun x => He.fAd K x.at_) = some a from h2)
    exact fnf g x fd ex h1
  · obtain ⟨x, ex, rfl⟩ := map_some (show (d.cs[j]?).map (He.ga K) = some C from h2)
    have q := List.all_eq_true.mp o6 j (List.mem_range.mpr (lt_of_get ex))
    obtain ⟨_, q⟩ := and2 q
    have h1 : (d.inis[j]?).join = some g := h1
    rw [h1, getD_of ex] at q
    obtain ⟨q1, q2⟩ := and2 q
    have q2 : (d.defs[g]?).map (·.at_) = some (x, some ("__init__" : Str)) := of_decide_eq_true q2
    obtain ⟨D, eD, eA⟩ := map_some q2
    have mk := He.mkr_ok q1
    refine ⟨_, ?_, mk.init, mk⟩
    show (d.defs[g]?).map _ = _
    rw [eD]
    show some (He.fAd K D.at_) = _
    rw [← eA]
    rfl
  · have own : ∀ {c : Nat} {C : Addr}, (d.Z K mg base tt).ca c = some C → ∃ x, d.cs[c]? = some x ∧ C = He.ga K x := fun z => map_some z
    have tyq : ∀ {c : Nat} {x : Str} {t : String}, d.cs[c]? = some x → t ∈ tyNames → PySem.W.kitOne K (.ref (He.ga K x)) (.type t) = some false := fun {c x t} ex ht => by
      obtain ⟨b, _⟩ := and2 (clsF ex)
      exact of_decide_eq_true (List.all_eq_true.mp (and2 b).2 t ht)
    have kdq : ∀ {c : Nat} {x : Str} {t : String}, d.cs[c]? = some x → t ∈ kdNames → PySem.W.kitOne K (.type t) (.ref (He.ga K x)) = some false := fun {c x t} ex ht => of_decide_eq_true (List.all_eq_true.mp (and2 (clsF ex)).2 t ht)
    cases h1 with
    | ins hC =>
      obtain ⟨x, ex, rfl⟩ := own hC
      cases h2 with
      | cls hD =>
        obtain ⟨y, ey, rfl⟩ := own hD
        have q := List.all_eq_true.mp (List.all_eq_true.mp o5 _ (List.mem_range.mpr (lt_of_get ex))) _ (List.mem_range.mpr (lt_of_get ey))
        rw [getD_of ex, getD_of ey] at q
        rw [of_decide_eq_true q]
        unfold isTy
        congr 1
        simp
      | _ => exact tyq ex (by decide)
    | _ =>
      cases h2 with
      | cls hD =>
        obtain ⟨y, ey, rfl⟩ := own hD
        exact kdq ey (by decide)
      | _ => exact L2.kit_ty (by decide +kernel)
  · obtain ⟨x, ex, rfl⟩ := map_some (show (d.cs[c]?).map (He.ga K) = some C from hC)
    have b := clsF ex
    obtain ⟨b, _⟩ := and2 b
    obtain ⟨b, _⟩ := and2 b
    obtain ⟨b, b7⟩ := and2 b
    obtain ⟨b, b6⟩ := and2 b
    obtain ⟨b, b5⟩ := and2 b
    obtain ⟨b, b4⟩ := and2 b
    exact ⟨of_decide_eq_true b4, of_decide_eq_true b5, of_decide_eq_true b6, of_decide_eq_true b7⟩
  · obtain ⟨x, ex, rfl⟩ := map_some (show (d.defs[g]?).map (fun x => He.fAd K x.at_) = some a from hg)
    exact kpf g x ex
  · obtain ⟨x, ex, rfl⟩ := map_some (show (d.cs[c]?).map (He.ga K) = some C from hC)
    have b := clsF ex
    obtain ⟨b, _⟩ := and2 b
    obtain ⟨b, _⟩ := and2 b
    obtain ⟨b, b7⟩ := and2 b
    obtain ⟨b, b6⟩ := and2 b
    obtain ⟨b, b5⟩ := and2 b
    obtain ⟨b, b4⟩ := and2 b
    obtain ⟨b, b3⟩ := and2 b
    obtain ⟨b1, b2⟩ := and2 b
    exact He.cls_ok b2
  · obtain ⟨x, ex, rfl⟩ := map_some (show (d.cs[c]?).map (He.ga K) = some C from hC)
    have b := clsF ex
    obtain ⟨b, _⟩ := and2 b
    obtain ⟨b, _⟩ := and2 b
    obtain ⟨b, b7⟩ := and2 b
    obtain ⟨b, b6⟩ := and2 b
    obtain ⟨b, b5⟩ := and2 b
    obtain ⟨b, b4⟩ := and2 b
    obtain ⟨b, b3⟩ := and2 b
    exact He.noat_ok (List.all_eq_true.mp b3 f hf)
  · obtain ⟨C, hm, hC⟩ := ecl j x h1
    obtain ⟨E, eE⟩ := eri h1
    have hC' := hC
    obtain ⟨x2, ex, rfl⟩ := map_some (show (d.er[j]?).map (He.ga K) = some C from hC')
    have ex1 : d.er[j]? = some x := h1
    rw [ex1] at ex
    cases ex
    rcases erf j x E ex1 eE with er | ⟨e0, er⟩
    · exact rse_ps (Z := (d.Z K mg base tt).w m) (c := cg d.P 0) h4 gd (E := E) (C := He.ga K x) eE hC (by rw [hmg]; exact hm) (by rw [hK]; exact er) h2 h3 r
    · exact rse0_ps (Z := (d.Z K mg base tt).w m) (c := cg d.P 0) h4 gd (E := E) (C := He.ga K x) eE hC (by rw [hmg]; exact hm) e0 (by rw [hK]; exact er) h2 h3 r
  · obtain ⟨C, hm, hC⟩ := ecl j x h1
    obtain ⟨E, eE⟩ := eri h1
    have hC' := hC
    obtain ⟨x2, ex, rfl⟩ := map_some (show (d.er[j]?).map (He.ga K) = some C from hC')
    have ex1 : d.er[j]? = some x := h1
    rw [ex1] at ex
    cases ex
    exact mke_pe (Z := (d.Z K mg base tt).w m) (c := cg d.P 0) h4 gd (E := E) (C := He.ga K x) eE hC (by rw [hmg]; exact hm) (by rw [hK]; exact erf j x E ex1 eE) h2 h3 r
  · obtain ⟨x, ex, rfl⟩ := map_some (show (d.er[j]?).map (He.ga K) = some C from hC)
    cases ht with
    | ve => exact (prs ex ex).1
    | own hD =>
      obtain ⟨y, ey, rfl⟩ := map_some (show (d.er[_]?).map (He.ga K) = some _ from hD)
      exact (prs ex ey).2.2
  · obtain ⟨x, ex, rfl⟩ := map_some (show (d.er[j]?).map (He.ga K) = some C from hC)
    obtain ⟨E, eE⟩ := eri ex
    have b := eat ex eE
    obtain ⟨b, _⟩ := and2 b
    obtain ⟨b, _⟩ := and2 b
    obtain ⟨b, b4⟩ := and2 b
    obtain ⟨b, b3⟩ := and2 b
    exact xkB_ok b3
end
end MP
namespace MP
open PySem PySem.Spec PyProof.Rows L2
section
variable {K : PySem.W.Frag} {mg : Str → Option Value} {base : Heap} {T : Tb} {Z : Wd} {f : Addr} {fd : Fd} {x qual : Str} {params : Arguments} {body : List Stmt} {scope : Scope} {fu : FuncData} {N ps : List Str}
/-- a def without defaults, without lambdas -/
theorem FnF.plain (F : FunD K x qual params body scope [] [] f fu) (S : FnScope N ps scope) (hN : N.length = fd.nl) (hp : ps.length = fd.np) (hd : fd.dfl = []) (hc : chSs (T.l false) N scope fd.body body = true) (b : Binds K fu ps []) : FnF K mg base T Z f fd := by
  refine ⟨x, qual, params, body, scope, [], fu, N, ps, false, F, S, hN, hp, hc, (fun z => by cases z), by rw [hd]; exact Nat.zero_le _, fun n h1 h2 => ⟨[], [], .nil, fun G ι H => ?_, fun s us X hl => ?_⟩⟩
  · rw [hd, List.drop_nil]
    exact .nil
  · rw [hd] at h1
    have e : n = fd.np := Nat.le_antisymm h2 h1
    exact b s us X (by rw [List.append_nil, hl, e, hp])
end
/-- the law's one call, from what the reading says -/
theorem runs_of {P : Program} {w : World} {K : PySem.W.Frag} {mg : Str → Option Value} {fa : Addr} {n m g : Nat} {fd : Fd} (d : Dx) (ok : ∀ base : Heap, K.In base → base.Ns mainGlobals mg → PrOk d.P d.T (d.Z K mg base []) K mg base) (hg : d.fds[g]? = some fd) (ha : d.fa K g = some fa)
    (hr : Room (2 * m + 5) callerA) (law : ∀ ns : List Int, ns.length ≤ n → ∃ h' : AH, runFd (cg d.P m) fd [.ref 0] [.fls (ns.map D.int)] = .ok (.bl true) h') : Runs P w K mg fa n := by
  intro base s a o ns hn kb gb e0
  have hok : ∀ (K' : PySem.W.Frag) (mg' : Str → Option Value) (b' : Heap), (d.Z K mg base []).ok K' mg' b' → PrOk d.P d.T (d.Z K mg base []) K' mg' b' := fun K' mg' b' z => by
    obtain ⟨rfl, rfl, rfl⟩ := z
    exact ok _ kb gb
  obtain ⟨h', eh⟩ := law ns hn
  have intsR : ∀ (G : Gx) (ι : List Addr) (H : Hp) (l : List Int), RDs G ι H (l.map D.int) (l.map V.int) := fun G ι H l => by
    induction l with
    | nil => exact .nil
    | cons i l ih => exact .cons (.int i) ih
  have eY : ∃ Y : Cx, Y.prog = P ∧ Y.w = w ∧ Y.K = K ∧ Y.mg = mg ∧ Y.base = base ∧ Y.stack = [] := ⟨{ cxOf (L2.CX P w) P w K mg base [] "" ⟨.function, [], false, false, []⟩ 0 .none callerA [] s (fun _ => none) (fun _ _ _ => False) with stack := [] }, rfl, rfl, rfl, rfl, rfl, rfl⟩
  obtain ⟨Y, y1, y2, y3, y4, y5, y6⟩ := eY
  have rh : RH ((d.Z K mg base []).g Y) [a] [.fls (ns.map D.int)] (onlyAt a o ns) := by
    refine ⟨by simp, rfl, fun b hb => ?_, fun k c e => ?_, (fun p hp => nomatch (show p ∈ ([] : List (Addr × Str)) from hp)), (fun q hq => nomatch (show q ∈ ([] : List Lmd) from hq))⟩
    · have hb : b = a := by simpa using hb
      subst hb
      exact ⟨_, onlyAt_self, fun ps z => by cases z⟩
    · cases k with
      | succ k => simp at e
      | zero =>
        simp at e
        subst e
        exact ⟨a, rfl, .fls onlyAt_self (intsR _ _ _ ns)⟩
  subst y1 y2 y3 y4 y5
  have key := body_run (P := d.P) (T := d.T) (Z := d.Z Y.K Y.mg Y.base []) (n := m) (VW := fun _ _ _ _ => False) (Y := Y) (σ := []) (ι := [a]) (h := [.fls (ns.map D.int)]) (ds := [.ref 0]) (xs := [.ref a]) (us := [.ref a]) (Q := fun v _ => v = .bl true) (A := callerA) (fd := fd) (g := g) (a := fa) (s := s) (H := onlyAt a o ns)
    (fun l X hX hl => lv_all m _ hok l X hX hl) (hok _ _ _ ⟨rfl, rfl, rfl⟩) ⟨rfl, rfl, rfl⟩ hg ha hr rfl (by rw [y6]; exact e0) rh (.cons (.ref rfl) .nil) (.cons rfl .nil) (by
      rw [eh]
      exact fun ι' H' v gr rh' rd => by cases rd; rfl)
  rw [y6] at key
  exact key
end MP
namespace MP
open PySem PySem.Spec PyProof.Rows L2

/-! ### reading the reading: rules for simp -/
theorem tp_int {h : AH} {i : Int} : toP dep h (.int i) = some (.int i) := rfl
theorem tp_str {h : AH} {i : Str} : toP dep h (.str i) = some (.str i) := rfl
theorem tp_bl {h : AH} {i : Bool} : toP dep h (.bl i) = some (.bool i) := rfl
theorem tp_non {h : AH} : toP dep h .non = some .none := rfl
theorem eq_int {h : AH} {i j : Int} : eqD h (.int i) (.int j) = some (decide (i = j)) := by
  unfold eqD
  rw [tp_int, tp_int]
  show some (i == j) = _
  congr 1
theorem eq_bl {h : AH} {i j : Bool} : eqD h (.bl i) (.bl j) = some (i == j) := rfl
theorem eq_str {h : AH} {i j : Str} (a : PyData.strOk i = true) (b : PyData.strOk j = true) : eqD h (.str i) (.str j) = some (decide (i = j)) := by
  unfold eqD
  rw [tp_str, tp_str]
  have s1 : SeqAt.shaped (.str i) = true := by
    unfold SeqAt.shaped
    rw [show (PyData.str i).canLay0 = PyData.strOk i from rfl, a]
    rfl
  have s2 : SeqAt.shaped (.str j) = true := by
    unfold SeqAt.shaped
    rw [show (PyData.str j).canLay0 = PyData.strOk j from rfl, b]
    rfl
  dsimp only
  rw [s1, s2]
  show some (i == j) = _
  congr 1
theorem tru_bl {h : AH} {b : Bool} : truD h (.bl b) = some b := rfl
theorem tru_int {h : AH} {b : Int} : truD h (.int b) = some (b != 0) := rfl
theorem asB_ok {b : Bool} {h : AH} : asB (.ok (.bl b) h) = .ok b h := rfl
theorem get_set {h : AH} {p : Nat} {a b : C} (e : h[p]? = some a) : (h.set p b)[p]? = some b := List.getElem?_set_self (List.getElem?_eq_some_iff.mp e).1
theorem get_set_ne {h : AH} {p q : Nat} {a : C} (n : p ≠ q) : (h.set p a)[q]? = h[q]? := List.getElem?_set_ne n
theorem get_app {h l : AH} {p : Nat} {a : C} (e : h[p]? = some a) : (h ++ l)[p]? = some a := by
  rw [List.getElem?_append_left (List.getElem?_eq_some_iff.mp e).1]
  exact e
theorem get_new {h l : AH} {c : C} : (h ++ c :: l)[h.length]? = some c := by simp
theorem set_new {h l : AH} {c d : C} : (h ++ c :: l).set h.length d = h ++ d :: l := by simp
theorem get_at {h l : AH} {k : Nat} : (h ++ l)[h.length + k]? = l[k]? := by
  rw [List.getElem?_append_right (Nat.le_add_right _ _), Nat.add_sub_cancel_left]
theorem get_at0 {h l : AH} : (h ++ l)[h.length]? = l[0]? := by
  rw [List.getElem?_append_right (Nat.le_refl _), Nat.sub_self]
theorem set_at {h l : AH} {k : Nat} {c : C} : (h ++ l).set (h.length + k) c = h ++ l.set k c := by
  rw [List.set_append_right _ _ (Nat.le_add_right _ _), Nat.add_sub_cancel_left]
theorem set_at0 {h l : AH} {c : C} : (h ++ l).set h.length c = h ++ l.set 0 c := by
  rw [List.set_append_right _ _ (Nat.le_refl _), Nat.sub_self]
theorem cg_ers {P : Pr} (n : Nat) : (cg P n).ers = P.ers := by cases n <;> rfl
theorem cg_cls {P : Pr} (n : Nat) : (cg P n).cls = P.cls := by cases n <;> rfl
theorem cg_glo {P : Pr} (n : Nat) : (cg P n).glo = P.glo := by cases n <;> rfl
theorem cg_fuel {P : Pr} (n : Nat) : (cg P n).fuel = P.loop := by cases n <;> rfl
theorem cg_call {P : Pr} {n g : Nat} {fd : Fd} {ds : List D} {h : AH} (e : P.fns g = some fd) : (cg P (n + 1)).call g ds h = runFd (cg P n) fd ds h := by
  show (match P.fns g with
    | some fd => runFd (cg P n) fd ds h
    | none => .bad) = _
  rw [e]
section
variable {h : AH} {i j : Int}
theorem b_add : binD .add (.int i) (.int j) h = .ok (.int (i + j)) h := rfl
theorem b_sub : binD .sub (.int i) (.int j) h = .ok (.int (i - j)) h := rfl
theorem b_mul (c : (-(2 ^ 64) < i ∧ i < 2 ^ 64) ∨ (-(2 ^ 64) < j ∧ j < 2 ^ 64)) : binD .mul (.int i) (.int j) h = .ok (.int (i * j)) h := if_pos c
theorem b_mod (c : j ≠ 0) : binD .mod (.int i) (.int j) h = .ok (.int (i.fmod j)) h := if_pos c
theorem b_div (c : j ≠ 0) (d : j.natAbs < 1073741824) : binD .fdiv (.int i) (.int j) h = .ok (.int (i.fdiv j)) h := if_pos ⟨c, d⟩
theorem b_pow (c : 0 ≤ j) (d : j ≤ 1000000) (e : i.natAbs < 2 ^ 64) : binD .pow (.int i) (.int j) h = .ok (.int (i ^ j.toNat)) h := if_pos ⟨c, d, e⟩
theorem b_adl {p q : Nat} {x y : List D} (hp : h[p]? = some (.lst x)) (hq : h[q]? = some (.lst y)) (hz : x.length + y.length ≤ sizeLine) : binD .add (.ref p) (.ref q) h = .ok (.ref h.length) (h ++ [.lst (x ++ y)]) := by
  unfold binD
  dsimp only
  rw [hp, hq]
  exact if_pos hz
theorem c_lt : cmpD .lt (.int i) (.int j) h = .ok (.bl (decide (i < j))) h := rfl
theorem c_gt : cmpD .gt (.int i) (.int j) h = .ok (.bl (decide (j < i))) h := rfl
theorem c_le : cmpD .le (.int i) (.int j) h = .ok (.bl (decide (i ≤ j))) h := rfl
theorem c_ge : cmpD .ge (.int i) (.int j) h = .ok (.bl (decide (j ≤ i))) h := rfl
theorem c_eq {a b : D} {k : Bool} (e : eqQ h a b = some k) : cmpD .eq a b h = .ok (.bl k) h := by
  unfold cmpD cmpB
  rw [e]
  rfl
theorem c_ne {a b : D} {k : Bool} (e : eqQ h a b = some k) : cmpD .ne a b h = .ok (.bl (!k)) h := by
  unfold cmpD cmpB
  rw [e]
  rfl
theorem c_eqs {x y : Str} : cmpD .eq (.str x) (.str y) h = .ok (.bl (decide (x = y))) h := rfl
theorem c_nes {x y : Str} : cmpD .ne (.str x) (.str y) h = .ok (.bl (!decide (x = y))) h := rfl
theorem c_eqi : cmpD .eq (.int i) (.int j) h = .ok (.bl (decide (i = j))) h := c_eq (show eqQ h (.int i) (.int j) = _ from eq_int (h := h))
theorem c_nei : cmpD .ne (.int i) (.int j) h = .ok (.bl (!decide (i = j))) h := c_ne (show eqQ h (.int i) (.int j) = _ from eq_int (h := h))
theorem b_int : biD .int [.int i] h = .ok (.int i) h := rfl
theorem l_ref {p : Nat} {x : List D} (hp : h[p]? = some (.lst x)) : biD .len [.ref p] h = .ok (.int x.length) h := by
  unfold biD
  dsimp only
  rw [hp]
theorem l_fls {p : Nat} {x : List D} (hp : h[p]? = some (.fls x)) : biD .len [.ref p] h = .ok (.int x.length) h := by
  unfold biD
  dsimp only
  rw [hp]
theorem l_dct {p : Nat} {x : List (D × D)} (hp : h[p]? = some (.dct x)) : biD .len [.ref p] h = .ok (.int x.length) h := by
  unfold biD
  dsimp only
  rw [hp]
theorem l_tup {x : List D} : biD .len [.tup x] h = .ok (.int x.length) h := rfl
theorem x_lst {p : Nat} {x : List D} {d : D} (hp : h[p]? = some (.lst x)) (e : L2.atI x i = some d) : idxD (.ref p) (.int i) h = .ok d h := by
  unfold idxD
  dsimp only
  rw [hp]
  dsimp only
  rw [e]
  rfl
theorem x_tup {x : List D} {d : D} (e : L2.atI x i = some d) : idxD (.tup x) (.int i) h = .ok d h := by
  unfold idxD
  dsimp only
  rw [e]
  rfl
theorem x_key {p : Nat} {k : Str} {x : List (D × D)} {d : D} (hp : h[p]? = some (.dct x)) (e : getK (.str k) x = some d) : idxD (.ref p) (.str k) h = .ok d h := by
  unfold idxD
  dsimp only
  rw [hp]
  dsimp only
  rw [e]
  rfl
theorem s_key {p : Nat} {k : Str} {x : List (D × D)} {v : D} (hp : h[p]? = some (.dct x)) (hz : x.length < sizeLine) : setI (.ref p) (.str k) v h = .ok () (h.set p (.dct (putK (.str k) v x))) := by
  unfold setI
  dsimp only
  rw [hp]
  dsimp only
  rw [if_pos]
  simp [keyOk, hz]
theorem if_int {α : Type} {c : Prop} [Decidable c] {a b : α} : (if decide c = true then a else b) = if c then a else b := by
  by_cases hc : c <;> simp [hc]
end
/-- a walk over a list that stays -/
theorem for_list {t : Tg} {I : Itr} {b : En → AH → SR} (ds : List D) (Inv : Nat → En → AH → Prop) (rd : ∀ i e h, Inv i e h → I.rd h = some ds)
    (step : ∀ i d e h, ds[i]? = some d → Inv i e h → ∃ e1, bindTg t d e = some e1 ∧ ∃ e2 h2, (b e1 h = .nx e2 h2 ∨ b e1 h = .ct e2 h2) ∧ Inv (i + 1) e2 h2) :
    ∀ (n i : Nat) (e : En) (h : AH), ds.length < n + i → i ≤ ds.length → Inv i e h → ∃ e' h', forGo t I b n i e h = .nx e' h' ∧ Inv ds.length e' h'
  | 0, i, e, h, h1, h2, _ => by omega
  | n + 1, i, e, h, h1, h2, hi => by
    unfold forGo
    rw [rd i e h hi]
    dsimp only
    cases hd : ds[i]? with
    | none =>
      have : i = ds.length := by
        have := List.getElem?_eq_none_iff.mp hd
        omega
      subst this
      exact ⟨e, h, rfl, hi⟩
    | some d =>
      have hl := (List.getElem?_eq_some_iff.mp hd).1
      obtain ⟨e1, q1, e2, h2', q2, q3⟩ := step i d e h hd hi
      dsimp only
      rw [q1]
      dsimp only
      obtain ⟨e', h', r1, r2⟩ := for_list ds Inv rd step n (i + 1) e2 h2' (by omega) (by omega) q3
      rcases q2 with q2 | q2
      · rw [q2]
        exact ⟨e', h', r1, r2⟩
      · rw [q2]
        exact ⟨e', h', r1, r2⟩
end MP
namespace MP
open PySem PySem.Spec PyProof.Rows L2
section
variable {i : Nat} {x : Option D} {e : En} {h : AH}
theorem w_succ : varE (i + 1) (x :: e) h = varE i e h := rfl
theorem w_ref {r : Nat} : varE 0 (some (.ref r) :: e) h = .ok (.ref r) h := rfl
theorem w_int {r : Int} : varE 0 (some (.int r) :: e) h = .ok (.int r) h := rfl
theorem w_str {r : Str} : varE 0 (some (.str r) :: e) h = .ok (.str r) h := rfl
theorem w_bl {r : Bool} : varE 0 (some (.bl r) :: e) h = .ok (.bl r) h := rfl
theorem w_non : varE 0 (some .non :: e) h = .ok .non h := rfl
theorem w_tup {r : List D} : varE 0 (some (.tup r) :: e) h = .ok (.tup r) h := rfl
theorem w_fn {r : Nat} : varE 0 (some (.fn r) :: e) h = .ok (.fn r) h := rfl
theorem w_err {r : Nat} {fs : List (Str × D)} : varE 0 (some (.err r fs) :: e) h = .ok (.err r fs) h := rfl
theorem w_any {d : D} (n : d ≠ .thk) : varE 0 (some d :: e) h = .ok d h := by
  unfold varE
  cases d <;> first | rfl | exact absurd rfl n
end
def SR.then (r : SR) (f : En → AH → SR) : SR := match r with
  | .nx e h => f e h
  | r => r
section
variable {c : Cg} {e : En} {h : AH}
theorem v_lc {f : Ex} {t : Tg} {it : It} {cs : Exs} : (sx c (.lc f t it cs)).v e h = (sxi c it e h).bind fun I h => (lcGo t (tgVars t) I (conT (sxs c cs)) (sx c f).v e I.turns 0 [] h).bind fun ds h => MP.alloc (.lst ds) h := by rw [sx]; rfl
theorem t_cmp {o : Cop} {a b : Ex} : (sx c (.cmp o a b)).t e h = asB (((sx c a).v e h).bind fun x h => ((sx c b).v e h).bind fun y h => cmpD o x y h) := by rw [sx]; rfl
theorem i_rng1 {a : Ex} : sxi c (.rng1 a) e h = ((sx c a).v e h).bind fun x h => itRng (.int 0) x h := by rw [sxi]
theorem v_int {i : Int} : (sx c (.int i)).v e h = .ok (.int i) h := by rw [sx]; rfl
theorem x_ifs {t : Ex} {a b : Sts} : ex c (.ifs t a b) e h = onE ((sx c t).t e h) e fun k h => if k = true then exs c a e h else exs c b e h := by rw [ex]
theorem x_for {t : Tg} {it : It} {b : Sts} : ex c (.for t it b) e h = onE (sxi c it e h) e fun I h => forGo t I (fun e h => exs c b e h) I.turns 0 e h := by rw [ex]
theorem x_cons {s : MP.St} {ss : Sts} : exs c (.cons s ss) e h = (ex c s e h).then fun e h => exs c ss e h := by
  rw [exs]
  cases ex c s e h <;> rfl
theorem nx_then {f : En → AH → SR} : (SR.nx e h).then f = f e h := rfl
theorem rt_then {d : D} {f : En → AH → SR} : (SR.rt d h).then f = .rt d h := rfl
theorem x_nil : exs c .nil e h = .nx e h := by rw [exs]
theorem r_ok {α β : Type} {a : α} {f : α → AH → Res β} : (Res.ok a h).bind f = f a h := rfl
theorem o_ok {α : Type} {a : α} {f : α → AH → SR} : onE (Res.ok a h) e f = f a h := rfl
end
/-! ### data, as the heap grows -/
theorem mapM_app {n : Nat} {h l : AH} (ih : ∀ {d : D} {p : PyData}, toP n h d = some p → toP n (h ++ l) d = some p) : ∀ {ds : List D} {ps : List PyData}, ds.mapM (toP n h) = some ps → ds.mapM (toP n (h ++ l)) = some ps
  | [], ps, e => e
  | d :: ds, ps, e => by
    rw [List.mapM_cons] at e ⊢
    cases e1 : toP n h d with
    | none => rw [e1] at e; cases e
    | some p =>
      cases e2 : ds.mapM (toP n h) with
      | none => rw [e1, e2] at e; cases e
      | some qs =>
        rw [e1, e2] at e
        rw [ih e1, mapM_app ih e2]
        exact e
theorem toP_app {h l : AH} : ∀ {n : Nat} {d : D} {p : PyData}, toP n h d = some p → toP n (h ++ l) d = some p
  | 0, d, p, e => by cases e
  | n + 1, d, p, e => by
    cases d with
    | tup ds =>
      simp only [toP, Option.map_eq_some_iff] at e ⊢
      obtain ⟨ps, e1, e2⟩ := e
      exact ⟨ps, mapM_app (fun q => toP_app q) e1, e2⟩
    | ref r =>
      cases hr : h[r]? with
      | none => simp only [toP, hr] at e; cases e
      | some c =>
        simp only [toP, get_app (l := l) hr]
        simp only [toP, hr] at e
        cases c with
        | lst ds =>
          simp only [Option.map_eq_some_iff] at e ⊢
          obtain ⟨ps, e1, e2⟩ := e
          exact ⟨ps, mapM_app (fun q => toP_app q) e1, e2⟩
        | fls ds =>
          simp only [Option.map_eq_some_iff] at e ⊢
          obtain ⟨ps, e1, e2⟩ := e
          exact ⟨ps, mapM_app (fun q => toP_app q) e1, e2⟩
        | _ => cases e
    | _ => exact e
/-- small data -/
def nice (P : PyData) : Bool := P.showable && P.canLay0 && decide (P.depth ≤ 5) && decide (P.weight ≤ 300) && P.leavesShort 60
theorem nice_all : ∀ {Ps : List PyData}, (∀ P ∈ Ps, nice P = true) → PyData.showableAll Ps = true ∧ PyData.canLayAll0 Ps = true ∧ PyData.depthAll Ps ≤ 5 ∧ PyData.weightAll Ps ≤ 301 * Ps.length ∧ PyData.leavesShortAll 60 Ps = true
  | [], _ => ⟨rfl, rfl, Nat.zero_le _, Nat.zero_le _, rfl⟩
  | P :: Ps, h => by
    obtain ⟨a, b, c, d, e⟩ := nice_all (Ps := Ps) fun Q hQ => h Q (List.mem_cons_of_mem _ hQ)
    have hP := h P List.mem_cons_self
    unfold nice at hP
    simp only [Bool.and_eq_true, decide_eq_true_eq] at hP
    obtain ⟨⟨⟨⟨p1, p2⟩, p3⟩, p4⟩, p5⟩ := hP
    refine ⟨by simp [PyData.showableAll, p1, a], by simp [PyData.canLayAll0, p2, b], ?_, ?_, by simp [PyData.leavesShortAll, p5, e]⟩
    · simp only [PyData.depthAll]; omega
    · simp only [PyData.weightAll, List.length_cons]; omega
theorem repr_list {h : AH} {r : Nat} {Ps : List PyData} (e : toP dep h (.ref r) = some (.list Ps)) (n : ∀ P ∈ Ps, nice P = true) (hl : Ps.length ≤ 100) : biD .repr [.ref r] h = .ok (.str (PyData.list Ps).shown) h := by
  obtain ⟨a, b, c, d, f⟩ := nice_all n
  have hs := PyData.shown_le 60 (by decide) (.list Ps) (by simpa only [PyData.leavesShort] using f)
  have hw : (PyData.list Ps).weight = PyData.weightAll Ps := by simp only [PyData.weight]
  have hz : (PyData.list Ps).shown.length ≤ sizeLine := by
    rw [hw] at hs
    rw [sizeLine_eq]
    omega
  unfold biD
  dsimp only
  rw [e]
  dsimp only
  have c1 : (PyData.list Ps).showable = true := by simpa only [PyData.showable] using a
  have c2 : (PyData.list Ps).canLay0 = true := by simpa only [PyData.canLay0] using b
  have c3 : (PyData.list Ps).depth ≤ 40 := by simp only [PyData.depth]; omega
  rw [c1, c2]
  simp [c3, hz]
theorem toP_lst {n : Nat} {h : AH} {r : Nat} {ds : List D} {Ps : List PyData} (e : h[r]? = some (.lst ds)) (m : ds.mapM (toP n h) = some Ps) : toP (n + 1) h (.ref r) = some (.list Ps) := by
  have z : toP (n + 1) h (.ref r) = (match h[r]? with
      | some (.lst ds) => (ds.mapM (toP n h)).map .list
      | some (.fls ds) => (ds.mapM (toP n h)).map .list
      | _ => none) := rfl
  rw [z, e]
  dsimp only
  rw [m]
  rfl
/-- lists of bools -/
theorem bools_mapM {n : Nat} {h : AH} : ∀ bs : List Bool, (bs.map D.bl).mapM (toP (n + 1) h) = some (bs.map PyData.bool)
  | [] => rfl
  | b :: bs => by
    rw [List.map_cons, List.mapM_cons, bools_mapM bs]
    rfl
theorem bools_can : ∀ bs : List Bool, PyData.canLayAll0 (bs.map PyData.bool) = true ∧ PyData.depthAll (bs.map PyData.bool) = 0
  | [] => ⟨rfl, rfl⟩
  | b :: bs => by
    obtain ⟨a, c⟩ := bools_can bs
    exact ⟨by simp [PyData.canLayAll0, PyData.canLay0, a], by simp [PyData.depthAll, PyData.depth, c]⟩
theorem bools_eqv : ∀ bs cs : List Bool, PyData.eqvAll (bs.map PyData.bool) (cs.map PyData.bool) = decide (bs = cs)
  | [], [] => rfl
  | [], _ :: _ => by simp [PyData.eqvAll]
  | _ :: _, [] => by simp [PyData.eqvAll]
  | b :: bs, c :: cs => by
    simp only [List.map_cons, PyData.eqvAll, bools_eqv bs cs, PyData.eqv]
    by_cases h1 : b = c <;> by_cases h2 : bs = cs <;> simp [h1, h2]
theorem eq_bools {h : AH} {p q : Nat} {bs cs : List Bool} (hp : h[p]? = some (.lst (bs.map D.bl))) (hq : h[q]? = some (.lst (cs.map D.bl))) : eqQ h (.ref p) (.ref q) = some (decide (bs = cs)) := by
  show eqD h (.ref p) (.ref q) = _
  unfold eqD
  rw [show dep = 38 + 1 + 1 from rfl, toP_lst hp (bools_mapM bs), toP_lst hq (bools_mapM cs)]
  dsimp only
  have s : ∀ l : List Bool, SeqAt.shaped (.list (l.map PyData.bool)) = true := fun l => by
    obtain ⟨a, c⟩ := bools_can l
    unfold SeqAt.shaped
    simp [PyData.canLay0, PyData.depth, a, c]
  rw [s, s]
  show some (PyData.eqvAll _ _) = _
  rw [bools_eqv]
/-- a comprehension that leaves the heap as it is -/
theorem lc_pure {t : Tg} {vs : List Nat} {I : Itr} {c : En → AH → Res Bool} {f : En → AH → Res D} {e : En} {g : AH} (ds : List D) (E : D → En) (keep : D → Bool) (val : D → D) (rd : I.rd g = some ds) (hb : ∀ d ∈ ds, bindTg t d (wipeE e vs) = some (E d)) (hc : ∀ d ∈ ds, c (E d) g = .ok (keep d) g)
    (hf : ∀ d ∈ ds, keep d = true → f (E d) g = .ok (val d) g) : ∀ (n i : Nat) (acc : List D), ds.length < n + i → i ≤ ds.length → acc.length + (ds.length - i) ≤ sizeLine → lcGo t vs I c f e n i acc g = .ok (acc ++ ((ds.drop i).filter keep).map val) g
  | 0, i, acc, h1, h2, _ => by omega
  | n + 1, i, acc, h1, h2, hz => by
    unfold lcGo
    rw [rd]
    dsimp only
    cases hd : ds[i]? with
    | none =>
      have hl := List.getElem?_eq_none_iff.mp hd
      rw [List.drop_eq_nil_of_le hl]
      simp
    | some d =>
      have hl := (List.getElem?_eq_some_iff.mp hd).1
      have hm := List.mem_of_getElem? hd
      have hdr : ds.drop i = d :: ds.drop (i + 1) := by
        rw [List.drop_eq_getElem_cons hl]
        rw [(List.getElem?_eq_some_iff.mp hd).2]
      dsimp only
      rw [hb d hm]
      dsimp only
      rw [hc d hm, hdr]
      cases hk : keep d with
      | false =>
        dsimp only
        rw [lc_pure ds E keep val rd hb hc hf n (i + 1) acc (by omega) (by omega) (by omega), List.filter_cons_of_neg (by rw [hk]; simp)]
      | true =>
        dsimp only
        rw [hf d hm hk]
        dsimp only
        rw [if_pos (by omega), lc_pure ds E keep val rd hb hc hf n (i + 1) (acc ++ [val d]) (by omega) (by omega) (by simp; omega), List.filter_cons_of_pos hk]
        simp
end MP
namespace MPL
open PySem PySem.Spec PyProof.Rows L2 MP
/-! ### the program, as data -/
def top (i : Nat) : Stmt := PySem.Challenge.pw_howevermany_k01_errors.main.body.getD i (.Pass ⟨0, 0, 0, 0⟩)
def inner (st : Stmt) (j : Nat) : Stmt := match st with
  | .ClassDef _ _ _ b _ _ _ _ _ _ _ => b.getD j (.Pass ⟨0, 0, 0, 0⟩)
  | s => s
def dArgs (st : Stmt) : Arguments := match st with
  | .FunctionDef _ a _ _ _ _ _ _ _ _ => a
  | _ => ⟨[], [], none, [], [], none, []⟩
def dBody (st : Stmt) : List Stmt := match st with
  | .FunctionDef _ _ b _ _ _ _ _ _ _ => b
  | _ => []
def dScope (st : Stmt) : Scope := match st with
  | .FunctionDef _ _ _ _ _ _ sc _ _ _ => sc
  | _ => ⟨.function, [], false, false, []⟩
def T : Tb := { gl := [], fs := (["_law_pen", "_law_draw", "_law_pick", "_law_value", "_law_fields", "_law_made_errors", "_law_kinds", "law"] : List Str), cs := ([] : List Str), er := (["CrowdError", "BadText", "BadName", "BadNumber", "BadRow", "NoName", "TakenName", "Unlike", "NotThere", "TooMany", "NotKept", "NothingToUndo", "NothingToRedo"] : List Str), fns := ([] : List Str), ms := [], efs := (["limit", "line", "many", "name", "number", "promise", "row", "what", "witness", "word"] : List Str), lam := false, mkx := true }
/-! _law_pen -/
def b0 : Sts := (.cons (.asg (.var 1) (.int 53)) (.cons (.for (.var 2) (.ex (.var 0)) (.cons (.asg (.var 1) (.bin .mod (.bi .int (.cons (.bin .add (.bin .mul (.var 1) (.int 157)) (.var 2)) .nil)) (.int 1000000483))) .nil)) (.cons (.ret (.dct (.cons (.str "cells") (.cons (.str "at") (.cons (.str "digits") (.cons (.str "count") (.cons (.str "fold") .nil))))) (.cons (.bi .lst (.cons (.var 0) .nil)) (.cons (.int 0) (.cons (.int 0) (.cons (.int 0) (.cons (.var 1) .nil))))))) .nil)))
def n0 : List Str := (["script", "fold", "cell"] : List Str)
def f0 : Fd := ⟨1, 3, [], b0⟩
def x0 : He.DefD := ⟨("_law_pen", none), "_law_pen", "_law_pen", dArgs (top 15), dBody (top 15), dScope (top 15), [], []⟩
theorem c0 : chSs T n0 (dScope (top 15)) b0 (dBody (top 15)) = true := by decide +kernel
theorem s0 : FnScope n0 (["script"] : List Str) (dScope (top 15)) := ⟨rfl, rfl, rfl, by decide +kernel, rfl, by decide +kernel, by decide +kernel⟩
theorem F0 {K : PySem.W.Frag} {mg : Str → Option Value} {base : Heap} {Z : Wd} {f : Addr} {fu : FuncData} (F : FunD K x0.name x0.qual x0.params x0.body x0.scope [] [] f fu) : FnF K mg base T Z f f0 :=
  .plain (N := n0) (ps := (["script"] : List Str)) F s0 rfl rfl rfl c0 (F.bindsN fun _ _ _ _ _ _ us hl => match us, hl with | [_], _ => rfl)
/-! _law_draw -/
def b1 : Sts := (.cons (.asg (.idx (.var 0) (.str "count")) (.bin .add (.idx (.var 0) (.str "count")) (.int 1))) (.cons (.ifs (.and (.cons (.cmp .eq (.idx (.var 0) (.str "digits")) (.int 0)) (.cons (.cmp .lt (.idx (.var 0) (.str "at")) (.bi .len (.cons (.idx (.var 0) (.str "cells")) .nil))) .nil))) (.cons (.asg (.var 2) (.idx (.idx (.var 0) (.str "cells")) (.idx (.var 0) (.str "at")))) (.cons (.asg (.idx (.var 0) (.str "at")) (.bin .add (.idx (.var 0) (.str "at")) (.int 1))) (.cons (.ifs (.cmp .ge (.var 2) (.bin .pow (.int 10) (.int 18))) (.cons (.asg (.idx (.var 0) (.str "digits")) (.bin .sub (.var 2) (.bin .pow (.int 10) (.int 18)))) .nil) (.cons (.asg (.idx (.var 0) (.str "fold")) (.bin .mod (.bi .int (.cons (.bin .add (.bin .mul (.idx (.var 0) (.str "fold")) (.int 70139)) (.var 2)) .nil)) (.int 2147483059))) .nil)) .nil))) .nil) (.cons (.ifs (.cmp .gt (.idx (.var 0) (.str "digits")) (.int 0)) (.cons (.asg (.var 3) (.bin .mod (.bi .int (.cons (.idx (.var 0) (.str "digits")) .nil)) (.var 1))) (.cons (.asg (.idx (.var 0) (.str "digits")) (.bin .fdiv (.idx (.var 0) (.str "digits")) (.var 1))) (.cons (.ret (.var 3)) .nil))) .nil) (.cons (.asg (.var 4) (.bin .add (.bin .add (.idx (.var 0) (.str "fold")) (.bin .mul (.idx (.var 0) (.str "count")) (.int 7927))) (.int 89))) (.cons (.ret (.bin .mod (.bin .fdiv (.bi .int (.cons (.bin .mod (.bin .pow (.var 4) (.int 17)) (.int 2305843009213693951)) .nil)) (.int 128)) (.var 1))) .nil)))))
def n1 : List Str := (["pen", "many", "cell", "digit", "blend"] : List Str)
def f1 : Fd := ⟨2, 5, [], b1⟩
def x1 : He.DefD := ⟨("_law_draw", none), "_law_draw", "_law_draw", dArgs (top 16), dBody (top 16), dScope (top 16), [], []⟩
theorem c1 : chSs T n1 (dScope (top 16)) b1 (dBody (top 16)) = true := by decide +kernel
theorem s1 : FnScope n1 (["pen", "many"] : List Str) (dScope (top 16)) := ⟨rfl, rfl, rfl, by decide +kernel, rfl, by decide +kernel, by decide +kernel⟩
theorem F1 {K : PySem.W.Frag} {mg : Str → Option Value} {base : Heap} {Z : Wd} {f : Addr} {fu : FuncData} (F : FunD K x1.name x1.qual x1.params x1.body x1.scope [] [] f fu) : FnF K mg base T Z f f1 :=
  .plain (N := n1) (ps := (["pen", "many"] : List Str)) F s1 rfl rfl rfl c1 (F.bindsN fun _ _ _ _ _ _ us hl => match us, hl with | [_, _], _ => rfl)
/-! _law_pick -/
def b2 : Sts := (.cons (.ret (.idx (.var 1) (.call 1 (.cons (.var 0) (.cons (.bi .len (.cons (.var 1) .nil)) .nil))))) .nil)
def n2 : List Str := (["pen", "some"] : List Str)
def f2 : Fd := ⟨2, 2, [], b2⟩
def x2 : He.DefD := ⟨("_law_pick", none), "_law_pick", "_law_pick", dArgs (top 17), dBody (top 17), dScope (top 17), [], []⟩
theorem c2 : chSs T n2 (dScope (top 17)) b2 (dBody (top 17)) = true := by decide +kernel
theorem s2 : FnScope n2 (["pen", "some"] : List Str) (dScope (top 17)) := ⟨rfl, rfl, rfl, by decide +kernel, rfl, by decide +kernel, by decide +kernel⟩
theorem F2 {K : PySem.W.Frag} {mg : Str → Option Value} {base : Heap} {Z : Wd} {f : Addr} {fu : FuncData} (F : FunD K x2.name x2.qual x2.params x2.body x2.scope [] [] f fu) : FnF K mg base T Z f f2 :=
  .plain (N := n2) (ps := (["pen", "some"] : List Str)) F s2 rfl rfl rfl c2 (F.bindsN fun _ _ _ _ _ _ us hl => match us, hl with | [_, _], _ => rfl)
/-! _law_value -/
def b3 : Sts := (.cons (.ret (.call 2 (.cons (.var 0) (.cons (.lst (.cons (.str "") (.cons (.str "a") (.cons (.int 0) (.cons (.neg (.int 1)) (.cons (.bl true) (.cons .non (.cons (.tup .nil) (.cons (.tup (.cons (.str "a") (.cons (.int 1) .nil))) (.cons (.lst (.cons (.int 1) (.cons (.str "b") .nil))) (.cons (.lst .nil) (.cons (.bin .pow (.int 10) (.int 40)) (.cons (.tup (.cons (.tup (.cons (.str "x") (.cons (.int 2) .nil))) (.cons .non .nil))) .nil))))))))))))) .nil)))) .nil)
def n3 : List Str := (["pen"] : List Str)
def f3 : Fd := ⟨1, 1, [], b3⟩
def x3 : He.DefD := ⟨("_law_value", none), "_law_value", "_law_value", dArgs (top 18), dBody (top 18), dScope (top 18), [], []⟩
theorem c3 : chSs T n3 (dScope (top 18)) b3 (dBody (top 18)) = true := by decide +kernel
theorem s3 : FnScope n3 (["pen"] : List Str) (dScope (top 18)) := ⟨rfl, rfl, rfl, by decide +kernel, rfl, by decide +kernel, by decide +kernel⟩
theorem F3 {K : PySem.W.Frag} {mg : Str → Option Value} {base : Heap} {Z : Wd} {f : Addr} {fu : FuncData} (F : FunD K x3.name x3.qual x3.params x3.body x3.scope [] [] f fu) : FnF K mg base T Z f f3 :=
  .plain (N := n3) (ps := (["pen"] : List Str)) F s3 rfl rfl rfl c3 (F.bindsN fun _ _ _ _ _ _ us hl => match us, hl with | [_], _ => rfl)
/-! _law_fields -/
def b4 : Sts := (.cons (.asg (.var 2) (.lst .nil)) (.cons (.for (.var 3) (.ex (.var 1)) (.cons (.ifs (.cmp .eq (.var 3) (.str "line")) (.cons (.exp (.mth .append (.var 2) (.cons (.atx (.var 0) "line") .nil))) .nil) (.cons (.ifs (.cmp .eq (.var 3) (.str "word")) (.cons (.exp (.mth .append (.var 2) (.cons (.atx (.var 0) "word") .nil))) .nil) (.cons (.ifs (.cmp .eq (.var 3) (.str "name")) (.cons (.exp (.mth .append (.var 2) (.cons (.atx (.var 0) "name") .nil))) .nil) (.cons (.ifs (.cmp .eq (.var 3) (.str "what")) (.cons (.exp (.mth .append (.var 2) (.cons (.atx (.var 0) "what") .nil))) .nil) (.cons (.ifs (.cmp .eq (.var 3) (.str "number")) (.cons (.exp (.mth .append (.var 2) (.cons (.atx (.var 0) "number") .nil))) .nil) (.cons (.ifs (.cmp .eq (.var 3) (.str "row")) (.cons (.exp (.mth .append (.var 2) (.cons (.atx (.var 0) "row") .nil))) .nil) (.cons (.ifs (.cmp .eq (.var 3) (.str "many")) (.cons (.exp (.mth .append (.var 2) (.cons (.atx (.var 0) "many") .nil))) .nil) (.cons (.ifs (.cmp .eq (.var 3) (.str "limit")) (.cons (.exp (.mth .append (.var 2) (.cons (.atx (.var 0) "limit") .nil))) .nil) (.cons (.ifs (.cmp .eq (.var 3) (.str "promise")) (.cons (.exp (.mth .append (.var 2) (.cons (.atx (.var 0) "promise") .nil))) .nil) (.cons (.exp (.mth .append (.var 2) (.cons (.atx (.var 0) "witness") .nil))) .nil)) .nil)) .nil)) .nil)) .nil)) .nil)) .nil)) .nil)) .nil)) .nil)) (.cons (.ret (.var 2)) .nil)))
def n4 : List Str := (["one", "names", "found", "name"] : List Str)
def f4 : Fd := ⟨2, 4, [], b4⟩
def x4 : He.DefD := ⟨("_law_fields", none), "_law_fields", "_law_fields", dArgs (top 19), dBody (top 19), dScope (top 19), [], []⟩
theorem c4 : chSs T n4 (dScope (top 19)) b4 (dBody (top 19)) = true := by decide +kernel
theorem s4 : FnScope n4 (["one", "names"] : List Str) (dScope (top 19)) := ⟨rfl, rfl, rfl, by decide +kernel, rfl, by decide +kernel, by decide +kernel⟩
theorem F4 {K : PySem.W.Frag} {mg : Str → Option Value} {base : Heap} {Z : Wd} {f : Addr} {fu : FuncData} (F : FunD K x4.name x4.qual x4.params x4.body x4.scope [] [] f fu) : FnF K mg base T Z f f4 :=
  .plain (N := n4) (ps := (["one", "names"] : List Str)) F s4 rfl rfl rfl c4 (F.bindsN fun _ _ _ _ _ _ us hl => match us, hl with | [_, _], _ => rfl)
/-! _law_made_errors -/
def b5 : Sts := (.cons (.asg (.var 3) (.lst (.cons (.tup (.cons (.mke 1 (.cons (.var 0) (.cons (.var 1) .nil))) (.cons (.lst (.cons (.str "line") (.cons (.str "word") .nil))) .nil))) (.cons (.tup (.cons (.mke 2 (.cons (.var 0) .nil)) (.cons (.lst (.cons (.str "name") .nil)) .nil))) (.cons (.tup (.cons (.mke 3 (.cons (.var 0) (.cons (.var 1) .nil))) (.cons (.lst (.cons (.str "what") (.cons (.str "number") .nil))) .nil))) .nil))))) (.cons (.asg (.var 3) (.bin .add (.var 3) (.lst (.cons (.tup (.cons (.mke 4 (.cons (.var 0) (.cons (.var 1) .nil))) (.cons (.lst (.cons (.str "what") (.cons (.str "row") .nil))) .nil))) (.cons (.tup (.cons (.mke 5 (.cons (.var 0) .nil)) (.cons (.lst (.cons (.str "name") .nil)) .nil))) (.cons (.tup (.cons (.mke 6 (.cons (.var 0) .nil)) (.cons (.lst (.cons (.str "name") .nil)) .nil))) .nil)))))) (.cons (.asg (.var 3) (.bin .add (.var 3) (.lst (.cons (.tup (.cons (.mke 7 (.cons (.var 0) .nil)) (.cons (.lst (.cons (.str "what") .nil)) .nil))) (.cons (.tup (.cons (.mke 8 (.cons (.var 0) .nil)) (.cons (.lst (.cons (.str "what") .nil)) .nil))) (.cons (.tup (.cons (.mke 9 (.cons (.var 0) (.cons (.var 1) (.cons (.var 2) .nil)))) (.cons (.lst (.cons (.str "what") (.cons (.str "many") (.cons (.str "limit") .nil)))) .nil))) .nil)))))) (.cons (.ret (.bin .add (.var 3) (.lst (.cons (.tup (.cons (.mke 10 (.cons (.var 0) (.cons (.var 1) .nil))) (.cons (.lst (.cons (.str "promise") (.cons (.str "witness") .nil))) .nil))) .nil)))) .nil))))
def n5 : List Str := (["one", "two", "three", "rows"] : List Str)
def f5 : Fd := ⟨3, 4, [], b5⟩
def x5 : He.DefD := ⟨("_law_made_errors", none), "_law_made_errors", "_law_made_errors", dArgs (top 20), dBody (top 20), dScope (top 20), [], []⟩
theorem c5 : chSs T n5 (dScope (top 20)) b5 (dBody (top 20)) = true := by decide +kernel
theorem s5 : FnScope n5 (["one", "two", "three"] : List Str) (dScope (top 20)) := ⟨rfl, rfl, rfl, by decide +kernel, rfl, by decide +kernel, by decide +kernel⟩
theorem F5 {K : PySem.W.Frag} {mg : Str → Option Value} {base : Heap} {Z : Wd} {f : Addr} {fu : FuncData} (F : FunD K x5.name x5.qual x5.params x5.body x5.scope [] [] f fu) : FnF K mg base T Z f f5 :=
  .plain (N := n5) (ps := (["one", "two", "three"] : List Str)) F s5 rfl rfl rfl c5 (F.bindsN fun _ _ _ _ _ _ us hl => match us, hl with | [_, _, _], _ => rfl)
/-! _law_kinds -/
def b6 : Sts := (.cons (.asg (.var 1) (.lst (.cons (.isx (.var 0) (some 1)) (.cons (.isx (.var 0) (some 2)) (.cons (.isx (.var 0) (some 3)) (.cons (.isx (.var 0) (some 4)) .nil)))))) (.cons (.asg (.var 1) (.bin .add (.var 1) (.lst (.cons (.isx (.var 0) (some 5)) (.cons (.isx (.var 0) (some 6)) (.cons (.isx (.var 0) (some 7)) (.cons (.isx (.var 0) (some 8)) .nil))))))) (.cons (.asg (.var 1) (.bin .add (.var 1) (.lst (.cons (.isx (.var 0) (some 9)) (.cons (.isx (.var 0) (some 10)) (.cons (.isx (.var 0) (some 11)) .nil)))))) (.cons (.ret (.bin .add (.var 1) (.lst (.cons (.isx (.var 0) (some 12)) .nil)))) .nil))))
def n6 : List Str := (["one", "found"] : List Str)
def f6 : Fd := ⟨1, 2, [], b6⟩
def x6 : He.DefD := ⟨("_law_kinds", none), "_law_kinds", "_law_kinds", dArgs (top 21), dBody (top 21), dScope (top 21), [], []⟩
theorem c6 : chSs T n6 (dScope (top 21)) b6 (dBody (top 21)) = true := by decide +kernel
theorem s6 : FnScope n6 (["one"] : List Str) (dScope (top 21)) := ⟨rfl, rfl, rfl, by decide +kernel, rfl, by decide +kernel, by decide +kernel⟩
theorem F6 {K : PySem.W.Frag} {mg : Str → Option Value} {base : Heap} {Z : Wd} {f : Addr} {fu : FuncData} (F : FunD K x6.name x6.qual x6.params x6.body x6.scope [] [] f fu) : FnF K mg base T Z f f6 :=
  .plain (N := n6) (ps := (["one"] : List Str)) F s6 rfl rfl rfl c6 (F.bindsN fun _ _ _ _ _ _ us hl => match us, hl with | [_], _ => rfl)
/-! law -/
def b7 : Sts := (.cons (.asg (.var 1) (.call 0 (.cons (.var 0) .nil))) (.cons (.asg (.var 2) (.lst (.cons (.call 3 (.cons (.var 1) .nil)) (.cons (.call 3 (.cons (.var 1) .nil)) (.cons (.call 3 (.cons (.var 1) .nil)) .nil))))) (.cons (.for (.tup [3, 4]) (.enum (.bin .add (.call 5 (.cons (.idx (.var 2) (.int 0)) (.cons (.idx (.var 2) (.int 1)) (.cons (.idx (.var 2) (.int 2)) .nil)))) (.lst (.cons (.tup (.cons (.mke 11 .nil) (.cons (.lst .nil) .nil))) (.cons (.tup (.cons (.mke 12 .nil) (.cons (.lst .nil) .nil))) .nil))))) (.cons (.asg (.tup [5, 6]) (.var 4)) (.cons (.ifs (.or (.cons (.not (.isx (.var 5) (some 0))) (.cons (.not (.isx (.var 5) none)) .nil))) (.cons (.ret (.bl false)) .nil) .nil) (.cons (.asg (.var 7) (.slc (.var 2) .no (.yes (.bi .len (.cons (.var 6) .nil))))) (.cons (.ifs (.cmp .ne (.bi .repr (.cons (.call 4 (.cons (.var 5) (.cons (.var 6) .nil))) .nil)) (.bi .repr (.cons (.var 7) .nil))) (.cons (.ret (.bl false)) .nil) .nil) (.cons (.ifs (.cmp .ne (.call 6 (.cons (.var 5) .nil)) (.lc (.cmp .eq (.var 8) (.var 3)) (.var 8) (.rng1 (.int 12)) .nil)) (.cons (.ret (.bl false)) .nil) .nil) .nil)))))) (.cons (.asg (.var 9) (.lst (.cons (.int 1) (.cons (.lst (.cons (.int 2) .nil)) .nil)))) (.cons (.asg (.var 10) (.mke 4 (.cons (.str "x") (.cons (.var 9) .nil)))) (.cons (.exp (.mth .append (.var 9) (.cons (.int 3) .nil))) (.cons (.ifs (.cmp .ne (.atx (.var 10) "row") (.lst (.cons (.int 1) (.cons (.lst (.cons (.int 2) .nil)) (.cons (.int 3) .nil))))) (.cons (.ret (.bl false)) .nil) .nil) (.cons (.asg (.var 11) (.lst .nil)) (.cons (.try (.cons (.rse 8 (.cons (.lst (.cons (.int 1) (.cons (.lst (.cons (.int 2) .nil)) (.cons (.int 3) .nil)))) .nil)) .nil) (.cons 0 (some 12) (.cons (.exp (.mth .append (.var 11) (.cons (.and (.cons (.isx (.var 12) none) (.cons (.isx (.var 12) (some 8)) (.cons (.cmp .eq (.att (.var 12) "what") (.lst (.cons (.int 1) (.cons (.lst (.cons (.int 2) .nil)) (.cons (.int 3) .nil))))) .nil)))) .nil))) .nil) .nil)) (.cons (.ret (.cmp .eq (.var 11) (.lst (.cons (.bl true) .nil)))) .nil))))))))))
def n7 : List Str := (["script", "pen", "values", "at", "made", "one", "names", "due", "place", "kept", "last", "found", "told"] : List Str)
def f7 : Fd := ⟨1, 13, [], b7⟩
def x7 : He.DefD := ⟨("law", none), "law", "law", dArgs (top 22), dBody (top 22), dScope (top 22), [], []⟩
theorem c7 : chSs T n7 (dScope (top 22)) b7 (dBody (top 22)) = true := by decide +kernel
theorem s7 : FnScope n7 (["script"] : List Str) (dScope (top 22)) := ⟨rfl, rfl, rfl, by decide +kernel, rfl, by decide +kernel, by decide +kernel⟩
theorem F7 {K : PySem.W.Frag} {mg : Str → Option Value} {base : Heap} {Z : Wd} {f : Addr} {fu : FuncData} (F : FunD K x7.name x7.qual x7.params x7.body x7.scope [] [] f fu) : FnF K mg base T Z f f7 :=
  .plain (N := n7) (ps := (["script"] : List Str)) F s7 rfl rfl rfl c7 (F.bindsN fun _ _ _ _ _ _ us hl => match us, hl with | [_], _ => rfl)
def y1 : He.DefD := ⟨("BadText", some "__init__"), "__init__", "BadText.__init__", dArgs (inner (top 2) 0), dBody (inner (top 2) 0), dScope (inner (top 2) 0), [], []⟩
theorem t1 : FnScope (["self", "line", "word"] : List Str) (["self", "line", "word"] : List Str) (dScope (inner (top 2) 0)) := ⟨rfl, rfl, rfl, by decide +kernel, rfl, by decide +kernel, by decide +kernel⟩
theorem i1 : chIn (["self", "line", "word"] : List Str) (dScope (inner (top 2) 0)) (["line", "word"] : List Str) 1 (dBody (inner (top 2) 0)) = true := by decide +kernel
theorem G1 {K : PySem.W.Frag} {f : Addr} {fu : FuncData} (F : FunD K y1.name y1.qual y1.params y1.body y1.scope [] [] f fu) : Binds K fu (["self", "line", "word"] : List Str) [] :=
  F.bindsN fun _ _ _ _ _ _ us hl => match us, hl with | [_, _, _], _ => rfl
def y2 : He.DefD := ⟨("BadName", some "__init__"), "__init__", "BadName.__init__", dArgs (inner (top 3) 0), dBody (inner (top 3) 0), dScope (inner (top 3) 0), [], []⟩
theorem t2 : FnScope (["self", "name"] : List Str) (["self", "name"] : List Str) (dScope (inner (top 3) 0)) := ⟨rfl, rfl, rfl, by decide +kernel, rfl, by decide +kernel, by decide +kernel⟩
theorem i2 : chIn (["self", "name"] : List Str) (dScope (inner (top 3) 0)) (["name"] : List Str) 1 (dBody (inner (top 3) 0)) = true := by decide +kernel
theorem G2 {K : PySem.W.Frag} {f : Addr} {fu : FuncData} (F : FunD K y2.name y2.qual y2.params y2.body y2.scope [] [] f fu) : Binds K fu (["self", "name"] : List Str) [] :=
  F.bindsN fun _ _ _ _ _ _ us hl => match us, hl with | [_, _], _ => rfl
def y3 : He.DefD := ⟨("BadNumber", some "__init__"), "__init__", "BadNumber.__init__", dArgs (inner (top 4) 0), dBody (inner (top 4) 0), dScope (inner (top 4) 0), [], []⟩
theorem t3 : FnScope (["self", "what", "number"] : List Str) (["self", "what", "number"] : List Str) (dScope (inner (top 4) 0)) := ⟨rfl, rfl, rfl, by decide +kernel, rfl, by decide +kernel, by decide +kernel⟩
theorem i3 : chIn (["self", "what", "number"] : List Str) (dScope (inner (top 4) 0)) (["what", "number"] : List Str) 1 (dBody (inner (top 4) 0)) = true := by decide +kernel
theorem G3 {K : PySem.W.Frag} {f : Addr} {fu : FuncData} (F : FunD K y3.name y3.qual y3.params y3.body y3.scope [] [] f fu) : Binds K fu (["self", "what", "number"] : List Str) [] :=
  F.bindsN fun _ _ _ _ _ _ us hl => match us, hl with | [_, _, _], _ => rfl
def y4 : He.DefD := ⟨("BadRow", some "__init__"), "__init__", "BadRow.__init__", dArgs (inner (top 5) 0), dBody (inner (top 5) 0), dScope (inner (top 5) 0), [], []⟩
theorem t4 : FnScope (["self", "what", "row"] : List Str) (["self", "what", "row"] : List Str) (dScope (inner (top 5) 0)) := ⟨rfl, rfl, rfl, by decide +kernel, rfl, by decide +kernel, by decide +kernel⟩
theorem i4 : chIn (["self", "what", "row"] : List Str) (dScope (inner (top 5) 0)) (["what", "row"] : List Str) 1 (dBody (inner (top 5) 0)) = true := by decide +kernel
theorem G4 {K : PySem.W.Frag} {f : Addr} {fu : FuncData} (F : FunD K y4.name y4.qual y4.params y4.body y4.scope [] [] f fu) : Binds K fu (["self", "what", "row"] : List Str) [] :=
  F.bindsN fun _ _ _ _ _ _ us hl => match us, hl with | [_, _, _], _ => rfl
def y5 : He.DefD := ⟨("NoName", some "__init__"), "__init__", "NoName.__init__", dArgs (inner (top 6) 0), dBody (inner (top 6) 0), dScope (inner (top 6) 0), [], []⟩
theorem t5 : FnScope (["self", "name"] : List Str) (["self", "name"] : List Str) (dScope (inner (top 6) 0)) := ⟨rfl, rfl, rfl, by decide +kernel, rfl, by decide +kernel, by decide +kernel⟩
theorem i5 : chIn (["self", "name"] : List Str) (dScope (inner (top 6) 0)) (["name"] : List Str) 1 (dBody (inner (top 6) 0)) = true := by decide +kernel
theorem G5 {K : PySem.W.Frag} {f : Addr} {fu : FuncData} (F : FunD K y5.name y5.qual y5.params y5.body y5.scope [] [] f fu) : Binds K fu (["self", "name"] : List Str) [] :=
  F.bindsN fun _ _ _ _ _ _ us hl => match us, hl with | [_, _], _ => rfl
def y6 : He.DefD := ⟨("TakenName", some "__init__"), "__init__", "TakenName.__init__", dArgs (inner (top 7) 0), dBody (inner (top 7) 0), dScope (inner (top 7) 0), [], []⟩
theorem t6 : FnScope (["self", "name"] : List Str) (["self", "name"] : List Str) (dScope (inner (top 7) 0)) := ⟨rfl, rfl, rfl, by decide +kernel, rfl, by decide +kernel, by decide +kernel⟩
theorem i6 : chIn (["self", "name"] : List Str) (dScope (inner (top 7) 0)) (["name"] : List Str) 1 (dBody (inner (top 7) 0)) = true := by decide +kernel
theorem G6 {K : PySem.W.Frag} {f : Addr} {fu : FuncData} (F : FunD K y6.name y6.qual y6.params y6.body y6.scope [] [] f fu) : Binds K fu (["self", "name"] : List Str) [] :=
  F.bindsN fun _ _ _ _ _ _ us hl => match us, hl with | [_, _], _ => rfl
def y7 : He.DefD := ⟨("Unlike", some "__init__"), "__init__", "Unlike.__init__", dArgs (inner (top 8) 0), dBody (inner (top 8) 0), dScope (inner (top 8) 0), [], []⟩
theorem t7 : FnScope (["self", "what"] : List Str) (["self", "what"] : List Str) (dScope (inner (top 8) 0)) := ⟨rfl, rfl, rfl, by decide +kernel, rfl, by decide +kernel, by decide +kernel⟩
theorem i7 : chIn (["self", "what"] : List Str) (dScope (inner (top 8) 0)) (["what"] : List Str) 1 (dBody (inner (top 8) 0)) = true := by decide +kernel
theorem G7 {K : PySem.W.Frag} {f : Addr} {fu : FuncData} (F : FunD K y7.name y7.qual y7.params y7.body y7.scope [] [] f fu) : Binds K fu (["self", "what"] : List Str) [] :=
  F.bindsN fun _ _ _ _ _ _ us hl => match us, hl with | [_, _], _ => rfl
def y8 : He.DefD := ⟨("NotThere", some "__init__"), "__init__", "NotThere.__init__", dArgs (inner (top 9) 0), dBody (inner (top 9) 0), dScope (inner (top 9) 0), [], []⟩
theorem t8 : FnScope (["self", "what"] : List Str) (["self", "what"] : List Str) (dScope (inner (top 9) 0)) := ⟨rfl, rfl, rfl, by decide +kernel, rfl, by decide +kernel, by decide +kernel⟩
theorem i8 : chIn (["self", "what"] : List Str) (dScope (inner (top 9) 0)) (["what"] : List Str) 1 (dBody (inner (top 9) 0)) = true := by decide +kernel
theorem G8 {K : PySem.W.Frag} {f : Addr} {fu : FuncData} (F : FunD K y8.name y8.qual y8.params y8.body y8.scope [] [] f fu) : Binds K fu (["self", "what"] : List Str) [] :=
  F.bindsN fun _ _ _ _ _ _ us hl => match us, hl with | [_, _], _ => rfl
def y9 : He.DefD := ⟨("TooMany", some "__init__"), "__init__", "TooMany.__init__", dArgs (inner (top 10) 0), dBody (inner (top 10) 0), dScope (inner (top 10) 0), [], []⟩
theorem t9 : FnScope (["self", "what", "many", "limit"] : List Str) (["self", "what", "many", "limit"] : List Str) (dScope (inner (top 10) 0)) := ⟨rfl, rfl, rfl, by decide +kernel, rfl, by decide +kernel, by decide +kernel⟩
theorem i9 : chIn (["self", "what", "many", "limit"] : List Str) (dScope (inner (top 10) 0)) (["what", "many", "limit"] : List Str) 1 (dBody (inner (top 10) 0)) = true := by decide +kernel
theorem G9 {K : PySem.W.Frag} {f : Addr} {fu : FuncData} (F : FunD K y9.name y9.qual y9.params y9.body y9.scope [] [] f fu) : Binds K fu (["self", "what", "many", "limit"] : List Str) [] :=
  F.bindsN fun _ _ _ _ _ _ us hl => match us, hl with | [_, _, _, _], _ => rfl
def y10 : He.DefD := ⟨("NotKept", some "__init__"), "__init__", "NotKept.__init__", dArgs (inner (top 11) 0), dBody (inner (top 11) 0), dScope (inner (top 11) 0), [], []⟩
theorem t10 : FnScope (["self", "promise", "witness"] : List Str) (["self", "promise", "witness"] : List Str) (dScope (inner (top 11) 0)) := ⟨rfl, rfl, rfl, by decide +kernel, rfl, by decide +kernel, by decide +kernel⟩
theorem i10 : chIn (["self", "promise", "witness"] : List Str) (dScope (inner (top 11) 0)) (["promise", "witness"] : List Str) 1 (dBody (inner (top 11) 0)) = true := by decide +kernel
theorem G10 {K : PySem.W.Frag} {f : Addr} {fu : FuncData} (F : FunD K y10.name y10.qual y10.params y10.body y10.scope [] [] f fu) : Binds K fu (["self", "promise", "witness"] : List Str) [] :=
  F.bindsN fun _ _ _ _ _ _ us hl => match us, hl with | [_, _, _], _ => rfl
def dd : Dx where
  defs := [x0, x1, x2, x3, x4, x5, x6, x7]
  fds := [f0, f1, f2, f3, f4, f5, f6, f7]
  npl := 8
  cs := []
  clis := []
  inis := []
  er := (["CrowdError", "BadText", "BadName", "BadNumber", "BadRow", "NoName", "TakenName", "Unlike", "NotThere", "TooMany", "NotKept", "NothingToUndo", "NothingToRedo"] : List Str)
  eris := [⟨([] : List Str), []⟩, ⟨(["line", "word"] : List Str), [0]⟩, ⟨(["name"] : List Str), [0]⟩, ⟨(["what", "number"] : List Str), [0]⟩, ⟨(["what", "row"] : List Str), [0]⟩, ⟨(["name"] : List Str), [0]⟩, ⟨(["name"] : List Str), [0]⟩, ⟨(["what"] : List Str), [0]⟩, ⟨(["what"] : List Str), [0]⟩, ⟨(["what", "many", "limit"] : List Str), [0]⟩, ⟨(["promise", "witness"] : List Str), [0]⟩, ⟨([] : List Str), [0]⟩, ⟨([] : List Str), [0]⟩]
  glos := []
  fns := ([] : List Str)
  efs := (["limit", "line", "many", "name", "number", "promise", "row", "what", "witness", "word"] : List Str)
  loop := 1000
  lam := false
  mkx := true
theorem dT : dd.T = T := rfl
def hx : List He.DefD := [x0, x1, x2, x3, x4, x5, x6, x7, y1, y2, y3, y4, y5, y6, y7, y8, y9, y10]
/-! ### the head -/
abbrev R : PySem.W.OpenRow := PySem.W.OpenLaw.row PySem.Challenge.rw_howevermany_k01_errors
abbrev hk : PySem.W.Hook := hookM 5 dd.okB hx
def ob (s : PySem.W.SharedT) : AlM := obsMG 5 dd.okB hx (HandSHeadRun.getT s)
theorem ob_eq (s : PySem.W.SharedT) : ob s = hk.obs s.abs := obsMG_eq (HandSHeadRun.getT_eq s)
def names : List Str := (["CrowdError", "BadText", "BadName", "BadNumber", "BadRow", "NoName", "TakenName", "Unlike", "NotThere", "TooMany", "NotKept", "NothingToUndo", "NothingToRedo", "_law_pen", "_law_draw", "_law_pick", "_law_value", "_law_fields", "_law_made_errors", "_law_kinds"] : List Str)
set_option maxHeartbeats 0 in
theorem run (w : World) : HandSHeadRun.RunEq R (PySem.W.view R.prog [22]) hk ob 6000 names w := by
  intro os
  kernel_rfl
theorem facts {K : PySem.W.Frag} {h : Heap} {mg : Str → Option Value} (kin : K.In h) (G : h.Ns mainGlobals mg) (c : SaysM dd.okB hx K) (base : Heap) : PrOk dd.P dd.T (dd.Z K mg base []) K mg base := by
  refine prok kin G base [] c.ok rfl (fun g x fd e1 e2 => ?_) (fun j x E e1 e2 => ?_) (fun g x e => ?_)
  · match g, e1, e2 with
    | 0, e1, e2 =>
      cases e1; cases e2
      obtain ⟨fu, F⟩ := c.def_ (i := 0) rfl
      exact F0 F
    | 1, e1, e2 =>
      cases e1; cases e2
      obtain ⟨fu, F⟩ := c.def_ (i := 1) rfl
      exact F1 F
    | 2, e1, e2 =>
      cases e1; cases e2
      obtain ⟨fu, F⟩ := c.def_ (i := 2) rfl
      exact F2 F
    | 3, e1, e2 =>
      cases e1; cases e2
      obtain ⟨fu, F⟩ := c.def_ (i := 3) rfl
      exact F3 F
    | 4, e1, e2 =>
      cases e1; cases e2
      obtain ⟨fu, F⟩ := c.def_ (i := 4) rfl
      exact F4 F
    | 5, e1, e2 =>
      cases e1; cases e2
      obtain ⟨fu, F⟩ := c.def_ (i := 5) rfl
      exact F5 F
    | 6, e1, e2 =>
      cases e1; cases e2
      obtain ⟨fu, F⟩ := c.def_ (i := 6) rfl
      exact F6 F
    | 7, e1, e2 =>
      cases e1; cases e2
      obtain ⟨fu, F⟩ := c.def_ (i := 7) rfl
      exact F7 F
    | n + 8, e1, e2 => exact absurd e1 (by simp [dd])
  · match j, e1, e2 with
    | 0, e1, e2 =>
      cases e1; cases e2
      have b := errAt c.ok (j := 0) rfl rfl
      exact .inr ⟨rfl, errB_er0 b rfl⟩
    | 1, e1, e2 =>
      cases e1; cases e2
      have b := errAt c.ok (j := 1) rfl rfl
      obtain ⟨fu, F⟩ := c.def_ (i := 8) rfl
      exact .inl (errB_oex b (by simp) ⟨_, _, _, _, _, fu, _, _, F, t1, rfl, i1, G1 F⟩)
    | 2, e1, e2 =>
      cases e1; cases e2
      have b := errAt c.ok (j := 2) rfl rfl
      obtain ⟨fu, F⟩ := c.def_ (i := 9) rfl
      exact .inl (errB_oex b (by simp) ⟨_, _, _, _, _, fu, _, _, F, t2, rfl, i2, G2 F⟩)
    | 3, e1, e2 =>
      cases e1; cases e2
      have b := errAt c.ok (j := 3) rfl rfl
      obtain ⟨fu, F⟩ := c.def_ (i := 10) rfl
      exact .inl (errB_oex b (by simp) ⟨_, _, _, _, _, fu, _, _, F, t3, rfl, i3, G3 F⟩)
    | 4, e1, e2 =>
      cases e1; cases e2
      have b := errAt c.ok (j := 4) rfl rfl
      obtain ⟨fu, F⟩ := c.def_ (i := 11) rfl
      exact .inl (errB_oex b (by simp) ⟨_, _, _, _, _, fu, _, _, F, t4, rfl, i4, G4 F⟩)
    | 5, e1, e2 =>
      cases e1; cases e2
      have b := errAt c.ok (j := 5) rfl rfl
      obtain ⟨fu, F⟩ := c.def_ (i := 12) rfl
      exact .inl (errB_oex b (by simp) ⟨_, _, _, _, _, fu, _, _, F, t5, rfl, i5, G5 F⟩)
    | 6, e1, e2 =>
      cases e1; cases e2
      have b := errAt c.ok (j := 6) rfl rfl
      obtain ⟨fu, F⟩ := c.def_ (i := 13) rfl
      exact .inl (errB_oex b (by simp) ⟨_, _, _, _, _, fu, _, _, F, t6, rfl, i6, G6 F⟩)
    | 7, e1, e2 =>
      cases e1; cases e2
      have b := errAt c.ok (j := 7) rfl rfl
      obtain ⟨fu, F⟩ := c.def_ (i := 14) rfl
      exact .inl (errB_oex b (by simp) ⟨_, _, _, _, _, fu, _, _, F, t7, rfl, i7, G7 F⟩)
    | 8, e1, e2 =>
      cases e1; cases e2
      have b := errAt c.ok (j := 8) rfl rfl
      obtain ⟨fu, F⟩ := c.def_ (i := 15) rfl
      exact .inl (errB_oex b (by simp) ⟨_, _, _, _, _, fu, _, _, F, t8, rfl, i8, G8 F⟩)
    | 9, e1, e2 =>
      cases e1; cases e2
      have b := errAt c.ok (j := 9) rfl rfl
      obtain ⟨fu, F⟩ := c.def_ (i := 16) rfl
      exact .inl (errB_oex b (by simp) ⟨_, _, _, _, _, fu, _, _, F, t9, rfl, i9, G9 F⟩)
    | 10, e1, e2 =>
      cases e1; cases e2
      have b := errAt c.ok (j := 10) rfl rfl
      obtain ⟨fu, F⟩ := c.def_ (i := 17) rfl
      exact .inl (errB_oex b (by simp) ⟨_, _, _, _, _, fu, _, _, F, t10, rfl, i10, G10 F⟩)
    | 11, e1, e2 =>
      cases e1; cases e2
      have b := errAt c.ok (j := 11) rfl rfl
      exact .inr ⟨rfl, errB_er0 b rfl⟩
    | 12, e1, e2 =>
      cases e1; cases e2
      have b := errAt c.ok (j := 12) rfl rfl
      exact .inr ⟨rfl, errB_er0 b rfl⟩
    | n + 13, e1, e2 => exact absurd e1 (by simp [dd])
  · match g, e with
    | 0, e =>
      cases e
      obtain ⟨fu, F⟩ := c.def_ (i := 0) rfl
      exact F.kp
    | 1, e =>
      cases e
      obtain ⟨fu, F⟩ := c.def_ (i := 1) rfl
      exact F.kp
    | 2, e =>
      cases e
      obtain ⟨fu, F⟩ := c.def_ (i := 2) rfl
      exact F.kp
    | 3, e =>
      cases e
      obtain ⟨fu, F⟩ := c.def_ (i := 3) rfl
      exact F.kp
    | 4, e =>
      cases e
      obtain ⟨fu, F⟩ := c.def_ (i := 4) rfl
      exact F.kp
    | 5, e =>
      cases e
      obtain ⟨fu, F⟩ := c.def_ (i := 5) rfl
      exact F.kp
    | 6, e =>
      cases e
      obtain ⟨fu, F⟩ := c.def_ (i := 6) rfl
      exact F.kp
    | 7, e =>
      cases e
      obtain ⟨fu, F⟩ := c.def_ (i := 7) rfl
      exact F.kp
    | n + 8, e => exact absurd e (by simp [dd])
end MPL
namespace MPL
open PySem PySem.Spec PyProof.Rows L2 MP
/-! ### the pen -/
def pen (q : Nat) (at_ dg cnt fo : Int) : List (D × D) := [(.str "cells", .ref q), (.str "at", .int at_), (.str "digits", .int dg), (.str "count", .int cnt), (.str "fold", .int fo)]
section
variable {q : Nat} {at_ dg cnt fo v : Int}
theorem pg0 : getK (.str "cells") (pen q at_ dg cnt fo) = some (.ref q) := by rfl
theorem pg1 : getK (.str "at") (pen q at_ dg cnt fo) = some (.int at_) := by rfl
theorem pg2 : getK (.str "digits") (pen q at_ dg cnt fo) = some (.int dg) := by rfl
theorem pg3 : getK (.str "count") (pen q at_ dg cnt fo) = some (.int cnt) := by rfl
theorem pg4 : getK (.str "fold") (pen q at_ dg cnt fo) = some (.int fo) := by rfl
theorem pp1 : putK (.str "at") (.int v) (pen q at_ dg cnt fo) = pen q v dg cnt fo := by rfl
theorem pp2 : putK (.str "digits") (.int v) (pen q at_ dg cnt fo) = pen q at_ v cnt fo := by rfl
theorem pp3 : putK (.str "count") (.int v) (pen q at_ dg cnt fo) = pen q at_ dg v fo := by rfl
theorem pp4 : putK (.str "fold") (.int v) (pen q at_ dg cnt fo) = pen q at_ dg cnt v := by rfl
theorem pl : (pen q at_ dg cnt fo).length = 5 := rfl
end
/-- what a drawn number leaves behind -/
structure PenOk (ns : List Int) (p q : Nat) (B : Int) (h : AH) : Prop where
  ne : p ≠ q
  cells : h[q]? = some (.lst (ns.map D.int))
  ex : ∃ at_ dg cnt fo : Int, h[p]? = some (.dct (pen q at_ dg cnt fo)) ∧ 0 ≤ at_ ∧ at_ ≤ ns.length ∧ 0 ≤ dg ∧ 0 ≤ cnt ∧ cnt ≤ B ∧ 0 ≤ fo ∧ fo < 2147483059
theorem PenOk.few {ns : List Int} {p q : Nat} {B B' : Int} {h : AH} (o : PenOk ns p q B h) (l : B ≤ B') : PenOk ns p q B' h := by
  obtain ⟨a, b, at_, dg, cnt, fo, h1, h2, h3, h4, h5, h6, h7⟩ := o
  exact ⟨a, b, at_, dg, cnt, fo, h1, h2, h3, h4, h5, by omega, h7⟩
def eD (p : Nat) (many : Int) (x y z : Option D) : En := [some (.ref p), some (.int many), x, y, z]
theorem p18 {h : AH} : binD .pow (.int 10) (.int 18) h = .ok (.int (10 ^ 18)) h := by
  rw [b_pow (by decide) (by decide) (by decide)]
  rfl
section
variable {h : AH} {p q : Nat} {at_ dg cnt fo v : Int}
theorem xp0 (hp : h[p]? = some (.dct (pen q at_ dg cnt fo))) : idxD (.ref p) (.str "cells") h = .ok (.ref q) h := x_key hp pg0
theorem xp1 (hp : h[p]? = some (.dct (pen q at_ dg cnt fo))) : idxD (.ref p) (.str "at") h = .ok (.int at_) h := x_key hp pg1
theorem xp2 (hp : h[p]? = some (.dct (pen q at_ dg cnt fo))) : idxD (.ref p) (.str "digits") h = .ok (.int dg) h := x_key hp pg2
theorem xp3 (hp : h[p]? = some (.dct (pen q at_ dg cnt fo))) : idxD (.ref p) (.str "count") h = .ok (.int cnt) h := x_key hp pg3
theorem xp4 (hp : h[p]? = some (.dct (pen q at_ dg cnt fo))) : idxD (.ref p) (.str "fold") h = .ok (.int fo) h := x_key hp pg4
theorem sp1 (hp : h[p]? = some (.dct (pen q at_ dg cnt fo))) : setI (.ref p) (.str "at") (.int v) h = .ok () (h.set p (.dct (pen q v dg cnt fo))) := by rw [s_key hp (by rw [pl]; decide), pp1]
theorem sp2 (hp : h[p]? = some (.dct (pen q at_ dg cnt fo))) : setI (.ref p) (.str "digits") (.int v) h = .ok () (h.set p (.dct (pen q at_ v cnt fo))) := by rw [s_key hp (by rw [pl]; decide), pp2]
theorem sp3 (hp : h[p]? = some (.dct (pen q at_ dg cnt fo))) : setI (.ref p) (.str "count") (.int v) h = .ok () (h.set p (.dct (pen q at_ dg v fo))) := by rw [s_key hp (by rw [pl]; decide), pp3]
theorem sp4 (hp : h[p]? = some (.dct (pen q at_ dg cnt fo))) : setI (.ref p) (.str "fold") (.int v) h = .ok () (h.set p (.dct (pen q at_ dg cnt v))) := by rw [s_key hp (by rw [pl]; decide), pp4]
end
/-- the last lines of a draw -/
def tailS : Sts := (.cons (.ifs (.cmp .gt (.idx (.var 0) (.str "digits")) (.int 0)) (.cons (.asg (.var 3) (.bin .mod (.bi .int (.cons (.idx (.var 0) (.str "digits")) .nil)) (.var 1))) (.cons (.asg (.idx (.var 0) (.str "digits")) (.bin .fdiv (.idx (.var 0) (.str "digits")) (.var 1))) (.cons (.ret (.var 3)) .nil))) .nil) (.cons (.asg (.var 4) (.bin .add (.bin .add (.idx (.var 0) (.str "fold")) (.bin .mul (.idx (.var 0) (.str "count")) (.int 7927))) (.int 89))) (.cons (.ret (.bin .mod (.bin .fdiv (.bi .int (.cons (.bin .mod (.bin .pow (.var 4) (.int 17)) (.int 2305843009213693951)) .nil)) (.int 128)) (.var 1))) .nil)))
def headS : MP.St := (.ifs (.and (.cons (.cmp .eq (.idx (.var 0) (.str "digits")) (.int 0)) (.cons (.cmp .lt (.idx (.var 0) (.str "at")) (.bi .len (.cons (.idx (.var 0) (.str "cells")) .nil))) .nil))) (.cons (.asg (.var 2) (.idx (.idx (.var 0) (.str "cells")) (.idx (.var 0) (.str "at")))) (.cons (.asg (.idx (.var 0) (.str "at")) (.bin .add (.idx (.var 0) (.str "at")) (.int 1))) (.cons (.ifs (.cmp .ge (.var 2) (.bin .pow (.int 10) (.int 18))) (.cons (.asg (.idx (.var 0) (.str "digits")) (.bin .sub (.var 2) (.bin .pow (.int 10) (.int 18)))) .nil) (.cons (.asg (.idx (.var 0) (.str "fold")) (.bin .mod (.bi .int (.cons (.bin .add (.bin .mul (.idx (.var 0) (.str "fold")) (.int 70139)) (.var 2)) .nil)) (.int 2147483059))) .nil)) .nil))) .nil)
theorem b1_eq : b1 = .cons (.asg (.idx (.var 0) (.str "count")) (.bin .add (.idx (.var 0) (.str "count")) (.int 1))) (.cons headS tailS) := rfl
section
variable {n : Nat} {h : AH} {p q : Nat} {at_ dg cnt fo many : Int} {ns : List Int} {x : Option D}
/-- digits are left -/
theorem tail_a (hp : h[p]? = some (.dct (pen q at_ dg cnt fo))) (h1 : 0 < dg) (h2 : many ≠ 0) (h3 : many.natAbs < 1073741824) :
    ∃ e, exs (cg dd.P n) tailS (eD p many x none none) h = .rt (.int (dg.fmod many)) (h.set p (.dct (pen q at_ (dg.fdiv many) cnt fo))) ∧ e = () := by
  refine ⟨(), ?_, rfl⟩
  unfold eD
  unfold tailS
  simp only [MP.ex, MP.exs, MP.sx, MP.sxs, MP.sxo, MP.sxi, MP.Sx.of, MP.Sx.cmp, MP.varE, MP.seqE, MP.andT, MP.orT, MP.andE, MP.orE, MP.Res.bind, MP.onE, MP.store, MP.ofOpt, MP.b_add, MP.b_sub, MP.c_lt, MP.c_gt, MP.c_le, MP.c_ge, MP.c_eqi, MP.c_nei, MP.c_eqs, MP.c_nes, MP.b_int, MP.optE, MP.tupE, MP.lstE, MP.alloc, MP.negD, MP.eq_int, MP.eq_bl, MP.tru_bl, MP.tru_int, MP.asB_ok, MP.keyOk, Option.map_some, List.getElem?_cons_zero, List.getElem?_cons_succ, List.set_cons_zero, List.set_cons_succ, Bool.true_and, Bool.and_true, Bool.false_and, Bool.and_false, Bool.not_true, Bool.not_false, sizeLine, reduceIte, Bool.false_eq_true, decide_eq_true_eq, Nat.reducePow, Nat.reduceLT, Nat.reduceLeDiff, decide_true, decide_false, List.length_cons, List.length_nil, xp2 hp, h1, b_mod h2, b_div h2 h3, sp2 hp]
end
end MPL
namespace MPL
open PySem PySem.Spec PyProof.Rows L2 MP
section
variable {n : Nat} {h : AH} {p q : Nat} {at_ dg cnt fo many : Int} {ns : List Int} {x : Option D}
theorem tail_b (hp : h[p]? = some (.dct (pen q at_ dg cnt fo))) (h1 : ¬ 0 < dg) (h2 : many ≠ 0) (hb : (fo + cnt * 7927 + 89).natAbs < 2 ^ 64) :
    exs (cg dd.P n) tailS (eD p many x none none) h = .rt (.int ((((fo + cnt * 7927 + 89) ^ 17).fmod 2305843009213693951).fdiv 128 |>.fmod many)) h := by
  unfold eD
  unfold tailS
  simp only [MP.ex, MP.exs, MP.sx, MP.sxs, MP.sxo, MP.sxi, MP.Sx.of, MP.Sx.cmp, MP.varE, MP.seqE, MP.andT, MP.orT, MP.andE, MP.orE, MP.Res.bind, MP.onE, MP.store, MP.ofOpt, MP.b_add, MP.b_sub, MP.c_lt, MP.c_gt, MP.c_le, MP.c_ge, MP.c_eqi, MP.c_nei, MP.c_eqs, MP.c_nes, MP.b_int, MP.optE, MP.tupE, MP.lstE, MP.alloc, MP.negD, MP.eq_int, MP.eq_bl, MP.tru_bl, MP.tru_int, MP.asB_ok, MP.keyOk, Option.map_some, List.getElem?_cons_zero, List.getElem?_cons_succ, List.set_cons_zero, List.set_cons_succ, Bool.true_and, Bool.and_true, Bool.false_and, Bool.and_false, Bool.not_true, Bool.not_false, sizeLine, reduceIte, Bool.false_eq_true, decide_eq_true_eq, Nat.reducePow, Nat.reduceLT, Nat.reduceLeDiff, decide_true, decide_false, List.length_cons, List.length_nil, xp2 hp, xp3 hp, xp4 hp, h1, b_mod h2, b_mul (i := cnt) (j := 7927) (.inr ⟨by decide, by decide⟩), b_pow (i := fo + cnt * 7927 + 89) (j := 17) (by decide) (by decide) hb, b_mod (j := 2305843009213693951) (by decide), b_div (j := 128) (by decide) (by decide)]
  rfl
end
end MPL
namespace MPL
open PySem PySem.Spec PyProof.Rows L2 MP
section
variable {n : Nat} {h : AH} {p q : Nat} {at_ dg cnt fo many : Int} {ns : List Int} {x : Option D}
theorem head_a (hp : h[p]? = some (.dct (pen q at_ dg cnt fo))) (hq : h[q]? = some (.lst (ns.map D.int))) (ne : p ≠ q) {c : Int} (h1 : dg = 0) (h2 : at_ < ns.length) (hc : L2.atI (ns.map D.int) at_ = some (.int c)) (h4 : 10 ^ 18 ≤ c) :
    ex (cg dd.P n) headS (eD p many none none none) h = .nx (eD p many (some (.int c)) none none) (h.set p (.dct (pen q (at_ + 1) (c - 10 ^ 18) cnt fo))) := by
  unfold eD
  unfold headS
  simp only [MP.ex, MP.exs, MP.sx, MP.sxs, MP.sxo, MP.sxi, MP.Sx.of, MP.Sx.cmp, MP.varE, MP.seqE, MP.andT, MP.orT, MP.andE, MP.orE, MP.Res.bind, MP.onE, MP.store, MP.ofOpt, MP.b_add, MP.b_sub, MP.c_lt, MP.c_gt, MP.c_le, MP.c_ge, MP.c_eqi, MP.c_nei, MP.c_eqs, MP.c_nes, MP.b_int, MP.optE, MP.tupE, MP.lstE, MP.alloc, MP.negD, MP.eq_int, MP.eq_bl, MP.tru_bl, MP.tru_int, MP.asB_ok, MP.keyOk, Option.map_some, List.getElem?_cons_zero, List.getElem?_cons_succ, List.set_cons_zero, List.set_cons_succ, Bool.true_and, Bool.and_true, Bool.false_and, Bool.and_false, Bool.not_true, Bool.not_false, sizeLine, reduceIte, Bool.false_eq_true, decide_eq_true_eq, Nat.reducePow, Nat.reduceLT, Nat.reduceLeDiff, decide_true, decide_false, List.length_cons, List.length_nil, xp0 hp, xp1 hp, xp2 hp, h1, l_ref hq, h2, List.length_map, x_lst hq hc, sp1 hp, p18, h4, sp2 (get_set hp), List.set_set]
end
end MPL
namespace MPL
open PySem PySem.Spec PyProof.Rows L2 MP
section
variable {n : Nat} {h : AH} {p q : Nat} {at_ dg cnt fo many : Int} {ns : List Int} {x : Option D}
theorem head_b (hp : h[p]? = some (.dct (pen q at_ dg cnt fo))) (hq : h[q]? = some (.lst (ns.map D.int))) (ne : p ≠ q) {c : Int} (h1 : dg = 0) (h2 : at_ < ns.length) (hc : L2.atI (ns.map D.int) at_ = some (.int c)) (h4 : ¬ 10 ^ 18 ≤ c) :
    ex (cg dd.P n) headS (eD p many none none none) h = .nx (eD p many (some (.int c)) none none) (h.set p (.dct (pen q (at_ + 1) dg cnt ((fo * 70139 + c).fmod 2147483059)))) := by
  unfold eD
  unfold headS
  simp only [MP.ex, MP.exs, MP.sx, MP.sxs, MP.sxo, MP.sxi, MP.Sx.of, MP.Sx.cmp, MP.varE, MP.seqE, MP.andT, MP.orT, MP.andE, MP.orE, MP.Res.bind, MP.onE, MP.store, MP.ofOpt, MP.b_add, MP.b_sub, MP.c_lt, MP.c_gt, MP.c_le, MP.c_ge, MP.c_eqi, MP.c_nei, MP.c_eqs, MP.c_nes, MP.b_int, MP.optE, MP.tupE, MP.lstE, MP.alloc, MP.negD, MP.eq_int, MP.eq_bl, MP.tru_bl, MP.tru_int, MP.asB_ok, MP.keyOk, Option.map_some, List.getElem?_cons_zero, List.getElem?_cons_succ, List.set_cons_zero, List.set_cons_succ, Bool.true_and, Bool.and_true, Bool.false_and, Bool.and_false, Bool.not_true, Bool.not_false, sizeLine, reduceIte, Bool.false_eq_true, decide_eq_true_eq, Nat.reducePow, Nat.reduceLT, Nat.reduceLeDiff, decide_true, decide_false, List.length_cons, List.length_nil, xp0 hp, xp1 hp, xp2 hp, h1, l_ref hq, h2, List.length_map, x_lst hq hc, sp1 hp, p18, h4, xp4 (get_set hp), b_mul (i := fo) (j := 70139) (.inr ⟨by decide, by decide⟩), b_mod (j := 2147483059) (by decide), sp4 (get_set hp), List.set_set]
end
end MPL
namespace MPL
open PySem PySem.Spec PyProof.Rows L2 MP
section
variable {n : Nat} {h : AH} {p q : Nat} {at_ dg cnt fo many : Int} {ns : List Int} {x : Option D}
theorem head_c (hp : h[p]? = some (.dct (pen q at_ dg cnt fo))) (hq : h[q]? = some (.lst (ns.map D.int))) (h1 : ¬ (dg = 0 ∧ at_ < ns.length)) :
    ex (cg dd.P n) headS (eD p many none none none) h = .nx (eD p many none none none) h := by
  unfold eD
  unfold headS
  by_cases hd : dg = 0
  · have : ¬ at_ < ns.length := fun z => h1 ⟨hd, z⟩
    simp only [MP.ex, MP.exs, MP.sx, MP.sxs, MP.sxo, MP.sxi, MP.Sx.of, MP.Sx.cmp, MP.varE, MP.seqE, MP.andT, MP.orT, MP.andE, MP.orE, MP.Res.bind, MP.onE, MP.store, MP.ofOpt, MP.b_add, MP.b_sub, MP.c_lt, MP.c_gt, MP.c_le, MP.c_ge, MP.c_eqi, MP.c_nei, MP.c_eqs, MP.c_nes, MP.b_int, MP.optE, MP.tupE, MP.lstE, MP.alloc, MP.negD, MP.eq_int, MP.eq_bl, MP.tru_bl, MP.tru_int, MP.asB_ok, MP.keyOk, Option.map_some, List.getElem?_cons_zero, List.getElem?_cons_succ, List.set_cons_zero, List.set_cons_succ, Bool.true_and, Bool.and_true, Bool.false_and, Bool.and_false, Bool.not_true, Bool.not_false, sizeLine, reduceIte, Bool.false_eq_true, decide_eq_true_eq, Nat.reducePow, Nat.reduceLT, Nat.reduceLeDiff, decide_true, decide_false, List.length_cons, List.length_nil, xp0 hp, xp1 hp, xp2 hp, hd, l_ref hq, this, List.length_map]
  · simp only [MP.ex, MP.exs, MP.sx, MP.sxs, MP.sxo, MP.sxi, MP.Sx.of, MP.Sx.cmp, MP.varE, MP.seqE, MP.andT, MP.orT, MP.andE, MP.orE, MP.Res.bind, MP.onE, MP.store, MP.ofOpt, MP.b_add, MP.b_sub, MP.c_lt, MP.c_gt, MP.c_le, MP.c_ge, MP.c_eqi, MP.c_nei, MP.c_eqs, MP.c_nes, MP.b_int, MP.optE, MP.tupE, MP.lstE, MP.alloc, MP.negD, MP.eq_int, MP.eq_bl, MP.tru_bl, MP.tru_int, MP.asB_ok, MP.keyOk, Option.map_some, List.getElem?_cons_zero, List.getElem?_cons_succ, List.set_cons_zero, List.set_cons_succ, Bool.true_and, Bool.and_true, Bool.false_and, Bool.and_false, Bool.not_true, Bool.not_false, sizeLine, reduceIte, Bool.false_eq_true, decide_eq_true_eq, Nat.reducePow, Nat.reduceLT, Nat.reduceLeDiff, decide_true, decide_false, List.length_cons, List.length_nil, xp0 hp, xp1 hp, xp2 hp, hd]
end
end MPL
namespace MPL
open PySem PySem.Spec PyProof.Rows L2 MP
theorem at_some {ns : List Int} {i : Int} (h1 : 0 ≤ i) (h2 : i < ns.length) : ∃ c, L2.atI (ns.map D.int) i = some (.int c) := by
  obtain ⟨k, rfl⟩ := Int.eq_ofNat_of_zero_le h1
  have hk : k < ns.length := by simpa using h2
  refine ⟨ns[k], ?_⟩
  unfold L2.atI L2.ixN
  simp [hk]
theorem PenOk.put {ns : List Int} {p q : Nat} {B : Int} {h : AH} (o : PenOk ns p q B h) {at_ dg cnt fo : Int} (h2 : 0 ≤ at_) (h3 : at_ ≤ ns.length) (h4 : 0 ≤ dg) (h5 : 0 ≤ cnt) (h6 : cnt ≤ B + 1) (h7 : 0 ≤ fo) (h8 : fo < 2147483059) : PenOk ns p q (B + 1) (h.set p (.dct (pen q at_ dg cnt fo))) := by
  obtain ⟨_, _, _, _, hp, _⟩ := o.ex
  exact ⟨o.ne, by rw [get_set_ne o.ne]; exact o.cells, at_, dg, cnt, fo, get_set hp, h2, h3, h4, h5, h6, h7, h8⟩
/-- a draw -/
theorem draw_ok {n : Nat} {ns : List Int} {h : AH} {p q : Nat} {B many : Int} (o : PenOk ns p q B h) (hB : B ≤ 2 ^ 40) (hm : 0 < many) (hm2 : many < 1073741824) :
    ∃ k X, runFd (cg dd.P n) f1 [.ref p, .int many] h = .ok (.int k) (h.set p X) ∧ 0 ≤ k ∧ k < many ∧ PenOk ns p q (B + 1) (h.set p X) := by
  obtain ⟨at_, dg, cnt, fo, hp, a1, a2, a3, a4, a5, a6, a7⟩ := o.ex
  have mne : many ≠ 0 := by omega
  have mna : many.natAbs < 1073741824 := by omega
  have runR : ∀ d g, exs (cg dd.P n) b1 (eD p many none none none) h = .rt d g → runFd (cg dd.P n) f1 [.ref p, .int many] h = .ok d g := fun d g e => by
    have q : runFd (cg dd.P n) f1 [.ref p, .int many] h = (match exs (cg dd.P n) b1 (eD p many none none none) h with
      | .nx _ h => .ok .non h
      | .rt d h => .ok d h
      | .exc k fs _ h => .exc k fs h
      | _ => .bad) := rfl
    rw [q, e]
  -- the count
  have s0 : exs (cg dd.P n) b1 (eD p many none none none) h = match ex (cg dd.P n) headS (eD p many none none none) (h.set p (.dct (pen q at_ dg (cnt + 1) fo))) with
    | .nx e h => exs (cg dd.P n) tailS e h
    | r => r := by
    rw [b1_eq]
    unfold eD
    simp only [MP.ex, MP.exs, MP.sx, MP.sxs, MP.sxo, MP.sxi, MP.Sx.of, MP.Sx.cmp, MP.varE, MP.seqE, MP.andT, MP.orT, MP.andE, MP.orE, MP.Res.bind, MP.onE, MP.store, MP.ofOpt, MP.b_add, MP.b_sub, MP.c_lt, MP.c_gt, MP.c_le, MP.c_ge, MP.c_eqi, MP.c_nei, MP.c_eqs, MP.c_nes, MP.b_int, MP.optE, MP.tupE, MP.lstE, MP.alloc, MP.negD, MP.eq_int, MP.eq_bl, MP.tru_bl, MP.tru_int, MP.asB_ok, MP.keyOk, Option.map_some, List.getElem?_cons_zero, List.getElem?_cons_succ, List.set_cons_zero, List.set_cons_succ, Bool.true_and, Bool.and_true, Bool.false_and, Bool.and_false, Bool.not_true, Bool.not_false, sizeLine, reduceIte, Bool.false_eq_true, decide_eq_true_eq, Nat.reducePow, Nat.reduceLT, Nat.reduceLeDiff, decide_true, decide_false, List.length_cons, List.length_nil, xp3 hp, sp3 hp]
    all_goals (generalize ex (cg dd.P n) headS _ _ = r; cases r <;> rfl)
  have hp1 : (h.set p (.dct (pen q at_ dg (cnt + 1) fo)))[p]? = some (.dct (pen q at_ dg (cnt + 1) fo)) := get_set hp
  have hq1 : (h.set p (.dct (pen q at_ dg (cnt + 1) fo)))[q]? = some (.lst (ns.map D.int)) := by rw [get_set_ne o.ne]; exact o.cells
  have md : ∀ z : Int, 0 ≤ z.fmod many ∧ z.fmod many < many := fun z => by
    rw [Int.fmod_eq_emod_of_nonneg _ (by omega)]
    exact ⟨Int.emod_nonneg _ mne, Int.emod_lt_of_pos _ hm⟩
  -- the last lines, at any pen
  have tl : ∀ (x : Option D) (g : AH) (at2 dg2 cnt2 fo2 : Int), g[p]? = some (.dct (pen q at2 dg2 cnt2 fo2)) → 0 ≤ dg2 → 0 ≤ cnt2 → cnt2 ≤ B + 1 → 0 ≤ fo2 → fo2 < 2147483059 →
      ∃ k dg3, exs (cg dd.P n) tailS (eD p many x none none) g = .rt (.int k) (g.set p (.dct (pen q at2 dg3 cnt2 fo2))) ∧ 0 ≤ k ∧ k < many ∧ 0 ≤ dg3 := by
    intro x g at2 dg2 cnt2 fo2 hg b1 b2 b3 b4 b5
    by_cases hd : 0 < dg2
    · obtain ⟨_, e, _⟩ := tail_a (n := n) (x := x) hg hd mne mna
      exact ⟨_, _, e, (md _).1, (md _).2, by rw [Int.fdiv_eq_ediv_of_nonneg _ (by omega)]; exact Int.ediv_nonneg b1 (by omega)⟩
    · have e := tail_b (n := n) (x := x) hg hd mne (by omega)
      suffices hs : exs (cg dd.P n) tailS (eD p many x none none) g = .rt (.int (((((fo2 + cnt2 * 7927 + 89) ^ 17).fmod 2305843009213693951).fdiv 128).fmod many)) (g.set p (.dct (pen q at2 dg2 cnt2 fo2))) from ⟨_, dg2, hs, (md _).1, (md _).2, b1⟩
      have hsame : g.set p (.dct (pen q at2 dg2 cnt2 fo2)) = g := by
        obtain ⟨hl, he⟩ := List.getElem?_eq_some_iff.mp hg
        rw [← he]
        exact List.set_getElem_self hl
      rw [hsame]
      exact e
  by_cases hc : dg = 0 ∧ at_ < ns.length
  · obtain ⟨c, hcc⟩ := at_some a1 hc.2
    by_cases h18 : (10 : Int) ^ 18 ≤ c
    · have e1 := head_a (n := n) (many := many) hp1 hq1 o.ne hc.1 hc.2 hcc h18
      rw [List.set_set] at e1
      obtain ⟨k, dg3, e2, k1, k2, k3⟩ := tl (some (.int c)) _ (at_ + 1) (c - 10 ^ 18) (cnt + 1) fo (get_set hp) (by omega) (by omega) (by omega) a6 a7
      rw [List.set_set] at e2
      exact ⟨k, .dct (pen q (at_ + 1) dg3 (cnt + 1) fo), runR _ _ (by rw [s0, e1]; exact e2), k1, k2, o.put (by omega) (by omega) k3 (by omega) (by omega) a6 a7⟩
    · have e1 := head_b (n := n) (many := many) hp1 hq1 o.ne hc.1 hc.2 hcc h18
      rw [List.set_set] at e1
      have g1 : 0 ≤ (fo * 70139 + c).fmod 2147483059 ∧ (fo * 70139 + c).fmod 2147483059 < 2147483059 := by
        rw [Int.fmod_eq_emod_of_nonneg _ (by omega)]
        exact ⟨Int.emod_nonneg _ (by omega), Int.emod_lt_of_pos _ (by omega)⟩
      obtain ⟨k, dg3, e2, k1, k2, k3⟩ := tl (some (.int c)) _ (at_ + 1) dg (cnt + 1) ((fo * 70139 + c).fmod 2147483059) (get_set hp) (by omega) (by omega) (by omega) g1.1 g1.2
      rw [List.set_set] at e2
      exact ⟨k, .dct (pen q (at_ + 1) dg3 (cnt + 1) ((fo * 70139 + c).fmod 2147483059)), runR _ _ (by rw [s0, e1]; exact e2), k1, k2, o.put (by omega) (by omega) k3 (by omega) (by omega) g1.1 g1.2⟩
  · have e1 := head_c (n := n) (many := many) hp1 hq1 hc
    obtain ⟨k, dg3, e2, k1, k2, k3⟩ := tl none _ at_ dg (cnt + 1) fo (get_set hp) (by omega) (by omega) (by omega) a6 a7
    rw [List.set_set] at e2
    exact ⟨k, .dct (pen q at_ dg3 (cnt + 1) fo), runR _ _ (by rw [s0, e1]; exact e2), k1, k2, o.put (by omega) (by omega) k3 (by omega) (by omega) a6 a7⟩
end MPL
namespace MPL
open PySem PySem.Spec PyProof.Rows L2 MP
/-- the pen's loop -/
def loopS : Sts := .cons (.asg (.var 1) (.bin .mod (.bi .int (.cons (.bin .add (.bin .mul (.var 1) (.int 157)) (.var 2)) .nil)) (.int 1000000483))) .nil
def lastS : Sts := .cons (.ret (.dct (.cons (.str "cells") (.cons (.str "at") (.cons (.str "digits") (.cons (.str "count") (.cons (.str "fold") .nil))))) (.cons (.bi .lst (.cons (.var 0) .nil)) (.cons (.int 0) (.cons (.int 0) (.cons (.int 0) (.cons (.var 1) .nil))))))) .nil
theorem b0_eq : b0 = .cons (.asg (.var 1) (.int 53)) (.cons (.for (.var 2) (.ex (.var 0)) loopS) lastS) := rfl
theorem loop_one {n : Nat} {h : AH} {r : Nat} {fo i : Int} : exs (cg dd.P n) loopS [some (.ref r), some (.int fo), some (.int i)] h = .nx [some (.ref r), some (.int ((fo * 157 + i).fmod 1000000483)), some (.int i)] h := by
  unfold loopS
  simp only [MP.ex, MP.exs, MP.sx, MP.sxs, MP.sxo, MP.sxi, MP.Sx.of, MP.Sx.cmp, MP.varE, MP.seqE, MP.andT, MP.orT, MP.andE, MP.orE, MP.Res.bind, MP.onE, MP.store, MP.ofOpt, MP.b_add, MP.b_sub, MP.c_lt, MP.c_gt, MP.c_le, MP.c_ge, MP.c_eqi, MP.c_nei, MP.c_eqs, MP.c_nes, MP.b_int, MP.optE, MP.tupE, MP.lstE, MP.alloc, MP.negD, MP.eq_int, MP.eq_bl, MP.tru_bl, MP.tru_int, MP.asB_ok, MP.keyOk, Option.map_some, List.getElem?_cons_zero, List.getElem?_cons_succ, List.set_cons_zero, List.set_cons_succ, Bool.true_and, Bool.and_true, Bool.false_and, Bool.and_false, Bool.not_true, Bool.not_false, sizeLine, reduceIte, Bool.false_eq_true, decide_eq_true_eq, Nat.reducePow, Nat.reduceLT, Nat.reduceLeDiff, decide_true, decide_false, List.length_cons, List.length_nil, b_mul (i := fo) (j := 157) (.inr ⟨by decide, by decide⟩), b_mod (j := 1000000483) (by decide)]
theorem bi_lst {h : AH} {r : Nat} {ds : List D} (e : h[r]? = some (.fls ds)) : biD .lst [.ref r] h = .ok (.ref h.length) (h ++ [.lst ds]) := by
  unfold biD
  dsimp only
  unfold seqAt lstAt
  dsimp only
  rw [e]
  rfl
theorem dct_pen {h : AH} {q : Nat} {a b c d : Int} : dctE [(.str "cells", .ref q), (.str "at", .int a), (.str "digits", .int b), (.str "count", .int c), (.str "fold", .int d)] h = .ok (.ref h.length) (h ++ [.dct (pen q a b c d)]) := by rfl
theorem last_one {n : Nat} {h : AH} {r : Nat} {fo : Int} {x : Option D} {ds : List D} (e : h[r]? = some (.fls ds)) : exs (cg dd.P n) lastS [some (.ref r), some (.int fo), x] h = .rt (.ref (h.length + 1)) (h ++ [.lst ds, .dct (pen h.length 0 0 0 fo)]) := by
  unfold lastS
  simp only [MP.ex, MP.exs, MP.sx, MP.sxs, MP.sxo, MP.sxi, MP.Sx.of, MP.Sx.cmp, MP.varE, MP.seqE, MP.andT, MP.orT, MP.andE, MP.orE, MP.Res.bind, MP.onE, MP.store, MP.ofOpt, MP.b_add, MP.b_sub, MP.c_lt, MP.c_gt, MP.c_le, MP.c_ge, MP.c_eqi, MP.c_nei, MP.c_eqs, MP.c_nes, MP.b_int, MP.optE, MP.tupE, MP.lstE, MP.alloc, MP.negD, MP.eq_int, MP.eq_bl, MP.tru_bl, MP.tru_int, MP.asB_ok, MP.keyOk, Option.map_some, List.getElem?_cons_zero, List.getElem?_cons_succ, List.set_cons_zero, List.set_cons_succ, Bool.true_and, Bool.and_true, Bool.false_and, Bool.and_false, Bool.not_true, Bool.not_false, sizeLine, reduceIte, Bool.false_eq_true, decide_eq_true_eq, Nat.reducePow, Nat.reduceLT, Nat.reduceLeDiff, decide_true, decide_false, List.length_cons, List.length_nil, bi_lst e, prsE, dct_pen, List.length_append, List.append_assoc, List.cons_append, List.nil_append, Nat.zero_add]
theorem pen_ok {n : Nat} {h : AH} {r : Nat} {ns : List Int} (e : h[r]? = some (.fls (ns.map D.int))) :
    ∃ fo : Int, runFd (cg dd.P n) f0 [.ref r] h = .ok (.ref (h.length + 1)) (h ++ [.lst (ns.map D.int), .dct (pen h.length 0 0 0 fo)]) ∧ 0 ≤ fo ∧ fo < 1000000483 := by
  have lst : lstAt h r = some (ns.map D.int) := by unfold lstAt; rw [e]
  obtain ⟨e', h', q1, rfl, fo, x, rfl, q2, q3⟩ := for_list (t := .var 2) (I := ⟨fun h => lstAt h r, (ns.map D.int).length + 1⟩) (b := fun e h => exs (cg dd.P n) loopS e h) (ns.map D.int) (fun i e g => g = h ∧ ∃ fo x, e = [some (.ref r), some (.int fo), x] ∧ 0 ≤ fo ∧ fo < 1000000483)
    (fun i e g ⟨q, _⟩ => by rw [q]; exact lst) (fun i d e g hd ⟨q, fo, x, q2, q3, q4⟩ => by
      subst q q2
      rw [List.getElem?_map] at hd
      obtain ⟨c, _, rfl⟩ := map_some hd
      refine ⟨[some (.ref r), some (.int fo), some (.int c)], rfl, _, _, .inl loop_one, rfl, _, _, rfl, ?_⟩
      rw [Int.fmod_eq_emod_of_nonneg _ (by omega)]
      exact ⟨Int.emod_nonneg _ (by omega), Int.emod_lt_of_pos _ (by omega)⟩)
    ((ns.map D.int).length + 1) 0 [some (.ref r), some (.int 53), none] h (by omega) (Nat.zero_le _) ⟨rfl, 53, none, rfl, by decide, by decide⟩
  refine ⟨fo, ?_, q2, q3⟩
  have s0 : exs (cg dd.P n) b0 [some (.ref r), none, none] h' = .rt (.ref (h'.length + 1)) (h' ++ [.lst (ns.map D.int), .dct (pen h'.length 0 0 0 fo)]) := by
    rw [b0_eq]
    simp only [MP.ex, MP.exs, MP.sx, MP.sxs, MP.sxo, MP.sxi, MP.Sx.of, MP.Sx.cmp, MP.varE, MP.seqE, MP.andT, MP.orT, MP.andE, MP.orE, MP.Res.bind, MP.onE, MP.store, MP.ofOpt, MP.b_add, MP.b_sub, MP.c_lt, MP.c_gt, MP.c_le, MP.c_ge, MP.c_eqi, MP.c_nei, MP.c_eqs, MP.c_nes, MP.b_int, MP.optE, MP.tupE, MP.lstE, MP.alloc, MP.negD, MP.eq_int, MP.eq_bl, MP.tru_bl, MP.tru_int, MP.asB_ok, MP.keyOk, Option.map_some, List.getElem?_cons_zero, List.getElem?_cons_succ, List.set_cons_zero, List.set_cons_succ, Bool.true_and, Bool.and_true, Bool.false_and, Bool.and_false, Bool.not_true, Bool.not_false, sizeLine, reduceIte, Bool.false_eq_true, decide_eq_true_eq, Nat.reducePow, Nat.reduceLT, Nat.reduceLeDiff, decide_true, decide_false, List.length_cons, List.length_nil, itSeq, lst, q1, last_one e]
  have q : runFd (cg dd.P n) f0 [.ref r] h' = (match exs (cg dd.P n) b0 [some (.ref r), none, none] h' with
      | .nx _ h => .ok .non h
      | .rt d h => .ok d h
      | .exc k fs _ h => .exc k fs h
      | _ => .bad) := rfl
  rw [q, s0]
/-- one of some -/
theorem pick_ok {n : Nat} {ns : List Int} {h : AH} {p q s : Nat} {B : Int} {xs : List D} (o : PenOk ns p q B h) (hB : B ≤ 2 ^ 40) (hs : h[s]? = some (.lst xs)) (ne : p ≠ s) (h1 : 0 < xs.length) (h2 : xs.length < 1073741824) :
    ∃ (k : Nat) (d : D) (X : C), runFd (cg dd.P (n + 1)) f2 [.ref p, .ref s] h = .ok d (h.set p X) ∧ k < xs.length ∧ xs[k]? = some d ∧ PenOk ns p q (B + 1) (h.set p X) := by
  obtain ⟨k, X, e, k1, k2, o2⟩ := draw_ok (n := n) (many := xs.length) o hB (by omega) (by omega)
  obtain ⟨j, rfl⟩ := Int.eq_ofNat_of_zero_le k1
  have hj : j < xs.length := by omega
  have hx : (h.set p X)[s]? = some (.lst xs) := by rw [get_set_ne ne]; exact hs
  have ha : L2.atI xs (j : Int) = some xs[j] := by
    unfold L2.atI L2.ixN
    simp [hj]
  refine ⟨j, xs[j], X, ?_, hj, List.getElem?_eq_getElem hj, o2⟩
  have q : runFd (cg dd.P (n + 1)) f2 [.ref p, .ref s] h = (match exs (cg dd.P (n + 1)) b2 [some (.ref p), some (.ref s)] h with
      | .nx _ h => .ok .non h
      | .rt d h => .ok d h
      | .exc k fs _ h => .exc k fs h
      | _ => .bad) := rfl
  have cl : ∀ ds g, (cg dd.P (n + 1)).call 1 ds g = runFd (cg dd.P n) f1 ds g := fun ds g => rfl
  rw [q]
  unfold b2
  simp only [MP.ex, MP.exs, MP.sx, MP.sxs, MP.sxo, MP.sxi, MP.Sx.of, MP.Sx.cmp, MP.varE, MP.seqE, MP.andT, MP.orT, MP.andE, MP.orE, MP.Res.bind, MP.onE, MP.store, MP.ofOpt, MP.b_add, MP.b_sub, MP.c_lt, MP.c_gt, MP.c_le, MP.c_ge, MP.c_eqi, MP.c_nei, MP.c_eqs, MP.c_nes, MP.b_int, MP.optE, MP.tupE, MP.lstE, MP.alloc, MP.negD, MP.eq_int, MP.eq_bl, MP.tru_bl, MP.tru_int, MP.asB_ok, MP.keyOk, Option.map_some, List.getElem?_cons_zero, List.getElem?_cons_succ, List.set_cons_zero, List.set_cons_succ, Bool.true_and, Bool.and_true, Bool.false_and, Bool.and_false, Bool.not_true, Bool.not_false, sizeLine, reduceIte, Bool.false_eq_true, decide_eq_true_eq, Nat.reducePow, Nat.reduceLT, Nat.reduceLeDiff, decide_true, decide_false, List.length_cons, List.length_nil, l_ref hs, cl, e, x_lst hx ha]
end MPL
namespace MPL
open PySem PySem.Spec PyProof.Rows L2 MP
theorem PenOk.app {ns : List Int} {p q : Nat} {B : Int} {h l : AH} (o : PenOk ns p q B h) : PenOk ns p q B (h ++ l) := by
  obtain ⟨a, b, at_, dg, cnt, fo, h1, h2⟩ := o
  exact ⟨a, get_app b, at_, dg, cnt, fo, get_app h1, h2⟩
/-! ### drawn values -/
def menu (m : Nat) : List D := [.str "", .str "a", .int 0, .int (-1), .bl true, .non, .tup [], .tup [.str "a", .int 1], .ref m, .ref (m + 1), .int (10 ^ 40), .tup [.tup [.str "x", .int 2], .non]]
def mcs (m : Nat) : List C := [.lst [.int 1, .str "b"], .lst [], .lst (menu m)]
theorem p40 {h : AH} : binD .pow (.int 10) (.int 40) h = .ok (.int (10 ^ 40)) h := by
  rw [b_pow (by decide) (by decide) (by decide)]
  rfl
theorem value_ok {n : Nat} {ns : List Int} {h : AH} {p q : Nat} {B : Int} (o : PenOk ns p q B h) (hB : B ≤ 2 ^ 40) :
    ∃ (d : D) (X : C), runFd (cg dd.P (n + 2)) f3 [.ref p] h = .ok d ((h ++ mcs h.length).set p X) ∧ d ∈ menu h.length ∧ PenOk ns p q (B + 1) ((h ++ mcs h.length).set p X) := by
  have hp : p < h.length := by
    obtain ⟨_, _, _, _, e, _⟩ := o.ex
    exact (List.getElem?_eq_some_iff.mp e).1
  have hs : (h ++ mcs h.length)[h.length + 2]? = some (.lst (menu h.length)) := by rw [get_at]; rfl
  obtain ⟨k, d, X, e, k1, k2, o2⟩ := pick_ok (n := n) (o.app (l := mcs h.length)) hB hs (by omega) (show 0 < 12 by decide) (show 12 < 1073741824 by decide)
  refine ⟨d, X, ?_, List.mem_of_getElem? k2, o2⟩
  have q0 : runFd (cg dd.P (n + 2)) f3 [.ref p] h = (match exs (cg dd.P (n + 2)) b3 [some (.ref p)] h with
      | .nx _ h => .ok .non h
      | .rt d h => .ok d h
      | .exc k fs _ h => .exc k fs h
      | _ => .bad) := rfl
  have cl : ∀ ds g, (cg dd.P (n + 2)).call 2 ds g = runFd (cg dd.P (n + 1)) f2 ds g := fun ds g => rfl
  rw [q0]
  unfold b3
  simp only [mcs, menu] at e ⊢
  simp (decide := true) only [MP.ex, MP.exs, MP.sx, MP.sxs, MP.sxo, MP.sxi, MP.Sx.of, MP.Sx.cmp, MP.varE, MP.seqE, MP.andT, MP.orT, MP.andE, MP.orE, MP.Res.bind, MP.onE, MP.store, MP.ofOpt, MP.b_add, MP.b_sub, MP.c_lt, MP.c_gt, MP.c_le, MP.c_ge, MP.c_eqi, MP.c_nei, MP.c_eqs, MP.c_nes, MP.b_int, MP.optE, MP.tupE, MP.lstE, MP.alloc, MP.negD, MP.eq_int, MP.eq_bl, MP.tru_bl, MP.tru_int, MP.asB_ok, MP.keyOk, Option.map_some, List.getElem?_cons_zero, List.getElem?_cons_succ, List.set_cons_zero, List.set_cons_succ, Bool.true_and, Bool.and_true, Bool.false_and, Bool.and_false, Bool.not_true, Bool.not_false, sizeLine, reduceIte, Bool.false_eq_true, decide_eq_true_eq, Nat.reducePow, Nat.reduceLT, Nat.reduceLeDiff, Nat.reduceAdd, Nat.zero_add, decide_true, decide_false, List.length_cons, List.length_nil, cl, p40, List.length_append, List.append_assoc, List.cons_append, List.nil_append, e]
/-! ### fields -/
def fldS : Sts := (.cons (.ifs (.cmp .eq (.var 3) (.str "line")) (.cons (.exp (.mth .append (.var 2) (.cons (.atx (.var 0) "line") .nil))) .nil) (.cons (.ifs (.cmp .eq (.var 3) (.str "word")) (.cons (.exp (.mth .append (.var 2) (.cons (.atx (.var 0) "word") .nil))) .nil) (.cons (.ifs (.cmp .eq (.var 3) (.str "name")) (.cons (.exp (.mth .append (.var 2) (.cons (.atx (.var 0) "name") .nil))) .nil) (.cons (.ifs (.cmp .eq (.var 3) (.str "what")) (.cons (.exp (.mth .append (.var 2) (.cons (.atx (.var 0) "what") .nil))) .nil) (.cons (.ifs (.cmp .eq (.var 3) (.str "number")) (.cons (.exp (.mth .append (.var 2) (.cons (.atx (.var 0) "number") .nil))) .nil) (.cons (.ifs (.cmp .eq (.var 3) (.str "row")) (.cons (.exp (.mth .append (.var 2) (.cons (.atx (.var 0) "row") .nil))) .nil) (.cons (.ifs (.cmp .eq (.var 3) (.str "many")) (.cons (.exp (.mth .append (.var 2) (.cons (.atx (.var 0) "many") .nil))) .nil) (.cons (.ifs (.cmp .eq (.var 3) (.str "limit")) (.cons (.exp (.mth .append (.var 2) (.cons (.atx (.var 0) "limit") .nil))) .nil) (.cons (.ifs (.cmp .eq (.var 3) (.str "promise")) (.cons (.exp (.mth .append (.var 2) (.cons (.atx (.var 0) "promise") .nil))) .nil) (.cons (.exp (.mth .append (.var 2) (.cons (.atx (.var 0) "witness") .nil))) .nil)) .nil)) .nil)) .nil)) .nil)) .nil)) .nil)) .nil)) .nil)) .nil)
theorem b4_eq : b4 = .cons (.asg (.var 2) (.lst .nil)) (.cons (.for (.var 3) (.ex (.var 1)) fldS) (.cons (.ret (.var 2)) .nil)) := rfl
def ten : List Str := ["line", "word", "name", "what", "number", "row", "many", "limit", "promise", "witness"]
theorem a_xin {h : AH} {e c : Nat} {fs : List (Str × D)} {f : Str} {d : D} (he : h[e]? = some (.xin c fs)) (hf : fs.lookup f = some d) : attX (.ref e) f h = .ok d h := by
  unfold attX
  dsimp only
  rw [he]
  dsimp only
  rw [hf]
  rfl
theorem mk_app {h : AH} {r : Nat} {ds : List D} (e : h[r]? = some (.lst ds)) : mkM .append (.ref r) h = .ok .lst h := by
  unfold mkM mkOf
  dsimp only
  rw [e]
  rfl
theorem mt_app' {h : AH} {r : Nat} {ds : List D} {d : D} (e : h[r]? = some (.lst ds)) (hz : ds.length < sizeLine) : mtD .append .lst (.ref r) [d] h = .ok .non (h.set r (.lst (ds ++ [d]))) := by
  show mAppend (.ref r) [d] h = _
  unfold mAppend lstM
  dsimp only
  rw [e]
  exact if_pos hz
set_option maxHeartbeats 4000000 in
theorem fld_one {n : Nat} {g : AH} {e c nm : Nat} {fs : List (Str × D)} {name : Str} {d : D} {ds : List D} (hn : name ∈ ten) (he : g[e]? = some (.xin c fs)) (hf : fs.lookup name = some d) (hz : ds.length < sizeLine) :
    exs (cg dd.P n) fldS [some (.ref e), some (.ref nm), some (.ref g.length), some (.str name)] (g ++ [.lst ds]) = .nx [some (.ref e), some (.ref nm), some (.ref g.length), some (.str name)] (g ++ [.lst (ds ++ [d])]) := by
  have he' : (g ++ [.lst ds])[e]? = some (.xin c fs) := get_app he
  have ha : (g ++ [.lst ds])[g.length]? = some (.lst ds) := by rw [get_at0]; rfl
  have hs : (g ++ [C.lst ds]).set g.length (.lst (ds ++ [d])) = g ++ [.lst (ds ++ [d])] := by rw [set_at0]; rfl
  simp only [ten, List.mem_cons, List.not_mem_nil, or_false] at hn
  unfold fldS
  rcases hn with rfl | rfl | rfl | rfl | rfl | rfl | rfl | rfl | rfl | rfl <;> simp (decide := true) only [MP.ex, MP.exs, MP.sx, MP.sxs, MP.sxo, MP.sxi, MP.Sx.of, MP.Sx.cmp, MP.varE, MP.seqE, MP.andT, MP.orT, MP.andE, MP.orE, MP.Res.bind, MP.onE, MP.store, MP.ofOpt, MP.b_add, MP.b_sub, MP.c_lt, MP.c_gt, MP.c_le, MP.c_ge, MP.c_eqi, MP.c_nei, MP.c_eqs, MP.c_nes, MP.b_int, MP.optE, MP.tupE, MP.lstE, MP.alloc, MP.negD, MP.eq_int, MP.eq_bl, MP.tru_bl, MP.tru_int, MP.asB_ok, MP.keyOk, Option.map_some, List.getElem?_cons_zero, List.getElem?_cons_succ, List.set_cons_zero, List.set_cons_succ, Bool.true_and, Bool.and_true, Bool.false_and, Bool.and_false, Bool.not_true, Bool.not_false, sizeLine, reduceIte, Bool.false_eq_true, decide_eq_true_eq, Nat.reducePow, Nat.reduceLT, Nat.reduceLeDiff, Nat.reduceAdd, Nat.zero_add, decide_true, decide_false, List.length_cons, List.length_nil, mk_app ha, a_xin he' hf, mt_app' ha hz, hs]
end MPL
namespace MPL
open PySem PySem.Spec PyProof.Rows L2 MP
theorem fields_ok {n : Nat} {g : AH} {e c nm : Nat} {fs : List (Str × D)} {names : List Str} {vals : List D} (he : g[e]? = some (.xin c fs)) (hn : g[nm]? = some (.lst (names.map D.str))) (ht : ∀ x ∈ names, x ∈ ten) (hl : vals.length = names.length) (hz : names.length < 100)
    (hv : ∀ (i : Nat) (x : Str), names[i]? = some x → fs.lookup x = vals[i]?) : runFd (cg dd.P n) f4 [.ref e, .ref nm] g = .ok (.ref g.length) (g ++ [.lst vals]) := by
  have lst : ∀ l : AH, lstAt (g ++ l) nm = some (names.map D.str) := fun l => by unfold lstAt; rw [get_app hn]
  obtain ⟨e', h', q1, q2, x, q3⟩ := for_list (t := .var 3) (I := ⟨fun h => lstAt h nm, (names.map D.str).length + 1⟩) (b := fun e h => exs (cg dd.P n) fldS e h) (names.map D.str) (fun i e' g' => g' = g ++ [.lst (vals.take i)] ∧ ∃ x, e' = [some (.ref e), some (.ref nm), some (.ref g.length), x])
    (fun i e' g' ⟨q, _⟩ => by rw [q]; exact lst _) (fun i d e' g' hd ⟨q, x, q2⟩ => by
      subst q q2
      rw [List.getElem?_map] at hd
      obtain ⟨nam, hnm, rfl⟩ := map_some hd
      have hm := List.mem_of_getElem? hnm
      have hi : i < names.length := (List.getElem?_eq_some_iff.mp hnm).1
      have hlook := hv i nam hnm
      rw [List.getElem?_eq_getElem (by omega : i < vals.length)] at hlook
      refine ⟨[some (.ref e), some (.ref nm), some (.ref g.length), some (.str nam)], rfl, _, _, .inl (fld_one (ht _ hm) he hlook (by rw [List.length_take, sizeLine_eq]; omega)), ?_, _, rfl⟩
      rw [List.take_append_getElem])
    ((names.map D.str).length + 1) 0 [some (.ref e), some (.ref nm), some (.ref g.length), none] (g ++ [.lst []]) (by omega) (Nat.zero_le _) ⟨by rw [List.take_zero], none, rfl⟩
  rw [List.length_map, ← hl, List.take_length] at q2
  subst q2 q3
  have q0 : runFd (cg dd.P n) f4 [.ref e, .ref nm] g = (match exs (cg dd.P n) b4 [some (.ref e), some (.ref nm), none, none] g with
      | .nx _ h => .ok .non h
      | .rt d h => .ok d h
      | .exc k fs _ h => .exc k fs h
      | _ => .bad) := rfl
  rw [q0, b4_eq]
  simp (decide := true) only [MP.ex, MP.exs, MP.sx, MP.sxs, MP.sxo, MP.sxi, MP.Sx.of, MP.Sx.cmp, MP.varE, MP.seqE, MP.andT, MP.orT, MP.andE, MP.orE, MP.Res.bind, MP.onE, MP.store, MP.ofOpt, MP.b_add, MP.b_sub, MP.c_lt, MP.c_gt, MP.c_le, MP.c_ge, MP.c_eqi, MP.c_nei, MP.c_eqs, MP.c_nes, MP.b_int, MP.optE, MP.tupE, MP.lstE, MP.alloc, MP.negD, MP.eq_int, MP.eq_bl, MP.tru_bl, MP.tru_int, MP.asB_ok, MP.keyOk, Option.map_some, List.getElem?_cons_zero, List.getElem?_cons_succ, List.set_cons_zero, List.set_cons_succ, Bool.true_and, Bool.and_true, Bool.false_and, Bool.and_false, Bool.not_true, Bool.not_false, sizeLine, reduceIte, Bool.false_eq_true, decide_eq_true_eq, Nat.reducePow, Nat.reduceLT, Nat.reduceLeDiff, Nat.reduceAdd, Nat.zero_add, decide_true, decide_false, List.length_cons, List.length_nil, itSeq, lst, q1]
/-! ### kinds -/
theorem ups_of {n k : Nat} (h1 : 1 ≤ k) (h2 : k ≤ 12) : (cg dd.P n).ups k = [0] := by
  unfold Cg.ups
  rw [cg_ers]
  match k, h1, h2 with
  | 1, _, _ => rfl
  | 2, _, _ => rfl
  | 3, _, _ => rfl
  | 4, _, _ => rfl
  | 5, _, _ => rfl
  | 6, _, _ => rfl
  | 7, _, _ => rfl
  | 8, _, _ => rfl
  | 9, _, _ => rfl
  | 10, _, _ => rfl
  | 11, _, _ => rfl
  | 12, _, _ => rfl
theorem isx_of {n k : Nat} {h : AH} {e : Nat} {fs : List (Str × D)} {t : Option Nat} (h1 : 1 ≤ k) (h2 : k ≤ 12) (he : h[e]? = some (.xin k fs)) : isxD (cg dd.P n) h (.ref e) t = some (isxB [0] k t) := by
  unfold isxD xinD
  dsimp only
  rw [he]
  show some (isxB ((cg dd.P n).ups k) k t) = _
  rw [ups_of h1 h2]
theorem b_addref {h : AH} {p q : Nat} : binD .add (.ref p) (.ref q) h = match h[p]?, h[q]? with
    | some (.lst x), some (.lst y) => if x.length + y.length ≤ sizeLine then .ok (.ref h.length) (h ++ [.lst (x ++ y)]) else .bad
    | _, _ => .bad := rfl
def kb (k : Nat) : List Bool := [isxB [0] k (some 1), isxB [0] k (some 2), isxB [0] k (some 3), isxB [0] k (some 4), isxB [0] k (some 5), isxB [0] k (some 6), isxB [0] k (some 7), isxB [0] k (some 8), isxB [0] k (some 9), isxB [0] k (some 10), isxB [0] k (some 11), isxB [0] k (some 12)]
set_option maxHeartbeats 4000000 in
theorem kinds_ok {n k : Nat} {g : AH} {e : Nat} {fs : List (Str × D)} (h1 : 1 ≤ k) (h2 : k ≤ 12) (he : g[e]? = some (.xin k fs)) : ∃ l : AH, runFd (cg dd.P n) f6 [.ref e] g = .ok (.ref (g.length + 6)) (g ++ l) ∧ l[6]? = some (.lst ((kb k).map D.bl)) ∧ l.length = 7 := by
  have hx : ∀ (l : AH) (t : Option Nat), isxD (cg dd.P n) (g ++ l) (.ref e) t = some (isxB [0] k t) := fun l t => isx_of h1 h2 (get_app he)
  have hx0 : ∀ (t : Option Nat), isxD (cg dd.P n) g (.ref e) t = some (isxB [0] k t) := fun t => isx_of h1 h2 he
  have q0 : runFd (cg dd.P n) f6 [.ref e] g = (match exs (cg dd.P n) b6 [some (.ref e), none] g with
      | .nx _ h => .ok .non h
      | .rt d h => .ok d h
      | .exc k fs _ h => .exc k fs h
      | _ => .bad) := rfl
  rw [q0]
  unfold b6
  simp (decide := true) only [MP.ex, MP.exs, MP.sx, MP.sxs, MP.sxo, MP.sxi, MP.Sx.of, MP.Sx.cmp, MP.varE, MP.seqE, MP.andT, MP.orT, MP.andE, MP.orE, MP.Res.bind, MP.onE, MP.store, MP.ofOpt, MP.b_add, MP.b_sub, MP.c_lt, MP.c_gt, MP.c_le, MP.c_ge, MP.c_eqi, MP.c_nei, MP.c_eqs, MP.c_nes, MP.b_int, MP.optE, MP.tupE, MP.lstE, MP.alloc, MP.negD, MP.eq_int, MP.eq_bl, MP.tru_bl, MP.tru_int, MP.asB_ok, MP.keyOk, Option.map_some, List.getElem?_cons_zero, List.getElem?_cons_succ, List.set_cons_zero, List.set_cons_succ, Bool.true_and, Bool.and_true, Bool.false_and, Bool.and_false, Bool.not_true, Bool.not_false, sizeLine, reduceIte, Bool.false_eq_true, decide_eq_true_eq, Nat.reducePow, Nat.reduceLT, Nat.reduceLeDiff, Nat.reduceAdd, Nat.zero_add, decide_true, decide_false, List.length_cons, List.length_nil, hx, hx0, b_addref, List.length_append, List.append_assoc, List.cons_append, List.nil_append, get_at, get_at0]
  exact ⟨_, rfl, rfl, rfl⟩
end MPL
namespace MPL
open PySem PySem.Spec PyProof.Rows L2 MP
def s0L : MP.St := (.asg (.tup [5, 6]) (.var 4))
def s1L : MP.St := (.ifs (.or (.cons (.not (.isx (.var 5) (some 0))) (.cons (.not (.isx (.var 5) none)) .nil))) (.cons (.ret (.bl false)) .nil) .nil)
def s2L : MP.St := (.asg (.var 7) (.slc (.var 2) .no (.yes (.bi .len (.cons (.var 6) .nil)))))
def s3L : MP.St := (.ifs (.cmp .ne (.bi .repr (.cons (.call 4 (.cons (.var 5) (.cons (.var 6) .nil))) .nil)) (.bi .repr (.cons (.var 7) .nil))) (.cons (.ret (.bl false)) .nil) .nil)
def s4L : MP.St := (.ifs (.cmp .ne (.call 6 (.cons (.var 5) .nil)) (.lc (.cmp .eq (.var 8) (.var 3)) (.var 8) (.rng1 (.int 12)) .nil)) (.cons (.ret (.bl false)) .nil) .nil)
def mainS : Sts := (.cons s0L (.cons s1L (.cons s2L (.cons s3L (.cons s4L .nil)))))
theorem cut3 {a b c : D} : ∀ {n : Nat}, n ≤ 3 → cut [a, b, c] none (some (n : Int)) = [a, b, c].take n
  | 0, _ => rfl
  | 1, _ => rfl
  | 2, _ => rfl
  | 3, _ => rfl
  | n + 4, h => by omega
theorem slc_ok {h : AH} {v : Nat} {a b c : D} {n : Nat} (e : h[v]? = some (.lst [a, b, c])) (hn : n ≤ 3) : slcD (.ref v) none (some (n : Int)) h = .ok (.ref h.length) (h ++ [.lst ([a, b, c].take n)]) := by
  unfold slcD lstAt
  dsimp only
  rw [e]
  dsimp only
  rw [cut3 hn]
  rfl
section
variable {n k : Nat} {j : Int} {g : AH} {v e nm d : Nat} {x0 x1 x5 x6 x7 x8 y9 y10 y11 y12 : Option D} {md : D} {fs : List (Str × D)} {names : List Str} {a b c : D}
theorem st0_ok : ex (cg dd.P n) s0L [x0, x1, some (.ref v), some (.int j), some (.tup [.ref e, .ref nm]), x5, x6, x7, x8, y9, y10, y11, y12] g = .nx [x0, x1, some (.ref v), some (.int j), some (.tup [.ref e, .ref nm]), some (.ref e), some (.ref nm), x7, x8, y9, y10, y11, y12] g := by rfl
theorem st1_ok (h1 : 1 ≤ k) (h2 : k ≤ 12) (he : g[e]? = some (.xin k fs)) : ex (cg dd.P n) s1L [x0, x1, some (.ref v), some (.int j), some md, some (.ref e), some (.ref nm), x7, x8, y9, y10, y11, y12] g = .nx [x0, x1, some (.ref v), some (.int j), some md, some (.ref e), some (.ref nm), x7, x8, y9, y10, y11, y12] g := by
  have q : ∀ t, isxD (cg dd.P n) g (.ref e) t = some (isxB [0] k t) := fun t => isx_of h1 h2 he
  have q1 : isxB [0] k (some 0) = true := by simp [isxB]
  have q2 : isxB [0] k none = true := rfl
  unfold s1L
  simp (decide := true) only [MP.ex, MP.exs, MP.sx, MP.sxs, MP.sxo, MP.sxi, MP.Sx.of, MP.Sx.cmp, MP.varE, MP.seqE, MP.andT, MP.orT, MP.andE, MP.orE, MP.Res.bind, MP.onE, MP.store, MP.ofOpt, MP.b_add, MP.b_sub, MP.c_lt, MP.c_gt, MP.c_le, MP.c_ge, MP.c_eqi, MP.c_nei, MP.c_eqs, MP.c_nes, MP.b_int, MP.optE, MP.tupE, MP.lstE, MP.alloc, MP.negD, MP.eq_int, MP.eq_bl, MP.tru_bl, MP.tru_int, MP.asB_ok, MP.keyOk, Option.map_some, List.getElem?_cons_zero, List.getElem?_cons_succ, List.set_cons_zero, List.set_cons_succ, Bool.true_and, Bool.and_true, Bool.false_and, Bool.and_false, Bool.not_true, Bool.not_false, sizeLine, reduceIte, Bool.false_eq_true, decide_eq_true_eq, Nat.reducePow, Nat.reduceLT, Nat.reduceLeDiff, Nat.reduceAdd, Nat.zero_add, decide_true, decide_false, List.length_cons, List.length_nil, q, q1, q2]
theorem st2_ok (hn : g[nm]? = some (.lst (names.map D.str))) (hl : names.length ≤ 3) (hv : g[v]? = some (.lst [a, b, c])) : ex (cg dd.P n) s2L [x0, x1, some (.ref v), some (.int j), some md, some (.ref e), some (.ref nm), x7, x8, y9, y10, y11, y12] g = .nx [x0, x1, some (.ref v), some (.int j), some md, some (.ref e), some (.ref nm), some (.ref g.length), x8, y9, y10, y11, y12] (g ++ [.lst ([a, b, c].take names.length)]) := by
  unfold s2L
  simp (decide := true) only [MP.ex, MP.exs, MP.sx, MP.sxs, MP.sxo, MP.sxi, MP.Sx.of, MP.Sx.cmp, MP.varE, MP.seqE, MP.andT, MP.orT, MP.andE, MP.orE, MP.Res.bind, MP.onE, MP.store, MP.ofOpt, MP.b_add, MP.b_sub, MP.c_lt, MP.c_gt, MP.c_le, MP.c_ge, MP.c_eqi, MP.c_nei, MP.c_eqs, MP.c_nes, MP.b_int, MP.optE, MP.tupE, MP.lstE, MP.alloc, MP.negD, MP.eq_int, MP.eq_bl, MP.tru_bl, MP.tru_int, MP.asB_ok, MP.keyOk, Option.map_some, List.getElem?_cons_zero, List.getElem?_cons_succ, List.set_cons_zero, List.set_cons_succ, Bool.true_and, Bool.and_true, Bool.false_and, Bool.and_false, Bool.not_true, Bool.not_false, sizeLine, reduceIte, Bool.false_eq_true, decide_eq_true_eq, Nat.reducePow, Nat.reduceLT, Nat.reduceLeDiff, Nat.reduceAdd, Nat.zero_add, decide_true, decide_false, List.length_cons, List.length_nil, l_ref hn, List.length_map, slc_ok hv hl]
theorem st3_ok {vals : List D} {Ps : List PyData} (he : g[e]? = some (.xin k fs)) (hn : g[nm]? = some (.lst (names.map D.str))) (ht : ∀ x ∈ names, x ∈ ten) (hl : vals.length = names.length) (hz : names.length < 100) (hv : ∀ (i : Nat) (x : Str), names[i]? = some x → fs.lookup x = vals[i]?)
    (hd : g[d]? = some (.lst vals)) (hp : vals.mapM (toP 39 g) = some Ps) (hnice : ∀ P ∈ Ps, nice P = true) (hq : Ps.length ≤ 100) :
    ex (cg dd.P (n + 1)) s3L [x0, x1, some (.ref v), some (.int j), some md, some (.ref e), some (.ref nm), some (.ref d), x8, y9, y10, y11, y12] g = .nx [x0, x1, some (.ref v), some (.int j), some md, some (.ref e), some (.ref nm), some (.ref d), x8, y9, y10, y11, y12] (g ++ [.lst vals]) := by
  have cl : ∀ ds g, (cg dd.P (n + 1)).call 4 ds g = runFd (cg dd.P n) f4 ds g := fun ds g => rfl
  have r0 := fields_ok (n := n) he hn ht hl hz hv
  have hp2 : vals.mapM (toP 39 (g ++ [C.lst vals])) = some Ps := mapM_app (fun q => toP_app q) hp
  have r1 : biD .repr [.ref g.length] (g ++ [.lst vals]) = .ok (.str (PyData.list Ps).shown) (g ++ [.lst vals]) := repr_list (toP_lst (n := 39) (by rw [get_at0]; rfl) hp2) hnice hq
  have r2 : biD .repr [.ref d] (g ++ [.lst vals]) = .ok (.str (PyData.list Ps).shown) (g ++ [.lst vals]) := repr_list (toP_lst (n := 39) (get_app hd) hp2) hnice hq
  unfold s3L
  simp (decide := true) only [MP.ex, MP.exs, MP.sx, MP.sxs, MP.sxo, MP.sxi, MP.Sx.of, MP.Sx.cmp, MP.varE, MP.seqE, MP.andT, MP.orT, MP.andE, MP.orE, MP.Res.bind, MP.onE, MP.store, MP.ofOpt, MP.b_add, MP.b_sub, MP.c_lt, MP.c_gt, MP.c_le, MP.c_ge, MP.c_eqi, MP.c_nei, MP.c_eqs, MP.c_nes, MP.b_int, MP.optE, MP.tupE, MP.lstE, MP.alloc, MP.negD, MP.eq_int, MP.eq_bl, MP.tru_bl, MP.tru_int, MP.asB_ok, MP.keyOk, Option.map_some, List.getElem?_cons_zero, List.getElem?_cons_succ, List.set_cons_zero, List.set_cons_succ, Bool.true_and, Bool.and_true, Bool.false_and, Bool.and_false, Bool.not_true, Bool.not_false, sizeLine, reduceIte, Bool.false_eq_true, decide_eq_true_eq, Nat.reducePow, Nat.reduceLT, Nat.reduceLeDiff, Nat.reduceAdd, Nat.zero_add, decide_true, decide_false, List.length_cons, List.length_nil, cl, r0, r1, r2, eq_self]
def cb (j : Int) : List Bool := (List.range 12).map fun (i : Nat) => decide ((i : Int) = j)
theorem comp_ok {c : Cg} {j : Int} {z0 z1 z2 z4 z5 z6 z7 z8 z9 z10 z11 z12 : Option D} : lcGo (.var 8) [8] ⟨fun _ => some (rangeL 0 12), 13⟩ (conT []) (sx c (.cmp .eq (.var 8) (.var 3))).v [z0, z1, z2, some (.int j), z4, z5, z6, z7, z8, z9, z10, z11, z12] 13 0 [] g = .ok ((cb j).map D.bl) g := by
  have key := lc_pure (t := .var 8) (vs := [8]) (I := ⟨fun _ => some (rangeL 0 12), 13⟩) (c := conT []) (f := (sx c (.cmp .eq (.var 8) (.var 3))).v) (e := [z0, z1, z2, some (.int j), z4, z5, z6, z7, z8, z9, z10, z11, z12]) (g := g) (rangeL 0 12) (fun d => [z0, z1, z2, some (.int j), z4, z5, z6, z7, some d, z9, z10, z11, z12]) (fun _ => true)
    (fun d => match d with | .int i => .bl (decide (i = j)) | _ => .non) rfl (fun d _ => rfl) (fun d _ => rfl) (fun d hd _ => by
      unfold rangeL at hd
      obtain ⟨i, _, rfl⟩ := List.mem_map.mp hd
      simp (decide := true) only [MP.ex, MP.exs, MP.sx, MP.sxs, MP.sxo, MP.sxi, MP.Sx.of, MP.Sx.cmp, MP.varE, MP.seqE, MP.andT, MP.orT, MP.andE, MP.orE, MP.Res.bind, MP.onE, MP.store, MP.ofOpt, MP.b_add, MP.b_sub, MP.c_lt, MP.c_gt, MP.c_le, MP.c_ge, MP.c_eqi, MP.c_nei, MP.c_eqs, MP.c_nes, MP.b_int, MP.optE, MP.tupE, MP.lstE, MP.alloc, MP.negD, MP.eq_int, MP.eq_bl, MP.tru_bl, MP.tru_int, MP.asB_ok, MP.keyOk, Option.map_some, List.getElem?_cons_zero, List.getElem?_cons_succ, List.set_cons_zero, List.set_cons_succ, Bool.true_and, Bool.and_true, Bool.false_and, Bool.and_false, Bool.not_true, Bool.not_false, sizeLine, reduceIte, Bool.false_eq_true, decide_eq_true_eq, Nat.reducePow, Nat.reduceLT, Nat.reduceLeDiff, Nat.reduceAdd, Nat.zero_add, decide_true, decide_false, List.length_cons, List.length_nil]) 13 0 [] (by decide) (Nat.zero_le _) (by decide)
  rw [key]
  have hf : ∀ l : List D, l.filter (fun _ => true) = l := fun l => List.filter_eq_self.mpr fun _ _ => rfl
  rw [hf, List.drop_zero, List.nil_append]
  have hm : ∀ l : List Nat, (l.map fun (k : Nat) => D.int (0 + k)).map (fun d => match d with | .int i => D.bl (decide (i = j)) | _ => .non) = (l.map fun (i : Nat) => decide ((i : Int) = j)).map D.bl := fun l => by
    induction l with
    | nil => rfl
    | cons x l ih =>
      simp only [List.map_cons, Int.zero_add] at ih ⊢
      rw [ih]
  exact congrArg (fun x => Res.ok x g) (hm (List.range 12))
theorem kb_cb (h1 : 1 ≤ k) (h2 : k ≤ 12) : kb k = cb ((k : Int) - 1) := by
  match k, h1, h2 with
  | 1, _, _ => decide
  | 2, _, _ => decide
  | 3, _, _ => decide
  | 4, _, _ => decide
  | 5, _, _ => decide
  | 6, _, _ => decide
  | 7, _, _ => decide
  | 8, _, _ => decide
  | 9, _, _ => decide
  | 10, _, _ => decide
  | 11, _, _ => decide
  | 12, _, _ => decide
theorem st4_ok (h1 : 1 ≤ k) (h2 : k ≤ 12) (he : g[e]? = some (.xin k fs)) : ∃ l : AH, ex (cg dd.P (n + 1)) s4L [x0, x1, some (.ref v), some (.int ((k : Int) - 1)), some md, some (.ref e), some (.ref nm), some (.ref d), x8, y9, y10, y11, y12] g = .nx [x0, x1, some (.ref v), some (.int ((k : Int) - 1)), some md, some (.ref e), some (.ref nm), some (.ref d), x8, y9, y10, y11, y12] (g ++ l) := by
  obtain ⟨l, r0, r1, r2⟩ := kinds_ok (n := n) h1 h2 he
  have cl : ∀ ds g, (cg dd.P (n + 1)).call 6 ds g = runFd (cg dd.P n) f6 ds g := fun ds g => rfl
  have rg : ∀ h : AH, itRng (.int 0) (.int 12) h = .ok ⟨fun _ => some (rangeL 0 12), 13⟩ h := fun h => by rfl
  have cm := fun (gg : AH) => comp_ok (g := gg) (c := cg dd.P (n + 1)) (j := (k : Int) - 1) (z0 := x0) (z1 := x1) (z2 := some (.ref v)) (z4 := some md) (z5 := some (.ref e)) (z6 := some (.ref nm)) (z7 := some (.ref d)) (z8 := x8) (z9 := y9) (z10 := y10) (z11 := y11) (z12 := y12)
  have e1 : (g ++ (l ++ [C.lst ((cb ((k : Int) - 1)).map D.bl)]))[g.length + 6]? = some (.lst ((kb k).map D.bl)) := by
    rw [get_at, List.getElem?_append_left (by omega)]
    exact r1
  have e2 : (g ++ (l ++ [C.lst ((cb ((k : Int) - 1)).map D.bl)]))[g.length + 7]? = some (.lst ((cb ((k : Int) - 1)).map D.bl)) := by
    rw [get_at, List.getElem?_append_right (by omega), r2]
    rfl
  have e3 : (g ++ l).length = g.length + 7 := by rw [List.length_append, r2]
  have e4 := c_ne (eq_bools e1 e2)
  have e5 : decide (kb k = cb ((k : Int) - 1)) = true := decide_eq_true (kb_cb h1 h2)
  rw [e5] at e4
  have hA : (sx (cg dd.P (n + 1)) (.call 6 (.cons (.var 5) .nil))).v [x0, x1, some (.ref v), some (.int ((k : Int) - 1)), some md, some (.ref e), some (.ref nm), some (.ref d), x8, y9, y10, y11, y12] g = .ok (.ref (g.length + 6)) (g ++ l) := by
    simp (decide := true) only [MP.ex, MP.exs, MP.sx, MP.sxs, MP.sxo, MP.sxi, MP.Sx.of, MP.Sx.cmp, MP.varE, MP.seqE, MP.andT, MP.orT, MP.andE, MP.orE, MP.Res.bind, MP.onE, MP.store, MP.ofOpt, MP.b_add, MP.b_sub, MP.c_lt, MP.c_gt, MP.c_le, MP.c_ge, MP.c_eqi, MP.c_nei, MP.c_eqs, MP.c_nes, MP.b_int, MP.optE, MP.tupE, MP.lstE, MP.alloc, MP.negD, MP.eq_int, MP.eq_bl, MP.tru_bl, MP.tru_int, MP.asB_ok, MP.keyOk, Option.map_some, List.getElem?_cons_zero, List.getElem?_cons_succ, List.set_cons_zero, List.set_cons_succ, Bool.true_and, Bool.and_true, Bool.false_and, Bool.and_false, Bool.not_true, Bool.not_false, sizeLine, reduceIte, Bool.false_eq_true, decide_eq_true_eq, Nat.reducePow, Nat.reduceLT, Nat.reduceLeDiff, Nat.reduceAdd, Nat.zero_add, decide_true, decide_false, List.length_cons, List.length_nil, cl, r0]
  have hB : (sx (cg dd.P (n + 1)) (.lc (.cmp .eq (.var 8) (.var 3)) (.var 8) (.rng1 (.int 12)) .nil)).v [x0, x1, some (.ref v), some (.int ((k : Int) - 1)), some md, some (.ref e), some (.ref nm), some (.ref d), x8, y9, y10, y11, y12] (g ++ l) = .ok (.ref (g.length + 7)) (g ++ (l ++ [C.lst ((cb ((k : Int) - 1)).map D.bl)])) := by
    rw [v_lc, i_rng1, v_int, r_ok, rg, r_ok]
    simp only [tgVars, sxs]
    rw [cm, r_ok]
    show Res.ok (D.ref (g ++ l).length) ((g ++ l) ++ [C.lst _]) = _
    rw [e3, List.append_assoc]
  have t : (sx (cg dd.P (n + 1)) (.cmp .ne (.call 6 (.cons (.var 5) .nil)) (.lc (.cmp .eq (.var 8) (.var 3)) (.var 8) (.rng1 (.int 12)) .nil))).t [x0, x1, some (.ref v), some (.int ((k : Int) - 1)), some md, some (.ref e), some (.ref nm), some (.ref d), x8, y9, y10, y11, y12] g = .ok false (g ++ (l ++ [C.lst ((cb ((k : Int) - 1)).map D.bl)])) := by
    rw [t_cmp, hA, r_ok, hB, r_ok, e4]
    rfl
  refine ⟨l ++ [C.lst ((cb ((k : Int) - 1)).map D.bl)], ?_⟩
  unfold s4L
  rw [x_ifs, t, o_ok]
  simp only [Bool.false_eq_true, if_false, x_nil]
end
end MPL
namespace MPL
open PySem PySem.Spec PyProof.Rows L2 MP
section
variable {n k : Nat} {g : AH} {v e nm : Nat} {x0 x1 x5 x6 x7 x8 y9 y10 y11 y12 : Option D} {names : List Str} {a b c : D}
theorem lk3 {x : Str} {i : Nat} (nd : names.Nodup) (hl : names.length ≤ 3) (hi : names[i]? = some x) : ((names.zip [a, b, c]).reverse).lookup x = ([a, b, c].take names.length)[i]? := by
  match names, nd, hl, i, hi with
  | [p], _, _, 0, hi => cases hi; simp
  | [p], _, _, n + 1, hi => simp at hi
  | [p, q], nd, _, 0, hi =>
    cases hi
    have : (x == q) = false := by simpa using nd
    simp [List.lookup, this]
  | [p, q], nd, _, 1, hi => cases hi; simp [List.lookup]
  | [p, q], nd, _, n + 2, hi => simp at hi
  | [p, q, r], nd, _, 0, hi =>
    cases hi
    simp only [List.nodup_cons, List.mem_cons, not_or, List.not_mem_nil, not_false_eq_true, and_true] at nd
    have h1 : (x == q) = false := by simpa using nd.1.1
    have h2 : (x == r) = false := by simpa using nd.1.2
    simp [List.lookup, h1, h2]
  | [p, q, r], nd, _, 1, hi =>
    cases hi
    simp only [List.nodup_cons, List.mem_cons, not_or, List.not_mem_nil, not_false_eq_true, and_true] at nd
    have h1 : (x == r) = false := by simpa using nd.2.1
    simp [List.lookup, h1]
  | [p, q, r], nd, _, 2, hi => cases hi; simp [List.lookup]
  | [p, q, r], nd, _, n + 3, hi => simp at hi
theorem map3 {Pa Pb Pc : PyData} (ha : toP 39 g a = some Pa) (hb : toP 39 g b = some Pb) (hc : toP 39 g c = some Pc) : ∀ {m : Nat}, m ≤ 3 → ([a, b, c].take m).mapM (toP 39 g) = some ([Pa, Pb, Pc].take m)
  | 0, _ => rfl
  | 1, _ => by simp [List.mapM_cons, ha]
  | 2, _ => by simp [List.mapM_cons, ha, hb]
  | 3, _ => by simp [List.mapM_cons, ha, hb, hc]
  | n + 4, h => by omega
theorem body_ok {Pa Pb Pc : PyData} (h1 : 1 ≤ k) (h2 : k ≤ 12) (he : g[e]? = some (.xin k (names.zip [a, b, c]).reverse)) (hn : g[nm]? = some (.lst (names.map D.str))) (ht : ∀ x ∈ names, x ∈ ten) (hl : names.length ≤ 3) (nd : names.Nodup) (hv : g[v]? = some (.lst [a, b, c]))
    (ha : toP 39 g a = some Pa) (hb : toP 39 g b = some Pb) (hc : toP 39 g c = some Pc) (na : nice Pa = true) (nb : nice Pb = true) (nc : nice Pc = true) :
    ∃ l : AH, exs (cg dd.P (n + 1)) mainS [x0, x1, some (.ref v), some (.int ((k : Int) - 1)), some (.tup [.ref e, .ref nm]), x5, x6, x7, x8, y9, y10, y11, y12] g = .nx [x0, x1, some (.ref v), some (.int ((k : Int) - 1)), some (.tup [.ref e, .ref nm]), some (.ref e), some (.ref nm), some (.ref g.length), x8, y9, y10, y11, y12] (g ++ l) := by
  have he1 : (g ++ [C.lst ([a, b, c].take names.length)])[e]? = _ := get_app he
  have hn1 : (g ++ [C.lst ([a, b, c].take names.length)])[nm]? = _ := get_app hn
  have hd1 : (g ++ [C.lst ([a, b, c].take names.length)])[g.length]? = some (.lst ([a, b, c].take names.length)) := by rw [get_at0]; rfl
  have hp1 := map3 (toP_app (l := [C.lst ([a, b, c].take names.length)]) ha) (toP_app (l := [C.lst ([a, b, c].take names.length)]) hb) (toP_app (l := [C.lst ([a, b, c].take names.length)]) hc) hl
  have hnc : ∀ P ∈ [Pa, Pb, Pc].take names.length, nice P = true := fun P hP => by
    have := List.mem_of_mem_take hP
    simp only [List.mem_cons, List.not_mem_nil, or_false] at this
    rcases this with rfl | rfl | rfl <;> assumption
  obtain ⟨l4, e4⟩ := st4_ok (n := n) (v := v) (nm := nm) (d := g.length) (md := .tup [.ref e, .ref nm]) (x0 := x0) (x1 := x1) (x8 := x8) (y9 := y9) (y10 := y10) (y11 := y11) (y12 := y12) h1 h2 (get_app (l := [C.lst ([a, b, c].take names.length)]) he1)
  refine ⟨[C.lst ([a, b, c].take names.length)] ++ ([C.lst ([a, b, c].take names.length)] ++ l4), ?_⟩
  unfold mainS
  rw [x_cons, st0_ok, nx_then, x_cons, st1_ok h1 h2 he, nx_then, x_cons, st2_ok hn hl hv, nx_then, x_cons, st3_ok he1 hn1 ht (by simp; omega) (by omega) (fun i x hi => lk3 nd hl hi) hd1 hp1 hnc (by simp; omega), nx_then, x_cons, e4, nx_then, x_nil, List.append_assoc, List.append_assoc]
end
end MPL
namespace MPL
open PySem PySem.Spec PyProof.Rows L2 MP
theorem mk1 {n : Nat} {a b : D} { h : AH} : mkeD (cg dd.P n) 1 [a, b] h = .ok (.ref h.length) (h ++ [.xin 1 [("word", b), ("line", a)]]) := by
  unfold mkeD
  rw [cg_ers]
  rfl
theorem mk2 {n : Nat} {a : D} { h : AH} : mkeD (cg dd.P n) 2 [a] h = .ok (.ref h.length) (h ++ [.xin 2 [("name", a)]]) := by
  unfold mkeD
  rw [cg_ers]
  rfl
theorem mk3 {n : Nat} {a b : D} { h : AH} : mkeD (cg dd.P n) 3 [a, b] h = .ok (.ref h.length) (h ++ [.xin 3 [("number", b), ("what", a)]]) := by
  unfold mkeD
  rw [cg_ers]
  rfl
theorem mk4 {n : Nat} {a b : D} { h : AH} : mkeD (cg dd.P n) 4 [a, b] h = .ok (.ref h.length) (h ++ [.xin 4 [("row", b), ("what", a)]]) := by
  unfold mkeD
  rw [cg_ers]
  rfl
theorem mk5 {n : Nat} {a : D} { h : AH} : mkeD (cg dd.P n) 5 [a] h = .ok (.ref h.length) (h ++ [.xin 5 [("name", a)]]) := by
  unfold mkeD
  rw [cg_ers]
  rfl
theorem mk6 {n : Nat} {a : D} { h : AH} : mkeD (cg dd.P n) 6 [a] h = .ok (.ref h.length) (h ++ [.xin 6 [("name", a)]]) := by
  unfold mkeD
  rw [cg_ers]
  rfl
theorem mk7 {n : Nat} {a : D} { h : AH} : mkeD (cg dd.P n) 7 [a] h = .ok (.ref h.length) (h ++ [.xin 7 [("what", a)]]) := by
  unfold mkeD
  rw [cg_ers]
  rfl
theorem mk8 {n : Nat} {a : D} { h : AH} : mkeD (cg dd.P n) 8 [a] h = .ok (.ref h.length) (h ++ [.xin 8 [("what", a)]]) := by
  unfold mkeD
  rw [cg_ers]
  rfl
theorem mk9 {n : Nat} {a b c : D} { h : AH} : mkeD (cg dd.P n) 9 [a, b, c] h = .ok (.ref h.length) (h ++ [.xin 9 [("limit", c), ("many", b), ("what", a)]]) := by
  unfold mkeD
  rw [cg_ers]
  rfl
theorem mk10 {n : Nat} {a b : D} { h : AH} : mkeD (cg dd.P n) 10 [a, b] h = .ok (.ref h.length) (h ++ [.xin 10 [("witness", b), ("promise", a)]]) := by
  unfold mkeD
  rw [cg_ers]
  rfl
theorem mk11 {n : Nat} {h : AH} : mkeD (cg dd.P n) 11 [] h = .ok (.ref h.length) (h ++ [.xin 11 []]) := by
  unfold mkeD
  rw [cg_ers]
  rfl
theorem mk12 {n : Nat} {h : AH} : mkeD (cg dd.P n) 12 [] h = .ok (.ref h.length) (h ++ [.xin 12 []]) := by
  unfold mkeD
  rw [cg_ers]
  rfl
def rowsX : Ex := (.bin .add (.call 5 (.cons (.idx (.var 2) (.int 0)) (.cons (.idx (.var 2) (.int 1)) (.cons (.idx (.var 2) (.int 2)) .nil)))) (.lst (.cons (.tup (.cons (.mke 11 .nil) (.cons (.lst .nil) .nil))) (.cons (.tup (.cons (.mke 12 .nil) (.cons (.lst .nil) .nil))) .nil))))
def rowsL (m : Nat) : List D := [.tup [.ref m, .ref (m + 1)], .tup [.ref (m + 2), .ref (m + 3)], .tup [.ref (m + 4), .ref (m + 5)], .tup [.ref (m + 7), .ref (m + 8)], .tup [.ref (m + 9), .ref (m + 10)], .tup [.ref (m + 11), .ref (m + 12)], .tup [.ref (m + 15), .ref (m + 16)], .tup [.ref (m + 17), .ref (m + 18)], .tup [.ref (m + 19), .ref (m + 20)], .tup [.ref (m + 23), .ref (m + 24)], .tup [.ref (m + 27), .ref (m + 28)], .tup [.ref (m + 29), .ref (m + 30)]]
def namesOfK : Nat → List Str
  | 1 => (["line", "word"] : List Str)
  | 2 => (["name"] : List Str)
  | 3 => (["what", "number"] : List Str)
  | 4 => (["what", "row"] : List Str)
  | 5 => (["name"] : List Str)
  | 6 => (["name"] : List Str)
  | 7 => (["what"] : List Str)
  | 8 => (["what"] : List Str)
  | 9 => (["what", "many", "limit"] : List Str)
  | 10 => (["promise", "witness"] : List Str)
  | 11 => ([] : List Str)
  | 12 => ([] : List Str)
  | _ => []
def posE : Nat → Nat
  | 1 => 0
  | 2 => 2
  | 3 => 4
  | 4 => 7
  | 5 => 9
  | 6 => 11
  | 7 => 15
  | 8 => 17
  | 9 => 19
  | 10 => 23
  | 11 => 27
  | 12 => 29
  | _ => 0
def posN : Nat → Nat
  | 1 => 1
  | 2 => 3
  | 3 => 5
  | 4 => 8
  | 5 => 10
  | 6 => 12
  | 7 => 16
  | 8 => 18
  | 9 => 20
  | 10 => 24
  | 11 => 28
  | 12 => 30
  | _ => 0
set_option maxHeartbeats 8000000 in
theorem rows_ok {n : Nat} {h : AH} {v : Nat} {a b c : D} {x0 x1 x3 x4 x5 x6 x7 x8 y9 y10 y11 y12 : Option D} (hv : h[v]? = some (.lst [a, b, c])) (na : a ≠ .thk) (nb : b ≠ .thk) (nc : c ≠ .thk) :
    ∃ l : AH, (sx (cg dd.P (n + 1)) rowsX).v [x0, x1, some (.ref v), x3, x4, x5, x6, x7, x8, y9, y10, y11, y12] h = .ok (.ref (h.length + 32)) (h ++ l) ∧ l[32]? = some (.lst (rowsL h.length)) ∧ ∀ k, 1 ≤ k → k ≤ 12 → l[posE k]? = some (.xin k ((namesOfK k).zip [a, b, c]).reverse) ∧ l[posN k]? = some (.lst ((namesOfK k).map D.str)) := by
  have cl : ∀ a b c g, (cg dd.P (n + 1)).call 5 [a, b, c] g = (match exs (cg dd.P n) b5 [some a, some b, some c, none] g with
      | .nx _ h => .ok .non h
      | .rt d h => .ok d h
      | .exc k fs _ h => .exc k fs h
      | _ => .bad) := fun a b c g => rfl
  have i0 : idxD (.ref v) (.int 0) h = .ok a h := x_lst hv rfl
  have i1 : idxD (.ref v) (.int 1) h = .ok b h := x_lst hv rfl
  have i2 : idxD (.ref v) (.int 2) h = .ok c h := x_lst hv rfl
  unfold rowsX
  simp (decide := true) only [MP.ex, MP.exs, MP.sx, MP.sxs, MP.sxo, MP.sxi, MP.Sx.of, MP.Sx.cmp, MP.w_succ, MP.w_ref, MP.w_int, MP.w_str, MP.w_bl, MP.w_non, MP.w_tup, MP.w_fn, MP.w_err, MP.seqE, MP.andT, MP.orT, MP.andE, MP.orE, MP.Res.bind, MP.onE, MP.store, MP.ofOpt, MP.b_add, MP.b_sub, MP.c_lt, MP.c_gt, MP.c_le, MP.c_ge, MP.c_eqi, MP.c_nei, MP.c_eqs, MP.c_nes, MP.b_int, MP.optE, MP.tupE, MP.lstE, MP.alloc, MP.negD, MP.eq_int, MP.eq_bl, MP.tru_bl, MP.tru_int, MP.asB_ok, MP.keyOk, Option.map_some, List.getElem?_cons_zero, List.getElem?_cons_succ, List.set_cons_zero, List.set_cons_succ, Bool.true_and, Bool.and_true, Bool.false_and, Bool.and_false, Bool.not_true, Bool.not_false, sizeLine, reduceIte, Bool.false_eq_true, decide_eq_true_eq, Nat.reducePow, Nat.reduceLT, Nat.reduceLeDiff, Nat.reduceAdd, Nat.zero_add, decide_true, decide_false, List.length_cons, List.length_nil, w_any na, w_any nb, w_any nc, cl, b5, Nat.add_assoc, i0, i1, i2, mk1, mk2, mk3, mk4, mk5, mk6, mk7, mk8, mk9, mk10, mk11, mk12, b_addref, List.length_append, List.append_assoc, List.cons_append, List.nil_append, get_at, get_at0]
  refine ⟨_, rfl, ?_, fun k h1 h2 => ?_⟩
  · rfl
  match k, h1, h2 with
  | 1, _, _ => exact ⟨rfl, rfl⟩
  | 2, _, _ => exact ⟨rfl, rfl⟩
  | 3, _, _ => exact ⟨rfl, rfl⟩
  | 4, _, _ => exact ⟨rfl, rfl⟩
  | 5, _, _ => exact ⟨rfl, rfl⟩
  | 6, _, _ => exact ⟨rfl, rfl⟩
  | 7, _, _ => exact ⟨rfl, rfl⟩
  | 8, _, _ => exact ⟨rfl, rfl⟩
  | 9, _, _ => exact ⟨rfl, rfl⟩
  | 10, _, _ => exact ⟨rfl, rfl⟩
  | 11, _, _ => exact ⟨rfl, rfl⟩
  | 12, _, _ => exact ⟨rfl, rfl⟩
end MPL
namespace MPL
open PySem PySem.Spec PyProof.Rows L2 MP
def restS : Sts := (.cons (.asg (.var 9) (.lst (.cons (.int 1) (.cons (.lst (.cons (.int 2) .nil)) .nil)))) (.cons (.asg (.var 10) (.mke 4 (.cons (.str "x") (.cons (.var 9) .nil)))) (.cons (.exp (.mth .append (.var 9) (.cons (.int 3) .nil))) (.cons (.ifs (.cmp .ne (.atx (.var 10) "row") (.lst (.cons (.int 1) (.cons (.lst (.cons (.int 2) .nil)) (.cons (.int 3) .nil))))) (.cons (.ret (.bl false)) .nil) .nil) (.cons (.asg (.var 11) (.lst .nil)) (.cons (.try (.cons (.rse 8 (.cons (.lst (.cons (.int 1) (.cons (.lst (.cons (.int 2) .nil)) (.cons (.int 3) .nil)))) .nil)) .nil) (.cons 0 (some 12) (.cons (.exp (.mth .append (.var 11) (.cons (.and (.cons (.isx (.var 12) none) (.cons (.isx (.var 12) (some 8)) (.cons (.cmp .eq (.att (.var 12) "what") (.lst (.cons (.int 1) (.cons (.lst (.cons (.int 2) .nil)) (.cons (.int 3) .nil))))) .nil)))) .nil))) .nil) .nil)) (.cons (.ret (.cmp .eq (.var 11) (.lst (.cons (.bl true) .nil)))) .nil)))))))
def lawA : MP.St := (.asg (.var 1) (.call 0 (.cons (.var 0) .nil)))
def lawB : MP.St := (.asg (.var 2) (.lst (.cons (.call 3 (.cons (.var 1) .nil)) (.cons (.call 3 (.cons (.var 1) .nil)) (.cons (.call 3 (.cons (.var 1) .nil)) .nil)))))
theorem b7_eq : b7 = .cons lawA (.cons lawB (.cons (.for (.tup [3, 4]) (.enum rowsX) mainS) restS)) := rfl
theorem enum_at {m : Nat} : ∀ k, 1 ≤ k → k ≤ 12 → (enumL 0 (rowsL m))[k - 1]? = some (.tup [.int ((k : Int) - 1), .tup [.ref (m + posE k), .ref (m + posN k)]]) := by
  intro k h1 h2
  match k, h1, h2 with
  | 1, _, _ => rfl
  | 2, _, _ => rfl
  | 3, _, _ => rfl
  | 4, _, _ => rfl
  | 5, _, _ => rfl
  | 6, _, _ => rfl
  | 7, _, _ => rfl
  | 8, _, _ => rfl
  | 9, _, _ => rfl
  | 10, _, _ => rfl
  | 11, _, _ => rfl
  | 12, _, _ => rfl
theorem names_ok : ∀ k, 1 ≤ k → k ≤ 12 → (∀ x ∈ namesOfK k, x ∈ ten) ∧ (namesOfK k).length ≤ 3 ∧ (namesOfK k).Nodup := by
  intro k h1 h2
  match k, h1, h2 with
  | 1, _, _ => exact ⟨by decide, by decide, by decide⟩
  | 2, _, _ => exact ⟨by decide, by decide, by decide⟩
  | 3, _, _ => exact ⟨by decide, by decide, by decide⟩
  | 4, _, _ => exact ⟨by decide, by decide, by decide⟩
  | 5, _, _ => exact ⟨by decide, by decide, by decide⟩
  | 6, _, _ => exact ⟨by decide, by decide, by decide⟩
  | 7, _, _ => exact ⟨by decide, by decide, by decide⟩
  | 8, _, _ => exact ⟨by decide, by decide, by decide⟩
  | 9, _, _ => exact ⟨by decide, by decide, by decide⟩
  | 10, _, _ => exact ⟨by decide, by decide, by decide⟩
  | 11, _, _ => exact ⟨by decide, by decide, by decide⟩
  | 12, _, _ => exact ⟨by decide, by decide, by decide⟩
theorem i_enum {c : Cg} {e : En} {h : AH} {a : Ex} : sxi c (.enum a) e h = ((sx c a).v e h).bind itEnum := by rw [sxi]
theorem loop_ok {n : Nat} {h : AH} {v : Nat} {a b c : D} {x0 x1 x3 x4 x5 x6 x7 x8 y9 y10 y11 y12 : Option D} {Pa Pb Pc : PyData} (hv : h[v]? = some (.lst [a, b, c])) (ha : toP 39 h a = some Pa) (hb : toP 39 h b = some Pb) (hc : toP 39 h c = some Pc) (na : nice Pa = true) (nb : nice Pb = true) (nc : nice Pc = true) (ta : a ≠ .thk) (tb : b ≠ .thk) (tc : c ≠ .thk) :
    ∃ l z3 z4 z5 z6 z7, ex (cg dd.P (n + 1)) (.for (.tup [3, 4]) (.enum rowsX) mainS) [x0, x1, some (.ref v), x3, x4, x5, x6, x7, x8, y9, y10, y11, y12] h = .nx [x0, x1, some (.ref v), z3, z4, z5, z6, z7, x8, y9, y10, y11, y12] (h ++ l) := by
  obtain ⟨l, e1, e2, e3⟩ := rows_ok (n := n) (x0 := x0) (x1 := x1) (x3 := x3) (x4 := x4) (x5 := x5) (x6 := x6) (x7 := x7) (x8 := x8) (y9 := y9) (y10 := y10) (y11 := y11) (y12 := y12) hv ta tb tc
  have lst : ∀ l' : AH, lstAt (h ++ l ++ l') (h.length + 32) = some (rowsL h.length) := fun l' => by
    unfold lstAt
    rw [List.append_assoc, get_at, get_app e2]
  have lst0 : lstAt (h ++ l) (h.length + 32) = some (rowsL h.length) := by
    have := lst []
    rwa [List.append_nil] at this
  obtain ⟨e', h', q1, ⟨l', q2⟩, z3, z4, z5, z6, z7, q3⟩ := for_list (t := .tup [3, 4]) (I := ⟨fun g => (lstAt g (h.length + 32)).map (enumL 0), (rowsL h.length).length + 1⟩) (b := fun e g => exs (cg dd.P (n + 1)) mainS e g) (enumL 0 (rowsL h.length))
    (fun i e g => (∃ l', g = h ++ l ++ l') ∧ ∃ z3 z4 z5 z6 z7, e = [x0, x1, some (.ref v), z3, z4, z5, z6, z7, x8, y9, y10, y11, y12])
    (fun i e g ⟨⟨l', q⟩, _⟩ => by
      show (lstAt g (h.length + 32)).map (enumL 0) = _
      rw [q, lst]
      rfl) (fun i d e g hd ⟨⟨l', q⟩, z3, z4, z5, z6, z7, q2⟩ => by
      subst q q2
      have hi : i < 12 := (List.getElem?_eq_some_iff.mp hd).1
      have h1 : 1 ≤ i + 1 := by omega
      have h2 : i + 1 ≤ 12 := by omega
      have hd2 := enum_at (m := h.length) (i + 1) h1 h2
      rw [Nat.add_sub_cancel, hd] at hd2
      cases hd2
      obtain ⟨f1, f2⟩ := e3 (i + 1) h1 h2
      obtain ⟨g1, g2, g3⟩ := names_ok (i + 1) h1 h2
      have v1 : (h ++ l ++ l')[v]? = some (.lst [a, b, c]) := get_app (get_app hv)
      obtain ⟨l2, r⟩ := body_ok (n := n) (g := h ++ l ++ l') (x0 := x0) (x1 := x1) (x5 := z5) (x6 := z6) (x7 := z7) (x8 := x8) (y9 := y9) (y10 := y10) (y11 := y11) (y12 := y12) h1 h2 (by rw [List.append_assoc, get_at]; exact get_app f1) (by rw [List.append_assoc, get_at]; exact get_app f2) g1 g2 g3 v1 (toP_app (toP_app ha)) (toP_app (toP_app hb)) (toP_app (toP_app hc)) na nb nc
      exact ⟨_, rfl, _, _, .inl r, ⟨l' ++ l2, by rw [List.append_assoc (h ++ l)]⟩, _, _, _, _, _, rfl⟩)
    ((rowsL h.length).length + 1) 0 [x0, x1, some (.ref v), x3, x4, x5, x6, x7, x8, y9, y10, y11, y12] (h ++ l) (show 12 < 13 + 0 by decide) (Nat.zero_le _) ⟨⟨[], by rw [List.append_nil]⟩, _, _, _, _, _, rfl⟩
  subst q2 q3
  refine ⟨l ++ l', z3, z4, z5, z6, z7, ?_⟩
  have it : itEnum (.ref (h.length + 32)) (h ++ l) = .ok ⟨fun g => (lstAt g (h.length + 32)).map (enumL 0), (rowsL h.length).length + 1⟩ (h ++ l) := by
    unfold itEnum
    dsimp only
    rw [lst0]
  rw [x_for, i_enum, e1, r_ok, it, o_ok, q1, List.append_assoc]
end MPL
namespace MPL
open PySem PySem.Spec PyProof.Rows L2 MP
def restS' : Sts := (.cons (.asg (.var 9) (.lst (.cons (.int 1) (.cons (.lst (.cons (.int 2) .nil)) .nil)))) (.cons (.asg (.var 10) (.mke 4 (.cons (.str "x") (.cons (.var 9) .nil)))) (.cons (.exp (.mth .append (.var 9) (.cons (.int 3) .nil))) (.cons (.ifs (.cmp .ne (.atx (.var 10) "row") (.lst (.cons (.int 1) (.cons (.lst (.cons (.int 2) .nil)) (.cons (.int 3) .nil))))) (.cons (.ret (.bl false)) .nil) .nil) (.cons (.asg (.var 11) (.lst .nil)) (.cons (.try (.cons (.rse 8 (.cons (.lst (.cons (.int 1) (.cons (.lst (.cons (.int 2) .nil)) (.cons (.int 3) .nil)))) .nil)) .nil) (.cons 0 (some 12) (.cons (.exp (.mth .append (.var 11) (.cons (.and (.cons (.isx (.var 12) none) (.cons (.isx (.var 12) (some 8)) (.cons (.cmp .eq (.att (.var 12) "what") (.lst (.cons (.int 1) (.cons (.lst (.cons (.int 2) .nil)) (.cons (.int 3) .nil))))) .nil)))) .nil))) .nil) .nil)) (.cons (.ret (.cmp .eq (.var 11) (.lst (.cons (.bl true) .nil)))) .nil)))))))
theorem tq_ref {n : Nat} {h : AH} {r : Nat} : toP (n + 1) h (.ref r) = (match h[r]? with
    | some (.lst ds) => (ds.mapM (toP n h)).map .list
    | some (.fls ds) => (ds.mapM (toP n h)).map .list
    | _ => none) := rfl
theorem tq_int {n : Nat} {h : AH} {r : Int} : toP (n + 1) h (.int r) = some (.int r) := rfl
theorem tq_bl {n : Nat} {h : AH} {r : Bool} : toP (n + 1) h (.bl r) = some (.bool r) := rfl
theorem e_ref {h : AH} {p q : Nat} : eqQ h (.ref p) (.ref q) = (match toP 40 h (.ref p), toP 40 h (.ref q) with
    | some x, some y => if SeqAt.shaped x && SeqAt.shaped y then some (PyData.eqv x y) else none
    | _, _ => none) := rfl
theorem m_nil {n : Nat} {h : AH} : ([] : List D).mapM (toP n h) = some [] := rfl
theorem m_cons {n : Nat} {h : AH} {d : D} {ds : List D} {p : PyData} {ps : List PyData} (a : toP n h d = some p) (b : ds.mapM (toP n h) = some ps) : (d :: ds).mapM (toP n h) = some (p :: ps) := by
  rw [List.mapM_cons, a, b]
  rfl
theorem sh13 : SeqAt.shaped (.list [.int 1, .list [.int 2], .int 3]) = true := by decide
theorem ev13 : PyData.eqv (.list [.int 1, .list [.int 2], .int 3]) (.list [.int 1, .list [.int 2], .int 3]) = true := by decide
theorem shb : SeqAt.shaped (.list [.bool true]) = true := by decide
theorem evb : PyData.eqv (.list [.bool true]) (.list [.bool true]) = true := by decide
theorem cmpD_ne {h : AH} {a b : D} : cmpD .ne a b h = ofOpt (((eqQ h a b).map (!·)).map .bl) h := rfl
theorem cmpD_eq {h : AH} {a b : D} : cmpD .eq a b h = ofOpt ((eqQ h a b).map .bl) h := rfl
theorem mkM_a {h : AH} {r : Nat} : mkM .append (.ref r) h = (match h[r]? with
    | some (.lst _) => .ok .lst h
    | _ => .bad) := by
  unfold mkM mkOf
  dsimp only
  cases h[r]? with
  | none => rfl
  | some c => cases c <;> rfl
theorem mtD_a {h : AH} {r : Nat} {d : D} : mtD .append .lst (.ref r) [d] h = (match h[r]? with
    | some (.lst xs) => if xs.length < sizeLine then .ok .non (h.set r (.lst (xs ++ [d]))) else .bad
    | _ => .bad) := by
  show mAppend (.ref r) [d] h = _
  unfold mAppend lstM
  dsimp only
  cases h[r]? with
  | none => rfl
  | some c => cases c <;> rfl
theorem attX_r {h : AH} {r : Nat} {f : Str} : attX (.ref r) f h = (match h[r]? with
    | some (.xin _ fs) => ofOpt (fs.lookup f) h
    | _ => .bad) := rfl
theorem attD_e {h : AH} {k : Nat} {fs : List (Str × D)} {f : Str} : attD (.err k fs) f h = ofOpt (fs.lookup f) h := rfl
theorem lkr {x y : D} : List.lookup ("row" : Str) [("row", x), ("what", y)] = some x := rfl
theorem lkw {x : D} : List.lookup ("what" : Str) [("what", x)] = some x := rfl
theorem rse8 {n : Nat} {d : D} {e : En} {h : AH} : rseD (cg dd.P n) 8 [d] e h = .exc 8 [("what", d)] e h := by
  unfold rseD
  rw [cg_ers]
  rfl
theorem exH0 {n : Nat} {b : Sts} {fs : List (Str × D)} {e : En} {h : AH} : exH (cg dd.P n) (.cons 0 (some 12) b .nil) 8 fs e h = (if 12 < e.length then match exs (cg dd.P n) b (e.set 12 (some (.err 8 fs))) h with
    | .nx e h => .nx (e.set 12 none) h
    | .rt d h => .rt d h
    | _ => .bad else .bad) := by
  have hc : (0 : Nat) = 8 ∨ 0 ∈ (((cg dd.P n).ers 8).map (·.up)).getD [] := by
    right
    rw [cg_ers]
    decide
  rw [exH, if_pos hc]
  all_goals by_cases hl : 12 < e.length
  all_goals first | (rw [if_pos hl, if_pos hl]; cases exs (cg dd.P n) b (e.set 12 (some (.err 8 fs))) h <;> rfl) | (rw [if_neg hl, if_neg hl])
theorem isx_e {n : Nat} {h : AH} {fs : List (Str × D)} {t : Option Nat} : isxD (cg dd.P n) h (.err 8 fs) t = some (isxB [0] 8 t) := by
  show some (isxB ((cg dd.P n).ups 8) 8 t) = _
  rw [ups_of (by decide) (by decide)]
theorem ib1 : isxB [0] 8 none = true := rfl
theorem ib2 : isxB [0] 8 (some 8) = true := by decide
set_option maxHeartbeats 8000000 in
theorem rest_ok {n : Nat} {g : AH} {x0 x1 x2 x3 x4 x5 x6 x7 x8 y9 y10 y11 y12 : Option D} : ∃ h', exs (cg dd.P n) restS' [x0, x1, x2, x3, x4, x5, x6, x7, x8, y9, y10, y11, y12] g = .rt (.bl true) h' := by
  unfold restS'
  simp (decide := true) only [MP.ex, MP.exs, MP.sx, MP.sxs, MP.sxo, MP.sxi, MP.Sx.of, MP.Sx.cmp, MP.w_succ, MP.w_ref, MP.w_int, MP.w_str, MP.w_bl, MP.w_non, MP.w_tup, MP.w_fn, MP.w_err, MP.seqE, MP.andT, MP.orT, MP.andE, MP.orE, MP.Res.bind, MP.onE, MP.store, MP.ofOpt, MP.b_add, MP.b_sub, MP.c_lt, MP.c_gt, MP.c_le, MP.c_ge, MP.c_eqi, MP.c_nei, MP.c_eqs, MP.c_nes, MP.b_int, MP.optE, MP.tupE, MP.lstE, MP.alloc, MP.negD, MP.eq_int, MP.eq_bl, MP.tru_bl, MP.tru_int, MP.asB_ok, MP.keyOk, Option.map_some, List.getElem?_cons_zero, List.getElem?_cons_succ, List.set_cons_zero, List.set_cons_succ, Bool.true_and, Bool.and_true, Bool.false_and, Bool.and_false, Bool.not_true, Bool.not_false, sizeLine, reduceIte, Bool.false_eq_true, decide_eq_true_eq, Nat.reducePow, Nat.reduceLT, Nat.reduceLeDiff, Nat.reduceAdd, Nat.zero_add, decide_true, decide_false, List.length_cons, List.length_nil, mk4, mkM_a, mtD_a, attX_r, attD_e, lkr, lkw, rse8, exH0, isx_e, ib1, ib2, List.length_append, List.append_assoc, List.cons_append, List.nil_append, get_at, get_at0, set_at, set_at0, Nat.add_assoc, cmpD_ne, cmpD_eq, e_ref, tq_ref, tq_int, tq_bl, List.mapM_cons, List.mapM_nil, Option.pure_def, Option.bind_eq_bind, Option.bind_some, sh13, ev13, shb, evb]
  exact ⟨_, rfl⟩
end MPL
namespace MPL
open PySem PySem.Spec PyProof.Rows L2 MP
theorem nice_all12 : ∀ P ∈ ([.str "", .str "a", .int 0, .int (-1), .bool true, .none, .tuple [], .tuple [.str "a", .int 1], .list [.int 1, .str "b"], .list [], .int (10 ^ 40), .tuple [.tuple [.str "x", .int 2], .none]] : List PyData), nice P = true := by
  intro P h
  simp only [List.mem_cons, List.not_mem_nil, or_false] at h
  rcases h with rfl | rfl | rfl | rfl | rfl | rfl | rfl | rfl | rfl | rfl | rfl | rfl <;> decide +kernel
theorem menu_dat {g : AH} {m : Nat} {d : D} (hd : d ∈ menu m) (h1 : g[m]? = some (.lst [.int 1, .str "b"])) (h2 : g[m + 1]? = some (.lst [])) : ∃ P, toP 39 g d = some P ∧ nice P = true ∧ d ≠ .thk := by
  have nn := nice_all12
  simp only [menu, List.mem_cons, List.not_mem_nil, or_false] at hd
  rcases hd with rfl | rfl | rfl | rfl | rfl | rfl | rfl | rfl | rfl | rfl | rfl | rfl
  · exact ⟨.str "", rfl, nn _ (by simp), by simp⟩
  · exact ⟨.str "a", rfl, nn _ (by simp), by simp⟩
  · exact ⟨.int 0, rfl, nn _ (by simp), by simp⟩
  · exact ⟨.int (-1), rfl, nn _ (by simp), by simp⟩
  · exact ⟨.bool true, rfl, nn _ (by simp), by simp⟩
  · exact ⟨.none, rfl, nn _ (by simp), by simp⟩
  · exact ⟨.tuple [], rfl, nn _ (by simp), by simp⟩
  · exact ⟨.tuple [.str "a", .int 1], rfl, nn _ (by simp), by simp⟩
  · exact ⟨.list [.int 1, .str "b"], toP_lst h1 rfl, nn _ (by simp), by simp⟩
  · exact ⟨.list [], toP_lst h2 rfl, nn _ (by simp), by simp⟩
  · exact ⟨.int (10 ^ 40), rfl, nn _ (by simp), by simp⟩
  · exact ⟨.tuple [.tuple [.str "x", .int 2], .none], rfl, nn _ (by simp), by simp⟩
end MPL
namespace MPL
open PySem PySem.Spec PyProof.Rows L2 MP
theorem set_len {h : AH} {p : Nat} {c : C} : (h.set p c).length = h.length := List.length_set
/-- what the menu's cells are, whatever follows -/
theorem mcs_get {h : AH} {p : Nat} {X : C} (hp : p < h.length) : ((h ++ mcs h.length).set p X)[h.length]? = some (.lst [.int 1, .str "b"]) ∧ ((h ++ mcs h.length).set p X)[h.length + 1]? = some (.lst []) := by
  constructor
  · rw [get_set_ne (by omega), get_at0]
    rfl
  · rw [get_set_ne (by omega), get_at]
    rfl
theorem keep_get {h l : AH} {p m : Nat} {X c : C} (e : h[m]? = some c) (n : p ≠ m) : ((h ++ l).set p X)[m]? = some c := by
  rw [get_set_ne n]
  exact get_app e
theorem lawB_run {n : Nat} {h g1 g2 g3 : AH} {p : Nat} {a b c : D} {x0 x2 x3 x4 x5 x6 x7 x8 x9 x10 x11 x12 : Option D} (ea : runFd (cg dd.P (n + 2)) f3 [.ref p] h = .ok a g1) (eb : runFd (cg dd.P (n + 2)) f3 [.ref p] g1 = .ok b g2) (ec : runFd (cg dd.P (n + 2)) f3 [.ref p] g2 = .ok c g3) :
    ex (cg dd.P (n + 3)) lawB [x0, some (.ref p), x2, x3, x4, x5, x6, x7, x8, x9, x10, x11, x12] h = .nx [x0, some (.ref p), some (.ref g3.length), x3, x4, x5, x6, x7, x8, x9, x10, x11, x12] (g3 ++ [.lst [a, b, c]]) := by
  have cl : ∀ ds g, (cg dd.P (n + 3)).call 3 ds g = runFd (cg dd.P (n + 2)) f3 ds g := fun ds g => rfl
  unfold lawB
  simp (decide := true) only [MP.ex, MP.exs, MP.sx, MP.sxs, MP.sxo, MP.sxi, MP.Sx.of, MP.Sx.cmp, MP.w_succ, MP.w_ref, MP.w_int, MP.w_str, MP.w_bl, MP.w_non, MP.w_tup, MP.w_fn, MP.w_err, MP.seqE, MP.andT, MP.orT, MP.andE, MP.orE, MP.Res.bind, MP.onE, MP.store, MP.ofOpt, MP.b_add, MP.b_sub, MP.c_lt, MP.c_gt, MP.c_le, MP.c_ge, MP.c_eqi, MP.c_nei, MP.c_eqs, MP.c_nes, MP.b_int, MP.optE, MP.tupE, MP.lstE, MP.alloc, MP.negD, MP.eq_int, MP.eq_bl, MP.tru_bl, MP.tru_int, MP.asB_ok, MP.keyOk, Option.map_some, List.getElem?_cons_zero, List.getElem?_cons_succ, List.set_cons_zero, List.set_cons_succ, Bool.true_and, Bool.and_true, Bool.false_and, Bool.and_false, Bool.not_true, Bool.not_false, sizeLine, reduceIte, Bool.false_eq_true, decide_eq_true_eq, Nat.reducePow, Nat.reduceLT, Nat.reduceLeDiff, Nat.reduceAdd, Nat.zero_add, decide_true, decide_false, List.length_cons, List.length_nil, cl, ea, eb, ec]
set_option maxHeartbeats 4000000 in
theorem lawB_ok {n : Nat} {ns : List Int} {h : AH} {p q : Nat} {x0 x2 x3 x4 x5 x6 x7 x8 x9 x10 x11 x12 : Option D} (o : PenOk ns p q 0 h) : ∃ (g : AH) (v : Nat) (a b c : D) (Pa Pb Pc : PyData), ex (cg dd.P (n + 3)) lawB [x0, some (.ref p), x2, x3, x4, x5, x6, x7, x8, x9, x10, x11, x12] h = .nx [x0, some (.ref p), some (.ref v), x3, x4, x5, x6, x7, x8, x9, x10, x11, x12] g ∧ g[v]? = some (.lst [a, b, c]) ∧
    toP 39 g a = some Pa ∧ toP 39 g b = some Pb ∧ toP 39 g c = some Pc ∧ nice Pa = true ∧ nice Pb = true ∧ nice Pc = true ∧ a ≠ .thk ∧ b ≠ .thk ∧ c ≠ .thk := by
  have hp : p < h.length := by
    obtain ⟨_, _, _, _, e, _⟩ := o.ex
    exact (List.getElem?_eq_some_iff.mp e).1
  obtain ⟨a, X, ea, ma, o1⟩ := value_ok (n := n) o (by decide)
  have hp1 : p < ((h ++ mcs h.length).set p X).length := by rw [set_len, List.length_append]; omega
  obtain ⟨b, Y, eb, mb, o2⟩ := value_ok (n := n) o1 (by decide)
  obtain ⟨k1, k2⟩ := mcs_get (X := X) hp
  obtain ⟨l1, l2⟩ := mcs_get (X := Y) hp1
  generalize hg1 : (h ++ mcs h.length).set p X = g1 at *
  have hp2 : p < ((g1 ++ mcs g1.length).set p Y).length := by rw [set_len, List.length_append]; omega
  obtain ⟨c, Z, ec, mc, o3⟩ := value_ok (n := n) o2 (by decide)
  obtain ⟨m1, m2⟩ := mcs_get (X := Z) hp2
  have hl1 : h.length + 2 < g1.length := by rw [← hg1, set_len, List.length_append]; show h.length + 2 < h.length + 3; omega
  have k3 := keep_get (l := mcs g1.length) (X := Y) k1 (by omega : p ≠ h.length)
  have k4 := keep_get (l := mcs g1.length) (X := Y) k2 (by omega : p ≠ h.length + 1)
  generalize hg2 : (g1 ++ mcs g1.length).set p Y = g2 at *
  have k5 := keep_get (l := mcs g2.length) (X := Z) k3 (by omega : p ≠ h.length)
  have k6 := keep_get (l := mcs g2.length) (X := Z) k4 (by omega : p ≠ h.length + 1)
  have l3 := keep_get (l := mcs g2.length) (X := Z) l1 (by omega : p ≠ g1.length)
  have l4 := keep_get (l := mcs g2.length) (X := Z) l2 (by omega : p ≠ g1.length + 1)
  generalize hg3 : (g2 ++ mcs g2.length).set p Z = g3 at *
  have hr := lawB_run (x0 := x0) (x2 := x2) (x3 := x3) (x4 := x4) (x5 := x5) (x6 := x6) (x7 := x7) (x8 := x8) (x9 := x9) (x10 := x10) (x11 := x11) (x12 := x12) ea eb ec
  have hv : (g3 ++ [C.lst [a, b, c]])[g3.length]? = some (.lst [a, b, c]) := get_at0
  have q1 := get_app (l := [C.lst [a, b, c]]) k5
  have q2 := get_app (l := [C.lst [a, b, c]]) k6
  have q3 := get_app (l := [C.lst [a, b, c]]) l3
  have q4 := get_app (l := [C.lst [a, b, c]]) l4
  have q5 := get_app (l := [C.lst [a, b, c]]) m1
  have q6 := get_app (l := [C.lst [a, b, c]]) m2
  generalize g3 ++ [C.lst [a, b, c]] = G at *
  obtain ⟨Pa, pa, na, ta⟩ := menu_dat (g := G) ma q1 q2
  obtain ⟨Pb, pb, nb, tb⟩ := menu_dat (g := G) mb q3 q4
  obtain ⟨Pc, pc, nc, tc⟩ := menu_dat (g := G) mc q5 q6
  exact ⟨G, g3.length, a, b, c, Pa, Pb, Pc, hr, hv, pa, pb, pc, na, nb, nc, ta, tb, tc⟩
theorem law_ok (ns : List Int) (h : ns.length ≤ 63) : ∃ h', runFd (cg dd.P 8) f7 [.ref 0] [.fls (ns.map D.int)] = .ok (.bl true) h' := by
  obtain ⟨fo, e1, f1, f2⟩ := pen_ok (n := 7) (h := [.fls (ns.map D.int)]) (r := 0) (ns := ns) rfl
  have o : PenOk ns 2 1 0 ([.fls (ns.map D.int)] ++ [.lst (ns.map D.int), .dct (pen 1 0 0 0 fo)]) := ⟨by decide, rfl, 0, 0, 0, fo, rfl, by decide, by omega, by decide, by decide, by decide, f1, by omega⟩
  obtain ⟨g, v, a, b, c, Pa, Pb, Pc, e2, hv, pa, pb, pc, na, nb, nc, ta, tb, tc⟩ := lawB_ok (n := 5) (x0 := some (.ref 0)) (x2 := none) (x3 := none) (x4 := none) (x5 := none) (x6 := none) (x7 := none) (x8 := none) (x9 := none) (x10 := none) (x11 := none) (x12 := none) o
  obtain ⟨l, z3, z4, z5, z6, z7, e3⟩ := loop_ok (n := 7) (x0 := some (.ref 0)) (x1 := some (.ref 2)) (x3 := none) (x4 := none) (x5 := none) (x6 := none) (x7 := none) (x8 := none) (y9 := none) (y10 := none) (y11 := none) (y12 := none) hv pa pb pc na nb nc ta tb tc
  obtain ⟨h', e4⟩ := rest_ok (n := 8) (g := g ++ l) (x0 := some (.ref 0)) (x1 := some (.ref 2)) (x2 := some (.ref v)) (x3 := z3) (x4 := z4) (x5 := z5) (x6 := z6) (x7 := z7) (x8 := none) (y9 := none) (y10 := none) (y11 := none) (y12 := none)
  have eA : ex (cg dd.P 8) lawA [some (.ref 0), none, none, none, none, none, none, none, none, none, none, none, none] [.fls (ns.map D.int)] = .nx [some (.ref 0), some (.ref 2), none, none, none, none, none, none, none, none, none, none, none] ([.fls (ns.map D.int)] ++ [.lst (ns.map D.int), .dct (pen 1 0 0 0 fo)]) := by
    have cl : ∀ ds g, (cg dd.P 8).call 0 ds g = runFd (cg dd.P 7) f0 ds g := fun ds g => rfl
    have e1' : runFd (cg dd.P 7) f0 [.ref 0] [.fls (ns.map D.int)] = .ok (.ref 2) ([.fls (ns.map D.int)] ++ [.lst (ns.map D.int), .dct (pen 1 0 0 0 fo)]) := e1
    unfold lawA
    simp (decide := true) only [MP.ex, MP.exs, MP.sx, MP.sxs, MP.sxo, MP.sxi, MP.Sx.of, MP.Sx.cmp, MP.w_succ, MP.w_ref, MP.w_int, MP.w_str, MP.w_bl, MP.w_non, MP.w_tup, MP.w_fn, MP.w_err, MP.seqE, MP.andT, MP.orT, MP.andE, MP.orE, MP.Res.bind, MP.onE, MP.store, MP.ofOpt, MP.b_add, MP.b_sub, MP.c_lt, MP.c_gt, MP.c_le, MP.c_ge, MP.c_eqi, MP.c_nei, MP.c_eqs, MP.c_nes, MP.b_int, MP.optE, MP.tupE, MP.lstE, MP.alloc, MP.negD, MP.eq_int, MP.eq_bl, MP.tru_bl, MP.tru_int, MP.asB_ok, MP.keyOk, Option.map_some, List.getElem?_cons_zero, List.getElem?_cons_succ, List.set_cons_zero, List.set_cons_succ, Bool.true_and, Bool.and_true, Bool.false_and, Bool.and_false, Bool.not_true, Bool.not_false, sizeLine, reduceIte, Bool.false_eq_true, decide_eq_true_eq, Nat.reducePow, Nat.reduceLT, Nat.reduceLeDiff, Nat.reduceAdd, Nat.zero_add, decide_true, decide_false, List.length_cons, List.length_nil, cl, e1']
  have q0 : runFd (cg dd.P 8) f7 [.ref 0] [.fls (ns.map D.int)] = (match exs (cg dd.P 8) b7 [some (.ref 0), none, none, none, none, none, none, none, none, none, none, none, none] [.fls (ns.map D.int)] with
      | .nx _ h => .ok .non h
      | .rt d h => .ok d h
      | .exc k fs _ h => .exc k fs h
      | _ => .bad) := rfl
  refine ⟨h', ?_⟩
  rw [q0, b7_eq, x_cons, eA, nx_then, x_cons, e2, nx_then, x_cons, e3, nx_then]
  have e4' : exs (cg dd.P 8) restS [some (.ref 0), some (.ref 2), some (.ref v), z3, z4, z5, z6, z7, none, none, none, none, none] (g ++ l) = .rt (.bl true) h' := e4
  rw [e4']
end MPL
set_option maxHeartbeats 0
namespace MPL
open PySem PySem.Spec PyProof.Rows L2 MP
theorem runs {P : Program} {w : World} {K : PySem.W.Frag} {h : Heap} {mg : Str → Option Value} {fa : Addr} (kin : K.In h) (G : h.Ns mainGlobals mg) (hm : mg ("law" : Str) = some (.ref fa)) (c : SaysM dd.okB hx K) : Runs P w K mg fa 63 := by
  have e := (facts kin G c h).fn 7 "law" rfl
  obtain ⟨a, e1, e2, _⟩ := e
  rw [hm] at e1
  cases e1
  exact runs_of (m := 8) (g := 7) (fd := f7) dd (fun base kb gb => facts kb gb c base) rfl e2 ⟨rfl, by decide, by decide⟩ law_ok
end MPL
open PySem PySem.W PySem.Calls PyProof.Rows
theorem PySem.Challenge.cw_howevermany_k01_errors_holds : PySem.Challenge.rw_howevermany_k01_errors.Holds := by
  w_on; o_law
  refine HandSHeadRun.head_any (r := OpenLaw.row PySem.Challenge.rw_howevermany_k01_errors) (q := view (OpenLaw.row PySem.Challenge.rw_howevermany_k01_errors).prog [22]) (H := MPL.hk) (ob := MPL.ob) (M := 6000) (loose := MPL.names) (d := HandSHeadRun.topDef (OpenLaw.row PySem.Challenge.rw_howevermany_k01_errors).prog 22) (kwd := []) MPL.ob_eq
    (by kernel_rfl) (fun s => by kernel_rfl) MPL.run (by kernel_rfl) (by kernel_rfl) (by kernel_rfl) (by rfl) (by first | assumption | decide +kernel) (by decide +kernel) ⟨rfl, rfl, rfl, rfl, rfl, by decide +kernel⟩ ?hw ?hc
  case hw => w_witness2
  case hc =>
    refine MP.end_walk (l := PySem.Challenge.rw_howevermany_k01_errors) (n := 63) rfl (by decide) (by kernel_rfl) fun w mg fa h Y G hm0 => ?_
    obtain ⟨K, kin, nl, c⟩ := Y
    have hm : mg ("law" : PySem.Str) = some (.ref fa) := by
      have e : (HandSHeadRun.topDef (OpenLaw.row PySem.Challenge.rw_howevermany_k01_errors).prog 22).name = ("law" : PySem.Str) := by kernel_rfl
      rw [← e]
      exact hm0
    exact ⟨K, kin, nl, MPL.runs kin G hm c⟩
