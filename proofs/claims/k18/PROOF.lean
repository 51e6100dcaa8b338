import PyProof.Rows.All
import Wide.All
import OpenK.AllK
import Wide.FinOn
import HandS.ForMost
import HandS.Steps
import HandS.Wide
import HandS.WideBits
import HandS.Deep
import HandS.TupAny
import HandS.Rev
import HandS.NoneIn
import HandS.Style
import HandS.Words
import HandS.Defaults
import HandS.IsInst
import HandS.Text
import HandS.More
import HandS.Zip
import KE.KStar
import PyProof.TupleOfSeq
import HandS.MakeKw
import HandS.Property
import HandS.ClsMeth
import HandS.SlotsOwn
import HandS.RaiseMore
import KE.KCallOwn
import HandS.DictComp
import KE.KExcSuper
import KE.KExcPX
import PyProof.ExcBaseAll.ValueError
import PyProof.ExcBaseAll.LookupError
import HandS.FStr
import KE.KFmtOwn
import HandS.Star
import HandS.HeadNt
import PyProof.StrBlockL
import PyProof.StrLawsTight
import PyProof.StrLawsFirst
import KE.KStateDown
import Lean
import HandS.WordsExc
import HandS.Head0
import HandS.Head1
import HandS.Head2
import HandS.HeadEnd
import HandS.HeadHook1
import HandS.HeadHook2
import PySem.Challenge.RW_heirorders_k18_families_by_names
section P_CoreLang
set_option Elab.async false
set_option linter.all false
set_option maxRecDepth 100000
/-! CoreLang: a small language of data and its evaluator. Values are data (frozen), or refs to cells of a store. -/
namespace Co
open PySem L2

inductive PV where
  | non | bl (b : Bool) | int (i : Int) | str (x : Str)
  | tup (xs : List PV) | lst (xs : List PV)
  | dic (ks : List Key) (vs : List PV)
  | obj (c : Nat) (ns : List Str) (vs : List PV)
  | ref (n : Nat)
  | scr (ns : List Int)
  | cls (c : Nat)
/-- a cell of the store; lkl, lkd: walked at the moment, read only -/
inductive Cell where
  | lst (xs : List PV) | dic (ks : List Key) (vs : List PV) | ins (c : Nat) (ns : List Str) (vs : List PV)
  | lkl (xs : List PV) | lkd (ks : List Key) (vs : List PV)
abbrev Mem := List Cell
inductive Out (α : Type) where
  | ok (a : α) (m : Mem) | exc (e : PV) (m : Mem) | stuck
abbrev M (α : Type) := Mem → Out α
def Out.bind {α β : Type} (o : Out α) (f : α → Mem → Out β) : Out β := match o with
  | .ok a m => f a m
  | .exc e m => .exc e m
  | .stuck => .stuck
theorem bind_ok {α β : Type} (a : α) (m : Mem) (f : α → Mem → Out β) : (Out.ok a m).bind f = f a m := rfl
def Out.of {α : Type} (o : Option α) (m : Mem) : Out α := match o with
  | some a => .ok a m
  | none => .stuck
/-- go on only if so -/
def ck {α : Type} (b : Bool) (o : Out α) : Out α := match b with
  | true => o
  | false => .stuck

/-! ### syntax -/
inductive BOp where
  | add | sub | mul | fdiv | mod | pow
inductive COp where
  | eq | ne | lt | le | gt | ge | isN | notN | mem | nmem
inductive Bi where
  | len | abs | sum | all | any | str | int | min | max | tuple
inductive Isi where
  | int | bool | str | tuple | seq | cls (c : Nat)
mutual
inductive CG where
  | v (i : Nat) | t (gs : CGs)
inductive CGs where
  | nil | cons (g : CG) (r : CGs)
end
/-- where a parameter's value comes from: the i-th written value, a default -/
inductive Ar where
  | i (n : Nat) | d (j : Nat) (p : PV)
def pick (xs : List PV) : List Ar → Option (List PV)
  | [] => some []
  | a :: r => match (match a with
      | .i n => xs[n]?
      | .d _ p => some p), pick xs r with
    | some y, some ys => some (y :: ys)
    | _, _ => none
def pickN (n nk : Nat) (xs zs : List PV) (ar : List Ar) : Option (List PV) := if xs.length = n ∧ zs.length = nk then pick (xs ++ zs) ar else none
/-- methods with one argument -/
inductive M1k where
  | append | popi | extend | join | split | partition | dupd | index
mutual
inductive CE where
  | v (i : Nat)
  | k (c : PV)
  | bin (o : BOp) (a b : CE)
  | neg (a : CE)
  | cmp (o : COp) (a b : CE)
  | chain (o1 o2 : COp) (a b c : CE)
  | test (t : CT)
  | ite (t : CT) (a b : CE)
  | tup (es : CEs)
  | ix (a b : CE)
  | sl (a : CE) (lo hi : CEs)
  | rev1 (a : CE)
  | m1 (o : M1k) (a b : CE)
  | attr (a : CE) (f : Str)
  | call (f : Nat) (es : CEs)
  | callk (f : Nat) (es ks : CEs) (n nk : Nat) (ar : List Ar)
  | bi (b : Bi) (a : CE)
  | bi2 (b : Bi) (a c : CE)
  | isi (a : CE) (t : Isi)
  | meth (m : Str) (a : CE) (es ks : CEs) (n nk : Nat) (ar : List (Nat × List Ar))
  | make (a : CE) (es ks : CEs) (n nk : Nat) (ar : List (Nat × List Ar))
  | dget2 (a b c : CE)
  | dnew
  | ddis (ks : List Key) (es : CEs)
  | dof (a : CE)
  | dcm (g : CG) (it : CI) (t : CT) (k e : CE) (own : List Nat)
  | fz (f : CF)
  | cell (f : CF)
inductive CT where
  | tt
  | val (a : CE)
  | nt (a : CT)
  | an (a b : CT)
  | or (a b : CT)
inductive CEs where
  | nil
  | cons (a : CE) (r : CEs)
  | star (a : CE) (r : CEs)
/-- new lists, dicts -/
inductive CF where
  | lst (es : CEs)
  | lc (g : CG) (it : CI) (t : CT) (e : CE) (own : List Nat)
  | lof (a : CE)
  | srt (a : CE)
inductive CI where
  | seq (a : CE)
  | range (es : CEs)
  | rev (a : CE)
  | enum (a : CE)
  | zip (a b : CE)
end
mutual
inductive CS where
  | asg (g : CG) (e : CE)
  | setix (a i e : CE)
  | setf (a : CE) (f : Str) (e : CE)
  | ex (e : CE)
  | ret (e : CE)
  | iff (t : CT) (a b : CSs)
  | whil (t : CT) (b : CSs)
  | forr (g : CG) (it : CI) (b : CSs)
  | pass | brk | cont
  | bad
inductive CSs where
  | nil | cons (s : CS) (r : CSs)
end

def CEs.plain : CEs → Bool
  | .nil => true
  | .cons _ r => r.plain
  | .star _ _ => false
def wrapB (w : Bool) (f : CF) : CE := match w with
  | true => .cell f
  | false => .fz f
/-! ### what is seen of a value: a cell's content -/
def vw (m : Mem) : PV → PV
  | .ref n => match m[n]? with
    | some (.lst xs) => .lst xs
    | some (.lkl xs) => .lst xs
    | some (.dic ks vs) => .dic ks vs
    | some (.lkd ks vs) => .dic ks vs
    | some (.ins c ns vs) => .obj c ns vs
    | none => .ref n
  | v => v
/-- the items of a list or tuple -/
def items : PV → Option (List PV)
  | .lst xs => some xs
  | .tup xs => some xs
  | .scr ns => some (ns.map .int)
  | _ => none

/-! ### data for == -/
mutual
def toD : PV → Option PyData
  | .non => some .none
  | .bl b => some (.bool b)
  | .int i => some (.int i)
  | .str x => some (.str x)
  | .tup xs => (toDs xs).map .tuple
  | .lst xs => (toDs xs).map .list
  | _ => none
def toDs : List PV → Option (List PyData)
  | [] => some []
  | x :: xs => match toD x, toDs xs with
    | some d, some ds => some (d :: ds)
    | _, _ => none
end
/-- data that may be compared -/
def datum (v : PV) : Option PyData := match toD v with
  | some d => if SeqAt.shaped d then some d else none
  | none => none
def flat : PV → Bool
  | .non | .bl _ | .int _ | .str _ => true
  | _ => false

/-! ### operators -/
def asStr : PV → Option Str
  | .str x => some x
  | _ => none
def asInt : PV → Option Int
  | .int x => some x
  | _ => none
/-- how great an int may be that is multiplied, divided -/
def big : Nat := 2 ^ 8000
def fits (i : Int) : Bool := decide (i.natAbs < big)
def binop (o : BOp) (a b : PV) : Option PV := match o, a, b with
  | .add, .int i, .int j => some (.int (i + j))
  | .sub, .int i, .int j => some (.int (i - j))
  | .mul, .int i, .int j => if fits i && fits j then some (.int (i * j)) else none
  | .fdiv, .int i, .int j => if decide (0 < j) && fits j then some (.int (i / j)) else none
  | .mod, .int i, .int j => if decide (0 < j) then some (.int (i % j)) else none
  | .pow, .int i, .int j => if decide (0 ≤ j) && decide (j ≤ 100) && decide (i.natAbs < 100) then some (.int (i ^ j.toNat)) else none
  | .add, .str x, .str y => if x.length + y.length ≤ 100000 then some (.str (x ++ y)) else none
  | .add, .lst x, .lst y => if x.length + y.length ≤ 100000 then some (.lst (x ++ y)) else none
  | .add, .tup x, .tup y => if x.length + y.length ≤ 100000 then some (.tup (x ++ y)) else none
  | _, _, _ => none
def strLt (x y : Str) : Bool := decide (x.cps.toList < y.cps.toList)
def strIn (c : Nat) (y : Str) : Bool := decide (c ∈ y.cps.toList)
def anyEq (d : PyData) (ds : List PyData) : Bool := ds.any fun z => PyData.eqv z d
def oneSign (x : Str) : Option Nat := match x.cps.toList with
  | [c] => some c
  | _ => none
/-- keys of dicts -/
def asKey : PV → Option Key
  | .int i => some (.inl i)
  | .str x => some (.inr x)
  | _ => none
def dvat : List Key → List PV → Key → Option PV
  | k :: ks, v :: vs, q => if k = q then some v else dvat ks vs q
  | _, _, _ => none
def keyPV : Key → PV
  | .inl i => .int i
  | .inr x => .str x
/-- list(x) -/
def lofO (a : PV) : Option (List PV) := match a with
  | .dic ks _ => some (ks.map keyPV)
  | a => items a
/-- dict(pairs) -/
def pairsO : List PV → Option (List Key × List PV)
  | [] => some ([], [])
  | x :: r => match x, pairsO r with
    | .tup [k, v], some (qs, us) => (asKey k).map fun q => (q :: qs, v :: us)
    | _, _ => none
def cmpop (o : COp) (a b : PV) : Option Bool := match o with
  | .lt => match a, b with
    | .int i, .int j => some (decide (i < j))
    | .str x, .str y => some (strLt x y)
    | _, _ => none
  | .le => match a, b with
    | .int i, .int j => some (decide (i ≤ j))
    | _, _ => none
  | .gt => match a, b with
    | .int i, .int j => some (decide (j < i))
    | _, _ => none
  | .ge => match a, b with
    | .int i, .int j => some (decide (j ≤ i))
    | _, _ => none
  | .isN => match b with
    | .non => match a with
      | .non => some true
      | _ => some false
    | _ => none
  | .notN => match b with
    | .non => match a with
      | .non => some false
      | _ => some true
    | _ => none
  | .eq => match datum a, datum b with
    | some d, some e => some (PyData.eqv d e)
    | _, _ => none
  | .ne => match datum a, datum b with
    | some d, some e => some (!PyData.eqv d e)
    | _, _ => none
  | .mem => match b with
    | .lst ys => match datum a, datum (.lst ys) with
      | some d, some (.list ds) => some (anyEq d ds)
      | _, _ => none
    | .tup ys => match datum a, datum (.tup ys) with
      | some d, some (.tuple ds) => some (anyEq d ds)
      | _, _ => none
    | .str y => match a with
      | .str x => (oneSign x).map fun c => strIn c y
      | _ => none
    | .dic ks vs => (asKey a).map fun k => (dvat ks vs k).isSome
    | _ => none
  | .nmem => match b with
    | .lst ys => match datum a, datum (.lst ys) with
      | some d, some (.list ds) => some (!anyEq d ds)
      | _, _ => none
    | .tup ys => match datum a, datum (.tup ys) with
      | some d, some (.tuple ds) => some (!anyEq d ds)
      | _, _ => none
    | .str y => match a with
      | .str x => (oneSign x).map fun c => !strIn c y
      | _ => none
    | .dic ks vs => (asKey a).map fun k => !(dvat ks vs k).isSome
    | _ => none
def ixop0 (a b : PV) : Option PV := match b with
  | .int i => match a with
    | .lst xs => atI xs i
    | .tup xs => atI xs i
    | .scr ns => (atI ns i).map .int
    | .str x => if x.length ≤ 100000 then (atI x.cps.toList i).map fun c => .str ⟨#[c]⟩ else none
    | _ => none
  | _ => none
def truth : PV → Option Bool
  | .bl b => some b
  | _ => none
def builtin1 (b : Bi) (a : PV) : Option PV := match b with
  | .len => match a with
    | .lst xs => some (.int xs.length)
    | .tup xs => some (.int xs.length)
    | .scr xs => some (.int xs.length)
    | .str x => if x.length ≤ 100000 then some (.int x.length) else none
    | _ => none
  | .abs => match a with
    | .int i => some (.int (if i < 0 then -i else i))
    | _ => none
  | .int => match a with
    | .int i => some (.int i)
    | .str x => if x.length ≤ 640 then (PySem.intText? x).map .int else none
    | _ => none
  | .str => match a with
    | .int i => if i.natAbs.log2 < 1920 then some (.str (toString i)) else none
    | .str x => some (.str x)
    | _ => none
  | .sum => match a with
    | .lst xs => (xs.mapM asInt).map fun ns => .int ns.sum
    | _ => none
  | .all => match a with
    | .lst xs => (xs.mapM truth).map fun bs => .bl (bs.all id)
    | _ => none
  | .any => match a with
    | .lst xs => (xs.mapM truth).map fun bs => .bl (bs.any id)
    | _ => none
  | .tuple => match a with
    | .lst xs => some (.tup xs)
    | .tup xs => some (.tup xs)
    | _ => none
  | .min | .max => none
def builtin2 (b : Bi) (a c : PV) : Option PV := match b, a, c with
  | .min, .int i, .int j => some (.int (if j < i then j else i))
  | .max, .int i, .int j => some (.int (if j > i then j else i))
  | _, _, _ => none

/-- a slice's ends as the layer has them -/
def cutP {α : Type} (xs : List α) (lo hi : Option Int) : List α := (xs.drop (HT.sIx xs.length 0 lo)).take (HT.sIx xs.length xs.length hi - HT.sIx xs.length 0 lo)
def slop (a : PV) (lo hi : Option Int) : Option PV := match a with
  | .lst xs => some (.lst (cutP xs lo hi))
  | .scr ns => some (.lst ((cutP ns lo hi).map .int))
  | .tup xs => some (.tup (cutP xs lo hi))
  | .str x => if x.length ≤ 100000 then some (.str (cutS x lo hi)) else none
  | _ => none
def partO : List PV → Option (Option Int)
  | [] => some none
  | [.int i] => some (some i)
  | _ => none
/-- texts in order -/
def insS (x : Str) : List Str → List Str
  | [] => [x]
  | y :: ys => match strLt y x with
    | true => y :: insS x ys
    | false => x :: y :: ys
def srtS : List Str → List Str
  | [] => []
  | x :: xs => insS x (srtS xs)

mutual
def below (n : Nat) : PV → Bool
  | .tup xs => belows n xs
  | .lst xs => belows n xs
  | .dic _ xs => belows n xs
  | .obj _ _ xs => belows n xs
  | .ref k => decide (k < n)
  | _ => true
def belows (n : Nat) : List PV → Bool
  | [] => true
  | x :: xs => below n x && belows n xs
end
def keyStr : Key → Option Str
  | .inr x => some x
  | .inl _ => none
def textsOf (a : PV) : Option (List Str) := match a with
  | .lst xs => xs.mapM asStr
  | .tup xs => xs.mapM asStr
  | .dic ks _ => ks.mapM keyStr
  | _ => none
def srtO (a : PV) : Option (List PV) := (textsOf a).bind fun ss => if ss.length < 64 then some ((srtS ss).map .str) else none
def idxZ (i : Int) : Bool := decide (-1000000 ≤ i) && decide (i ≤ 1000000)

def isiop (nC : Nat) (t : Isi) (a : PV) : Option Bool := match a with
  | .non => match t with
    | .int | .bool | .str | .tuple | .seq | .cls _ => some false
  | .bl _ => match t with
    | .int | .bool => some true
    | .str | .tuple | .seq | .cls _ => some false
  | .int _ => match t with
    | .int => some true
    | .bool | .str | .tuple | .seq | .cls _ => some false
  | .str _ => match t with
    | .str => some true
    | .int | .bool | .tuple | .seq | .cls _ => some false
  | .tup _ => match t with
    | .tuple | .seq => some true
    | .int | .bool | .str | .cls _ => some false
  | .lst _ => match t with
    | .seq => some true
    | .int | .bool | .str | .tuple | .cls _ => some false
  | .obj c _ _ => if c < nC then (match t with
    | .cls d => some (c == d)
    | .int | .bool | .str | .tuple | .seq => some false) else none
  | _ => none
/-- what a loop walks: the items there are, or a list that may change -/
inductive Src where
  | fix (xs : List PV)
  | live (n : Nat)
def srcAt (s : Src) (m : Mem) (i : Nat) : Option (Option PV) := match s with
  | .fix xs => some xs[i]?
  | .live n => match m[n]? with
    | some (.lst xs) => some xs[i]?
    | _ => none
def zipO (x y : PV) (m : Mem) : Out Src := match x with
  | .lst xs => match y with
    | .lst ys => .ok (.fix ((xs.zip ys).map fun q => .tup [q.1, q.2])) m
    | _ => .stuck
  | .tup xs => match y with
    | .tup ys => .ok (.fix ((xs.zip ys).map fun q => .tup [q.1, q.2])) m
    | _ => .stuck
  | _ => .stuck
/-- at most so many turns -/
def srcFuel : Src → Nat
  | .fix xs => xs.length + 1
  | .live _ => 100001
/-- may the receiver be asked so -/
def recOk (o : M1k) (m : Mem) (x : PV) : Bool := match o with
  | .append | .popi | .extend => match x with
    | .ref n => match m[n]? with
      | some (.lst _) => true
      | _ => false
    | _ => false
  | .join | .split | .partition => match x with
    | .str _ => true
    | _ => false
  | .dupd => match x with
    | .ref n => match m[n]? with
      | some (.dic _ _) => true
      | _ => false
    | _ => false
  | .index => match x with
    | .lst _ => true
    | .ref n => match m[n]? with
      | some (.lst _) => true
      | _ => false
    | _ => false
def appO (x y : PV) (m : Mem) : Out PV := match x with
  | .ref n => match m[n]? with
    | some (.lst xs) => ck (decide (xs.length ≤ 100000) && below n y) (.ok .non (m.set n (.lst (xs ++ [y]))))
    | _ => .stuck
  | _ => .stuck
def popO (x y : PV) (m : Mem) : Out PV := match x with
  | .ref n => match y with
    | .int i => match m[n]? with
      | some (.lst xs) => match ixN xs.length i with
        | some k => match xs[k]? with
          | some z => ck (idxZ i) (.ok z (m.set n (.lst (xs.eraseIdx k))))
          | none => .stuck
        | none => .stuck
      | _ => .stuck
    | _ => .stuck
  | _ => .stuck
def extO (x y : PV) (m : Mem) : Out PV := match x with
  | .ref n => match y with
    | .lst ys => match m[n]? with
      | some (.lst xs) => ck (decide (xs.length + ys.length ≤ 100000) && belows n ys) (.ok .non (m.set n (.lst (xs ++ ys))))
      | _ => .stuck
    | _ => .stuck
  | _ => .stuck
def joinO (x y : PV) (m : Mem) : Out PV := match x with
  | .str s => match (items (vw m y)).bind fun ys => ys.mapM asStr with
    | some ss => ck (decide ((ss.map (·.length)).sum + ss.length * s.length ≤ 100000)) (.ok (.str (Txt.join s ss)) m)
    | none => .stuck
  | _ => .stuck
def splitO (x y : PV) (m : Mem) : Out PV := match x with
  | .str s => match y with
    | .str t => ck (!(t.length == 0) && decide (s.length ≤ 100000)) (.ok (.lst ((Txt.split s t).map .str)) m)
    | _ => .stuck
  | _ => .stuck
def partitionO (x y : PV) (m : Mem) : Out PV := match x with
  | .str s => match y with
    | .str t => ck (!(t.length == 0) && decide (s.length ≤ 100000)) (.ok (.tup [.str (Txt.partition s t).1, .str (Txt.partition s t).2.1, .str (Txt.partition s t).2.2]) m)
    | _ => .stuck
  | _ => .stuck
def setAll : List Key → List PV → Key → PV → List PV
  | k :: ks, v :: vs, q, w => (if k = q then w else v) :: setAll ks vs q w
  | _, _, _, _ => []
def dputv (ks : List Key) (vs : List PV) (q : Key) (w : PV) : List Key × List PV := match ks.any (fun k => decide (k = q)) with
  | true => (ks, setAll ks vs q w)
  | false => (ks ++ [q], vs ++ [w])
/-- more pairs -/
def mergev (ks : List Key) (vs : List PV) : List Key → List PV → List Key × List PV
  | k :: r, v :: w => mergev (dputv ks vs k v).1 (dputv ks vs k v).2 r w
  | _, _ => (ks, vs)
def dupO (x y : PV) (m : Mem) : Out PV := match x with
  | .ref n => match y with
    | .ref k => match m[n]? with
      | some (.dic ks vs) => match m[k]? with
        | some (.dic ls ws) => ck (decide (n ≠ k) && belows n ws && decide (ks.length + ls.length ≤ 100000)) (.ok .non (m.set n (.dic (mergev ks vs ls ws).1 (mergev ks vs ls ws).2)))
        | _ => .stuck
      | _ => .stuck
    | _ => .stuck
  | _ => .stuck
/-- the place of an item -/
def indexO (x y : PV) (m : Mem) : Out PV := match datum (vw m x), datum (vw m y) with
  | some (.list ds), some d => match ds.findIdx? fun z => PyData.eqv z d with
    | some j => .ok (.int (j : Int)) m
    | none => .stuck
  | _, _ => .stuck
def dofO (x : PV) (m : Mem) : Out PV := match vw m x with
  | .lst xs => match pairsO xs with
    | some (ks, vs) => ck (decide (ks.length ≤ 100000)) (.ok (.ref m.length) (m ++ [.dic (mergev [] [] ks vs).1 (mergev [] [] ks vs).2]))
    | none => .stuck
  | _ => .stuck
def m1O : M1k → PV → PV → Mem → Out PV
  | .append => appO
  | .popi => popO
  | .extend => extO
  | .join => joinO
  | .split => splitO
  | .partition => partitionO
  | .dupd => dupO
  | .index => indexO
def dgetO (x y : PV) : Option (Option PV) := match x with
  | .dic ks vs => (asKey y).map fun k => dvat ks vs k
  | _ => none
def isDic (m : Mem) (x : PV) : Bool := match vw m x with
  | .dic _ _ => true
  | _ => false
/-- o[i] = v -/
def setixO (v x y : PV) (m : Mem) : Out Unit := match x with
  | .ref n => match m[n]? with
    | some (.lst xs) => match y with
      | .int k => match ixN xs.length k with
        | some j => ck (below n v) (.ok () (m.set n (.lst (xs.set j v))))
        | none => .stuck
      | _ => .stuck
    | some (.dic ks vs) => match asKey y with
      | some k => ck (below n v && decide (ks.length < 100000)) (.ok () (m.set n (.dic (dputv ks vs k v).1 (dputv ks vs k v).2)))
      | none => .stuck
    | _ => .stuck
  | _ => .stuck
/-- a[b] -/
def ixop (a b : PV) : Option PV := match a with
  | .dic ks vs => (asKey b).bind fun k => dvat ks vs k
  | a => ixop0 a b
/-- fields -/
def fldv : List Str → List PV → Str → Option PV
  | k :: ks, v :: vs, q => if q = k then some v else fldv ks vs q
  | _, _, _ => none
def fputv : List Str → List PV → Str → PV → List Str × List PV
  | k :: ks, v :: vs, q, w => if k = q then (k :: ks, w :: vs) else
    match fputv ks vs q w with
    | (ks', vs') => (k :: ks', v :: vs')
  | _, _, q, w => ([q], [w])
/-- an instance that was made, for good -/
def madeO (n : Nat) (r : PV) (m : Mem) : Out PV := match r with
  | .non => match m[n]? with
    | some (.ins c ns vs) => .ok (.obj c ns vs) (m.take n)
    | _ => .stuck
  | _ => .stuck
/-- a bool, the other way about -/
def negO (neg : Bool) (r : PV) (m : Mem) : Out PV := match r with
  | .bl b => .ok (.bl (xor neg b)) m
  | _ => .stuck
/-! ### the evaluator -/
abbrev Env := List (Option PV)
structure Cl where
  call : Nat → List PV → M PV
  nC : Nat
  /-- class, attribute: a field (none), a property -/
  att : Nat → Str → Option (Option Nat)
  met : Nat → Str → Option Nat
  ini : Nat → Option Nat
  eqf : Nat → Option Nat
  own : Nat → Bi → Option Nat
def asBool (v : PV) : Option Bool := truth v
/-- o.f -/
def attO (D : Cl) (f : Str) (x : PV) (m : Mem) : Out PV := match vw m x with
  | .obj c ns vs => ck (decide (c < D.nC)) (match D.att c f with
    | some (some k) => D.call k [x] m
    | some none => Out.of (fldv ns vs f) m
    | none => .stuck)
  | _ => .stuck
/-- o.f = v -/
def setfO (D : Cl) (v x : PV) (f : Str) (m : Mem) : Out Unit := match x with
  | .ref n => match m[n]? with
    | some (.ins c ns vs) => ck (below n v && decide (ns.length < 900) && decide (c < D.nC)) (match D.att c f with
      | some none => .ok () (m.set n (.ins c (fputv ns vs f v).1 (fputv ns vs f v).2))
      | _ => .stuck)
    | _ => .stuck
  | _ => .stuck
/-- the method's def -/
def metO (D : Cl) (f : Str) (x : PV) (m : Mem) : Option Nat := match vw m x with
  | .obj c ns vs => if c < D.nC then (match fldv ns vs f with
    | none => D.met c f
    | some _ => none) else none
  | _ => none
/-- the class that is called: its number, its __init__ -/
def iniO (D : Cl) (x : PV) : Option (Nat × Nat) := match x with
  | .cls c => if c < D.nC then (D.ini c).map fun k => (c, k) else none
  | _ => none
/-- own ==, != -/
def eqO (D : Cl) (o : COp) (x y : PV) : Option (Nat × Bool) := match x with
  | .obj c _ _ => match y with
    | .obj d _ _ => if c < D.nC ∧ c = d then (match o with
      | .eq => (D.eqf c).map fun k => (k, false)
      | .ne => (D.eqf c).map fun k => (k, true)
      | _ => none) else none
    | _ => none
  | _ => none
def cmpV (D : Cl) (o : COp) (x y : PV) (m : Mem) : Out PV := match eqO D o (vw m x) (vw m y) with
  | some (k, ng) => (D.call k [x, y] m).bind fun r m1 => negO ng r m1
  | none => Out.of ((cmpop o (vw m x) (vw m y)).map .bl) m
def ownO (D : Cl) (b : Bi) (x : PV) : Option Nat := match x with
  | .obj c _ _ => if c < D.nC then D.own c b else none
  | _ => none
def ownRes (b : Bi) (r : PV) (m : Mem) : Out PV := match b with
  | .str => match r with
    | .str z => .ok (.str z) m
    | _ => .stuck
  | _ => .stuck
def biO (D : Cl) (b : Bi) (x : PV) (m : Mem) : Out PV := match ownO D b (vw m x) with
  | some k => (D.call k [x] m).bind fun r m1 => ownRes b r m1
  | none => Out.of (builtin1 b (vw m x)) m
mutual
/-- a target bound -/
def setG : CG → PV → Mem → Env → Option Env
  | .v i, v, _, env => if i < env.length then some (env.set i (some v)) else none
  | .t gs, v, m, env => match vw m v with
    | .tup xs => setGs gs xs m env
    | .lst xs => setGs gs xs m env
    | _ => none
def setGs : CGs → List PV → Mem → Env → Option Env
  | .nil, [], _, env => some env
  | .cons g r, x :: xs, m, env => match setG g x m env with
    | some e => setGs r xs m e
    | none => none
  | _, _, _, _ => none
end
mutual
def gSlots : CG → List Nat
  | .v i => [i]
  | .t gs => gsSlots gs
def gsSlots : CGs → List Nat
  | .nil => []
  | .cons g r => gSlots g ++ gsSlots r
end
/-- own names forgotten -/
def wipeE (env : Env) : List Nat → Env
  | [] => env
  | v :: vs => (wipeE env vs).set v none
/-- a comprehension's turns -/
def lcL (f : PV → Mem → Out (Option PV)) (s : Src) : Nat → Nat → List PV → M (List PV)
  | 0, _, _, _ => .stuck
  | n + 1, i, acc, m => match srcAt s m i with
    | none => .stuck
    | some none => .ok acc m
    | some (some x) => (f x m).bind fun o m1 => match o with
      | some y => lcL f s n (i + 1) (acc ++ [y]) m1
      | none => lcL f s n (i + 1) acc m1
def dcL (f : PV → Mem → Out (Option (Key × PV))) (s : Src) : Nat → Nat → List Key → List PV → M (List Key × List PV)
  | 0, _, _, _, _ => .stuck
  | n + 1, i, ks, vs, m => match srcAt s m i with
    | none => .stuck
    | some none => .ok (ks, vs) m
    | some (some x) => (f x m).bind fun o m1 => match o with
      | some y => ck (decide (ks.length < 100000)) (dcL f s n (i + 1) (dputv ks vs y.1 y.2).1 (dputv ks vs y.1 y.2).2 m1)
      | none => dcL f s n (i + 1) ks vs m1
mutual
def evE (D : Cl) : CE → Env → M PV
  | .v i, env, m => match env[i]? with
    | some (some v) => .ok v m
    | _ => .stuck
  | .k c, _, m => .ok c m
  | .bin o a b, env, m => (evE D a env m).bind fun x m1 => (evE D b env m1).bind fun y m2 => Out.of (binop o (vw m2 x) (vw m2 y)) m2
  | .neg a, env, m => (evE D a env m).bind fun x m1 => match x with
    | .int i => .ok (.int (-i)) m1
    | _ => .stuck
  | .cmp o a b, env, m => (evE D a env m).bind fun x m1 => (evE D b env m1).bind fun y m2 => cmpV D o x y m2
  | .chain o1 o2 a b c, env, m => (evE D a env m).bind fun x m1 => (evE D b env m1).bind fun y m2 => match cmpop o1 (vw m2 x) (vw m2 y) with
    | some true => (evE D c env m2).bind fun z m3 => Out.of ((cmpop o2 (vw m3 y) (vw m3 z)).map .bl) m3
    | some false => .ok (.bl false) m2
    | none => .stuck
  | .test t, env, m => (evT D t env m).bind fun b m1 => .ok (.bl b) m1
  | .ite t a b, env, m => (evT D t env m).bind fun c m1 => match c with
    | true => evE D a env m1
    | false => evE D b env m1
  | .tup es, env, m => (evEs D es env m).bind fun xs m1 => ck (decide (xs.length ≤ 100000)) (.ok (.tup xs) m1)
  | .ix a b, env, m => (evE D a env m).bind fun x m1 => (evE D b env m1).bind fun y m2 => Out.of (ixop (vw m2 x) y) m2
  | .sl a lo hi, env, m => (evE D a env m).bind fun x m1 => (evEs D lo env m1).bind fun l m2 => (Out.of (partO l) m2).bind fun lo m2 => (evEs D hi env m2).bind fun h m3 => (Out.of (partO h) m3).bind fun hi m3 => Out.of (slop (vw m3 x) lo hi) m3
  | .rev1 a, env, m => (evE D a env m).bind fun x m1 => match vw m1 x with
    | .lst xs => .ok (.lst xs.reverse) m1
    | _ => .stuck
  | .m1 o a b, env, m => (evE D a env m).bind fun x m1 => ck (recOk o m1 x) ((evE D b env m1).bind fun y m2 => m1O o x y m2)
  | .attr a f, env, m => (evE D a env m).bind fun x m1 => attO D f x m1
  | .call f es, env, m => (evEs D es env m).bind fun xs m1 => D.call f xs m1
  | .callk f es ks n nk ar, env, m => (evEs D es env m).bind fun xs m1 => (evEs D ks env m1).bind fun zs m2 => (Out.of (pickN n nk xs zs ar) m2).bind fun ys m3 => D.call f ys m3
  | .bi b a, env, m => (evE D a env m).bind fun x m1 => biO D b x m1
  | .bi2 b a c, env, m => (evE D a env m).bind fun x m1 => (evE D c env m1).bind fun y m2 => Out.of (builtin2 b x y) m2
  | .isi a t, env, m => (evE D a env m).bind fun x m1 => Out.of ((isiop D.nC t (vw m1 x)).map .bl) m1
  | .meth f a es ks n nk ar, env, m => (evE D a env m).bind fun x m1 => (Out.of (metO D f x m1) m1).bind fun k m2 => (evEs D es env m2).bind fun xs m3 => (evEs D ks env m3).bind fun zs m4 => (Out.of ((ar.lookup k).bind fun ar => pickN (n + 1) nk (x :: xs) zs ar) m4).bind fun ys m5 => D.call k ys m5
  | .make a es ks n nk ar, env, m => (evE D a env m).bind fun x m1 => (Out.of (iniO D x) m1).bind fun k m2 => (evEs D es env m2).bind fun xs m3 => (evEs D ks env m3).bind fun zs m4 => (Out.of ((ar.lookup k.2).bind fun ar => pickN (n + 1) nk (.ref m4.length :: xs) zs ar) m4).bind fun ys m5 => (D.call k.2 ys (m5 ++ [.ins k.1 [] []])).bind fun r m6 => madeO m5.length r m6
  | .dget2 a b c, env, m => (evE D a env m).bind fun x m1 => ck (isDic m1 x) ((evE D b env m1).bind fun y m2 => (evE D c env m2).bind fun z m3 => Out.of ((dgetO (vw m3 x) y).map fun o => o.getD z) m3)
  | .dnew, _, m => .ok (.ref m.length) (m ++ [.dic [] []])
  | .ddis ks es, env, m => (evEs D es env m).bind fun vs m1 => ck (decide (vs.length = ks.length)) (.ok (.ref m1.length) (m1 ++ [.dic ks vs]))
  | .dof a, env, m => (evE D a env m).bind fun x m1 => dofO x m1
  | .dcm g it t k e own, env, m => (evI D it env m).bind fun s m1 => (dcL (fun x m => match setG g x m (wipeE env own) with
    | some env' => (evT D t env' m).bind fun b m2 => match b with
      | true => (evE D k env' m2).bind fun q m3 => (evE D e env' m3).bind fun y m4 => Out.of ((asKey q).map fun k => some (k, y)) m4
      | false => .ok none m2
    | none => .stuck) s (srcFuel s) 0 [] [] m1).bind fun r m2 => .ok (.ref m2.length) (m2 ++ [.dic r.1 r.2])
  | .fz f, env, m => (evF D f env m).bind fun xs m1 => .ok (.lst xs) m1
  | .cell f, env, m => (evF D f env m).bind fun xs m1 => .ok (.ref m1.length) (m1 ++ [.lst xs])
def evT (D : Cl) : CT → Env → M Bool
  | .tt, _, m => .ok true m
  | .val a, env, m => (evE D a env m).bind fun x m1 => Out.of (asBool (vw m1 x)) m1
  | .nt a, env, m => (evT D a env m).bind fun b m1 => .ok (!b) m1
  | .an a b, env, m => (evT D a env m).bind fun c m1 => match c with
    | true => evT D b env m1
    | false => .ok false m1
  | .or a b, env, m => (evT D a env m).bind fun c m1 => match c with
    | true => .ok true m1
    | false => evT D b env m1
def evEs (D : Cl) : CEs → Env → M (List PV)
  | .nil, _, m => .ok [] m
  | .cons a r, env, m => (evE D a env m).bind fun x m1 => (evEs D r env m1).bind fun xs m2 => .ok (x :: xs) m2
  | .star a r, env, m => (evE D a env m).bind fun x m1 => (Out.of (items (vw m1 x)) m1).bind fun xs m2 => (evEs D r env m2).bind fun ys m3 => .ok (xs ++ ys) m3
def evF (D : Cl) : CF → Env → M (List PV)
  | .lst es, env, m => (evEs D es env m).bind fun xs m1 => ck (decide (xs.length ≤ 100000)) (.ok xs m1)
  | .lc g it t e own, env, m => (evI D it env m).bind fun s m1 => lcL (fun x m => match setG g x m (wipeE env own) with
    | some env' => (evT D t env' m).bind fun b m2 => match b with
      | true => (evE D e env' m2).bind fun y m3 => .ok (some y) m3
      | false => .ok none m2
    | none => .stuck) s (srcFuel s) 0 [] m1
  | .lof a, env, m => (evE D a env m).bind fun x m1 => Out.of (lofO (vw m1 x)) m1
  | .srt a, env, m => (evE D a env m).bind fun x m1 => Out.of (srtO (vw m1 x)) m1
/-- the items that are walked -/
def evI (D : Cl) : CI → Env → M Src
  | .seq a, env, m => (evE D a env m).bind fun x m1 => match x with
    | .lst xs => .ok (.fix xs) m1
    | .tup xs => .ok (.fix xs) m1
    | .scr ns => .ok (.fix (ns.map .int)) m1
    | .str x => ck (decide (x.length ≤ 100000)) (.ok (.fix (x.cps.toList.map fun c => PV.str ⟨#[c]⟩)) m1)
    | .ref n => match m1[n]? with
      | some (.lst _) => .ok (.live n) m1
      | _ => .stuck
    | _ => .stuck
  | .range es, env, m => (evEs D es env m).bind fun xs m1 => match xs with
    | [.int j] => ck (decide (-100000 ≤ j) && decide (j ≤ 100000)) (.ok (.fix ((List.range j.toNat).map fun (i : Nat) => PV.int (i : Int))) m1)
    | _ => .stuck
  | .rev a, env, m => (evE D a env m).bind fun x m1 => match x with
    | .lst xs => .ok (.fix xs.reverse) m1
    | .tup xs => .ok (.fix xs.reverse) m1
    | _ => .stuck
  | .enum a, env, m => (evE D a env m).bind fun x m1 => match x with
    | .lst xs => .ok (.fix (xs.zipIdx.map fun q => .tup [.int (q.2 : Int), q.1])) m1
    | _ => .stuck
  | .zip a b, env, m => (evE D a env m).bind fun x m1 => (evE D b env m1).bind fun y m2 => zipO x y m2
end
inductive Fl where
  | nx | rt (v : PV) | bk | ct
/-- a for's turns -/
def forL (f : PV → Mem → Env → Out (Fl × Env)) (s : Src) : Nat → Nat → Env → M (Fl × Env)
  | 0, _, _, _ => .stuck
  | n + 1, i, env, m => match srcAt s m i with
    | none => .stuck
    | some none => .ok (.nx, env) m
    | some (some x) => (f x m env).bind fun r m1 => match r.1 with
      | .nx => forL f s n (i + 1) r.2 m1
      | .ct => forL f s n (i + 1) r.2 m1
      | .bk => .ok (.nx, r.2) m1
      | .rt v => .ok (.rt v, r.2) m1
/-- a while's turns, at most so many -/
def whL (t : Env → M Bool) (f : Env → M (Fl × Env)) : Nat → Env → M (Fl × Env)
  | 0, _, _ => .stuck
  | n + 1, env, m => (t env m).bind fun b m1 => match b with
    | true => (f env m1).bind fun r m2 => match r.1 with
      | .nx => whL t f n r.2 m2
      | .ct => whL t f n r.2 m2
      | .bk => .ok (.nx, r.2) m2
      | .rt v => .ok (.rt v, r.2) m2
    | false => .ok (.nx, env) m1
mutual
def exS (D : Cl) (W : Nat) : CS → Env → M (Fl × Env)
  | .asg g e, env, m => (evE D e env m).bind fun x m1 => match setG g x m1 env with
    | some env' => .ok (.nx, env') m1
    | none => .stuck
  | .setix a i e, env, m => (evE D e env m).bind fun v m1 => (evE D a env m1).bind fun x m2 => (evE D i env m2).bind fun y m3 => (setixO v x y m3).bind fun _ m4 => .ok (.nx, env) m4
  | .setf a f e, env, m => (evE D e env m).bind fun v m1 => (evE D a env m1).bind fun x m2 => (setfO D v x f m2).bind fun _ m3 => .ok (.nx, env) m3
  | .ex e, env, m => (evE D e env m).bind fun _ m1 => .ok (.nx, env) m1
  | .ret e, env, m => (evE D e env m).bind fun x m1 => .ok (.rt x, env) m1
  | .iff t a b, env, m => (evT D t env m).bind fun c m1 => match c with
    | true => exSs D W a env m1
    | false => exSs D W b env m1
  | .whil t b, env, m => whL (fun env m => evT D t env m) (fun env m => exSs D W b env m) W env m
  | .forr g it b, env, m => (evI D it env m).bind fun s m1 => forL (fun x m env => match setG g x m env with
    | some env' => exSs D W b env' m
    | none => .stuck) s (srcFuel s) 0 env m1
  | .pass, env, m => .ok (.nx, env) m
  | .brk, env, m => .ok (.bk, env) m
  | .cont, env, m => .ok (.ct, env) m
  | .bad, _, _ => .stuck
def exSs (D : Cl) (W : Nat) : CSs → Env → M (Fl × Env)
  | .nil, env, m => .ok (.nx, env) m
  | .cons s r, env, m => (exS D W s env m).bind fun p m1 => match p.1 with
    | .nx => exSs D W r p.2 m1
    | _ => .ok p m1
end
/-- a def: how many names, its body -/
structure CFn where
  nargs : Nat
  nslots : Nat
  body : CSs
structure Tab where
  fn : Nat → Option CFn
  nC : Nat
  att : Nat → Str → Option (Option Nat)
  met : Nat → Str → Option Nat
  ini : Nat → Option Nat
  eqf : Nat → Option Nat
  own : Nat → Bi → Option Nat
def Tab.cl (T : Tab) (call : Nat → List PV → M PV) : Cl := ⟨call, T.nC, T.att, T.met, T.ini, T.eqf, T.own⟩
def runFn (T : Tab) (W : Nat) : Nat → Nat → List PV → M PV
  | 0, _, _, _ => .stuck
  | n + 1, f, xs, m => match T.fn f with
    | some F => ck (decide (xs.length = F.nargs)) ((exSs (T.cl (runFn T W n)) W F.body (xs.map some ++ List.replicate (F.nslots - xs.length) none) m).bind fun p m1 => match p.1 with
      | .rt v => .ok v m1
      | .nx => .ok .non m1
      | _ => .stuck)
    | none => .stuck
end Co

end P_CoreLang
section P_CoreRel
set_option Elab.async false
set_option linter.all false
set_option maxRecDepth 100000
/-! CoreRel: how data and cells lie in the abstract heap. -/
namespace Co
open PySem L2

section
variable (K : PySem.W.Frag) (CA : Nat → Addr)
mutual
/-- v bears the data pv; F: the frozen part, mu: the cells' addresses -/
def Rep (F : Hp) (mu : List Addr) : PV → V → Prop
  | .non, v => v = .non
  | .bl b, v => v = .bl b
  | .int i, v => v = .int i
  | .str x, v => v = .str x
  | .tup xs, v => ∃ a vs, v = .ref a ∧ SqT K F a vs ∧ xs.length ≤ sizeLine ∧ Reps F mu xs vs
  | .lst xs, v => ∃ a vs, v = .ref a ∧ F a = some (.lst vs) ∧ xs.length ≤ sizeLine ∧ Reps F mu xs vs
  | .dic ks xs, v => ∃ a vs, v = .ref a ∧ F a = some (.dK (ks.zip vs)) ∧ xs.length = ks.length ∧ xs.length ≤ sizeLine ∧ Reps F mu xs vs
  | .obj c ns xs, v => ∃ a dx vs, v = .ref a ∧ F a = some (.ins (CA c) dx (ns.zip vs)) ∧ xs.length = ns.length ∧ Reps F mu xs vs
  | .ref n, v => ∃ a, v = .ref a ∧ mu[n]? = some a
  | .scr ns, v => ∃ a, v = .ref a ∧ SqL K F a (ns.map V.int) ∧ ns.length ≤ sizeLine
  | .cls c, v => v = .ref (CA c)
def Reps (F : Hp) (mu : List Addr) : List PV → List V → Prop
  | [], vs => vs = []
  | x :: xs, vs => ∃ v r, vs = v :: r ∧ Rep F mu x v ∧ Reps F mu xs r
end
/-- the cell at a -/
def CellR (F : Hp) (mu : List Addr) (H : Hp) (a : Addr) : Cell → Prop
  | .lst xs => ∃ vs, H a = some (.lst vs) ∧ xs.length ≤ sizeLine ∧ Reps K CA F mu xs vs
  | .lkl xs => ∃ vs, H a = some (.lst vs) ∧ xs.length ≤ sizeLine ∧ Reps K CA F mu xs vs
  | .dic ks xs => ∃ vs, H a = some (.dK (ks.zip vs)) ∧ xs.length = ks.length ∧ xs.length ≤ sizeLine ∧ Reps K CA F mu xs vs
  | .lkd ks xs => ∃ vs, Rd H a (.dK (ks.zip vs)) ∧ xs.length = ks.length ∧ xs.length ≤ sizeLine ∧ Reps K CA F mu xs vs
  | .ins c ns xs => ∃ dx vs, H a = some (.ins (CA c) dx (ns.zip vs)) ∧ xs.length = ns.length ∧ Reps K CA F mu xs vs
structure RelM (F : Hp) (mu : List Addr) (m : Mem) (H : Hp) : Prop where
  fr : ∀ (a : Addr) (o : HO), F a = some o → H a = some o ∨ ∃ (u : Obj) (kvs : List (Key × V)), o = .dK kvs ∧ H a = some (.frz u o)
  len : mu.length = m.length
  nd : mu.Nodup
  off : ∀ a ∈ mu, F a = none
  cells : ∀ (n : Nat) (c : Cell), m[n]? = some c → ∃ a : Addr, mu[n]? = some a ∧ CellR K CA F (mu.take n) H a c
end
/-- from one state to a later one -/
structure St2 (F : Hp) (mu : List Addr) (H : Hp) (F' : Hp) (mu' : List Addr) (H' : Hp) : Prop where
  fF : ∀ (a : Addr) (o : HO), F a = some o → F' a = some o
  fm : ∀ (n : Nat) (a : Addr), mu[n]? = some a → mu'[n]? = some a
  keep : ∀ (a : Addr) (o : HO), H a = some o → a ∉ mu → H' a = some o
  dom : ∀ a : Addr, H a ≠ none → H' a ≠ none
  nF : ∀ (a : Addr) (o : HO), F' a = some o → F a = some o ∨ H a = none
  nm : ∀ a ∈ mu', a ∈ mu ∨ H a = none
section
variable {F F1 F2 : Hp} {mu mu1 mu2 : List Addr} {H H1 H2 : Hp}
theorem St2.refl : St2 F mu H F mu H := ⟨fun _ _ h => h, fun _ _ h => h, fun _ _ h _ => h, fun _ h => h, fun _ _ h => .inl h, fun _ h => .inl h⟩
theorem St2.trans (a : St2 F mu H F1 mu1 H1) (b : St2 F1 mu1 H1 F2 mu2 H2) : St2 F mu H F2 mu2 H2 := by
  have hn : ∀ {c : Addr}, H1 c = none → H c = none := fun {c} h => by
    cases e : H c with
    | none => rfl
    | some o => exact absurd h (a.dom c (by rw [e]; simp))
  refine ⟨fun c o h => b.fF c o (a.fF c o h), fun n c h => b.fm n c (a.fm n c h), fun c o h hc => b.keep c o (a.keep c o h hc) fun h1 => ?_, fun c h => b.dom c (a.dom c h), fun c o h => ?_, fun c h => ?_⟩
  · rcases a.nm c h1 with z | z
    · exact hc z
    · rw [z] at h; cases h
  · rcases b.nF c o h with z | z
    · exact a.nF c o z
    · exact .inr (hn z)
  · rcases b.nm c h with z | z
    · exact a.nm c z
    · exact .inr (hn z)
end
section
variable {K : PySem.W.Frag} {CA : Nat → Addr} {F F1 F2 : Hp} {mu mu1 mu2 : List Addr} {H H1 H2 : Hp} {m m1 m2 : Mem}
theorem rd_mono {a : Addr} {o : HO} (h : Rd F a o) (hF : ∀ (a : Addr) (o : HO), F a = some o → F1 a = some o) : Rd F1 a o := by
  rcases h with h | ⟨u, h⟩
  · exact .inl (hF _ _ h)
  · exact .inr ⟨u, hF _ _ h⟩
theorem sqt_mono {a : Addr} {xs : List V} (h : SqT K F a xs) (hF : ∀ (a : Addr) (o : HO), F a = some o → F1 a = some o) : SqT K F1 a xs := by
  rcases h with h | h
  · exact .inl (rd_mono h hF)
  · exact .inr h
theorem sql_mono {a : Addr} {xs : List V} (h : SqL K F a xs) (hF : ∀ (a : Addr) (o : HO), F a = some o → F1 a = some o) : SqL K F1 a xs := by
  rcases h with h | h
  · exact .inl (rd_mono h hF)
  · exact .inr h
mutual
theorem Rep.mono (hF : ∀ (a : Addr) (o : HO), F a = some o → F1 a = some o) (hm : ∀ (n : Nat) (a : Addr), mu[n]? = some a → mu1[n]? = some a) : ∀ (p : PV) (v : V), Rep K CA F mu p v → Rep K CA F1 mu1 p v
  | .non, _, h | .bl _, _, h | .int _, _, h | .str _, _, h | .cls _, _, h => h
  | .tup xs, v, h => by
    obtain ⟨a, vs, e, h1, h2, h3⟩ := h
    exact ⟨a, vs, e, sqt_mono h1 hF, h2, Reps.mono hF hm xs vs h3⟩
  | .lst xs, v, h => by
    obtain ⟨a, vs, e, h1, h2, h3⟩ := h
    exact ⟨a, vs, e, hF _ _ h1, h2, Reps.mono hF hm xs vs h3⟩
  | .dic ks xs, v, h => by
    obtain ⟨a, vs, e, h1, h2, h3, h4⟩ := h
    exact ⟨a, vs, e, hF _ _ h1, h2, h3, Reps.mono hF hm xs vs h4⟩
  | .obj c ns xs, v, h => by
    obtain ⟨a, dx, vs, e, h1, h2, h3⟩ := h
    exact ⟨a, dx, vs, e, hF _ _ h1, h2, Reps.mono hF hm xs vs h3⟩
  | .ref n, v, h => by
    obtain ⟨a, e, h1⟩ := h
    exact ⟨a, e, hm _ _ h1⟩
  | .scr ns, v, h => by
    obtain ⟨a, e, h1, h2⟩ := h
    exact ⟨a, e, sql_mono h1 hF, h2⟩
theorem Reps.mono (hF : ∀ (a : Addr) (o : HO), F a = some o → F1 a = some o) (hm : ∀ (n : Nat) (a : Addr), mu[n]? = some a → mu1[n]? = some a) : ∀ (ps : List PV) (vs : List V), Reps K CA F mu ps vs → Reps K CA F1 mu1 ps vs
  | [], _, h => h
  | p :: ps, vs, h => by
    obtain ⟨v, r, e, h1, h2⟩ := h
    exact ⟨v, r, e, Rep.mono hF hm p v h1, Reps.mono hF hm ps r h2⟩
end
theorem Rep.step {p : PV} {v : V} (h : Rep K CA F mu p v) (s : St2 F mu H F1 mu1 H1) : Rep K CA F1 mu1 p v := Rep.mono s.fF s.fm p v h
theorem Reps.step {p : List PV} {v : List V} (h : Reps K CA F mu p v) (s : St2 F mu H F1 mu1 H1) : Reps K CA F1 mu1 p v := Reps.mono s.fF s.fm p v h
theorem Reps.length : ∀ {ps : List PV} {vs : List V}, Reps K CA F mu ps vs → vs.length = ps.length
  | [], _, h => by rw [show _ = _ from h]; rfl
  | p :: ps, _, h => by
    obtain ⟨v, r, e, h1, h2⟩ := h
    rw [e, List.length_cons, List.length_cons, Reps.length h2]
theorem Reps.get : ∀ {ps : List PV} {vs : List V} {i : Nat} {p : PV}, Reps K CA F mu ps vs → ps[i]? = some p → ∃ v, vs[i]? = some v ∧ Rep K CA F mu p v
  | [], _, _, _, _, e => by simp at e
  | p :: ps, _, 0, q, h, e => by
    obtain ⟨v, r, e1, h1, h2⟩ := h
    simp at e
    subst e e1
    exact ⟨v, rfl, h1⟩
  | p :: ps, _, i + 1, q, h, e => by
    obtain ⟨v, r, e1, h1, h2⟩ := h
    subst e1
    obtain ⟨u, e2, h3⟩ := Reps.get (i := i) h2 (by simpa using e)
    exact ⟨u, by simpa using e2, h3⟩
theorem Reps.append : ∀ {ps qs : List PV} {vs ws : List V}, Reps K CA F mu ps vs → Reps K CA F mu qs ws → Reps K CA F mu (ps ++ qs) (vs ++ ws)
  | [], _, _, _, h, g => by rw [show _ = _ from h]; exact g
  | p :: ps, _, _, _, h, g => by
    obtain ⟨v, r, e, h1, h2⟩ := h
    subst e
    exact ⟨v, r ++ _, rfl, h1, Reps.append h2 g⟩
/-! ### the state's moves -/
theorem take_get {α : Type} {l : List α} {n k : Nat} {a : α} (h : (l.take n)[k]? = some a) : l[k]? = some a := by
  rw [List.getElem?_take] at h
  split at h
  · exact h
  · cases h
theorem take_mono {l l1 : List Addr} (h : ∀ (n : Nat) (a : Addr), l[n]? = some a → l1[n]? = some a) (i : Nat) : ∀ (n : Nat) (a : Addr), (l.take i)[n]? = some a → (l1.take i)[n]? = some a := fun n a e => by
  rw [List.getElem?_take] at e ⊢
  split at e
  · rename_i q
    rw [if_pos q]
    exact h n a e
  · cases e
theorem CellR.mono {a : Addr} {c : Cell} (h : CellR K CA F mu H a c) (hF : ∀ (a : Addr) (o : HO), F a = some o → F1 a = some o) (hm : ∀ (n : Nat) (a : Addr), mu[n]? = some a → mu1[n]? = some a) (hH : ∀ o, H a = some o → H1 a = some o) : CellR K CA F1 mu1 H1 a c := by
  cases c with
  | lst xs =>
    obtain ⟨vs, h1, h2, h3⟩ := h
    exact ⟨vs, hH _ h1, h2, Reps.mono hF hm _ _ h3⟩
  | lkl xs =>
    obtain ⟨vs, h1, h2, h3⟩ := h
    exact ⟨vs, hH _ h1, h2, Reps.mono hF hm _ _ h3⟩
  | dic ks xs =>
    obtain ⟨vs, h1, h2, h3, h4⟩ := h
    exact ⟨vs, hH _ h1, h2, h3, Reps.mono hF hm _ _ h4⟩
  | lkd ks xs =>
    obtain ⟨vs, h1, h2, h3, h4⟩ := h
    refine ⟨vs, ?_, h2, h3, Reps.mono hF hm _ _ h4⟩
    rcases h1 with h1 | ⟨u, h1⟩
    · exact .inl (hH _ h1)
    · exact .inr ⟨u, hH _ h1⟩
  | ins c ns xs =>
    obtain ⟨dx, vs, h1, h2, h3⟩ := h
    exact ⟨dx, vs, hH _ h1, h2, Reps.mono hF hm _ _ h3⟩
theorem RelM.mem_off {a : Addr} (r : RelM K CA F mu m H) {n : Nat} (h : mu[n]? = some a) : F a = none := r.off a (List.mem_of_getElem? h)
theorem RelM.dom {a : Addr} {o : HO} (r : RelM K CA F mu m H) (h : F a = some o) : H a ≠ none := by
  rcases r.fr a o h with h | ⟨u, kvs, _, h⟩ <;> (rw [h]; simp)
theorem RelM.in_dom {a : Addr} (r : RelM K CA F mu m H) (h : a ∈ mu) : H a ≠ none := by
  obtain ⟨n, hn⟩ := List.mem_iff_getElem?.mp h
  have hl : n < m.length := by rw [← r.len]; exact (List.getElem?_eq_some_iff.mp hn).1
  obtain ⟨b, e, hc⟩ := r.cells n _ (List.getElem?_eq_getElem hl)
  rw [hn] at e
  cases e
  cases hq : m[n] with
  | lst xs => rw [hq] at hc; obtain ⟨vs, h1, _⟩ := hc; rw [h1]; simp
  | lkl xs => rw [hq] at hc; obtain ⟨vs, h1, _⟩ := hc; rw [h1]; simp
  | dic ks xs => rw [hq] at hc; obtain ⟨vs, h1, _⟩ := hc; rw [h1]; simp
  | lkd ks xs => rw [hq] at hc; obtain ⟨vs, h1 | ⟨u, h1⟩, _⟩ := hc <;> (rw [h1]; simp)
  | ins c ns xs => rw [hq] at hc; obtain ⟨dx, vs, h1, _⟩ := hc; rw [h1]; simp
/-- a new frozen object -/
theorem frozen_new {p : Addr} {o : HO} (r : RelM K CA F mu m H) (hp : H p = none) : St2 F mu H (upd F p o) mu (upd H p o) ∧ RelM K CA (upd F p o) mu m (upd H p o) := by
  have hF : F p = none := by
    cases e : F p with
    | none => rfl
    | some u => exact absurd hp (r.dom e)
  have hm : p ∉ mu := fun h => r.in_dom h hp
  have fF : ∀ a u, F a = some u → (upd F p o) a = some u := fun a u h => by rw [upd_ne (ne_of_none h hF)]; exact h
  have fH : ∀ a u, H a = some u → (upd H p o) a = some u := fun a u h => by rw [upd_ne (ne_of_none h hp)]; exact h
  refine ⟨⟨fF, fun _ _ h => h, fun a u h _ => fH a u h, fun a h => ?_, fun a u h => ?_, fun a h => .inl h⟩, ⟨fun a u h => ?_, r.len, r.nd, fun a h => ?_, fun n c h => ?_⟩⟩
  · cases e : H a with
    | none => exact absurd e h
    | some u => rw [fH a u e]; simp
  · by_cases e : a = p
    · subst e; exact .inr hp
    · rw [upd_ne e] at h; exact .inl h
  · by_cases e : a = p
    · subst e
      rw [upd_same] at h
      cases h
      exact .inl upd_same
    · rw [upd_ne e] at h
      rcases r.fr a u h with h | ⟨o', kvs, e1, h⟩
      · exact .inl (fH _ _ h)
      · exact .inr ⟨o', kvs, e1, fH _ _ h⟩
  · rw [upd_ne (show a ≠ p from fun e => hm (by rw [← e]; exact h))]
    exact r.off a h
  · obtain ⟨a, e, hc⟩ := r.cells n c h
    exact ⟨a, e, hc.mono fF (fun _ _ h => h) fun u => fH a u⟩
end
end Co

end P_CoreRel
section P_CoreSnd
set_option Elab.async false
set_option linter.all false
set_option maxRecDepth 100000
set_option maxHeartbeats 1000000
/-! CoreSnd: what the evaluator tells is what the machine does: expressions. -/
namespace Co
open PySem PySem.Spec PyProof.Rows L2

/-- what is fixed: the class addresses, the written part -/
structure G where
  K : PySem.W.Frag
  CA : Nat → Addr
/-- what is wanted behind an outcome -/
def W {α : Type} (g : G) (F : Hp) (mu : List Addr) (H : Hp) (o : Out α) (Q : α → Mem → Hp → List Addr → Hp → Prop) : Prop := match o with
  | .ok a m => ∀ F' mu' H', St2 F mu H F' mu' H' → RelM g.K g.CA F' mu' m H' → Q a m F' mu' H'
  | .exc _ _ => False
  | .stuck => False
section
variable {g : G} {F : Hp} {mu : List Addr} {H : Hp} {α β : Type} {o : Out α} {f : α → Mem → Out β} {Q Q' : α → Mem → Hp → List Addr → Hp → Prop} {R : β → Mem → Hp → List Addr → Hp → Prop}
theorem W.mono (h : W g F mu H o Q) (k : ∀ a m F' mu' H', St2 F mu H F' mu' H' → RelM g.K g.CA F' mu' m H' → Q a m F' mu' H' → Q' a m F' mu' H') : W g F mu H o Q' := by
  cases o with
  | ok a m => exact fun F' mu' H' st rm => k a m F' mu' H' st rm (h F' mu' H' st rm)
  | exc e m => exact h
  | stuck => exact h
theorem W.bind (h : W g F mu H (o.bind f) R) : W g F mu H o fun a m F' mu' H' => W g F' mu' H' (f a m) R := by
  cases o with
  | ok a m =>
    intro F' mu' H' st rm
    have h1 : W g F mu H (f a m) R := h
    cases e : f a m with
    | ok b m1 =>
      rw [e] at h1
      exact fun F2 mu2 H2 st2 rm2 => h1 F2 mu2 H2 (st.trans st2) rm2
    | exc x m1 => rw [e] at h1; exact h1
    | stuck => rw [e] at h1; exact h1
  | exc e m => exact h
  | stuck => exact h
theorem W.ok {a : α} {m : Mem} (h : W g F mu H (.ok a m) Q) (rm : RelM g.K g.CA F mu m H) : Q a m F mu H := h F mu H St2.refl rm
theorem W.ck {b : Bool} (h : W g F mu H (ck b o) Q) : b = true ∧ W g F mu H o Q := by
  cases b with
  | true => exact ⟨rfl, h⟩
  | false => exact h.elim
theorem W.of {x : Option α} {m : Mem} (h : W g F mu H (Out.of x m) Q) : ∃ a, x = some a ∧ W g F mu H (.ok a m) Q := by
  cases x with
  | some a => exact ⟨a, rfl, h⟩
  | none => exact h.elim
end
/-- the names' values -/
def EnvR (g : G) (F : Hp) (mu : List Addr) (env : Env) (σ : L2.St) : Prop := env.length = σ.length ∧ ∀ (i : Nat) (p : PV), env[i]? = some (some p) → ∃ v, σ[i]? = some (some v) ∧ Rep g.K g.CA F mu p v
theorem EnvR.step {g : G} {F F' : Hp} {mu mu' : List Addr} {H H' : Hp} {env : Env} {σ : L2.St} (e : EnvR g F mu env σ) (s : St2 F mu H F' mu' H') : EnvR g F' mu' env σ :=
  ⟨e.1, fun i p h => let ⟨v, h1, h2⟩ := e.2 i p h; ⟨v, h1, h2.step s⟩⟩
/-- an expression's reading -/
def tE (g : G) (D : Cl) (c : CE) : TE := fun σ H Q => ∃ F mu env m, EnvR g F mu env σ ∧ RelM g.K g.CA F mu m H ∧ W g F mu H (evE D c env m) fun p m' F' mu' H' => ∀ v, Rep g.K g.CA F' mu' p v → Q v H'
def tT (g : G) (D : Cl) (c : CT) : TT := fun σ H Q => ∃ F mu env m, EnvR g F mu env σ ∧ RelM g.K g.CA F mu m H ∧ W g F mu H (evT D c env m) fun b m' F' mu' H' => Q b H'
def tA (g : G) (D : Cl) (c : CEs) : TA := fun σ H Q => ∃ F mu env m, EnvR g F mu env σ ∧ RelM g.K g.CA F mu m H ∧ W g F mu H (evEs D c env m) fun ps m' F' mu' H' => ∀ vs, Reps g.K g.CA F' mu' ps vs → Q vs H'
/-- a new list's reading -/
def tF (g : G) (D : Cl) (c : CF) : TE := fun σ H Q => ∃ F mu env m, EnvR g F mu env σ ∧ RelM g.K g.CA F mu m H ∧ W g F mu H (evF D c env m) fun ps m' F' mu' H' => ∀ vs p, Reps g.K g.CA F' mu' ps vs → ps.length ≤ sizeLine → H' p = none → Q (.ref p) (upd H' p (.lst vs))
theorem PE.conv {X : Cx} {e : Expr} {t t' : TE} (h : PE X e t) (k : ∀ σ H Q, t' σ H Q → t σ H Q) : PE X e t' := ⟨fun pins s σ H Q I q => h.run pins s σ H Q I (k σ H Q q)⟩
theorem PE.or {X : Cx} {e : Expr} {t t' : TE} (h : PE X e t) (h' : PE X e t') : PE X e (fun σ H Q => t σ H Q ∨ t' σ H Q) := ⟨fun pins s σ H Q I q => q.elim (h.run pins s σ H Q I) (h'.run pins s σ H Q I)⟩
theorem PE.ex {X : Cx} {e : Expr} {ι : Type} {p : ι → Prop} {t : ι → TE} (h : ∀ i, p i → PE X e (t i)) : PE X e (fun σ H Q => ∃ i, p i ∧ t i σ H Q) := ⟨fun pins s σ H Q I ⟨i, hp, q⟩ => (h i hp).run pins s σ H Q I q⟩
theorem PT.conv {X : Cx} {e : Expr} {t t' : TT} (h : PT X e t) (k : ∀ σ H Q, t' σ H Q → t σ H Q) : PT X e t' := ⟨fun pins s σ H Q I q => h.run pins s σ H Q I (k σ H Q q)⟩
theorem PA.conv {X : Cx} {e : List Expr} {t t' : TA} (h : PA X e t) (k : ∀ σ H Q, t' σ H Q → t σ H Q) : PA X e t' := ⟨fun pos pins s σ H Q I q => h.run pos pins s σ H Q I (k σ H Q q)⟩
theorem PS.conv {X : Cx} {e : Stmt} {t t' : TS} (h : PS X e t) (k : ∀ D σ H, t' D σ H → t D σ H) : PS X e t' := ⟨fun pins s σ H D I q => h.run pins s σ H D I (k D σ H q)⟩
theorem PSs.conv {X : Cx} {e : List Stmt} {t t' : TS} (h : PSs X e t) (k : ∀ D σ H, t' D σ H → t D σ H) : PSs X e t' := ⟨fun pins s σ H D I q => h.run pins s σ H D I (k D σ H q)⟩

/-! ### what is seen -/
/-- v bears what is seen -/
def View (g : G) (F : Hp) (mu : List Addr) (H : Hp) : PV → V → Prop
  | .lst xs, v => ∃ a vs, v = .ref a ∧ H a = some (.lst vs) ∧ xs.length ≤ sizeLine ∧ Reps g.K g.CA F mu xs vs
  | .tup xs, v => ∃ a vs, v = .ref a ∧ SqT g.K H a vs ∧ xs.length ≤ sizeLine ∧ Reps g.K g.CA F mu xs vs
  | .dic ks xs, v => ∃ a vs, v = .ref a ∧ Rd H a (.dK (ks.zip vs)) ∧ xs.length = ks.length ∧ xs.length ≤ sizeLine ∧ Reps g.K g.CA F mu xs vs
  | .obj c ns xs, v => ∃ a dx vs, v = .ref a ∧ H a = some (.ins (g.CA c) dx (ns.zip vs)) ∧ xs.length = ns.length ∧ Reps g.K g.CA F mu xs vs
  | .scr ns, v => ∃ a, v = .ref a ∧ SqL g.K H a (ns.map V.int) ∧ ns.length ≤ sizeLine
  | .ref _, _ => True
  | p, v => Rep g.K g.CA F mu p v
section
variable {g : G} {F : Hp} {mu : List Addr} {H : Hp} {m : Mem} {p : PV} {v : V}
theorem fr_lst (r : RelM g.K g.CA F mu m H) {a : Addr} {vs : List V} (h : F a = some (.lst vs)) : H a = some (.lst vs) := by
  rcases r.fr a _ h with h | ⟨u, kvs, e, _⟩
  · exact h
  · cases e
theorem fr_ins (r : RelM g.K g.CA F mu m H) {a C dx : Addr} {fs : List (Str × V)} (h : F a = some (.ins C dx fs)) : H a = some (.ins C dx fs) := by
  rcases r.fr a _ h with h | ⟨u, kvs, e, _⟩
  · exact h
  · cases e
theorem fr_rd (r : RelM g.K g.CA F mu m H) {a : Addr} {o : HO} (h : F a = some o) : Rd H a o := by
  rcases r.fr a _ h with h | ⟨u, kvs, e, h⟩
  · exact .inl h
  · exact .inr ⟨u, h⟩
theorem fr_frz (r : RelM g.K g.CA F mu m H) {a : Addr} {o : HO} {u : Obj} (h : F a = some (.frz u o)) : H a = some (.frz u o) := by
  rcases r.fr a _ h with h | ⟨u, kvs, e, h⟩
  · exact h
  · cases e
theorem fr_sqT (r : RelM g.K g.CA F mu m H) {a : Addr} {vs : List V} (h : SqT g.K F a vs) : SqT g.K H a vs := by
  rcases h with (h | ⟨u, h⟩) | h
  · exact .inl (fr_rd r h)
  · exact .inl (.inr ⟨u, fr_frz r h⟩)
  · exact .inr h
theorem fr_sqL (r : RelM g.K g.CA F mu m H) {a : Addr} {vs : List V} (h : SqL g.K F a vs) : SqL g.K H a vs := by
  rcases h with (h | ⟨u, h⟩) | h
  · exact .inl (fr_rd r h)
  · exact .inl (.inr ⟨u, fr_frz r h⟩)
  · exact .inr h
theorem Reps.tk {n : Nat} {ps : List PV} {vs : List V} (h : Reps g.K g.CA F (mu.take n) ps vs) : Reps g.K g.CA F mu ps vs := Reps.mono (fun _ _ h => h) (fun _ _ h => take_get h) ps vs h
theorem view (r : RelM g.K g.CA F mu m H) (h : Rep g.K g.CA F mu p v) : View g F mu H (vw m p) v := by
  cases p with
  | non => exact h
  | bl b => exact h
  | int i => exact h
  | str x => exact h
  | cls c => exact h
  | tup xs =>
    obtain ⟨a, vs, e, h1, h2, h3⟩ := h
    exact ⟨a, vs, e, fr_sqT r h1, h2, h3⟩
  | lst xs =>
    obtain ⟨a, vs, e, h1, h2, h3⟩ := h
    exact ⟨a, vs, e, fr_lst r h1, h2, h3⟩
  | dic ks xs =>
    obtain ⟨a, vs, e, h1, h2, h3, h4⟩ := h
    exact ⟨a, vs, e, fr_rd r h1, h2, h3, h4⟩
  | obj c ns xs =>
    obtain ⟨a, dx, vs, e, h1, h2, h3⟩ := h
    exact ⟨a, dx, vs, e, fr_ins r h1, h2, h3⟩
  | scr ns =>
    obtain ⟨a, e, h1, h2⟩ := h
    exact ⟨a, e, fr_sqL r h1, h2⟩
  | ref n =>
    obtain ⟨a, e, h1⟩ := h
    unfold vw
    dsimp only
    cases q : m[n]? with
    | none => exact trivial
    | some c =>
      obtain ⟨b, e2, hc⟩ := r.cells n c q
      rw [h1] at e2
      cases e2
      cases c with
      | lst xs =>
        obtain ⟨vs, k1, k2, k3⟩ := hc
        exact ⟨a, vs, e, k1, k2, k3.tk⟩
      | lkl xs =>
        obtain ⟨vs, k1, k2, k3⟩ := hc
        exact ⟨a, vs, e, k1, k2, k3.tk⟩
      | dic ks xs =>
        obtain ⟨vs, k1, k2, k3, k4⟩ := hc
        exact ⟨a, vs, e, .inl k1, k2, k3, k4.tk⟩
      | lkd ks xs =>
        obtain ⟨vs, k1, k2, k3, k4⟩ := hc
        exact ⟨a, vs, e, k1, k2, k3, k4.tk⟩
      | ins c ns xs =>
        obtain ⟨dx, vs, k1, k2, k3⟩ := hc
        exact ⟨a, dx, vs, e, k1, k2, k3.tk⟩
end

/-! ### simple expressions -/
section
variable {X : Cx} {g : G} {D : Cl} {a b c : Expr} {ca cb cc : CE} {pos : Pos}
theorem s_var {i : Nat} {x : Str} (hN : X.N[i]? = some x) (hv : Vis X.env.scope x) (hd : (x == ("__debug__" : Str)) = false) (hcd : (x == ("__classdict__" : Str)) = false) : PE X (.Name x pos) (tE g D (.v i)) := by
  refine PE.conv (pe_var hN hv hd hcd) fun σ H Q h => ?_
  obtain ⟨F, mu, env, m, hE, hM, hw⟩ := h
  simp only [evE] at hw
  cases e : env[i]? with
  | none => rw [e] at hw; exact hw.elim
  | some o =>
    rw [e] at hw
    cases o with
    | none => exact hw.elim
    | some p =>
      obtain ⟨v, h1, h2⟩ := hE.2 i p e
      exact ⟨v, h1, W.ok hw hM v h2⟩
theorem s_k {e : Expr} {p : PV} {v : V} (h : PE X e (tC v)) (hr : ∀ F mu, Rep g.K g.CA F mu p v) : PE X e (tE g D (.k p)) := by
  refine PE.conv h fun σ H Q h => ?_
  obtain ⟨F, mu, env, m, hE, hM, hw⟩ := h
  exact W.ok hw hM v (hr F mu)
/-- two operands -/
theorem two {r : R2} {σ : L2.St} {H : Hp} {Q : VK} (f : PV → PV → Mem → Out PV)
    (hop : ∀ F mu H m x y p q Q', RelM g.K g.CA F mu m H → Rep g.K g.CA F mu p x → Rep g.K g.CA F mu q y → (W g F mu H (f p q m) fun p m' F' mu' H' => ∀ v, Rep g.K g.CA F' mu' p v → Q' v H') → r x y H Q')
    (h : ∃ F mu env m, EnvR g F mu env σ ∧ RelM g.K g.CA F mu m H ∧ W g F mu H ((evE D ca env m).bind fun x m1 => (evE D cb env m1).bind fun y m2 => f x y m2) fun p m' F' mu' H' => ∀ v, Rep g.K g.CA F' mu' p v → Q v H') :
    tOp r (tE g D ca) (tE g D cb) σ H Q := by
  obtain ⟨F, mu, env, m, hE, hM, hw⟩ := h
  refine ⟨F, mu, env, m, hE, hM, (W.bind hw).mono fun p m1 F1 mu1 H1 st rm hw1 x hx => ?_⟩
  exact ⟨F1, mu1, env, m1, hE.step st, rm, (W.bind hw1).mono fun q m2 F2 mu2 H2 st2 rm2 hw2 y hy => hop F2 mu2 H2 m2 x y p q Q rm2 (hx.step st2) hy hw2⟩
theorem s_op {op : Operator} {o : BOp} {r : R2} (ho : OpR X (binaryOp op) r) (ha : PE X a (tE g D ca)) (hb : PE X b (tE g D cb))
    (hop : ∀ F mu H m x y p q Q', RelM g.K g.CA F mu m H → Rep g.K g.CA F mu p x → Rep g.K g.CA F mu q y → (W g F mu H (Out.of (binop o (vw m p) (vw m q)) m) fun p m' F' mu' H' => ∀ v, Rep g.K g.CA F' mu' p v → Q' v H') → r x y H Q') :
    PE X (.BinOp a op b pos) (tE g D (.bin o ca cb)) :=
  PE.conv (pe_op ho ha hb) fun σ H Q h => two (fun p q m => Out.of (binop o (vw m p) (vw m q)) m) hop h
end
end Co

end P_CoreSnd
section P_CoreOps
set_option Elab.async false
set_option linter.all false
set_option maxRecDepth 100000
set_option maxHeartbeats 2000000
/-! CoreOps: operators, comparisons, subscripts, tests. -/
namespace Co
open PySem PySem.Spec PyProof.Rows L2

section
variable {g : G} {F : Hp} {mu : List Addr} {H : Hp} {m : Mem} {p : PV} {v : V}
theorem fits_log {i : Int} (h : fits i = true) : i.natAbs.log2 < 8000 := by
  have h1 : i.natAbs < 2 ^ 8000 := of_decide_eq_true h
  exact PySem.Flt.log2_lt_of (by decide) h1
theorem view_int {i : Int} (r : RelM g.K g.CA F mu m H) (h : Rep g.K g.CA F mu p v) (e : vw m p = .int i) : v = .int i := by
  have h1 := view r h
  rw [e] at h1
  exact h1
theorem view_str {x : Str} (r : RelM g.K g.CA F mu m H) (h : Rep g.K g.CA F mu p v) (e : vw m p = .str x) : v = .str x := by
  have h1 := view r h
  rw [e] at h1
  exact h1
mutual
theorem dp_rep (r : RelM g.K g.CA F mu m H) : ∀ (p : PV) (v : V) (d : PyData), Rep g.K g.CA F mu p v → toD p = some d → Dp g.K H v d
  | .non, v, d, h, e => by
    cases e
    rw [show v = .non from h]
    exact .non
  | .bl b, v, d, h, e => by
    cases e
    rw [show v = .bl b from h]
    exact .bl b
  | .int i, v, d, h, e => by
    cases e
    rw [show v = .int i from h]
    exact .int i
  | .str x, v, d, h, e => by
    cases e
    rw [show v = .str x from h]
    exact .str x
  | .tup xs, v, d, h, e => by
    obtain ⟨a, vs, rfl, h1, h2, h3⟩ := h
    cases q : toDs xs with
    | none => simp [toD, q] at e
    | some ds =>
      simp [toD, q] at e
      subst e
      exact .tup (fr_sqT r h1) (dp_reps r xs vs ds h3 q)
  | .lst xs, v, d, h, e => by
    obtain ⟨a, vs, rfl, h1, h2, h3⟩ := h
    cases q : toDs xs with
    | none => simp [toD, q] at e
    | some ds =>
      simp [toD, q] at e
      subst e
      exact .lst (.of (fr_lst r h1)) (dp_reps r xs vs ds h3 q)
  | .dic _ _, _, _, _, e => by simp [toD] at e
  | .obj _ _ _, _, _, _, e => by simp [toD] at e
  | .ref _, _, _, _, e => by simp [toD] at e
  | .scr _, _, _, _, e => by simp [toD] at e
theorem dp_reps (r : RelM g.K g.CA F mu m H) : ∀ (ps : List PV) (vs : List V) (ds : List PyData), Reps g.K g.CA F mu ps vs → toDs ps = some ds → DpAll g.K H vs ds
  | [], vs, ds, h, e => by
    cases e
    rw [show vs = [] from h]
    exact .nil
  | p :: ps, vs, ds, h, e => by
    obtain ⟨v, w, rfl, h1, h2⟩ := h
    cases q1 : toD p with
    | none => simp [toDs, q1] at e
    | some d =>
      cases q2 : toDs ps with
      | none => simp [toDs, q1, q2] at e
      | some ds2 =>
        simp [toDs, q1, q2] at e
        subst e
        exact .cons (dp_rep r p v d h1 q1) (dp_reps r ps w ds2 h2 q2)
end
theorem dp_view {d : PyData} (r : RelM g.K g.CA F mu m H) (h : View g F mu H p v) (e : toD p = some d) : Dp g.K H v d := by
  cases p with
  | non => exact dp_rep r .non v d h e
  | bl b => exact dp_rep r (.bl b) v d h e
  | int i => exact dp_rep r (.int i) v d h e
  | str x => exact dp_rep r (.str x) v d h e
  | tup xs =>
    obtain ⟨a, vs, rfl, h1, h2, h3⟩ := h
    cases q : toDs xs with
    | none => simp [toD, q] at e
    | some ds =>
      simp [toD, q] at e
      subst e
      exact .tup h1 (dp_reps r xs vs ds h3 q)
  | lst xs =>
    obtain ⟨a, vs, rfl, h1, h2, h3⟩ := h
    cases q : toDs xs with
    | none => simp [toD, q] at e
    | some ds =>
      simp [toD, q] at e
      subst e
      exact .lst (.of h1) (dp_reps r xs vs ds h3 q)
  | _ => simp [toD] at e
theorem datum_of {p : PV} {d : PyData} (e : datum p = some d) : toD p = some d ∧ SeqAt.shaped d = true := by
  unfold datum at e
  cases q : toD p with
  | none => rw [q] at e; cases e
  | some d2 =>
    rw [q] at e
    dsimp only at e
    split at e
    · cases e
      exact ⟨rfl, by assumption⟩
    · cases e
end

/-! ### binary operators -/
section
variable {X : Cx} {g : G} {D : Cl} {a b c : Expr} {ca cb cc : CE} {pos : Pos}
theorem s_sub (ha : PE X a (tE g D ca)) (hb : PE X b (tE g D cb)) : PE X (.BinOp a .Sub b pos) (tE g D (.bin .sub ca cb)) :=
  s_op op_sub ha hb fun F mu H m x y p q Q' rm hx hy hw => by
    obtain ⟨z, hz, hw⟩ := W.of hw
    cases ep : vw m p <;> cases eq : vw m q <;> rw [ep, eq] at hz <;> simp [binop] at hz
    subst hz
    rw [view_int rm hx ep, view_int rm hy eq]
    exact ⟨_, _, rfl, rfl, W.ok hw rm _ rfl⟩
theorem s_mul (ha : PE X a (tE g D ca)) (hb : PE X b (tE g D cb)) : PE X (.BinOp a .Mult b pos) (tE g D (.bin .mul ca cb)) :=
  s_op op_mulW ha hb fun F mu H m x y p q Q' rm hx hy hw => by
    obtain ⟨z, hz, hw⟩ := W.of hw
    cases ep : vw m p <;> cases eq : vw m q <;> rw [ep, eq] at hz <;> simp [binop] at hz
    obtain ⟨⟨h1, h2⟩, hz⟩ := hz
    subst hz
    rw [view_int rm hx ep, view_int rm hy eq]
    refine ⟨_, _, rfl, rfl, ?_, W.ok hw rm _ rfl⟩
    have := fits_log h1
    have := fits_log h2
    unfold CMulW
    omega
theorem s_fdiv (ha : PE X a (tE g D ca)) (hb : PE X b (tE g D cb)) : PE X (.BinOp a .FloorDiv b pos) (tE g D (.bin .fdiv ca cb)) :=
  s_op op_fdivW ha hb fun F mu H m x y p q Q' rm hx hy hw => by
    obtain ⟨z, hz, hw⟩ := W.of hw
    cases ep : vw m p <;> cases eq : vw m q <;> rw [ep, eq] at hz <;> simp [binop] at hz
    obtain ⟨⟨h1, h2⟩, hz⟩ := hz
    subst hz
    rw [view_int rm hx ep, view_int rm hy eq]
    have := fits_log h2
    exact ⟨_, _, rfl, rfl, ⟨h1, by omega⟩, W.ok hw rm _ rfl⟩
theorem s_mod (ha : PE X a (tE g D ca)) (hb : PE X b (tE g D cb)) : PE X (.BinOp a .Mod b pos) (tE g D (.bin .mod ca cb)) :=
  s_op op_mod ha hb fun F mu H m x y p q Q' rm hx hy hw => by
    obtain ⟨z, hz, hw⟩ := W.of hw
    cases ep : vw m p <;> cases eq : vw m q <;> rw [ep, eq] at hz <;> simp [binop] at hz
    obtain ⟨h1, hz⟩ := hz
    subst hz
    rw [view_int rm hx ep, view_int rm hy eq]
    exact ⟨_, _, rfl, rfl, h1, W.ok hw rm _ rfl⟩
theorem s_pow (ha : PE X a (tE g D ca)) (hb : PE X b (tE g D cb)) : PE X (.BinOp a .Pow b pos) (tE g D (.bin .pow ca cb)) :=
  s_op op_pow ha hb fun F mu H m x y p q Q' rm hx hy hw => by
    obtain ⟨z, hz, hw⟩ := W.of hw
    cases ep : vw m p <;> cases eq : vw m q <;> rw [ep, eq] at hz <;> simp [binop] at hz
    obtain ⟨⟨⟨h1, h2⟩, h3⟩, hz⟩ := hz
    subst hz
    rw [view_int rm hx ep, view_int rm hy eq]
    refine ⟨_, _, rfl, rfl, ⟨h1, by omega, ?_⟩, W.ok hw rm _ rfl⟩
    exact Nat.lt_trans h3 (by decide)
theorem s_neg (ha : PE X a (tE g D ca)) : PE X (.UnaryOp .USub a pos) (tE g D (.neg ca)) :=
  PE.conv (pe_un un_neg ha) fun σ H Q h => by
    obtain ⟨F, mu, env, m, hE, hM, hw⟩ := h
    refine ⟨F, mu, env, m, hE, hM, (W.bind hw).mono fun p m1 F1 mu1 H1 st rm hw1 x hx => ?_⟩
    cases p with
    | int i => exact ⟨i, hx, W.ok hw1 rm _ rfl⟩
    | _ => exact hw1.elim
/-! ### comparisons -/
def cmpO : CmpOp → Option COp
  | .Eq => some .eq | .NotEq => some .ne | .Lt => some .lt | .LtE => some .le | .Gt => some .gt | .GtE => some .ge | .Is => some .isN | .IsNot => some .notN | .In => some .mem | .NotIn => some .nmem
def rInDT (K : PySem.W.Frag) : R2 := fun x y H Q => ∃ d ds, Dp K H x d ∧ Dp K H y (.tuple ds) ∧ SeqAt.shaped d = true ∧ SeqAt.shaped (.tuple ds) = true ∧ Q (.bl (ds.any fun z => PyData.eqv z d)) H
def rNotInDT (K : PySem.W.Frag) : R2 := fun x y H Q => ∃ d ds, Dp K H x d ∧ Dp K H y (.tuple ds) ∧ SeqAt.shaped d = true ∧ SeqAt.shaped (.tuple ds) = true ∧ Q (.bl (!ds.any fun z => PyData.eqv z d)) H
theorem room_in2 {A : Around} {d : PyData} {n : Nat} (h : SeqAt.shaped d = true) (hu : A.units + 65 < cLine) : A.units + 1 + min n d.depth < cLine := by
  have h1 : d.depth ≤ 64 := by
    have h2 : (d.canLay0 && decide (d.depth ≤ 64)) = true := h
    exact of_decide_eq_true (Bool.and_eq_true_iff.mp h2).2
  omega
theorem op_inDT (hu : X.A.units + 65 < cLine) : OpR X (compareOp .In) (rInDT X.K) := by
  intro pins s σ H x y v u Q I rx ry h
  obtain ⟨d, ds, hd, he, sd, se, q⟩ := h
  obtain ⟨as, r1⟩ := Dp.reads I d x v hd rx
  obtain ⟨bs, r2⟩ := Dp.reads I (.tuple ds) y u he ry
  exact SeqAt.in_tuple_reads r2 r1 (SeqAt.canLay_of_shaped se) (SeqAt.canLay_of_shaped sd) (room_in2 sd hu) ⟨.bl _, H, I, rfl, q⟩
theorem op_notInDT (hu : X.A.units + 65 < cLine) : OpR X (compareOp .NotIn) (rNotInDT X.K) := by
  intro pins s σ H x y v u Q I rx ry h
  obtain ⟨d, ds, hd, he, sd, se, q⟩ := h
  obtain ⟨as, r1⟩ := Dp.reads I d x v hd rx
  obtain ⟨bs, r2⟩ := Dp.reads I (.tuple ds) y u he ry
  exact SeqAt.notIn_tuple_reads r2 r1 (SeqAt.canLay_of_shaped se) (SeqAt.canLay_of_shaped sd) (room_in2 sd hu) ⟨.bl _, H, I, rfl, q⟩
/-- the operation by values: what the machine asks -/
def OpS (X : Cx) (g : G) (op : CmpOp) (o : COp) : Prop := ∃ r : R2, OpR X (compareOp op) r ∧ ∀ F mu H m x y p q b (Q' : VK), RelM g.K g.CA F mu m H → Rep g.K g.CA F mu p x → Rep g.K g.CA F mu q y → cmpop o (vw m p) (vw m q) = some b → Q' (.bl b) H → r x y H Q'
theorem ops_lt : OpS X g .Lt .lt := ⟨_, OpR.or op_lt op_lt_str, fun F mu H m x y p q b Q' rm hx hy h hq => by
  cases ep : vw m p <;> cases eq : vw m q <;> rw [ep, eq] at h <;> simp [cmpop] at h
  · subst h
    rw [view_int rm hx ep, view_int rm hy eq]
    exact .inl ⟨_, _, rfl, rfl, hq⟩
  · subst h
    rw [view_str rm hx ep, view_str rm hy eq]
    exact .inr ⟨_, _, rfl, rfl, hq⟩⟩
theorem ops_le : OpS X g .LtE .le := ⟨_, op_le, fun F mu H m x y p q b Q' rm hx hy h hq => by
  cases ep : vw m p <;> cases eq : vw m q <;> rw [ep, eq] at h <;> simp [cmpop] at h
  subst h
  rw [view_int rm hx ep, view_int rm hy eq]
  exact ⟨_, _, rfl, rfl, hq⟩⟩
theorem ops_gt : OpS X g .Gt .gt := ⟨_, op_gt, fun F mu H m x y p q b Q' rm hx hy h hq => by
  cases ep : vw m p <;> cases eq : vw m q <;> rw [ep, eq] at h <;> simp [cmpop] at h
  subst h
  rw [view_int rm hx ep, view_int rm hy eq]
  exact ⟨_, _, rfl, rfl, hq⟩⟩
theorem ops_ge : OpS X g .GtE .ge := ⟨_, op_ge, fun F mu H m x y p q b Q' rm hx hy h hq => by
  cases ep : vw m p <;> cases eq : vw m q <;> rw [ep, eq] at h <;> simp [cmpop] at h
  subst h
  rw [view_int rm hx ep, view_int rm hy eq]
  exact ⟨_, _, rfl, rfl, hq⟩⟩
theorem oneSign_of {x : Str} {c : Nat} (h : oneSign x = some c) : x = ⟨#[c]⟩ := by
  obtain ⟨l⟩ := x
  unfold oneSign at h
  dsimp only at h
  split at h
  · rename_i d e
    cases h
    have e2 : l = #[c] := by
      rw [← Array.toList_inj]
      simpa using e
    rw [e2]
  · cases h
theorem ops_eq (hu : X.A.units + 65 < cLine) (hK : X.K = g.K) : OpS X g .Eq .eq := ⟨_, op_eqD (by omega), fun F mu H m x y p q b Q' rm hx hy h hq => by
  unfold cmpop at h
  dsimp only at h
  cases e1 : datum (vw m p) with
  | none => rw [e1] at h; cases h
  | some d =>
    cases e2 : datum (vw m q) with
    | none => rw [e1, e2] at h; cases h
    | some e =>
      rw [e1, e2] at h
      cases h
      obtain ⟨h1, h2⟩ := datum_of e1
      obtain ⟨h3, h4⟩ := datum_of e2
      rw [hK]
      exact ⟨d, e, dp_view rm (view rm hx) h1, dp_view rm (view rm hy) h3, h2, h4, hq⟩⟩
theorem ops_ne (hu : X.A.units + 65 < cLine) (hK : X.K = g.K) : OpS X g .NotEq .ne := ⟨_, op_neD (by omega), fun F mu H m x y p q b Q' rm hx hy h hq => by
  unfold cmpop at h
  dsimp only at h
  cases e1 : datum (vw m p) with
  | none => rw [e1] at h; cases h
  | some d =>
    cases e2 : datum (vw m q) with
    | none => rw [e1, e2] at h; cases h
    | some e =>
      rw [e1, e2] at h
      cases h
      obtain ⟨h1, h2⟩ := datum_of e1
      obtain ⟨h3, h4⟩ := datum_of e2
      rw [hK]
      exact ⟨d, e, dp_view rm (view rm hx) h1, dp_view rm (view rm hy) h3, h2, h4, hq⟩⟩
theorem toD_lst {ys : List PV} {d : PyData} (h : toD (.lst ys) = some d) : ∃ ds, d = .list ds := by
  unfold toD at h
  cases q : toDs ys with
  | none => rw [q] at h; cases h
  | some ds => rw [q] at h; cases h; exact ⟨ds, rfl⟩
theorem toD_tup {ys : List PV} {d : PyData} (h : toD (.tup ys) = some d) : ∃ ds, d = .tuple ds := by
  unfold toD at h
  cases q : toDs ys with
  | none => rw [q] at h; cases h
  | some ds => rw [q] at h; cases h; exact ⟨ds, rfl⟩
theorem reps_zip : ∀ {ks : List Key} {ps : List PV} {vs : List V} {F : Hp} {mu : List Addr} (k : Key), Reps g.K g.CA F mu ps vs → ps.length = ks.length → match dvat ks ps k with
    | some p => ∃ v, valV (ks.zip vs) k = some v ∧ Rep g.K g.CA F mu p v
    | none => valV (ks.zip vs) k = none
  | [], [], vs, F, mu, k, h, _ => by rw [show _ = _ from h]; rfl
  | q :: ks, p :: ps, vs, F, mu, k, h, hl => by
    obtain ⟨v, r, rfl, h1, h2⟩ := h
    rw [List.zip_cons_cons]
    simp only [dvat]
    by_cases e : q = k
    · rw [if_pos e]
      exact ⟨v, valV_pos e, h1⟩
    · rw [if_neg e, valV_neg (p := (q, v)) e]
      exact reps_zip k h2 (by simpa using hl)
  | [], _ :: _, _, _, _, _, _, hl => by simp at hl
  | _ :: _, [], _, _, _, _, _, hl => by simp at hl
theorem asKey_rep0 {q : PV} {k : Key} {m : Mem} {v : V} (e : asKey (vw m q) = some k) (rm : RelM g.K g.CA F mu m H) (h : Rep g.K g.CA F mu q v) : v = kV k := by
  cases eq : vw m q with
  | int i => rw [eq] at e; cases e; exact view_int rm h eq
  | str x => rw [eq] at e; cases e; exact view_str rm h eq
  | _ => rw [eq] at e; cases e
def rInDic : R2 := fun x y H Q => ∃ a o, y = .ref a ∧ DGet H a x o ∧ Q (.bl o.isSome) H
def rNotInDic : R2 := fun x y H Q => ∃ a o, y = .ref a ∧ DGet H a x o ∧ Q (.bl (!o.isSome)) H
theorem op_inDic (hu : X.A.units + 65 < cLine) : OpR X (compareOp .In) rInDic := by
  intro pins s σ H x y v u Q I rx ry h
  obtain ⟨a, o, rfl, hd, q⟩ := h
  obtain rfl : u = Value.ref a := ry
  exact d_in (by omega) I hd rx fun s3 I3 => ⟨.bl o.isSome, H, I3, rfl, q⟩
theorem op_notInDic (hu : X.A.units + 65 < cLine) : OpR X (compareOp .NotIn) rNotInDic := by
  intro pins s σ H x y v u Q I rx ry h
  obtain ⟨a, o, rfl, hd, q⟩ := h
  obtain rfl : u = Value.ref a := ry
  exact d_notIn (by omega) I hd rx fun s3 I3 => ⟨.bl (!o.isSome), H, I3, rfl, q⟩
theorem dic_get {ks : List Key} {ps : List PV} {k : Key} {p : PV} {x y : V} (rm : RelM g.K g.CA F mu m H) (hx : Rep g.K g.CA F mu p x) (ek : asKey (vw m p) = some k) (vy : View g F mu H (.dic ks ps) y) : ∃ a o, y = .ref a ∧ DGet H a x o ∧ o.isSome = (dvat ks ps k).isSome := by
  obtain ⟨a, vs, rfl, h1, h2, h3, h4⟩ := vy
  have hv := reps_zip k h4 h2
  refine ⟨a, valV (ks.zip vs) k, rfl, .inl ⟨ks.zip vs, k, h1, asKey_rep0 ek rm hx, rfl⟩, ?_⟩
  cases e : dvat ks ps k with
  | none => rw [e] at hv; dsimp only at hv; rw [hv]; rfl
  | some z => rw [e] at hv; obtain ⟨v, hv, _⟩ := hv; rw [hv]; rfl
theorem ops_mem (hu : X.A.units + 65 < cLine) (hK : X.K = g.K) : OpS X g .In .mem := ⟨_, OpR.or (op_inDic hu) (OpR.or (op_inD hu) (OpR.or (op_inDT hu) op_inS)), fun F mu H m x y p q b Q' rm hx hy h hq => by
  have vx := view rm hx
  have vy := view rm hy
  unfold cmpop at h
  dsimp only at h
  cases eq : vw m q with
  | lst ys =>
    rw [eq] at h vy
    dsimp only at h
    cases e1 : datum (vw m p) with
    | none => rw [e1] at h; cases h
    | some d =>
      cases e2 : datum (.lst ys) with
      | none => rw [e1, e2] at h; cases h
      | some e =>
        obtain ⟨h1, h2⟩ := datum_of e1
        obtain ⟨h3, h4⟩ := datum_of e2
        obtain ⟨ds, rfl⟩ := toD_lst h3
        rw [e1, e2] at h
        cases h
        rw [hK]
        exact .inr (.inl ⟨d, ds, dp_view rm vx h1, dp_view rm vy h3, h2, h4, hq⟩)
  | tup ys =>
    rw [eq] at h vy
    dsimp only at h
    cases e1 : datum (vw m p) with
    | none => rw [e1] at h; cases h
    | some d =>
      cases e2 : datum (.tup ys) with
      | none => rw [e1, e2] at h; cases h
      | some e =>
        obtain ⟨h1, h2⟩ := datum_of e1
        obtain ⟨h3, h4⟩ := datum_of e2
        obtain ⟨ds, rfl⟩ := toD_tup h3
        rw [e1, e2] at h
        cases h
        rw [hK]
        exact .inr (.inr (.inl ⟨d, ds, dp_view rm vx h1, dp_view rm vy h3, h2, h4, hq⟩))
  | str z =>
    cases ep : vw m p with
    | str w =>
      rw [eq, ep] at h
      dsimp only at h
      cases e1 : oneSign w with
      | none => rw [e1] at h; cases h
      | some c =>
        rw [e1] at h
        cases h
        rw [view_str rm hx ep, view_str rm hy eq]
        exact .inr (.inr (.inr ⟨c, z, by rw [oneSign_of e1], rfl, hq⟩))
    | _ => rw [eq, ep] at h; cases h
  | dic ks ps =>
    rw [eq] at h vy
    dsimp only at h
    cases ek : asKey (vw m p) with
    | none => rw [ek] at h; cases h
    | some k =>
      rw [ek] at h
      cases h
      obtain ⟨a, o, rfl, hd, ho⟩ := dic_get rm hx ek vy
      exact .inl ⟨a, o, rfl, hd, by rw [ho]; exact hq⟩
  | _ => rw [eq] at h; cases h⟩
theorem ops_nmem (hu : X.A.units + 65 < cLine) (hK : X.K = g.K) : OpS X g .NotIn .nmem := ⟨_, OpR.or (op_notInDic hu) (OpR.or (op_notInD hu) (OpR.or (op_notInDT hu) op_notInS)), fun F mu H m x y p q b Q' rm hx hy h hq => by
  have vx := view rm hx
  have vy := view rm hy
  unfold cmpop at h
  dsimp only at h
  cases eq : vw m q with
  | lst ys =>
    rw [eq] at h vy
    dsimp only at h
    cases e1 : datum (vw m p) with
    | none => rw [e1] at h; cases h
    | some d =>
      cases e2 : datum (.lst ys) with
      | none => rw [e1, e2] at h; cases h
      | some e =>
        obtain ⟨h1, h2⟩ := datum_of e1
        obtain ⟨h3, h4⟩ := datum_of e2
        obtain ⟨ds, rfl⟩ := toD_lst h3
        rw [e1, e2] at h
        cases h
        rw [hK]
        exact .inr (.inl ⟨d, ds, dp_view rm vx h1, dp_view rm vy h3, h2, h4, hq⟩)
  | tup ys =>
    rw [eq] at h vy
    dsimp only at h
    cases e1 : datum (vw m p) with
    | none => rw [e1] at h; cases h
    | some d =>
      cases e2 : datum (.tup ys) with
      | none => rw [e1, e2] at h; cases h
      | some e =>
        obtain ⟨h1, h2⟩ := datum_of e1
        obtain ⟨h3, h4⟩ := datum_of e2
        obtain ⟨ds, rfl⟩ := toD_tup h3
        rw [e1, e2] at h
        cases h
        rw [hK]
        exact .inr (.inr (.inl ⟨d, ds, dp_view rm vx h1, dp_view rm vy h3, h2, h4, hq⟩))
  | str z =>
    cases ep : vw m p with
    | str w =>
      rw [eq, ep] at h
      dsimp only at h
      cases e1 : oneSign w with
      | none => rw [e1] at h; cases h
      | some c =>
        rw [e1] at h
        cases h
        rw [view_str rm hx ep, view_str rm hy eq]
        exact .inr (.inr (.inr ⟨c, z, by rw [oneSign_of e1], rfl, hq⟩))
    | _ => rw [eq, ep] at h; cases h
  | dic ks ps =>
    rw [eq] at h vy
    dsimp only at h
    cases ek : asKey (vw m p) with
    | none => rw [ek] at h; cases h
    | some k =>
      rw [ek] at h
      cases h
      obtain ⟨a, o, rfl, hd, ho⟩ := dic_get rm hx ek vy
      exact .inl ⟨a, o, rfl, hd, by rw [ho]; exact hq⟩
  | _ => rw [eq] at h; cases h⟩
/-- None is told from all else -/
theorem non_iff (rm : RelM g.K g.CA F mu m H) {p : PV} {x : V} (h : Rep g.K g.CA F mu p x) {b : Bool} (e : (match vw m p with | .non => some true | _ => some false) = some b) : decide (x = V.non) = b := by
  have v := view rm h
  cases p with
  | non =>
    cases e
    rw [show x = .non from h]
    rfl
  | bl c => cases e; rw [show x = .bl c from h]; rfl
  | int c => cases e; rw [show x = .int c from h]; rfl
  | str c => cases e; rw [show x = .str c from h]; rfl
  | tup c => cases e; obtain ⟨a, vs, rfl, _⟩ := h; rfl
  | lst c => cases e; obtain ⟨a, vs, rfl, _⟩ := h; rfl
  | dic c d => cases e; obtain ⟨a, vs, rfl, _⟩ := h; rfl
  | obj c d f => cases e; obtain ⟨a, dx, vs, rfl, _⟩ := h; rfl
  | scr c => cases e; obtain ⟨a, rfl, _⟩ := h; rfl
  | cls c => cases e; rw [show x = .ref (g.CA c) from h]; rfl
  | ref n =>
    obtain ⟨a, rfl, _⟩ := h
    have e2 : b = false := by
      unfold vw at e
      dsimp only at e
      cases q : m[n]? with
      | none => rw [q] at e; cases e; rfl
      | some c => rw [q] at e; cases c <;> (cases e; rfl)
    rw [e2]
    rfl
theorem ops_isN : OpS X g .Is .isN := ⟨_, op_isN, fun F mu H m x y p q b Q' rm hx hy h hq => by
  unfold cmpop at h
  dsimp only at h
  cases eq : vw m q with
  | non =>
    rw [eq] at h
    dsimp only at h
    have hy2 := view rm hy
    rw [eq] at hy2
    exact ⟨hy2, by rw [non_iff rm hx h]; exact hq⟩
  | _ => rw [eq] at h; cases h⟩
theorem ops_notN : OpS X g .IsNot .notN := ⟨_, op_notN, fun F mu H m x y p q b Q' rm hx hy h hq => by
  unfold cmpop at h
  dsimp only at h
  cases eq : vw m q with
  | non =>
    rw [eq] at h
    dsimp only at h
    have hy2 := view rm hy
    rw [eq] at hy2
    have h2 : (match vw m p with | .non => some true | _ => some false) = some (!b) := by
      cases e3 : vw m p <;> rw [e3] at h <;> (cases h; rfl)
    refine ⟨hy2, ?_⟩
    rw [non_iff rm hx h2, Bool.not_not]
    exact hq
  | _ => rw [eq] at h; cases h⟩
theorem ops_of {op : CmpOp} {o : COp} (hu : X.A.units + 65 < cLine) (hK : X.K = g.K) (h : cmpO op = some o) : OpS X g op o := by
  cases op <;> cases h
  · exact ops_eq hu hK
  · exact ops_ne hu hK
  · exact ops_lt
  · exact ops_le
  · exact ops_gt
  · exact ops_ge
  · exact ops_isN
  · exact ops_notN
  · exact ops_mem hu hK
  · exact ops_nmem hu hK
/-- a comparison, own == among them -/
def CmpS (X : Cx) (g : G) (D : Cl) (op : CmpOp) (o : COp) : Prop := ∃ r : R2, OpR X (compareOp op) r ∧ ∀ F mu H m x y p q (Q' : VK), RelM g.K g.CA F mu m H → Rep g.K g.CA F mu p x → Rep g.K g.CA F mu q y → (W g F mu H (cmpV D o p q m) fun p m' F' mu' H' => ∀ v, Rep g.K g.CA F' mu' p v → Q' v H') → r x y H Q'
theorem s_cmp {op : CmpOp} {o : COp} (ho : CmpS X g D op o) (hm : behindInMarks op b = false) (ha : PE X a (tE g D ca)) (hb : PE X b (tE g D cb)) : PE X (.Compare a [op] [b] pos) (tE g D (.cmp o ca cb)) := by
  obtain ⟨r, hr, hop⟩ := ho
  exact PE.conv (pe_cmpR hr ha hb hm) fun σ H Q h => two (fun p q m => cmpV D o p q m) hop h
theorem asBool_vw {m : Mem} {p : PV} {b : Bool} (h : asBool (vw m p) = some b) : p = .bl b := by
  unfold asBool truth at h
  cases p with
  | bl c => cases h; rfl
  | ref n =>
    unfold vw at h
    dsimp only at h
    cases e : m[n]? with
    | none => rw [e] at h; cases h
    | some c => rw [e] at h; cases c <;> cases h
  | _ => cases h
theorem st_cmp {op : CmpOp} {o : COp} (ho : CmpS X g D op o) (hm : behindInMarks op b = false) (ha : PE X a (tE g D ca)) (hb : PE X b (tE g D cb)) : PT X (.Compare a [op] [b] pos) (tT g D (.val (.cmp o ca cb))) := by
  obtain ⟨r, hr, hop⟩ := ho
  refine PT.conv (pt_cmpR hr ha hb hm) fun σ H Q h => ?_
  obtain ⟨F, mu, env, m, hE, hM, hw⟩ := h
  -- the value, then its truth
  have e0 : evT D (.val (.cmp o ca cb)) env m = (evE D ca env m).bind fun x m1 => (evE D cb env m1).bind fun y m2 => (cmpV D o x y m2).bind fun z m3 => Out.of (asBool (vw m3 z)) m3 := by
    simp only [evT, evE]
    cases evE D ca env m with
    | stuck => rfl
    | exc z m1 => rfl
    | ok x m1 =>
      simp only [Out.bind]
      cases evE D cb env m1 with
      | stuck => rfl
      | exc z m1 => rfl
      | ok y m2 => rfl
  rw [e0] at hw
  refine ⟨F, mu, env, m, hE, hM, (W.bind hw).mono fun p m1 F1 mu1 H1 st rm hw1 x hx => ?_⟩
  refine ⟨F1, mu1, env, m1, hE.step st, rm, (W.bind hw1).mono fun q m2 F2 mu2 H2 st2 rm2 hw2 y hy => ?_⟩
  refine hop F2 mu2 H2 m2 x y p q _ rm2 (hx.step st2) hy ((W.bind hw2).mono fun z m3 F3 mu3 H3 st3 rm3 hw3 v hv => ?_)
  obtain ⟨b, hb, hw4⟩ := W.of hw3
  have e := asBool_vw hb
  subst e
  exact ⟨b, hv, W.ok hw4 rm3⟩
end
end Co

end P_CoreOps
section P_CoreExp
set_option Elab.async false
set_option linter.all false
set_option maxRecDepth 100000
set_option maxHeartbeats 2000000
/-! CoreExp: tests, displays, subscripts, built-ins, comprehensions. -/
namespace Co
open PySem PySem.Spec PyProof.Rows L2

section
variable {X : Cx} {g : G} {D : Cl} {a b c : Expr} {ca cb cc : CE} {ta tb : CT} {pos : Pos} {es rest : List Expr} {ces : CEs}
theorem asBool_of {p : PV} {c : Bool} (h : asBool p = some c) : p = .bl c := by
  cases p <;> first | cases h; rfl | cases h
theorem view_bl {F : Hp} {mu : List Addr} {H : Hp} {m : Mem} {p : PV} {v : V} {b : Bool} (r : RelM g.K g.CA F mu m H) (h : Rep g.K g.CA F mu p v) (e : asBool (vw m p) = some b) : v = .bl b := by
  have h1 := view r h
  rw [asBool_of e] at h1
  exact h1
theorem st_val (ha : PE X a (tE g D ca)) (he : ∀ whole, isTrue a X.env whole = (do let v ← whole; standAt a.pos; holding [v] (truthy v))) : PT X a (tT g D (.val ca)) := by
  refine PT.conv (pt_val ha he) fun σ H Q h => ?_
  obtain ⟨F, mu, env, m, hE, hM, hw⟩ := h
  refine ⟨F, mu, env, m, hE, hM, (W.bind hw).mono fun p m1 F1 mu1 H1 st rm hw1 x hx => ?_⟩
  obtain ⟨b, hb, hw2⟩ := W.of hw1
  exact ⟨b, view_bl rm hx hb, W.ok hw2 rm⟩
theorem st_not (ha : PT X a (tT g D ta)) : PT X (.UnaryOp .Not a pos) (tT g D (.nt ta)) := by
  refine PT.conv (pt_not ha) fun σ H Q h => ?_
  obtain ⟨F, mu, env, m, hE, hM, hw⟩ := h
  exact ⟨F, mu, env, m, hE, hM, (W.bind hw).mono fun b m1 F1 mu1 H1 st rm hw1 => W.ok hw1 rm⟩
theorem PW.conv {e : Expr} {t t' : TT} (h : PW X e t) (k : ∀ σ H Q, t' σ H Q → t σ H Q) : PW X e t' := ⟨fun wh pins s σ H Q I q => h.run wh pins s σ H Q I (k σ H Q q)⟩
theorem sw_and (ha : PT X a (tT g D ta)) (hb : PW X (.BoolOp .And (b :: rest) pos) (tT g D tb)) : PW X (.BoolOp .And (a :: b :: rest) pos) (tT g D (.an ta tb)) := by
  refine PW.conv (pw_and ha hb) fun σ H Q h => ?_
  obtain ⟨F, mu, env, m, hE, hM, hw⟩ := h
  refine ⟨F, mu, env, m, hE, hM, (W.bind hw).mono fun c m1 F1 mu1 H1 st rm hw1 => ?_⟩
  cases c with
  | true => exact ⟨F1, mu1, env, m1, hE.step st, rm, hw1⟩
  | false => exact W.ok hw1 rm
theorem sw_or (ha : PT X a (tT g D ta)) (hb : PW X (.BoolOp .Or (b :: rest) pos) (tT g D tb)) : PW X (.BoolOp .Or (a :: b :: rest) pos) (tT g D (.or ta tb)) := by
  refine PW.conv (pw_or ha hb) fun σ H Q h => ?_
  obtain ⟨F, mu, env, m, hE, hM, hw⟩ := h
  refine ⟨F, mu, env, m, hE, hM, (W.bind hw).mono fun c m1 F1 mu1 H1 st rm hw1 => ?_⟩
  cases c with
  | false => exact ⟨F1, mu1, env, m1, hE.step st, rm, hw1⟩
  | true => exact W.ok hw1 rm
theorem sv_and (ha : PE X a (tE g D ca)) (hb : PE X (.BoolOp .And (b :: rest) pos) (tE g D cb)) : PE X (.BoolOp .And (a :: b :: rest) pos) (tE g D (.test (.an (.val ca) (.val cb)))) := by
  refine PE.conv (pe_and ha hb) fun σ H Q h => ?_
  obtain ⟨F, mu, env, m, hE, hM, hw⟩ := h
  have hw1 := W.bind hw
  have hw2 := W.bind (f := fun c m1 => match c with | true => evT D (.val cb) env m1 | false => .ok false m1) hw1
  refine ⟨F, mu, env, m, hE, hM, (W.bind hw2).mono fun p m1 F1 mu1 H1 st rm hw3 x hx => ?_⟩
  obtain ⟨c, hc, hw4⟩ := W.of hw3
  refine ⟨c, view_bl rm hx hc, ?_⟩
  have hw5 := W.ok hw4 rm
  cases c with
  | false => exact W.ok (W.ok hw5 rm) rm _ rfl
  | true =>
    refine ⟨F1, mu1, env, m1, hE.step st, rm, (W.bind hw5).mono fun q m2 F2 mu2 H2 st2 rm2 hw6 y hy => ?_⟩
    obtain ⟨d, hd, hw7⟩ := W.of hw6
    rw [view_bl rm2 hy hd]
    exact W.ok (W.ok hw7 rm2) rm2 _ rfl
theorem sv_or (ha : PE X a (tE g D ca)) (hb : PE X (.BoolOp .Or (b :: rest) pos) (tE g D cb)) : PE X (.BoolOp .Or (a :: b :: rest) pos) (tE g D (.test (.or (.val ca) (.val cb)))) := by
  refine PE.conv (pe_or ha hb) fun σ H Q h => ?_
  obtain ⟨F, mu, env, m, hE, hM, hw⟩ := h
  have hw1 := W.bind hw
  have hw2 := W.bind (f := fun c m1 => match c with | true => .ok true m1 | false => evT D (.val cb) env m1) hw1
  refine ⟨F, mu, env, m, hE, hM, (W.bind hw2).mono fun p m1 F1 mu1 H1 st rm hw3 x hx => ?_⟩
  obtain ⟨c, hc, hw4⟩ := W.of hw3
  refine ⟨c, view_bl rm hx hc, ?_⟩
  have hw5 := W.ok hw4 rm
  cases c with
  | true => exact W.ok (W.ok hw5 rm) rm _ rfl
  | false =>
    refine ⟨F1, mu1, env, m1, hE.step st, rm, (W.bind hw5).mono fun q m2 F2 mu2 H2 st2 rm2 hw6 y hy => ?_⟩
    obtain ⟨d, hd, hw7⟩ := W.of hw6
    rw [view_bl rm2 hy hd]
    exact W.ok (W.ok hw7 rm2) rm2 _ rfl
theorem sv_not (ha : PE X a (tE g D ca)) : PE X (.UnaryOp .Not a pos) (tE g D (.test (.nt (.val ca)))) := by
  refine PE.conv (pe_not ha) fun σ H Q h => ?_
  obtain ⟨F, mu, env, m, hE, hM, hw⟩ := h
  have hw1 := W.bind hw
  have hw2 := W.bind (f := fun b m1 => .ok (!b) m1) hw1
  refine ⟨F, mu, env, m, hE, hM, (W.bind hw2).mono fun p m1 F1 mu1 H1 st rm hw3 x hx => ?_⟩
  obtain ⟨c, hc, hw4⟩ := W.of hw3
  exact ⟨c, view_bl rm hx hc, W.ok (W.ok (W.ok hw4 rm) rm) rm _ rfl⟩
theorem s_ite (hc : PT X c (tT g D ta)) (ha : PE X a (tE g D ca)) (hb : PE X b (tE g D cb)) : PE X (.IfExp c a b pos) (tE g D (.ite ta ca cb)) := by
  refine PE.conv (pe_ifExp hc ha hb) fun σ H Q h => ?_
  obtain ⟨F, mu, env, m, hE, hM, hw⟩ := h
  refine ⟨F, mu, env, m, hE, hM, (W.bind hw).mono fun d m1 F1 mu1 H1 st rm hw1 => ?_⟩
  cases d with
  | true => exact ⟨F1, mu1, env, m1, hE.step st, rm, hw1⟩
  | false => exact ⟨F1, mu1, env, m1, hE.step st, rm, hw1⟩
theorem s_chain {op op' : CmpOp} {o o' : COp} (ho : OpS X g op o) (ho' : OpS X g op' o') (hm : lastMarks [op, op'] [b, c] = false) (ha : PE X a (tE g D ca)) (hb : PE X b (tE g D cb)) (hc : PE X c (tE g D cc)) :
    PE X (.Compare a [op, op'] [b, c] pos) (tE g D (.chain o o' ca cb cc)) := by
  obtain ⟨r, hr, hop⟩ := ho
  obtain ⟨r', hr', hop'⟩ := ho'
  refine PE.conv (pe_chain hr hr' ha hb hc hm) fun σ H Q h => ?_
  obtain ⟨F, mu, env, m, hE, hM, hw⟩ := h
  refine ⟨F, mu, env, m, hE, hM, (W.bind hw).mono fun p m1 F1 mu1 H1 st rm hw1 x hx => ?_⟩
  refine ⟨F1, mu1, env, m1, hE.step st, rm, (W.bind hw1).mono fun q m2 F2 mu2 H2 st2 rm2 hw2 y hy => ?_⟩
  cases e : cmpop o (vw m2 p) (vw m2 q) with
  | none => rw [e] at hw2; exact hw2.elim
  | some k =>
    rw [e] at hw2
    refine hop F2 mu2 H2 m2 x y p q k _ rm2 (hx.step st2) hy e ⟨k, rfl, ?_⟩
    cases k with
    | false => exact W.ok hw2 rm2 _ rfl
    | true =>
      refine ⟨F2, mu2, env, m2, (hE.step st).step st2, rm2, (W.bind hw2).mono fun z m3 F3 mu3 H3 st3 rm3 hw3 w hz => ?_⟩
      obtain ⟨u, hu, hw4⟩ := W.of hw3
      cases e2 : cmpop o' (vw m3 q) (vw m3 z) with
      | none => rw [e2] at hu; cases hu
      | some k2 =>
        rw [e2] at hu
        cases hu
        exact hop' F3 mu3 H3 m3 y w q z k2 _ rm3 (hy.step st3) hz e2 (W.ok hw4 rm3 _ rfl)
theorem st_chain {op op' : CmpOp} {o o' : COp} (ho : OpS X g op o) (ho' : OpS X g op' o') (hm : lastMarks [op, op'] [b, c] = false) (ha : PE X a (tE g D ca)) (hb : PE X b (tE g D cb)) (hc : PE X c (tE g D cc)) :
    PT X (.Compare a [op, op'] [b, c] pos) (tT g D (.val (.chain o o' ca cb cc))) := by
  obtain ⟨r, hr, hop⟩ := ho
  obtain ⟨r', hr', hop'⟩ := ho'
  refine PT.conv (pt_chain hr hr' ha hb hc hm) fun σ H Q h => ?_
  obtain ⟨F, mu, env, m, hE, hM, hw⟩ := h
  have hw0 := W.bind hw
  refine ⟨F, mu, env, m, hE, hM, (W.bind hw0).mono fun p m1 F1 mu1 H1 st rm hw1 x hx => ?_⟩
  refine ⟨F1, mu1, env, m1, hE.step st, rm, (W.bind hw1).mono fun q m2 F2 mu2 H2 st2 rm2 hw2 y hy => ?_⟩
  cases e : cmpop o (vw m2 p) (vw m2 q) with
  | none => rw [e] at hw2; exact hw2.elim
  | some k =>
    rw [e] at hw2
    refine hop F2 mu2 H2 m2 x y p q k _ rm2 (hx.step st2) hy e ⟨k, rfl, ?_⟩
    cases k with
    | false => exact ⟨false, rfl, W.ok (W.ok hw2 rm2) rm2⟩
    | true =>
      refine ⟨F2, mu2, env, m2, (hE.step st).step st2, rm2, (W.bind hw2).mono fun z m3 F3 mu3 H3 st3 rm3 hw3 w hz => ?_⟩
      obtain ⟨u, hu, hw4⟩ := W.of hw3
      cases e2 : cmpop o' (vw m3 q) (vw m3 z) with
      | none => rw [e2] at hu; cases hu
      | some k2 =>
        rw [e2] at hu
        cases hu
        exact hop' F3 mu3 H3 m3 y w q z k2 _ rm3 (hy.step st3) hz e2 ⟨k2, rfl, W.ok (W.ok hw4 rm3) rm3⟩
/-! ### argument lists, displays -/
theorem sa_nil : PA X [] (tA g D .nil) := PA.conv pa_nil fun σ H Q h => by
  obtain ⟨F, mu, env, m, hE, hM, hw⟩ := h
  exact W.ok hw hM [] rfl
theorem sa_cons (hs : starEach (a :: es) X.env = (false, eval a X.env) :: starEach es X.env) (ha : PE X a (tE g D ca)) (hr : PA X es (tA g D ces)) : PA X (a :: es) (tA g D (.cons ca ces)) := by
  refine PA.conv (pa_cons ha hr hs) fun σ H Q h => ?_
  obtain ⟨F, mu, env, m, hE, hM, hw⟩ := h
  refine ⟨F, mu, env, m, hE, hM, (W.bind hw).mono fun p m1 F1 mu1 H1 st rm hw1 x hx => ?_⟩
  exact ⟨F1, mu1, env, m1, hE.step st, rm, (W.bind hw1).mono fun ps m2 F2 mu2 H2 st2 rm2 hw2 xs hxs => W.ok hw2 rm2 _ ⟨x, xs, rfl, hx.step st2, hxs⟩⟩
theorem line5 {n : Nat} (h : decide (n ≤ 100000) = true) : n ≤ sizeLine := by
  have h1 : n ≤ 100000 := of_decide_eq_true h
  rw [sizeLine_eq]
  omega
/-- a new tuple -/
theorem rep_new_tup {F : Hp} {mu : List Addr} {H : Hp} {m : Mem} {ps : List PV} {vs : List V} {q : Addr} (rm : RelM g.K g.CA F mu m H) (h : Reps g.K g.CA F mu ps vs) (hl : ps.length ≤ sizeLine) (hq : H q = none) :
    St2 F mu H (upd F q (.tup vs)) mu (upd H q (.tup vs)) ∧ RelM g.K g.CA (upd F q (.tup vs)) mu m (upd H q (.tup vs)) ∧ Rep g.K g.CA (upd F q (.tup vs)) mu (.tup ps) (.ref q) := by
  obtain ⟨s, r⟩ := frozen_new (o := .tup vs) rm hq
  exact ⟨s, r, q, vs, rfl, .of upd_same, hl, h.step s⟩
theorem rep_new_lst {F : Hp} {mu : List Addr} {H : Hp} {m : Mem} {ps : List PV} {vs : List V} {q : Addr} (rm : RelM g.K g.CA F mu m H) (h : Reps g.K g.CA F mu ps vs) (hl : ps.length ≤ sizeLine) (hq : H q = none) :
    St2 F mu H (upd F q (.lst vs)) mu (upd H q (.lst vs)) ∧ RelM g.K g.CA (upd F q (.lst vs)) mu m (upd H q (.lst vs)) ∧ Rep g.K g.CA (upd F q (.lst vs)) mu (.lst ps) (.ref q) := by
  obtain ⟨s, r⟩ := frozen_new (o := .lst vs) rm hq
  exact ⟨s, r, q, vs, rfl, upd_same, hl, h.step s⟩
theorem s_tup {k : Nat} (h : PA X es (tA g D ces)) : PE X (.Tuple es k pos) (tE g D (.tup ces)) := by
  refine PE.conv (pe_tup h) fun σ H Q h => ?_
  obtain ⟨F, mu, env, m, hE, hM, hw⟩ := h
  refine ⟨F, mu, env, m, hE, hM, (W.bind hw).mono fun ps m1 F1 mu1 H1 st rm hw1 vs hvs => ?_⟩
  obtain ⟨hl, hw2⟩ := W.ck hw1
  have hl2 := line5 hl
  refine ⟨by rw [hvs.length]; exact hl2, fun q hq => ?_⟩
  obtain ⟨s, r, z⟩ := rep_new_tup rm hvs hl2 hq
  exact hw2 _ _ _ s r _ z
theorem sf_lst (h : PA X es (tA g D ces)) : PE X (.List es pos) (tF g D (.lst ces)) := by
  refine PE.conv (pe_lst h) fun σ H Q h => ?_
  obtain ⟨F, mu, env, m, hE, hM, hw⟩ := h
  refine ⟨F, mu, env, m, hE, hM, (W.bind hw).mono fun ps m1 F1 mu1 H1 st rm hw1 vs hvs => ?_⟩
  obtain ⟨hl, hw2⟩ := W.ck hw1
  have hl2 := line5 hl
  exact ⟨by rw [hvs.length]; exact hl2, fun q hq => W.ok hw2 rm vs q hvs hl2 hq⟩
/-- a new list is frozen -/
theorem s_fz {cf : CF} (h : PE X a (tF g D cf)) : PE X a (tE g D (.fz cf)) := by
  refine PE.conv h fun σ H Q h => ?_
  obtain ⟨F, mu, env, m, hE, hM, hw⟩ := h
  refine ⟨F, mu, env, m, hE, hM, (W.bind hw).mono fun ps m1 F1 mu1 H1 st rm hw1 vs q hvs hl hq => ?_⟩
  obtain ⟨s, r, z⟩ := rep_new_lst rm hvs hl hq
  exact hw1 _ _ _ s r _ z
theorem vw_tup {m : Mem} {p : PV} {xs : List PV} (h : vw m p = .tup xs) : p = .tup xs := by
  cases p with
  | ref n =>
    unfold vw at h
    dsimp only at h
    cases q : m[n]? with
    | none => rw [q] at h; cases h
    | some c => rw [q] at h; cases c <;> cases h
  | _ => exact h
theorem s_add (hK : X.K = g.K) (ha : PE X a (tE g D ca)) (hb : PE X b (tE g D cb)) : PE X (.BinOp a .Add b pos) (tE g D (.bin .add ca cb)) :=
  s_op (OpR.or op_add (OpR.or op_add_str (OpR.or op_cat op_catA))) ha hb fun F mu H m x y p q Q' rm hx hy hw => by
    obtain ⟨z, hz, hw2⟩ := W.of hw
    clear hw
    have vx := view rm hx
    have vy := view rm hy
    cases ep : vw m p <;> cases eq : vw m q <;> rw [ep, eq] at hz <;> simp [binop] at hz
    · subst hz
      rw [view_int rm hx ep, view_int rm hy eq]
      exact .inl ⟨_, _, rfl, rfl, W.ok hw2 rm _ rfl⟩
    · obtain ⟨hl, hz⟩ := hz
      subst hz
      rw [view_str rm hx ep, view_str rm hy eq]
      exact .inr (.inl ⟨_, _, rfl, rfl, by rw [sizeLine_eq]; omega, W.ok hw2 rm _ rfl⟩)
    · obtain ⟨hl, hz⟩ := hz
      subst hz
      rename_i xs ys
      have e1 := vw_tup ep
      have e2 := vw_tup eq
      subst e1 e2
      rw [ep] at vx
      rw [eq] at vy
      obtain ⟨a, vs, ea, h1, h2, h3⟩ := vx
      obtain ⟨b, ws, eb, k1, k2, k3⟩ := vy
      subst ea eb
      have l1 := h3.length
      have l2 := k3.length
      rw [hK]
      refine .inr (.inr (.inr ⟨a, b, vs, ws, rfl, rfl, h1, k1, by rw [sizeLine_eq]; omega, fun e => ?_, fun e1 e => ?_, fun e1 e2 r hr => ?_⟩))
      · have : xs = [] := by
          rw [e] at l1
          exact List.length_eq_zero_iff.mp l1.symm
        subst this
        exact W.ok hw2 rm _ hy
      · have : ys = [] := by
          rw [e] at l2
          exact List.length_eq_zero_iff.mp l2.symm
        subst this
        rw [List.append_nil] at hw2
        exact W.ok hw2 rm _ hx
      · obtain ⟨s, r', z⟩ := rep_new_tup rm (h3.append k3) (by rw [List.length_append, sizeLine_eq]; omega) hr
        exact hw2 _ _ _ s r' _ z
    · obtain ⟨hl, hz⟩ := hz
      subst hz
      rw [ep] at vx
      rw [eq] at vy
      obtain ⟨a, vs, ea, h1, h2, h3⟩ := vx
      obtain ⟨b, ws, eb, k1, k2, k3⟩ := vy
      subst ea eb
      have l1 := h3.length
      have l2 := k3.length
      refine .inr (.inr (.inl ⟨a, b, vs, ws, rfl, rfl, h1, k1, by rw [sizeLine_eq]; omega, fun r hr => ?_⟩))
      obtain ⟨s, r', z⟩ := rep_new_lst rm (h3.append k3) (by rw [List.length_append, sizeLine_eq]; omega) hr
      exact hw2 _ _ _ s r' _ z
/-! ### subscripts -/
theorem plainIx (h : ∀ lo hi st p, b ≠ .Slice lo hi st p) : PlainIx b := by
  intro o i
  cases b <;> first | rfl | exact absurd rfl (h _ _ _ _)
theorem Reps.getV {F : Hp} {mu : List Addr} {ps : List PV} {vs : List V} {i : Int} {p : PV} (h : Reps g.K g.CA F mu ps vs) (e : atI ps i = some p) : ∃ v, atI vs i = some v ∧ Rep g.K g.CA F mu p v := by
  unfold atI at e ⊢
  rw [h.length]
  cases q : ixN ps.length i with
  | none => rw [q] at e; cases e
  | some j =>
    rw [q] at e
    exact h.get (show ps[j]? = some p from e)
theorem ix0_ok {F : Hp} {mu : List Addr} {H : Hp} {m : Mem} {x y : V} {p q : PV} {Q' : VK} (rm : RelM g.K g.CA F mu m H) (hx : Rep g.K g.CA F mu p x) (hy : Rep g.K g.CA F mu q y) (hw : W g F mu H (Out.of (ixop0 (vw m p) q) m) fun p m' F' mu' H' => ∀ v, Rep g.K g.CA F' mu' p v → Q' v H') : rIx g.K x y H Q' := by
  obtain ⟨z, hz, hw2⟩ := W.of hw
  clear hw
  unfold ixop0 at hz
  cases q with
  | int i =>
    dsimp only at hz
    rw [show y = .int i from hy]
    have vx := view rm hx
    cases ep : vw m p with
    | lst xs =>
      rw [ep] at hz vx
      obtain ⟨a, vs, e, h1, h2, h3⟩ := vx
      obtain ⟨v, e2, hv⟩ := h3.getV hz
      exact .inl ⟨a, vs, i, v, e, rfl, .of h1, e2, W.ok hw2 rm v hv⟩
    | tup xs =>
      rw [ep] at hz vx
      obtain ⟨a, vs, e, h1, h2, h3⟩ := vx
      obtain ⟨v, e2, hv⟩ := h3.getV hz
      exact .inr (.inl ⟨a, vs, i, v, e, rfl, h1, e2, W.ok hw2 rm v hv⟩)
    | scr ns =>
      rw [ep] at hz vx
      dsimp only at hz
      obtain ⟨a, e, h1, h2⟩ := vx
      cases e3 : atI ns i with
      | none => rw [e3] at hz; cases hz
      | some n =>
        rw [e3] at hz
        cases hz
        refine .inl ⟨a, ns.map V.int, i, .int n, e, rfl, h1, ?_, W.ok hw2 rm _ rfl⟩
        unfold atI at e3 ⊢
        rw [List.length_map]
        cases q : ixN ns.length i with
        | none => rw [q] at e3; cases e3
        | some j =>
          rw [q] at e3
          show (ns.map V.int)[j]? = _
          rw [List.getElem?_map, show ns[j]? = some n from e3]
          rfl
    | str w =>
      rw [ep] at hz vx
      dsimp only at hz
      split at hz
      · rename_i hl
        cases e3 : atI w.cps.toList i with
        | none => rw [e3] at hz; cases hz
        | some n =>
          rw [e3] at hz
          cases hz
          exact .inr (.inr ⟨w, i, n, vx, rfl, by rw [sizeLine_eq]; omega, e3, W.ok hw2 rm _ rfl⟩)
      · cases hz
    | _ => rw [ep] at hz; cases hz
  | _ => cases hz
end
end Co

end P_CoreExp
section P_CoreStm
set_option Elab.async false
set_option linter.all false
set_option maxRecDepth 100000
set_option maxHeartbeats 2000000
/-! CoreStm: targets, what is walked, comprehensions, statements. -/
namespace Co
open PySem PySem.Spec PyProof.Rows L2

/-! ### a new cell -/
section
variable {g : G} {F : Hp} {mu : List Addr} {H : Hp} {m : Mem}
theorem cell_new {p : Addr} {o : HO} {c : Cell} (r : RelM g.K g.CA F mu m H) (hp : H p = none) (hc : CellR g.K g.CA F mu (upd H p o) p c) :
    St2 F mu H F (mu ++ [p]) (upd H p o) ∧ RelM g.K g.CA F (mu ++ [p]) (m ++ [c]) (upd H p o) := by
  have hF : F p = none := by
    cases e : F p with
    | none => rfl
    | some u => exact absurd hp (r.dom e)
  have hm : p ∉ mu := fun h => r.in_dom h hp
  have fH : ∀ (a : Addr) (u : HO), H a = some u → (upd H p o) a = some u := fun a u h => by rw [upd_ne (ne_of_none h hp)]; exact h
  have fm : ∀ (n : Nat) (a : Addr), mu[n]? = some a → (mu ++ [p])[n]? = some a := fun n a h => by
    rw [List.getElem?_append_left (List.getElem?_eq_some_iff.mp h).1]
    exact h
  refine ⟨⟨fun _ _ h => h, fm, fun a u h _ => fH a u h, fun a h => ?_, fun a u h => .inl h, fun a h => ?_⟩, ⟨fun a u h => ?_, ?_, ?_, fun a h => ?_, fun n d h => ?_⟩⟩
  · cases e : H a with
    | none => exact absurd e h
    | some u => rw [fH a u e]; simp
  · rcases List.mem_append.mp h with h | h
    · exact .inl h
    · rw [List.mem_singleton.mp h]; exact .inr hp
  · rcases r.fr a u h with h | ⟨w, kvs, e, h⟩
    · exact .inl (fH _ _ h)
    · exact .inr ⟨w, kvs, e, fH _ _ h⟩
  · rw [List.length_append, List.length_append, r.len]
    rfl
  · rw [List.nodup_append]
    exact ⟨r.nd, by simp, fun a ha b hb => by rw [List.mem_singleton.mp hb]; exact fun e => hm (by rw [← e]; exact ha)⟩
  · rcases List.mem_append.mp h with h | h
    · exact r.off a h
    · rw [List.mem_singleton.mp h]; exact hF
  · by_cases hn : n < m.length
    · rw [List.getElem?_append_left hn] at h
      obtain ⟨a, e, hd⟩ := r.cells n d h
      refine ⟨a, fm n a e, ?_⟩
      rw [List.take_append_of_le_length (by rw [r.len]; omega)]
      exact hd.mono (fun _ _ h => h) (fun _ _ h => h) fun u => fH a u
    · have hlen := (List.getElem?_eq_some_iff.mp h).1
      rw [List.length_append, List.length_singleton] at hlen
      have en : n = m.length := by omega
      subst en
      rw [List.getElem?_append_right (Nat.le_refl _), Nat.sub_self] at h
      cases h
      refine ⟨p, by rw [← r.len]; simp, ?_⟩
      rw [← r.len, List.take_left]
      exact hc
end
section
variable {X : Cx} {g : G} {D : Cl} {a b c : Expr} {ca cb cc : CE} {ta tb : CT} {pos : Pos} {es rest : List Expr} {ces : CEs}
theorem s_cell {cf : CF} (h : PE X a (tF g D cf)) : PE X a (tE g D (.cell cf)) := by
  refine PE.conv h fun σ H Q h => ?_
  obtain ⟨F, mu, env, m, hE, hM, hw⟩ := h
  refine ⟨F, mu, env, m, hE, hM, (W.bind hw).mono fun ps m1 F1 mu1 H1 st rm hw1 vs q hvs hl hq => ?_⟩
  obtain ⟨s, r⟩ := cell_new (c := .lst ps) (o := .lst vs) rm hq ⟨vs, upd_same, hl, hvs⟩
  refine hw1 _ _ _ s r _ ⟨q, rfl, ?_⟩
  rw [← rm.len]
  simp
end

/-! ### targets -/
def tG (g : G) (c : CG) : TG := fun v σ H Q => ∃ F mu m env p, EnvR g F mu env σ ∧ RelM g.K g.CA F mu m H ∧ Rep g.K g.CA F mu p v ∧ ∃ env', setG c p m env = some env' ∧ ∀ σ', EnvR g F mu env' σ' → (∀ vs, (∀ i ∈ gSlots c, i ∈ vs) → wipe σ' vs = wipe σ vs) → Q σ' H
def tGs (g : G) (c : CGs) : TGs := fun v σ H Q => ∃ F mu m env p, EnvR g F mu env σ ∧ RelM g.K g.CA F mu m H ∧ Reps g.K g.CA F mu p v ∧ ∃ env', setGs c p m env = some env' ∧ ∀ σ', EnvR g F mu env' σ' → (∀ vs, (∀ i ∈ gsSlots c, i ∈ vs) → wipe σ' vs = wipe σ vs) → Q σ' H
theorem wipe_set {σ : L2.St} {i : Nat} {v : Option V} : ∀ {vs : List Nat}, i ∈ vs → wipe (σ.set i v) vs = wipe σ vs
  | [], h => by simp at h
  | j :: vs, h => by
    unfold wipe
    by_cases e : i ∈ vs
    · rw [wipe_set e]
    · have e2 : i = j := by
        rcases List.mem_cons.mp h with h | h
        · exact h
        · exact absurd h e
      subst e2
      have : ∀ ws : List Nat, i ∉ ws → wipe (σ.set i v) ws = (wipe σ ws).set i v := by
        intro ws
        induction ws with
        | nil => intro _; rfl
        | cons k ws ih =>
          intro hk
          unfold wipe
          rw [ih (fun z => hk (List.mem_cons_of_mem _ z)), List.set_comm]
          exact fun z => hk (by rw [z]; exact List.mem_cons_self)
      rw [this vs e, List.set_set]
theorem EnvR.set {g : G} {F : Hp} {mu : List Addr} {env : Env} {σ : L2.St} {i : Nat} {p : PV} {v : V} (e : EnvR g F mu env σ) (h : Rep g.K g.CA F mu p v) : EnvR g F mu (env.set i (some p)) (σ.set i (some v)) := by
  refine ⟨by rw [List.length_set, List.length_set]; exact e.1, fun j q hq => ?_⟩
  by_cases hj : i = j
  · subst hj
    by_cases hl : i < env.length
    · rw [List.getElem?_set_self hl] at hq
      cases hq
      exact ⟨v, by rw [List.getElem?_set_self (by rw [← e.1]; exact hl)], h⟩
    · rw [List.getElem?_eq_none (by rw [List.length_set]; omega)] at hq
      cases hq
  · rw [List.getElem?_set_ne hj] at hq
    obtain ⟨w, h1, h2⟩ := e.2 j q hq
    exact ⟨w, by rw [List.getElem?_set_ne hj]; exact h1, h2⟩
theorem PG.conv {X : Cx} {e : Expr} {t t' : TG} (h : PG X e t) (k : ∀ v σ H Q, t' v σ H Q → t v σ H Q) : PG X e t' := ⟨fun pins s σ H v u Q I r q => h.run pins s σ H v u Q I r (k v σ H Q q)⟩
theorem PGs.conv {X : Cx} {e : List Expr} {t t' : TGs} (h : PGs X e t) (k : ∀ v σ H Q, t' v σ H Q → t v σ H Q) : PGs X e t' := ⟨fun pins s σ H v u Q I r q => h.run pins s σ H v u Q I r (k v σ H Q q)⟩
theorem PG.or {X : Cx} {e : Expr} {t t' : TG} (h : PG X e t) (h' : PG X e t') : PG X e (fun v σ H Q => t v σ H Q ∨ t' v σ H Q) := ⟨fun pins s σ H v u Q I r q => q.elim (h.run pins s σ H v u Q I r) (h'.run pins s σ H v u Q I r)⟩
section
variable {X : Cx} {g : G} {pos : Pos}
theorem sg_name {i : Nat} {x : Str} (hN : X.N.Nodup) (hi : X.N[i]? = some x) (hx : Loc X.env.scope x) (hf : X.fn x = true ∨ X.env.scope.names.lookup x = some .local) : PG X (.Name x pos) (tG g (.v i)) := by
  refine PG.conv (pg_name hN hi hx hf) fun v σ H Q h => ?_
  obtain ⟨F, mu, m, env, p, hE, hM, hv, env', he, hQ⟩ := h
  unfold setG at he
  split at he
  · cases he
    exact hQ _ (hE.set hv) fun vs hvs => wipe_set (hvs i (by simp [gSlots]))
  · cases he
theorem sgs_nil : PGs X [] (tGs g .nil) := by
  refine PGs.conv pgs_nil fun v σ H Q h => ?_
  obtain ⟨F, mu, m, env, p, hE, hM, hv, env', he, hQ⟩ := h
  cases p with
  | nil =>
    cases he
    exact ⟨hv, hQ σ hE fun _ _ => rfl⟩
  | cons p ps => cases he
theorem sgs_cons {e : Expr} {es : List Expr} {cg : CG} {cgs : CGs} (h1 : PG X e (tG g cg)) (h2 : PGs X es (tGs g cgs)) (hs : (assignEach (e :: es) X.env).map (·.2) = assign e X.env :: (assignEach es X.env).map (·.2)) : PGs X (e :: es) (tGs g (.cons cg cgs)) := by
  refine PGs.conv (pgs_cons h1 h2 hs) fun v σ H Q h => ?_
  obtain ⟨F, mu, m, env, p, hE, hM, hv, env', he, hQ⟩ := h
  cases p with
  | nil => cases he
  | cons p ps =>
    obtain ⟨x, xs, rfl, hx, hxs⟩ := hv
    unfold setGs at he
    cases e1 : setG cg p m env with
    | none => rw [e1] at he; cases he
    | some env1 =>
      rw [e1] at he
      refine ⟨x, xs, rfl, F, mu, m, env, p, hE, hM, hx, env1, e1, fun σ1 hE1 hw1 => ?_⟩
      exact ⟨F, mu, m, env1, ps, hE1, hM, hxs, env', he, fun σ2 hE2 hw2 => hQ σ2 hE2 fun vs hvs => (hw2 vs fun i hi => hvs i (by simp [gsSlots, hi])).trans (hw1 vs fun i hi => hvs i (by simp [gsSlots, hi]))⟩
theorem sg_tup {es : List Expr} {k : Nat} {cgs : CGs} (hc : X.calm = true) (hK : X.K = g.K) (h : PGs X es (tGs g cgs)) (hl : ∀ p m env env', setGs cgs p m env = some env' → p.length = es.length)
    (hn : (assignEach es X.env).length = es.length) (hst : (assignEach es X.env).findIdx? (·.1) = none) : PG X (.Tuple es k pos) (tG g (.t cgs)) := by
  refine PG.conv (PG.or (pg_tup hc h hn hst) (pg_unl hc h hn hst)) fun v σ H Q h => ?_
  obtain ⟨F, mu, m, env, p, hE, hM, hv, env', he, hQ⟩ := h
  have hw := view hM hv
  unfold setG at he
  rw [hK]
  cases e : vw m p with
  | tup xs =>
    rw [e] at he hw
    obtain ⟨a, vs, rfl, h1, h2, h3⟩ := hw
    exact .inl ⟨a, vs, rfl, h1, by rw [h3.length]; exact hl _ _ _ _ he, F, mu, m, env, xs, hE, hM, h3, env', he, fun σ' h1 h2 => hQ σ' h1 fun vs hvs => h2 vs fun i hi => hvs i (by rw [gSlots]; exact hi)⟩
  | lst xs =>
    rw [e] at he hw
    obtain ⟨a, vs, rfl, h1, h2, h3⟩ := hw
    exact .inr ⟨a, vs, rfl, .of h1, by rw [h3.length]; exact hl _ _ _ _ he, F, mu, m, env, xs, hE, hM, h3, env', he, fun σ' h1 h2 => hQ σ' h1 fun vs hvs => h2 vs fun i hi => hvs i (by rw [gSlots]; exact hi)⟩
  | _ => rw [e] at he; cases he
end

/-! ### what is walked -/
/-- the iterator J yields the items -/
def ItOk0 (g : G) (F : Hp) (mu : List Addr) (xs : List PV) (J : It) : Prop := ∀ F2 mu2 m2 H2, (∀ (a : Addr) (o : HO), F a = some o → F2 a = some o) → (∀ (n : Nat) (a : Addr), mu[n]? = some a → mu2[n]? = some a) → RelM g.K g.CA F2 mu2 m2 H2 → ∀ i,
  (∀ p, xs[i]? = some p → J.go i H2 ∧ ∀ x H3, J.yld i H2 x H3 → ∃ F3, St2 F2 mu2 H2 F3 mu2 H3 ∧ RelM g.K g.CA F3 mu2 m2 H3 ∧ Rep g.K g.CA F3 mu2 p x) ∧ (xs.length ≤ i → J.stop i H2)
def ItOk (g : G) (F : Hp) (mu : List Addr) (s : Src) (J : It) : Prop := ∀ F2 mu2 m2 H2, (∀ (a : Addr) (o : HO), F a = some o → F2 a = some o) → (∀ (n : Nat) (a : Addr), mu[n]? = some a → mu2[n]? = some a) → RelM g.K g.CA F2 mu2 m2 H2 → ∀ i,
  (∀ p, srcAt s m2 i = some (some p) → i < sizeLine ∧ J.go i H2 ∧ ∀ x H3, J.yld i H2 x H3 → ∃ F3, St2 F2 mu2 H2 F3 mu2 H3 ∧ RelM g.K g.CA F3 mu2 m2 H3 ∧ Rep g.K g.CA F3 mu2 p x) ∧ (srcAt s m2 i = some none → J.stop i H2)
theorem ItOk.fix {g : G} {F : Hp} {mu : List Addr} {xs : List PV} {J : It} (h : ItOk0 g F mu xs J) (hl : xs.length ≤ sizeLine) : ItOk g F mu (.fix xs) J := by
  intro F2 mu2 m2 H2 fF fm rm i
  obtain ⟨h1, h2⟩ := h F2 mu2 m2 H2 fF fm rm i
  refine ⟨fun p hp => ?_, fun hp => ?_⟩
  · have e : xs[i]? = some p := Option.some.inj hp
    have hi := (List.getElem?_eq_some_iff.mp e).1
    exact ⟨by omega, h1 p e⟩
  · have e : xs[i]? = none := Option.some.inj hp
    exact h2 (List.getElem?_eq_none_iff.mp e)
def tI (g : G) (D : Cl) (c : CI) : TI := fun σ H R => ∃ F mu env m, EnvR g F mu env σ ∧ RelM g.K g.CA F mu m H ∧ W g F mu H (evI D c env m) fun s m' F' mu' H' => ∀ J, ItOk g F' mu' s J → R J H'
theorem PI.conv {X : Cx} {tg iter : Expr} {t t' : TI} (h : PI X tg iter t) (k : ∀ σ H R, t' σ H R → t σ H R) : PI X tg iter t' := ⟨fun pins s σ H R I q => h.run pins s σ H R I (k σ H R q)⟩
theorem PI.or {X : Cx} {tg iter : Expr} {t t' : TI} (h : PI X tg iter t) (h' : PI X tg iter t') : PI X tg iter (fun σ H R => t σ H R ∨ t' σ H R) := ⟨fun pins s σ H R I q => q.elim (h.run pins s σ H R I) (h'.run pins s σ H R I)⟩
section
variable {X : Cx} {g : G} {D : Cl} {tg iter : Expr} {pos : Pos}
theorem it_lst {F : Hp} {mu : List Addr} {a : Addr} {xs : List PV} {vs : List V} (hF : F a = some (.lst vs)) (h : Reps g.K g.CA F mu xs vs) : ItOk0 g F mu xs (Itl g.K a) := by
  intro F2 mu2 m2 H2 fF fm rm i
  have h2 := Reps.mono (K := g.K) (CA := g.CA) fF fm xs vs h
  have e : H2 a = some (.lst vs) := fr_lst rm (fF _ _ hF)
  refine ⟨fun p hp => ?_, fun hi => ⟨vs, .of e, by rw [h2.length]; exact hi⟩⟩
  obtain ⟨v, hv, hr⟩ := h2.get hp
  refine ⟨⟨vs, v, .of e, hv⟩, fun x H3 hy => ?_⟩
  obtain ⟨rfl, hy⟩ := hy
  have := hy vs (.of e)
  rw [hv] at this
  cases this
  exact ⟨F2, St2.refl, rm, hr⟩
theorem it_tup {F : Hp} {mu : List Addr} {a : Addr} {xs : List PV} {vs : List V} (hF : SqT g.K F a vs) (h : Reps g.K g.CA F mu xs vs) : ItOk0 g F mu xs (Itt g.K a) := by
  intro F2 mu2 m2 H2 fF fm rm i
  have h2 := Reps.mono (K := g.K) (CA := g.CA) fF fm xs vs h
  have e : SqT g.K H2 a vs := fr_sqT rm (sqt_mono hF fF)
  refine ⟨fun p hp => ?_, fun hi => ⟨vs, e, by rw [h2.length]; exact hi⟩⟩
  obtain ⟨v, hv, hr⟩ := h2.get hp
  refine ⟨⟨vs, v, e, hv⟩, fun x H3 hy => ?_⟩
  obtain ⟨rfl, hy⟩ := hy
  have := hy vs e
  rw [hv] at this
  cases this
  exact ⟨F2, St2.refl, rm, hr⟩
theorem reps_ints {F : Hp} {mu : List Addr} : ∀ (ns : List Int), Reps g.K g.CA F mu (ns.map PV.int) (ns.map V.int)
  | [] => rfl
  | n :: ns => ⟨.int n, ns.map V.int, rfl, rfl, reps_ints ns⟩
theorem it_scr {F : Hp} {mu : List Addr} {a : Addr} {ns : List Int} (hF : SqL g.K F a (ns.map V.int)) : ItOk0 g F mu (ns.map PV.int) (Itl g.K a) := by
  intro F2 mu2 m2 H2 fF fm rm i
  have h2 := reps_ints (g := g) (F := F2) (mu := mu2) ns
  have e : SqL g.K H2 a (ns.map V.int) := fr_sqL rm (sql_mono hF fF)
  refine ⟨fun p hp => ?_, fun hi => ⟨_, e, by rw [h2.length]; exact hi⟩⟩
  obtain ⟨v, hv, hr⟩ := h2.get hp
  refine ⟨⟨_, v, e, hv⟩, fun x H3 hy => ?_⟩
  obtain ⟨rfl, hy⟩ := hy
  have := hy _ e
  rw [hv] at this
  cases this
  exact ⟨F2, St2.refl, rm, hr⟩
theorem it_str {F : Hp} {mu : List Addr} (x : Str) : ItOk0 g F mu (x.cps.toList.map fun c => PV.str ⟨#[c]⟩) (Its x) := by
  intro F2 mu2 m2 H2 fF fm rm i
  refine ⟨fun p hp => ?_, fun hi => by
    have h2 : x.cps.size ≤ i := by simpa using hi
    exact h2⟩
  rw [List.getElem?_map] at hp
  cases e : x.cps.toList[i]? with
  | none => rw [e] at hp; cases hp
  | some c =>
    rw [e] at hp
    cases hp
    have hl : i < x.cps.size := by simpa using (List.getElem?_eq_some_iff.mp e).1
    refine ⟨hl, fun y H3 hy => ?_⟩
    obtain ⟨rfl, d, hd, rfl⟩ := hy
    have e2 : x.cps[i]? = some c := by rw [← e, Array.getElem?_toList]
    rw [e2] at hd
    cases hd
    exact ⟨F2, St2.refl, rm, rfl⟩
theorem it_live {F : Hp} {mu : List Addr} {a : Addr} {n : Nat} (hn : mu[n]? = some a) : ItOk g F mu (.live n) (Itl g.K a) := by
  intro F2 mu2 m2 H2 fF fm rm i
  have key : ∀ o, srcAt (.live n) m2 i = some o → ∃ xs vs, m2[n]? = some (.lst xs) ∧ o = xs[i]? ∧ H2 a = some (.lst vs) ∧ xs.length ≤ sizeLine ∧ Reps g.K g.CA F2 mu2 xs vs := fun o h => by
    simp only [srcAt] at h
    split at h
    · rename_i xs e
      cases h
      obtain ⟨b, hb, vs, h1, h2, h3⟩ := rm.cells n _ e
      rw [fm n a hn] at hb
      cases hb
      exact ⟨xs, vs, e, rfl, h1, h2, h3.tk⟩
    · cases h
  refine ⟨fun p hp => ?_, fun hp => ?_⟩
  · obtain ⟨xs, vs, e, ho, h1, h2, h3⟩ := key _ hp
    have hi := (List.getElem?_eq_some_iff.mp ho.symm).1
    obtain ⟨v, hv, hr⟩ := h3.get ho.symm
    refine ⟨by omega, ⟨vs, v, .of h1, hv⟩, fun x H3 hy => ?_⟩
    obtain ⟨rfl, hy⟩ := hy
    have := hy vs (.of h1)
    rw [hv] at this
    cases this
    exact ⟨F2, St2.refl, rm, hr⟩
  · obtain ⟨xs, vs, e, ho, h1, h2, h3⟩ := key _ hp
    exact ⟨vs, .of h1, by rw [h3.length]; exact List.getElem?_eq_none_iff.mp ho.symm⟩
theorem si_seq {a : Expr} {ca : CE} (hK : X.K = g.K) (ha : PE X a (tE g D ca)) : PI X tg a (tI g D (.seq ca)) := by
  refine PI.conv (PI.or (pi_list (tg := tg) ha) (PI.or (pi_tup ha) (pi_str ha))) fun σ H R h => ?_
  obtain ⟨F, mu, env, m, hE, hM, hw⟩ := h
  rw [hK]
  have hb := W.bind hw
  cases e : evE D ca env m with
  | stuck => rw [e] at hb; exact hb.elim
  | exc x m1 => rw [e] at hb; exact hb.elim
  | ok p m1 =>
    rw [e] at hb
    cases p with
    | lst xs =>
      refine .inl ⟨F, mu, env, m, hE, hM, ?_⟩
      rw [e]
      intro F1 mu1 H1 st rm v hv
      have hw1 := hb F1 mu1 H1 st rm
      obtain ⟨a, vs, rfl, h1, h2, h3⟩ := hv
      exact ⟨a, rfl, ⟨vs, .of (fr_lst rm h1)⟩, W.ok hw1 rm _ (ItOk.fix (it_lst h1 h3) h2)⟩
    | tup xs =>
      refine .inr (.inl ⟨F, mu, env, m, hE, hM, ?_⟩)
      rw [e]
      intro F1 mu1 H1 st rm v hv
      have hw1 := hb F1 mu1 H1 st rm
      obtain ⟨a, vs, rfl, h1, h2, h3⟩ := hv
      exact ⟨a, rfl, ⟨vs, fr_sqT rm h1⟩, W.ok hw1 rm _ (ItOk.fix (it_tup h1 h3) h2)⟩
    | str x =>
      refine .inr (.inr ⟨F, mu, env, m, hE, hM, ?_⟩)
      rw [e]
      intro F1 mu1 H1 st rm v hv
      obtain ⟨hl, hw1⟩ := W.ck (hb F1 mu1 H1 st rm)
      exact ⟨x, hv, W.ok hw1 rm _ (ItOk.fix (it_str x) (by rw [List.length_map]; exact line5 hl))⟩
    | scr ns =>
      refine .inl ⟨F, mu, env, m, hE, hM, ?_⟩
      rw [e]
      intro F1 mu1 H1 st rm v hv
      have hw1 := hb F1 mu1 H1 st rm
      obtain ⟨a, rfl, h1, h2⟩ := hv
      exact ⟨a, rfl, ⟨_, fr_sqL rm h1⟩, W.ok hw1 rm _ (ItOk.fix (it_scr h1) (by rw [List.length_map]; exact h2))⟩
    | ref n =>
      refine .inl ⟨F, mu, env, m, hE, hM, ?_⟩
      rw [e]
      intro F1 mu1 H1 st rm v hv
      have hw1 := hb F1 mu1 H1 st rm
      dsimp only at hw1
      split at hw1
      · rename_i xs ec
        obtain ⟨a, rfl, h1⟩ := hv
        obtain ⟨b, hb, vs, k1, k2, k3⟩ := rm.cells n _ ec
        rw [h1] at hb
        cases hb
        exact ⟨a, rfl, ⟨vs, .of k1⟩, W.ok hw1 rm _ (it_live h1)⟩
      · exact hw1.elim
    | _ =>
      refine .inl ⟨F, mu, env, m, hE, hM, ?_⟩
      rw [e]
      intro F1 mu1 H1 st rm v hv
      exact (hb F1 mu1 H1 st rm).elim
end
end Co

end P_CoreStm
section P_CoreLc
set_option Elab.async false
set_option linter.all false
set_option maxRecDepth 100000
set_option maxHeartbeats 2000000
/-! CoreLc: list comprehensions. -/
namespace Co
open PySem PySem.Spec PyProof.Rows L2

/-- the heap without D -/
def del (H : Hp) (D : Addr) : Hp := fun a => if a = D then none else H a
theorem del_same {H : Hp} {D : Addr} : del H D D = none := by unfold del; rw [if_pos rfl]
theorem del_ne {H : Hp} {D a : Addr} (h : a ≠ D) : del H D a = H a := by unfold del; rw [if_neg h]
theorem del_upd {H : Hp} {D : Addr} {o : HO} : del (upd H D o) D = del H D := by
  funext a
  by_cases h : a = D
  · subst h; rw [del_same, del_same]
  · rw [del_ne h, del_ne h, upd_ne h]
theorem del_none {H : Hp} {D : Addr} (h : H D = none) : del H D = H := by
  funext a
  by_cases e : a = D
  · subst e; rw [del_same, h]
  · rw [del_ne e]
theorem upd_del {H : Hp} {D : Addr} {o : HO} (h : H D = some o) : upd (del H D) D o = H := by
  funext a
  by_cases e : a = D
  · subst e; rw [upd_same, h]
  · rw [upd_ne e, del_ne e]
section
variable {g : G} {F F' : Hp} {mu mu' : List Addr} {H H' : Hp} {m m' : Mem} {D : Addr} {o : HO}
theorem relM_full (r : RelM g.K g.CA F mu m (del H D)) : RelM g.K g.CA F mu m H := by
  have nD : ∀ a, F a ≠ none → a ≠ D := fun a h e => by
    subst e
    cases q : F a with
    | none => exact h q
    | some u => exact r.dom q del_same
  have nm : ∀ a, a ∈ mu → a ≠ D := fun a h e => by
    subst e
    exact r.in_dom h del_same
  refine ⟨fun a u h => ?_, r.len, r.nd, r.off, fun n c h => ?_⟩
  · have := r.fr a u h
    rwa [del_ne (nD a (by rw [h]; simp))] at this
  · obtain ⟨a, e, hc⟩ := r.cells n c h
    have ha := nm a (List.mem_of_getElem? e)
    exact ⟨a, e, hc.mono (fun _ _ h => h) (fun _ _ h => h) fun u hu => by rwa [del_ne ha] at hu⟩
theorem relM_del (r : RelM g.K g.CA F mu m H) (hF : F D = none) (hm : D ∉ mu) : RelM g.K g.CA F mu m (del H D) := by
  refine ⟨fun a u h => ?_, r.len, r.nd, r.off, fun n c h => ?_⟩
  · rw [del_ne (fun e => by rw [e, hF] at h; cases h)]
    exact r.fr a u h
  · obtain ⟨a, e, hc⟩ := r.cells n c h
    have ha : a ≠ D := fun z => hm (by rw [← z]; exact List.mem_of_getElem? e)
    exact ⟨a, e, hc.mono (fun _ _ h => h) (fun _ _ h => h) fun u hu => by rw [del_ne ha]; exact hu⟩
theorem st_del (s : St2 F mu H F' mu' H') : St2 F mu (del H D) F' mu' (del H' D) := by
  have ne : ∀ a, del H D a ≠ none → a ≠ D := fun a h e => by subst e; exact h del_same
  have nn : ∀ a, H a = none → del H D a = none := fun a h => by
    by_cases e : a = D
    · subst e; exact del_same
    · rw [del_ne e]; exact h
  refine ⟨s.fF, s.fm, fun a u h hm => ?_, fun a h => ?_, fun a u h => ?_, fun a h => ?_⟩
  · have e := ne a (by rw [h]; simp)
    rw [del_ne e] at h ⊢
    exact s.keep a u h hm
  · have e := ne a h
    rw [del_ne e] at h ⊢
    exact s.dom a h
  · exact (s.nF a u h).imp id (nn a)
  · exact (s.nm a h).imp id (nn a)
theorem off_D (r : RelM g.K g.CA F mu m (del H D)) : F D = none ∧ D ∉ mu := by
  refine ⟨?_, fun h => r.in_dom h del_same⟩
  cases q : F D with
  | none => rfl
  | some u => exact absurd del_same (r.dom q)
theorem W.shift {α : Type} {o : Out α} {Q : α → Mem → Hp → List Addr → Hp → Prop} (h : W g F mu H o Q) (s : St2 F mu H F' mu' H') : W g F' mu' H' o Q := by
  cases o with
  | ok a m => exact fun F2 mu2 H2 s2 rm => h F2 mu2 H2 (s.trans s2) rm
  | exc e m => exact h
  | stuck => exact h
theorem W.del {α : Type} {o : Out α} {u : HO} {Q : α → Mem → Hp → List Addr → Hp → Prop} (h : W g F mu (del H D) o Q) (hD : H D = some u) (hF : F D = none) (hm : D ∉ mu) :
    W g F mu H o fun a m F' mu' H' => H' D = some u ∧ St2 F mu (Co.del H D) F' mu' (Co.del H' D) ∧ RelM g.K g.CA F' mu' m (Co.del H' D) ∧ Q a m F' mu' (Co.del H' D) := by
  cases o with
  | ok a m =>
    intro F' mu' H' st rm
    have hF' : F' D = none := by
      cases q : F' D with
      | none => rfl
      | some v =>
        rcases st.nF D v q with z | z
        · rw [hF] at z; cases z
        · rw [hD] at z; cases z
    have hm' : D ∉ mu' := fun q => by
      rcases st.nm D q with z | z
      · exact hm z
      · rw [hD] at z; cases z
    have s := st_del (D := D) st
    have r := relM_del rm hF' hm'
    exact ⟨st.keep D u hD hm, s, r, h _ _ _ s r⟩
  | exc e m => exact h
  | stuck => exact h
end
theorem wipe_wipe (σ : L2.St) : ∀ vs : List Nat, wipe (wipe σ vs) vs = wipe σ vs := by
  intro vs
  have key : ∀ (ws : List Nat) (τ : L2.St), (∀ i ∈ ws, τ[i]? = some none ∨ τ.length ≤ i) → wipe τ ws = τ := by
    intro ws
    induction ws with
    | nil => intro τ _; rfl
    | cons k ws ih =>
      intro τ h
      unfold wipe
      rw [ih τ fun i hi => h i (List.mem_cons_of_mem _ hi)]
      rcases h k List.mem_cons_self with z | z
      · obtain ⟨h1, h2⟩ := List.getElem?_eq_some_iff.mp z
        rw [← h2]
        exact List.set_getElem_self h1
      · exact List.set_eq_of_length_le z
  refine key vs _ fun i hi => ?_
  by_cases hl : i < (wipe σ vs).length
  · left
    rw [List.getElem?_eq_getElem hl]
    cases q : (wipe σ vs)[i] with
    | none => rfl
    | some x =>
      have := wipe_some (σ := σ) (i := i) (x := x) (vs := vs) (by rw [List.getElem?_eq_getElem hl, q])
      exact absurd hi this.2
  · exact .inr (by omega)
theorem EnvR.wipe {g : G} {F : Hp} {mu : List Addr} {env : Env} {σ : L2.St} (e : EnvR g F mu env σ) : ∀ vs : List Nat, EnvR g F mu (wipeE env vs) (wipe σ vs)
  | [] => e
  | v :: vs => by
    have h := EnvR.wipe e vs
    unfold wipeE L2.wipe
    refine ⟨by rw [List.length_set, List.length_set]; exact h.1, fun i p hp => ?_⟩
    by_cases hi : v = i
    · subst hi
      by_cases hl : v < (wipeE env vs).length
      · rw [List.getElem?_set_self hl] at hp; cases hp
      · rw [List.getElem?_eq_none (by rw [List.length_set]; omega)] at hp; cases hp
    · rw [List.getElem?_set_ne hi] at hp
      obtain ⟨x, h1, h2⟩ := h.2 i p hp
      exact ⟨x, by rw [List.getElem?_set_ne hi]; exact h1, h2⟩

section
variable {X : Cx} {g : G} {D : Cl}
theorem lc_step {cg : CG} {ct : CT} {ce : CE} {ci : CI} {vs : List Nat} {σ : L2.St} {H : Hp} {Q : VK} (hown : ∀ i ∈ gSlots cg, i ∈ vs) (h : tF g D (.lc cg ci ct ce vs) σ H Q) : tLc (tI g D ci) (tG g cg) (tT g D ct) (tE g D ce) vs σ H Q := by
  obtain ⟨F, mu, env, m, hE, hM, hw⟩ := h
  refine ⟨F, mu, env, m, hE, hM, (W.bind hw).mono fun s m1 F1 mu1 H1 st rm hw1 J hJ A hA => ?_⟩
  generalize hf : (fun (x : PV) (m : Mem) => match setG cg x m (wipeE env vs) with
    | some env' => (evT D ct env' m).bind fun b m2 => match b with
      | true => (evE D ce env' m2).bind fun y m3 => .ok (some y) m3
      | false => .ok none m2
    | none => (.stuck : Out (Option PV))) = f at hw1
  have hE1 := hE.step st
  refine ⟨fun i mm H => i ≤ sizeLine ∧ ∃ F2 mu2 m2 acc accV, St2 F1 mu1 H1 F2 mu2 (Co.del H A) ∧ RelM g.K g.CA F2 mu2 m2 (Co.del H A) ∧ H A = some (.lst accV) ∧ Reps g.K g.CA F2 mu2 acc accV ∧ acc.length ≤ i ∧
      W g F2 mu2 (Co.del H A) (lcL f s mm i acc m2) fun ps m' F' mu' H' => ∀ vs p, Reps g.K g.CA F' mu' ps vs → ps.length ≤ sizeLine → H' p = none → Q (.ref p) (upd H' p (.lst vs)), ⟨srcFuel s, Nat.zero_le _, F1, mu1, m1, [], [], ?_, ?_, upd_same, rfl, Nat.le_refl _, ?_⟩, ?_⟩
  · rw [del_upd, del_none hA]; exact St2.refl
  · rw [del_upd, del_none hA]; exact rm
  · rw [del_upd, del_none hA]; exact hw1
  rintro i mm H ⟨hi, F2, mu2, m2, acc, accV, st2, rm2, hA2, hacc, hal, hw2⟩
  obtain ⟨oF, om⟩ := off_D rm2
  have rmF := relM_full rm2
  have item := hJ F2 mu2 m2 H st2.fF st2.fm rmF i
  cases mm with
  | zero => exact hw2.elim
  | succ mm =>
  simp only [lcL] at hw2
  cases hx : srcAt s m2 i with
  | none => rw [hx] at hw2; exact hw2.elim
  | some o =>
  rw [hx] at hw2
  cases o with
  | some q =>
    obtain ⟨hil, hgo, hy⟩ := item.1 _ hx
    refine .inr ⟨hgo, fun H' => (i + 1 ≤ sizeLine ∧ ∃ F2 mu2 m2 acc accV, St2 F1 mu1 H1 F2 mu2 (Co.del H' A) ∧ RelM g.K g.CA F2 mu2 m2 (Co.del H' A) ∧ H' A = some (.lst accV) ∧ Reps g.K g.CA F2 mu2 acc accV ∧ acc.length ≤ i + 1 ∧
      W g F2 mu2 (Co.del H' A) (lcL f s mm (i + 1) acc m2) fun ps m' F' mu' H' => ∀ vs p, Reps g.K g.CA F' mu' ps vs → ps.length ≤ sizeLine → H' p = none → Q (.ref p) (upd H' p (.lst vs))), fun H' hn => ⟨mm, by omega, hn⟩, fun x H' hyl => ?_⟩
    obtain ⟨F3, st3, rm3, hr3⟩ := hy x H' hyl
    have hA3 : H' A = some (.lst accV) := st3.keep A _ hA2 om
    have oF3 : F3 A = none := by
      cases q : F3 A with
      | none => rfl
      | some v =>
        rcases st3.nF A v q with z | z
        · rw [oF] at z; cases z
        · rw [hA2] at z; cases z
    have std3 := st_del (D := A) st3
    have rmd3 := relM_del rm3 oF3 om
    have hw3 := W.shift hw2 std3
    have hw4 := W.bind hw3
    have hE3 : EnvR g F3 mu2 env σ := (hE1.step st2).step std3
    rw [← hf] at hw4
    dsimp only at hw4
    cases es : setG cg q m2 (wipeE env vs) with
    | none => rw [es] at hw4; exact hw4.elim
    | some env' =>
      rw [es] at hw4
      dsimp only at hw4
      refine ⟨F3, mu2, m2, wipeE env vs, q, hE3.wipe vs, rm3, hr3, env', es, fun σ' hE' hwp => ⟨(hwp vs hown).trans (wipe_wipe σ vs), ?_⟩⟩
      refine ⟨F3, mu2, env', m2, hE', rm3, ((W.bind hw4).del hA3 oF3 om).mono fun b m4 F4 mu4 H4 st4 rm4 h4 => ?_⟩
      obtain ⟨hA4, std4, rmd4, hw5⟩ := h4
      obtain ⟨oF4, om4⟩ := off_D rmd4
      cases b with
      | false =>
        rw [if_neg Bool.false_ne_true]
        have hw6 := W.ok hw5 rmd4
        exact ⟨hil, F4, mu4, m4, acc, accV, (st2.trans std3).trans std4, rmd4, hA4, (hacc.step std3).step std4, by omega, by rw [hf] at hw6; exact hw6⟩
      | true =>
        rw [if_pos rfl]
        refine ⟨F4, mu4, env', m4, hE'.step std4, rm4, ((W.bind hw5).del hA4 oF4 om4).mono fun y m5 F5 mu5 H5 st5 rm5 h5 yv hyv => ?_⟩
        obtain ⟨hA5, std5, rmd5, hw6⟩ := h5
        have hw7 := W.ok hw6 rmd5
        have racc := ((hacc.step std3).step std4).step std5
        refine ⟨accV, hA5, by rw [hacc.length]; omega, hil, F5, mu5, m5, acc ++ [y], accV ++ [yv], ?_, ?_, upd_same, racc.append ⟨yv, [], rfl, hyv, rfl⟩, by rw [List.length_append, List.length_singleton]; omega, ?_⟩
        · rw [del_upd]; exact ((st2.trans std3).trans std4).trans std5
        · rw [del_upd]; exact rmd5
        · rw [del_upd, ← hf]; exact hw7
  | none =>
    refine .inl ⟨item.2 hx, ?_⟩
    have := W.ok hw2 rm2 accV A hacc (by omega) del_same
    rwa [upd_del hA2] at this
theorem sf_lc {elt tg iter : Expr} {ifs : List Expr} {scope : Scope} {own : List (Str × Nat)} {pos : Pos} {cg : CG} {ct : CT} {ce : CE} {ci : CI} (hc : X.calm = true) (hN : X.N.Nodup) (hi : PI X tg iter (tI g D ci)) (ok : BlkOk X.N X.env.scope scope own) (hown : ∀ i ∈ gSlots cg, i ∈ own.map (·.2))
    (hg : ∀ (s : Shared) (H : Hp) (C : Addr) (cl : List (Str × Addr)) (fp : List Addr), PG (X.blk s H scope (compEnvC scope cl C X.env) fp) tg (tG g cg)) (ht : ∀ (s : Shared) (H : Hp) (C : Addr) (cl : List (Str × Addr)) (fp : List Addr), PTs (X.blk s H scope (compEnvC scope cl C X.env) fp) ifs (tT g D ct))
    (he : ∀ (s : Shared) (H : Hp) (C : Addr) (cl : List (Str × Addr)) (fp : List Addr), PE (X.blk s H scope (compEnvC scope cl C X.env) fp) elt (tE g D ce)) (hs : ∀ x, foldedSetIterable iter X.env x = pure x) : PE X (.ListComp elt [⟨tg, iter, ifs, 0⟩] scope pos) (tF g D (.lc cg ci ct ce (own.map (·.2)))) :=
  PE.conv (pe_lc hc hN hi ok hg ht he hs) fun σ H Q h => lc_step hown h
theorem PTs.conv {es : List Expr} {t t' : TT} (h : PTs X es t) (k : ∀ σ H Q, t' σ H Q → t σ H Q) : PTs X es t' := ⟨fun pins s σ H Q I q => h.run pins s σ H Q I (k σ H Q q)⟩
theorem sts_nil : PTs X [] (tT g D .tt) := PTs.conv pts_nil fun σ H Q h => by
  obtain ⟨F, mu, env, m, hE, hM, hw⟩ := h
  exact W.ok hw hM
end
end Co

end P_CoreLc
section P_CoreCall
set_option Elab.async false
set_option linter.all false
set_option maxRecDepth 100000
set_option maxHeartbeats 2000000
/-! CoreCall: built-ins by name, defs called. -/
namespace Co
open PySem PySem.Spec PyProof.Rows L2

def nstar : Expr → Bool
  | .Starred .. => false
  | _ => true
theorem starEach_cons {a : Expr} {es : List Expr} {env : PySem.Env} (h : nstar a = true) : starEach (a :: es) env = (false, eval a env) :: starEach es env := by
  cases a <;> first | rfl | cases h
theorem starEach_any {env : PySem.Env} {pos : Pos} : ∀ {es : List Expr}, es.all nstar = true → (backTo pos (starEach es env)).any (·.1) = false
  | [], _ => rfl
  | a :: es, h => by
    rw [List.all_cons, Bool.and_eq_true] at h
    rw [starEach_cons h.1]
    have := starEach_any (env := env) (pos := pos) h.2
    unfold backTo at this ⊢
    rw [List.map_cons, List.any_cons, this]
    rfl
section
variable {X : Cx} {g : G} {D : Cl} {a b c : Expr} {ca cb cc : CE} {pos p : Pos} {es rest : List Expr} {ces : CEs} {x : Str}
theorem sa_cons' (hs : nstar a = true) (ha : PE X a (tE g D ca)) (hr : PA X es (tA g D ces)) : PA X (a :: es) (tA g D (.cons ca ces)) := sa_cons (starEach_cons hs) ha hr
/-- one argument's values -/
def OneR (g : G) (bi : Bi) (r : List V → Hp → VK → Prop) : Prop := ∀ F mu H m x p Q', RelM g.K g.CA F mu m H → Rep g.K g.CA F mu p x → (W g F mu H (Out.of (builtin1 bi (vw m p)) m) fun p m' F' mu' H' => ∀ v, Rep g.K g.CA F' mu' p v → Q' v H') → r [x] H Q'
/-- one argument, an own answer among them -/
def OneS (g : G) (D : Cl) (bi : Bi) (r : List V → Hp → VK → Prop) : Prop := ∀ F mu H m x p Q', RelM g.K g.CA F mu m H → Rep g.K g.CA F mu p x → (W g F mu H (biO D bi p m) fun p m' F' mu' H' => ∀ v, Rep g.K g.CA F' mu' p v → Q' v H') → r [x] H Q'
theorem one_conv {bi : Bi} {r : List V → Hp → VK → Prop} {σ : L2.St} {H : Hp} {Q : VK} (hop : OneS g D bi r) (h : tE g D (.bi bi ca) σ H Q) : tCB r (tA g D (.cons ca .nil)) σ H Q := by
  obtain ⟨F, mu, env, m, hE, hM, hw⟩ := h
  refine ⟨F, mu, env, m, hE, hM, ?_⟩
  have h1 := W.bind hw
  cases e : evE D ca env m with
  | stuck => rw [e] at h1; exact h1.elim
  | exc z m1 => rw [e] at h1; exact h1.elim
  | ok q m1 =>
    rw [e] at h1
    show W g F mu H ((evE D ca env m).bind fun x m1 => (evEs D .nil env m1).bind fun xs m2 => .ok (x :: xs) m2) _
    rw [e]
    intro F1 mu1 H1 st rm vs hvs
    obtain ⟨v, r, rfl, hv, hr⟩ := hvs
    cases hr
    exact hop F1 mu1 H1 m1 v q Q rm hv (h1 F1 mu1 H1 st rm)
/-- none has an own answer -/
theorem OneR.s {bi : Bi} {r : List V → Hp → VK → Prop} (h : OneR g bi r) (hn : ∀ c, D.own c bi = none) : OneS g D bi r := fun F mu H m x p Q' rm hx hw => by
  refine h F mu H m x p Q' rm hx ?_
  have e : ownO D bi (vw m p) = none := by
    unfold ownO
    split
    · split
      · exact hn _
      · rfl
    · rfl
  unfold biO at hw
  rw [e] at hw
  exact hw
theorem s_biB {bi : Bi} {id : String} {r : List V → Hp → VK → Prop} (hc : CallR X (.builtin id) r) (hg : Gl X x) (hm : X.mg x = none) (hv : bootBuiltins x = some (.builtin id)) (hn : x ≠ "__name__") (hdb : (x == ("__debug__" : Str)) = false) (hs : nstar a = true) (ha : PE X a (tE g D ca)) (hop : OneS g D bi r) :
    PE X (.Call (.Name x p) [a] [] pos) (tE g D (.bi bi ca)) :=
  PE.conv (pe_callB hc hg hm hv (sa_cons' hs ha sa_nil) hn hdb (starEach_cons hs) rfl) fun σ H Q h => one_conv hop h
theorem s_biT {bi : Bi} {T : String} {r : List V → Hp → VK → Prop} (hc : CallR X (.type T) r) (hg : Gl X x) (hm : X.mg x = none) (hv : bootBuiltins x = some (.type T)) (hn : x ≠ "__name__") (hdb : (x == ("__debug__" : Str)) = false) (hs : nstar a = true) (ha : PE X a (tE g D ca)) (hop : OneS g D bi r) :
    PE X (.Call (.Name x p) [a] [] pos) (tE g D (.bi bi ca)) :=
  PE.conv (pe_callTy hc hg hm hv (sa_cons' hs ha sa_nil) hn hdb (starEach_cons hs) rfl) fun σ H Q h => one_conv hop h
theorem one_len (hK : X.K = g.K) : OneR g .len (fun xs H Q => ∃ x n, xs = [x] ∧ LenV X.K x H n ∧ Q (.int n) H) := fun F mu H m x p Q' rm hx hw => by
  obtain ⟨z, hz, hw2⟩ := W.of hw
  have vx := view rm hx
  rw [hK]
  unfold builtin1 at hz
  dsimp only at hz
  cases ep : vw m p with
  | lst xs =>
    rw [ep] at hz vx
    cases hz
    obtain ⟨a, vs, rfl, h1, h2, h3⟩ := vx
    exact ⟨_, xs.length, rfl, .inl ⟨vs, .of h1, h3.length.symm⟩, W.ok hw2 rm _ rfl⟩
  | tup xs =>
    rw [ep] at hz vx
    cases hz
    obtain ⟨a, vs, rfl, h1, h2, h3⟩ := vx
    exact ⟨_, xs.length, rfl, .inr ⟨vs, h1, h3.length.symm⟩, W.ok hw2 rm _ rfl⟩
  | scr xs =>
    rw [ep] at hz vx
    cases hz
    obtain ⟨a, rfl, h1, h2⟩ := vx
    exact ⟨_, xs.length, rfl, .inl ⟨_, h1, by rw [List.length_map]⟩, W.ok hw2 rm _ rfl⟩
  | str w =>
    rw [ep] at hz vx
    dsimp only at hz
    split at hz
    · cases hz
      rw [show x = .str w from vx]
      exact ⟨_, w.length, rfl, ⟨by rw [sizeLine_eq]; omega, rfl⟩, W.ok hw2 rm _ rfl⟩
    · cases hz
  | _ => rw [ep] at hz; cases hz
theorem one_abs : OneR g .abs (fun xs H Q => ∃ i, xs = [.int i] ∧ Q (.int (if i < 0 then -i else i)) H) := fun F mu H m x p Q' rm hx hw => by
  obtain ⟨z, hz, hw2⟩ := W.of hw
  unfold builtin1 at hz
  dsimp only at hz
  cases ep : vw m p with
  | int i =>
    rw [ep] at hz
    cases hz
    rw [view_int rm hx ep]
    exact ⟨i, rfl, W.ok hw2 rm _ rfl⟩
  | _ => rw [ep] at hz; cases hz
theorem one_int : OneR g .int (fun xs H Q => ((∃ i, xs = [.int i] ∧ Q (.int i) H) ∨ ∃ k, xs = [.bl k] ∧ Q (.int (if k then 1 else 0)) H) ∨ ∃ a n, xs = [.str a] ∧ PySem.intText? a = some n ∧ a.length ≤ 640 ∧ Q (.int n) H) := fun F mu H m x p Q' rm hx hw => by
  obtain ⟨z, hz, hw2⟩ := W.of hw
  have vx := view rm hx
  unfold builtin1 at hz
  dsimp only at hz
  cases ep : vw m p with
  | int i =>
    rw [ep] at hz
    cases hz
    rw [view_int rm hx ep]
    exact .inl (.inl ⟨i, rfl, W.ok hw2 rm _ rfl⟩)
  | str a =>
    rw [ep] at hz vx
    dsimp only at hz
    split at hz
    · rename_i hl
      cases e : PySem.intText? a with
      | none => rw [e] at hz; cases hz
      | some n =>
        rw [e] at hz
        cases hz
        exact .inr ⟨a, n, by rw [show x = .str a from vx], e, hl, W.ok hw2 rm _ rfl⟩
    · cases hz
  | _ => rw [ep] at hz; cases hz
theorem one_str : OneR g .str (fun xs H Q => (∃ i, xs = [.int i] ∧ i.natAbs.log2 < 1920 ∧ Q (.str (toString i)) H) ∨ ∃ a, xs = [.str a] ∧ Q (.str a) H) := fun F mu H m x p Q' rm hx hw => by
  obtain ⟨z, hz, hw2⟩ := W.of hw
  have vx := view rm hx
  unfold builtin1 at hz
  dsimp only at hz
  cases ep : vw m p with
  | int i =>
    rw [ep] at hz
    dsimp only at hz
    split at hz
    · cases hz
      rw [view_int rm hx ep]
      exact .inl ⟨i, rfl, by assumption, W.ok hw2 rm _ rfl⟩
    · cases hz
  | str a =>
    rw [ep] at hz vx
    cases hz
    exact .inr ⟨a, by rw [show x = .str a from vx], W.ok hw2 rm _ rfl⟩
  | _ => rw [ep] at hz; cases hz
theorem truths {F : Hp} {mu : List Addr} : ∀ {xs : List PV} {vs : List V} {bs : List Bool}, Reps g.K g.CA F mu xs vs → xs.mapM truth = some bs → vs = bs.map V.bl
  | [], vs, bs, h, e => by
    cases e
    exact h
  | x :: xs, vs, bs, h, e => by
    obtain ⟨v, r, rfl, h1, h2⟩ := h
    rw [List.mapM_cons] at e
    cases q : truth x with
    | none => rw [q] at e; cases e
    | some b =>
      rw [q] at e
      cases q2 : xs.mapM truth with
      | none => rw [q2] at e; cases e
      | some cs =>
        rw [q2] at e
        cases e
        rw [truths h2 q2]
        have e3 : x = .bl b := by cases x <;> first | cases q; rfl | cases q
        subst e3
        rw [show v = .bl b from h1]
        rfl
theorem one_all (hK : X.K = g.K) : OneR g .all (rAll X.K) := fun F mu H m x p Q' rm hx hw => by
  obtain ⟨z, hz, hw2⟩ := W.of hw
  have vx := view rm hx
  rw [hK]
  unfold builtin1 at hz
  dsimp only at hz
  cases ep : vw m p with
  | lst xs =>
    rw [ep] at hz vx
    obtain ⟨a, vs, rfl, h1, h2, h3⟩ := vx
    dsimp only at hz
    cases q : xs.mapM truth with
    | none => rw [q] at hz; cases hz
    | some bs =>
      rw [q] at hz
      cases hz
      exact ⟨a, bs, rfl, .of (by rw [← truths h3 q]; exact h1), W.ok hw2 rm _ rfl⟩
  | _ => rw [ep] at hz; cases hz
theorem one_any (hK : X.K = g.K) : OneR g .any (rAny X.K) := fun F mu H m x p Q' rm hx hw => by
  obtain ⟨z, hz, hw2⟩ := W.of hw
  have vx := view rm hx
  rw [hK]
  unfold builtin1 at hz
  dsimp only at hz
  cases ep : vw m p with
  | lst xs =>
    rw [ep] at hz vx
    obtain ⟨a, vs, rfl, h1, h2, h3⟩ := vx
    dsimp only at hz
    cases q : xs.mapM truth with
    | none => rw [q] at hz; cases hz
    | some bs =>
      rw [q] at hz
      cases hz
      exact ⟨a, bs, rfl, .of (by rw [← truths h3 q]; exact h1), W.ok hw2 rm _ rfl⟩
  | _ => rw [ep] at hz; cases hz
/-! ### defs -/
/-- what the def f promises -/
def spF (g : G) (na : Nat) (call : List PV → M PV) : Sp := fun vs H Q _ => vs.length = na ∧ ∃ F mu m xs, RelM g.K g.CA F mu m H ∧ Reps g.K g.CA F mu xs vs ∧ W g F mu H (call xs m) fun p m' F' mu' H' => ∀ v, Rep g.K g.CA F' mu' p v → Q v H'
theorem s_call {k f : Nat} {fa : Addr} {fd : FuncData} {ps : List Str} (FN : FnOk X.prog X.w X.K X.mg X.base CX0 k fa fd ps (spF g ps.length (D.call f))) (hr : Room k X.A) (hg : Gl X x) (hm : X.mg x = some (.ref fa)) (hk : PySem.W.keepIn X.K (.ref fa) = true)
    (hb : Binds X.K fd ps []) (hn : es.length = ps.length) (hdb : (x == ("__debug__" : Str)) = false) (hs : es.all nstar = true) (hpl : ces.plain = true) (ha : PA X es (tA g D ces)) (hl : ∀ env m xs m', evEs D ces env m = .ok xs m' → xs.length = es.length) :
    PE X (.Call (.Name x p) es [] pos) (tE g D (.call f ces)) := by
  have key : ∀ σ H Q, tE g D (.call f ces) σ H Q → tCall (spF g ps.length (D.call f)) [] E0 (tA g D ces) σ H Q := fun σ H Q h => by
    obtain ⟨F, mu, env, m, hE, hM, hw⟩ := h
    refine ⟨F, mu, env, m, hE, hM, ?_⟩
    have h1 := W.bind hw
    cases e : evEs D ces env m with
    | stuck => rw [e] at h1; exact h1.elim
    | exc z m1 => rw [e] at h1; exact h1.elim
    | ok qs m1 =>
      rw [e] at h1
      intro F1 mu1 H1 st rm vs hvs
      refine ⟨?_, F1, mu1, m1, qs, rm, ?_, h1 F1 mu1 H1 st rm⟩
      · rw [List.append_nil, hvs.length, hl _ _ _ _ e, hn]
      · rw [List.append_nil]; exact hvs
  cases es with
  | nil =>
    refine PE.conv (pe_call0 FN hr hg hm hk hb .nil pass0 hdb) fun σ H Q h => ?_
    have h2 := key σ H Q h
    obtain ⟨F, mu, env, m, hE, hM, hw⟩ := h2
    cases ces with
    | nil => exact W.ok hw hM [] rfl
    | cons c r =>
      cases e : evEs D (.cons c r) env m with
      | stuck => rw [e] at hw; exact hw.elim
      | exc z m1 => rw [e] at hw; exact hw.elim
      | ok qs m1 =>
        have h4 := hl env m qs m1 e
        exfalso
        simp only [evEs] at e
        cases e1 : evE D c env m with
        | stuck => rw [e1] at e; cases e
        | exc z m1 => rw [e1] at e; cases e
        | ok q m2 =>
          rw [e1] at e
          simp only [Out.bind] at e
          cases e2 : evEs D r env m2 with
          | stuck => rw [e2] at e; cases e
          | exc z m1 => rw [e2] at e; cases e
          | ok qs2 m3 =>
            rw [e2] at e
            cases e
            simp at h4
    | star c r => cases hpl
  | cons e es =>
    rw [List.all_cons, Bool.and_eq_true] at hs
    exact PE.conv (pe_call FN hr hg hm hk hb .nil pass0 ha hdb (starEach_cons hs.1) (starEach_any hs.2)) key
end
end Co

end P_CoreCall
section P_CoreBody
set_option Elab.async false
set_option linter.all false
set_option maxRecDepth 100000
set_option maxHeartbeats 2000000
/-! CoreBody: statements, defs. -/
namespace Co
open PySem PySem.Spec PyProof.Rows L2

/-- what is wanted behind a statement -/
def Post (g : G) (Dn : Ends) : Fl × Env → Mem → Hp → List Addr → Hp → Prop := fun r _ F mu H => match r.1 with
  | .nx => ∀ σ, EnvR g F mu r.2 σ → Dn.nx σ H
  | .rt v => ∀ x, Rep g.K g.CA F mu v x → Dn.rt x H
  | .bk => ∀ σ, EnvR g F mu r.2 σ → Dn.bk σ H
  | .ct => ∀ σ, EnvR g F mu r.2 σ → Dn.ct σ H
def tS (g : G) (D : Cl) (n : Nat) (c : CS) : TS := fun Dn σ H => ∃ F mu env m, EnvR g F mu env σ ∧ RelM g.K g.CA F mu m H ∧ W g F mu H (exS D n c env m) (Post g Dn)
def tSs (g : G) (D : Cl) (n : Nat) (c : CSs) : TS := fun Dn σ H => ∃ F mu env m, EnvR g F mu env σ ∧ RelM g.K g.CA F mu m H ∧ W g F mu H (exSs D n c env m) (Post g Dn)
section
variable {X : Cx} {g : G} {D : Cl} {n : Nat} {st : Stmt} {sts : List Stmt} {c : CS} {cs : CSs} {e tg iter test : Expr} {ce : CE} {cg : CG} {ct : CT} {ci : CI} {pos : Pos} {body b2 : List Stmt} {cb cb2 : CSs}
theorem ss_nil : PSs X [] (tSs g D n .nil) := PSs.conv pss_nil fun Dn σ H h => by
  obtain ⟨F, mu, env, m, hE, hM, hw⟩ := h
  exact W.ok hw hM σ hE
theorem ss_cons (h1 : PS X st (tS g D n c)) (h2 : PSs X sts (tSs g D n cs)) : PSs X (st :: sts) (tSs g D n (.cons c cs)) := PSs.conv (pss_cons h1 h2) fun Dn σ H h => by
  obtain ⟨F, mu, env, m, hE, hM, hw⟩ := h
  refine ⟨F, mu, env, m, hE, hM, (W.bind hw).mono fun r m1 F1 mu1 H1 st rm hw1 => ?_⟩
  obtain ⟨fl, env1⟩ := r
  cases fl with
  | nx => exact fun σ1 hE1 => ⟨F1, mu1, env1, m1, hE1, rm, hw1⟩
  | rt v => exact W.ok hw1 rm
  | bk => exact W.ok hw1 rm
  | ct => exact W.ok hw1 rm
theorem s_pass : PS X (.Pass pos) (tS g D n .pass) := PS.conv ps_pass fun Dn σ H h => by
  obtain ⟨F, mu, env, m, hE, hM, hw⟩ := h
  exact W.ok hw hM σ hE
theorem s_brk : PS X (.Break pos) (tS g D n .brk) := PS.conv ps_break fun Dn σ H h => by
  obtain ⟨F, mu, env, m, hE, hM, hw⟩ := h
  exact W.ok hw hM σ hE
theorem s_cont : PS X (.Continue pos) (tS g D n .cont) := PS.conv ps_continue fun Dn σ H h => by
  obtain ⟨F, mu, env, m, hE, hM, hw⟩ := h
  exact W.ok hw hM σ hE
/-- never come to -/
theorem s_bad : PS X st (tS g D n .bad) := PS.conv ps_never fun Dn σ H h => by
  obtain ⟨F, mu, env, m, hE, hM, hw⟩ := h
  exact hw
theorem s_ex (he : PE X e (tE g D ce)) (hs : swapsWith e none pos.line X.env = pure false) : PS X (.Expr e pos) (tS g D n (.ex ce)) := PS.conv (ps_expr he hs) fun Dn σ H h => by
  obtain ⟨F, mu, env, m, hE, hM, hw⟩ := h
  exact ⟨F, mu, env, m, hE, hM, (W.bind hw).mono fun p m1 F1 mu1 H1 st rm hw1 x hx => W.ok hw1 rm σ (hE.step st)⟩
theorem s_ret (he : PE X e (tE g D ce)) : PS X (.Return (some e) pos) (tS g D n (.ret ce)) := PS.conv (ps_ret he) fun Dn σ H h => by
  obtain ⟨F, mu, env, m, hE, hM, hw⟩ := h
  exact ⟨F, mu, env, m, hE, hM, (W.bind hw).mono fun p m1 F1 mu1 H1 st rm hw1 x hx => W.ok hw1 rm x hx⟩
theorem s_iff (hc : PT X test (tT g D ct)) (ha : PSs X body (tSs g D n cb)) (hb : PSs X b2 (tSs g D n cb2)) : PS X (.If test body b2 pos) (tS g D n (.iff ct cb cb2)) := PS.conv (ps_if hc ha hb) fun Dn σ H h => by
  obtain ⟨F, mu, env, m, hE, hM, hw⟩ := h
  refine ⟨F, mu, env, m, hE, hM, (W.bind hw).mono fun b m1 F1 mu1 H1 st rm hw1 => ?_⟩
  cases b with
  | true => exact ⟨F1, mu1, env, m1, hE.step st, rm, hw1⟩
  | false => exact ⟨F1, mu1, env, m1, hE.step st, rm, hw1⟩
/-- an assignment by its value, then its target -/
theorem asg_conv {σ : L2.St} {H : Hp} {Dn : Ends} (h : tS g D n (.asg cg ce) Dn σ H) : tAsg (tE g D ce) (tG g cg) Dn σ H := by
  obtain ⟨F, mu, env, m, hE, hM, hw⟩ := h
  refine ⟨F, mu, env, m, hE, hM, (W.bind hw).mono fun p m1 F1 mu1 H1 st rm hw1 x hx => ?_⟩
  cases q : setG cg p m1 env with
  | none => rw [q] at hw1; exact hw1.elim
  | some env' =>
    rw [q] at hw1
    exact ⟨F1, mu1, m1, env, p, hE.step st, rm, hx, env', q, fun σ' hE' _ => W.ok hw1 rm σ' hE'⟩
theorem s_set {i : Nat} {x : Str} {pos' : Pos} (hN : X.N.Nodup) (hi : X.N[i]? = some x) (hx : Loc X.env.scope x) (hf : X.fn x = true ∨ X.env.scope.names.lookup x = some .local) (he : PE X e (tE g D ce)) (hs : swapsWith e (some (.Name x pos')) pos.line X.env = pure false) :
    PS X (.Assign [.Name x pos'] e pos) (tS g D n (.asg (.v i) ce)) := PS.conv (ps_set hN hi hx he hs hf) fun Dn σ H h => by
  obtain ⟨F, mu, env, m, hE, hM, hw⟩ := h
  refine ⟨F, mu, env, m, hE, hM, (W.bind hw).mono fun p m1 F1 mu1 H1 st rm hw1 x hx => ?_⟩
  unfold setG at hw1
  by_cases hl : i < env.length
  · rw [if_pos hl] at hw1
    exact W.ok hw1 rm _ ((hE.step st).set hx)
  · rw [if_neg hl] at hw1
    exact hw1.elim
theorem s_asg (he : PE X e (tE g D ce)) (hg : PG X tg (tG g cg)) (hs : swapsWithSole [tg] e pos.line X.env = pure false) (hw : swappedStores [tg] e X.env = pure none) (h1 : (assignEach [tg] X.env).map (·.2) = [assign tg X.env]) :
    PS X (.Assign [tg] e pos) (tS g D n (.asg cg ce)) := PS.conv (ps_asg he hg hs hw h1) fun Dn σ H h => asg_conv h
/-- a comprehension stored on its line -/
theorem s_setLc {i : Nat} {y : Str} {py : Pos} {elt : Expr} {ifs : List Expr} {scope : Scope} {own : List (Str × Nat)} {spos : Pos} {w : Bool} (hc : X.calm = true) (hN : X.N.Nodup) (hy : X.N[i]? = some y) (hyl : X.env.scope.names.lookup y = some .local)
    (hsw : swapsWith (.ListComp elt [⟨tg, iter, ifs, 0⟩] scope pos) (some (.Name y py)) spos.line X.env = pure true) (hi : PI X tg iter (tI g D ci)) (ok : BlkOk X.N X.env.scope scope own) (hown : ∀ i ∈ gSlots cg, i ∈ own.map (·.2))
    (hg : ∀ (s : Shared) (H : Hp) (C : Addr) (cl : List (Str × Addr)) (fp : List Addr), PG (X.blk s H scope (compEnvC scope cl C X.env) fp) tg (tG g cg)) (ht : ∀ (s : Shared) (H : Hp) (C : Addr) (cl : List (Str × Addr)) (fp : List Addr), PTs (X.blk s H scope (compEnvC scope cl C X.env) fp) ifs (tT g D ct))
    (he : ∀ (s : Shared) (H : Hp) (C : Addr) (cl : List (Str × Addr)) (fp : List Addr), PE (X.blk s H scope (compEnvC scope cl C X.env) fp) elt (tE g D ce)) (hs : ∀ x, foldedSetIterable iter X.env x = pure x) :
    PS X (.Assign [.Name y py] (.ListComp elt [⟨tg, iter, ifs, 0⟩] scope pos) spos) (tS g D n (.asg (.v i) (wrapB w (.lc cg ci ct ce (own.map (·.2)))))) := by
  refine PS.conv (ps_setLc hc hN hy hyl hsw hi ok hg ht he hs) fun Dn σ H h => ?_
  show tLc (tI g D ci) (tG g cg) (tT g D ct) (tE g D ce) (own.map (·.2)) σ H _
  refine lc_step hown ?_
  obtain ⟨F, mu, env, m, hE, hM, hw⟩ := h
  refine ⟨F, mu, env, m, hE, hM, ?_⟩
  have h1 := W.bind hw
  cases w with
  | false =>
    refine (W.bind h1).mono fun ps m1 F1 mu1 H1 st rm hw1 vs q hvs hl hq => ?_
    obtain ⟨s, r, z⟩ := rep_new_lst rm hvs hl hq
    have hw2 := hw1 _ _ _ s r
    unfold setG at hw2
    by_cases hl : i < env.length
    · rw [if_pos hl] at hw2
      exact W.ok hw2 r _ (((hE.step st).step s).set z)
    · rw [if_neg hl] at hw2
      exact hw2.elim
  | true =>
    refine (W.bind h1).mono fun ps m1 F1 mu1 H1 st rm hw1 vs q hvs hl hq => ?_
    obtain ⟨s, r⟩ := cell_new (c := .lst ps) (o := .lst vs) rm hq ⟨vs, upd_same, hl, hvs⟩
    have hw2 := hw1 _ _ _ s r
    unfold setG at hw2
    by_cases hl : i < env.length
    · rw [if_pos hl] at hw2
      exact W.ok hw2 r _ (((hE.step st).step s).set (p := .ref m1.length) ⟨q, rfl, by rw [← rm.len]; simp⟩)
    · rw [if_neg hl] at hw2
      exact hw2.elim
/-! ### loops -/
theorem s_for (hp : PassesOwn (model X.prog X.w) X.A X.env X.xe) (hc : X.calm = true) (hi : PI X tg iter (tI g D ci)) (hg : PG X tg (tG g cg)) (hb : PSs X body (tSs g D n cb)) (hs : ∀ x, foldedSetIterable iter X.env x = pure x) :
    PS X (.For tg iter body [] pos) (tS g D n (.forr cg ci cb)) := PS.conv (ps_for hp hc hi hg hb hs) fun Dn σ H h => by
  obtain ⟨F, mu, env, m, hE, hM, hw⟩ := h
  refine ⟨F, mu, env, m, hE, hM, (W.bind hw).mono fun s m1 F1 mu1 H1 st rm hw1 J hJ => ?_⟩
  generalize hf : (fun (x : PV) (m : Mem) (env : Env) => match setG cg x m env with
    | some env' => exSs D n cb env' m
    | none => (.stuck : Out (Fl × Env))) = f at hw1
  refine ⟨fun i mm σ H => ∃ F2 mu2 m2 env2, (∀ (a : Addr) (o : HO), F1 a = some o → F2 a = some o) ∧ (∀ (n : Nat) (a : Addr), mu1[n]? = some a → mu2[n]? = some a) ∧ EnvR g F2 mu2 env2 σ ∧ RelM g.K g.CA F2 mu2 m2 H ∧ W g F2 mu2 H (forL f s mm i env2 m2) (Post g Dn),
    ⟨srcFuel s, F1, mu1, m1, env, fun _ _ h => h, fun _ _ h => h, hE.step st, rm, hw1⟩, ?_⟩
  rintro i mm σ H ⟨F2, mu2, m2, env2, fF, fm, hE2, rm2, hw2⟩
  have item := hJ F2 mu2 m2 H fF fm rm2 i
  cases mm with
  | zero => exact hw2.elim
  | succ mm =>
  simp only [forL] at hw2
  cases hx : srcAt s m2 i with
  | none => rw [hx] at hw2; exact hw2.elim
  | some o =>
  rw [hx] at hw2
  cases o with
  | some q =>
    obtain ⟨hil, hgo, hy⟩ := item.1 _ hx
    refine .inr ⟨hgo, fun σ H => ∃ F2 mu2 m2 env2, (∀ (a : Addr) (o : HO), F1 a = some o → F2 a = some o) ∧ (∀ (n : Nat) (a : Addr), mu1[n]? = some a → mu2[n]? = some a) ∧ EnvR g F2 mu2 env2 σ ∧ RelM g.K g.CA F2 mu2 m2 H ∧ W g F2 mu2 H (forL f s mm (i + 1) env2 m2) (Post g Dn),
      fun σ' H' hn => ⟨mm, by omega, hn⟩, fun x H' hyl => ?_⟩
    obtain ⟨F3, st3, rm3, hr3⟩ := hy x H' hyl
    have hw3 := W.bind (W.shift hw2 st3)
    have hE3 := hE2.step st3
    rw [← hf] at hw3
    dsimp only at hw3
    cases es : setG cg q m2 env2 with
    | none => rw [es] at hw3; exact hw3.elim
    | some env' =>
      rw [es] at hw3
      dsimp only at hw3
      refine ⟨F3, mu2, m2, env2, q, hE3, rm3, hr3, env', es, fun σ' hE' _ => ?_⟩
      refine ⟨F3, mu2, env', m2, hE', rm3, hw3.mono fun r m4 F4 mu4 H4 st4 rm4 hw4 => ?_⟩
      rw [hf] at hw4
      obtain ⟨fl, env4⟩ := r
      have go : ∀ σ4, EnvR g F4 mu4 env4 σ4 → W g F4 mu4 H4 (forL f s mm (i + 1) env4 m4) (Post g Dn) → (∃ F2 mu2 m2 env2, (∀ (a : Addr) (o : HO), F1 a = some o → F2 a = some o) ∧ (∀ (n : Nat) (a : Addr), mu1[n]? = some a → mu2[n]? = some a) ∧ EnvR g F2 mu2 env2 σ4 ∧ RelM g.K g.CA F2 mu2 m2 H4 ∧ W g F2 mu2 H4 (forL f s mm (i + 1) env2 m2) (Post g Dn)) := fun σ4 hE4 hw =>
        ⟨F4, mu4, m4, env4, fun a o h => st4.fF a o (st3.fF a o (fF a o h)), fun n a h => st4.fm n a (st3.fm n a (fm n a h)), hE4, rm4, hw⟩
      cases fl with
      | nx => exact fun σ4 hE4 => go σ4 hE4 hw4
      | ct => exact fun σ4 hE4 => go σ4 hE4 hw4
      | bk => exact W.ok hw4 rm4
      | rt v => exact W.ok hw4 rm4
  | none =>
    refine .inl ⟨item.2 hx, ?_⟩
    exact W.ok hw2 rm2 σ hE2
theorem s_whil (hp : PassesOwn (model X.prog X.w) X.A X.env X.xe) (hc : PT X test (tT g D ct)) (hb : PSs X body (tSs g D n cb)) : PS X (.While test body [] pos) (tS g D n (.whil ct cb)) := PS.conv (ps_while hp hc hb) fun Dn σ H h => by
  obtain ⟨F, mu, env, m, hE, hM, hw⟩ := h
  refine ⟨fun k σ H => ∃ F2 mu2 m2 env2, EnvR g F2 mu2 env2 σ ∧ RelM g.K g.CA F2 mu2 m2 H ∧ W g F2 mu2 H (whL (fun env m => evT D ct env m) (fun env m => exSs D n cb env m) k env2 m2) (Post g Dn), ⟨n, F, mu, m, env, hE, hM, hw⟩, ?_⟩
  rintro k σ H ⟨F2, mu2, m2, env2, hE2, rm2, hw2⟩
  cases k with
  | zero => exact hw2.elim
  | succ k =>
    refine ⟨F2, mu2, env2, m2, hE2, rm2, (W.bind hw2).mono fun b m3 F3 mu3 H3 st3 rm3 hw3 => ?_⟩
    cases b with
    | false =>
      rw [if_neg Bool.false_ne_true]
      exact W.ok hw3 rm3 σ (hE2.step st3)
    | true =>
      rw [if_pos rfl]
      refine ⟨fun σ H => ∃ F2 mu2 m2 env2, EnvR g F2 mu2 env2 σ ∧ RelM g.K g.CA F2 mu2 m2 H ∧ W g F2 mu2 H (whL (fun env m => evT D ct env m) (fun env m => exSs D n cb env m) k env2 m2) (Post g Dn), fun σ' H' hn => ⟨k, Nat.lt_succ_self k, hn⟩, F3, mu3, env2, m3, hE2.step st3, rm3, (W.bind hw3).mono fun r m4 F4 mu4 H4 st4 rm4 hw4 => ?_⟩
      obtain ⟨fl, env4⟩ := r
      cases fl with
      | nx => exact fun σ4 hE4 => ⟨F4, mu4, m4, env4, hE4, rm4, hw4⟩
      | ct => exact fun σ4 hE4 => ⟨F4, mu4, m4, env4, hE4, rm4, hw4⟩
      | bk => exact W.ok hw4 rm4
      | rt v => exact W.ok hw4 rm4
end
end Co

end P_CoreBody
section P_CoreFn
set_option Elab.async false
set_option linter.all false
set_option maxRecDepth 100000
set_option maxHeartbeats 2000000
/-! CoreFn: parallel stores; a def by its body; the table. -/
namespace Co
open PySem PySem.Spec PyProof.Rows L2
section
variable {X : Cx} {g : G} {D : Cl} {n : Nat} {pos : Pos}
theorem s_par {i j : Nat} {x y : Str} {a b : Expr} {ces : CEs} {px py pt : Pos} {kt k2 pt2} (hc : X.calm = true) (hN : X.N.Nodup) (hi : X.N[i]? = some x) (hj : X.N[j]? = some y) (hij : i ≠ j)
    (hx : X.env.scope.names.lookup x = some .local) (hy : X.env.scope.names.lookup y = some .local) (ha : PA X [a, b] (tA g D ces))
    (hw : swappedStores [.Tuple [.Name x px, .Name y py] kt pt] (.Tuple [a, b] k2 pt2) X.env = pure (some [x, y]))
    (hs : swapsWithSole [.Tuple [.Name x px, .Name y py] kt pt] (.Tuple [a, b] k2 pt2) pos.line X.env = pure false) :
    PS X (.Assign [.Tuple [.Name x px, .Name y py] kt pt] (.Tuple [a, b] k2 pt2) pos) (tS g D n (.asg (.t (.cons (.v i) (.cons (.v j) .nil))) (.tup ces))) := PS.conv (ps_par hc hN hi hj hij hx hy ha hw hs) fun Dn σ H h => by
  obtain ⟨F, mu, env, m, hE, hM, hw⟩ := h
  have h1 := W.bind hw
  refine ⟨F, mu, env, m, hE, hM, (W.bind h1).mono fun ps m1 F1 mu1 H1 st rm hw1 vs hvs => ?_⟩
  obtain ⟨hl, hw2⟩ := W.ck hw1
  have hw3 := W.ok hw2 rm
  have hE1 := hE.step st
  cases q : setG (.t (.cons (.v i) (.cons (.v j) .nil))) (.tup ps) m1 env with
  | none => rw [q] at hw3; exact hw3.elim
  | some env' =>
    rw [q] at hw3
    simp only [setG, vw] at q
    cases ps with
    | nil => cases q
    | cons p ps =>
      cases ps with
      | nil =>
        simp only [setGs, setG] at q
        split at q <;> cases q
      | cons p2 ps =>
        cases ps with
        | cons _ _ =>
          simp only [setGs, setG] at q
          split at q
          · rename_i q1
            split at q1
            · cases q1
              split at q <;> cases q
            · cases q1
          · cases q
        | nil =>
          obtain ⟨v, r, rfl, hv, v2, r2, rfl, hv2, hr⟩ := hvs
          cases hr
          refine ⟨v, v2, rfl, ?_⟩
          simp only [setGs, setG] at q
          split at q
          · rename_i q1
            split at q1
            · cases q1
              split at q
              · rename_i q2
                split at q2
                · cases q2
                  cases q
                  exact W.ok hw3 rm _ ((hE1.set hv).set hv2)
                · cases q2
              · cases q
            · cases q1
          · cases q
end
/-! ### a def -/
section
variable {P : Program} {w : World} {mg : Str → Option Value} {base : Heap} {g : G}
/-- the start of a def's names -/
theorem start_env {F : Hp} {mu : List Addr} {xs : List PV} {vs : List V} {N : List Str} (h : Reps g.K g.CA F mu xs vs) (hl : vs.length ≤ N.length) : EnvR g F mu (xs.map some ++ List.replicate (N.length - xs.length) none) (L2.start N vs) := by
  have hlen := h.length
  refine ⟨by unfold L2.start; simp; omega, fun i p hp => ?_⟩
  by_cases hi : i < xs.length
  · rw [List.getElem?_append_left (by simpa using hi), List.getElem?_map] at hp
    cases e : xs[i]? with
    | none => rw [e] at hp; cases hp
    | some q =>
      rw [e] at hp
      cases hp
      obtain ⟨v, h1, h2⟩ := h.get e
      refine ⟨v, ?_, h2⟩
      unfold L2.start
      rw [List.getElem?_append_left (by simp; omega), List.getElem?_map, h1]
      rfl
  · rw [List.getElem?_append_right (by simpa using Nat.le_of_not_lt hi), List.getElem?_replicate] at hp
    split at hp <;> cases hp
theorem fn_ok {k n : Nat} {x qual : Str} {params : Arguments} {body : List Stmt} {scope : Scope} {dvs : List V} {kws : List (Str × V)} {f : Addr} {fd : FuncData} {N ps : List Str} {cb : CSs} {D : Cl} {call : List PV → M PV} (F : FunD g.K x qual params body scope dvs kws f fd) (S : FnScope N ps scope)
    (hcall : ∀ xs m, xs.length = ps.length → call xs m = (exSs D n cb (xs.map some ++ List.replicate (N.length - xs.length) none) m).bind fun p m1 => match p.1 with
      | .rt v => .ok v m1
      | .nx => .ok .non m1
      | _ => .stuck)
    (hb : ∀ (X : Cx), X.prog = P → X.w = w → X.K = g.K → X.mg = mg → X.base = base → X.calm = true → X.N = N → X.env.scope = scope → X.fn = (fun _ => true) → X.xe = (fun _ _ => False) → Room k X.A → PSs X body (tSs g D n cb)) :
    FnOk P w g.K mg base CX0 (k + 1) f fd ps (spF g ps.length call) := by
  refine F.ok S (fun vs H Q E h => h.1) fun cdv A outer s H vs Q E hr h => ?_
  refine ⟨tSs g D n cb, PSs.nox (hb (cxOf CX0 P w g.K mg base N qual scope f cdv A outer s H E).nox rfl rfl rfl rfl rfl rfl rfl rfl rfl rfl hr), ?_⟩
  obtain ⟨hl, F1, mu, m, xs, hM, hxs, hw⟩ := h
  have hpl : ps.length ≤ N.length := by
    have := congrArg List.length S.pre
    rw [List.length_take] at this
    omega
  have hxl := hxs.length
  rw [hcall xs m (by omega)] at hw
  refine ⟨F1, mu, _, m, start_env hxs (by omega), hM, (W.bind hw).mono fun r m1 F2 mu2 H2 st rm hw1 => ?_⟩
  obtain ⟨fl, env⟩ := r
  cases fl with
  | rt v => exact W.ok hw1 rm
  | nx => exact fun σ hE => W.ok hw1 rm _ rfl
  | bk => exact hw1.elim
  | ct => exact hw1.elim
end
end Co

end P_CoreFn
section P_CoreSort
set_option Elab.async false
set_option linter.all false
set_option maxRecDepth 100000
set_option maxHeartbeats 2000000
/-! CoreSort: texts in order, once. -/
namespace Co
open PySem PySem.Spec PyProof.Rows L2
theorem lt_asymm : ∀ (a b : List Nat), ltCps a b = true → ltCps b a = false
  | [], [], h => by cases h
  | [], _ :: _, _ => rfl
  | _ :: _, [], h => by cases h
  | a :: r, b :: t, h => by
    simp only [ltCps, Bool.or_eq_true, Bool.and_eq_true, decide_eq_true_eq, beq_iff_eq] at h
    simp only [ltCps, Bool.or_eq_false_iff, Bool.and_eq_false_iff, decide_eq_false_iff_not]
    rcases h with h | ⟨rfl, h⟩
    · exact ⟨by omega, .inl (by simpa using (by omega : ¬ b = a))⟩
    · exact ⟨by omega, .inr (lt_asymm r t h)⟩
theorem lt_eq : ∀ (a b : List Nat), ltCps a b = false → ltCps b a = false → a = b
  | [], [], _, _ => rfl
  | [], _ :: _, h, _ => by cases h
  | _ :: _, [], _, h => by cases h
  | a :: r, b :: t, h, g => by
    simp only [ltCps, Bool.or_eq_false_iff, Bool.and_eq_false_iff, decide_eq_false_iff_not] at h g
    have e : a = b := by omega
    subst e
    rw [lt_eq r t (by rcases h.2 with q | q; simp at q; exact q) (by rcases g.2 with q | q; simp at q; exact q)]
theorem lt_trans : ∀ (a b c : List Nat), ltCps a b = true → ltCps b c = true → ltCps a c = true
  | [], [], _, h, _ => by cases h
  | [], _ :: _, [], _, h => by cases h
  | [], _ :: _, _ :: _, _, _ => rfl
  | _ :: _, [], _, h, _ => by cases h
  | _ :: _, _ :: _, [], _, h => by cases h
  | a :: r, b :: t, c :: u, h, g => by
    simp only [ltCps, Bool.or_eq_true, Bool.and_eq_true, decide_eq_true_eq, beq_iff_eq] at h g ⊢
    rcases h with h | ⟨rfl, h⟩ <;> rcases g with g | ⟨rfl, g⟩
    · exact .inl (by omega)
    · exact .inl h
    · exact .inl g
    · exact .inr ⟨rfl, lt_trans r t u h g⟩
/-- x stands no later than y -/
def leS (x y : Str) : Prop := ltCps y.cps.toList x.cps.toList = false
theorem str_ext {x y : Str} (h : x.cps.toList = y.cps.toList) : x = y := by
  cases x; cases y; congr; exact Array.ext' h
theorem leS_anti {x y : Str} (h : leS x y) (g : leS y x) : x = y := str_ext (lt_eq _ _ g h)
theorem leS_trans {x y z : Str} (h : leS x y) (g : leS y z) : leS x z := by
  unfold leS at *
  cases e : ltCps z.cps.toList x.cps.toList with
  | false => rfl
  | true =>
    -- y ≤ z < x ≤ y
    cases e2 : ltCps x.cps.toList y.cps.toList with
    | true =>
      have := lt_trans _ _ _ e e2
      rw [this] at g; cases g
    | false =>
      have := lt_eq _ _ e2 h
      rw [← this, e] at g
      cases g
theorem leS_total (x y : Str) : leS x y ∨ leS y x := by
  unfold leS
  cases e : ltCps y.cps.toList x.cps.toList with
  | false => exact .inl rfl
  | true => exact .inr (lt_asymm _ _ e)
theorem strLt_eq (x y : Str) : strLt x y = ltCps x.cps.toList y.cps.toList := lt_meets x y
theorem insS_mem {x z : Str} : ∀ {l : List Str}, z ∈ insS x l → z = x ∨ z ∈ l
  | [], h => by simpa [insS] using h
  | y :: ys, h => by
    simp only [insS] at h
    split at h
    · rcases List.mem_cons.mp h with h | h
      · exact .inr (by rw [h]; exact List.mem_cons_self)
      · rcases insS_mem h with h | h
        · exact .inl h
        · exact .inr (List.mem_cons_of_mem _ h)
    · rcases List.mem_cons.mp h with h | h
      · exact .inl h
      · exact .inr h
theorem insS_perm (x : Str) : ∀ l : List Str, (insS x l).Perm (x :: l)
  | [] => .refl _
  | y :: ys => by
    simp only [insS]
    split
    · exact ((insS_perm x ys).cons y).trans (.swap ..)
    · exact .refl _
theorem srtS_perm : ∀ l : List Str, (srtS l).Perm l
  | [] => .refl _
  | x :: xs => (insS_perm x (srtS xs)).trans ((srtS_perm xs).cons x)
theorem insS_sorted (x : Str) : ∀ l : List Str, l.Pairwise leS → (insS x l).Pairwise leS
  | [], _ => by simp [insS]
  | y :: ys, h => by
    simp only [insS]
    obtain ⟨h1, h2⟩ := List.pairwise_cons.mp h
    split
    · rename_i e
      rw [strLt_eq] at e
      refine List.pairwise_cons.mpr ⟨fun z hz => ?_, insS_sorted x ys h2⟩
      rcases insS_mem hz with rfl | hz
      · exact lt_asymm _ _ e
      · exact h1 z hz
    · rename_i e
      rw [strLt_eq] at e
      refine List.pairwise_cons.mpr ⟨fun z hz => ?_, h⟩
      rcases List.mem_cons.mp hz with rfl | hz
      · exact e
      · exact leS_trans e (h1 z hz)
theorem srtS_sorted : ∀ l : List Str, (srtS l).Pairwise leS
  | [] => .nil
  | x :: xs => insS_sorted x _ (srtS_sorted xs)
theorem rising_pair : ∀ (l : List Str) (p : Str), risingS p l = true → (p :: l).Pairwise leS
  | [], p, _ => by simp
  | x :: r, p, h => by
    simp only [risingS, Bool.and_eq_true] at h
    have ih := rising_pair r x h.2
    have hp : leS p x := by
      unfold leS
      simpa using h.1
    refine List.pairwise_cons.mpr ⟨fun z hz => ?_, ih⟩
    rcases List.mem_cons.mp hz with rfl | hz
    · exact hp
    · exact leS_trans hp ((List.pairwise_cons.mp ih).1 z hz)
theorem sorted_pair : ∀ (l : List Str), sortedS l = true → l.Pairwise leS
  | [], _ => .nil
  | x :: r, h => rising_pair r x h
theorem pair_one : ∀ {a b : List Str}, a.Perm b → a.Pairwise leS → b.Pairwise leS → a = b
  | [], b, h, _, _ => (List.nil_perm.mp h).symm
  | x :: a, [], h, _, _ => by simpa using h.length_eq
  | x :: a, y :: b, h, ha, hb => by
    obtain ⟨a1, a2⟩ := List.pairwise_cons.mp ha
    obtain ⟨b1, b2⟩ := List.pairwise_cons.mp hb
    have hxy : leS x y := by
      rcases List.mem_cons.mp (h.symm.subset List.mem_cons_self) with e | e
      · rw [e]; exact (leS_total x x).elim id id
      · exact a1 y e
    have hyx : leS y x := by
      rcases List.mem_cons.mp (h.subset List.mem_cons_self) with e | e
      · rw [e]; exact (leS_total y y).elim id id
      · exact b1 x e
    have e := leS_anti hxy hyx
    subst e
    rw [pair_one (h.cons_inv) a2 b2]
theorem sort_one {xs ys : List Str} (hp : ys.Perm xs) (hs : sortedS ys = true) : ys = srtS xs := pair_one (hp.trans (srtS_perm xs).symm) (sorted_pair ys hs) (srtS_sorted xs)
end Co

end P_CoreSort
section P_CoreMore
set_option Elab.async false
set_option linter.all false
set_option maxRecDepth 100000
set_option maxHeartbeats 2000000
/-! CoreMore: cells that change, slices, methods of lists and texts, sorted, what else is walked. -/
namespace Co
open PySem PySem.Spec PyProof.Rows L2

section
variable {g : G} {F : Hp} {mu : List Addr} {H : Hp} {m : Mem}
theorem cell_set {a : Addr} {o : HO} {n : Nat} {c : Cell} (r : RelM g.K g.CA F mu m H) (hn : mu[n]? = some a) (hc : CellR g.K g.CA F (mu.take n) (upd H a o) a c) :
    St2 F mu H F mu (upd H a o) ∧ RelM g.K g.CA F mu (m.set n c) (upd H a o) := by
  have hF := r.mem_off hn
  have hm : a ∈ mu := List.mem_of_getElem? hn
  refine ⟨⟨fun _ _ h => h, fun _ _ h => h, fun b u h hb => ?_, fun b h => ?_, fun b u h => .inl h, fun b h => .inl h⟩, ⟨fun b u h => ?_, by rw [List.length_set]; exact r.len, r.nd, r.off, fun k d h => ?_⟩⟩
  · rw [upd_ne (fun e => hb (by rw [e]; exact hm))]; exact h
  · by_cases e : b = a
    · subst e; rw [upd_same]; simp
    · rw [upd_ne e]; exact h
  · have e : b ≠ a := fun e => by rw [e, hF] at h; cases h
    rw [upd_ne e]
    exact r.fr b u h
  · by_cases hk : n = k
    · subst hk
      have hl : n < m.length := by rw [← r.len]; exact (List.getElem?_eq_some_iff.mp hn).1
      rw [List.getElem?_set_self hl] at h
      cases h
      exact ⟨a, hn, hc⟩
    · rw [List.getElem?_set_ne hk] at h
      obtain ⟨b, e, hd⟩ := r.cells k d h
      have ne : b ≠ a := fun z => by
        subst z
        obtain ⟨h1, e1⟩ := List.getElem?_eq_some_iff.mp hn
        obtain ⟨h2, e2⟩ := List.getElem?_eq_some_iff.mp e
        exact hk ((List.getElem_inj r.nd).mp (e1.trans e2.symm))
      exact ⟨b, e, hd.mono (fun _ _ h => h) (fun _ _ h => h) fun u hu => by rw [upd_ne ne]; exact hu⟩
mutual
theorem rep_below {n : Nat} : ∀ (p : PV) (v : V), Rep g.K g.CA F mu p v → below n p = true → Rep g.K g.CA F (mu.take n) p v
  | .non, _, h, _ | .bl _, _, h, _ | .int _, _, h, _ | .str _, _, h, _ | .cls _, _, h, _ => h
  | .tup xs, v, h, b => by
    obtain ⟨a, vs, e, h1, h2, h3⟩ := h
    exact ⟨a, vs, e, h1, h2, reps_below xs vs h3 b⟩
  | .lst xs, v, h, b => by
    obtain ⟨a, vs, e, h1, h2, h3⟩ := h
    exact ⟨a, vs, e, h1, h2, reps_below xs vs h3 b⟩
  | .dic ks xs, v, h, b => by
    obtain ⟨a, vs, e, h1, h2, h3, h4⟩ := h
    exact ⟨a, vs, e, h1, h2, h3, reps_below xs vs h4 b⟩
  | .obj c ns xs, v, h, b => by
    obtain ⟨a, dx, vs, e, h1, h2, h3⟩ := h
    exact ⟨a, dx, vs, e, h1, h2, reps_below xs vs h3 b⟩
  | .ref k, v, h, b => by
    obtain ⟨a, e, h1⟩ := h
    have hk : k < n := of_decide_eq_true b
    exact ⟨a, e, by rw [List.getElem?_take, if_pos hk]; exact h1⟩
  | .scr ns, v, h, _ => h
theorem reps_below {n : Nat} : ∀ (ps : List PV) (vs : List V), Reps g.K g.CA F mu ps vs → belows n ps = true → Reps g.K g.CA F (mu.take n) ps vs
  | [], _, h, _ => h
  | p :: ps, vs, h, b => by
    obtain ⟨v, r, e, h1, h2⟩ := h
    have b2 := Bool.and_eq_true_iff.mp (show (below n p && belows n ps) = true from b)
    exact ⟨v, r, e, rep_below p v h1 b2.1, reps_below ps r h2 b2.2⟩
end
theorem Reps.drop : ∀ {ps : List PV} {vs : List V} (n : Nat), Reps g.K g.CA F mu ps vs → Reps g.K g.CA F mu (ps.drop n) (vs.drop n)
  | _, _, 0, h => h
  | [], _, n + 1, h => by rw [show _ = _ from h]; rfl
  | p :: ps, _, n + 1, h => by
    obtain ⟨v, r, rfl, h1, h2⟩ := h
    exact Reps.drop n h2
theorem Reps.take : ∀ {ps : List PV} {vs : List V} (n : Nat), Reps g.K g.CA F mu ps vs → Reps g.K g.CA F mu (ps.take n) (vs.take n)
  | _, _, 0, h => rfl
  | [], _, n + 1, h => by rw [show _ = _ from h]; rfl
  | p :: ps, _, n + 1, h => by
    obtain ⟨v, r, rfl, h1, h2⟩ := h
    exact ⟨v, r.take n, rfl, h1, Reps.take n h2⟩
theorem Reps.cut {ps : List PV} {vs : List V} (h : Reps g.K g.CA F mu ps vs) (lo hi : Option Int) : Reps g.K g.CA F mu (cutP ps lo hi) (cutV vs lo hi) := by
  unfold cutP cutV
  rw [h.length]
  exact (h.drop _).take _
theorem Reps.rev : ∀ {ps : List PV} {vs : List V}, Reps g.K g.CA F mu ps vs → Reps g.K g.CA F mu ps.reverse vs.reverse
  | [], _, h => by rw [show _ = _ from h]; rfl
  | p :: ps, _, h => by
    obtain ⟨v, r, rfl, h1, h2⟩ := h
    rw [List.reverse_cons, List.reverse_cons]
    exact Reps.append h2.rev ⟨v, [], rfl, h1, rfl⟩
theorem Reps.erase : ∀ {ps : List PV} {vs : List V} (n : Nat), Reps g.K g.CA F mu ps vs → Reps g.K g.CA F mu (ps.eraseIdx n) (vs.eraseIdx n)
  | [], _, _, h => by rw [show _ = _ from h]; rfl
  | p :: ps, _, 0, h => by
    obtain ⟨v, r, rfl, h1, h2⟩ := h
    exact h2
  | p :: ps, _, n + 1, h => by
    obtain ⟨v, r, rfl, h1, h2⟩ := h
    exact ⟨v, r.eraseIdx n, rfl, h1, Reps.erase n h2⟩
theorem Reps.setAt : ∀ {ps : List PV} {vs : List V} (n : Nat) {q : PV} {x : V}, Reps g.K g.CA F mu ps vs → Rep g.K g.CA F mu q x → Reps g.K g.CA F mu (ps.set n q) (vs.set n x)
  | [], _, _, _, _, h, _ => by rw [show _ = _ from h]; rfl
  | p :: ps, _, 0, _, _, h, hq => by
    obtain ⟨v, r, rfl, h1, h2⟩ := h
    exact ⟨_, r, rfl, hq, h2⟩
  | p :: ps, _, n + 1, _, _, h, hq => by
    obtain ⟨v, r, rfl, h1, h2⟩ := h
    exact ⟨v, _, rfl, h1, Reps.setAt n h2 hq⟩
theorem cutP_len {α : Type} (xs : List α) (lo hi : Option Int) : (cutP xs lo hi).length ≤ xs.length := by
  unfold cutP
  rw [List.length_take, List.length_drop]
  omega
theorem cut_map (ns : List Int) (lo hi : Option Int) : cutV (ns.map V.int) lo hi = (cutP ns lo hi).map V.int := by
  unfold cutP cutV
  rw [List.length_map, ← List.map_drop, ← List.map_take]
end
def ab0 : Expr → Bool
  | .Call (.Name _ _) [] [] _ => false
  | _ => true
theorem ab_of {o : Expr} {f : Str} {env : PySem.Env} {w : Sem Value} (h : ab0 o = true) : attributeBase o f env w = w := by
  cases o with
  | Call fn as ks p =>
    cases fn with
    | Name x q =>
      cases as with
      | nil =>
        cases ks with
        | nil => cases h
        | cons _ _ => rfl
      | cons _ _ => rfl
    | _ => rfl
  | _ => rfl
section
variable {X : Cx} {g : G} {D : Cl} {a b o e : Expr} {ca cb : CE} {pos apos cpos : Pos} {clo chi : CEs} {lo hi : Option Expr}
/-- a slice's end -/
def tO (g : G) (D : Cl) (c : CEs) : TO := fun σ H Q => ∃ F mu env m, EnvR g F mu env σ ∧ RelM g.K g.CA F mu m H ∧ W g F mu H (evEs D c env m) fun ps m' F' mu' H' => ∃ z, partO ps = some z ∧ Q z H'
theorem PO.conv {e : Option Expr} {t t' : TO} (h : PO X e t) (k : ∀ σ H Q, t' σ H Q → t σ H Q) : PO X e t' := ⟨fun pins s σ H Q I q => h.run pins s σ H Q I (k σ H Q q)⟩
theorem so_none : PO X none (tO g D .nil) := PO.conv po_none fun σ H Q h => by
  obtain ⟨F, mu, env, m, hE, hM, hw⟩ := h
  obtain ⟨z, hz, hq⟩ := W.ok hw hM
  cases hz
  exact hq
theorem so_some (h : PE X e (tE g D ca)) : PO X (some e) (tO g D (.cons ca .nil)) := PO.conv (po_some h) fun σ H Q h => by
  obtain ⟨F, mu, env, m, hE, hM, hw⟩ := h
  refine ⟨F, mu, env, m, hE, hM, (W.bind hw).mono fun p m1 F1 mu1 H1 st rm hw1 x hx => ?_⟩
  obtain ⟨z, hz, hq⟩ := W.ok hw1 rm
  cases p with
  | int i => cases hz; exact ⟨i, hx, hq⟩
  | _ => cases hz
theorem s_sl {p2 : Pos} (hK : X.K = g.K) (ha : PE X a (tE g D ca)) (hl : PO X lo (tO g D clo)) (hh : PO X hi (tO g D chi)) : PE X (.Subscript a (.Slice lo hi none p2) pos) (tE g D (.sl ca clo chi)) := by
  refine PE.conv (pe_slice (SlR.or sl_list (SlR.or sl_tupA sl_str)) ha hl hh) fun σ H Q h => ?_
  obtain ⟨F, mu, env, m, hE, hM, hw⟩ := h
  refine ⟨F, mu, env, m, hE, hM, (W.bind hw).mono fun p m1 F1 mu1 H1 st rm hw1 x hx => ?_⟩
  refine ⟨F1, mu1, env, m1, hE.step st, rm, (W.bind hw1).mono fun ls m2 F2 mu2 H2 st2 rm2 hw2 => ?_⟩
  obtain ⟨lo, e1, hw2b⟩ := W.of (W.bind hw2)
  have hw2c := W.ok hw2b rm2
  refine ⟨lo, e1, F2, mu2, env, m2, (hE.step st).step st2, rm2, (W.bind hw2c).mono fun hs m3 F3 mu3 H3 st3 rm3 hw3 => ?_⟩
  obtain ⟨hi, e2, hw3b⟩ := W.of (W.bind hw3)
  have hw3c := W.ok hw3b rm3
  refine ⟨hi, e2, ?_⟩
  obtain ⟨z, hz, hw4⟩ := W.of hw3c
  have hx3 := (hx.step st2).step st3
  have vx := view rm3 hx3
  rw [hK]
  unfold slop at hz
  cases ep : vw m3 p with
  | lst xs =>
    rw [ep] at hz vx
    cases hz
    obtain ⟨a, vs, rfl, h1, h2, h3⟩ := vx
    refine .inl ⟨a, vs, rfl, .of h1, fun q hq => ?_⟩
    obtain ⟨s, r, z⟩ := rep_new_lst rm3 (h3.cut lo hi) (Nat.le_trans (cutP_len _ _ _) h2) hq
    exact hw4 _ _ _ s r _ z
  | scr ns =>
    rw [ep] at hz vx
    cases hz
    obtain ⟨a, rfl, h1, h2⟩ := vx
    refine .inl ⟨a, _, rfl, h1, fun q hq => ?_⟩
    rw [cut_map]
    obtain ⟨s, r, z⟩ := rep_new_lst (ps := (cutP ns lo hi).map PV.int) rm3 (reps_ints _) (by rw [List.length_map]; exact Nat.le_trans (cutP_len _ _ _) h2) hq
    exact hw4 _ _ _ s r _ z
  | tup xs =>
    rw [ep] at hz
    cases hz
    have e3 := vw_tup ep
    subst e3
    obtain ⟨a, vs, rfl, h1, h2, h3⟩ := hx3
    refine .inr (.inl ⟨a, vs, rfl, fr_sqT rm3 h1, fun hwh => ?_, fun _ q hq => ?_⟩)
    · have : cutP xs lo hi = xs := by
        unfold cutP
        rw [← h3.length, hwh.1, hwh.2, List.drop_zero, Nat.sub_zero, h3.length, List.take_length]
      rw [this] at hw4
      exact W.ok hw4 rm3 _ ⟨a, vs, rfl, h1, h2, h3⟩
    · obtain ⟨s, r, z⟩ := rep_new_tup rm3 (h3.cut lo hi) (Nat.le_trans (cutP_len _ _ _) h2) hq
      exact hw4 _ _ _ s r _ z
  | str w =>
    rw [ep] at hz vx
    dsimp only at hz
    split at hz
    · cases hz
      exact .inr (.inr ⟨w, vx, by rw [sizeLine_eq]; omega, W.ok hw4 rm3 _ rfl⟩)
    · cases hz
  | _ => rw [ep] at hz; cases hz
theorem s_rev1 {k : Nat} {p1 p2 p3 : Pos} (hK : X.K = g.K) (ha : PE X a (tE g D ca)) : PE X (.Subscript a (.Slice none none (some (.UnaryOp .USub (.Constant (.int 1) k p1) p2)) p3) pos) (tE g D (.rev1 ca)) := by
  refine PE.conv (pe_revL ha) fun σ H Q h => ?_
  obtain ⟨F, mu, env, m, hE, hM, hw⟩ := h
  refine ⟨F, mu, env, m, hE, hM, (W.bind hw).mono fun p m1 F1 mu1 H1 st rm hw1 x hx => ?_⟩
  have vx := view rm hx
  rw [hK]
  cases ep : vw m1 p with
  | lst xs =>
    rw [ep] at hw1 vx
    obtain ⟨a, vs, rfl, h1, h2, h3⟩ := vx
    refine ⟨a, vs, rfl, .of h1, fun q hq => ?_⟩
    obtain ⟨s, r, z⟩ := rep_new_lst rm h3.rev (by rw [List.length_reverse]; exact h2) hq
    exact hw1 _ _ _ s r _ z
  | _ => rw [ep] at hw1; exact hw1.elim
/-! ### methods with one argument -/
theorem few1 {e : Expr} {env : PySem.Env} {cpos : Pos} (hs : nstar e = true) : ((backTo cpos (starEach [e] env)).all (fun x => !x.1) && (backToKw cpos (keywordEach [] env)).all (fun x => x.1.isSome)
      && decide (([e] : List Expr).length + ([] : List Keyword).length + (if ([] : List Keyword).isEmpty then 0 else 1) < 30)) = true := by
  rw [starEach_cons hs]
  rfl
/-- the second part, as the list of one -/
theorem one_arg {β : Type} {k : PV → Mem → Out β} {F : Hp} {mu : List Addr} {H : Hp} {env : Env} {m : Mem} {P : β → Mem → Hp → List Addr → Hp → Prop} {P' : List PV → Mem → Hp → List Addr → Hp → Prop} (h : W g F mu H ((evE D cb env m).bind k) P)
    (hP : ∀ q m1 F1 mu1 H1, St2 F mu H F1 mu1 H1 → RelM g.K g.CA F1 mu1 m1 H1 → W g F1 mu1 H1 (k q m1) P → P' [q] m1 F1 mu1 H1) : W g F mu H (evEs D (.cons cb .nil) env m) P' := by
  have h1 := W.bind h
  simp only [evEs]
  cases e : evE D cb env m with
  | stuck => rw [e] at h1; exact h1.elim
  | exc z m1 => rw [e] at h1; exact h1.elim
  | ok q m1 =>
    rw [e] at h1
    exact fun F1 mu1 H1 st rm => hP q m1 F1 mu1 H1 st rm (h1 F1 mu1 H1 st rm)
theorem two_arg {β : Type} {k : PV → PV → Mem → Out β} {F : Hp} {mu : List Addr} {H : Hp} {env : Env} {m : Mem} {P : β → Mem → Hp → List Addr → Hp → Prop} {P' : List PV → Mem → Hp → List Addr → Hp → Prop} (h : W g F mu H ((evE D ca env m).bind fun x m1 => (evE D cb env m1).bind fun y m2 => k x y m2) P)
    (hP : ∀ p q m1 F1 mu1 H1, RelM g.K g.CA F1 mu1 m1 H1 → W g F1 mu1 H1 (k p q m1) P → P' [p, q] m1 F1 mu1 H1) : W g F mu H (evEs D (.cons ca (.cons cb .nil)) env m) P' := by
  simp only [evEs]
  cases e : evE D ca env m with
  | stuck => rw [e] at h; exact h.elim
  | exc z m1 => rw [e] at h; exact h.elim
  | ok x m1 =>
    rw [e] at h
    simp only [Out.bind] at h ⊢
    cases e2 : evE D cb env m1 with
    | stuck => rw [e2] at h; exact h.elim
    | exc z m1 => rw [e2] at h; exact h.elim
    | ok y m2 =>
      rw [e2] at h
      exact fun F1 mu1 H1 st rm => hP x y m2 F1 mu1 H1 rm (W.shift h st)
/-- what a method does, by values -/
def M1R (g : G) (k : M1k) (r : V → List V → Hp → VK → Prop) : Prop := ∀ F mu H m x y p q Q', RelM g.K g.CA F mu m H → Rep g.K g.CA F mu p x → Rep g.K g.CA F mu q y → (W g F mu H (m1O k p q m) fun p m' F' mu' H' => ∀ v, Rep g.K g.CA F' mu' p v → Q' v H') → r x [y] H Q'
theorem s_ml {T id : String} {name : Str} {r : V → List V → Hp → VK → Prop} {k : M1k} (pa : PlainAttrs T) (slot : Slot T name id) (hty : typeOf (.builtin id) = pure (.type "method_descriptor")) (hm : MtR X id r) (ho : PE X a (tE g D ca)) (he : PE X b (tE g D cb))
    (h0 : ab0 a = true) (hs : nstar b = true) (hline : (apos.endLine == cpos.line) = true)
    (hT : ∀ F mu H m p x, RelM g.K g.CA F mu m H → Rep g.K g.CA F mu p x → recOk k m p = true → tyV X.K T x H) (hop : M1R g k r) : PE X (.Call (.Attribute a name apos) [b] [] cpos) (tE g D (.m1 k ca cb)) := by
  refine PE.conv (pe_bm pa slot hty hm ho (sa_cons' hs he sa_nil) (ab_of h0) (few1 hs) hline (starEach_cons hs) rfl) fun σ H Q h => ?_
  obtain ⟨F, mu, env, m, hE, hM, hw⟩ := h
  refine ⟨F, mu, env, m, hE, hM, (W.bind hw).mono fun p m1 F1 mu1 H1 st rm hw1 x hx => ?_⟩
  obtain ⟨hk, hw2⟩ := W.ck hw1
  refine ⟨hT F1 mu1 H1 m1 p x rm hx hk, F1, mu1, env, m1, hE.step st, rm, one_arg hw2 fun q m2 F2 mu2 H2 st2 rm2 hw3 vs hvs => ?_⟩
  obtain ⟨y, r', rfl, hy, hr⟩ := hvs
  cases hr
  exact hop F2 mu2 H2 m2 x y p q Q rm2 (hx.step st2) hy hw3
theorem s_mt {name : Str} {r : V → List V → Hp → VK → Prop} {k : M1k} (hpe : PE X (.Call (.Attribute a name apos) [b] [] cpos) (tM1 r (tE g D ca) (tE g D cb)))
    (hT : ∀ m p, recOk k m p = true → ∃ s, p = .str s) (hop : M1R g k r) : PE X (.Call (.Attribute a name apos) [b] [] cpos) (tE g D (.m1 k ca cb)) := by
  refine PE.conv hpe fun σ H Q h => ?_
  obtain ⟨F, mu, env, m, hE, hM, hw⟩ := h
  refine ⟨F, mu, env, m, hE, hM, (W.bind hw).mono fun p m1 F1 mu1 H1 st rm hw1 x hx => ?_⟩
  obtain ⟨hk, hw2⟩ := W.ck hw1
  obtain ⟨s, rfl⟩ := hT m1 p hk
  refine ⟨⟨s, hx⟩, F1, mu1, env, m1, hE.step st, rm, (W.bind hw2).mono fun q m2 F2 mu2 H2 st2 rm2 hw3 y hy => ?_⟩
  exact hop F2 mu2 H2 m2 x y _ q Q rm2 (hx.step st2) hy hw3
theorem rec_list {F : Hp} {mu : List Addr} {H : Hp} {m : Mem} {p : PV} {x : V} {k : M1k} {K : PySem.W.Frag} (hk : k = .append ∨ k = .popi ∨ k = .extend) (rm : RelM g.K g.CA F mu m H) (hx : Rep g.K g.CA F mu p x) (h : recOk k m p = true) : tyV K "list" x H := by
  have h2 : recOk .append m p = true := by rcases hk with rfl | rfl | rfl <;> exact h
  simp only [recOk] at h2
  cases p with
  | ref n =>
    dsimp only at h2
    split at h2
    · rename_i xs e
      obtain ⟨a, rfl, h1⟩ := hx
      obtain ⟨b, hb, vs, k1, k2, k3⟩ := rm.cells n _ e
      rw [h1] at hb
      cases hb
      exact .inl ⟨rfl, vs, .of k1⟩
    · cases h2
  | _ => cases h2
theorem m1_append : M1R g .append rAppend := by
  intro F mu H m x y p q Q' rm hx hy hw
  simp only [m1O, appO] at hw
  cases p with
  | ref n =>
    dsimp only at hw
    split at hw
    · rename_i xs e
      obtain ⟨hk, hw⟩ := W.ck hw
      rw [Bool.and_eq_true] at hk
      have hl : xs.length ≤ 100000 := of_decide_eq_true hk.1
      obtain ⟨a, rfl, h1⟩ := hx
      obtain ⟨b, hb, vs, k1, k2, k3⟩ := rm.cells n _ e
      rw [h1] at hb
      cases hb
      have hvl := k3.length
      refine ⟨a, vs, y, rfl, rfl, k1, by rw [sizeLine_eq]; omega, ?_⟩
      obtain ⟨s, r⟩ := cell_set (c := .lst (xs ++ [q])) (o := .lst (vs ++ [y])) rm h1 ⟨vs ++ [y], upd_same, by rw [List.length_append, List.length_singleton, sizeLine_eq]; omega, k3.append ⟨y, [], rfl, rep_below q y hy hk.2, rfl⟩⟩
      exact hw _ _ _ s r _ rfl
    · exact hw.elim
  | _ => exact hw.elim
theorem m1_popi : M1R g .popi rPopAt := by
  intro F mu H m x y p q Q' rm hx hy hw
  simp only [m1O, popO] at hw
  cases p with
  | ref n =>
    dsimp only at hw
    cases q with
    | int i =>
      dsimp only at hw
      split at hw
      · rename_i xs e
        split at hw
        · rename_i k hk
          split at hw
          · rename_i z hz
            obtain ⟨hi, hw⟩ := W.ck hw
            unfold idxZ at hi
            rw [Bool.and_eq_true] at hi
            have hi1 : -1000000 ≤ i := of_decide_eq_true hi.1
            have hi2 : i ≤ 1000000 := of_decide_eq_true hi.2
            obtain ⟨a, rfl, h1⟩ := hx
            obtain ⟨b, hb, vs, k1, k2, k3⟩ := rm.cells n _ e
            rw [h1] at hb
            cases hb
            obtain ⟨v, hv, hr⟩ := k3.get hz
            have hvl := k3.length
            refine ⟨a, vs, i, k, v, rfl, by rw [show y = .int i from hy], k1, by omega, by omega, by rw [hvl]; exact (ixN_seq hk).1, hv, ?_⟩
            obtain ⟨s, r⟩ := cell_set (c := .lst (xs.eraseIdx k)) (o := .lst (vs.eraseIdx k)) rm h1 ⟨vs.eraseIdx k, upd_same, Nat.le_trans (List.length_eraseIdx_le ..) k2, k3.erase k⟩
            exact hw _ _ _ s r _ (Rep.step (Rep.mono (fun _ _ h => h) (fun _ _ h => take_get h) _ _ hr) s)
          · exact hw.elim
        · exact hw.elim
      · exact hw.elim
    | _ => exact hw.elim
  | _ => exact hw.elim
theorem m1_extend : M1R g .extend rExtend := by
  intro F mu H m x y p q Q' rm hx hy hw
  simp only [m1O, extO] at hw
  cases p with
  | ref n =>
    dsimp only at hw
    cases q with
    | lst ys =>
      dsimp only at hw
      split at hw
      · rename_i xs e
        obtain ⟨hk, hw⟩ := W.ck hw
        rw [Bool.and_eq_true] at hk
        have hl : xs.length + ys.length ≤ 100000 := of_decide_eq_true hk.1
        obtain ⟨a, rfl, h1⟩ := hx
        obtain ⟨b, hb, vs, k1, k2, k3⟩ := rm.cells n _ e
        rw [h1] at hb
        cases hb
        obtain ⟨c, ws, rfl, q1, q2, q3⟩ := hy
        have hvl := k3.length
        have hwl := q3.length
        refine ⟨a, c, vs, ws, rfl, rfl, k1, fr_lst rm q1, by rw [sizeLine_eq]; omega, ?_⟩
        obtain ⟨s, r⟩ := cell_set (c := .lst (xs ++ ys)) (o := .lst (vs ++ ws)) rm h1 ⟨vs ++ ws, upd_same, by rw [List.length_append, sizeLine_eq]; omega, k3.append (reps_below ys ws q3 hk.2)⟩
        exact hw _ _ _ s r _ rfl
      · exact hw.elim
    | _ => exact hw.elim
  | _ => exact hw.elim
theorem s_append (ho : PE X a (tE g D ca)) (he : PE X b (tE g D cb)) (h0 : ab0 a = true) (hs : nstar b = true) (hline : (apos.endLine == cpos.line) = true) : PE X (.Call (.Attribute a "append" apos) [b] [] cpos) (tE g D (.m1 .append ca cb)) :=
  s_ml F.plainAttrs_list F.slot_list_append F.type_list_append mt_append ho he h0 hs hline (fun F mu H m p x rm hx h => rec_list (.inl rfl) rm hx h) m1_append
theorem s_popi (ho : PE X a (tE g D ca)) (he : PE X b (tE g D cb)) (h0 : ab0 a = true) (hs : nstar b = true) (hline : (apos.endLine == cpos.line) = true) : PE X (.Call (.Attribute a "pop" apos) [b] [] cpos) (tE g D (.m1 .popi ca cb)) :=
  s_ml F.plainAttrs_list F.slot_list_pop F.type_list_pop mt_popAt ho he h0 hs hline (fun F mu H m p x rm hx h => rec_list (.inr (.inl rfl)) rm hx h) m1_popi
theorem s_extend (ho : PE X a (tE g D ca)) (he : PE X b (tE g D cb)) (h0 : ab0 a = true) (hs : nstar b = true) (hline : (apos.endLine == cpos.line) = true) : PE X (.Call (.Attribute a "extend" apos) [b] [] cpos) (tE g D (.m1 .extend ca cb)) :=
  s_ml F.plainAttrs_list F.slot_list_extend F.type_list_extend mt_extend ho he h0 hs hline (fun F mu H m p x rm hx h => rec_list (.inr (.inr rfl)) rm hx h) m1_extend
/-! ### texts -/
theorem strs_of {F : Hp} {mu : List Addr} : ∀ {xs : List PV} {vs : List V} {ss : List Str}, Reps g.K g.CA F mu xs vs → xs.mapM asStr = some ss → vs = ss.map V.str
  | [], vs, ss, h, e => by
    cases e
    exact h
  | x :: xs, vs, ss, h, e => by
    obtain ⟨v, r, rfl, h1, h2⟩ := h
    rw [List.mapM_cons] at e
    cases q : asStr x with
    | none => rw [q] at e; cases e
    | some b =>
      rw [q] at e
      cases q2 : xs.mapM asStr with
      | none => rw [q2] at e; cases e
      | some cs =>
        rw [q2] at e
        cases e
        rw [strs_of h2 q2]
        have e3 : x = .str b := by cases x <;> first | cases q; rfl | cases q
        subst e3
        rw [show v = .str b from h1]
        rfl
theorem ints_of {F : Hp} {mu : List Addr} : ∀ {xs : List PV} {vs : List V} {ss : List Int}, Reps g.K g.CA F mu xs vs → xs.mapM asInt = some ss → vs = ss.map V.int
  | [], vs, ss, h, e => by
    cases e
    exact h
  | x :: xs, vs, ss, h, e => by
    obtain ⟨v, r, rfl, h1, h2⟩ := h
    rw [List.mapM_cons] at e
    cases q : asInt x with
    | none => rw [q] at e; cases e
    | some b =>
      rw [q] at e
      cases q2 : xs.mapM asInt with
      | none => rw [q2] at e; cases e
      | some cs =>
        rw [q2] at e
        cases e
        rw [ints_of h2 q2]
        have e3 : x = .int b := by cases x <;> first | cases q; rfl | cases q
        subst e3
        rw [show v = .int b from h1]
        rfl
theorem reps_strs {F : Hp} {mu : List Addr} : ∀ (ns : List Str), Reps g.K g.CA F mu (ns.map PV.str) (ns.map V.str)
  | [] => rfl
  | n :: ns => ⟨.str n, ns.map V.str, rfl, rfl, reps_strs ns⟩
/-- a list or tuple, its items -/
theorem items_of {F : Hp} {mu : List Addr} {H : Hp} {m : Mem} {p : PV} {x : V} {ys : List PV} (rm : RelM g.K g.CA F mu m H) (hx : Rep g.K g.CA F mu p x) (h : items (vw m p) = some ys) : ∃ a vs, x = .ref a ∧ (SqL g.K H a vs ∨ SqT g.K H a vs) ∧ ys.length ≤ sizeLine ∧ Reps g.K g.CA F mu ys vs := by
  have vx := view rm hx
  cases ep : vw m p with
  | lst xs =>
    rw [ep] at h vx
    cases h
    obtain ⟨a, vs, rfl, h1, h2, h3⟩ := vx
    exact ⟨a, vs, rfl, .inl (.of h1), h2, h3⟩
  | tup xs =>
    rw [ep] at h vx
    cases h
    obtain ⟨a, vs, rfl, h1, h2, h3⟩ := vx
    exact ⟨a, vs, rfl, .inr h1, h2, h3⟩
  | scr xs =>
    rw [ep] at h vx
    cases h
    obtain ⟨a, rfl, h1, h2⟩ := vx
    exact ⟨a, _, rfl, .inl h1, by rw [List.length_map]; exact h2, reps_ints xs⟩
  | _ => rw [ep] at h; cases h
theorem s_join (hK : X.K = g.K) (ho : PE X a (tE g D ca)) (he : PE X b (tE g D cb)) (h0 : ab0 a = true) (hs : nstar b = true) (hline : (apos.endLine == cpos.line) = true) : PE X (.Call (.Attribute a "join" apos) [b] [] cpos) (tE g D (.m1 .join ca cb)) := by
  refine s_mt (pe_join ho he (starEach_cons hs) (ab_of h0) hline) (fun m p h => ?_) ?_
  · cases p <;> first | exact ⟨_, rfl⟩ | cases h
  intro F mu H m x y p q Q' rm hx hy hw
  simp only [m1O, joinO] at hw
  cases p with
  | str s =>
    dsimp only at hw
    split at hw
    · rename_i ss e
      obtain ⟨hk, hw⟩ := W.ck hw
      have hl := of_decide_eq_true hk
      cases e1 : items (vw m q) with
      | none => rw [e1] at e; cases e
      | some ys =>
        rw [e1] at e
        obtain ⟨c, vs, rfl, k1, k2, k3⟩ := items_of rm hy e1
        have e2 := strs_of k3 e
        subst e2
        rw [hK]
        exact ⟨s, c, ss, hx, rfl, k1, by omega, W.ok hw rm _ rfl⟩
    · exact hw.elim
  | _ => exact hw.elim
theorem s_split (hK : X.K = g.K) (ho : PE X a (tE g D ca)) (he : PE X b (tE g D cb)) (h0 : ab0 a = true) (hs : nstar b = true) (hline : (apos.endLine == cpos.line) = true) : PE X (.Call (.Attribute a "split" apos) [b] [] cpos) (tE g D (.m1 .split ca cb)) := by
  refine s_mt (pe_split ho he (starEach_cons hs) (ab_of h0) hline) (fun m p h => ?_) ?_
  · cases p <;> first | exact ⟨_, rfl⟩ | cases h
  intro F mu H m x y p q Q' rm hx hy hw
  simp only [m1O, splitO] at hw
  cases p with
  | str s =>
    cases q with
    | str t =>
      obtain ⟨hk, hw⟩ := W.ck hw
      rw [Bool.and_eq_true] at hk
      have hl : s.length ≤ 100000 := of_decide_eq_true hk.2
      have hz : s.length + 2 ≤ sizeLine := by rw [sizeLine_eq]; omega
      refine ⟨s, t, hx, by rw [show y = .str t from hy], by simpa using hk.1, hz, fun c hc => ?_⟩
      obtain ⟨s2, r, z⟩ := rep_new_lst (ps := (Txt.split s t).map PV.str) rm (reps_strs _) (by rw [List.length_map]; exact Nat.le_trans (PyProof.Rows.split_le s t) hz) hc
      exact hw _ _ _ s2 r _ z
    | _ => exact hw.elim
  | _ => exact hw.elim
theorem s_partition (hK : X.K = g.K) (ho : PE X a (tE g D ca)) (he : PE X b (tE g D cb)) (h0 : ab0 a = true) (hs : nstar b = true) (hline : (apos.endLine == cpos.line) = true) : PE X (.Call (.Attribute a "partition" apos) [b] [] cpos) (tE g D (.m1 .partition ca cb)) := by
  refine s_mt (pe_partition ho he (starEach_cons hs) (ab_of h0) hline) (fun m p h => ?_) ?_
  · cases p <;> first | exact ⟨_, rfl⟩ | cases h
  intro F mu H m x y p q Q' rm hx hy hw
  simp only [m1O, partitionO] at hw
  cases p with
  | str s =>
    cases q with
    | str t =>
      obtain ⟨hk, hw⟩ := W.ck hw
      rw [Bool.and_eq_true] at hk
      have hl : s.length ≤ 100000 := of_decide_eq_true hk.2
      refine ⟨s, t, hx, by rw [show y = .str t from hy], by simpa using hk.1, by rw [sizeLine_eq]; omega, fun c hc => ?_⟩
      obtain ⟨s2, r, z⟩ := rep_new_tup (ps := [.str (Txt.partition s t).1, .str (Txt.partition s t).2.1, .str (Txt.partition s t).2.2]) (vs := [.str (Txt.partition s t).1, .str (Txt.partition s t).2.1, .str (Txt.partition s t).2.2]) rm ⟨_, _, rfl, rfl, _, _, rfl, rfl, _, _, rfl, rfl, rfl⟩ (by rw [sizeLine_eq]; simp) hc
      exact hw _ _ _ s2 r _ z
    | _ => exact hw.elim
  | _ => exact hw.elim
end
end Co

end P_CoreMore
section P_CoreMore2
set_option Elab.async false
set_option linter.all false
set_option maxRecDepth 100000
set_option maxHeartbeats 2000000
/-! CoreMore2: sorted, sum, list, tuple, isinstance, stores into lists, what else is walked. -/
namespace Co
open PySem PySem.Spec PyProof.Rows L2
section
variable {X : Cx}
/-- sorted(x) of a list or tuple of texts -/
def rSortedA (K : PySem.W.Frag) : List V → Hp → VK → Prop := fun vs H Q => ∃ (a : Addr) (xs : List Str), vs = [V.ref a] ∧ (SqL K H a (xs.map V.str) ∨ SqT K H a (xs.map V.str)) ∧ xs.length < 64 ∧
  ∀ (ys : List Str) (p : Addr), ys.Perm xs → sortedS ys = true → H p = none → Q (.ref p) (upd H p (.lst (ys.map V.str)))
theorem cr_sortedA : CallR X (.builtin "sorted") (rSortedA X.K) := by
  intro pins s σ H xs us Q I r q
  obtain ⟨a, ss, rfl, hd, h64, q⟩ := q
  obtain ⟨u, rfl, rx⟩ := vals1 r
  cases rx
  have got : ∃ (T : String) (o : Obj) (its : List Value) (n : Nat), (T = "list" ∨ T = "tuple") ∧ s.heap.get? a = some o ∧ o.cls = .type T ∧ o.data = .seq its.toArray n ∧ StrsAre its ss := by
    rcases hd with hd | hd
    · obtain ⟨its, r', pl, hz⟩ := I.list hd
      obtain ⟨o, ho, hc, n, hda⟩ := pl.isList
      exact ⟨_, o, its, n, .inl rfl, ho, hc, hda, r'.strs⟩
    · obtain ⟨its, r', pl, hz⟩ := I.tuple hd
      obtain ⟨o, ho, hc, n, hda⟩ := pl
      exact ⟨_, o, its, n, .inr rfl, ho, hc, hda, r'.strs⟩
  obtain ⟨T, o, its, n, hT, ho, hc, hda, hS⟩ := got
  have hlen : its.length = ss.length := by rw [← hS.strs, List.length_map]
  refine Calls.call_function_entry PyProof.Rows.kind_sorted PyProof.Rows.plain_sorted PyProof.Rows.entry_sorted (PyProof.Rows.args_sorted1 _) ?_
  unfold Builtin.«sorted»
  refine wpAny_bind (m := checkCount "sorted" 1 1 _) (wpAny_pure ?_)
  refine wpAny_bind (wpAny_collect_seq a hT ho hc hda (fun h' hk => ?_) (by rw [List.size_toArray, hlen, sizeLine_eq]; omega))
  have I1 : Inv X pins σ H { s with heap := h' } := I.kept (t' := s.toks) hk
  rw [List.toList_toArray]
  refine wpAny_bind (wpAny_newList ?_ (by rw [hlen, sizeLine_eq]; omega))
  have hoL : (h'.push (seqObj "list" its.toArray 0)).get? h'.objs.size = some (seqObj "list" its.toArray 0) := Heap.get?_push_size _ rfl
  show wpAny _ _ _ _ _ { s with heap := h'.push (seqObj "list" its.toArray 0) }
  refine wpAny_bind (wpAny_holding (wpAny_call_entry PyProof.Rows.slot_list_sort ⟨_, hoL, rfl⟩ PyProof.Rows.entry_list_sort
    (list_sort_treeK strKind_oneLt (s := { s with heap := h'.push (seqObj "list" its.toArray 0) }) hoL hS.keysOf (fun v₁ v₂ rest e => keyKind_strs (by rw [← e]; exact hS)) (by rw [hlen]; exact h64) fun st' hp hs => ⟨_, rfl, ?_⟩)
    (PyProof.Rows.args_list_sort _)))
  obtain ⟨ys, g1, g2, g3⟩ := sorted_out_str hS hp hs
  obtain ⟨e', he'⟩ := PyProof.Rows.sortedHeap_at (vs := its) (out := (arrOf st').map (·.2)) hoL
  have hlen : (ys.map V.str).length ≤ sizeLine := by
    rw [List.length_map, g2.length_eq]
    exact Nat.le_trans (Nat.le_of_lt h64) (by decide)
  refine wpAny_pure ⟨_, rfl, .ref h'.objs.size, upd H h'.objs.size (.lst (ys.map V.str)), I1.laid (t' := s.toks) (fun b u e => ?_) (Nat.le_refl _)
    (show ObjOk X.prog X.w _ _ _ (.lst (ys.map V.str)) from ⟨hlen, ((arrOf st').map (·.2)).toList, e', vals_of_strs g1, by rw [Array.toArray_toList]; exact he'⟩), rfl, q ys _ g2 g3 (I1.hok.fresh (Nat.le_refl _))⟩
  have hb : b < h'.objs.size := Heap.lt_size e
  rw [PyProof.Rows.sortedHeap_old (Nat.ne_of_lt hb) (by rw [size_push']; exact Nat.lt_succ_of_lt hb)]
  exact Heap.get?_push_of_some _ e
end
section
variable {X : Cx} {g : G} {D : Cl} {a b c : Expr} {ca cb cc : CE} {pos p : Pos} {x : Str}
/-- a call with one argument that gives a new list -/
theorem newl_conv {r : List V → Hp → VK → Prop} {cf : CF} {σ : L2.St} {H : Hp} {Q : VK} (f : PV → Mem → Out (List PV)) (hev : ∀ env m, evF D cf env m = (evE D ca env m).bind f)
    (hop : ∀ F mu H m x p (Q' : List PV → Mem → Hp → List Addr → Hp → Prop) (Q2 : VK), RelM g.K g.CA F mu m H → Rep g.K g.CA F mu p x → W g F mu H (f p m) Q' → (∀ ps m' F' mu' H', RelM g.K g.CA F' mu' m' H' → Q' ps m' F' mu' H' → ∀ vs p, Reps g.K g.CA F' mu' ps vs → ps.length ≤ sizeLine → H' p = none → Q2 (.ref p) (upd H' p (.lst vs))) → r [x] H Q2)
    (h : tF g D cf σ H Q) : tCB r (tA g D (.cons ca .nil)) σ H Q := by
  obtain ⟨F, mu, env, m, hE, hM, hw⟩ := h
  rw [hev] at hw
  refine ⟨F, mu, env, m, hE, hM, one_arg hw fun q m1 F1 mu1 H1 st rm hw1 vs hvs => ?_⟩
  obtain ⟨v, r', rfl, hv, hr⟩ := hvs
  cases hr
  exact hop F1 mu1 H1 m1 v q _ Q rm hv hw1 fun ps m' F' mu' H' _ h => h
theorem zip_keys {ks : List Key} {vs : List V} (h : vs.length = ks.length) : (ks.zip vs).map (·.1) = ks := by
  rw [List.map_fst_zip (by omega)]
theorem reps_keys {F : Hp} {mu : List Addr} : ∀ ks : List Key, Reps g.K g.CA F mu (ks.map keyPV) (ks.map kV)
  | [] => rfl
  | .inl i :: ks => ⟨_, _, rfl, rfl, reps_keys ks⟩
  | .inr x :: ks => ⟨_, _, rfl, rfl, reps_keys ks⟩
theorem sf_lof (hc : X.calm = true) (hK : X.K = g.K) (hg : Gl X "list") (hm : X.mg "list" = none) (hs : nstar a = true) (ha : PE X a (tE g D ca)) : PE X (.Call (.Name "list" p) [a] [] pos) (tF g D (.lof ca)) := by
  refine PE.conv (pe_callTy (CallR.or call_list_of (call_listD hc)) hg hm (by decide +kernel) (sa_cons' hs ha sa_nil) (by decide +kernel) (by decide +kernel) (starEach_cons hs) rfl) fun σ H Q h => newl_conv (fun x m1 => Out.of (lofO (vw m1 x)) m1) (fun _ _ => rfl) ?_ h
  intro F mu H m x p Q' Q2 rm hx hw k
  obtain ⟨ys, hy, hw2⟩ := W.of hw
  by_cases hd : ∃ ks vs, vw m p = .dic ks vs
  · obtain ⟨ks, ps, ed⟩ := hd
    have vx := view rm hx
    rw [ed] at hy vx
    have hy : some (ks.map keyPV) = some ys := hy
    cases hy
    obtain ⟨c, vs, rfl, k1, k2, k3, k4⟩ := vx
    refine .inr ⟨c, _, rfl, k1, fun l hl => ?_⟩
    have e : ((ks.zip vs).map fun kv => kV kv.1) = ks.map kV := by
      have e2 : ((ks.zip vs).map fun kv => kV kv.1) = ((ks.zip vs).map (·.1)).map kV := by rw [List.map_map]; rfl
      rw [e2, zip_keys (by rw [k4.length, k2])]
    rw [e]
    exact k _ _ _ _ _ rm (W.ok hw2 rm) _ l (reps_keys ks) (by rw [List.length_map, ← k2]; exact k3) hl
  · have hy2 : items (vw m p) = some ys := by
      rw [← hy]
      unfold lofO
      split
      · rename_i ks vs e
        exact absurd ⟨ks, vs, e⟩ hd
      · rfl
    obtain ⟨c, vs, rfl, k1, k2, k3⟩ := items_of rm hx hy2
    rw [hK]
    exact .inl ⟨c, vs, rfl, k1, fun l hl => k _ _ _ _ _ rm (W.ok hw2 rm) vs l k3 k2 hl⟩
theorem keys_of : ∀ {ks : List Key} {ss : List Str}, ks.mapM keyStr = some ss → ks = ss.map Sum.inr
  | [], ss, e => by cases e; rfl
  | k :: ks, ss, e => by
    rw [List.mapM_cons] at e
    cases q : keyStr k with
    | none => rw [q] at e; cases e
    | some b =>
      rw [q] at e
      cases q2 : ks.mapM keyStr with
      | none => rw [q2] at e; cases e
      | some cs =>
        rw [q2] at e
        cases e
        rw [keys_of q2]
        cases k with
        | inl i => cases q
        | inr z => cases q; rfl
theorem sf_srt (hc : X.calm = true) (hK : X.K = g.K) (hg : Gl X "sorted") (hm : X.mg "sorted" = none) (hs : nstar a = true) (ha : PE X a (tE g D ca)) : PE X (.Call (.Name "sorted" p) [a] [] pos) (tF g D (.srt ca)) := by
  refine PE.conv (pe_callB (CallR.or cr_sortedA (call_sortedD hc)) hg hm PyProof.Rows.boot_sorted (sa_cons' hs ha sa_nil) (by decide +kernel) (by decide +kernel) (starEach_cons hs) rfl) fun σ H Q h => newl_conv (fun x m1 => Out.of (srtO (vw m1 x)) m1) (fun _ _ => rfl) ?_ h
  intro F mu H m x p Q' Q2 rm hx hw k
  obtain ⟨ys, hy, hw2⟩ := W.of hw
  have vx := view rm hx
  unfold srtO at hy
  cases et : textsOf (vw m p) with
  | none => rw [et] at hy; cases hy
  | some ss =>
    rw [et] at hy
    simp only [Option.bind] at hy
    split at hy
    · rename_i h64
      cases hy
      have hl : ((srtS ss).map PV.str).length ≤ sizeLine := by rw [List.length_map, (srtS_perm ss).length_eq, sizeLine_eq]; omega
      have fin : ∀ (zs : List Str) (q : Addr), zs.Perm ss → sortedS zs = true → H q = none → Q2 (.ref q) (upd H q (.lst (zs.map V.str))) := fun zs q hp hz hq => by
        rw [sort_one hp hz]
        exact k _ _ _ _ _ rm (W.ok hw2 rm) _ q (reps_strs _) hl hq
      cases ep : vw m p with
      | lst xs =>
        rw [ep] at et vx
        obtain ⟨a, vs, rfl, h1, h2, h3⟩ := vx
        have e3 := strs_of h3 et
        subst e3
        exact .inl ⟨a, ss, rfl, .inl (.of h1), h64, fin⟩
      | tup xs =>
        rw [ep] at et vx
        obtain ⟨a, vs, rfl, h1, h2, h3⟩ := vx
        have e3 := strs_of h3 et
        subst e3
        rw [hK]
        exact .inl ⟨a, ss, rfl, .inr h1, h64, fin⟩
      | dic ks xs =>
        rw [ep] at et vx
        obtain ⟨a, vs, rfl, h1, h2, h3, h4⟩ := vx
        have e3 := keys_of et
        exact .inr ⟨a, ks.zip vs, ss, rfl, h1, by rw [zip_keys (by rw [h4.length]; exact h2)]; exact e3, h64, fin⟩
      | _ => rw [ep] at et; cases et
    · cases hy
theorem one_sum (hK : X.K = g.K) : OneR g .sum (rSum X.K) := fun F mu H m x p Q' rm hx hw => by
  obtain ⟨z, hz, hw2⟩ := W.of hw
  have vx := view rm hx
  rw [hK]
  unfold builtin1 at hz
  dsimp only at hz
  cases ep : vw m p with
  | lst xs =>
    rw [ep] at hz vx
    obtain ⟨a, vs, rfl, h1, h2, h3⟩ := vx
    dsimp only at hz
    cases q : xs.mapM asInt with
    | none => rw [q] at hz; cases hz
    | some bs =>
      rw [q] at hz
      cases hz
      exact ⟨a, bs, rfl, .of (by rw [← ints_of h3 q]; exact h1), W.ok hw2 rm _ rfl⟩
  | _ => rw [ep] at hz; cases hz
theorem one_tuple (hK : X.K = g.K) : OneR g .tuple (fun xs H Q => ∃ p ys, xs = [.ref p] ∧ ((SqL X.K H p ys ∧ ∀ l, H l = none → Q (.ref l) (upd H l (.tup ys))) ∨ (SqT X.K H p ys ∧ Q (.ref p) H))) := fun F mu H m x p Q' rm hx hw => by
  obtain ⟨z, hz, hw2⟩ := W.of hw
  have vx := view rm hx
  rw [hK]
  unfold builtin1 at hz
  dsimp only at hz
  cases ep : vw m p with
  | lst xs =>
    rw [ep] at hz vx
    cases hz
    obtain ⟨a, vs, rfl, h1, h2, h3⟩ := vx
    refine ⟨a, vs, rfl, .inl ⟨.of h1, fun l hl => ?_⟩⟩
    obtain ⟨s, r, q⟩ := rep_new_tup rm h3 h2 hl
    exact hw2 _ _ _ s r _ q
  | tup xs =>
    rw [ep] at hz
    cases hz
    have e3 := vw_tup ep
    subst e3
    obtain ⟨a, vs, rfl, h1, h2, h3⟩ := hx
    exact ⟨a, vs, rfl, .inr ⟨fr_sqT rm h1, W.ok hw2 rm _ ⟨a, vs, rfl, h1, h2, h3⟩⟩⟩
  | _ => rw [ep] at hz; cases hz
/-- two arguments -/
theorem s_bi2 {bi : Bi} {id : String} {r : List V → Hp → VK → Prop} (hc : CallR X (.builtin id) r) (hg : Gl X x) (hm : X.mg x = none) (hv : bootBuiltins x = some (.builtin id)) (hn : x ≠ "__name__") (hdb : (x == ("__debug__" : Str)) = false) (hs : nstar a = true) (hs2 : nstar b = true) (ha : PE X a (tE g D ca)) (hb : PE X b (tE g D cb))
    (hop : ∀ F mu H m x y p q Q', RelM g.K g.CA F mu m H → Rep g.K g.CA F mu p x → Rep g.K g.CA F mu q y → (W g F mu H (Out.of (builtin2 bi p q) m) fun p m' F' mu' H' => ∀ v, Rep g.K g.CA F' mu' p v → Q' v H') → r [x, y] H Q') :
    PE X (.Call (.Name x p) [a, b] [] pos) (tE g D (.bi2 bi ca cb)) := by
  refine PE.conv (pe_callB hc hg hm hv (sa_cons' hs ha (sa_cons' hs2 hb sa_nil)) hn hdb (starEach_cons hs) (starEach_any (by simp [hs2]))) fun σ H Q h => ?_
  obtain ⟨F, mu, env, m, hE, hM, hw⟩ := h
  refine ⟨F, mu, env, m, hE, hM, two_arg hw fun p q m1 F1 mu1 H1 rm hw1 vs hvs => ?_⟩
  obtain ⟨v, r', rfl, hv, w, r2, rfl, hw2, hr⟩ := hvs
  cases hr
  exact hop F1 mu1 H1 m1 v w p q Q rm hv hw2 hw1
theorem s_min2 (hc : X.calm = true) (hg : Gl X "min") (hm : X.mg "min" = none) (hs : nstar a = true) (hs2 : nstar b = true) (ha : PE X a (tE g D ca)) (hb : PE X b (tE g D cb)) : PE X (.Call (.Name "min" p) [a, b] [] pos) (tE g D (.bi2 .min ca cb)) :=
  s_bi2 (call_min2 hc) hg hm (by decide +kernel) (by decide +kernel) (by decide +kernel) hs hs2 ha hb fun F mu H m x y p q Q' rm hx hy hw => by
    obtain ⟨z, hz, hw2⟩ := W.of hw
    cases p <;> cases q <;> first | (cases hz; done) | skip
    cases hz
    rename_i i j
    exact ⟨i, j, by rw [show x = .int i from hx, show y = .int j from hy], W.ok hw2 rm _ rfl⟩
theorem s_max2 (hc : X.calm = true) (hg : Gl X "max") (hm : X.mg "max" = none) (hs : nstar a = true) (hs2 : nstar b = true) (ha : PE X a (tE g D ca)) (hb : PE X b (tE g D cb)) : PE X (.Call (.Name "max" p) [a, b] [] pos) (tE g D (.bi2 .max ca cb)) :=
  s_bi2 (call_max2 hc) hg hm (by decide +kernel) (by decide +kernel) (by decide +kernel) hs hs2 ha hb fun F mu H m x y p q Q' rm hx hy hw => by
    obtain ⟨z, hz, hw2⟩ := W.of hw
    cases p <;> cases q <;> first | (cases hz; done) | skip
    cases hz
    rename_i i j
    exact ⟨i, j, by rw [show x = .int i from hx, show y = .int j from hy], W.ok hw2 rm _ rfl⟩
/-! ### isinstance -/
/-- what is known of a class -/
structure ClsF (K : PySem.W.Frag) (C : Addr) : Prop where
  cl : Cls K C
  ha : PySem.W.findIn K (.ref C) "__class__" = some (some (.builtin "object.__class__"))
  hn : PySem.W.specialIn K (.builtin "object.__class__") "__get__" = some (some (.builtin "getset_descriptor.__get__"))
  htk : PySem.W.takesIn K (.builtin "object.__class__") = some true
  hm : PySem.W.mroIn K C (.type "object") = some true
  off : ∀ b ∈ ["NoneType", "bool", "int", "str", "tuple", "list"], PySem.W.kitOne K (.type b) (.ref C) = some false
  on : ∀ b ∈ ["bool", "int", "str", "tuple", "list"], PySem.W.kitOne K (.ref C) (.type b) = some false
structure ClsG (g : G) (nC : Nat) : Prop where
  each : ∀ c, c < nC → ClsF g.K (g.CA c)
  pair : ∀ c d, c < nC → d < nC → PySem.W.kitOne g.K (.ref (g.CA c)) (.ref (g.CA d)) = some (c == d)
/-- a value's type -/
def tyOf (g : G) : PV → Option Value
  | .non => some (.type "NoneType")
  | .bl _ => some (.type "bool")
  | .int _ => some (.type "int")
  | .str _ => some (.type "str")
  | .tup _ => some (.type "tuple")
  | .lst _ => some (.type "list")
  | .obj c _ _ => some (.ref (g.CA c))
  | _ => none
def okCls (nC : Nat) : PV → Bool
  | .obj c _ _ => decide (c < nC)
  | _ => true
theorem tyx {F : Hp} {mu : List Addr} {H : Hp} {m : Mem} {p : PV} {x : V} {t : Value} {nC : Nat} (G : ClsG g nC) (rm : RelM g.K g.CA F mu m H) (hx : Rep g.K g.CA F mu p x) (h : tyOf g (vw m p) = some t) (hc : okCls nC (vw m p) = true) : TyX g.K H x t := by
  have vx := view rm hx
  cases ep : vw m p with
  | non => rw [ep] at h vx; cases h; rw [show x = .non from vx]; exact .base .non
  | bl b => rw [ep] at h vx; cases h; rw [show x = .bl b from vx]; exact .base (.bl b)
  | int b => rw [ep] at h vx; cases h; rw [show x = .int b from vx]; exact .base (.int b)
  | str b => rw [ep] at h vx; cases h; rw [show x = .str b from vx]; exact .base (.str b)
  | tup xs =>
    rw [ep] at h vx
    cases h
    obtain ⟨a, vs, rfl, h1, h2, h3⟩ := vx
    rcases h1 with (h1 | ⟨u, h1⟩) | ⟨o, its, n, h1, h4, _⟩
    · exact .base (.tup h1)
    · exact .fTuple h1
    · exact .kTuple h1 h4
  | lst xs =>
    rw [ep] at h vx
    cases h
    obtain ⟨a, vs, rfl, h1, h2, h3⟩ := vx
    exact .base (.lst h1)
  | obj c ns vs =>
    rw [ep] at h vx hc
    cases h
    obtain ⟨a, dx, us, rfl, h1, h2, h3⟩ := vx
    have C := G.each c (of_decide_eq_true hc)
    exact .base (.ins h1 C.cl C.ha C.hn C.htk C.hm)
  | _ => rw [ep] at h; cases h
/-- the class that is asked for -/
def tyCls (g : G) : Isi → Option Value
  | .int => some (.type "int")
  | .bool => some (.type "bool")
  | .str => some (.type "str")
  | .tuple => some (.type "tuple")
  | .cls c => some (.ref (g.CA c))
  | .seq => none
theorem kit_one {nC : Nat} {t : Isi} {p : PV} {r : Bool} {u : Value} (G : ClsG g nC) (ht : ∀ c, t = .cls c → c < nC) (hu : tyCls g t = some u) (h : isiop nC t p = some r) : okCls nC p = true ∧ ∃ w, tyOf g p = some w ∧ PySem.W.kitOne g.K w u = some r := by
  have kb : ∀ (a b : String) (r : Bool), kitB a b = some r → PySem.W.kitOne g.K (.type a) (.type b) = some r := fun a b r h => kit_ty h
  cases t with
  | seq => cases hu
  | cls c =>
    cases hu
    have hc := ht c rfl
    have C := G.each c hc
    cases p with
    | non => cases h; exact ⟨rfl, _, rfl, C.off _ (by simp)⟩
    | bl _ => cases h; exact ⟨rfl, _, rfl, C.off _ (by simp)⟩
    | int _ => cases h; exact ⟨rfl, _, rfl, C.off _ (by simp)⟩
    | str _ => cases h; exact ⟨rfl, _, rfl, C.off _ (by simp)⟩
    | tup _ => cases h; exact ⟨rfl, _, rfl, C.off _ (by simp)⟩
    | lst _ => cases h; exact ⟨rfl, _, rfl, C.off _ (by simp)⟩
    | obj d _ _ =>
      simp only [isiop] at h
      split at h
      · rename_i hd
        cases h
        exact ⟨decide_eq_true hd, _, rfl, G.pair d c hd hc⟩
      · cases h
    | _ => cases h
  | int =>
    cases hu
    cases p with
    | non => cases h; exact ⟨rfl, _, rfl, kb _ _ _ (by decide +kernel)⟩
    | bl _ => cases h; exact ⟨rfl, _, rfl, kb _ _ _ (by decide +kernel)⟩
    | int _ => cases h; exact ⟨rfl, _, rfl, kb _ _ _ (by decide +kernel)⟩
    | str _ => cases h; exact ⟨rfl, _, rfl, kb _ _ _ (by decide +kernel)⟩
    | tup _ => cases h; exact ⟨rfl, _, rfl, kb _ _ _ (by decide +kernel)⟩
    | lst _ => cases h; exact ⟨rfl, _, rfl, kb _ _ _ (by decide +kernel)⟩
    | obj d _ _ =>
      simp only [isiop] at h
      split at h
      · rename_i hd; cases h; exact ⟨decide_eq_true hd, _, rfl, (G.each d hd).on _ (by simp)⟩
      · cases h
    | _ => cases h
  | bool =>
    cases hu
    cases p with
    | non => cases h; exact ⟨rfl, _, rfl, kb _ _ _ (by decide +kernel)⟩
    | bl _ => cases h; exact ⟨rfl, _, rfl, kb _ _ _ (by decide +kernel)⟩
    | int _ => cases h; exact ⟨rfl, _, rfl, kb _ _ _ (by decide +kernel)⟩
    | str _ => cases h; exact ⟨rfl, _, rfl, kb _ _ _ (by decide +kernel)⟩
    | tup _ => cases h; exact ⟨rfl, _, rfl, kb _ _ _ (by decide +kernel)⟩
    | lst _ => cases h; exact ⟨rfl, _, rfl, kb _ _ _ (by decide +kernel)⟩
    | obj d _ _ =>
      simp only [isiop] at h
      split at h
      · rename_i hd; cases h; exact ⟨decide_eq_true hd, _, rfl, (G.each d hd).on _ (by simp)⟩
      · cases h
    | _ => cases h
  | str =>
    cases hu
    cases p with
    | non => cases h; exact ⟨rfl, _, rfl, kb _ _ _ (by decide +kernel)⟩
    | bl _ => cases h; exact ⟨rfl, _, rfl, kb _ _ _ (by decide +kernel)⟩
    | int _ => cases h; exact ⟨rfl, _, rfl, kb _ _ _ (by decide +kernel)⟩
    | str _ => cases h; exact ⟨rfl, _, rfl, kb _ _ _ (by decide +kernel)⟩
    | tup _ => cases h; exact ⟨rfl, _, rfl, kb _ _ _ (by decide +kernel)⟩
    | lst _ => cases h; exact ⟨rfl, _, rfl, kb _ _ _ (by decide +kernel)⟩
    | obj d _ _ =>
      simp only [isiop] at h
      split at h
      · rename_i hd; cases h; exact ⟨decide_eq_true hd, _, rfl, (G.each d hd).on _ (by simp)⟩
      · cases h
    | _ => cases h
  | tuple =>
    cases hu
    cases p with
    | non => cases h; exact ⟨rfl, _, rfl, kb _ _ _ (by decide +kernel)⟩
    | bl _ => cases h; exact ⟨rfl, _, rfl, kb _ _ _ (by decide +kernel)⟩
    | int _ => cases h; exact ⟨rfl, _, rfl, kb _ _ _ (by decide +kernel)⟩
    | str _ => cases h; exact ⟨rfl, _, rfl, kb _ _ _ (by decide +kernel)⟩
    | tup _ => cases h; exact ⟨rfl, _, rfl, kb _ _ _ (by decide +kernel)⟩
    | lst _ => cases h; exact ⟨rfl, _, rfl, kb _ _ _ (by decide +kernel)⟩
    | obj d _ _ =>
      simp only [isiop] at h
      split at h
      · rename_i hd; cases h; exact ⟨decide_eq_true hd, _, rfl, (G.each d hd).on _ (by simp)⟩
      · cases h
    | _ => cases h
theorem kit_seq {nC : Nat} {p : PV} {r : Bool} (G : ClsG g nC) (h : isiop nC .seq p = some r) : okCls nC p = true ∧ ∃ w, tyOf g p = some w ∧ PySem.W.kitAny g.K w [.type "list", .type "tuple"] = some r := by
  have kb : ∀ (a : String) (r1 r2 : Bool), kitB a "list" = some r1 → kitB a "tuple" = some r2 → PySem.W.kitAny g.K (.type a) [.type "list", .type "tuple"] = some (r1 || r2) := fun a r1 r2 h1 h2 => by
    refine kitAny_cons (kit_ty h1) (fun e => kitAny_cons (kit_ty h2) (fun e2 => ?_) fun e2 => ?_) fun e => ?_
    · rw [e, e2]; rfl
    · rw [e, e2]; rfl
    · rw [e]; rfl
  cases p with
  | non => cases h; exact ⟨rfl, _, rfl, kb _ false false (by decide +kernel) (by decide +kernel)⟩
  | bl _ => cases h; exact ⟨rfl, _, rfl, kb _ false false (by decide +kernel) (by decide +kernel)⟩
  | int _ => cases h; exact ⟨rfl, _, rfl, kb _ false false (by decide +kernel) (by decide +kernel)⟩
  | str _ => cases h; exact ⟨rfl, _, rfl, kb _ false false (by decide +kernel) (by decide +kernel)⟩
  | tup _ => cases h; exact ⟨rfl, _, rfl, kb _ false true (by decide +kernel) (by decide +kernel)⟩
  | lst _ => cases h; exact ⟨rfl, _, rfl, kb _ true false (by decide +kernel) (by decide +kernel)⟩
  | obj d _ _ =>
    simp only [isiop] at h
    split at h
    · rename_i hd
      cases h
      refine ⟨decide_eq_true hd, _, rfl, kitAny_cons ((G.each d hd).on "list" (by simp)) (fun _ => kitAny_cons ((G.each d hd).on "tuple" (by simp)) (fun _ => kitAny_nil) fun e => by cases e) fun e => by cases e⟩
    · cases h
  | _ => cases h
/-- a class by its name -/
inductive ClsE (X : Cx) (g : G) (nC : Nat) : Expr → Isi → Prop where
  | int {pos : Pos} (hg : Gl X "int") (hm : X.mg "int" = none) : ClsE X g nC (.Name "int" pos) .int
  | bool {pos : Pos} (hg : Gl X "bool") (hm : X.mg "bool" = none) : ClsE X g nC (.Name "bool" pos) .bool
  | str {pos : Pos} (hg : Gl X "str") (hm : X.mg "str" = none) : ClsE X g nC (.Name "str" pos) .str
  | tuple {pos : Pos} (hg : Gl X "tuple") (hm : X.mg "tuple" = none) : ClsE X g nC (.Name "tuple" pos) .tuple
  | own {pos : Pos} {x : Str} {c : Nat} (hg : Gl X x) (hm : X.mg x = some (.ref (g.CA c))) (hd : (x == ("__debug__" : Str)) = false) (hc : c < nC) : ClsE X g nC (.Name x pos) (.cls c)
theorem ClsE.pe {nC : Nat} {e : Expr} {t : Isi} (h : ClsE X g nC e t) : nstar e = true ∧ (∀ c, t = .cls c → c < nC) ∧ ∃ v u, PE X e (tC v) ∧ ClsV v u ∧ tyCls g t = some u := by
  cases h with
  | int hg hm => exact ⟨rfl, (fun _ z => nomatch z), .ty "int", .type "int", pe_bltn hg hm (by decide +kernel) rfl (by decide +kernel) (by decide +kernel), .ty _, rfl⟩
  | bool hg hm => exact ⟨rfl, (fun _ z => nomatch z), .ty "bool", .type "bool", pe_bltn hg hm (by decide +kernel) rfl (by decide +kernel) (by decide +kernel), .ty _, rfl⟩
  | str hg hm => exact ⟨rfl, (fun _ z => nomatch z), .ty "str", .type "str", pe_bltn hg hm (by decide +kernel) rfl (by decide +kernel) (by decide +kernel), .ty _, rfl⟩
  | tuple hg hm => exact ⟨rfl, (fun _ z => nomatch z), .ty "tuple", .type "tuple", pe_bltn hg hm (by decide +kernel) rfl (by decide +kernel) (by decide +kernel), .ty _, rfl⟩
  | @own pos x c hg hm hd hc => exact ⟨rfl, (fun _ z => by cases z; exact hc), .ref (g.CA c), .ref (g.CA c), pe_glob hg hm rfl hd, .own _, rfl⟩
theorem s_isi {t : Isi} (G : ClsG g D.nC) (hK : X.K = g.K) (hg : Gl X "isinstance") (hm : X.mg "isinstance" = none) (hs : nstar a = true) (ha : PE X a (tE g D ca)) (hb : ClsE X g D.nC b t) : PE X (.Call (.Name "isinstance" p) [a, b] [] pos) (tE g D (.isi ca t)) := by
  obtain ⟨hs2, ht, v, u, hp, hv, hu⟩ := hb.pe
  refine PE.conv (pe_callB call_isi hg hm PyProof.Rows.boot_isinstance (pa_cons ha (pa_cons hp pa_nil (starEach_cons hs2)) (starEach_cons hs)) (by decide +kernel) (by decide +kernel) (starEach_cons hs) (starEach_any (by simp [hs2]))) fun σ H Q h => ?_
  obtain ⟨F, mu, env, m, hE, hM, hw⟩ := h
  refine ⟨F, mu, env, m, hE, hM, (W.bind hw).mono fun p m1 F1 mu1 H1 st rm hw1 x hx => ?_⟩
  obtain ⟨z, hz, hw2⟩ := W.of hw1
  cases e : isiop D.nC t (vw m1 p) with
  | none => rw [e] at hz; cases hz
  | some r =>
    rw [e] at hz
    cases hz
    obtain ⟨hc, w, h1, h2⟩ := kit_one G ht hu e
    rw [hK]
    exact ⟨x, v, w, u, r, rfl, hv, tyx G rm hx h1 hc, h2, W.ok hw2 rm _ rfl⟩
theorem s_isiT {k : Nat} {p1 p2 p3 : Pos} (G : ClsG g D.nC) (hK : X.K = g.K) (hg : Gl X "isinstance") (hm : X.mg "isinstance" = none) (hgl : Gl X "list") (hml : X.mg "list" = none) (hgt : Gl X "tuple") (hmt : X.mg "tuple" = none) (hs : nstar a = true) (ha : PE X a (tE g D ca)) :
    PE X (.Call (.Name "isinstance" p) [a, .Tuple [.Name "list" p1, .Name "tuple" p2] k p3] [] pos) (tE g D (.isi ca .seq)) := by
  have pl : PE X (.Name "list" p1) (tC (.ty "list")) := pe_bltn hgl hml (by decide +kernel) rfl (by decide +kernel) (by decide +kernel)
  have pt : PE X (.Name "tuple" p2) (tC (.ty "tuple")) := pe_bltn hgt hmt (by decide +kernel) rfl (by decide +kernel) (by decide +kernel)
  refine PE.conv (pe_callB call_isiT hg hm PyProof.Rows.boot_isinstance (pa_cons ha (pa_cons (pe_tup (pa_cons pl (pa_cons pt pa_nil))) pa_nil rfl) (starEach_cons hs)) (by decide +kernel) (by decide +kernel) (starEach_cons hs) rfl) fun σ H Q h => ?_
  obtain ⟨F, mu, env, m, hE, hM, hw⟩ := h
  refine ⟨F, mu, env, m, hE, hM, (W.bind hw).mono fun p m1 F1 mu1 H1 st rm hw1 x hx => ?_⟩
  obtain ⟨z, hz, hw2⟩ := W.of hw1
  cases e : isiop D.nC .seq (vw m1 p) with
  | none => rw [e] at hz; cases hz
  | some r =>
    rw [e] at hz
    cases hz
    obtain ⟨hc, w, h1, h2⟩ := kit_seq G e
    rw [hK]
    refine ⟨by rw [sizeLine_eq]; simp, fun q hq => ?_⟩
    obtain ⟨s, r2⟩ := frozen_new (o := .tup [.ty "list", .ty "tuple"]) rm hq
    exact ⟨x, q, [.ty "list", .ty "tuple"], w, [.type "list", .type "tuple"], r, rfl, upd_same, .cons (.ty _) (.cons (.ty _) .nil), tyx G r2 (hx.step s) h1 hc, h2, hw2 _ _ _ s r2 _ rfl⟩
end
end Co

end P_CoreMore2
section P_CoreMore3
set_option Elab.async false
set_option linter.all false
set_option maxRecDepth 100000
set_option maxHeartbeats 2000000
/-! CoreMore3: stores into lists, what else is walked. -/
namespace Co
open PySem PySem.Spec PyProof.Rows L2
section
variable {X : Cx} {g : G} {D : Cl} {a b c tg : Expr} {ca cb cc : CE} {pos pos' p tpos : Pos} {x : Str} {n : Nat}
theorem ckbind {α β : Type} {b : Bool} {o : Out α} {f : α → Mem → Out β} {F : Hp} {mu : List Addr} {H : Hp} {Q : β → Mem → Hp → List Addr → Hp → Prop} (h : W g F mu H ((Co.ck b o).bind f) Q) : W g F mu H (Co.ck b (o.bind f)) Q := by
  cases b with
  | true => exact h
  | false => exact h
theorem PS.or {s : Stmt} {t t' : TS} (h : PS X s t) (h' : PS X s t') : PS X s (fun D σ H => t D σ H ∨ t' D σ H) := ⟨fun pins s σ H D I q => q.elim (h.run pins s σ H D I) (h'.run pins s σ H D I)⟩
theorem any_key {k : Key} : ∀ (ks : List Key) (vs : List V), vs.length = ks.length → ((ks.zip vs).any fun kv => decide (kv.1 = k)) = ks.any fun q => decide (q = k)
  | [], [], _ => rfl
  | q :: ks, v :: vs, h => by
    rw [List.zip_cons_cons, List.any_cons, List.any_cons, any_key ks vs (by simpa using h)]
  | [], _ :: _, h => by simp at h
  | _ :: _, [], h => by simp at h
theorem set_all {k : Key} {q : PV} {w : V} {F : Hp} {mu : List Addr} (hw : Rep g.K g.CA F mu q w) : ∀ {ks : List Key} {ps : List PV} {vs : List V}, Reps g.K g.CA F mu ps vs → ps.length = ks.length → ∃ ws, Reps g.K g.CA F mu (setAll ks ps k q) ws ∧ (setAll ks ps k q).length = ks.length ∧
    ks.zip ws = (ks.zip vs).map (fun kv => if kv.1 = k then (kv.1, w) else kv)
  | [], [], vs, h, _ => by
    rw [show _ = _ from h]
    exact ⟨[], rfl, rfl, rfl⟩
  | c :: ks, p :: ps, vs, h, hl => by
    obtain ⟨v, r, rfl, h1, h2⟩ := h
    obtain ⟨ws, k1, k2, k3⟩ := set_all hw h2 (by simpa using hl)
    simp only [setAll]
    by_cases e : c = k
    · rw [if_pos e]
      refine ⟨w :: ws, ⟨w, ws, rfl, hw, k1⟩, by rw [List.length_cons, List.length_cons, k2], ?_⟩
      rw [List.zip_cons_cons, List.zip_cons_cons, List.map_cons, k3, if_pos e]
    · rw [if_neg e]
      refine ⟨v :: ws, ⟨v, ws, rfl, h1, k1⟩, by rw [List.length_cons, List.length_cons, k2], ?_⟩
      rw [List.zip_cons_cons, List.zip_cons_cons, List.map_cons, k3, if_neg e]
  | [], _ :: _, _, _, hl => by simp at hl
  | _ :: _, [], _, _, hl => by simp at hl
theorem dput_spec {k : Key} {q : PV} {w : V} {F : Hp} {mu : List Addr} (hw : Rep g.K g.CA F mu q w) {ks : List Key} {ps : List PV} {vs : List V} (h : Reps g.K g.CA F mu ps vs) (hl : ps.length = ks.length) : ∃ ws, Reps g.K g.CA F mu (dputv ks ps k q).2 ws ∧ (dputv ks ps k q).2.length = (dputv ks ps k q).1.length ∧
    (dputv ks ps k q).1.length ≤ ks.length + 1 ∧ (dputv ks ps k q).1.zip ws = putK (ks.zip vs) k w := by
  have hvl : vs.length = ks.length := by rw [h.length, hl]
  unfold dputv putK
  rw [any_key ks vs hvl]
  cases e : ks.any fun q => decide (q = k) with
  | true =>
    obtain ⟨ws, k1, k2, k3⟩ := set_all hw h hl
    exact ⟨ws, k1, k2, Nat.le_succ _, by rw [if_pos rfl]; exact k3⟩
  | false =>
    refine ⟨vs ++ [w], h.append ⟨w, [], rfl, hw, rfl⟩, by rw [List.length_append, List.length_append, hl]; rfl, by rw [List.length_append]; exact Nat.le_refl _, ?_⟩
    rw [if_neg (by decide), List.zip_append hvl.symm]
    rfl
theorem asKey_rep {F : Hp} {mu : List Addr} {p : PV} {x : V} {k : Key} (h : asKey p = some k) (hx : Rep g.K g.CA F mu p x) : x = kV k := by
  cases p <;> first | (cases h; exact hx) | cases h
theorem swaps_sub {e o i : Expr} {tpos : Pos} {line : Nat} {env : PySem.Env} : swapsWith e (some (.Subscript o i tpos)) line env = pure false := by
  cases e <;> rfl
theorem swaps_attr {e o : Expr} {f : Str} {tpos : Pos} {line : Nat} {env : PySem.Env} : swapsWith e (some (.Attribute o f tpos)) line env = pure false := by
  cases e <;> rfl
/-- the evaluation of the three parts, by what comes at the end -/
theorem three {F : Hp} {mu : List Addr} {H : Hp} {env : Env} {m : Mem} {σ : L2.St} {β : Type} {k : PV → PV → PV → Mem → Out β} {P : β → Mem → Hp → List Addr → Hp → Prop} (hE : EnvR g F mu env σ) (hM : RelM g.K g.CA F mu m H)
    (hw : W g F mu H ((evE D cc env m).bind fun v m1 => (evE D ca env m1).bind fun x m2 => (evE D cb env m2).bind fun y m3 => k v x y m3) P) :
    ∃ v x y m3, (∃ F3 mu3 H3, W g F3 mu3 H3 (k v x y m3) P) ∧ ∀ (r : V → V → V → Hp → Prop), (∀ F3 mu3 H3 vv xx yy, EnvR g F3 mu3 env σ → RelM g.K g.CA F3 mu3 m3 H3 → Rep g.K g.CA F3 mu3 v vv → Rep g.K g.CA F3 mu3 x xx → Rep g.K g.CA F3 mu3 y yy → W g F3 mu3 H3 (k v x y m3) P → r vv xx yy H3) →
      tE g D cc σ H fun vv H1 => tE g D ca σ H1 fun xx H2 => tE g D cb σ H2 fun yy H3 => r vv xx yy H3 := by
  have h0 := hw
  cases e1 : evE D cc env m with
  | stuck => rw [e1] at h0; exact h0.elim
  | exc z m1 => rw [e1] at h0; exact h0.elim
  | ok v m1 =>
  rw [e1] at h0
  simp only [Out.bind] at h0
  cases e2 : evE D ca env m1 with
  | stuck => rw [e2] at h0; exact h0.elim
  | exc z m1 => rw [e2] at h0; exact h0.elim
  | ok x m2 =>
  rw [e2] at h0
  simp only [Out.bind] at h0
  cases e3 : evE D cb env m2 with
  | stuck => rw [e3] at h0; exact h0.elim
  | exc z m1 => rw [e3] at h0; exact h0.elim
  | ok y m3 =>
  rw [e3] at h0
  simp only [Out.bind] at h0
  refine ⟨v, x, y, m3, ⟨_, _, _, h0⟩, fun r hr => ?_⟩
  refine ⟨F, mu, env, m, hE, hM, ?_⟩
  rw [e1]
  intro F1 mu1 H1 st1 rm1 vv hvv
  refine ⟨F1, mu1, env, m1, hE.step st1, rm1, ?_⟩
  rw [e2]
  intro F2 mu2 H2 st2 rm2 xx hxx
  refine ⟨F2, mu2, env, m2, (hE.step st1).step st2, rm2, ?_⟩
  rw [e3]
  intro F3 mu3 H3 st3 rm3 yy hyy
  exact hr F3 mu3 H3 vv xx yy (((hE.step st1).step st2).step st3) rm3 ((hvv.step st2).step st3) (hxx.step st3) hyy (W.shift (W.shift (W.shift h0 st1) st2) st3)
def notSlice : Expr → Bool
  | .Slice .. => false
  | _ => true
theorem s_setix (hns : notSlice b = true) (hu : X.A.units + 1 < cLine) (ho : PE X a (tE g D ca)) (hi : PE X b (tE g D cb)) (hv : PE X c (tE g D cc)) : PS X (.Assign [.Subscript a b pos] c pos') (tS g D n (.setix ca cb cc)) := by
  refine PS.conv (PS.or (ps_asg hv (pg_sub ho hi set_list (by cases b <;> first | (intro _; rfl) | cases hns)) (swaps_sub (e := c) (o := a) (i := b) (tpos := pos) (line := pos'.line) (env := X.env)) (by cases c <;> rfl) rfl) (ps_dput hu ho hi hv (swaps_sub (e := c) (o := a) (i := b) (tpos := pos) (line := pos'.line) (env := X.env)))) fun Dn σ H h => ?_
  obtain ⟨F, mu, env, m, hE, hM, hw⟩ := h
  obtain ⟨v, x, y, m3, ⟨_, _, _, hk⟩, go⟩ := three (k := fun v x y m3 => (setixO v x y m3).bind fun _ m4 => .ok (Fl.nx, env) m4) hE hM hw
  cases x with
  | ref nn =>
    cases ec : m3[nn]? with
    | none => simp only [setixO, ec] at hk; exact hk.elim
    | some cell =>
      cases cell with
      | lst xs =>
        refine .inl (go (fun vv xx yy H3 => rSetL xx yy vv H3 fun H4 => Dn.nx σ H4) ?_)
        intro F3 mu3 H3 vv xx yy hE3 rm3 hvv hxx hyy hw3
        simp only [setixO, ec] at hw3
        cases y with
        | int k =>
          dsimp only at hw3
          split at hw3
          · rename_i j hj
            obtain ⟨hb, hw4⟩ := W.ck (ckbind hw3)
            obtain ⟨p, rfl, h1⟩ := hxx
            obtain ⟨q, hq, vs, k1, k2, k3⟩ := rm3.cells nn _ ec
            rw [h1] at hq
            cases hq
            obtain ⟨s, r⟩ := cell_set (c := .lst (xs.set j v)) (o := .lst (vs.set j vv)) rm3 h1 ⟨_, upd_same, by rw [List.length_set]; exact k2, k3.setAt j (rep_below v vv hvv hb)⟩
            refine ⟨p, vs, k, j, rfl, hyy, k1, by rw [k3.length]; exact hj, ?_⟩
            exact hw4 _ _ _ s r σ (hE3.step s)
          · exact hw3.elim
        | _ => exact hw3.elim
      | dic ks vs =>
        refine .inr (go (fun vv xx yy H3 => ∃ a H4, xx = .ref a ∧ DPut H3 a yy vv H4 ∧ Dn.nx σ H4) ?_)
        intro F3 mu3 H3 vv xx yy hE3 rm3 hvv hxx hyy hw3
        simp only [setixO, ec] at hw3
        split at hw3
        · rename_i k hk
          obtain ⟨hb, hw4⟩ := W.ck (ckbind hw3)
          rw [Bool.and_eq_true] at hb
          have hlt : ks.length < 100000 := of_decide_eq_true hb.2
          obtain ⟨p, rfl, h1⟩ := hxx
          obtain ⟨q, hq, us, k1, k2, k3, k4⟩ := rm3.cells nn _ ec
          rw [h1] at hq
          cases hq
          obtain ⟨ws, d1, d2, d3, d4⟩ := dput_spec (k := k) (rep_below v vv hvv hb.1) k4 k2
          have hyk := asKey_rep hk hyy
          obtain ⟨s, r⟩ := cell_set (c := .dic (dputv ks vs k v).1 (dputv ks vs k v).2) (o := .dK (putK (ks.zip us) k vv)) rm3 h1 ⟨ws, by rw [d4]; exact upd_same, d2, by rw [d2, sizeLine_eq]; omega, d1⟩
          refine ⟨p, _, rfl, .inl ⟨ks.zip us, k, k1, hyk, by rw [List.length_zip, k4.length, k2, sizeLine_eq]; omega, rfl⟩, ?_⟩
          exact hw4 _ _ _ s r σ (hE3.step s)
        · exact hw3.elim
      | _ => simp only [setixO, ec] at hk; exact hk.elim
  | _ => exact hk.elim
theorem si_rev (hK : X.K = g.K) (hg : Gl X "reversed") (hm : X.mg "reversed" = none) (hs : nstar a = true) (ha : PE X a (tE g D ca)) : PI X tg (.Call (.Name "reversed" p) [a] [] pos) (tI g D (.rev ca)) := by
  refine PI.conv (RT.pi_revA hg hm ha (starEach_cons hs)) fun σ H R h => ?_
  obtain ⟨F, mu, env, m, hE, hM, hw⟩ := h
  refine ⟨F, mu, env, m, hE, hM, (W.bind hw).mono fun q m1 F1 mu1 H1 st rm hw1 v hv => ?_⟩
  have gen : ∀ (xs : List PV) (vs : List V) (i : Nat) (p : PV) (F2 : Hp) (mu2 : List Addr), Reps g.K g.CA F2 mu2 xs vs → xs.reverse[i]? = some p → i < vs.length ∧ ∃ v, vs[vs.length - 1 - i]? = some v ∧ Rep g.K g.CA F2 mu2 p v := fun xs vs i p F2 mu2 h hp => by
    have hl := h.length
    have hi : i < xs.length := by
      have := (List.getElem?_eq_some_iff.mp hp).1
      simpa using this
    rw [List.getElem?_reverse hi] at hp
    obtain ⟨v, hv, hr⟩ := h.get hp
    exact ⟨by omega, v, by rw [hl]; exact hv, hr⟩
  rw [hK]
  cases q with
  | lst xs =>
    obtain ⟨a, vs, rfl, h1, h2, h3⟩ := hv
    refine ⟨a, vs, rfl, .inl ⟨.of (fr_lst rm h1), W.ok hw1 rm _ (ItOk.fix ?_ (by rw [List.length_reverse]; exact h2))⟩⟩
    intro F2 mu2 m2 H2 fF fm rm2 i
    have h4 := Reps.mono (K := g.K) (CA := g.CA) fF fm xs vs h3
    have e : SqL g.K H2 a vs := .of (fr_lst rm2 (fF _ _ h1))
    refine ⟨fun p hp => ?_, fun hi => by
      show vs.length ≤ i
      rw [h4.length]
      simpa using hi⟩
    obtain ⟨hi, v, hv, hr⟩ := gen xs vs i p F2 mu2 h4 hp
    refine ⟨⟨hi, vs, v, e, hv⟩, fun x H3 hy => ?_⟩
    obtain ⟨rfl, hy⟩ := hy
    have := hy vs e
    rw [hv] at this
    cases this
    exact ⟨F2, St2.refl, rm2, hr⟩
  | tup xs =>
    obtain ⟨a, vs, rfl, h1, h2, h3⟩ := hv
    refine ⟨a, vs, rfl, .inr ⟨fr_sqT rm h1, W.ok hw1 rm _ (ItOk.fix ?_ (by rw [List.length_reverse]; exact h2))⟩⟩
    intro F2 mu2 m2 H2 fF fm rm2 i
    have h4 := Reps.mono (K := g.K) (CA := g.CA) fF fm xs vs h3
    have e : SqT g.K H2 a vs := fr_sqT rm2 (sqt_mono h1 fF)
    refine ⟨fun p hp => ?_, fun hi => by
      show vs.length ≤ i
      rw [h4.length]
      simpa using hi⟩
    obtain ⟨hi, v, hv, hr⟩ := gen xs vs i p F2 mu2 h4 hp
    refine ⟨⟨hi, vs, v, e, hv⟩, fun x H3 hy => ?_⟩
    obtain ⟨rfl, hy⟩ := hy
    have := hy vs e
    rw [hv] at this
    cases this
    exact ⟨F2, St2.refl, rm2, hr⟩
  | _ => exact hw1.elim
theorem zip_idx {xs : List PV} {i : Nat} {p : PV} (h : (xs.zipIdx.map fun q => PV.tup [.int (q.2 : Int), q.1])[i]? = some p) : ∃ y, xs[i]? = some y ∧ p = .tup [.int (i : Int), y] := by
  rw [List.getElem?_map, List.getElem?_zipIdx] at h
  cases e : xs[i]? with
  | none => rw [e] at h; cases h
  | some y =>
    rw [e] at h
    cases h
    exact ⟨y, rfl, by simp⟩
theorem si_enum {elts : List Expr} {kk : Nat} (hK : X.K = g.K) (hg : Gl X "enumerate") (hm : X.mg "enumerate" = none) (hs : nstar a = true) (ha : PE X a (tE g D ca)) : PI X (.Tuple elts kk tpos) (.Call (.Name "enumerate" p) [a] [] pos) (tI g D (.enum ca)) := by
  refine PI.conv (pi_enum hg hm (sa_cons' hs ha sa_nil) (starEach_cons hs)) fun σ H R h => ?_
  obtain ⟨F, mu, env, m, hE, hM, hw⟩ := h
  refine ⟨F, mu, env, m, hE, hM, one_arg hw fun q m1 F1 mu1 H1 st rm hw1 vs hvs => ?_⟩
  obtain ⟨v, r', rfl, hv, hr⟩ := hvs
  cases hr
  rw [hK]
  cases q with
  | lst xs =>
    obtain ⟨a, vs, rfl, h1, h2, h3⟩ := hv
    refine ⟨a, vs, rfl, .of (fr_lst rm h1), W.ok hw1 rm _ (ItOk.fix ?_ (by rw [List.length_map, List.length_zipIdx]; exact h2))⟩
    intro F2 mu2 m2 H2 fF fm rm2 i
    have h4 := Reps.mono (K := g.K) (CA := g.CA) fF fm xs vs h3
    have e : SqL g.K H2 a vs := .of (fr_lst rm2 (fF _ _ h1))
    refine ⟨fun p hp => ?_, fun hi => ⟨vs, e, by rw [h4.length]; simpa using hi⟩⟩
    obtain ⟨y, hy, rfl⟩ := zip_idx hp
    obtain ⟨v, hv, hr⟩ := h4.get hy
    refine ⟨⟨vs, v, e, hv⟩, fun x H3 hy => ?_⟩
    obtain ⟨T, x', rfl, hT, rfl, hy⟩ := hy
    have := hy vs e
    rw [hv] at this
    cases this
    obtain ⟨s, r, z⟩ := rep_new_tup (ps := [.int (i : Int), y]) rm2 ⟨.int (i : Int), [v], rfl, rfl, v, [], rfl, hr, rfl⟩ (by rw [sizeLine_eq]; simp) hT
    exact ⟨_, s, r, z⟩
  | _ => exact hw1.elim
theorem zip_at {xs ys : List PV} {i : Nat} {p : PV} (h : ((xs.zip ys).map fun q => PV.tup [q.1, q.2])[i]? = some p) : ∃ y z, xs[i]? = some y ∧ ys[i]? = some z ∧ p = .tup [y, z] := by
  rw [List.getElem?_map] at h
  cases e : (xs.zip ys)[i]? with
  | none => rw [e] at h; cases h
  | some q =>
    rw [e] at h
    cases h
    obtain ⟨h1, h2⟩ := List.getElem?_zip_eq_some.mp e
    exact ⟨q.1, q.2, h1, h2, rfl⟩
theorem si_zip {elts : List Expr} {kk : Nat} (hK : X.K = g.K) (hg : Gl X "zip") (hm : X.mg "zip" = none) (hs : nstar a = true) (hs2 : nstar b = true) (ha : PE X a (tE g D ca)) (hb : PE X b (tE g D cb)) : PI X (.Tuple elts kk tpos) (.Call (.Name "zip" p) [a, b] [] pos) (tI g D (.zip ca cb)) := by
  refine PI.conv (RZ.pi_zipA hg hm (sa_cons' hs ha (sa_cons' hs2 hb sa_nil)) (starEach_cons hs) (starEach_any (by simp [hs2]))) fun σ H R h => ?_
  obtain ⟨F, mu, env, m, hE, hM, hw⟩ := h
  refine ⟨F, mu, env, m, hE, hM, two_arg (k := zipO) hw fun p q m1 F1 mu1 H1 rm hw1 vs hvs => ?_⟩
  obtain ⟨v, r', rfl, hv, w, r2, rfl, hw2, hr⟩ := hvs
  cases hr
  rw [hK]
  cases p with
  | lst xs =>
    cases q with
    | lst ys =>
      obtain ⟨a, vs, rfl, h1, h2, h3⟩ := hv
      obtain ⟨b, ws, rfl, k1, k2, k3⟩ := hw2
      refine ⟨a, b, vs, ws, rfl, .inl ⟨.of (fr_lst rm h1), .of (fr_lst rm k1), W.ok hw1 rm _ (ItOk.fix ?_ (by rw [List.length_map, List.length_zip]; omega))⟩⟩
      intro F2 mu2 m2 H2 fF fm rm2 i
      have h4 := Reps.mono (K := g.K) (CA := g.CA) fF fm xs vs h3
      have k4 := Reps.mono (K := g.K) (CA := g.CA) fF fm ys ws k3
      have e : SqL g.K H2 a vs := .of (fr_lst rm2 (fF _ _ h1))
      have e' : SqL g.K H2 b ws := .of (fr_lst rm2 (fF _ _ k1))
      refine ⟨fun p hp => ?_, fun hi => ⟨vs, ws, e, e', by
        rw [h4.length, k4.length]
        rw [List.length_map, List.length_zip] at hi
        omega⟩⟩
      obtain ⟨y, z, hy, hz, rfl⟩ := zip_at hp
      obtain ⟨v, hv, hr⟩ := h4.get hy
      obtain ⟨w, hw, hr2⟩ := k4.get hz
      refine ⟨⟨vs, ws, v, w, e, e', hv, hw⟩, fun x H3 hy => ?_⟩
      obtain ⟨T, x', y', rfl, hT, rfl, hy, hy2⟩ := hy
      have := hy vs e
      rw [hv] at this
      cases this
      have := hy2 ws e'
      rw [hw] at this
      cases this
      obtain ⟨s, r, z⟩ := rep_new_tup (ps := [y, z]) rm2 ⟨v, [w], rfl, hr, w, [], rfl, hr2, rfl⟩ (by rw [sizeLine_eq]; simp) hT
      exact ⟨_, s, r, z⟩
    | _ => exact hw1.elim
  | tup xs =>
    cases q with
    | tup ys =>
      obtain ⟨a, vs, rfl, h1, h2, h3⟩ := hv
      obtain ⟨b, ws, rfl, k1, k2, k3⟩ := hw2
      refine ⟨a, b, vs, ws, rfl, .inr ⟨fr_sqT rm h1, fr_sqT rm k1, W.ok hw1 rm _ (ItOk.fix ?_ (by rw [List.length_map, List.length_zip]; omega))⟩⟩
      intro F2 mu2 m2 H2 fF fm rm2 i
      have h4 := Reps.mono (K := g.K) (CA := g.CA) fF fm xs vs h3
      have k4 := Reps.mono (K := g.K) (CA := g.CA) fF fm ys ws k3
      have e : SqT g.K H2 a vs := fr_sqT rm2 (sqt_mono h1 fF)
      have e' : SqT g.K H2 b ws := fr_sqT rm2 (sqt_mono k1 fF)
      refine ⟨fun p hp => ?_, fun hi => ⟨vs, ws, e, e', by
        rw [h4.length, k4.length]
        rw [List.length_map, List.length_zip] at hi
        omega⟩⟩
      obtain ⟨y, z, hy, hz, rfl⟩ := zip_at hp
      obtain ⟨v, hv, hr⟩ := h4.get hy
      obtain ⟨w, hw, hr2⟩ := k4.get hz
      refine ⟨⟨vs, ws, v, w, e, e', hv, hw⟩, fun x H3 hy => ?_⟩
      obtain ⟨T, x', y', rfl, hT, rfl, hy, hy2⟩ := hy
      have := hy vs e
      rw [hv] at this
      cases this
      have := hy2 ws e'
      rw [hw] at this
      cases this
      obtain ⟨s, r, z⟩ := rep_new_tup (ps := [y, z]) rm2 ⟨v, [w], rfl, hr, w, [], rfl, hr2, rfl⟩ (by rw [sizeLine_eq]; simp) hT
      exact ⟨_, s, r, z⟩
    | _ => exact hw1.elim
  | _ => exact hw1.elim
/-- two parts, by what comes at the end -/
theorem two_go {F : Hp} {mu : List Addr} {H : Hp} {env : Env} {m : Mem} {σ : L2.St} {β : Type} {k : PV → PV → Mem → Out β} {P : β → Mem → Hp → List Addr → Hp → Prop} (hE : EnvR g F mu env σ) (hM : RelM g.K g.CA F mu m H)
    (hw : W g F mu H ((evE D ca env m).bind fun x m2 => (evE D cb env m2).bind fun y m3 => k x y m3) P) :
    ∃ x y m3, (∃ F3 mu3 H3, W g F3 mu3 H3 (k x y m3) P) ∧ ∀ (r : V → V → Hp → Prop), (∀ F3 mu3 H3 xx yy, EnvR g F3 mu3 env σ → RelM g.K g.CA F3 mu3 m3 H3 → Rep g.K g.CA F3 mu3 x xx → Rep g.K g.CA F3 mu3 y yy → W g F3 mu3 H3 (k x y m3) P → r xx yy H3) →
      tE g D ca σ H fun xx H2 => tE g D cb σ H2 fun yy H3 => r xx yy H3 := by
  have h0 := hw
  cases e2 : evE D ca env m with
  | stuck => rw [e2] at h0; exact h0.elim
  | exc z m1 => rw [e2] at h0; exact h0.elim
  | ok x m2 =>
  rw [e2] at h0
  simp only [Out.bind] at h0
  cases e3 : evE D cb env m2 with
  | stuck => rw [e3] at h0; exact h0.elim
  | exc z m1 => rw [e3] at h0; exact h0.elim
  | ok y m3 =>
  rw [e3] at h0
  simp only [Out.bind] at h0
  refine ⟨x, y, m3, ⟨_, _, _, h0⟩, fun r hr => ?_⟩
  refine ⟨F, mu, env, m, hE, hM, ?_⟩
  rw [e2]
  intro F2 mu2 H2 st2 rm2 xx hxx
  refine ⟨F2, mu2, env, m2, hE.step st2, rm2, ?_⟩
  rw [e3]
  intro F3 mu3 H3 st3 rm3 yy hyy
  exact hr F3 mu3 H3 xx yy ((hE.step st2).step st3) rm3 (hxx.step st3) hyy (W.shift (W.shift h0 st2) st3)
theorem one_go {F : Hp} {mu : List Addr} {H : Hp} {env : Env} {m : Mem} {σ : L2.St} {β : Type} {k : PV → Mem → Out β} {P : β → Mem → Hp → List Addr → Hp → Prop} (hE : EnvR g F mu env σ) (hM : RelM g.K g.CA F mu m H)
    (hw : W g F mu H ((evE D ca env m).bind fun x m2 => k x m2) P) :
    ∃ x m3, (∃ F3 mu3 H3, W g F3 mu3 H3 (k x m3) P) ∧ ∀ (r : V → Hp → Prop), (∀ F3 mu3 H3 xx, EnvR g F3 mu3 env σ → RelM g.K g.CA F3 mu3 m3 H3 → Rep g.K g.CA F3 mu3 x xx → W g F3 mu3 H3 (k x m3) P → r xx H3) →
      tE g D ca σ H fun xx H2 => r xx H2 := by
  have h0 := hw
  cases e2 : evE D ca env m with
  | stuck => rw [e2] at h0; exact h0.elim
  | exc z m1 => rw [e2] at h0; exact h0.elim
  | ok x m2 =>
  rw [e2] at h0
  simp only [Out.bind] at h0
  refine ⟨x, m2, ⟨_, _, _, h0⟩, fun r hr => ?_⟩
  refine ⟨F, mu, env, m, hE, hM, ?_⟩
  rw [e2]
  intro F2 mu2 H2 st2 rm2 xx hxx
  exact hr F2 mu2 H2 xx (hE.step st2) rm2 hxx (W.shift h0 st2)
theorem noSl (hs : notSlice b = true) : NoSl b := by
  cases b <;> first | (intro _ _; rfl) | cases hs
theorem s_ix (hK : X.K = g.K) (hu : X.A.units + 1 < cLine) (hns : notSlice b = true) (hs : PlainIx b) (ha : PE X a (tE g D ca)) (hb : PE X b (tE g D cb)) : PE X (.Subscript a b pos) (tE g D (.ix ca cb)) := by
  refine PE.conv (PE.or (pe_ix ix_seq ha hb hs) (pe_dget hu ha hb (noSl hns))) fun σ H Q h => ?_
  obtain ⟨F, mu, env, m, hE, hM, hw⟩ := h
  obtain ⟨p, q, m3, ⟨_, _, _, hk⟩, go⟩ := two_go (k := fun p q m => Out.of (ixop (vw m p) q) m) hE hM hw
  by_cases hd : ∃ ks vs, vw m3 p = .dic ks vs
  · obtain ⟨ks, ps, ed⟩ := hd
    refine .inr (go (fun xx yy H3 => ∃ a v, xx = .ref a ∧ DGet H3 a yy (some v) ∧ Q v H3) ?_)
    intro F3 mu3 H3 xx yy hE3 rm3 hxx hyy hw3
    have vx := view rm3 hxx
    rw [ed] at hw3 vx
    obtain ⟨z, hz, hw4⟩ := W.of hw3
    obtain ⟨a, vs, rfl, h1, h2, h3, h4⟩ := vx
    simp only [ixop] at hz
    cases ek : asKey q with
    | none => rw [ek] at hz; cases hz
    | some k =>
      rw [ek] at hz
      have hz : dvat ks ps k = some z := hz
      have hv := reps_zip k h4 h2
      rw [hz] at hv
      obtain ⟨v, hv1, hv2⟩ := hv
      exact ⟨a, v, rfl, .inl ⟨ks.zip vs, k, h1, asKey_rep ek hyy, hv1.symm⟩, W.ok hw4 rm3 v hv2⟩
  · refine .inl (go (fun xx yy H3 => rIx X.K xx yy H3 Q) ?_)
    intro F3 mu3 H3 xx yy hE3 rm3 hxx hyy hw3
    rw [hK]
    refine ix0_ok rm3 hxx hyy ?_
    have e : ixop (vw m3 p) q = ixop0 (vw m3 p) q := by
      unfold ixop
      split
      · rename_i ks vs e
        exact absurd ⟨ks, vs, e⟩ hd
      · rfl
    rw [e] at hw3
    exact hw3
end
end Co

end P_CoreMore3
section P_CoreCls
set_option Elab.async false
set_option linter.all false
set_option maxRecDepth 100000
set_option maxHeartbeats 2000000
/-! CoreCls: calls with keywords and defaults, own classes. -/
namespace Co
open PySem PySem.Spec PyProof.Rows L2
def CEs.cnt : CEs → Nat
  | .nil => 0
  | .cons _ r => r.cnt + 1
  | .star _ r => r.cnt + 1
/-- the keywords' names -/
def kwNames : List Keyword → Option (List Str)
  | [] => some []
  | ⟨some n, _, _⟩ :: r => (kwNames r).map (n :: ·)
  | ⟨none, _, _⟩ :: _ => none
def kwVals : List Keyword → List Expr
  | [] => []
  | ⟨_, e, _⟩ :: r => e :: kwVals r
theorem kw_all {env : PySem.Env} {pos : Pos} : ∀ {kws : List Keyword} {ks : List Str}, kwNames kws = some ks → (backToKw pos (keywordEach kws env)).all (·.1.isSome) = true ∧ (backToKw pos (keywordEach kws env)).filterMap (·.1) = ks ∧ (backToKw pos (keywordEach kws env)).any (·.1.isNone) = false
  | [], ks, h => by cases h; exact ⟨rfl, rfl, rfl⟩
  | ⟨some n, e, p⟩ :: r, ks, h => by
    simp only [kwNames] at h
    cases q : kwNames r with
    | none => rw [q] at h; cases h
    | some ks' =>
      rw [q] at h
      cases h
      obtain ⟨h1, h2, h3⟩ := kw_all (env := env) (pos := pos) q
      refine ⟨?_, ?_, ?_⟩
      · show (true && (backToKw pos (keywordEach r env)).all (·.1.isSome)) = true
        rw [h1]; rfl
      · show n :: (backToKw pos (keywordEach r env)).filterMap (·.1) = _
        rw [h2]
      · show (false || (backToKw pos (keywordEach r env)).any (·.1.isNone)) = false
        rw [h3]; rfl
  | ⟨none, e, p⟩ :: r, ks, h => by cases h
section
variable {X : Cx} {g : G} {D : Cl} {es : List Expr} {kws : List Keyword} {ks : List Str} {ces cks : CEs} {pos p apos : Pos} {pins : List (Addr × Obj)} {σ : L2.St} {H : Hp} {s : Shared} {x : Str}
theorem evalArgs_any {f : Value} {R : List V → List V → Hp → Prop} {t tk : TA} (hs : es.all nstar = true) (hk : kwNames kws = some ks) (ha : PA X es t) (hnil : es = [] → ∀ σ H Q, t σ H Q → Q [] H) (hkw : PK X kws tk) (I : Inv X pins σ H s)
    (q : t σ H fun vs H1 => tk σ H1 fun zs H2 => R vs zs H2) :
    wpAny (model X.prog X.w) X.A (evalArgs f true (backTo pos (starEach es X.env)) (backToKw pos (keywordEach kws X.env))) (fun a s2 => ∃ us ws vs zs H2, a = ⟨us, ks.zip ws⟩ ∧ Inv X pins σ H2 s2 ∧ Vals vs us ∧ Vals zs ws ∧ R vs zs H2) X.xe s := by
  obtain ⟨h1, h2, h3⟩ := kw_all (env := X.env) (pos := pos) hk
  cases es with
  | nil =>
    have q' := hnil rfl σ H _ q
    refine evalArgs_kw2_nil h1 (thn (hkw.run pos pins s σ H _ I q') fun ws s2 ⟨zs, H2, I2, rz, hR⟩ => ?_)
    rw [h2]
    exact ⟨[], ws, [], zs, H2, rfl, I2, .nil, rz, hR⟩
  | cons e es =>
    rw [List.all_cons, Bool.and_eq_true] at hs
    refine evalArgs_kw2 h1 (thn (ha.run pos pins s σ H _ I q) fun us s1 ⟨vs, H1, I1, r, q1⟩ => thn (hkw.run pos pins s1 σ H1 _ I1 q1) fun ws s2 ⟨zs, H2, I2, rz, hR⟩ => ?_) (starEach_cons hs.1)
    rw [h2]
    exact ⟨us, ws, vs, zs, H2, rfl, I2, r, rz, hR⟩
theorem plain_any (hs : es.all nstar = true) (hk : kwNames kws = some ks) : ((backTo pos (starEach es X.env)).any (·.1) || (backToKw pos (keywordEach kws X.env)).any (·.1.isNone)) = false := by
  rw [starEach_any hs, (kw_all hk).2.2]
  rfl
/-- the call of a def, keywords or not -/
theorem run_any {k n : Nat} {f : Addr} {fd : FuncData} {ps : List Str} {sp : Sp} {gg : List Value → List Value → List Value} {gV : List V → List V → List V} {Q : VK} {us ws : List Value} {vs zs : List V} (F : FnOk X.prog X.w X.K X.mg X.base CX0 k f fd ps sp) (hr : Room k X.A) (hb : KBn X.K fd ps n ks gg gV)
    (I : Inv X pins σ H s) (r : Vals vs us) (rz : Vals zs ws) (l1 : vs.length = n) (l2 : zs.length = ks.length) (h : sp (gV vs zs) H Q E0) : wpAny (model X.prog X.w) X.A (call (.ref f) us (ks.zip ws)) (EP X pins σ Q) X.xe s := by
  have r2 := hb.rel r rz
  refine wpAny_call (codeAny_mono (F.run X.A X.stack s H ⟨us, ks.zip ws⟩ (gg us ws) (gV vs zs) Q E0 hr I.env0 (hb.to s us ws I.kIn (by rw [← r.length, l1]) (by rw [← rz.length, l2])) r2 h) fun r s' hq => ?_)
  cases r with
  | error e => exact pass0 pins σ H s e s' I hq
  | ok fl =>
    cases fl with
    | ret u => exact I.after hq
    | next => exact False.elim hq
    | brk => exact False.elim hq
    | cont => exact False.elim hq
def tArgs (t tk : TA) (R : List V → List V → Hp → VK → Prop) : TE := fun σ H Q => t σ H fun vs H1 => tk σ H1 fun zs H2 => R vs zs H2 Q
/-- f(..) -/
theorem pe_callA {k n : Nat} {f : Addr} {fd : FuncData} {ps : List Str} {sp : Sp} {gg : List Value → List Value → List Value} {gV : List V → List V → List V} {t tk : TA} (F : FnOk X.prog X.w X.K X.mg X.base CX0 k f fd ps sp) (hr : Room k X.A) (hg : Gl X x) (hm : X.mg x = some (.ref f)) (hkp : PySem.W.keepIn X.K (.ref f) = true)
    (hb : KBn X.K fd ps n ks gg gV) (hdb : (x == ("__debug__" : Str)) = false) (hs : es.all nstar = true) (hk : kwNames kws = some ks) (ha : PA X es t) (hnil : es = [] → ∀ σ H Q, t σ H Q → Q [] H) (hkw : PK X kws tk) :
    PE X (.Call (.Name x p) es kws pos) (tArgs t tk fun vs zs H2 Q => vs.length = n ∧ zs.length = ks.length ∧ sp (gV vs zs) H2 Q E0) := by
  refine ⟨fun pins s σ H Q I h => ?_⟩
  refine wpAny_Call_Name_kw (ld_glob I hg hm ?_ hdb)
  refine PySem.W.callWith_of (P := fun h => X.K.In h) (plain_any hs hk) (PySem.W.keeps_K hkp) (thn (evalArgs_any hs hk ha hnil hkw I h) fun a s2 hq => ?_)
  obtain ⟨us, ws, vs, zs, H2, rfl, I2, r, rz, l1, l2, hsp⟩ := hq
  exact ⟨I2.kIn, run_any F hr hb I2 r rz l1 l2 hsp⟩
theorem form_any {env : PySem.Env} (hs : es.all nstar = true) (hk : kwNames kws = some ks) (hfew : es.length + kws.length + 1 < 30) : methodCallForm (es.length + kws.length) (backTo pos (starEach es env)) (backToKw pos (keywordEach kws env)) = true := by
  have h1 : (backTo pos (starEach es env)).all (!·.1) = true := by
    have := starEach_any (env := env) (pos := pos) hs
    rw [List.all_eq_not_any_not]
    simp only [Bool.not_not]
    rw [this]
    rfl
  unfold methodCallForm
  rw [h1, (kw_all hk).1]
  simp only [Bool.true_and, decide_eq_true_eq]
  split <;> omega
theorem attr_eval {o : Expr} {m : Str} {env : PySem.Env} (h : ab0 o = true) (hs : es.all nstar = true) (hk : kwNames kws = some ks) (hfew : es.length + kws.length + 1 < 30) (hline : (apos.endLine == pos.line) = true) : ∃ pl : Sem Bool, eval (.Call (.Attribute o m apos) es kws pos) env = (do
      let ov ← eval o env
      standAt apos.atName
      let (f, first) ← holding [ov] (getMethod ov m pl)
      callWith pos f first (backTo pos (starEach es env)) (backToKw pos (keywordEach kws env))) := by
  refine ⟨do return (← importBound o env).getD true, ?_⟩
  rw [arm_eval_Call, ab_of h]
  have hform := form_any (env := env) (pos := pos) hs hk hfew
  have hpos : methodCallPos true o env apos pos = pure pos := by unfold methodCallPos; simp [hline]
  unfold methodCall calleeOf
  rw [hform, hpos]
  rfl
/-! ### the tables -/
/-- how a call's values become the parameters' -/
def PlanOk (g : G) (fd : FuncData) (ps : List Str) (n : Nat) (ks : List Str) (ar : List Ar) : Prop := ar.length = ps.length ∧ ∃ gg gV, KBn g.K fd ps n ks gg gV ∧ ∀ F mu H m (xs zs ys : List PV) vs ws, RelM g.K g.CA F mu m H → Reps g.K g.CA F mu xs vs → Reps g.K g.CA F mu zs ws → xs.length = n → zs.length = ks.length → pick (xs ++ zs) ar = some ys → Reps g.K g.CA F mu ys (gV vs ws)
/-- what a def promises at a level -/
def FnAt (X : Cx) (g : G) (D : Cl) (k fn : Nat) (fa : Addr) (fd : FuncData) (ps : List Str) : Prop := FnOk X.prog X.w X.K X.mg X.base CX0 k fa fd ps (spF g ps.length (D.call fn))
structure Disp (X : Cx) (g : G) (D : Cl) (k : Nat) (plan : Nat → Nat → List Str → Option (List Ar)) : Prop where
  hK : X.K = g.K
  cls : ClsG g D.nC
  room : Room (k + 3) X.A
  fld : ∀ c f, c < D.nC → D.att c f = some none → NoAttr X.K (g.CA c) f
  prop : ∀ c f fn, c < D.nC → D.att c f = some (some fn) → ∃ p ga fd ps, ps.length = 1 ∧ PropOf X.K (g.CA c) f p ga ∧ FnAt X g D k fn ga fd ps ∧ Binds X.K fd ps []
  met : ∀ c m fn, c < D.nC → D.met c m = some fn → ∃ fa fd ps, Meth X.K (g.CA c) m fa ∧ FnAt X g D k fn fa fd ps ∧ ∀ n ks ar, plan fn n ks = some ar → PlanOk g fd ps n ks ar
  ini : ∀ c fn, c < D.nC → D.ini c = some fn → ∃ fa fd ps, Mk X.K (g.CA c) fa ∧ FnAt X g D k fn fa fd ps ∧ ∀ n ks ar, plan fn n ks = some ar → PlanOk g fd ps n ks ar
  eqf : ∀ c fn, c < D.nC → D.eqf c = some fn → ∃ fa fd ps, ps.length = 2 ∧ PySem.W.findIn X.K (.ref (g.CA c)) "__eq__" = some (some (.ref fa)) ∧ PySem.W.isFn X.K (.ref fa) = true ∧ PySem.W.notFirst X.K (g.CA c) (.ref (g.CA c)) = true ∧ PySem.W.findIn X.K (.ref (g.CA c)) "__ne__" = some (some (.builtin "object.__ne__")) ∧ FnAt X g D k fn fa fd ps ∧ Binds X.K fd ps []
section
variable {plan : Nat → Nat → List Str → Option (List Ar)} {k : Nat} {e : Expr} {ca : CE}
theorem pick_len {xs : List PV} : ∀ {ar : List Ar} {ys : List PV}, pick xs ar = some ys → ys.length = ar.length
  | [], ys, h => by cases h; rfl
  | a :: r, ys, h => by
    simp only [pick] at h
    split at h
    · rename_i y zs h1 h2
      cases h
      rw [List.length_cons, List.length_cons, pick_len h2]
    · cases h
theorem fldv_rep {F : Hp} {mu : List Addr} {f : Str} : ∀ {ns : List Str} {ps : List PV} {vs : List V}, Reps g.K g.CA F mu ps vs → ps.length = ns.length → match fldv ns ps f with
    | some p => ∃ v, (ns.zip vs).lookup f = some v ∧ Rep g.K g.CA F mu p v
    | none => (ns.zip vs).lookup f = none
  | [], [], vs, h, _ => by rw [show _ = _ from h]; rfl
  | q :: ks, p :: ps, vs, h, hl => by
    obtain ⟨v, r, rfl, h1, h2⟩ := h
    rw [List.zip_cons_cons]
    simp only [fldv]
    by_cases e : f = q
    · rw [if_pos e]
      subst e
      exact ⟨v, by simp [List.lookup], h1⟩
    · rw [if_neg e]
      have hb : (f == q) = false := beq_eq_false_iff_ne.mpr e
      have := fldv_rep (f := f) h2 (by simpa using hl)
      simp only [List.lookup, hb]
      exact this
  | [], _ :: _, _, _, hl => by simp at hl
  | _ :: _, [], _, _, hl => by simp at hl
theorem s_attr {f : Str} (dp : Disp X g D k plan) (h0 : ab0 e = true) (he : PE X e (tE g D ca)) : PE X (.Attribute e f pos) (tE g D (.attr ca f)) := by
  have hp : ∀ i : Nat × Nat, (i.1 < D.nC ∧ D.att i.1 f = some (some i.2)) → PE X (.Attribute e f pos) (tProp (g.CA i.1) (spF g 1 (D.call i.2)) [] E0 (tE g D ca)) := fun i hi => by
    obtain ⟨p, ga, fd, ps, hl, hpr, F, hb⟩ := dp.prop i.1 f i.2 hi.1 hi.2
    unfold FnAt at F
    rw [hl] at F
    exact pe_prop he (by rw [dp.hK]; exact (dp.cls.each i.1 hi.1).cl) hpr F (dp.room.mono (by omega)) hb .nil pass0 (ab_of h0)
  refine PE.conv (PE.or (pe_fld he (ab_of h0)) (PE.ex hp)) fun σ H Q h => ?_
  obtain ⟨F, mu, env, m, hE, hM, hw⟩ := h
  obtain ⟨x, m3, ⟨_, _, _, hk⟩, go⟩ := one_go (k := fun x m1 => attO D f x m1) hE hM hw
  cases ev : vw m3 x with
  | obj c ns ps =>
    simp only [attO, ev] at hk
    obtain ⟨hc, hk⟩ := W.ck hk
    have hc := of_decide_eq_true hc
    cases ea : D.att c f with
    | none => rw [ea] at hk; exact hk.elim
    | some o =>
      cases o with
      | none =>
        refine .inl (go (fun xx H3 => ∃ a C dx fs v, xx = .ref a ∧ H3 a = some (.ins C dx fs) ∧ Cls X.K C ∧ NoAttr X.K C f ∧ fs.lookup f = some v ∧ Q v H3) ?_)
        intro F3 mu3 H3 xx hE3 rm3 hxx hw3
        have vx := view rm3 hxx
        simp only [attO, ev, ea] at hw3
        rw [ev] at vx
        obtain ⟨a, dx, vs, rfl, h1, h2, h3⟩ := vx
        obtain ⟨z, hz, hw4⟩ := W.of (W.ck hw3).2
        have hv := fldv_rep (f := f) h3 h2
        rw [hz] at hv
        obtain ⟨v, hv1, hv2⟩ := hv
        exact ⟨a, _, dx, _, v, rfl, h1, by rw [dp.hK]; exact (dp.cls.each c hc).cl, dp.fld c f hc ea, hv1, W.ok hw4 rm3 v hv2⟩
      | some fn =>
        refine .inr ⟨(c, fn), ⟨hc, ea⟩, go (fun xx H3 => ∃ a dx fs, xx = .ref a ∧ H3 a = some (.ins (g.CA c) dx fs) ∧ spF g 1 (D.call fn) (.ref a :: []) H3 Q E0) ?_⟩
        intro F3 mu3 H3 xx hE3 rm3 hxx hw3
        have vx := view rm3 hxx
        simp only [attO, ev, ea] at hw3
        rw [ev] at vx
        obtain ⟨a, dx, vs, rfl, h1, h2, h3⟩ := vx
        exact ⟨a, dx, _, rfl, h1, rfl, F3, mu3, m3, [x], rm3, ⟨_, [], rfl, hxx, rfl⟩, (W.ck hw3).2⟩
  | _ => simp only [attO, ev] at hk; exact hk.elim
/-! ### calls by keywords -/
theorem PK.conv {kws : List Keyword} {t t' : TA} (h : PK X kws t) (k : ∀ σ H Q, t' σ H Q → t σ H Q) : PK X kws t' := ⟨fun pos pins s σ H Q I q => h.run pos pins s σ H Q I (k σ H Q q)⟩
theorem sk_nil : PK X [] (tA g D .nil) := PK.conv pk_nil fun σ H Q h => by
  obtain ⟨F, mu, env, m, hE, hM, hw⟩ := h
  exact W.ok hw hM [] rfl
theorem sk_cons {nm : Option Str} {kpos : Pos} (ha : PE X e (tE g D ca)) (hr : PK X kws (tA g D ces)) : PK X (⟨nm, e, kpos⟩ :: kws) (tA g D (.cons ca ces)) := PK.conv (pk_cons ha hr) fun σ H Q h => by
  obtain ⟨F, mu, env, m, hE, hM, hw⟩ := h
  refine ⟨F, mu, env, m, hE, hM, (W.bind hw).mono fun p m1 F1 mu1 H1 st rm hw1 x hx => ?_⟩
  refine ⟨F1, mu1, env, m1, hE.step st, rm, (W.bind hw1).mono fun ps m2 F2 mu2 H2 st2 rm2 hw2 vs hvs => ?_⟩
  exact W.ok hw2 rm2 (x :: vs) ⟨x, vs, rfl, hx.step st2, hvs⟩
theorem a_nil (h : es.length = ces.cnt) (he : es = []) : ∀ σ H Q, (tA g D ces) σ H Q → Q [] H := by
  subst he
  intro σ H Q h2
  cases ces with
  | nil =>
    obtain ⟨F, mu, env, m, hE, hM, hw⟩ := h2
    exact W.ok hw hM [] rfl
  | cons _ _ => simp [CEs.cnt] at h
  | star _ _ => simp [CEs.cnt] at h
theorem pickN_of {n nk : Nat} {xs zs ys : List PV} {ar : List Ar} (h : pickN n nk xs zs ar = some ys) : xs.length = n ∧ zs.length = nk ∧ pick (xs ++ zs) ar = some ys := by
  unfold pickN at h
  split at h
  · rename_i q; exact ⟨q.1, q.2, h⟩
  · cases h
theorem s_callk {n fn : Nat} {fa : Addr} {fd : FuncData} {ps : List Str} {ar : List Ar} (F : FnAt X g D k fn fa fd ps) (hr : Room k X.A) (hg : Gl X x) (hm : X.mg x = some (.ref fa)) (hkp : PySem.W.keepIn X.K (.ref fa) = true) (hK : X.K = g.K) (pl : PlanOk g fd ps n ks ar)
    (hdb : (x == ("__debug__" : Str)) = false) (hs : es.all nstar = true) (hk : kwNames kws = some ks) (ha : PA X es (tA g D ces)) (hl : es.length = ces.cnt) (hkw : PK X kws (tA g D cks)) :
    PE X (.Call (.Name x p) es kws pos) (tE g D (.callk fn ces cks n ks.length ar)) := by
  obtain ⟨hal, gg, gV, hb, hv⟩ := pl
  refine PE.conv (pe_callA F hr hg hm hkp (by rw [hK]; exact hb) hdb hs hk ha (a_nil hl) hkw) fun σ H Q h => ?_
  obtain ⟨F0, mu, env, m, hE, hM, hw⟩ := h
  refine ⟨F0, mu, env, m, hE, hM, (W.bind hw).mono fun xs m1 F1 mu1 H1 st rm hw1 vs hvs => ?_⟩
  refine ⟨F1, mu1, env, m1, hE.step st, rm, (W.bind hw1).mono fun zs m2 F2 mu2 H2 st2 rm2 hw2 ws hws => ?_⟩
  obtain ⟨ys, hy, hw3⟩ := W.of (W.bind hw2)
  have hw4 := W.ok hw3 rm2
  obtain ⟨l1, l2, hp⟩ := pickN_of hy
  have hys := hv F2 mu2 H2 m2 xs zs ys vs ws rm2 (hvs.step st2) hws l1 l2 hp
  refine ⟨by rw [hvs.length, l1], by rw [hws.length, l2], ?_, F2, mu2, m2, ys, rm2, hys, hw4⟩
  rw [hys.length, pick_len hp, hal]
/-! ### methods -/
theorem pe_methA {k n : Nat} {C f : Addr} {m : Str} {o : Expr} {fd : FuncData} {ps : List Str} {sp : Sp} {gg : List Value → List Value → List Value} {gV : List V → List V → List V} {ta : TE} {t tk : TA} (he : PE X o ta) (c : Cls X.K C) (hm : Meth X.K C m f) (F : FnOk X.prog X.w X.K X.mg X.base CX0 k f fd ps sp) (hr : Room k X.A)
    (hb : KBn X.K fd ps (n + 1) ks gg gV) (h0 : ab0 o = true) (hs : es.all nstar = true) (hk : kwNames kws = some ks) (hfew : es.length + kws.length + 1 < 30) (hline : (apos.endLine == pos.line) = true) (ha : PA X es t) (hnil : es = [] → ∀ σ H Q, t σ H Q → Q [] H) (hkw : PK X kws tk) :
    PE X (.Call (.Attribute o m apos) es kws pos) (fun σ H Q => ta σ H fun x H1 => ∃ a dx fs, x = .ref a ∧ H1 a = some (.ins C dx fs) ∧ fs.lookup m = none ∧ t σ H1 fun vs H2 => tk σ H2 fun zs H3 => vs.length = n ∧ zs.length = ks.length ∧ sp (gV (x :: vs) zs) H3 Q E0) := by
  refine ⟨fun pins s σ H Q I h => ?_⟩
  obtain ⟨pl, ht⟩ := attr_eval (m := m) (env := X.env) h0 hs hk hfew hline
  refine PySem.W.methodCall_KW (pl := pl) (thn (he.run pins s σ H _ I h) fun u s1 ⟨x, H1, I1, rx, a, dx, fs, ex, ea, l, q⟩ => ?_) ht
  subst ex
  obtain rfl : u = Value.ref a := rx
  refine getmeth_ok I1 ea c hm l ?_
  refine PySem.W.callWith_of (P := fun h => X.K.In h) (plain_any hs hk) (PySem.W.keeps_K hm.kp) (thn (evalArgs_any hs hk ha hnil hkw I1 q) fun b s2 hq => ?_)
  obtain ⟨us, ws, vs, zs, H2, rfl, I2, r, rz, l1, l2, hsp⟩ := hq
  exact ⟨I2.kIn, run_any (us := .ref a :: us) (vs := .ref a :: vs) F hr hb I2 (.cons rfl r) rz (by rw [List.length_cons, l1]) l2 hsp⟩
/-- a def that is called with values put in place by gV -/
def CallP (X : Cx) (g : G) (D : Cl) (k n : Nat) (ks : List Str) (fn na : Nat) (ar : List Ar) (gV : List V → List V → List V) (C : Addr → Prop) : Prop := ∃ fa fd ps gg, C fa ∧ FnAt X g D k fn fa fd ps ∧ ps.length = na ∧ ar.length = na ∧ KBn g.K fd ps n ks gg gV ∧
  ∀ F mu H m (xs zs ys : List PV) vs ws, RelM g.K g.CA F mu m H → Reps g.K g.CA F mu xs vs → Reps g.K g.CA F mu zs ws → xs.length = n → zs.length = ks.length → pick (xs ++ zs) ar = some ys → Reps g.K g.CA F mu ys (gV vs ws)
theorem s_meth {n : Nat} {m : Str} {ar : List (Nat × List Ar)} (dp : Disp X g D k plan) (h0 : ab0 e = true) (he : PE X e (tE g D ca)) (hs : es.all nstar = true) (hk : kwNames kws = some ks) (hfew : es.length + kws.length + 1 < 30) (hline : (apos.endLine == pos.line) = true)
    (ha : PA X es (tA g D ces)) (hl : es.length = ces.cnt) (hkw : PK X kws (tA g D cks)) (hpl : ∀ fn a, ar.lookup fn = some a → plan fn (n + 1) ks = some a) :
    PE X (.Call (.Attribute e m apos) es kws pos) (tE g D (.meth m ca ces cks n ks.length ar)) := by
  have hp : ∀ i : Nat × Nat × List Ar × (List V → List V → List V), (i.1 < D.nC ∧ CallP X g D k (n + 1) ks i.2.1 i.2.2.1.length i.2.2.1 i.2.2.2 (fun fa => Meth X.K (g.CA i.1) m fa)) → PE X (.Call (.Attribute e m apos) es kws pos) (fun σ H Q => (tE g D ca) σ H fun x H1 => ∃ a dx fs, x = .ref a ∧ H1 a = some (.ins (g.CA i.1) dx fs) ∧ fs.lookup m = none ∧
      (tA g D ces) σ H1 fun vs H2 => (tA g D cks) σ H2 fun zs H3 => vs.length = n ∧ zs.length = ks.length ∧ spF g i.2.2.1.length (D.call i.2.1) (i.2.2.2 (x :: vs) zs) H3 Q E0) := fun i hi => by
    obtain ⟨hc, fa, fd, ps, gg, hM, F, l1, l2, hb, hv⟩ := hi
    unfold FnAt at F
    rw [l1] at F
    exact pe_methA he (by rw [dp.hK]; exact (dp.cls.each i.1 hc).cl) hM F (dp.room.mono (by omega)) (by rw [dp.hK]; exact hb) h0 hs hk hfew hline ha (a_nil hl) hkw
  refine PE.conv (PE.ex hp) fun σ H Q h => ?_
  obtain ⟨F, mu, env, m0, hE, hM, hw⟩ := h
  obtain ⟨x, m3, ⟨_, _, _, hk2⟩, go⟩ := one_go (k := fun x m1 => (Out.of (metO D m x m1) m1).bind fun k m2 => (evEs D ces env m2).bind fun xs m3 => (evEs D cks env m3).bind fun zs m4 => (Out.of ((ar.lookup k).bind fun ar => pickN (n + 1) ks.length (x :: xs) zs ar) m4).bind fun ys m5 => D.call k ys m5) hE hM hw
  obtain ⟨fn, hfn, _⟩ := W.of (W.bind hk2)
  unfold metO at hfn
  cases ev : vw m3 x with
  | obj c ns fps =>
    rw [ev] at hfn
    dsimp only at hfn
    split at hfn
    · rename_i hc
      split at hfn
      · rename_i hnof
        -- the plan: what the outcome shows
        have h1 : ∃ a, ar.lookup fn = some a := by
          have h2 := hk2
          have e1 : metO D m x m3 = some fn := by unfold metO; rw [ev]; dsimp only; rw [if_pos hc, hnof]; exact hfn
          rw [e1] at h2
          cases q : ar.lookup fn with
          | some a => exact ⟨a, rfl⟩
          | none =>
            exfalso
            simp only [Out.of, Out.bind, q] at h2
            cases e2 : evEs D ces env m3 with
            | stuck => rw [e2] at h2; exact h2
            | exc z m1 => rw [e2] at h2; exact h2
            | ok xs m4 =>
              rw [e2] at h2
              simp only [Out.bind] at h2
              cases e3 : evEs D cks env m4 with
              | stuck => rw [e3] at h2; exact h2
              | exc z m1 => rw [e3] at h2; exact h2
              | ok zs m5 => rw [e3] at h2; exact h2
        obtain ⟨a, hla⟩ := h1
        obtain ⟨fa, fd, ps, hMe, hF, hP⟩ := dp.met c m fn hc hfn
        obtain ⟨hal, gg, gV, hb, hv⟩ := hP (n + 1) ks a (hpl fn a hla)
        refine ⟨(c, fn, a, gV), ⟨hc, fa, fd, ps, gg, hMe, hF, hal.symm, rfl, hb, hv⟩, go (fun xx H1 => ∃ a2 dx fs, xx = .ref a2 ∧ H1 a2 = some (.ins (g.CA c) dx fs) ∧ fs.lookup m = none ∧
          (tA g D ces) σ H1 fun vs H2 => (tA g D cks) σ H2 fun zs H3 => vs.length = n ∧ zs.length = ks.length ∧ spF g a.length (D.call fn) (gV (xx :: vs) zs) H3 Q E0) ?_⟩
        intro F3 mu3 H3 xx hE3 rm3 hxx hw3
        have vx := view rm3 hxx
        rw [ev] at vx
        obtain ⟨b, dx, vs, rfl, k1, k2, k3⟩ := vx
        have hlk := fldv_rep (f := m) k3 k2
        rw [hnof] at hlk
        refine ⟨b, dx, _, rfl, k1, hlk, ?_⟩
        have e1 : metO D m x m3 = some fn := by unfold metO; rw [ev]; dsimp only; rw [if_pos hc, hnof]; exact hfn
        rw [e1] at hw3
        have hw4 := W.ok (W.bind hw3) rm3
        refine ⟨F3, mu3, env, m3, hE3, rm3, (W.bind hw4).mono fun xs m4 F4 mu4 H4 st4 rm4 hw5 vs hvs => ?_⟩
        refine ⟨F4, mu4, env, m4, hE3.step st4, rm4, (W.bind hw5).mono fun zs m5 F5 mu5 H5 st5 rm5 hw6 ws hws => ?_⟩
        obtain ⟨ys, hy, hw7⟩ := W.of (W.bind hw6)
        have hw8 := W.ok hw7 rm5
        rw [hla] at hy
        obtain ⟨l1, l2, hpk⟩ := pickN_of hy
        have l1' : xs.length = n := by simpa using l1
        have hys := hv F5 mu5 H5 m5 (x :: xs) zs ys (V.ref b :: vs) ws rm5 ⟨_, vs, rfl, (hxx.step st4).step st5, hvs.step st5⟩ hws l1 l2 hpk
        refine ⟨by rw [hvs.length, l1'], by rw [hws.length, l2], ?_, F5, mu5, m5, ys, rm5, hys, hw8⟩
        rw [hys.length, pick_len hpk]
      · cases hfn
    · cases hfn
  | _ => rw [ev] at hfn; cases hfn
end
end
end Co

end P_CoreCls
section P_CoreMake
set_option Elab.async false
set_option linter.all false
set_option maxRecDepth 100000
set_option maxHeartbeats 2000000
/-! CoreMake: instances made, kept as data. -/
namespace Co
open PySem PySem.Spec PyProof.Rows L2
section
variable {g : G} {F F2 : Hp} {mu mu2 : List Addr} {H H2 : Hp} {m m2 : Mem}
/-- something new that is neither data nor a cell -/
theorem junk_new {p : Addr} {o : HO} (r : RelM g.K g.CA F mu m H) (hp : H p = none) : St2 F mu H F mu (upd H p o) ∧ RelM g.K g.CA F mu m (upd H p o) := by
  have fH : ∀ a u, H a = some u → (upd H p o) a = some u := fun a u h => by rw [upd_ne (ne_of_none h hp)]; exact h
  refine ⟨⟨fun _ _ h => h, fun _ _ h => h, fun a u h _ => fH a u h, fun a h => ?_, fun a u h => .inl h, fun a h => .inl h⟩, ⟨fun a u h => ?_, r.len, r.nd, r.off, fun n c h => ?_⟩⟩
  · cases e : H a with
    | none => exact absurd e h
    | some u => rw [fH a u e]; simp
  · rcases r.fr a u h with h | ⟨o', kvs, e1, h⟩
    · exact .inl (fH _ _ h)
    · exact .inr ⟨o', kvs, e1, fH _ _ h⟩
  · obtain ⟨a, e, hc⟩ := r.cells n c h
    exact ⟨a, e, hc.mono (fun _ _ h => h) (fun _ _ h => h) fun u => fH a u⟩
/-- the cells from n on forgotten, the n-th, an instance, kept as data -/
theorem freeze_ins {n c : Nat} {x : Addr} {ns : List Str} {ps : List PV} (st : St2 F mu H F2 mu2 H2) (r : RelM g.K g.CA F2 mu2 m2 H2) (hl : mu.length = n) (hx : mu2[n]? = some x) (hf : H x = none) (hc : m2[n]? = some (.ins c ns ps)) :
    ∃ F3, St2 F mu H F3 (mu2.take n) H2 ∧ RelM g.K g.CA F3 (mu2.take n) (m2.take n) H2 ∧ Rep g.K g.CA F3 (mu2.take n) (.obj c ns ps) (.ref x) := by
  obtain ⟨b, hb, dx, vs, h1, h2, h3⟩ := r.cells n _ hc
  rw [hx] at hb
  cases hb
  have oF : F2 x = none := r.mem_off hx
  have fF : ∀ a o, F2 a = some o → (upd F2 x (.ins (g.CA c) dx (ns.zip vs))) a = some o := fun a o h => by rw [upd_ne (ne_of_none h oF)]; exact h
  have hxt : x ∉ mu2.take n := fun h => by
    obtain ⟨k, hk⟩ := List.mem_iff_getElem?.mp h
    have hk2 := take_get hk
    have hkn : k < n := by
      have := (List.getElem?_eq_some_iff.mp hk).1
      rw [List.length_take] at this
      omega
    obtain ⟨q1, e1⟩ := List.getElem?_eq_some_iff.mp hk2
    obtain ⟨q2, e2⟩ := List.getElem?_eq_some_iff.mp hx
    have := (List.getElem_inj r.nd).mp (e1.trans e2.symm)
    omega
  refine ⟨upd F2 x (.ins (g.CA c) dx (ns.zip vs)), ⟨fun a o h => fF a o (st.fF a o h), fun k a h => ?_, st.keep, st.dom, fun a o h => ?_, fun a h => st.nm a (List.mem_of_mem_take h)⟩, ⟨fun a o h => ?_, ?_, r.nd.sublist (List.take_sublist _ _), fun a h => ?_, fun k d h => ?_⟩, ?_⟩
  · have hk : k < n := by
      have := (List.getElem?_eq_some_iff.mp h).1
      omega
    rw [List.getElem?_take, if_pos hk]
    exact st.fm k a h
  · by_cases e : a = x
    · subst e; exact .inr hf
    · rw [upd_ne e] at h; exact st.nF a o h
  · by_cases e : a = x
    · subst e
      rw [upd_same] at h
      cases h
      exact .inl h1
    · rw [upd_ne e] at h
      exact r.fr a o h
  · rw [List.length_take, List.length_take, r.len]
  · rw [upd_ne (fun e => hxt (by rw [← e]; exact h))]
    exact r.off a (List.mem_of_mem_take h)
  · have hk : k < n := by
      have := (List.getElem?_eq_some_iff.mp h).1
      rw [List.length_take] at this
      omega
    rw [List.getElem?_take, if_pos hk] at h
    obtain ⟨a, e, hd⟩ := r.cells k d h
    refine ⟨a, by rw [List.getElem?_take, if_pos hk]; exact e, ?_⟩
    have : (mu2.take n).take k = mu2.take k := by rw [List.take_take, Nat.min_eq_left (by omega)]
    rw [this]
    exact hd.mono fF (fun _ _ h => h) fun o h => h
  · exact ⟨x, dx, vs, rfl, upd_same, h2, Reps.mono fF (fun _ _ h => h) _ _ h3⟩
end
section
variable {X : Cx} {g : G} {D : Cl} {es : List Expr} {kws : List Keyword} {ks : List Str} {ces cks : CEs} {pos p apos : Pos} {x : Str} {plan : Nat → Nat → List Str → Option (List Ar)} {k n : Nat}
/-- what is wanted of a class's call -/
def tMk (C : Addr) (n m : Nat) (sp : Sp) (gV : List V → List V → List V) (t tk : TA) : TE := fun σ H Q => t σ H fun vs H1 => tk σ H1 fun zs H2 => vs.length = n ∧ zs.length = m ∧
  ∀ x dx, H2 x = none → H2 dx = none → dx ≠ x → sp (gV (.ref x :: vs) zs) (upd (upd H2 dx (.own x)) x (.ins C dx [])) (fun v H3 => v = .non ∧ Q (.ref x) H3) E0
theorem pe_mkG {C f : Addr} {fd : FuncData} {ps : List Str} {sp : Sp} {gg : List Value → List Value → List Value} {gV : List V → List V → List V} {t tk : TA} (M : Mk X.K C f) (F : FnOk X.prog X.w X.K X.mg X.base CX0 k f fd ps sp) (hr : Room (k + 1) X.A) (hb : KBn X.K fd ps (n + 1) ks gg gV)
    (hg : Gl X x) (hm : X.mg x = some (.ref C)) (hdb : (x == ("__debug__" : Str)) = false) (hs : es.all nstar = true) (hk : kwNames kws = some ks) (ha : PA X es t) (hnil : es = [] → ∀ σ H Q, t σ H Q → Q [] H) (hkw : PK X kws tk) :
    PE X (.Call (.Name x p) es kws pos) (tMk C n ks.length sp gV t tk) := by
  refine ⟨fun pins s σ H Q I h => ?_⟩
  refine wpAny_Call_Name_kw (ld_glob I hg hm ?_ hdb)
  refine PySem.W.callWith_of (P := fun h => X.K.In h) (plain_any hs hk) (PySem.W.keeps_K M.kp) (thn (evalArgs_any hs hk ha hnil hkw I h) fun a s2 hq => ?_)
  obtain ⟨us, ws, vs, zs, H2, rfl, I2, r, rz, l1, l2, hsp⟩ := hq
  exact ⟨I2.kIn, run_makeN M F hr hb pass0 I2 r rz l1 l2 hsp⟩
theorem pe_mkL {i : Nat} {C f : Addr} {fd : FuncData} {ps : List Str} {sp : Sp} {gg : List Value → List Value → List Value} {gV : List V → List V → List V} {t tk : TA} (M : Mk X.K C f) (F : FnOk X.prog X.w X.K X.mg X.base CX0 k f fd ps sp) (hr : Room (k + 1) X.A) (hb : KBn X.K fd ps (n + 1) ks gg gV)
    (hN : X.N[i]? = some x) (hv : Vis X.env.scope x) (hdb : (x == ("__debug__" : Str)) = false) (hcd : (x == ("__classdict__" : Str)) = false) (hs : es.all nstar = true) (hk : kwNames kws = some ks) (ha : PA X es t) (hnil : es = [] → ∀ σ H Q, t σ H Q → Q [] H) (hkw : PK X kws tk) :
    PE X (.Call (.Name x p) es kws pos) (fun σ H Q => σ[i]? = some (some (.ref C)) ∧ tMk C n ks.length sp gV t tk σ H Q) := by
  refine ⟨fun pins s σ H Q I h => ?_⟩
  obtain ⟨hσ, h⟩ := h
  refine wpAny_Call_Name_kw (thn ((pe_var (pos := p) hN hv hdb hcd).run pins s σ H (fun v H1 => v = .ref C ∧ H1 = H) I ⟨.ref C, hσ, rfl, rfl⟩) fun u s1 ⟨v, H1, I1, r1, q1⟩ => ?_)
  obtain ⟨rfl, rfl⟩ := q1
  cases r1
  refine PySem.W.callWith_of (P := fun h => X.K.In h) (plain_any hs hk) (PySem.W.keeps_K M.kp) (thn (evalArgs_any hs hk ha hnil hkw I1 h) fun a s2 hq => ?_)
  obtain ⟨us, ws, vs, zs, H2, rfl, I2, r, rz, l1, l2, hsp⟩ := hq
  exact ⟨I2.kIn, run_makeN M F hr hb pass0 I2 r rz l1 l2 hsp⟩
/-- the steps behind the class -/
def mkK (D : Cl) (ces cks : CEs) (n nk : Nat) (ar : List (Nat × List Ar)) (env : Env) (c fn : Nat) (m : Mem) : Out PV := (evEs D ces env m).bind fun xs m3 => (evEs D cks env m3).bind fun zs m4 => (Out.of ((ar.lookup fn).bind fun ar => pickN (n + 1) nk (.ref m4.length :: xs) zs ar) m4).bind fun ys m5 => (D.call fn ys (m5 ++ [.ins c [] []])).bind fun r m6 => madeO m5.length r m6
theorem mk_conv {c fn : Nat} {a : List Ar} {ar : List (Nat × List Ar)} {gV : List V → List V → List V} {na : Nat} {σ : L2.St} {F : Hp} {mu : List Addr} {H : Hp} {m : Mem} {env : Env} {Q : VK} (hla : ar.lookup fn = some a) (hal : a.length = na)
    (hv : ∀ F mu H m (xs zs ys : List PV) vs ws, RelM g.K g.CA F mu m H → Reps g.K g.CA F mu xs vs → Reps g.K g.CA F mu zs ws → xs.length = n + 1 → zs.length = ks.length → pick (xs ++ zs) a = some ys → Reps g.K g.CA F mu ys (gV vs ws))
    (hE : EnvR g F mu env σ) (hM : RelM g.K g.CA F mu m H) (hw : W g F mu H (mkK D ces cks n ks.length ar env c fn m) fun p m' F' mu' H' => ∀ v, Rep g.K g.CA F' mu' p v → Q v H') : tMk (g.CA c) n ks.length (spF g na (D.call fn)) gV (tA g D ces) (tA g D cks) σ H Q := by
  refine ⟨F, mu, env, m, hE, hM, (W.bind hw).mono fun xs m1 F1 mu1 H1 st1 rm1 hw1 vs hvs => ?_⟩
  refine ⟨F1, mu1, env, m1, hE.step st1, rm1, (W.bind hw1).mono fun zs m2 F2 mu2 H2 st2 rm2 hw2 ws hws => ?_⟩
  obtain ⟨ys, hy, hw3⟩ := W.of (W.bind hw2)
  have hw4 := W.ok hw3 rm2
  rw [hla] at hy
  obtain ⟨l1, l2, hpk⟩ := pickN_of hy
  have l1' : xs.length = n := by simpa using l1
  refine ⟨by rw [hvs.length, l1'], by rw [hws.length, l2], fun x dx hx hdx hne => ?_⟩
  obtain ⟨sA, rA⟩ := junk_new (o := .own x) rm2 hdx
  have hx2 : (upd H2 dx (.own x)) x = none := by rw [upd_ne (Ne.symm hne)]; exact hx
  obtain ⟨sB, rB⟩ := cell_new (o := .ins (g.CA c) dx []) (c := .ins c [] []) rA hx2 ⟨dx, [], upd_same, rfl, rfl⟩
  have sAB := sA.trans sB
  have hself : (mu2 ++ [x])[m2.length]? = some x := by
    rw [← rm2.len, List.getElem?_append_right (Nat.le_refl _), Nat.sub_self]
    rfl
  have hys := hv F2 (mu2 ++ [x]) _ _ (.ref m2.length :: xs) zs ys (V.ref x :: vs) ws rB ⟨_, vs, rfl, ⟨x, rfl, hself⟩, (hvs.step st2).step sAB⟩ (hws.step sAB) l1 l2 hpk
  refine ⟨by rw [hys.length, pick_len hpk, hal], F2, mu2 ++ [x], m2 ++ [.ins c [] []], ys, rB, hys, ?_⟩
  -- the call's outcome
  cases ec : D.call fn ys (m2 ++ [.ins c [] []]) with
  | stuck => rw [ec] at hw4; exact hw4.elim
  | exc z m1 => rw [ec] at hw4; exact hw4.elim
  | ok r m6 =>
    rw [ec] at hw4
    simp only [Out.bind] at hw4
    intro F6 mu6 H6 st6 rm6 v hvr
    unfold madeO at hw4
    cases r with
    | non =>
      dsimp only at hw4
      split at hw4
      · rename_i c' ns ps hcell
        refine ⟨hvr, ?_⟩
        have hx6 : mu6[m2.length]? = some x := st6.fm _ _ hself
        obtain ⟨F7, s7, r7, p7⟩ := freeze_ins (sAB.trans st6) rm6 rm2.len hx6 hx hcell
        exact hw4 F7 _ H6 s7 r7 _ p7
      · exact hw4.elim
    | _ => exact hw4.elim
theorem s_mkG {c : Nat} {ar : List (Nat × List Ar)} (dp : Disp X g D k plan) (hc : c < D.nC) (hg : Gl X x) (hm : X.mg x = some (.ref (g.CA c))) (hdb : (x == ("__debug__" : Str)) = false) (hs : es.all nstar = true) (hk : kwNames kws = some ks)
    (ha : PA X es (tA g D ces)) (hl : es.length = ces.cnt) (hkw : PK X kws (tA g D cks)) (hpl : ∀ fn a, ar.lookup fn = some a → plan fn (n + 1) ks = some a) : PE X (.Call (.Name x p) es kws pos) (tE g D (.make (.k (.cls c)) ces cks n ks.length ar)) := by
  cases hi : D.ini c with
  | none =>
    refine ⟨fun pins s σ H Q I h => ?_⟩
    obtain ⟨F, mu, env, m, hE, hM, hw⟩ := h
    exfalso
    simp only [evE, Out.bind, iniO, if_pos hc, hi] at hw
    exact hw
  | some fn =>
    cases hla : ar.lookup fn with
    | none =>
      refine ⟨fun pins s σ H Q I h => ?_⟩
      obtain ⟨F, mu, env, m, hE, hM, hw⟩ := h
      exfalso
      simp only [evE, Out.bind, iniO, if_pos hc, hi, Option.map, Out.of] at hw
      cases e2 : evEs D ces env m with
      | stuck => rw [e2] at hw; exact hw
      | exc z m1 => rw [e2] at hw; exact hw
      | ok xs m4 =>
        rw [e2] at hw
        simp only [Out.bind] at hw
        cases e3 : evEs D cks env m4 with
        | stuck => rw [e3] at hw; exact hw
        | exc z m1 => rw [e3] at hw; exact hw
        | ok zs m5 => rw [e3] at hw; simp only [Out.bind, hla] at hw; exact hw
    | some a =>
      obtain ⟨fa, fd, ps, hMk, hF, hP⟩ := dp.ini c fn hc hi
      obtain ⟨hal, gg, gV, hb, hv⟩ := hP (n + 1) ks a (hpl fn a hla)
      refine PE.conv (pe_mkG hMk hF (dp.room.mono (by omega)) (by rw [dp.hK]; exact hb) hg hm hdb hs hk ha (a_nil hl) hkw) fun σ H Q h => ?_
      obtain ⟨F, mu, env, m, hE, hM, hw⟩ := h
      have e0 : evE D (.make (.k (.cls c)) ces cks n ks.length ar) env m = mkK D ces cks n ks.length ar env c fn m := by
        simp only [evE, Out.bind, iniO, if_pos hc, hi, Option.map, Out.of]
        rfl
      rw [e0] at hw
      exact mk_conv hla hal hv hE hM hw
theorem s_mkL {i : Nat} {ar : List (Nat × List Ar)} (dp : Disp X g D k plan) (hN : X.N[i]? = some x) (hvis : Vis X.env.scope x) (hdb : (x == ("__debug__" : Str)) = false) (hcd : (x == ("__classdict__" : Str)) = false) (hs : es.all nstar = true) (hk : kwNames kws = some ks)
    (ha : PA X es (tA g D ces)) (hl : es.length = ces.cnt) (hkw : PK X kws (tA g D cks)) (hpl : ∀ fn a, ar.lookup fn = some a → plan fn (n + 1) ks = some a) : PE X (.Call (.Name x p) es kws pos) (tE g D (.make (.v i) ces cks n ks.length ar)) := by
  refine PE.conv (PE.ex (ι := Nat × Nat × List Ar × (List V → List V → List V)) (p := fun j => CallP X g D k (n + 1) ks j.2.1 j.2.2.1.length j.2.2.1 j.2.2.2 (fun fa => Mk X.K (g.CA j.1) fa)) (t := fun j => fun σ H Q => σ[i]? = some (some (.ref (g.CA j.1))) ∧ tMk (g.CA j.1) n ks.length (spF g j.2.2.1.length (D.call j.2.1)) j.2.2.2 (tA g D ces) (tA g D cks) σ H Q) fun j hj => ?_) fun σ H Q h => ?_
  · obtain ⟨fa, fd, ps, gg, hMk, hF, l1, l2, hb, hv⟩ := hj
    unfold FnAt at hF
    rw [l1] at hF
    exact pe_mkL hMk hF (dp.room.mono (by omega)) (by rw [dp.hK]; exact hb) hN hvis hdb hcd hs hk ha (a_nil hl) hkw
  obtain ⟨F, mu, env, m, hE, hM, hw⟩ := h
  simp only [evE] at hw
  cases ei : env[i]? with
  | none => rw [ei] at hw; exact hw.elim
  | some o =>
  cases o with
  | none => rw [ei] at hw; exact hw.elim
  | some q =>
  rw [ei] at hw
  simp only [Out.bind] at hw
  cases q with
  | cls c =>
    simp only [iniO] at hw
    by_cases hc : c < D.nC
    · rw [if_pos hc] at hw
      cases hi : D.ini c with
      | none => rw [hi] at hw; exact hw.elim
      | some fn =>
        rw [hi] at hw
        simp only [Option.map, Out.of, Out.bind] at hw
        cases hla : ar.lookup fn with
        | none =>
          exfalso
          cases e2 : evEs D ces env m with
          | stuck => rw [e2] at hw; exact hw
          | exc z m1 => rw [e2] at hw; exact hw
          | ok xs m4 =>
            rw [e2] at hw
            simp only [Out.bind] at hw
            cases e3 : evEs D cks env m4 with
            | stuck => rw [e3] at hw; exact hw
            | exc z m1 => rw [e3] at hw; exact hw
            | ok zs m5 => rw [e3] at hw; simp only [Out.bind, hla] at hw; exact hw
        | some a =>
          obtain ⟨fa, fd, ps, hMk, hF, hP⟩ := dp.ini c fn hc hi
          obtain ⟨hal, gg, gV, hb, hv⟩ := hP (n + 1) ks a (hpl fn a hla)
          obtain ⟨v, hσ, hr⟩ := hE.2 i _ ei
          rw [show v = .ref (g.CA c) from hr] at hσ
          refine ⟨(c, fn, a, gV), ⟨fa, fd, ps, gg, hMk, hF, hal.symm, rfl, hb, hv⟩, hσ, mk_conv hla rfl hv hE hM ?_⟩
          exact hw
    · rw [if_neg hc] at hw; exact hw.elim
  | _ => exact hw.elim
end
end Co

end P_CoreMake
section P_CoreOwn
set_option Elab.async false
set_option linter.all false
set_option maxRecDepth 100000
set_option maxHeartbeats 2000000
/-! CoreOwn: own ==, != of instances with a dict. -/
namespace PySem.W
open PySem PySem.Calls PyProof.Rows
theorem slot_one : Slot "object" "__ne__" "object.__ne__" := .of (owner := "object") (n := "__ne__") (by rw [typeLookup_type, builtinLookup_eq_fast]; kernel_rfl) (by decide +kernel) (by decide +kernel) (by decide +kernel)
    (.inl (by decide +kernel)) (by rw [isSubtype_type]; kernel_rfl)
theorem entry_one : entryFor table "object.__ne__" = some Builtin.«object.__ne__» := entryFor_of_tree (by kernel_rfl)
theorem kind_one : builtinKind "object.__ne__" = some .slot := by decide +kernel
theorem split_one : splitId "object.__ne__" = some ("object", "__ne__") := by decide +kernel
theorem args_one (a b : Value) : argsOk "object.__ne__" ⟨[a, b], []⟩ := by unfold argsOk; kernel_rfl
section
variable {prog : Program} {w : World} {A : Around} {E : Value → Shared → Prop} {s : Shared} {K : Frag} {x C L f : Addr} {h₀ : Heap} {m : Str → Option Value} {ox : Obj} {od : Option Obj} {b tb : Value}
theorem ifBound_B {args : List Value} {name : Str} {id : String} {Q : Option Value → Shared → Prop} (X : K.In s.heap) (I : InstAt s.heap x ox C od) (hs : findIn K (.ref C) name = some (some (.builtin id))) (hb : ∀ self, bindSpecial (.builtin id) self = pure (.builtin id, [self]))
    (h : wpAny (model prog w) A (call (.builtin id) (.ref x :: args)) (fun v => Q (some v)) E s) : wpAny (model prog w) A (callSpecialIfBound? (.ref x) name args) Q E s := by
  simp only [callSpecialIfBound?, bindSpecialIfBound?]
  refine wpAny_holding (wpAny_bind (wpAny_bind (wpAny_bind (I.type.here ((looks_findIn X hs).here ?_)))))
  refine wpAny_bind (wpAny_askSetting (wpAny_ite ?_))
  have fin : wpAny (model prog w) A (call (.builtin id) ([.ref x] ++ args) >>= fun v => pure (some v)) Q E s := wpAny_bind (wpAny_mono h (fun v s' h' => wpAny_pure h') fun _ _ h' => h')
  rw [hb]
  split
  · exact wpAny_bind (wpAny_pure (wpAny_pure (by exact fin)))
  · exact wpAny_tryCatch (wpAny_bind (wpAny_pure (wpAny_pure (by exact fin))))
theorem ne_own {Q : Value → Shared → Prop} (hu : A.units < cLine) (hu1 : A.in1.units < cLine) (F : Fr h₀ L s.heap m) (X₀ : K.In h₀) (I : InstAt s.heap x ox C od) (hb : Looks (model prog w) s.heap (typeOf b) tb) (hn : notFirst K C tb = true)
    (hs : findIn K (.ref C) "__ne__" = some (some (.builtin "object.__ne__"))) (he : findIn K (.ref C) "__eq__" = some (some (.ref f))) (hf : isFn K (.ref f) = true) (hob : mroIn K C (.type "object") = some true)
    (h : wpAny (model prog w) A.in1 (call (.ref f) [.ref x, b]) (fun v s' => ∃ r, v = .bool r ∧ Q (.bool (!r)) s') E s) : wpAny (model prog w) A (richCompare .NotEq (.ref x) b) Q E s := by
  have X := X₀.keeps F.keep
  have one : wpAny (model prog w) A (tryCompare (.ref x) (cmpInfo .NotEq).2.1 b) (fun r s' => ∃ v, r = some v ∧ Q v s') E s := by
    unfold tryCompare
    refine wpAny_bind (ifBound_B X I hs (fun self => slot_one.bind self) ?_)
    have sub : Looks (model prog w) s.heap (isInstance (.ref x) (.type "object")) true := I.type.andThen (looks_mroIn X hob)
    refine wpAny_call (codeAny_call_builtin slot_one.plain entry_one (check_slot kind_one split_one sub (args_one _ _) ?_))
    unfold Builtin.«object.__ne__»
    refine wpAny_bind (wpAny_pure ?_)
    refine wpAny_bind (wpAny_cRoomFor hu1 ?_)
    refine wpAny_bind (ifBound_K X I he hf (wpAny_mono h (fun v s' hv => ?_) fun _ _ z => z))
    obtain ⟨r, rfl, hq⟩ := hv
    refine wpAny_bind (wpAny_truthy_bool (wpAny_pure ?_))
    show wpAny (model prog w) A (pure (some (Value.bool !r))) _ _ _
    exact wpAny_pure ⟨_, rfl, hq⟩
  unfold richCompare
  simp only [oneThing_ref]
  refine wpAny_holding (wpAny_bind (wpAny_cRoomFor hu ?_))
  refine wpAny_bind (I.type.here (wpAny_bind (hb.here ?_)))
  split
  · rename_i q
    have e : subIn K tb (.ref C) = some false := by
      rcases Bool.or_eq_true_iff.mp hn with e | e
      · rw [beq_iff_eq.mp e] at q; simp at q
      · exact beq_iff_eq.mp e
    refine wpAny_bind ((looks_subIn X e).here ?_)
    simp only [Bool.false_eq_true, if_false]
    refine wpAny_bind (wpAny_mono one (fun r s' z => ?_) fun _ _ e => e)
    obtain ⟨v, rfl, hq⟩ := z
    exact wpAny_pure hq
  · refine wpAny_bind (wpAny_pure ?_)
    simp only [Bool.false_eq_true, if_false]
    refine wpAny_bind (wpAny_mono one (fun r s' z => ?_) fun _ _ e => e)
    obtain ⟨v, rfl, hq⟩ := z
    exact wpAny_pure hq
end
end PySem.W
namespace Co
open PySem PySem.Spec PyProof.Rows L2
section
variable {X : Cx} {g : G} {D : Cl} {k : Nat} {plan : Nat → Nat → List Str → Option (List Ar)}
/-- two instances of one class whose def for == is at f -/
def rOwnE (C : Addr) (sp : Sp) (ng : Bool) : R2 := fun x y H Q => ∃ a dx fs b dy gs, x = .ref a ∧ y = .ref b ∧ H a = some (.ins C dx fs) ∧ H b = some (.ins C dy gs) ∧ sp [x, y] H (fun v H' => ∃ r, v = .bl r ∧ Q (.bl (xor ng r)) H') E0
theorem op_ownE {C f : Addr} {sp : Sp} (hn : PySem.W.notFirst X.K C (.ref C) = true) (he : PySem.W.findIn X.K (.ref C) "__eq__" = some (some (.ref f))) (hf : PySem.W.isFn X.K (.ref f) = true) (F : FnR X.prog X.w X.K X.mg X.base CX0 k f sp) (hr : Room k X.A) : OpR X (compareOp .Eq) (rOwnE C sp false) := by
  intro pins s σ H x y v u Q I rx ry h
  obtain ⟨a, dx, fs, b, dy, gs, rfl, rfl, ha, hb, q⟩ := h
  cases (show v = Value.ref a from rx)
  cases (show u = Value.ref b from ry)
  obtain ⟨mA, O, _⟩ := ins_get I.hok ha
  obtain ⟨od, J, _⟩ := O.look
  obtain ⟨mA', O', _⟩ := ins_get I.hok hb
  obtain ⟨od', J', _⟩ := O'.look
  obtain ⟨m, hF⟩ := I.fr
  show wpAny (model X.prog X.w) X.A (richCompare .Eq (.ref a) (.ref b)) _ _ _
  refine PySem.W.cmp_K (op := .Eq) (tb := .ref C) hr.units0 hF I.ok.mod.kin J J'.type hn he hf ?_
  refine wpAny_mono (wpAny_call (run_fnR (us := [.ref a, .ref b]) (vs := [.ref a, .ref b]) F hr pass0 I (.cons rfl (.cons rfl .nil)) q)) (fun w s' z => ?_) fun _ _ x => x
  obtain ⟨z', H', I', rz, r, rfl, qz⟩ := z
  cases (show w = Value.bool r from rz)
  exact ⟨.bl r, H', I', rfl, by simpa using qz⟩
theorem op_ownN {C f : Addr} {sp : Sp} (hn : PySem.W.notFirst X.K C (.ref C) = true) (hs : PySem.W.findIn X.K (.ref C) "__ne__" = some (some (.builtin "object.__ne__"))) (he : PySem.W.findIn X.K (.ref C) "__eq__" = some (some (.ref f))) (hf : PySem.W.isFn X.K (.ref f) = true) (hob : PySem.W.mroIn X.K C (.type "object") = some true)
    (F : FnR X.prog X.w X.K X.mg X.base CX0 k f sp) (hr : Room (k + 1) X.A) : OpR X (compareOp .NotEq) (rOwnE C sp true) := by
  intro pins s σ H x y v u Q I rx ry h
  obtain ⟨a, dx, fs, b, dy, gs, rfl, rfl, ha, hb, q⟩ := h
  cases (show v = Value.ref a from rx)
  cases (show u = Value.ref b from ry)
  obtain ⟨mA, O, _⟩ := ins_get I.hok ha
  obtain ⟨od, J, _⟩ := O.look
  obtain ⟨mA', O', _⟩ := ins_get I.hok hb
  obtain ⟨od', J', _⟩ := O'.look
  obtain ⟨m, hF⟩ := I.fr
  show wpAny (model X.prog X.w) X.A (richCompare .NotEq (.ref a) (.ref b)) _ _ _
  refine PySem.W.ne_own (tb := .ref C) hr.units0 hr.in1.units0 hF I.ok.mod.kin J J'.type hn hs he hf hob ?_
  refine wpAny_mono (wpAny_call (SlX.run_at (us := [.ref a, .ref b]) (ws := [.ref a, .ref b]) F hr.in1 I.env0.in1 pass0 I (.cons rfl (.cons rfl .nil)) q)) (fun w s' z => ?_) fun _ _ x => x
  obtain ⟨z', H', I', rz, r, rfl, qz⟩ := z
  cases (show w = Value.bool r from rz)
  exact ⟨r, rfl, .bl (!r), H', I', rfl, by simpa using qz⟩
theorem eqO_of {o : COp} {x y : PV} {fn : Nat} {ng : Bool} (h : eqO D o x y = some (fn, ng)) : ∃ c ns vs ms ws, x = .obj c ns vs ∧ y = .obj c ms ws ∧ c < D.nC ∧ D.eqf c = some fn ∧ (o = .eq ∧ ng = false ∨ o = .ne ∧ ng = true) := by
  unfold eqO at h
  split at h
  · rename_i c ns vs
    split at h
    · rename_i d ms ws
      split at h
      · rename_i hc
        obtain ⟨hc, rfl⟩ := hc
        split at h
        · cases e : D.eqf c with
          | none => rw [e] at h; cases h
          | some k => rw [e] at h; cases h; exact ⟨c, ns, vs, ms, ws, rfl, rfl, hc, e, .inl ⟨rfl, rfl⟩⟩
        · cases e : D.eqf c with
          | none => rw [e] at h; cases h
          | some k => rw [e] at h; cases h; exact ⟨c, ns, vs, ms, ws, rfl, rfl, hc, e, .inr ⟨rfl, rfl⟩⟩
        · cases h
      · cases h
    · cases h
  · cases h
theorem OpR.ex {f : Value → Value → Sem Value} {ι : Type} {p : ι → Prop} {r : ι → R2} (h : ∀ i, p i → OpR X f (r i)) : OpR X f (fun x y H Q => ∃ i, p i ∧ r i x y H Q) := fun pins s σ H x y v u Q I rx ry ⟨i, hp, q⟩ => h i hp pins s σ H x y v u Q I rx ry q
theorem cmpS_of {op : CmpOp} {o : COp} (dp : Disp X g D k plan) (hop : OpS X g op o) (hk : (op = .Eq ∧ o = .eq) ∨ (op = .NotEq ∧ o = .ne) ∨ (o ≠ .eq ∧ o ≠ .ne)) : CmpS X g D op o := by
  obtain ⟨r, hr, hv⟩ := hop
  have plain : ∀ F mu H m x y p q (Q' : VK), RelM g.K g.CA F mu m H → Rep g.K g.CA F mu p x → Rep g.K g.CA F mu q y → eqO D o (vw m p) (vw m q) = none → (W g F mu H (cmpV D o p q m) fun p m' F' mu' H' => ∀ v, Rep g.K g.CA F' mu' p v → Q' v H') → r x y H Q' := fun F mu H m x y p q Q' rm hx hy he hw => by
    unfold cmpV at hw
    rw [he] at hw
    obtain ⟨z, hz, hw⟩ := W.of hw
    cases e : cmpop o (vw m p) (vw m q) with
    | none => rw [e] at hz; cases hz
    | some b =>
      rw [e] at hz
      cases hz
      exact hv F mu H m x y p q b Q' rm hx hy e (W.ok hw rm _ rfl)
  -- the own part
  have own : ∀ (ng : Bool), ((o = .eq ∧ ng = false) ∨ (o = .ne ∧ ng = true)) → (∀ i : Nat × Nat, (i.1 < D.nC ∧ D.eqf i.1 = some i.2) → OpR X (compareOp op) (rOwnE (g.CA i.1) (spF g 2 (D.call i.2)) ng)) → CmpS X g D op o := fun ng hng hp => by
    refine ⟨_, OpR.or hr (OpR.ex hp), fun F mu H m x y p q Q' rm hx hy hw => ?_⟩
    cases he : eqO D o (vw m p) (vw m q) with
    | none => exact .inl (plain F mu H m x y p q Q' rm hx hy he hw)
    | some z =>
      obtain ⟨fn, ng'⟩ := z
      obtain ⟨c, ns, vs, ms, ws, ep, eq, hc, hf, hn⟩ := eqO_of he
      have en : ng' = ng := by
        rcases hn with ⟨h1, h2⟩ | ⟨h1, h2⟩ <;> rcases hng with ⟨h3, h4⟩ | ⟨h3, h4⟩
        · rw [h2, h4]
        · rw [h1] at h3; cases h3
        · rw [h1] at h3; cases h3
        · rw [h2, h4]
      subst en
      have vx := view rm hx
      have vy := view rm hy
      rw [ep] at vx
      rw [eq] at vy
      obtain ⟨a, dx, us, rfl, h1, h2, h3⟩ := vx
      obtain ⟨b, dy, zs, rfl, k1, k2, k3⟩ := vy
      unfold cmpV at hw
      rw [he] at hw
      refine .inr ⟨(c, fn), ⟨hc, hf⟩, a, dx, _, b, dy, _, rfl, rfl, h1, k1, rfl, F, mu, m, [p, q], rm, ⟨_, _, rfl, hx, _, _, rfl, hy, rfl⟩, ?_⟩
      refine (W.bind hw).mono fun r m1 F1 mu1 H1 st1 rm1 hw1 v hrv => ?_
      unfold negO at hw1
      cases r with
      | bl r => exact ⟨r, hrv, W.ok hw1 rm1 _ rfl⟩
      | _ => exact hw1.elim
  rcases hk with ⟨rfl, rfl⟩ | ⟨rfl, rfl⟩ | ⟨h1, h2⟩
  · refine own false (.inl ⟨rfl, rfl⟩) fun i hi => ?_
    obtain ⟨fa, fd, ps, hl, he, hf, hn, hs, hF, hb⟩ := dp.eqf i.1 i.2 hi.1 hi.2
    unfold FnAt at hF
    rw [hl] at hF
    have e0 : (fun (vs : List V) (H : Hp) (Q : VK) (E : XK) => spF g 2 (D.call i.2) (vs ++ []) H Q E) = spF g 2 (D.call i.2) := by
      funext vs H Q E
      rw [List.append_nil]
    have hR := hF.raw hb .nil
    rw [e0] at hR
    exact op_ownE hn he hf hR (dp.room.mono (by omega))
  · refine own true (.inr ⟨rfl, rfl⟩) fun i hi => ?_
    obtain ⟨fa, fd, ps, hl, he, hf, hn, hs, hF, hb⟩ := dp.eqf i.1 i.2 hi.1 hi.2
    unfold FnAt at hF
    rw [hl] at hF
    have e0 : (fun (vs : List V) (H : Hp) (Q : VK) (E : XK) => spF g 2 (D.call i.2) (vs ++ []) H Q E) = spF g 2 (D.call i.2) := by
      funext vs H Q E
      rw [List.append_nil]
    have hR := hF.raw hb .nil
    rw [e0] at hR
    exact op_ownN hn hs he hf (by rw [dp.hK]; exact (dp.cls.each i.1 hi.1).hm) hR (dp.room.mono (by omega))
  · refine ⟨r, hr, fun F mu H m x y p q Q' rm hx hy hw => plain F mu H m x y p q Q' rm hx hy ?_ hw⟩
    cases he : eqO D o (vw m p) (vw m q) with
    | none => rfl
    | some z =>
      obtain ⟨fn, ng'⟩ := z
      obtain ⟨_, _, _, _, _, _, _, _, _, hn⟩ := eqO_of he
      rcases hn with ⟨h, _⟩ | ⟨h, _⟩
      · exact absurd h h1
      · exact absurd h h2
end
end Co

end P_CoreOwn
section P_CoreMore4
set_option Elab.async false
set_option linter.all false
set_option maxRecDepth 100000
set_option maxHeartbeats 2000000
/-! CoreMore4: attributes stored, classmethods, own str and len, dicts. -/
namespace Co
open PySem PySem.Spec PyProof.Rows L2 ClX
section
variable {X : Cx} {g : G} {D : Cl} {k n : Nat} {plan : Nat → Nat → List Str → Option (List Ar)} {a b c e : Expr} {ca cb cc : CE} {pos pos' p apos cpos : Pos} {es : List Expr} {kws : List Keyword} {ks : List Str} {ces cks : CEs} {x : Str}
theorem fput_spec {f : Str} {q : PV} {w : V} {F : Hp} {mu : List Addr} (hw : Rep g.K g.CA F mu q w) : ∀ {ns : List Str} {ps : List PV} {vs : List V}, Reps g.K g.CA F mu ps vs → ps.length = ns.length → ∃ ws, Reps g.K g.CA F mu (fputv ns ps f q).2 ws ∧ (fputv ns ps f q).2.length = (fputv ns ps f q).1.length ∧ (fputv ns ps f q).1.zip ws = putF f w (ns.zip vs)
  | [], [], vs, h, _ => by
    rw [show _ = _ from h]
    exact ⟨[w], ⟨w, [], rfl, hw, rfl⟩, rfl, rfl⟩
  | c :: ns, p :: ps, vs, h, hl => by
    obtain ⟨v, r, rfl, h1, h2⟩ := h
    rw [List.zip_cons_cons]
    simp only [fputv, putF]
    by_cases e : c = f
    · rw [if_pos e, if_pos e]
      exact ⟨w :: r, ⟨w, r, rfl, hw, h2⟩, hl, rfl⟩
    · rw [if_neg e, if_neg e]
      obtain ⟨ws, k1, k2, k3⟩ := fput_spec hw h2 (by simpa using hl)
      exact ⟨v :: ws, ⟨v, ws, rfl, h1, k1⟩, by rw [List.length_cons, List.length_cons, k2], by rw [List.zip_cons_cons, k3]⟩
  | [], _ :: _, _, _, hl => by simp at hl
  | _ :: _, [], _, _, hl => by simp at hl
theorem s_setf {f : Str} (dp : Disp X g D k plan) (ho : PE X a (tE g D ca)) (hv : PE X c (tE g D cc)) : PS X (.Assign [.Attribute a f pos] c pos') (tS g D n (.setf ca f cc)) := by
  refine PS.conv (ps_fld ho hv (swaps_attr (e := c) (o := a) (f := f) (tpos := pos) (line := pos'.line) (env := X.env))) fun Dn σ H h => ?_
  obtain ⟨F, mu, env, m, hE, hM, hw⟩ := h
  refine ⟨F, mu, env, m, hE, hM, (W.bind hw).mono fun v m1 F1 mu1 H1 st1 rm1 hw1 y hy => ?_⟩
  refine ⟨F1, mu1, env, m1, hE.step st1, rm1, (W.bind hw1).mono fun q m2 F2 mu2 H2 st2 rm2 hw2 x hx => ?_⟩
  have hy2 := hy.step st2
  unfold setfO at hw2
  cases q with
  | ref nn =>
    dsimp only at hw2
    cases ec : m2[nn]? with
    | none => rw [ec] at hw2; exact hw2.elim
    | some cell =>
      rw [ec] at hw2
      cases cell with
      | ins cl ns ps =>
        obtain ⟨hb, hw3⟩ := W.ck (ckbind hw2)
        rw [Bool.and_eq_true, Bool.and_eq_true] at hb
        have hlt : ns.length < 900 := of_decide_eq_true hb.1.2
        have hc := of_decide_eq_true hb.2
        obtain ⟨ad, rfl, h1⟩ := hx
        obtain ⟨q, hq, dx, vs, k1, k2, k3⟩ := rm2.cells nn _ ec
        rw [h1] at hq
        cases hq
        cases ea : D.att cl f with
        | none => rw [ea] at hw3; exact hw3.elim
        | some o =>
          rw [ea] at hw3
          cases o with
          | some fn => exact hw3.elim
          | none =>
            obtain ⟨ws, d1, d2, d3⟩ := fput_spec (f := f) (rep_below v y hy2 hb.1.1) k3 k2
            obtain ⟨s, r⟩ := cell_set (c := .ins cl (fputv ns ps f v).1 (fputv ns ps f v).2) (o := .ins (g.CA cl) dx (putF f y (ns.zip vs))) rm2 h1 ⟨dx, ws, by rw [d3]; exact upd_same, d2, d1⟩
            refine ⟨ad, _, dx, _, rfl, k1, by rw [dp.hK]; exact (dp.cls.each cl hc).cl, dp.fld cl f hc ea, ?_, ?_⟩
            · rw [List.length_zip, k3.length, k2]; omega
            · exact hw3 _ _ _ s r σ (((hE.step st1).step st2).step s)
      | _ => exact hw2.elim
  | _ => exact hw2.elim
/-! ### classmethods -/
theorem pe_cmA {C f pa : Addr} {mc : Value} {m : Str} {fd : FuncData} {ps : List Str} {sp : Sp} {gg : List Value → List Value → List Value} {gV : List V → List V → List V} {t tk : TA} (he : PE X e (tC (.ref C))) (r : CRead X.K C mc) (cm : CMet X.K C mc m pa f) (F : FnOk X.prog X.w X.K X.mg X.base CX0 k f fd ps sp) (hr : Room k X.A)
    (hb : KBn X.K fd ps (n + 1) ks gg gV) (h0 : ab0 e = true) (hs : es.all nstar = true) (hk : kwNames kws = some ks) (hfew : es.length + kws.length + 1 < 30) (hline : (apos.endLine == pos.line) = true) (ha : PA X es t) (hnil : es = [] → ∀ σ H Q, t σ H Q → Q [] H) (hkw : PK X kws tk) :
    PE X (.Call (.Attribute e m apos) es kws pos) (tArgs t tk fun vs zs H2 Q => vs.length = n ∧ zs.length = ks.length ∧ sp (gV (.ref C :: vs) zs) H2 Q E0) := by
  refine ⟨fun pins s σ H Q I h => ?_⟩
  obtain ⟨pl, ht⟩ := attr_eval (m := m) (env := X.env) h0 hs hk hfew hline
  refine PySem.W.methodCall_KW (pl := pl) (thn (he.run pins s σ H (fun v H1 => v = .ref C ∧ H1 = H) I ⟨rfl, rfl⟩) fun u s1 ⟨x, H1, I1, rx, q⟩ => ?_) ht
  obtain ⟨rfl, rfl⟩ := q
  obtain rfl : u = Value.ref C := rx
  refine getmethcm_ok I1 r cm fun s2 I2 => ?_
  have hq := pin_at I2
  refine PySem.W.callWith_of (P := fun h => PySem.W.MethP X.K s1.heap.objs.size f (.ref C) h) (plain_any hs hk) (PySem.W.keeps_M cm.fi) (thn (evalArgs_any hs hk ha hnil hkw I2 h) fun b s3 hq3 => ?_)
  obtain ⟨us, ws, vs, zs, H3, rfl, I3, r3, rz, l1, l2, hsp⟩ := hq3
  refine ⟨⟨pin_at I3, I3.kIn⟩, ?_⟩
  have r2 := hb.rel (.cons (show RelV (.ref C) (.ref C) from rfl) r3) rz
  have z : wpAny (model X.prog X.w) X.A (call (.ref s1.heap.objs.size) ([] ++ us) (ks.zip ws)) (EP X ((s1.heap.objs.size, PySem.W.methodObj (.ref f) (.ref C)) :: pins) σ Q) X.xe s3 := by
    refine wpAny_call (PySem.W.method_call (pin_at I3) (codeAny_mono (F.run X.A X.stack s3 H3 ⟨.ref C :: us, ks.zip ws⟩ _ _ Q E0 hr I3.env0 (hb.to s3 (.ref C :: us) ws I3.kIn (by rw [List.length_cons, ← r3.length, l1]) (by rw [← rz.length, l2])) r2 hsp) fun r s' hq => ?_))
    cases r with
    | error e => exact pass0 _ σ H3 s3 e s' I3 hq
    | ok fl =>
      cases fl with
      | ret u => exact I3.after hq
      | next => exact False.elim hq
      | brk => exact False.elim hq
      | cont => exact False.elim hq
  exact thn z fun _ _ y => unpinE y
theorem s_cm {cl fn : Nat} {fa pa : Addr} {mc : Value} {m : Str} {fd : FuncData} {ps : List Str} {ar : List Ar} (hK : X.K = g.K) (he : PE X e (tC (.ref (g.CA cl)))) (r : CRead X.K (g.CA cl) mc) (cm : CMet X.K (g.CA cl) mc m pa fa) (F : FnAt X g D k fn fa fd ps) (hr : Room k X.A) (pl : PlanOk g fd ps (n + 1) ks ar)
    (h0 : ab0 e = true) (hs : es.all nstar = true) (hk : kwNames kws = some ks) (hfew : es.length + kws.length + 1 < 30) (hline : (apos.endLine == pos.line) = true) (ha : PA X es (tA g D ces)) (hl : es.length = ces.cnt) (hkw : PK X kws (tA g D cks)) :
    PE X (.Call (.Attribute e m apos) es kws pos) (tE g D (.callk fn (.cons (.k (.cls cl)) ces) cks (n + 1) ks.length ar)) := by
  obtain ⟨hal, gg, gV, hb, hv⟩ := pl
  refine PE.conv (pe_cmA he r cm F hr (by rw [hK]; exact hb) h0 hs hk hfew hline ha (a_nil hl) hkw) fun σ H Q h => ?_
  obtain ⟨F0, mu, env, m0, hE, hM, hw⟩ := h
  have e0 : evE D (.callk fn (.cons (.k (.cls cl)) ces) cks (n + 1) ks.length ar) env m0 = (evEs D ces env m0).bind fun xs m1 => (evEs D cks env m1).bind fun zs m2 => (Out.of (pickN (n + 1) ks.length (.cls cl :: xs) zs ar) m2).bind fun ys m3 => D.call fn ys m3 := by
    simp only [evE, evEs, Out.bind]
    cases evEs D ces env m0 <;> rfl
  rw [e0] at hw
  refine ⟨F0, mu, env, m0, hE, hM, (W.bind hw).mono fun xs m1 F1 mu1 H1 st rm hw1 vs hvs => ?_⟩
  refine ⟨F1, mu1, env, m1, hE.step st, rm, (W.bind hw1).mono fun zs m2 F2 mu2 H2 st2 rm2 hw2 ws hws => ?_⟩
  obtain ⟨ys, hy, hw3⟩ := W.of (W.bind hw2)
  have hw4 := W.ok hw3 rm2
  obtain ⟨l1, l2, hp⟩ := pickN_of hy
  have l1' : xs.length = n := by simpa using l1
  have hys := hv F2 mu2 H2 m2 (.cls cl :: xs) zs ys (.ref (g.CA cl) :: vs) ws rm2 ⟨_, vs, rfl, rfl, hvs.step st2⟩ hws l1 l2 hp
  refine ⟨by rw [hvs.length, l1'], by rw [hws.length, l2], ?_, F2, mu2, m2, ys, rm2, hys, hw4⟩
  rw [hys.length, pick_len hp, hal]
/-! ### own str -/
theorem call_strOwn {C f : Addr} {sp : Sp} (hs : PySem.W.findIn X.K (.ref C) "__str__" = some (some (.ref f))) (hf : PySem.W.isFn X.K (.ref f) = true) (F : FnR X.prog X.w X.K X.mg X.base CX0 k f sp) (hr : Room (k + 2) X.A) :
    CallR X (.type "str") (fun xs H Q => ∃ a dx fs, xs = [V.ref a] ∧ H a = some (.ins C dx fs) ∧ sp [.ref a] H (fun v H' => ∃ z, v = .str z ∧ Q (.str z) H') E0) := by
  intro pins s σ H xs us Q I r h
  obtain ⟨a, dx, fs, rfl, ea, q⟩ := h
  obtain ⟨u, rfl, ru⟩ := r.one
  cases (show u = Value.ref a from ru)
  obtain ⟨mA, O, _⟩ := ins_get I.hok ea
  obtain ⟨od, J, _⟩ := O.look
  have hr2 : Room k X.A.in1.in1 := (show Room (k + 1) X.A.in1 from Room.in1 hr).in1
  refine PySem.W.kso_call hr2.units0 I.kIn J hs hf (wpAny_mono (wpAny_call (SlX.run_at (us := [.ref a]) (ws := [.ref a]) F hr2 I.env0.in1.in1 pass0 I (.cons rfl .nil) q)) (fun w s' z => ?_) fun _ _ x => x)
  obtain ⟨z', H', I', rz, i, ei, qz⟩ := z
  subst ei
  obtain ⟨t, e⟩ := (show ∃ t, w = Value.str i t from rz)
  cases e
  exact ⟨.str i, H', I', ⟨t, rfl⟩, qz⟩
/-! ### dicts -/
theorem s_dnew : PE X (.Dict [] [] pos) (tE g D .dnew) := PE.conv pe_dnewK fun σ H Q h q hq => by
  obtain ⟨F, mu, env, m, hE, hM, hw⟩ := h
  obtain ⟨s, r⟩ := cell_new (o := .dK []) (c := .dic [] []) hM hq ⟨[], upd_same, rfl, Nat.zero_le _, rfl⟩
  refine hw _ _ _ s r _ ⟨q, rfl, ?_⟩
  rw [← hM.len, List.getElem?_append_right (Nat.le_refl _), Nat.sub_self]
  rfl
theorem m2_of (h0 : ab0 a = true) (hs : nstar b = true) (hs2 : nstar c = true) (hline : (apos.endLine == cpos.line) = true) : M2 X a "get" apos b c cpos := by
  refine ⟨ab_of h0, ?_, hline, ?_⟩
  · rw [starEach_cons hs, starEach_cons hs2]; rfl
  · rw [starEach_cons hs, starEach_cons hs2]; rfl
theorem s_dget2 (hu : X.A.units + 1 < cLine) (ho : PE X a (tE g D ca)) (he : PE X b (tE g D cb)) (hf : PE X c (tE g D cc)) (h0 : ab0 a = true) (hs : nstar b = true) (hs2 : nstar c = true) (hline : (apos.endLine == cpos.line) = true) :
    PE X (.Call (.Attribute a "get" apos) [b, c] [] cpos) (tE g D (.dget2 ca cb cc)) := by
  refine PE.conv (pe_dget2 hu ho he hf (m2_of h0 hs hs2 hline)) fun σ H Q h => ?_
  obtain ⟨F, mu, env, m, hE, hM, hw⟩ := h
  refine ⟨F, mu, env, m, hE, hM, (W.bind hw).mono fun p m1 F1 mu1 H1 st1 rm1 hw1 x hx => ?_⟩
  obtain ⟨hd, hw1⟩ := W.ck hw1
  have vx := view rm1 hx
  unfold isDic at hd
  cases ep : vw m1 p with
  | dic ks vs =>
    rw [ep] at vx
    obtain ⟨ad, us, rfl, h1, _⟩ := vx
    refine ⟨ad, rfl, .inl ⟨_, h1⟩, F1, mu1, env, m1, hE.step st1, rm1, (W.bind hw1).mono fun q m2 F2 mu2 H2 st2 rm2 hw2 y hy => ?_⟩
    refine ⟨F2, mu2, env, m2, (hE.step st1).step st2, rm2, (W.bind hw2).mono fun r m3 F3 mu3 H3 st3 rm3 hw3 z hz => ?_⟩
    have hx3 := (hx.step st2).step st3
    have hy3 := hy.step st3
    obtain ⟨o, ho, hw4⟩ := W.of hw3
    have v3 := view rm3 hx3
    unfold dgetO at ho
    cases ep3 : vw m3 p with
    | dic ks vs =>
      rw [ep3] at v3 ho
      obtain ⟨ad', us, he', h1, h2, h3, h4⟩ := v3
      cases he'
      dsimp only at ho
      cases ek : asKey q with
      | none => rw [ek] at ho; cases ho
      | some k =>
        rw [ek] at ho
        cases ho
        have hv := reps_zip k h4 h2
        dsimp only at hw4
        cases ed : dvat ks vs k with
        | none =>
          rw [ed] at hv hw4
          refine ⟨none, .inl ⟨ks.zip us, k, h1, asKey_rep ek hy3, hv.symm⟩, W.ok hw4 rm3 _ hz⟩
        | some w =>
          rw [ed] at hv hw4
          obtain ⟨v, hv1, hv2⟩ := hv
          exact ⟨some v, .inl ⟨ks.zip us, k, h1, asKey_rep ek hy3, hv1.symm⟩, W.ok hw4 rm3 _ hv2⟩
    | _ => rw [ep3] at ho; cases ho
  | _ => rw [ep] at hd; cases hd
/-- d.update(d2), two dicts apart -/
def rDupd : V → List V → Hp → VK → Prop := fun x vs H Q => ∃ a b kvs more, x = .ref a ∧ vs = [.ref b] ∧ a ≠ b ∧ H a = some (.dK kvs) ∧ Rd H b (.dK more) ∧ kvs.length + more.length ≤ sizeLine ∧ Q .non (upd H a (.dK (mergeK kvs more)))
theorem mt_dupd : MtR X "dict.update" rDupd := by
  intro pins s σ H x vs v us Q I rx rv h
  obtain ⟨a, b, kvs, more, rfl, rfl, hne, ha, hb, hz, q⟩ := h
  cases rx
  obtain ⟨u, rfl, ru⟩ := rv.one
  cases (show u = Value.ref b from ru)
  obtain ⟨z1, lo1, vs1, rel1, dd1⟩ := dk_of I.hok ha
  obtain ⟨z2, lo2, vs2, rel2, dd2⟩ := dk_rd I.hok hb
  refine call_meetsIn PySem.F.slot_dict_update dd1.typeIs PySem.F.entry_dict_update (PySem.F.args_dict_update_2 _ _) (meets_dict_update (mixKind X.prog X.w) a b hne lo2) ⟨vs1, vs2, dd1, dd2, by rw [← rel1.length, ← rel2.length]; exact hz, fun h' dd' _ hs => ?_⟩
  have he : ∃ q, h'.get? a = some q := let ⟨q, _, _, hq, _⟩ := dd'; ⟨q, hq⟩
  exact ⟨.non, _, d_write (t' := s.toks) I (by rw [ha]; exact True.intro) hs he (dk_new (Nat.le_trans (length_mergeK more kvs) hz) lo1 (rel2.merge rel1) dd'), rfl, q⟩
theorem merge_spec {F : Hp} {mu : List Addr} : ∀ {ls : List Key} {qs : List PV} {ws : List V} {ks : List Key} {ps : List PV} {vs : List V}, Reps g.K g.CA F mu qs ws → qs.length = ls.length → Reps g.K g.CA F mu ps vs → ps.length = ks.length → ∃ us, Reps g.K g.CA F mu (mergev ks ps ls qs).2 us ∧ (mergev ks ps ls qs).2.length = (mergev ks ps ls qs).1.length ∧
    (mergev ks ps ls qs).1.length ≤ ks.length + ls.length ∧ (mergev ks ps ls qs).1.zip us = mergeK (ks.zip vs) (ls.zip ws)
  | [], [], ws, ks, ps, vs, h, _, h2, hl => by
    rw [show _ = _ from h]
    exact ⟨vs, h2, hl, Nat.le_refl _, rfl⟩
  | k :: ls, q :: qs, ws, ks, ps, vs, h, hl, h2, hl2 => by
    obtain ⟨w, r, rfl, hq, hr⟩ := h
    obtain ⟨us, d1, d2, d3, d4⟩ := dput_spec (k := k) hq h2 hl2
    obtain ⟨zs, e1, e2, e3, e4⟩ := merge_spec (ls := ls) hr (by simpa using hl) d1 d2
    refine ⟨zs, e1, e2, ?_, ?_⟩
    · simp only [mergev, List.length_cons]
      omega
    · simp only [mergev]
      rw [e4, d4]
      rfl
  | [], _ :: _, _, _, _, _, _, hl, _, _ => by simp at hl
  | _ :: _, [], _, _, _, _, _, hl, _, _ => by simp at hl
theorem m1_dupd : M1R g .dupd rDupd := by
  intro F mu H m x y p q Q' rm hx hy hw
  simp only [m1O, dupO] at hw
  cases p with
  | ref n =>
    dsimp only at hw
    cases q with
    | ref j =>
      dsimp only at hw
      split at hw
      · rename_i ks vs e1
        split at hw
        · rename_i ls ws e2
          obtain ⟨hb, hw⟩ := W.ck hw
          rw [Bool.and_eq_true, Bool.and_eq_true] at hb
          have hnj : n ≠ j := of_decide_eq_true hb.1.1
          have hlen : ks.length + ls.length ≤ 100000 := of_decide_eq_true hb.2
          obtain ⟨ad, rfl, h1⟩ := hx
          obtain ⟨bd, rfl, h2⟩ := hy
          obtain ⟨z, hz, us, k1, k2, k3, k4⟩ := rm.cells n _ e1
          rw [h1] at hz
          cases hz
          obtain ⟨z, hz, zs, j1, j2, j3, j4⟩ := rm.cells j _ e2
          rw [h2] at hz
          cases hz
          have hne : ad ≠ bd := fun z => by
            subst z
            obtain ⟨q1, c1⟩ := List.getElem?_eq_some_iff.mp h1
            obtain ⟨q2, c2⟩ := List.getElem?_eq_some_iff.mp h2
            exact hnj ((List.getElem_inj rm.nd).mp (c1.trans c2.symm))
          have j5 := reps_below ws zs j4.tk hb.1.2
          obtain ⟨us', m1, m2, m3, m4⟩ := merge_spec (ls := ls) j5 j2 k4 k2
          obtain ⟨s, r⟩ := cell_set (c := .dic (mergev ks vs ls ws).1 (mergev ks vs ls ws).2) (o := .dK (mergeK (ks.zip us) (ls.zip zs))) rm h1 ⟨us', by rw [m4]; exact upd_same, m2, by rw [m2, sizeLine_eq]; omega, m1⟩
          refine ⟨ad, bd, _, _, rfl, rfl, hne, k1, .inl j1, ?_, hw _ _ _ s r _ rfl⟩
          rw [List.length_zip, List.length_zip, k4.length, j4.length, k2, j2, sizeLine_eq]
          omega
        · exact hw.elim
      · exact hw.elim
    | _ => exact hw.elim
  | _ => exact hw.elim
theorem s_dupd (ho : PE X a (tE g D ca)) (he : PE X b (tE g D cb)) (h0 : ab0 a = true) (hs : nstar b = true) (hline : (apos.endLine == cpos.line) = true) : PE X (.Call (.Attribute a "update" apos) [b] [] cpos) (tE g D (.m1 .dupd ca cb)) :=
  s_ml PySem.F.plainAttrs_dict PySem.F.slot_dict_update PySem.F.type_dict_update mt_dupd ho he h0 hs hline (fun F mu H m p x rm hx h => by
    simp only [recOk] at h
    cases p with
    | ref n =>
      dsimp only at h
      split at h
      · rename_i ks vs e
        obtain ⟨ad, rfl, h1⟩ := hx
        obtain ⟨z, hz, us, k1, _⟩ := rm.cells n _ e
        rw [h1] at hz
        cases hz
        exact .inr (.inr (.inl ⟨rfl, .inl ⟨_, k1⟩⟩))
      · cases h
    | _ => cases h) m1_dupd
end
end Co

end P_CoreMore4
section P_CoreDc
set_option Elab.async false
set_option linter.all false
set_option maxRecDepth 100000
set_option maxHeartbeats 2000000
/-! CoreDc: dict comprehensions. -/
namespace Co
open PySem PySem.Spec PyProof.Rows L2
section
variable {X : Cx} {g : G} {D : Cl}
theorem dc_step {cg : CG} {ct : CT} {ck' ce : CE} {ci : CI} {vs : List Nat} {σ : L2.St} {H : Hp} {Q : VK} (hown : ∀ i ∈ gSlots cg, i ∈ vs) (h : tE g D (.dcm cg ci ct ck' ce vs) σ H Q) : tDc (tI g D ci) (tG g cg) (tT g D ct) (tE g D ck') (tE g D ce) vs σ H Q := by
  obtain ⟨F, mu, env, m, hE, hM, hw⟩ := h
  refine ⟨F, mu, env, m, hE, hM, (W.bind hw).mono fun s m1 F1 mu1 H1 st rm hw0 J hJ A hA => ?_⟩
  have hw1 := W.bind hw0
  generalize hf : (fun (x : PV) (m : Mem) => match setG cg x m (wipeE env vs) with
    | some env' => (evT D ct env' m).bind fun b m2 => match b with
      | true => (evE D ck' env' m2).bind fun q m3 => (evE D ce env' m3).bind fun y m4 => Out.of ((asKey q).map fun k => some (k, y)) m4
      | false => .ok none m2
    | none => (.stuck : Out (Option (Key × PV)))) = f at hw1
  generalize hR : (fun (a : List Key × List PV) (m : Mem) (F' : Hp) (mu' : List Addr) (H' : Hp) => W g F' mu' H' (Out.ok (PV.ref m.length) (m ++ [.dic a.1 a.2])) fun p m' F' mu' H' => ∀ v, Rep g.K g.CA F' mu' p v → Q v H') = R at hw1
  have hE1 := hE.step st
  refine ⟨fun i mm H => ∃ F2 mu2 m2 ks ps us, St2 F1 mu1 H1 F2 mu2 (Co.del H A) ∧ RelM g.K g.CA F2 mu2 m2 (Co.del H A) ∧ H A = some (.dK (ks.zip us)) ∧ Reps g.K g.CA F2 mu2 ps us ∧ ps.length = ks.length ∧ ks.length ≤ 100000 ∧
      W g F2 mu2 (Co.del H A) (dcL f s mm i ks ps m2) R, ⟨srcFuel s, F1, mu1, m1, [], [], [], ?_, ?_, upd_same, rfl, rfl, Nat.zero_le _, ?_⟩, ?_⟩
  · rw [del_upd, del_none hA]; exact St2.refl
  · rw [del_upd, del_none hA]; exact rm
  · rw [del_upd, del_none hA]; exact hw1
  rintro i mm H ⟨F2, mu2, m2, ks, ps, us, st2, rm2, hA2, hacc, hpl, hkl, hw2⟩
  obtain ⟨oF, om⟩ := off_D rm2
  have rmF := relM_full rm2
  have item := hJ F2 mu2 m2 H st2.fF st2.fm rmF i
  cases mm with
  | zero => exact hw2.elim
  | succ mm =>
  simp only [dcL] at hw2
  cases hx : srcAt s m2 i with
  | none => rw [hx] at hw2; exact hw2.elim
  | some o =>
  rw [hx] at hw2
  cases o with
  | some q =>
    obtain ⟨hil, hgo, hy⟩ := item.1 _ hx
    refine .inr ⟨hgo, fun H' => (∃ F2 mu2 m2 ks ps us, St2 F1 mu1 H1 F2 mu2 (Co.del H' A) ∧ RelM g.K g.CA F2 mu2 m2 (Co.del H' A) ∧ H' A = some (.dK (ks.zip us)) ∧ Reps g.K g.CA F2 mu2 ps us ∧ ps.length = ks.length ∧ ks.length ≤ 100000 ∧
      W g F2 mu2 (Co.del H' A) (dcL f s mm (i + 1) ks ps m2) R), fun H' hn => ⟨mm, by omega, hn⟩, fun x H' hyl => ?_⟩
    obtain ⟨F3, st3, rm3, hr3⟩ := hy x H' hyl
    have hA3 : H' A = some (.dK (ks.zip us)) := st3.keep A _ hA2 om
    have oF3 : F3 A = none := by
      cases q : F3 A with
      | none => rfl
      | some v =>
        rcases st3.nF A v q with z | z
        · rw [oF] at z; cases z
        · rw [hA2] at z; cases z
    have std3 := st_del (D := A) st3
    have rmd3 := relM_del rm3 oF3 om
    have hw3 := W.shift hw2 std3
    have hw4 := W.bind hw3
    have hE3 : EnvR g F3 mu2 env σ := (hE1.step st2).step std3
    rw [← hf] at hw4
    dsimp only at hw4
    cases es : setG cg q m2 (wipeE env vs) with
    | none => rw [es] at hw4; exact hw4.elim
    | some env' =>
      rw [es] at hw4
      dsimp only at hw4
      refine ⟨F3, mu2, m2, wipeE env vs, q, hE3.wipe vs, rm3, hr3, env', es, fun σ' hE' hwp => ⟨(hwp vs hown).trans (wipe_wipe σ vs), ?_⟩⟩
      refine ⟨F3, mu2, env', m2, hE', rm3, ((W.bind hw4).del hA3 oF3 om).mono fun b m4 F4 mu4 H4 st4 rm4 h4 => ?_⟩
      obtain ⟨hA4, std4, rmd4, hw5⟩ := h4
      obtain ⟨oF4, om4⟩ := off_D rmd4
      cases b with
      | false =>
        rw [if_neg Bool.false_ne_true]
        have hw6 := W.ok hw5 rmd4
        exact ⟨F4, mu4, m4, ks, ps, us, (st2.trans std3).trans std4, rmd4, hA4, (hacc.step std3).step std4, hpl, hkl, by rw [hf] at hw6; exact hw6⟩
      | true =>
        rw [if_pos rfl]
        refine ⟨F4, mu4, env', m4, hE'.step std4, rm4, ((W.bind hw5).del hA4 oF4 om4).mono fun y m5 F5 mu5 H5 st5 rm5 h5 yv hyv => ?_⟩
        obtain ⟨hA5, std5, rmd5, hw6⟩ := h5
        obtain ⟨oF5, om5⟩ := off_D rmd5
        refine ⟨F5, mu5, env', m5, (hE'.step std4).step std5, rm5, ((W.bind hw6).del hA5 oF5 om5).mono fun z m6 F6 mu6 H6 st6 rm6 h6 zv hzv => ?_⟩
        obtain ⟨hA6, std6, rmd6, hw7⟩ := h6
        obtain ⟨o, ho, hw8⟩ := W.of hw7
        cases ek : asKey y with
        | none => rw [ek] at ho; cases ho
        | some k =>
          rw [ek] at ho
          cases ho
          have hw9 := W.ok hw8 rmd6
          dsimp only at hw9
          obtain ⟨hlt, hw10⟩ := W.ck hw9
          have hlt : ks.length < 100000 := of_decide_eq_true hlt
          have racc := (((hacc.step std3).step std4).step std5).step std6
          have hyk := asKey_rep ek (hyv.step std6)
          obtain ⟨ws, d1, d2, d3, d4⟩ := dput_spec (k := k) hzv racc hpl
          refine ⟨ks.zip us, k, hyk, hA6, by rw [List.length_zip, hacc.length, hpl, sizeLine_eq]; omega, F6, mu6, m6, (dputv ks ps k z).1, (dputv ks ps k z).2, ws, ?_, ?_, by rw [d4]; exact upd_same, d1, d2, by omega, ?_⟩
          · rw [del_upd]; exact (((st2.trans std3).trans std4).trans std5).trans std6
          · rw [del_upd]; exact rmd6
          · rw [del_upd, ← hf]; exact hw10
  | none =>
    refine .inl ⟨item.2 hx, ?_⟩
    have hw3 := W.ok hw2 rm2
    rw [← hR] at hw3
    have hnA : Co.del H A A = none := del_same
    obtain ⟨s1, r1⟩ := cell_new (o := .dK (ks.zip us)) (c := .dic ks ps) rm2 hnA ⟨us, upd_same, hpl, by rw [hpl, sizeLine_eq]; omega, hacc⟩
    have := hw3 _ _ _ s1 r1 (.ref A) ⟨A, rfl, by rw [← rm2.len, List.getElem?_append_right (Nat.le_refl _), Nat.sub_self]; rfl⟩
    rwa [upd_del hA2] at this
theorem s_dc {kx vx tg iter : Expr} {ifs : List Expr} {scope : Scope} {own : List (Str × Nat)} {pos : Pos} {cg : CG} {ct : CT} {ck' ce : CE} {ci : CI} (hc : X.calm = true) (hN : X.N.Nodup) (hi : PI X tg iter (tI g D ci)) (ok : BlkOk X.N X.env.scope scope own) (hown : ∀ i ∈ gSlots cg, i ∈ own.map (·.2))
    (hg : ∀ (s : Shared) (H : Hp) (C : Addr) (cl : List (Str × Addr)) (fp : List Addr), PG (X.blk s H scope (compEnvC scope cl C X.env) fp) tg (tG g cg)) (ht : ∀ (s : Shared) (H : Hp) (C : Addr) (cl : List (Str × Addr)) (fp : List Addr), PTs (X.blk s H scope (compEnvC scope cl C X.env) fp) ifs (tT g D ct))
    (hk : ∀ (s : Shared) (H : Hp) (C : Addr) (cl : List (Str × Addr)) (fp : List Addr), PE (X.blk s H scope (compEnvC scope cl C X.env) fp) kx (tE g D ck'))
    (he : ∀ (s : Shared) (H : Hp) (C : Addr) (cl : List (Str × Addr)) (fp : List Addr), PE (X.blk s H scope (compEnvC scope cl C X.env) fp) vx (tE g D ce)) (hs : ∀ x, foldedSetIterable iter X.env x = pure x) : PE X (.DictComp kx vx [⟨tg, iter, ifs, 0⟩] scope pos) (tE g D (.dcm cg ci ct ck' ce (own.map (·.2)))) :=
  PE.conv (pe_dc hc hN hi ok hg ht hk he hs) fun σ H Q h => dc_step hown h
end
end Co

end P_CoreDc
section P_CoreExc
set_option Elab.async false
set_option linter.all false
set_option maxRecDepth 100000
set_option maxHeartbeats 4000000
/-! CoreExc: an exception made whose class's __init__ says super().__init__(x); self.x = x, and its field read. -/
namespace Co.Ex
open PySem PySem.W PySem.Calls PyProof.Rows PySem.Spec
/-! ### the two bases: ValueError, KeyError (whose __new__ is LookupError's) -/
/-- what is wanted of an __init__ that is BaseException's -/
structure InitF (B i : String) : Prop where
  plain : plainId i = true
  entry : entryFor table i = some Builtin.«BaseException.__init__»
  kind : builtinKind i = some .slot
  row : Manifest.signature? i = some ⟨.positional, "*", B, .self, [⟨"args", .varPos, false⟩]⟩
  star : (B != "*") = true
theorem iVE : InitF "ValueError" "ValueError.__init__" := ⟨F.excBase_ValueError.init.plain, F.excBase_ValueError.initEntry, F.excBase_ValueError.initKind, F.excBase_ValueError.initRow, F.excBase_ValueError.noStar⟩
theorem iKE : InitF "KeyError" "KeyError.__init__" := ⟨by decide +kernel, entryFor_alias (id' := "BaseException.__init__") (by rw [fastTable_eq_tree]; kernel_rfl) (by first | rfl | decide +kernel) (by decide +kernel) (by rw [fastTable_eq_tree]; kernel_rfl), by kernel_rfl, by kernel_rfl, by decide +kernel⟩
abbrev keBm : List Value := [.type "KeyError", .type "LookupError", .type "Exception", .type "BaseException", .type "object"]
abbrev lkBm : List Value := [.type "LookupError", .type "Exception", .type "BaseException", .type "object"]
abbrev veBm : List Value := [.type "ValueError", .type "Exception", .type "BaseException", .type "object"]
theorem keStore : StoreFacts "KeyError" keBm "object.__setattr__" "object" :=
  { mro := by kernel_rfl, slot := .of (owner := "object") (n := "__setattr__") (by rw [typeLookup_type, builtinLookup_eq_fast]; kernel_rfl) (by decide +kernel) (by decide +kernel) (by decide +kernel) (by first | exact .inl (by decide +kernel) | exact .inr (by decide +kernel)) (by rw [isSubtype_type]; kernel_rfl),
    entry := F.store_ValueError.entry, kind := F.store_ValueError.kind, split := F.store_ValueError.split, hasOwner := by decide +kernel, args := F.store_ValueError.args, passes := fun _ => by kernel_rfl }
theorem keX : KxsFacts "KeyError" "KeyError.__init__" := ⟨by show builtinType _ = _; rw [builtinType_eq_fast]; kernel_rfl, by first | kernel_rfl | rfl⟩
inductive Base where
  | ve | ke
def Base.B : Base → String
  | .ve => "ValueError"
  | .ke => "KeyError"
/-- the owner of __new__ -/
def Base.nB : Base → String
  | .ve => "ValueError"
  | .ke => "LookupError"
def Base.newId : Base → String
  | .ve => "ValueError.__new__"
  | .ke => "LookupError.__new__"
def Base.initId : Base → String
  | .ve => "ValueError.__init__"
  | .ke => "KeyError.__init__"
def Base.nInit : Base → String
  | .ve => "ValueError.__init__"
  | .ke => "LookupError.__init__"
def Base.bm : Base → List Value
  | .ve => veBm
  | .ke => keBm
def Base.nBm : Base → List Value
  | .ve => veBm
  | .ke => lkBm
theorem Base.base : ∀ b : Base, ExcBaseFacts b.nB b.newId b.nInit b.nBm
  | .ve => F.excBase_ValueError
  | .ke => F.excBase_LookupError
theorem Base.store : ∀ b : Base, StoreFacts b.B b.bm "object.__setattr__" "object"
  | .ve => F.store_ValueError
  | .ke => keStore
theorem Base.kxs : ∀ b : Base, KxsFacts b.B b.initId
  | .ve => kxs_ValueError
  | .ke => keX
theorem Base.init : ∀ b : Base, InitF b.B b.initId
  | .ve => iVE
  | .ke => iKE
theorem Base.h3 : ∀ b : Base, b.bm.contains (.type b.nB) = true ∧ b.bm.contains (.type "AttributeError") = false ∧ b.bm.contains (.type "NameError") = false
  | .ve => by decide +kernel
  | .ke => by decide +kernel
end Co.Ex
namespace Co.Ex
open PySem PySem.W PySem.Calls PyProof.Rows PySem.Spec
/-! ### C(.., k = v): BaseException.__new__, then the own __init__ -/
section
variable {M : Model} {prog : Program} {w : World} {A : Around} {E : Value → Shared → Prop} {R : Result → Shared → Prop} {h : Heap} {g : Array GenState} {d : Drawn} {t : Nat} {os : OsState}
variable {nm q : Str} {C N : Addr} {bs bm bmB : List Value} {hdct : Bool} {sn : List Str} {sub : List Value} {ab : Bool} {col : Option Bool} {dd : Option Addr} {k0 k1 k2 k3 k5 : Option Value} {B newId initId : String} {rest : List Value} {kw : List (Str × Value)}
theorem chk_new (F : ExcBaseFacts B newId initId bmB) (hT : bm.contains (.type B) = true ∧ bm.contains (.type "AttributeError") = false ∧ bm.contains (.type "NameError") = false) {Q : Unit → Shared → Prop}
    (hC : h.get? C = some (excClassObj nm q C N bs bm hdct sn sub ab col dd k0 k1 k2 k3 k5 newId)) (hq : Q () ⟨h, g, d, t, os⟩) : wpAny M A (checkBuiltinCall newId ⟨.ref C :: rest, kw⟩) Q E ⟨h, g, d, t, os⟩ := by
  have hb : (Value.ref C :: bm).contains (.type B) = true := by rw [List.contains_cons, hT.1, Bool.or_true]
  have hn := F.noStar
  simp only [checkBuiltinCall, F.newKind, F.newSplit, F.newRow]
  repeat (first | refine wpAny_loadPart_at hC ?_ | (refine wpAny_isSubtype_exc hC ?_; rw [hb]) | refine wpAny_staticBase_exc hC ?_ | refine wpAny_madeBy_exc hC ?_ | simp only [bne_self_eq_false, Bool.false_eq_true, if_false] | wp_step)
  exact hq
theorem run_new (F : ExcBaseFacts B newId initId bmB) (hT : bm.contains (.type B) = true ∧ bm.contains (.type "AttributeError") = false ∧ bm.contains (.type "NameError") = false)
    (hC : h.get? C = some (excClassObj nm q C N bs bm hdct sn sub ab col dd k0 k1 k2 k3 k5 newId))
    (hq : R (.ok (.ret (.ref (h.objs.size + 1)))) ⟨(h.push (W.kdv_tup rest)).push (HandSPX.excO C h.objs.size), g, d, t, os⟩) (hrest : rest.length ≤ sizeLine) :
    codeAny (model prog w) A (.builtin newId ⟨.ref C :: rest, kw⟩) R ⟨h, g, d, t, os⟩ := by
  have he := F.ends
  have e1 : (Value.ref C :: bm).contains (.type B) = true := by rw [List.contains_cons, hT.1, Bool.or_true]
  have e2 : (Value.ref C :: bm).contains (.type "AttributeError") = false := by rw [List.contains_cons, hT.2.1]; rfl
  have e3 : (Value.ref C :: bm).contains (.type "NameError") = false := by rw [List.contains_cons, hT.2.2]; rfl
  refine codeAny_builtinAt F.entry ?_
  unfold Builtin.«BaseException.__new__»
  refine _root_.PySem.wpAt_bind ?_
  show _root_.PySem.wpAt _ _ _ (stack >>= _) _ _ _
  refine _root_.PySem.wpAt_bind (_root_.PySem.wpAt_stack fun p below => _root_.PySem.wpAt_of_wpAny ?_)
  wp_walk
  refine _root_.PySem.wpAt_of_wpAny ?_
  rw [F.owner]
  repeat (first | with_reducible refine wpAny_madeHere_exc F.canon hC ?_ | with_reducible refine wpAny_loadPart_at hC ?_ | (with_reducible refine wpAny_isSubtype_exc hC ?_; first | rw [e1] | rw [e2] | rw [e3]) | wp_step)
  show R _ _
  rw [Heap.size_push]
  exact hq
theorem type_callK (F : ExcBaseFacts B newId initId bmB) (hT : bm.contains (.type B) = true ∧ bm.contains (.type "AttributeError") = false ∧ bm.contains (.type "NameError") = false) {fI : Addr} {Q : Fin → Shared → Prop}
    (hC : h.get? C = some (excClassObj nm q C N bs bm hdct sn sub ab col dd k0 k1 k2 k3 k5 newId))
    (hi : W.Looks (model prog w) h (typeLookup (.ref C) "__init__") (some (.ref fI))) (hb : ∀ self, W.Looks (model prog w) h (bindSpecial (.ref fI) self) (.ref fI, [self])) (hrest : rest.length ≤ sizeLine)
    (hq : codeAny (model prog w) A (.call (.ref fI) ⟨.ref (h.objs.size + 1) :: rest, kw⟩)
      (fun r s' => match r with | .ok (.ret v) => v = .none ∧ Q (.done (.ret (.ref (h.objs.size + 1)))) s' | .ok _ => False | .error e => E e s')
      ⟨(h.push (W.kdv_tup rest)).push (HandSPX.excO C h.objs.size), g, d, t, os⟩) :
    wpAny (model prog w) A (Builtin.«type.__call__» ⟨.ref C :: rest, kw⟩) Q E ⟨h, g, d, t, os⟩ := by
  repeat (first | with_reducible refine wpAny_loadPart_at hC ?_ | with_reducible refine wpAny_madeBy_exc hC ?_ | wp_step)
  refine codeAny_call_builtin_code (Code.quiet_builtin _ F.quiet) (chk_new F hT hC ?_)
  refine run_new F hT hC ?_ hrest
  show wpAny _ _ _ _ _ _
  have k : ∀ b o, h.get? b = some o → ((h.push (W.kdv_tup rest)).push (HandSPX.excO C h.objs.size)).get? b = some o := fun b o e => Heap.get?_push_of_some _ (Heap.get?_push_of_some _ e)
  have hC1 := k _ _ hC
  have hg : ((h.push (W.kdv_tup rest)).push (HandSPX.excO C h.objs.size)).get? (h.objs.size + 1) = some (HandSPX.excO C h.objs.size) := by heap_get
  have hcC : (Value.ref C :: bm).contains (.ref C) = true := by simp
  have i1 := hi.keeps k
  have b1 := (hb (.ref (h.objs.size + 1))).keeps k
  unfold isInstance
  repeat (first | with_reducible refine wpAny_loadPart_at hg ?_ | (with_reducible refine wpAny_isSubtype_exc hC1 ?_; rw [hcC]) | wp_step)
  show wpAny _ _ (typeLookup (.ref C) _) _ _ _
  refine i1.at ?_
  refine wpAny_holding (wpAny_bind (b1.at ?_))
  refine wpAny_bind (wpAny_call (codeAny_mono hq fun r s' z => ?_))
  rcases r with e | (v | _ | _ | _) <;> first | exact z | exact z.elim | skip
  obtain ⟨rfl, z⟩ := z
  first
    | exact wpAny_pure (wpAny_pure z)
    | (wp_walk; exact z)
theorem chk_type (hC : h.get? C = some (excClassObj nm q C N bs bm hdct sn sub ab col dd k0 k1 k2 k3 k5 newId)) {Q : Unit → Shared → Prop}
    (hq : Q () ⟨h, g, d, t, os⟩) : wpAny M A (checkBuiltinCall "type.__call__" ⟨.ref C :: rest, kw⟩) Q E ⟨h, g, d, t, os⟩ := by
  have f3 := tc_sub
  have hT : (⟨h, g, d, t, os⟩ : Shared).TypeIs (.ref C) "type" := ⟨_, hC, rfl⟩
  simp only [checkBuiltinCall, tc_kind, tc_split]
  repeat (any_goals (first | assumption | with_reducible refine wpAny_loadPart_at hC ?_ | with_reducible refine wpAny_onRaise ?_ | with_reducible refine wpAny_map ?_ | wp_step))
theorem callK (F : ExcBaseFacts B newId initId bmB) (hT : bm.contains (.type B) = true ∧ bm.contains (.type "AttributeError") = false ∧ bm.contains (.type "NameError") = false) {fI : Addr}
    (hC : h.get? C = some (excClassObj nm q C N bs bm hdct sn sub ab col dd k0 k1 k2 k3 k5 newId))
    (hi : W.Looks (model prog w) h (typeLookup (.ref C) "__init__") (some (.ref fI))) (hb : ∀ self, W.Looks (model prog w) h (bindSpecial (.ref fI) self) (.ref fI, [self])) (hrest : rest.length ≤ sizeLine)
    (hq : codeAny (model prog w) (A.under (.builtin "type.__call__" ⟨.ref C :: rest, kw⟩)) (.call (.ref fI) ⟨.ref (h.objs.size + 1) :: rest, kw⟩) (W.InitBack (h.objs.size + 1) R)
      ⟨(h.push (W.kdv_tup rest)).push (HandSPX.excO C h.objs.size), g, d, t, os⟩) :
    codeAny (model prog w) A (.call (.ref C) ⟨rest, kw⟩) R ⟨h, g, d, t, os⟩ := by
  have f1 := tc_lookup
  have f2 := tc_bind (.ref C)
  have hTy : (⟨h, g, d, t, os⟩ : Shared).TypeIs (.ref C) "type" := ⟨_, hC, rfl⟩
  refine codeAny_of_tree ?_
  show wpAny _ _ (callAny (.ref C) _) _ _ _
  repeat (any_goals (first | assumption | with_reducible refine wpAny_loadPart_at hC ?_ | wp_step))
  refine ⟨rfl, ?_⟩
  refine codeAny_call_builtin_at (Code.quiet_builtin _ (by decide +kernel)) entry_typeCall (chk_type hC (type_callK F hT hC hi hb hrest ?_))
  refine codeAny_mono hq fun r s' z => ?_
  rcases r with e | (v | _ | _ | _) <;> exact z
end
end Co.Ex
namespace Co.Ex
open PySem PySem.W PySem.Calls PyProof.Rows PySem.Spec L2
def echoBody (a : Str) (p0 p1 p2 p3 p4 p5 p6 p7 p8 p9 : Pos) : List Stmt :=
  [.Expr (.Call (.Attribute (.Call (.Name "super" p0) [] [] p1) "__init__" p2) [.Name a p3] [] p4) p5, .Assign [.Attribute (.Name "self" p6) a p7] (.Name a p8) p9]
/-- the def's scope -/
structure ScopeX (sc : Scope) (a : Str) : Prop where
  kind : sc.kind = .function
  co : sc.isCoroutine = false
  gen : sc.isGenerator = false
  sup : sc.names.lookup ("super" : Str) = some .globalImplicit
  cl : sc.names.lookup ("__class__" : Str) = some .free
  self : sc.names.lookup ("self" : Str) = some .local
  arg : sc.names.lookup a = some .local
  cell : ∀ x ∈ sc.names, x.2 ≠ .cell
/-- an own exception class whose __init__ says super().__init__(a); self.a = a -/
structure ExcD (P : Program) (K : Frag) (C fI : Addr) (a : Str) (b : Base) : Prop where
  ini : findIn K (.ref C) "__init__" = some (some (.ref fI))
  q : excInitIn K C b.bm b.newId = true
  isf : isFn K (.ref fI) = true
  kp : keepIn K (.ref C) = true
  fn : ∃ (oc : Value) (od : Option Addr) (osl : Array (Option Value)) (name qual : Str) (params : Arguments) (scope : Scope) (dV kV doc pm : Value) (an : Option Addr) (cda : Addr) (ct : Value) (cc : Addr) (p0 p1 p2 p3 p4 p5 p6 p7 p8 p9 : Pos), (p2.endLine == p4.line) = true ∧
    K.lookup fI = some ⟨oc, od, .func (ksFn name qual params (echoBody a p0 p1 p2 p3 p4 p5 p6 p7 p8 p9) scope dV kV doc pm an (.ref cda) ct cc), osl⟩ ∧ codeIn K (.ref cda) qual = true ∧ ScopeX scope a ∧
    (∃ ccl cdd vs ccs file tf, K.lookup cda = some ⟨ccl, cdd, .fields vs, ccs⟩ ∧ vs[2]? = some (.str file tf) ∧ ((P.main.file : Str) == file) = true) ∧ (∃ cl cld csl, K.lookup cc = some ⟨cl, cld, .cell (some (.ref C)), csl⟩) ∧
    (∃ ar, (params.posonlyargs ++ params.args).head? = some ar ∧ ar.arg = "self") ∧
    ∀ s x v, BindsTo s (ksFn name qual params (echoBody a p0 p1 p2 p3 p4 p5 p6 p7 p8 p9) scope dV kV doc pm an (.ref cda) ct cc) ⟨[x], [(a, v)]⟩ [("self", x), (a, v)]
  ne : a ≠ "self"
  dbg : (a == ("__debug__" : Str)) = false
  sup : ks_superIn K C C "__init__" = some (some (.builtin b.initId))
  subB : subIn K (.ref C) (.type b.B) = some true
  me : mroIn K C (.ref C) = some true
  nsup : nsIn K mainGlobals "super" = some none
  nopq : nsIn K cStatics "thirdparty.any" = some none
  sa : findIn K (.ref C) "__setattr__" = some (some (.builtin "object.__setattr__"))
  over : excOver K C b.bm = true
  tak : takerIn K C a = some none
  hd : hasDictIn K C = true
  ga : findIn K (.ref C) "__getattribute__" = some (some (.builtin "BaseException.__getattribute__"))
  gg : findIn K (.ref C) "__getattr__" = some none
  exB : subIn K (.ref C) (.type "BaseException") = some true
  att : findIn K (.ref C) a = some none
  top : (P.main.scope.names.lookup ("super" : Str)).isSome = false
section
variable {P : Program} {w : World} {A : Around} {E : Value → Shared → Prop} {s : Shared} {h0 : Heap} {L x C D f cc cda : Addr} {m mg : Str → Option Value} {news : List (Addr × Obj)} {K : Frag} {ox : Obj} {odx : Option Obj}
/-- super() in such a def -/
theorem sup_node {body : List Stmt} {q : Str} {scope : Scope} {p0 p1 : Pos} {attr : Str} {whole : Sem Value} {fd : FuncData} {ar : Arg} {vs : Array Value} {file : Str} {tf : Tok} {oc ccl cl : Value} {od cdd cld : Option Addr} {osl ccs csl : Array (Option Value)} {cdD : ClassData} {Q : Value → Shared → Prop}
    (F : Fr h0 L s.heap m) (N : News h0 L s.heap news) (T : Mod K mg h0)
    (hf : K.lookup f = some ⟨oc, od, .func fd, osl⟩) (hp : (fd.params.posonlyargs ++ fd.params.args).head? = some ar) (hv : m ar.arg = some (.ref x)) (I : InstAt s.heap x ox C odx)
    (hcode : K.lookup cda = some ⟨ccl, cdd, .fields vs, ccs⟩) (hvs : vs[2]? = some (.str file tf)) (hfile : ((P.main.file : Str) == file) = true)
    (hcell : K.lookup cc = some ⟨cl, cld, .cell (some (.ref D)), csl⟩) (hD : clsIn K D = some cdD) (hsub : mroIn K C (.ref D) = some true) (hsuper : nsIn K mainGlobals "super" = some none)
    (hat : (attr == ("__class__" : Str)) = false) (hks : scope.names.lookup ("super" : Str) = some .globalImplicit) (hkc : scope.names.lookup ("__class__" : Str) = some .free) (hka : scope.names.lookup ar.arg = some .local) (hk : scope.kind = .function)
    (htop : (P.main.scope.names.lookup ("super" : Str)).isSome = false)
    (h : ∀ so h', Fr h0 L h' m → News h0 L h' ((so, ks_superObj D x C) :: news) → (∀ p ∈ news, p.1 < so) → Q (.ref so) { s with heap := h' }) :
    _root_.PySem.wpAt (model P w) A (.func body (ksEnv q scope L f (.ref cda) cc)) (attributeBase (.Call (.Name "super" p0) [] [] p1) attr (ksEnv q scope L f (.ref cda) cc) whole) Q E s := by
  have X : K.In s.heap := T.kin.keeps F.keep
  obtain ⟨mb, hmb, hblt⟩ := T.blt
  obtain ⟨hh, g, d, t, os⟩ := s
  obtain ⟨oD, hD1, hD2⟩ : ∃ oD, hh.get? D = some oD ∧ oD.data = .cls cdD := by
    unfold clsIn at hD
    split at hD
    · rename_i c d cd' sl ho
      cases hD
      exact ⟨_, X _ _ ho, rfl⟩
    · cases hD
  refine ks_wpAt_super_base (env := ksEnv q scope L f (.ref cda) cc) hks hkc hat rfl (X _ _ hf) rfl hp rfl (X _ _ hcode) rfl hvs hfile htop ?_
  refine ks_loadName_global hk hks (loadGlobal_builtin (env := ksEnv q scope L f (.ref cda) cc) (T.glob.keeps F.keep) (mg_none_of T.kin T.glob hsuper) (hmb.keeps F.keep) ((hblt _ (by decide +kernel)).trans (by first | boot_by_name | rfl | kernel_rfl)) ⟨rfl, ?_⟩)
  refine wpAny_loadName_free hk hkc rfl ⟨_, X _ _ hcell, rfl⟩ ?_
  refine wpAny_loadName_local hk hka F.ns hv ?_
  refine ks_wpAny_isType_cls hD1 hD2 ⟨rfl, ?_⟩
  refine ks_wpAny_call_super hD1 hD2 I.at_ I.cls (fun c e => ?_) (looks_mroIn X hsub) (fun h' e k => ?_)
  · have := I.no
    unfold notCls at this
    rw [e] at this
    exact Bool.noConfusion this
  · obtain ⟨F', N', l'⟩ := ks_newsPush (s := ⟨hh, g, d, t, os⟩) F N rfl e k
    exact h _ _ F' N' l'
end
section
variable {P : Program} {w : World} {A : Around} {E : Value → Shared → Prop} {h0 : Heap} {C fI : Addr} {mg : Str → Option Value} {K : Frag} {a : Str} {b : Base} {hp : Heap} {g : Array GenState} {d : Drawn} {t : Nat} {os : OsState}
theorem sup_eval {o e : Expr} {m : Str} {env : PySem.Env} {apos pos : Pos} (hs : nstar e = true) (hline : (apos.endLine == pos.line) = true) : ∃ pl : Sem Bool, eval (.Call (.Attribute o m apos) [e] [] pos) env = (do
      let ov ← attributeBase o m env (eval o env)
      standAt apos.atName
      let (f, first) ← holding [ov] (getMethod ov m pl)
      callWith pos f first (backTo pos (starEach [e] env)) []) := by
  refine ⟨do return (← importBound o env).getD true, ?_⟩
  rw [arm_eval_Call]
  have hform := form_any (es := [e]) (kws := []) (ks := []) (env := env) (pos := pos) (by simp [hs]) rfl (by simp)
  have hpos : methodCallPos true o env apos pos = pure pos := by unfold methodCallPos; simp [hline]
  unfold methodCall calleeOf
  rw [hform, hpos]
  rfl
theorem chk_bound {M : Model} {B i : String} (F : InitF B i) {nm q : Str} {C N e : Addr} {oe : Obj} {bs bm : List Value} {hdct : Bool} {sn : List Str} {sub : List Value} {ab : Bool} {col : Option Bool} {dd : Option Addr} {k0 k1 k2 k3 k5 : Option Value} {rest : List Value} {newId : String} {h : Heap} {Q : Unit → Shared → Prop}
    (hC : h.get? C = some (excClassObj nm q C N bs bm hdct sn sub ab col dd k0 k1 k2 k3 k5 newId)) (he : h.get? e = some oe) (hcls : oe.cls = .ref C) (hq : Q () ⟨h, g, d, t, os⟩) : wpAny M A (checkBoundCall i ⟨.ref e :: rest, []⟩) Q E ⟨h, g, d, t, os⟩ := by
  have hn := F.star
  simp only [checkBoundCall, F.kind, F.row]
  repeat (first | (with_reducible refine wpAny_loadPart_at he ?_; rw [hcls]) | with_reducible refine wpAny_loadPart_at hC ?_ | wp_step)
  refine wpAny_onRaise ?_
  rw [show ∀ (a b : String) (n : Nat), Bind.check ⟨.positional, "*", B, .self, [⟨"args", .varPos, false⟩]⟩ a b n (List.map (fun x => x.fst) ({ pos := Value.ref e :: rest } : Args).kw) = pure () from fun a b n => check_star_args _ _ _ _ _ _]
  exact wpAny_pure hq
/-- the bound built-in __init__ called -/
theorem sup_call {s : Shared} {m : Str → Option Value} {news : List (Addr × Obj)} {B i newId : String} {bmB : List Value} {x u L : Addr} {t0 : Addr} {dv : Option Addr} {c2 : Value} {rest : List Value} {nw : Obj → List (Addr × Obj)} {Q : Value → Shared → Prop} (F : Fr h0 L s.heap m) (X0 : K.In h0) (N : News h0 L s.heap news) (FB : InitF B i) (q : excInitIn K C bmB newId = true) (hm : (u, kxs_mw i x) ∈ news)
    (U : UpdF x (excObj C t0 dv c2) news nw) (hz : rest.length ≤ sizeLine)
    (h : ∀ t' h', Fr h0 L h' m → News h0 L h' ((t', excTup rest) :: nw (excObj C t' dv c2)) → (∀ p ∈ news, p.1 < t') → Q .none { s with heap := h' }) : wpAny (model P w) A (call (.ref u) rest) Q E s := by
  obtain ⟨nm, N', qn, bs, bm, hdct, sn, sub, ab, col, dd, k0, k1, k2, k3, k5, hC, _⟩ := excInit_of (X0.keeps F.keep) q
  have hu := (N _ hm).1
  obtain ⟨pre, post, rfl, hg, a, b⟩ := U.split
  have he := (N (x, excObj C t0 dv c2) (by simp)).1
  have xn := (N (x, excObj C t0 dv c2) (by simp)).2
  have lt : ∀ p ∈ pre ++ (x, excObj C t0 dv c2) :: post, p.1 < s.heap.objs.size := fun p hp => Heap.lt_size (N p hp).1
  have fin : ∀ h', (∀ b o, b ≠ x → s.heap.get? b = some o → h'.get? b = some o) → h'.get? x = some (excObj C s.heap.objs.size dv c2) → h'.get? s.heap.objs.size = some (excTup rest) → Q .none { s with heap := h' } := fun h' k e' t' => by
    obtain ⟨oL, es, ep, hL, r⟩ := F.ns
    refine h s.heap.objs.size h' ⟨⟨oL, es, ep, k _ _ (fun z => xn.1 z.symm) hL, r⟩, fun b o z => k b o (fun y => by rw [y, xn.2] at z; cases z) (F.keep b o z), F.above⟩ ?_ lt
    rw [hg]
    intro p hp
    rcases List.mem_cons.mp hp with rfl | hp
    · refine ⟨t', fun z => ?_, ?_⟩
      · have y := Heap.lt_size (show s.heap.get? L = some oL from hL)
        exact absurd y (by rw [← z]; exact Nat.lt_irrefl _)
      · cases z : h0.get? s.heap.objs.size with
        | none => rfl
        | some o => exact absurd (Heap.lt_size (F.keep _ _ z)) (Nat.lt_irrefl _)
    · rcases List.mem_append.mp hp with hp | hp
      · have y := N p (List.mem_append_left _ hp)
        exact ⟨k _ _ (a p hp) y.1, y.2⟩
      · rcases List.mem_cons.mp hp with rfl | hp
        · exact ⟨e', xn⟩
        · have y := N p (List.mem_append_right _ (.tail _ hp))
          exact ⟨k _ _ (b p hp) y.1, y.2⟩
  obtain ⟨hh, g, d, tk, os⟩ := s
  refine wpAny_call (codeAny_of_tree ?_)
  show wpAny _ A.in1 (callAny (.ref u) ⟨rest, []⟩) _ _ _
  simp only [callAny]
  refine wpAny_bind (wpAny_load hu ?_)
  simp only [kxs_mw, show (Value.type "method-wrapper" == Value.type "method" || Value.type "method-wrapper" == Value.type "builtin_function_or_method" || Value.type "method-wrapper" == Value.type "method-wrapper") = true by decide, if_true]
  refine KFB.if_so (by decide) ?_
  refine wpAny_bind (chk_bound FB hC he rfl ?_)
  refine wpAny_bind (wpAny_pure (wpAny_pure ?_))
  refine ⟨plainId_quiet FB.plain _, codeAny_builtin FB.entry ?_⟩
  exact exc_init_tree (cls := .ref C) (t0 := t0) (dv := dv) (c2 := c2) (c3 := .none) (b4 := .bool false) he hz fin
theorem ldX {M : Model} {s : Shared} {env : PySem.Env} {m : Str → Option Value} {x : Str} {pos : Pos} {v : Value} {Q : Value → Shared → Prop} (hn : s.heap.Ns env.locals m) (hv : m x = some v) (hk : env.scope.kind = .function) (hl : env.kindOf x = some .local) (hd : (x == ("__debug__" : Str)) = false) (h : Q v s) :
    wpAny M A (eval (.Name x pos) env) Q E s := wpAny_Name (wpAny_loadName_local hk hl hn hv h) hd
/-- the body's run -/
theorem body_run {L x t0 : Addr} {v : Value} {m : Str → Option Value} {qual : Str} {scope : Scope} {cda cc : Addr} {oc : Value} {od : Option Addr} {osl : Array (Option Value)} {fd : FuncData} {ar : Arg} {p0 p1 p2 p3 p4 p5 p6 p7 p8 p9 : Pos}
    {ccl cl : Value} {cdd cld : Option Addr} {vs : Array Value} {ccs csl : Array (Option Value)} {file : Str} {tf : Tok} {Q : Flow → Shared → Prop}
    (Z : ExcD P K C fI a b) (hline : (p2.endLine == p4.line) = true) (T : Mod K mg h0) (F : Fr h0 L hp m) (N : News h0 L hp [(x, excObj C t0 none .none), (t0, excTup [])]) (hxt : t0 ≠ x) (m1 : m "self" = some (.ref x)) (m2 : m a = some v) (hv : handedIn v = true)
    (hf : K.lookup fI = some ⟨oc, od, .func fd, osl⟩) (hpa : (fd.params.posonlyargs ++ fd.params.args).head? = some ar) (har : ar.arg = "self") (S : ScopeX scope a)
    (hcode : K.lookup cda = some ⟨ccl, cdd, .fields vs, ccs⟩) (hvs : vs[2]? = some (.str file tf)) (hfile : ((P.main.file : Str) == file) = true) (hcell : K.lookup cc = some ⟨cl, cld, .cell (some (.ref C)), csl⟩)
    (h : ∀ h' t' dx t1 es n nw, Fr h0 L h' m → News h0 L h' nw → (x, excObj C t1 (some dx) .none) ∈ nw → (dx, dictOf es n) ∈ nw → getL a es = some (some v) → Q .next ⟨h', g, d, t', os⟩) :
    _root_.PySem.wpAt (model P w) A (.func (echoBody a p0 p1 p2 p3 p4 p5 p6 p7 p8 p9) (ksEnv qual scope L fI (.ref cda) cc)) (execs (echoBody a p0 p1 p2 p3 p4 p5 p6 p7 p8 p9) (ksEnv qual scope L fI (.ref cda) cc)) Q E ⟨hp, g, d, t, os⟩ := by
  obtain ⟨cdC, hcC⟩ : ∃ cd, clsIn K C = some cd := by
    have := Z.hd
    unfold hasDictIn at this
    cases e : clsIn K C with
    | none => rw [e] at this; cases this
    | some cd => exact ⟨cd, rfl⟩
  have hq : interactive (ksEnv qual scope L fI (.ref cda) cc) = false := by unfold interactive; simp [S.kind]
  obtain ⟨pl, hev⟩ := sup_eval (o := .Call (.Name "super" p0) [] [] p1) (e := .Name a p3) (m := "__init__") (env := ksEnv qual scope L fI (.ref cda) cc) (apos := p2) (pos := p4) rfl hline
  refine ks_wpAt_execs_cons (ks_wpAt_Expr_any (ks_wpAt_MethodCall (pl := pl) ?_ hev) hq rfl)
  · refine sup_node F N T hf hpa (by rw [har]; exact m1) (InstAt.of_exc0 (t := t0) (c2 := .none) N (by simp)) hcode hvs hfile hcell hcC Z.me Z.nsup (by decide +kernel) S.sup S.cl (by rw [har]; exact S.self) S.kind Z.top fun so h1 F1 N1 l1 => ?_
    refine kxs_method (x := x) (C := C) (D := C) b.kxs F1 T.kin N1 (by simp) (InstAt.of_exc0 (t := t0) (c2 := .none) N1 (by simp)) Z.nopq Z.sup Z.subB (by decide +kernel) fun u h2 F2 N2 l2 => ?_
    refine kxs_callWith1 (i := b.initId) (x := x) N2 (by simp) ?_
    refine spliced_more (ldX F2.ns m2 S.kind S.arg Z.dbg ?_)
    refine spliced_none ⟨kxs_at N2 (by simp), ?_⟩
    have e1 : so ≠ x := Nat.ne_of_gt (l1 (x, excObj C t0 none .none) (by simp))
    have e2 : u ≠ x := Nat.ne_of_gt (l2 (x, excObj C t0 none .none) (by simp))
    refine sup_call (x := x) (t0 := t0) (dv := none) (c2 := .none) F2 T.kin N2 b.init Z.q (by simp) (UpdF.tail e2 (UpdF.tail e1 (UpdF.head (fun p hp => by
      rcases List.mem_singleton.mp hp with rfl
      exact hxt)))) (by simp [sizeLine_eq]) fun t1 h3 F3 N3 l3 => ?_
    dsimp only at N3 ⊢
    have e3 : t1 ≠ x := Nat.ne_of_gt (l3 (x, excObj C t0 none .none) (by simp))
    refine ks_wpAt_execs_cons (ks_wpAt_Assign_Attr (_root_.PySem.wpAt_of_wpAny (ldX F3.ns m2 S.kind S.arg Z.dbg (ldX F3.ns m1 S.kind S.self (by decide +kernel) ?_))) rfl)
    refine set_exc0 (x := x) (t := t1) (c2 := .none) b.store F3 T.kin N3 (by simp) Z.sa Z.over Z.tak Z.hd rfl (UpdF.tail e3 (UpdF.tail e2 (UpdF.tail e1 (UpdF.head (fun p hp => by
      rcases List.mem_singleton.mp hp with rfl
      exact hxt))))) (by simp [putL]) fun dx h4 F4 N4 l4 => ?_
    dsimp only at N4 ⊢
    refine _root_.PySem.wpAt_of_wpAny (wpAny_pure ?_)
    refine h _ _ dx t1 _ _ _ F4 N4 (by simp) List.mem_cons_self ?_
    simp [putL, getL, Value.isStr]
/-- C(a = v).a -/
theorem echo_run {v : Value} {Q : Value → Shared → Prop} {expr : Bool} (Z : ExcD P K C fI a b) (T : Mod K mg hp) (hroom : (A.under (.builtin "type.__call__" ⟨[.ref C], [(a, v)]⟩)).depth < recursionLimit) (hv : handedIn v = true)
    (h : ∀ h' t', (∀ y o, hp.get? y = some o → h'.get? y = some o) → Q v ⟨h', g, d, t', os⟩) :
    wpAny (model P w) A (call (.ref C) [] [(a, v)]) (fun u s' => wpAny (model P w) A (getAttr u a expr) Q E s') E ⟨hp, g, d, t, os⟩ := by
  obtain ⟨nm, N', qn, bs, bm, hdct, sn, sub, ab, col, dd, k0, k1, k2, k3, k5, hC, hT⟩ := excInit_of T.kin Z.q
  obtain ⟨oI, hoI, hcI⟩ : ∃ oI, hp.get? fI = some oI ∧ oI.cls = .type "function" := by
    obtain ⟨o, ho, hc⟩ := Option.map_eq_some_iff.mp (show (K.lookup fI).map (·.cls) = some (.type "function") from beq_iff_eq.mp Z.isf)
    exact ⟨o, T.kin _ _ ho, hc⟩
  obtain ⟨e1, e2, e3⟩ := b.h3
  obtain ⟨oc, od, osl, name, qual, params, scope, dV, kV, doc, pm, an, cda, ct, cc, p0, p1, p2, p3, p4, p5, p6, p7, p8, p9, hline, lk, hcd, S, ⟨ccl, cdd, vs, ccs, file, tf, hcode, hvs, hfile⟩, ⟨cl, cld, csl, hcell⟩, ⟨ar, hpa, har⟩, hb⟩ := Z.fn
  refine wpAny_call (callK b.base ⟨by rw [hT]; exact e1, by rw [hT]; exact e2, by rw [hT]; exact e3⟩ hC (looks_findIn T.kin Z.ini) (fun self => exc_bind hoI hcI self) (by simp) ?_)
  have k1 : ∀ y o, hp.get? y = some o → ((hp.push (W.kdv_tup [])).push (HandSPX.excO C hp.objs.size)).get? y = some o := fun y o e => Heap.get?_push_of_some _ (Heap.get?_push_of_some _ e)
  have gx : ((hp.push (W.kdv_tup [])).push (HandSPX.excO C hp.objs.size)).get? (hp.objs.size + 1) = some (HandSPX.excO C hp.objs.size) := by heap_get
  have gt : ((hp.push (W.kdv_tup [])).push (HandSPX.excO C hp.objs.size)).get? hp.objs.size = some (W.kdv_tup []) := by heap_get
  have sz : ((hp.push (W.kdv_tup [])).push (HandSPX.excO C hp.objs.size)).objs.size = hp.objs.size + 2 := by rw [Heap.size_push, Heap.size_push]
  have hk1 := T.kin.keeps k1
  refine ks_codeAny_call_defAt (fd := ksFn name qual params (echoBody a p0 p1 p2 p3 p4 p5 p6 p7 p8 p9) scope dV kV doc pm an (.ref cda) ct cc) hroom (hk1 _ _ lk) rfl (T.nolimit.keeps k1) (codeRec_of hk1 hcd) rfl (hb _ _ _) S.cell (fun y hy => ?_) (fun h2 hns hk => ?_) S.co S.gen S.kind
  · rcases List.mem_cons.mp hy with rfl | hy
    · exact S.self
    · rcases List.mem_singleton.mp hy with rfl
      exact S.arg
  · have nx : ∀ y, hp.objs.size ≤ y → hp.get? y = none := fun y hy => Heap.get?_none_of_le hy
    refine body_run (x := hp.objs.size + 1) (t0 := hp.objs.size) (v := v) Z hline T (m := fun x => List.lookup x [(("self" : Str), Value.ref (hp.objs.size + 1)), (a, v)].reverse) ⟨hns, fun y o e => hk _ _ (k1 _ _ e), by rw [sz]; omega⟩ (fun p hp' => ?_) (Nat.ne_of_lt (Nat.lt_succ_self _)) ?_ ?_ hv lk hpa har S hcode hvs hfile hcell (fun h' t' dx t1 es n nw F N mx md hl => ?_)
    · rcases List.mem_cons.mp hp' with rfl | hp'
      · exact ⟨hk _ _ gx, by rw [sz]; exact Nat.ne_of_lt (Nat.lt_succ_self _), nx _ (Nat.le_succ _)⟩
      · rcases List.mem_singleton.mp hp' with rfl
        exact ⟨hk _ _ gt, by rw [sz]; exact Nat.ne_of_lt (Nat.lt_succ_of_lt (Nat.lt_succ_self _)), nx _ (Nat.le_refl _)⟩
    · show List.lookup _ [(a, v), (("self" : Str), Value.ref (hp.objs.size + 1))] = _
      have : (("self" : Str) == a) = false := by simpa using (fun e => Z.ne e.symm)
      simp [List.lookup, this]
    · show List.lookup _ [(a, v), (("self" : Str), Value.ref (hp.objs.size + 1))] = _
      simp [List.lookup]
    · refine ⟨rfl, ?_⟩
      exact get_exc F T.kin N mx rfl rfl rfl md Z.ga Z.gg Z.exB Z.hd Z.att rfl hl hv (h _ _ F.keep)
end
end Co.Ex
namespace Co
open PySem PySem.Spec PyProof.Rows L2
section
variable {X : Cx} {g : G} {D : Cl} {ce : CE} {e : Expr} {a x : Str} {b : Ex.Base} {C fI : Addr} {k : Nat} {p pos kpos apos : Pos}
/-- C(a = e).a -/
theorem s_echo (Z : Ex.ExcD X.prog X.K C fI a b) (hr : Room (k + 1) X.A) (hg : Gl X x) (hm : X.mg x = some (.ref C)) (hdb : (x == ("__debug__" : Str)) = false) (he : PE X e (tE g D ce)) :
    PE X (.Attribute (.Call (.Name x p) [] [⟨some a, e, kpos⟩] pos) a apos) (tE g D ce) := by
  refine ⟨fun pins s σ H Q I h => ?_⟩
  refine attr_of (ab_of rfl) ?_
  refine wpAny_Call_Name_kw (ld_glob I hg hm ?_ hdb)
  have hkw : PK X [⟨some a, e, kpos⟩] (tA g D (.cons ce .nil)) := sk_cons he sk_nil
  refine PySem.W.callWith_of (P := fun h => X.K.In h) (plain_any (es := []) (kws := [⟨some a, e, kpos⟩]) (ks := [a]) rfl rfl) (PySem.W.keeps_K Z.kp) (thn (evalArgs_any (es := []) (kws := [⟨some a, e, kpos⟩]) (ks := [a]) (R := fun vs zs H2 => vs = [] ∧ ∃ y, zs = [y] ∧ Q y H2) rfl rfl (sa_nil (g := g) (D := D)) (fun _ σ H Q h => ?hn) hkw I ?hq) fun ar s2 hq => ?_)
  case hn =>
    obtain ⟨F, mu, env, m, hE, hM, hw⟩ := h
    exact W.ok hw hM [] rfl
  case hq =>
    obtain ⟨F, mu, env, m, hE, hM, hw⟩ := h
    refine ⟨F, mu, env, m, hE, hM, fun F1 mu1 H1 st1 rm1 vs hvs => ?_⟩
    obtain rfl : vs = [] := hvs
    refine ⟨F1, mu1, env, m, hE.step st1, rm1, ?_⟩
    simp only [evEs]
    cases q : evE D ce env m with
    | stuck => rw [q] at hw; exact hw.elim
    | exc z m1 => rw [q] at hw; exact hw.elim
    | ok y m1 =>
      rw [q] at hw
      intro F2 mu2 H2 st2 rm2 zs hzs
      obtain ⟨z, r, rfl, hz, hr⟩ := hzs
      obtain rfl : r = [] := hr
      exact ⟨trivial, z, rfl, hw F2 mu2 H2 (st1.trans st2) rm2 z hz⟩
  obtain ⟨us, ws, vs, zs, H2, rfl, I2, r, rz, rfl, y, rfl, q⟩ := hq
  cases r
  cases rz with
  | @cons _ u _ _ ru rr =>
    cases rr
    refine ⟨I2.kIn, ?_⟩
    obtain ⟨h2, g2, d2, t2, os2⟩ := s2
    obtain ⟨mb, hmb, hbl⟩ := I2.ok.mod.blt
    exact Ex.echo_run Z ⟨I2.kIn, I2.ok.mod.glob.keeps I2.bk, ⟨mb, hmb.keeps I2.bk, hbl⟩, I2.nolimit⟩ (hr.make C [] [(a, u)]).depth (handed_of ru) fun h' t' k => ⟨y, H2, I2.kept k, ru, q⟩
end
end Co

end P_CoreExc
section P_CoreNew
set_option Elab.async false
set_option linter.all false
set_option maxRecDepth 100000
set_option maxHeartbeats 2000000
/-! CoreNew: places in lists, dict displays, f-strings. -/
namespace Co
open PySem PySem.Spec PyProof.Rows L2
section
variable {X : Cx} {g : G} {D : Cl} {a b c : Expr} {ca cb cc : CE} {pos apos cpos : Pos}
theorem rec_lst {F : Hp} {mu : List Addr} {H : Hp} {m : Mem} {p : PV} {x : V} (rm : RelM g.K g.CA F mu m H) (hx : Rep g.K g.CA F mu p x) (h : recOk .index m p = true) : tyV g.K "list" x H := by
  have vx := view rm hx
  simp only [recOk] at h
  cases p with
  | lst xs =>
    obtain ⟨q, vs, rfl, h1, _⟩ := vx
    exact .inl ⟨rfl, vs, .of h1⟩
  | ref n =>
    dsimp only at h
    split at h
    · rename_i xs e
      obtain ⟨q, rfl, h1⟩ := hx
      obtain ⟨b, hb, vs, k1, k2, k3⟩ := rm.cells n _ e
      rw [h1] at hb
      cases hb
      exact .inl ⟨rfl, vs, .of k1⟩
    · cases h
  | _ => cases h
theorem m1_index : M1R g .index (rIndexD g.K) := by
  intro F mu H m x y p q Q' rm hx hy hw
  simp only [m1O, indexO] at hw
  cases e1 : datum (vw m p) with
  | none => rw [e1] at hw; exact hw.elim
  | some d1 =>
    cases e2 : datum (vw m q) with
    | none => rw [e1, e2] at hw; cases d1 <;> exact hw.elim
    | some d =>
      rw [e1, e2] at hw
      cases d1 with
      | list ds =>
        dsimp only at hw
        cases e3 : ds.findIdx? fun z => PyData.eqv z d with
        | none => rw [e3] at hw; exact hw.elim
        | some j =>
          rw [e3] at hw
          obtain ⟨h1, h2⟩ := datum_of e1
          obtain ⟨h3, h4⟩ := datum_of e2
          obtain ⟨hj, hj1, hj2⟩ := List.findIdx?_eq_some_iff_getElem.mp e3
          have vx := view rm hx
          have hd := dp_view rm vx h1
          have hr : ∃ a, x = .ref a := by
            cases ep : vw m p with
            | lst xs =>
              rw [ep] at vx
              obtain ⟨q, vs, rfl, _⟩ := vx
              exact ⟨q, rfl⟩
            | tup xs =>
              rw [ep] at h1
              obtain ⟨ds', e⟩ := toD_tup h1
              cases e
            | _ => rw [ep] at h1; simp [toD] at h1
          obtain ⟨ad, rfl⟩ := hr
          refine ⟨ad, y, d, ds, j, ds[j], rfl, rfl, hd, dp_view rm (view rm hy) h3, h2, h4, List.getElem?_eq_getElem hj, hj1, fun k z' hk hz => ?_, W.ok hw rm _ rfl⟩
          obtain ⟨hk2, e⟩ := List.getElem?_eq_some_iff.mp hz
          subst e
          have := hj2 k hk
          simpa using this
      | _ => exact hw.elim
theorem s_index (hK : X.K = g.K) (hu : X.A.units + 65 < cLine) (ho : PE X a (tE g D ca)) (he : PE X b (tE g D cb)) (h0 : ab0 a = true) (hs : nstar b = true) (hline : (apos.endLine == cpos.line) = true) : PE X (.Call (.Attribute a "index" apos) [b] [] cpos) (tE g D (.m1 .index ca cb)) :=
  s_ml F.plainAttrs_list F.slot_list_index F.type_list_index (by have := mt_indexD (X := X) hu; rw [hK] at this; exact this) ho he h0 hs hline (fun F mu H m p x rm hx h => by rw [hK]; exact rec_lst rm hx h) m1_index
/-! ### each expression by itself -/
inductive PEl (X : Cx) (g : G) (D : Cl) : List Expr → CEs → Prop where
  | nil : PEl X g D [] .nil
  | cons {e : Expr} {c : CE} {es : List Expr} {cs : CEs} (h : PE X e (tE g D c)) (r : PEl X g D es cs) : PEl X g D (e :: es) (.cons c cs)
/-! ### dict displays -/
def keyConst : Expr → Option Str
  | .Constant (.str x) _ _ => some x
  | _ => none
def dispKeys : List (Option Expr) → Option (List Str)
  | [] => some []
  | some e :: r => match keyConst e, dispKeys r with
    | some x, some xs => some (x :: xs)
    | _, _ => none
  | none :: _ => none
def tesOf (g : G) (D : Cl) : CEs → List TE
  | .nil => []
  | .cons c r => tE g D c :: tesOf g D r
  | .star _ _ => []
def tPs (g : G) (D : Cl) : List Str → CEs → List (TE × TE)
  | s :: ss, .cons c r => (tC (.str s), tE g D c) :: tPs g D ss r
  | _, _ => []
theorem keyConst_pe {e : Expr} {x : Str} (h : keyConst e = some x) : PE X e (tC (.str x)) := by
  unfold keyConst at h
  split at h
  · cases h; exact pe_str
  · cases h
theorem pps_of {pos : Pos} : ∀ {keys : List (Option Expr)} {es : List Expr} {ces : CEs} {ss : List Str}, dispKeys keys = some ss → PEl X g D es ces → keys.length = es.length → PPs X pos keys es (tPs g D ss ces) ∧ keys.all (·.isSome) = true ∧ ss.length = keys.length
  | [], [], _, _, h, hp, _ => by
    cases h
    cases hp
    exact ⟨pps_nil, rfl, rfl⟩
  | some e :: keys, v :: es, _, ss, h, hp, hl => by
    cases hp with
    | cons hv hr =>
      simp only [dispKeys] at h
      split at h
      · rename_i x xs h1 h2
        cases h
        obtain ⟨i1, i2, i3⟩ := pps_of (pos := pos) h2 hr (by simpa using hl)
        exact ⟨pps_cons (keyConst_pe h1) hv i1, by rw [List.all_cons, i2]; rfl, by rw [List.length_cons, List.length_cons, i3]⟩
      · cases h
  | none :: _, _, _, _, h, _, _ => by cases h
  | [], _ :: _, _, _, _, _, hl => by simp at hl
  | some _ :: _, [], _, _, _, _, hl => by simp at hl
theorem pairs_go {es : List Expr} {ces : CEs} (h : PEl X g D es ces) : ∀ {ss : List Str}, ss.length = es.length → ∀ {F : Hp} {mu : List Addr} {env : Env} {m : Mem} {σ : L2.St} {H : Hp} {Q : List (V × V) → Hp → Prop}, EnvR g F mu env σ → RelM g.K g.CA F mu m H →
    (W g F mu H (evEs D ces env m) fun ps m' F' mu' H' => ∀ vs, Reps g.K g.CA F' mu' ps vs → vs.length = ss.length → Q ((ss.map V.str).zip vs) H') → tPairs (tPs g D ss ces) σ H Q := by
  induction h with
  | nil =>
    intro ss hl F mu env m σ H Q hE hM hw
    cases ss with
    | nil => exact W.ok hw hM [] rfl rfl
    | cons s ss => simp at hl
  | @cons e c es cs he hr ih =>
    intro ss hl F mu env m σ H Q hE hM hw
    cases ss with
    | nil => simp at hl
    | cons s ss =>
      show tE g D c σ H fun y H2 => tPairs (tPs g D ss cs) σ H2 fun ps H3 => Q ((.str s, y) :: ps) H3
      refine ⟨F, mu, env, m, hE, hM, (W.bind hw).mono fun p m1 F1 mu1 H1 st rm hw1 y hy => ?_⟩
      refine ih (by simpa using hl) (hE.step st) rm ((W.bind hw1).mono fun ps m2 F2 mu2 H2 st2 rm2 hw2 vs hvs hvl => ?_)
      exact W.ok hw2 rm2 (y :: vs) ⟨y, vs, rfl, hy.step st2, hvs⟩ (by rw [List.length_cons, List.length_cons, hvl])
theorem upd_del2 {H : Hp} {A : Addr} {o : HO} : upd (Co.del H A) A o = upd H A o := by
  funext a
  by_cases e : a = A
  · subst e; rw [upd_same, upd_same]
  · rw [upd_ne e, upd_ne e, del_ne e]
theorem merge_new : ∀ {more acc : List (Key × V)}, (more.map (·.1)).Nodup → (∀ kv ∈ more, valV acc kv.1 = none) → mergeK acc more = acc ++ more
  | [], acc, _, _ => (List.append_nil acc).symm
  | p :: r, acc, hn, hv => by
    rw [List.map_cons, List.nodup_cons] at hn
    rw [List.forall_mem_cons] at hv
    show mergeK (putK acc p.1 p.2) r = _
    rw [putK_new _ hv.1, merge_new hn.2 fun kv hk => ?_]
    · rw [List.append_assoc]; rfl
    · rw [valV_snoc _ _ _ _ hv.1, if_neg (fun e => hn.1 (by rw [← e]; exact List.mem_map_of_mem hk))]
      exact hv.2 kv hk
theorem zip_inr : ∀ {ss : List Str} {vs : List V}, (ss.map V.str).zip vs = ((ss.map (Sum.inr : Str → Key)).zip vs).map fun kv => (kV kv.1, kv.2)
  | [], _ => rfl
  | _ :: _, [] => rfl
  | s :: ss, v :: vs => by
    rw [List.map_cons, List.map_cons, List.zip_cons_cons, List.zip_cons_cons, List.map_cons, zip_inr]
    rfl
theorem s_disp {keys : List (Option Expr)} {es : List Expr} {ces : CEs} {ss : List Str} (h : PEl X g D es ces) (hk : dispKeys keys = some ss) (hl : keys.length = es.length) (hn : ss.Nodup) (h0 : keys ≠ []) (h15 : keys.length ≤ 15) : PE X (.Dict keys es pos) (tE g D (.ddis (ss.map Sum.inr) ces)) := by
  obtain ⟨pps, hall, hsl⟩ := pps_of (pos := pos) hk h hl
  refine PE.conv (pe_disp pps hall hl h0 h15) fun σ H Q hq A hA => ?_
  obtain ⟨F, mu, env, m, hE, hM, hw⟩ := hq
  have e0 : Co.del (upd H A (.dK [])) A = H := by rw [del_upd, del_none hA]
  have hF : F A = none := by
    cases e : F A with
    | none => rfl
    | some u => exact absurd hA (hM.dom e)
  have hm : A ∉ mu := fun h => hM.in_dom h hA
  have hM1 : RelM g.K g.CA F mu m (upd H A (.dK [])) := relM_full (D := A) (by rw [e0]; exact hM)
  have hw0 := W.bind hw
  rw [← e0] at hw0
  refine pairs_go h (by rw [hsl, hl]) hE hM1 ((hw0.del upd_same hF hm).mono fun ps m1 F1 mu1 H1 st rm hq vs hvs hvl => ?_)
  obtain ⟨hA1, st1, rm1, hw1⟩ := hq
  obtain ⟨hlen, hw2⟩ := W.ck hw1
  have hlen : ps.length = (ss.map (Sum.inr : Str → Key)).length := of_decide_eq_true hlen
  refine ⟨hA1, (ss.map Sum.inr).zip vs, zip_inr, by rw [List.length_zip, List.length_map, hsl]; omega, ?_⟩
  have hz : (((ss.map (Sum.inr : Str → Key)).zip vs).map (·.1)) = ss.map Sum.inr := zip_keys (by rw [List.length_map, hvl])
  rw [merge_new (by rw [hz]; exact List.pairwise_map.mpr (hn.imp fun hab e => hab (by injection e))) (fun kv _ => rfl), List.nil_append]
  have hAn : Co.del H1 A A = none := del_same
  obtain ⟨s1, r1⟩ := cell_new (o := .dK ((ss.map Sum.inr).zip vs)) (c := .dic (ss.map Sum.inr) ps) rm1 hAn ⟨vs, upd_same, hlen, by rw [hlen, List.length_map, hsl, sizeLine_eq]; omega, hvs⟩
  have := hw2 _ _ _ s1 r1 (.ref A) ⟨A, rfl, by rw [← rm1.len, List.getElem?_append_right (Nat.le_refl _), Nat.sub_self]; rfl⟩
  rwa [upd_del2] at this
/-! ### dict(pairs) -/
theorem pairs_rep {F : Hp} {mu : List Addr} {H : Hp} {m : Mem} (rm : RelM g.K g.CA F mu m H) : ∀ {xs : List PV} {ks : List Key} {ps : List PV} {vs : List V}, pairsO xs = some (ks, ps) → Reps g.K g.CA F mu xs vs → ∃ (as : List Addr) (us : List V), vs = as.map V.ref ∧ Reps g.K g.CA F mu ps us ∧ ps.length = ks.length ∧ Paired (fun p (kv : Key × V) => SqT g.K H p [kV kv.1, kv.2]) as (ks.zip us)
  | [], _, _, vs, h, hr => by
    cases h
    rw [show vs = [] from hr]
    exact ⟨[], [], rfl, rfl, rfl, .nil⟩
  | x :: r, ks, ps, vs, h, hr => by
    obtain ⟨v, ws, rfl, hv, hws⟩ := hr
    simp only [pairsO] at h
    split at h
    · rename_i k v' qs us' h2
      cases ek : asKey k with
      | none => rw [ek] at h; cases h
      | some q =>
        rw [ek] at h
        cases h
        obtain ⟨as, us, rfl, i1, i2, i3⟩ := pairs_rep rm h2 hws
        have vx := view rm hv
        obtain ⟨a, zs, rfl, k1, k2, z1, r1, rfl, k3, z2, r2, rfl, k4, k5⟩ := vx
        rw [show r2 = [] from k5] at k1
        refine ⟨a :: as, z2 :: us, rfl, ⟨z2, us, rfl, k4, i1⟩, by rw [List.length_cons, List.length_cons, i2], .cons ?_ i3⟩
        show SqT g.K H a [kV q, z2]
        rw [← asKey_rep ek k3]
        exact k1
    · cases h
theorem s_dof {p : Pos} (hc : X.calm = true) (hK : X.K = g.K) (hg : Gl X "dict") (hm : X.mg "dict" = none) (hs : nstar a = true) (ha : PE X a (tE g D ca)) : PE X (.Call (.Name "dict" p) [a] [] pos) (tE g D (.dof ca)) := by
  refine PE.conv (pe_callTy (call_dictP hc) hg hm (by decide +kernel) (sa_cons' hs ha sa_nil) (by decide +kernel) (by decide +kernel) (starEach_cons hs) rfl) fun σ H Q h => ?_
  obtain ⟨F, mu, env, m, hE, hM, hw⟩ := h
  refine ⟨F, mu, env, m, hE, hM, one_arg hw fun q m1 F1 mu1 H1 st rm hw1 vs hvs => ?_⟩
  obtain ⟨v, r', rfl, hv, hr⟩ := hvs
  cases hr
  unfold dofO at hw1
  have vx := view rm hv
  cases ep : vw m1 q with
  | lst xs =>
    rw [ep] at hw1 vx
    dsimp only at hw1
    cases e2 : pairsO xs with
    | none => rw [e2] at hw1; exact hw1.elim
    | some z =>
      obtain ⟨ks, ps⟩ := z
      rw [e2] at hw1
      obtain ⟨hl, hw2⟩ := W.ck hw1
      have hl : ks.length ≤ 100000 := of_decide_eq_true hl
      obtain ⟨ad, ws, rfl, h1, h2, h3⟩ := vx
      obtain ⟨as, us, rfl, i1, i2, i3⟩ := pairs_rep rm e2 h3
      refine ⟨ad, as, ks.zip us, rfl, .of h1, by rw [hK]; exact i3, fun A hA => ?_⟩
      obtain ⟨us', m1', m2, m3, m4⟩ := merge_spec (ks := []) (ps := []) (vs := []) i1 i2 rfl rfl
      obtain ⟨s1, r1⟩ := cell_new (o := .dK (mergeK [] (ks.zip us))) (c := .dic (mergev [] [] ks ps).1 (mergev [] [] ks ps).2) rm hA ⟨us', by rw [m4]; exact upd_same, m2, by rw [m2, sizeLine_eq]; simp at m3; omega, m1'⟩
      exact hw2 _ _ _ s1 r1 (.ref A) ⟨A, rfl, by rw [← rm.len, List.getElem?_append_right (Nat.le_refl _), Nat.sub_self]; rfl⟩
  | _ => rw [ep] at hw1; exact hw1.elim
/-! ### f-strings -/
def strCE : CE → Bool
  | .k (.str _) => true
  | .bi .str _ => true
  | _ => false
def joinC : CE → CEs → Option CE
  | acc, .nil => some acc
  | acc, .cons a r => joinC (.bin .add acc a) r
  | _, .star _ _ => none
def joinOf : CEs → Option CE
  | .cons a (.cons b r) => match strCE a with
    | true => joinC a (.cons b r)
    | false => none
  | _ => none
def StrOut (D : Cl) (c : CE) : Prop := ∀ env m p m', evE D c env m = .ok p m' → ∃ y, p = .str y
theorem strCE_out {c : CE} (h : strCE c = true) : StrOut D c := by
  unfold strCE at h
  split at h
  · intro env m p m' e
    simp only [evE] at e
    cases e
    exact ⟨_, rfl⟩
  · intro env m p m' e
    simp only [evE] at e
    rename_i a
    cases e2 : evE D a env m with
    | stuck => rw [e2] at e; cases e
    | exc z m1 => rw [e2] at e; cases e
    | ok q m1 =>
      rw [e2] at e
      simp only [Out.bind] at e
      unfold biO at e
      split at e
      · rename_i k hk
        cases e3 : D.call k [q] m1 with
        | stuck => rw [e3] at e; cases e
        | exc z m2 => rw [e3] at e; cases e
        | ok r m2 =>
          rw [e3] at e
          simp only [Out.bind, ownRes] at e
          cases r <;> first | (cases e; exact ⟨_, rfl⟩) | cases e
      · unfold builtin1 at e
        dsimp only at e
        split at e
        · split at e
          · cases e; exact ⟨_, rfl⟩
          · cases e
        · cases e; exact ⟨_, rfl⟩
        · cases e
  · cases h
theorem add_str {x : Str} {q z : PV} (h : binop .add (.str x) q = some z) : ∃ y, q = .str y ∧ z = .str (x ++ y) ∧ x.length + y.length ≤ 100000 := by
  cases q with
  | str y =>
    simp only [binop] at h
    split at h
    · rename_i hl
      cases h
      exact ⟨y, rfl, rfl, hl⟩
    · cases h
  | _ => simp [binop] at h
theorem add_out {c a : CE} (h : StrOut D c) : StrOut D (.bin .add c a) := by
  intro env m p m' e
  simp only [evE] at e
  cases e1 : evE D c env m with
  | stuck => rw [e1] at e; cases e
  | exc z m1 => rw [e1] at e; cases e
  | ok q m1 =>
    obtain ⟨x, rfl⟩ := h _ _ _ _ e1
    rw [e1] at e
    simp only [Out.bind] at e
    cases e2 : evE D a env m1 with
    | stuck => rw [e2] at e; cases e
    | exc z m2 => rw [e2] at e; cases e
    | ok r m2 =>
      rw [e2] at e
      simp only at e
      cases e3 : binop .add (vw m2 (.str x)) (vw m2 r) with
      | none => rw [e3] at e; cases e
      | some z =>
        rw [e3] at e
        cases e
        obtain ⟨y, _, rfl, _⟩ := add_str e3
        exact ⟨_, rfl⟩
/-- a field's text: short enough -/
def tFld (g : G) (D : Cl) (c : CE) : TE := fun σ H Q => tE g D (.bi .str c) σ H fun (v : V) H' => ∃ y : Str, v = V.str y ∧ y.length ≤ sizeLine ∧ Q v H'
def isFld : Expr → Bool
  | .FormattedValue _ c f _ => decide (c = -1) && f.isNone
  | _ => false
def partIn : Expr → Expr
  | .FormattedValue e _ _ _ => e
  | e => e
def wrapF : List Expr → CEs → CEs
  | e :: es, .cons c r => .cons (match isFld e with
    | true => .bi .str c
    | false => c) (wrapF es r)
  | _, _ => .nil
def tesW (g : G) (D : Cl) : List Expr → CEs → List TE
  | e :: es, .cons c r => (match isFld e with
    | true => tFld g D c
    | false => tE g D c) :: tesW g D es r
  | _, _ => []
theorem joined_go : ∀ {es : List Expr} {cs : CEs} {c c' : CE}, joinC c (wrapF es cs) = some c' → StrOut D c → ∀ {σ : L2.St} {H : Hp} {Q : VK}, tE g D c' σ H Q → tE g D c σ H fun x H1 => ∃ y, x = .str y ∧ ((∃ a r, wrapF es cs = .cons a r) → y.length ≤ 100000) ∧ tJs (tesW g D es cs) y σ H1 fun out H2 => Q (.str out) H2
  | e0 :: es, .cons a0 r, c, c', h, hc, σ, H, Q, hq => by
    simp only [wrapF] at h
    generalize ha : (match isFld e0 with
      | true => CE.bi .str a0
      | false => a0) = a at h
    obtain ⟨F, mu, env, m, hE, hM, hw⟩ := joined_go (es := es) (cs := r) h (add_out (a := a) hc) hq
    refine ⟨F, mu, env, m, hE, hM, ?_⟩
    simp only [evE] at hw
    cases e : evE D c env m with
    | stuck => rw [e] at hw; exact hw.elim
    | exc z m1 => rw [e] at hw; exact hw.elim
    | ok p m1 =>
      obtain ⟨x, rfl⟩ := hc _ _ _ _ e
      rw [e] at hw
      simp only [Out.bind] at hw
      cases e2 : evE D a env m1 with
      | stuck => rw [e2] at hw; exact hw.elim
      | exc z m2 => rw [e2] at hw; exact hw.elim
      | ok q m2 =>
        rw [e2] at hw
        simp only at hw
        cases e3 : binop .add (vw m2 (.str x)) (vw m2 q) with
        | none => rw [e3] at hw; exact hw.elim
        | some z =>
          rw [e3] at hw
          obtain ⟨y, hy, rfl, hl⟩ := add_str e3
          intro F1 mu1 H1 st rm v hv
          have hv2 : v = .str x := hv
          subst hv2
          refine ⟨x, rfl, fun _ => by omega, ?_⟩
          have hxy : (x ++ y).length = x.length + y.length := by
            show (x.cps ++ y.cps).size = x.cps.size + y.cps.size
            simp
          have key : tE g D a σ H1 fun w H2 => ∃ y : Str, w = .str y ∧ y.length ≤ sizeLine ∧ (x ++ y).length ≤ sizeLine ∧ tJs (tesW g D es r) (x ++ y) σ H2 fun out H2 => Q (.str out) H2 := by
            refine ⟨F1, mu1, env, m1, hE.step st, rm, ?_⟩
            rw [e2]
            intro F2 mu2 H2 st2 rm2 w hw2
            have hwy : w = .str y := view_str rm2 hw2 hy
            subst hwy
            obtain ⟨y', hy', _, ht⟩ := hw F2 mu2 H2 (st.trans st2) rm2 (.str (x ++ y)) rfl
            cases hy'
            exact ⟨y, rfl, by rw [sizeLine_eq]; omega, by rw [hxy, sizeLine_eq]; omega, ht⟩
          show (match isFld e0 with
            | true => tFld g D a0
            | false => tE g D a0) σ H1 fun (w : V) H2 => ∃ y : Str, w = V.str y ∧ (x ++ y).length ≤ sizeLine ∧ tJs (tesW g D es r) (x ++ y) σ H2 fun out H2 => Q (.str out) H2
          cases hf : isFld e0 with
          | true =>
            rw [hf] at ha
            dsimp only at ha
            subst ha
            obtain ⟨F2, mu2, env2, m2', q1, q2, q3⟩ := key
            exact ⟨F2, mu2, env2, m2', q1, q2, q3.mono fun p m3 F3 mu3 H3 st3 rm3 hq3 v hv => by
              obtain ⟨y', k1, k2, k3, k4⟩ := hq3 v hv
              exact ⟨y', k1, k2, y', k1, k3, k4⟩⟩
          | false =>
            rw [hf] at ha
            dsimp only at ha
            subst ha
            obtain ⟨F2, mu2, env2, m2', q1, q2, q3⟩ := key
            exact ⟨F2, mu2, env2, m2', q1, q2, q3.mono fun p m3 F3 mu3 H3 st3 rm3 hq3 v hv => by
              obtain ⟨y', k1, k2, k3, k4⟩ := hq3 v hv
              exact ⟨y', k1, k3, k4⟩⟩
  | [], cs, c, c', h, hc, σ, H, Q, hq => by
    have e0 : wrapF [] cs = .nil := by cases cs <;> rfl
    have e1 : tesW g D [] cs = [] := by cases cs <;> rfl
    rw [e0] at h
    rw [e1, e0]
    cases h
    obtain ⟨F, mu, env, m, hE, hM, hw⟩ := hq
    refine ⟨F, mu, env, m, hE, hM, ?_⟩
    cases e : evE D c env m with
    | stuck => rw [e] at hw; exact hw.elim
    | exc z m1 => rw [e] at hw; exact hw.elim
    | ok p m1 =>
      obtain ⟨y, rfl⟩ := hc _ _ _ _ e
      rw [e] at hw
      intro F' mu' H' st rm v hv
      have hv2 : v = .str y := hv
      subst hv2
      exact ⟨y, rfl, (fun ⟨_, _, z⟩ => nomatch z), hw F' mu' H' st rm _ rfl⟩
  | e0 :: es, .nil, c, c', h, hc, σ, H, Q, hq => by
    cases h
    obtain ⟨F, mu, env, m, hE, hM, hw⟩ := hq
    refine ⟨F, mu, env, m, hE, hM, ?_⟩
    cases e : evE D c env m with
    | stuck => rw [e] at hw; exact hw.elim
    | exc z m1 => rw [e] at hw; exact hw.elim
    | ok p m1 =>
      obtain ⟨y, rfl⟩ := hc _ _ _ _ e
      rw [e] at hw
      intro F' mu' H' st rm v hv
      have hv2 : v = .str y := hv
      subst hv2
      exact ⟨y, rfl, (fun ⟨_, _, z⟩ => nomatch z), hw F' mu' H' st rm _ rfl⟩
  | e0 :: es, .star _ _, c, c', h, hc, σ, H, Q, hq => by
    cases h
    obtain ⟨F, mu, env, m, hE, hM, hw⟩ := hq
    refine ⟨F, mu, env, m, hE, hM, ?_⟩
    cases e : evE D c env m with
    | stuck => rw [e] at hw; exact hw.elim
    | exc z m1 => rw [e] at hw; exact hw.elim
    | ok p m1 =>
      obtain ⟨y, rfl⟩ := hc _ _ _ _ e
      rw [e] at hw
      intro F' mu' H' st rm v hv
      have hv2 : v = .str y := hv
      subst hv2
      exact ⟨y, rfl, (fun ⟨_, _, z⟩ => nomatch z), hw F' mu' H' st rm _ rfl⟩
/-- an instance's own str, what must be seen of its class -/
def FmtOk (X : Cx) (g : G) (D : Cl) : Prop := ∀ c fn, c < D.nC → D.own c .str = some fn → ∃ fa : Addr, PySem.W.findIn X.K (.ref (g.CA c)) "__str__" = some (some (.ref fa)) ∧ PySem.W.isFn X.K (.ref fa) = true ∧ PySem.W.findIn X.K (.ref (g.CA c)) "__format__" = some (some (.builtin "object.__format__")) ∧ PySem.W.mroIn X.K (g.CA c) (.type "object") = some true ∧
  ∃ k, FnR X.prog X.w X.K X.mg X.base CX0 k fa (spF g 1 (D.call fn)) ∧ Room (k + 3) X.A
theorem s_fld {e : Expr} (he : PE X e (tE g D ca)) (hr : FmtOk X g D) : PE X (.FormattedValue e (-1) none pos) (tFld g D ca) := by
  refine ⟨fun pins s σ H Q I h => ?_⟩
  obtain ⟨F, mu, env, m, hE, hM, hw⟩ := h
  refine wpAny_FormattedValue_plain (thn (he.run pins s σ H (fun x H1 => ∃ F1 mu1 m1 p, RelM g.K g.CA F1 mu1 m1 H1 ∧ Rep g.K g.CA F1 mu1 p x ∧ W g F1 mu1 H1 (biO D .str p m1) fun p m' F' mu' H' => ∀ v, Rep g.K g.CA F' mu' p v → ∃ y, v = .str y ∧ y.length ≤ sizeLine ∧ Q v H') I ⟨F, mu, env, m, hE, hM, (W.bind hw).mono fun p m1 F1 mu1 H1 st rm hw1 v hv => ⟨F1, mu1, m1, p, rm, hv, hw1⟩⟩) fun v s1 hv => ?_)
  obtain ⟨x, H1, I1, r1, F1, mu1, m1, p, rm, hx, hw1⟩ := hv
  unfold biO at hw1
  cases ho : ownO D .str (vw m1 p) with
  | none =>
    rw [ho] at hw1
    dsimp only at hw1
    obtain ⟨z, hz, hw2⟩ := W.of hw1
    unfold builtin1 at hz
    dsimp only at hz
    split at hz
    · rename_i i ep
      split at hz
      · rename_i hl
        cases hz
        rw [view_int rm hx ep] at r1
        obtain ⟨t, rfl⟩ := r1
        obtain ⟨y, hy, _, q⟩ := W.ok hw2 rm _ rfl
        exact wpAny_formatField_int hl ⟨.str (toString i), H1, I1.tok _, ⟨_, rfl⟩, q⟩
      · cases hz
    · rename_i y ep
      cases hz
      rw [view_str rm hx ep] at r1
      obtain ⟨t, rfl⟩ := r1
      obtain ⟨y2, hy, hl, q⟩ := W.ok hw2 rm _ rfl
      cases hy
      exact wpAny_formatField_str ⟨.str y, H1, I1, ⟨t, rfl⟩, q⟩ ⟨.str y, H1, I1.tok _, ⟨_, rfl⟩, q⟩ hl
    · cases hz
  | some fn =>
    rw [ho] at hw1
    dsimp only at hw1
    unfold ownO at ho
    split at ho
    · rename_i c ns vs ev
      split at ho
      · rename_i hc
        have vx := view rm hx
        rw [ev] at vx
        obtain ⟨a, dx, us, rfl, h1, h2, h3⟩ := vx
        cases (show v = Value.ref a from r1)
        obtain ⟨fa, hs, hf, hfm, hmr, k, FR, hroom⟩ := hr c fn hc ho
        have I2 := I1.tok (s1.toks + 1)
        obtain ⟨mA, O, _⟩ := ins_get I1.hok h1
        obtain ⟨od, J, _⟩ := O.look
        have hr1 : Room (k + 2) X.A.in1 := Room.in1 hroom
        have hr2 : Room k X.A.in1 := hr1.mono (by omega)
        have q : spF g 1 (D.call fn) [.ref a] H1 (fun v H' => ∃ z, v = .str z ∧ Q (.str z) H') E0 := ⟨rfl, F1, mu1, m1, [p], rm, ⟨_, [], rfl, hx, rfl⟩, (W.bind hw1).mono fun r m2 F2 mu2 H2 st2 rm2 hw2 v hv => by
          cases r with
          | str z =>
            obtain ⟨y, hy, _, q⟩ := W.ok hw2 rm2 _ rfl
            exact ⟨z, hv, q⟩
          | _ => exact hw2.elim⟩
        refine PySem.W.kfo_fieldS hr1.units0 I1.kIn J hfm hmr hs hf (wpAny_mono (wpAny_call (SlX.run_at (us := [.ref a]) (ws := [.ref a]) FR hr2 I2.env0.in1 pass0 I2 (.cons rfl .nil) q)) (fun w s' z => ?_) fun _ _ x => x)
        obtain ⟨z', H', I', rz, i, ei, qz⟩ := z
        subst ei
        obtain ⟨t, e⟩ := (show ∃ t, w = Value.str i t from rz)
        cases e
        exact ⟨.str i, H', I', ⟨t, rfl⟩, qz⟩
      · cases ho
    · cases ho
theorem pj_of {es : List Expr} : ∀ {ces : CEs}, FmtOk X g D → es.all (fun e => isFld e || (keyConst e).isSome) = true → PEl X g D (es.map partIn) ces → PJ X es (tesW g D es ces) := by
  induction es with
  | nil =>
    intro ces _ _ h
    cases h
    exact .nil
  | cons e es ih =>
    intro ces hr ha h
    rw [List.all_cons, Bool.and_eq_true] at ha
    rw [List.map_cons] at h
    cases h with
    | cons h1 h2 =>
      refine .cons ?_ (ih hr ha.2 h2)
      cases hf : isFld e with
      | true =>
        cases e with
        | FormattedValue e c f p =>
          simp only [isFld, Bool.and_eq_true, decide_eq_true_eq] at hf
          obtain ⟨rfl, hn⟩ := hf
          cases f with
          | none => exact s_fld h1 hr
          | some _ => cases hn
        | _ => cases hf
      | false =>
        rw [hf, Bool.false_or] at ha
        cases e with
        | Constant v i p => exact h1
        | _ => cases ha.1
theorem s_joined {es : List Expr} {ces : CEs} {c : CE} (hr : FmtOk X g D) (ha : es.all (fun e => isFld e || (keyConst e).isSome) = true) (h : PEl X g D (es.map partIn) ces) (hj : joinOf (wrapF es ces) = some c) : PE X (.JoinedStr es pos) (tE g D c) := by
  have hp := pj_of hr ha h
  match es, ces, h, hp, hj, ha with
  | e1 :: e2 :: es, .cons c1 (.cons c2 cs), h, hp, hj, ha =>
    simp only [wrapF, joinOf] at hj
    split at hj
    · rename_i hs
      refine PE.conv (pe_joined hp) fun σ H Q hq => ?_
      have hq2 := joined_go (es := e2 :: es) (cs := .cons c2 cs) hj (strCE_out hs) hq
      have fin : ∀ y : Str, y.length ≤ 100000 → (Str.empty ++ y).length ≤ sizeLine ∧ Str.empty ++ y = y ∧ y.length ≤ sizeLine := fun y hl => by
        have e : Str.empty ++ y = y := by
          obtain ⟨l⟩ := y
          show (⟨#[] ++ l⟩ : Str) = ⟨l⟩
          simp
        rw [e, sizeLine_eq]
        exact ⟨by omega, rfl, by omega⟩
      show (match isFld e1 with
        | true => tFld g D c1
        | false => tE g D c1) σ H fun (w : V) H2 => ∃ y : Str, w = V.str y ∧ (Str.empty ++ y).length ≤ sizeLine ∧ tJs (tesW g D (e2 :: es) (.cons c2 cs)) (Str.empty ++ y) σ H2 fun out H2 => Q (.str out) H2
      obtain ⟨F, mu, env, m, hE, hM, hw⟩ := hq2
      cases hf : isFld e1 with
      | true =>
        rw [hf] at hw
        refine ⟨F, mu, env, m, hE, hM, hw.mono fun p m1 F1 mu1 H1 st rm hq v hv => ?_⟩
        obtain ⟨y, rfl, hl, ht⟩ := hq v hv
        obtain ⟨k1, k2, k3⟩ := fin y (hl ⟨_, _, rfl⟩)
        exact ⟨y, rfl, k3, y, rfl, k1, by rw [k2]; exact ht⟩
      | false =>
        rw [hf] at hw
        refine ⟨F, mu, env, m, hE, hM, hw.mono fun p m1 F1 mu1 H1 st rm hq v hv => ?_⟩
        obtain ⟨y, rfl, hl, ht⟩ := hq v hv
        obtain ⟨k1, k2, k3⟩ := fin y (hl ⟨_, _, rfl⟩)
        exact ⟨y, rfl, k1, by rw [k2]; exact ht⟩
    · cases hj
  | [], _, _, _, hj, _ => exact absurd hj (by cases ces <;> simp [wrapF, joinOf])
  | [_], .cons _ _, _, _, hj, _ => simp [wrapF, joinOf] at hj
  | _ :: _, .nil, _, _, hj, _ => simp [wrapF, joinOf] at hj
  | _ :: _, .star _ _, _, _, hj, _ => simp [wrapF, joinOf] at hj
  | _ :: _ :: _, .cons _ .nil, _, _, hj, _ => simp [wrapF, joinOf] at hj
  | _ :: _ :: _, .cons _ (.star _ _), _, _, hj, _ => simp [wrapF, joinOf] at hj
end
end Co

end P_CoreNew
section P_CoreComp
set_option Elab.async false
set_option linter.all false
set_option maxRecDepth 100000
set_option maxHeartbeats 2000000
/-! CoreComp: from the text to the core. -/
namespace Co
open PySem PySem.Spec PyProof.Rows L2

/-- what is known of the module's names -/
structure Tbl where
  fns : List (Str × (Nat × Nat))
  consts : List (Str × PV)
  cells : List (Nat × Nat)
  clss : List (Str × Nat)
  /-- number of values, keywords' names, def, places -/
  plans : List (Nat × (List Str × (Nat × List Ar)))
  /-- class, name, def of a classmethod -/
  cms : List (Nat × (Str × Nat))
  /-- exception classes C with C(a = x).a -/
  exs : List (Str × Str) := []
def Tbl.planL (T : Tbl) (n : Nat) (ks : List Str) : List (Nat × List Ar) := T.plans.filterMap fun q => if q.1 = n ∧ q.2.1 = ks then some q.2.2 else none
def Tbl.plan (T : Tbl) (f n : Nat) (ks : List Str) : Option (List Ar) := (T.planL n ks).lookup f
def Tbl.cm (T : Tbl) (c : Nat) (m : Str) : Option Nat := (T.cms.find? fun q => decide (q.1 = c ∧ q.2.1 = m)).map fun q => q.2.2
/-- what is called -/
inductive CK where
  | fn (f : Nat) | fnk (f : Nat) | mk (c : Nat) | mkl (i : Nat) | b1 (b : Bi) | srt | lof | dof | isi (t : Isi) | mn | mx | m1 (k : M1k) | get | cm (f c : Nat) | meth | no
def Tbl.isCell (T : Tbl) (p : Pos) : Bool := T.cells.contains (p.line, p.col)
def notComp : Expr → Bool
  | .ListComp .. | .SetComp .. | .DictComp .. => false
  | _ => true
def binO : Operator → Option BOp
  | .Add => some .add | .Sub => some .sub | .Mult => some .mul | .FloorDiv => some .fdiv | .Mod => some .mod | .Pow => some .pow
  | _ => none
def idx (N : List Str) (x : Str) : Option Nat := (List.range N.length).find? fun i => decide (N[i]? = some x)
def isTupE : Expr → Bool
  | .Tuple .. => true
  | _ => false
def isGl (sc : Scope) (x : Str) : Bool := match sc.names.lookup x with
  | some .globalImplicit => true
  | _ => false
/-- what is walked -/
inductive IK where
  | range (a : Expr) | rev (a : Expr) | enum (a : Expr) | zip (a b : Expr) | seq
def itKind (sc : Scope) (tg f : Expr) (as : List Expr) (ks : List Keyword) : IK := match f with
  | .Name x _ => match as with
    | [a] => match ks with
      | [] => match isGl sc x && nstar a with
        | true => if x = ("range" : Str) then .range a else if x = ("reversed" : Str) then .rev a else if x = ("enumerate" : Str) ∧ isTupE tg = true then .enum a else .seq
        | false => .seq
      | _ => .seq
    | [a, b] => match ks with
      | [] => match isGl sc x && (nstar a && nstar b) with
        | true => if x = ("zip" : Str) ∧ isTupE tg = true then .zip a b else .seq
        | false => .seq
      | _ => .seq
    | _ => .seq
  | _ => .seq
/-- a comprehension's own names and their places -/
def ownOf (N : List Str) (scope : Scope) : List (Str × Nat) := scope.names.filterMap fun y => match y.2 with
  | .local | .cell => (idx N y.1).map fun i => (y.1, i)
  | _ => none
def bi1 (x : Str) : Option Bi :=
  if x = ("len" : Str) then some .len else if x = ("abs" : Str) then some .abs else if x = ("int" : Str) then some .int else if x = ("str" : Str) then some .str
  else if x = ("all" : Str) then some .all else if x = ("any" : Str) then some .any else if x = ("sum" : Str) then some .sum else if x = ("tuple" : Str) then some .tuple else none
/-- the class in isinstance -/
def isKind (T : Tbl) (sc : Scope) (b : Expr) : Option Isi := match b with
  | .Name y _ => match isGl sc y && !(y == ("__debug__" : Str)) with
    | true => if y = ("int" : Str) then some .int else if y = ("bool" : Str) then some .bool else if y = ("str" : Str) then some .str else if y = ("tuple" : Str) then some .tuple else (T.clss.lookup y).map .cls
    | false => none
  | .Tuple es _ _ => match es with
    | [.Name y _, .Name z _] => if y = ("list" : Str) ∧ z = ("tuple" : Str) ∧ isGl sc y = true ∧ isGl sc z = true then some .seq else none
    | _ => none
  | _ => none
def kindName (T : Tbl) (N : List Str) (sc : Scope) (x : Str) (as : List Expr) (nk : Nat) : CK := match sc.names.lookup x with
  | some .local | some .cell | some .free => match idx N x with
    | some i => .mkl i
    | none => .no
  | some .globalImplicit => match T.fns.lookup x with
    | some (f, na) => if nk = 0 ∧ as.length = na then .fn f else .fnk f
    | none => match T.clss.lookup x with
      | some c => .mk c
      | none => if nk = 0 then (match as with
        | [_] => match bi1 x with
          | some b => .b1 b
          | none => if x = ("sorted" : Str) then .srt else if x = ("list" : Str) then .lof else if x = ("dict" : Str) then .dof else .no
        | [_, b] => if x = ("isinstance" : Str) then (match isKind T sc b with
            | some t => .isi t
            | none => .no) else if x = ("min" : Str) then .mn else if x = ("max" : Str) then .mx else .no
        | _ => .no) else .no
  | _ => .no
def m1Name (m : Str) : Option M1k := if m = ("append" : Str) then some .append else if m = ("pop" : Str) then some .popi else if m = ("extend" : Str) then some .extend else if m = ("join" : Str) then some .join
  else if m = ("split" : Str) then some .split else if m = ("partition" : Str) then some .partition else if m = ("update" : Str) then some .dupd else if m = ("index" : Str) then some .index else none
/-- a classmethod by its class's name -/
def cmName (T : Tbl) (sc : Scope) (o : Expr) (m : Str) : Option (Nat × Nat) := match o with
  | .Name y _ => match isGl sc y && !(y == ("__debug__" : Str)) with
    | true => match T.clss.lookup y with
      | some c => (T.cm c m).map fun f => (f, c)
      | none => none
    | false => none
  | _ => none
def kindAttr (T : Tbl) (sc : Scope) (o : Expr) (m : Str) (as : List Expr) (nk : Nat) : CK := match cmName T sc o m with
  | some (f, c) => .cm f c
  | none => if nk = 0 then (match as with
    | [_] => match m1Name m with
      | some k => .m1 k
      | none => .meth
    | [_, _] => if m = ("get" : Str) then .get else .meth
    | _ => .meth) else .meth
/-- may isTrue of it be read as its value's truth -/
def plainTest : Expr → Bool
  | .UnaryOp .Not _ _ | .BoolOp .. | .IfExp .. | .Compare .. => false
  | _ => true
def wrapC (T : Tbl) (p : Pos) (f : CF) : CE := wrapB (T.isCell p) f
def fbOf (scope : Scope) : Str → Bool := fun x => scope.names.lookup x == some NameKind.cell
/-- C(f = v).f, C such an exception class: v -/
def excArg (T : Tbl) (sc : Scope) (f : Str) (e : Expr) : Option Expr := match e with
  | .Call g as ks _ => match g, as, ks with
    | .Name x _, [], [⟨some k, v, _⟩] => match isGl sc x && (!(x == ("__debug__" : Str)) && (k == f && T.exs.lookup x == some f)) with
      | true => some v
      | false => none
    | _, _, _ => none
  | _ => none
section
variable (T : Tbl) (N : List Str)
def compName (sc : Scope) (x : Str) : Option CE :=
  match (x == ("__debug__" : Str)) || (x == ("__classdict__" : Str)) with
  | true => none
  | false => match sc.names.lookup x with
    | some .local | some .cell | some .free => (idx N x).map .v
    | some .globalImplicit => (T.consts.lookup x).map .k
    | _ => none
mutual
def comp : Nat → (Str → Bool) → Scope → Expr → Option CE
  | 0, _, _, _ => none
  | n + 1, fb, sc, e => match e with
    | .Name x _ => compName T N sc x
    | .Constant c _ _ => match c with
      | .int i => some (.k (.int i))
      | .bool b => some (.k (.bl b))
      | .none => some (.k .non)
      | .str x => some (.k (.str x))
      | _ => none
    | .BinOp a op b _ => match binO op, comp n fb sc a, comp n fb sc b with
      | some o, some ca, some cb => some (.bin o ca cb)
      | _, _, _ => none
    | .UnaryOp op a _ => match op with
      | .USub => (comp n fb sc a).map .neg
      | .Not => (comp n fb sc a).map fun c => .test (.nt (.val c))
      | _ => none
    | .BoolOp op vs pos => match vs with
      | [a] => comp n fb sc a
      | a :: b :: rest => match comp n fb sc a, comp n fb sc (.BoolOp op (b :: rest) pos) with
        | some ca, some cb => match op with
          | .And => some (.test (.an (.val ca) (.val cb)))
          | .Or => some (.test (.or (.val ca) (.val cb)))
        | _, _ => none
      | [] => none
    | .Compare a ops cs _ => match ops, cs with
      | [op], [b] => match behindInMarks op b with
        | true => none
        | false => match cmpO op, comp n fb sc a, comp n fb sc b with
          | some o, some ca, some cb => some (.cmp o ca cb)
          | _, _, _ => none
      | [op, op'], [b, c] => match lastMarks [op, op'] [b, c] with
        | true => none
        | false => match cmpO op, cmpO op', comp n fb sc a, comp n fb sc b, comp n fb sc c with
          | some o, some o', some ca, some cb, some cc => some (.chain o o' ca cb cc)
          | _, _, _, _, _ => none
      | _, _ => none
    | .IfExp t a b _ => match compT n fb sc t, comp n fb sc a, comp n fb sc b with
      | some ct, some ca, some cb => some (.ite ct ca cb)
      | _, _, _ => none
    | .Tuple es _ _ => (compEs n fb sc es).map .tup
    | .List es pos => (compEs n fb sc es).map fun c => wrapC T pos (.lst c)
    | .ListComp elt gs scope pos => match gs with
      | [⟨tg, iter, ifs, 0⟩] => (compLc n fb sc elt tg iter ifs scope).map (wrapC T pos)
      | _ => none
    | .Subscript a b _ => match b with
      | .Slice lo hi st _ => match st with
        | none => match comp n fb sc a, (match lo with
            | none => some CEs.nil
            | some e => (comp n fb sc e).map fun c => .cons c .nil), (match hi with
            | none => some CEs.nil
            | some e => (comp n fb sc e).map fun c => .cons c .nil) with
          | some ca, some cl, some ch => some (.sl ca cl ch)
          | _, _, _ => none
        | some (.UnaryOp .USub (.Constant (.int 1) _ _) _) => match lo, hi with
          | none, none => (comp n fb sc a).map .rev1
          | _, _ => none
        | _ => none
      | b => match notSlice b, comp n fb sc a, comp n fb sc b with
        | true, some ca, some cb => some (.ix ca cb)
        | _, _, _ => none
    | .Attribute e f _ => match excArg T sc f e with
      | some v => comp n fb sc v
      | none => match ab0 e with
        | true => (comp n fb sc e).map fun c => .attr c f
        | false => none
    | .Dict ks vs _ => match ks with
      | [] => match vs with
        | [] => some .dnew
        | _ => none
      | k0 :: ks => match dispKeys (k0 :: ks), compEs n fb sc vs with
        | some ss, some ces => match vs.all nstar && (decide ss.Nodup && (decide ((k0 :: ks).length = vs.length) && decide ((k0 :: ks).length ≤ 15))) with
          | true => some (.ddis (ss.map Sum.inr) ces)
          | false => none
        | _, _ => none
    | .JoinedStr es _ => match es.all (fun e => isFld e || (keyConst e).isSome) && (es.map partIn).all nstar with
      | true => (compEs n fb sc (es.map partIn)).bind fun ces => joinOf (wrapF es ces)
      | false => none
    | .DictComp kx vx gs scope _ => match gs with
      | [⟨tg, iter, ifs, 0⟩] => match compLc n fb sc vx tg iter ifs scope, comp n (fbOf scope) (relS scope sc) kx with
        | some (.lc cg ci ct ce own), some ck => some (.dcm cg ci ct ck ce own)
        | _, _ => none
      | _ => none
    | .Call f as ks pos => match as.all nstar && (kwVals ks).all nstar, kwNames ks with
      | true, some kn => match f with
        | .Name x _ => match (x == ("__debug__" : Str)) || (x == ("__classdict__" : Str)) with
          | true => none
          | false => match kindName T N sc x as kn.length with
            | .fn f => (compEs n fb sc as).map (.call f)
            | .fnk f => match T.plan f as.length kn, compEs n fb sc as, compEs n fb sc (kwVals ks) with
              | some ar, some ca, some ck => some (.callk f ca ck as.length kn.length ar)
              | _, _, _ => none
            | .mk c => match compEs n fb sc as, compEs n fb sc (kwVals ks) with
              | some ca, some ck => some (.make (.k (.cls c)) ca ck as.length kn.length (T.planL (as.length + 1) kn))
              | _, _ => none
            | .mkl i => match compEs n fb sc as, compEs n fb sc (kwVals ks) with
              | some ca, some ck => some (.make (.v i) ca ck as.length kn.length (T.planL (as.length + 1) kn))
              | _, _ => none
            | .b1 b => match as with
              | [a] => (comp n fb sc a).map (.bi b)
              | _ => none
            | .srt => match as with
              | [a] => (comp n fb sc a).map fun c => wrapC T pos (.srt c)
              | _ => none
            | .lof => match as with
              | [a] => (comp n fb sc a).map fun c => wrapC T pos (.lof c)
              | _ => none
            | .dof => match as with
              | [a] => (comp n fb sc a).map fun c => .dof c
              | _ => none
            | .isi t => match as with
              | [a, _] => (comp n fb sc a).map fun c => .isi c t
              | _ => none
            | .mn => match as with
              | [a, b] => match comp n fb sc a, comp n fb sc b with
                | some ca, some cb => some (.bi2 .min ca cb)
                | _, _ => none
              | _ => none
            | .mx => match as with
              | [a, b] => match comp n fb sc a, comp n fb sc b with
                | some ca, some cb => some (.bi2 .max ca cb)
                | _, _ => none
              | _ => none
            | _ => none
        | .Attribute o m apos => match (apos.endLine == pos.line) && (ab0 o && decide (as.length + ks.length + 1 < 30)) with
          | true => match kindAttr T sc o m as kn.length with
            | .m1 k => match as with
              | [a] => match comp n fb sc o, comp n fb sc a with
                | some co, some ca => some (.m1 k co ca)
                | _, _ => none
              | _ => none
            | .get => match as with
              | [a, b] => match comp n fb sc o, comp n fb sc a, comp n fb sc b with
                | some co, some ca, some cb => some (.dget2 co ca cb)
                | _, _, _ => none
              | _ => none
            | .cm f c => match T.plan f (as.length + 1) kn, compEs n fb sc as, compEs n fb sc (kwVals ks) with
              | some ar, some ca, some ck => some (.callk f (.cons (.k (.cls c)) ca) ck (as.length + 1) kn.length ar)
              | _, _, _ => none
            | .meth => match comp n fb sc o, compEs n fb sc as, compEs n fb sc (kwVals ks) with
              | some co, some ca, some ck => some (.meth m co ca ck as.length kn.length (T.planL (as.length + 1) kn))
              | _, _, _ => none
            | _ => none
          | false => none
        | _ => none
      | _, _ => none
    | _ => none
def compT : Nat → (Str → Bool) → Scope → Expr → Option CT
  | 0, _, _, _ => none
  | n + 1, fb, sc, e => match e with
    | .UnaryOp .Not a _ => (compT n fb sc a).map .nt
    | .BoolOp op vs pos => match vs with
      | [a] => compT n fb sc a
      | a :: b :: rest => match compT n fb sc a, compT n fb sc (.BoolOp op (b :: rest) pos) with
        | some ca, some cb => match op with
          | .And => some (.an ca cb)
          | .Or => some (.or ca cb)
        | _, _ => none
      | [] => none
    | .Compare a ops cs pos => (comp n fb sc (.Compare a ops cs pos)).map .val
    | e => match plainTest e with
      | true => (comp n fb sc e).map .val
      | false => none
def compEs : Nat → (Str → Bool) → Scope → List Expr → Option CEs
  | 0, _, _, _ => none
  | n + 1, fb, sc, es => match es with
    | [] => some .nil
    | a :: r => match nstar a with
      | true => match comp n fb sc a, compEs n fb sc r with
        | some ca, some cr => some (.cons ca cr)
        | _, _ => none
      | false => match a with
        | .Starred b _ => match comp n fb sc b, compEs n fb sc r with
          | some ca, some cr => some (.star ca cr)
          | _, _ => none
        | _ => none
def compI : Nat → (Str → Bool) → Scope → Expr → Expr → Option CI
  | 0, _, _, _, _ => none
  | n + 1, fb, sc, tg, e => match e with
    | .Set .. => none
    | .Call f as ks p => match itKind sc tg f as ks with
      | .range a => (comp n fb sc a).map fun c => .range (.cons c .nil)
      | .rev a => (comp n fb sc a).map .rev
      | .enum a => (comp n fb sc a).map .enum
      | .zip a b => match comp n fb sc a, comp n fb sc b with
        | some ca, some cb => some (.zip ca cb)
        | _, _ => none
      | .seq => (comp n fb sc (.Call f as ks p)).map .seq
    | e => (comp n fb sc e).map .seq
def compG : Nat → (Str → Bool) → Scope → Expr → Option CG
  | 0, _, _, _ => none
  | n + 1, fb, sc, e => match e with
    | .Name x _ => match (match sc.names.lookup x with | some .local => true | some .cell => fb x | _ => false) with
      | true => (idx N x).map .v
      | false => none
    | .Tuple es _ _ => match es.all nstar with
      | true => (compGs n fb sc es).map .t
      | false => none
    | _ => none
def compGs : Nat → (Str → Bool) → Scope → List Expr → Option CGs
  | 0, _, _, _ => none
  | n + 1, fb, sc, es => match es with
    | [] => some .nil
    | a :: r => match compG n fb sc a, compGs n fb sc r with
      | some ca, some cr => some (.cons ca cr)
      | _, _ => none
def compLc : Nat → (Str → Bool) → Scope → Expr → Expr → Expr → List Expr → Scope → Option CF
  | 0, _, _, _, _, _, _, _ => none
  | n + 1, fb, sc, elt, tg, iter, ifs, scope => match blkC N sc scope (ownOf N scope) with
    | true => match compI n fb sc tg iter, compG n (fbOf scope) (relS scope sc) tg, comp n (fbOf scope) (relS scope sc) elt, (match ifs with
        | [] => some CT.tt
        | [t] => compT n (fbOf scope) (relS scope sc) t
        | _ => none) with
      | some ci, some cg, some ce, some ct => match (gSlots cg).all fun i => ((ownOf N scope).map (·.2)).contains i with
        | true => some (.lc cg ci ct ce ((ownOf N scope).map (·.2)))
        | false => none
      | _, _, _, _ => none
    | false => none
end
/-- two names that are stored from the right -/
def isPar (sc : Scope) (tg e : Expr) : Option (Nat × Nat × List Expr) := match tg, e with
  | .Tuple [.Name x px, .Name y py] _ _, .Tuple [a, b] _ _ =>
    match (sc.names.lookup x == some .local) && ((sc.names.lookup y == some .local) && ((py.line == px.line) && (!(x == y) && (nstar a && (nstar b && !([a, b].all (foldedForSure 8) || [a, b].all (constantsAlone 8))))))) with
    | true => match idx N x, idx N y with
      | some i, some j => if i = j then none else some (i, j, [a, b])
      | _, _ => none
    | false => none
  | _, _ => none
/-- is the comprehension stored on its line -/
def lcSwap (sc : Scope) (y : Str) (py pos : Pos) (scope : Scope) : Bool := (sc.names.lookup y == some .local) && ((py.line == pos.line) && !(scope.names.any fun (n, k) => n == y && (k == .local || k == .cell)))
/-- is the store a plain one: no comprehension, or a comprehension into a cell's name -/
def plainSet (sc : Scope) (y : Str) (e : Expr) : Bool := notComp e || (sc.names.lookup y == some .cell)
mutual
def compS : Nat → (Str → Bool) → Scope → Stmt → Option CS
  | 0, _, _, _ => none
  | n + 1, fb, sc, s => match s with
    | .Assign ts e pos => match ts with
      | [tg] => match tg with
        | .Name y py => match e with
          | .ListComp elt gs scope p => match lcSwap sc y py p scope with
            | true => match gs, idx N y with
              | [⟨tg, iter, ifs, 0⟩], some i => (compLc T N n fb sc elt tg iter ifs scope).map fun c => .asg (.v i) (wrapC T p c)
              | _, _ => none
            | false => match plainSet sc y (.ListComp elt gs scope p), compG T N n fb sc (.Name y py), comp T N n fb sc (.ListComp elt gs scope p) with
              | true, some cg, some ce => some (.asg cg ce)
              | _, _, _ => none
          | e => match plainSet sc y e, compG T N n fb sc (.Name y py), comp T N n fb sc e with
            | true, some cg, some ce => some (.asg cg ce)
            | _, _, _ => none
        | .Subscript a b _ => match notSlice b, comp T N n fb sc a, comp T N n fb sc b, comp T N n fb sc e with
          | true, some ca, some cb, some ce => some (.setix ca cb ce)
          | _, _, _, _ => none
        | .Attribute a f _ => match comp T N n fb sc a, comp T N n fb sc e with
          | some ca, some ce => some (.setf ca f ce)
          | _, _ => none
        | tg => match isTupE tg && (isTupE e) with
          | true => match isPar N sc tg e with
            | some (i, j, es) => (compEs T N n fb sc es).map fun c => .asg (.t (.cons (.v i) (.cons (.v j) .nil))) (.tup c)
            | none => none
          | false => match isTupE tg, compG T N n fb sc tg, comp T N n fb sc e with
            | true, some cg, some ce => some (.asg cg ce)
            | _, _, _ => none
      | _ => none
    | .Expr e _ => match notComp e with
      | true => (comp T N n fb sc e).map .ex
      | false => none
    | .Return e _ => match e with
      | some e => (comp T N n fb sc e).map .ret
      | none => none
    | .If t a b _ => match compT T N n fb sc t, compSs n fb sc a, compSs n fb sc b with
      | some ct, some ca, some cb => some (.iff ct ca cb)
      | _, _, _ => none
    | .While t b o _ => match o with
      | [] => match compT T N n fb sc t, compSs n fb sc b with
        | some ct, some cb => some (.whil ct cb)
        | _, _ => none
      | _ => none
    | .For tg it b o _ => match o with
      | [] => match compG T N n fb sc tg, compI T N n fb sc tg it, compSs n fb sc b with
        | some cg, some ci, some cb => some (.forr cg ci cb)
        | _, _, _ => none
      | _ => none
    | .Try b hs o f _ => match hs, o, f with
      | _ :: _, [], [] => (compSs n fb sc b).map fun cb => .iff .tt cb .nil
      | _, _, _ => none
    | .Pass _ => some .pass
    | .Break _ => some .brk
    | .Continue _ => some .cont
    | .Raise .. => some .bad
    | _ => none
def compSs : Nat → (Str → Bool) → Scope → List Stmt → Option CSs
  | 0, _, _, _ => none
  | n + 1, fb, sc, ss => match ss with
    | [] => some .nil
    | s :: r => match compSs n fb sc r with
      | some cr => some (.cons ((compS n fb sc s).getD .bad) cr)
      | none => none
end
end
end Co

end P_CoreComp
section P_CoreSound
set_option Elab.async false
set_option linter.all false
set_option maxRecDepth 100000
set_option maxHeartbeats 4000000
/-! CoreSound: what comp tells is sound. -/
namespace Co
open PySem PySem.Spec PyProof.Rows L2

/-- what is known where a piece of text runs -/
structure SX (T : Tbl) (N : List Str) (g : G) (D : Cl) (k : Nat) (X : Cx) (fb : Str → Bool) (sc : Scope) : Prop where
  hK : X.K = g.K
  calm : X.calm = true
  nd : X.N.Nodup
  hN : X.N = N
  hsc : X.env.scope = sc
  fn : X.fn = fb
  xe : X.xe = fun _ _ => False
  kind : sc.kind = .function
  cst : ∀ x p, T.consts.lookup x = some p → ∃ u v, X.mg x = some u ∧ RelV v u ∧ ∀ F mu, Rep g.K g.CA F mu p v
  free : ∀ x ∈ (["len", "abs", "int", "str", "all", "any", "range", "sum", "tuple", "sorted", "list", "isinstance", "min", "max", "reversed", "enumerate", "zip", "bool", "dict"] : List Str), X.mg x = none
  disp : Disp X g D k T.plan
  fns : ∀ x f na, T.fns.lookup x = some (f, na) → ∃ fa fd ps, ps.length = na ∧ X.mg x = some (.ref fa) ∧ PySem.W.keepIn X.K (.ref fa) = true ∧ Binds X.K fd ps [] ∧ FnAt X g D k f fa fd ps ∧ ∀ n ks ar, T.plan f n ks = some ar → PlanOk g fd ps n ks ar
  clss : ∀ x c, T.clss.lookup x = some c → c < D.nC ∧ X.mg x = some (.ref (g.CA c))
  cms : ∀ c m f, c < D.nC → T.cm c m = some f → ∃ mc pa fa fd ps, ClX.CRead X.K (g.CA c) mc ∧ ClX.CMet X.K (g.CA c) mc m pa fa ∧ FnAt X g D k f fa fd ps ∧ ∀ n ks ar, T.plan f n ks = some ar → PlanOk g fd ps n ks ar
  exs : ∀ x f, T.exs.lookup x = some f → ∃ C fI b, X.mg x = some (.ref C) ∧ Ex.ExcD X.prog X.K C fI f b
  ownN : ∀ c b, b ≠ .str → D.own c b = none
  ownS : ∀ c fn, c < D.nC → D.own c .str = some fn → ∃ fa fd ps, ps.length = 1 ∧ PySem.W.findIn X.K (.ref (g.CA c)) "__str__" = some (some (.ref fa)) ∧ PySem.W.isFn X.K (.ref fa) = true ∧ FnAt X g D k fn fa fd ps ∧ Binds X.K fd ps []
  ownF : ∀ c fn, c < D.nC → D.own c .str = some fn → PySem.W.findIn X.K (.ref (g.CA c)) "__format__" = some (some (.builtin "object.__format__")) ∧ PySem.W.mroIn X.K (g.CA c) (.type "object") = some true
section
variable {T : Tbl} {N : List Str} {g : G} {D : Cl} {k : Nat} {X : Cx} {fb : Str → Bool} {sc : Scope}
theorem SX.blk (S : SX T N g D k X fb sc) {scope : Scope} (hk : scope.kind = .function) (s : Shared) (H : Hp) (C : Addr) (cl : List (Str × Addr)) (fp : List Addr) : SX T N g D k (X.blk s H scope (compEnvC scope cl C X.env) fp) (fbOf scope) (relS scope sc) where
  hK := S.hK
  calm := S.calm
  nd := S.nd
  hN := S.hN
  hsc := by
    show relabel scope X.env = relS scope sc
    rw [← S.hsc]
    rfl
  fn := rfl
  xe := rfl
  kind := hk
  cst := S.cst
  free := S.free
  disp := ⟨S.disp.hK, S.disp.cls, S.disp.room, S.disp.fld, S.disp.prop, S.disp.met, S.disp.ini, S.disp.eqf⟩
  fns := S.fns
  clss := S.clss
  cms := S.cms
  exs := S.exs
  ownN := S.ownN
  ownS := S.ownS
  ownF := S.ownF
theorem SX.room (S : SX T N g D k X fb sc) : Room k X.A := S.disp.room.mono (by omega)
theorem SX.cmp (S : SX T N g D k X fb sc) {op : CmpOp} {o : COp} (hu : X.A.units + 65 < cLine) (h : cmpO op = some o) : CmpS X g D op o := by
  refine cmpS_of S.disp (ops_of hu S.hK h) ?_
  cases op <;> cases h <;> first | exact .inl ⟨rfl, rfl⟩ | exact .inr (.inl ⟨rfl, rfl⟩) | exact .inr (.inr ⟨(by intro z; cases z), (by intro z; cases z)⟩)
theorem idx_of {x : Str} {i : Nat} (h : idx N x = some i) : N[i]? = some x := of_decide_eq_true (List.find?_some (p := fun i => decide (N[i]? = some x)) h)
theorem SX.hu (S : SX T N g D k X fb sc) : X.A.units + 65 < cLine := by
  have := S.room.un
  omega
theorem SX.gl (S : SX T N g D k X fb sc) {x : Str} (h : isGl sc x = true) : Gl X x := by
  show X.env.scope.names.lookup x = some .globalImplicit
  rw [S.hsc]
  unfold isGl at h
  split at h
  · assumption
  · cases h
theorem s_name (S : SX T N g D k X fb sc) {x : Str} {pos : Pos} {c : CE} (h : compName T N sc x = some c) : PE X (.Name x pos) (tE g D c) := by
  unfold compName at h
  split at h
  · cases h
  · rename_i hn
    rw [Bool.or_eq_false_iff] at hn
    split at h
    · rename_i q
      cases e : idx N x with
      | none => rw [e] at h; cases h
      | some i => rw [e] at h; cases h; exact s_var (by rw [S.hN]; exact idx_of e) (by rw [S.hsc]; exact .inl q) hn.1 hn.2
    · rename_i q
      cases e : idx N x with
      | none => rw [e] at h; cases h
      | some i => rw [e] at h; cases h; exact s_var (by rw [S.hN]; exact idx_of e) (by rw [S.hsc]; exact .inr (.inl q)) hn.1 hn.2
    · rename_i q
      cases e : idx N x with
      | none => rw [e] at h; cases h
      | some i => rw [e] at h; cases h; exact s_var (by rw [S.hN]; exact idx_of e) (by rw [S.hsc]; exact .inr (.inr q)) hn.1 hn.2
    · rename_i q
      cases e : T.consts.lookup x with
      | none => rw [e] at h; cases h
      | some p =>
        rw [e] at h
        cases h
        obtain ⟨u, v, h1, h2, h3⟩ := S.cst x p e
        exact s_k (pe_glob (by show X.env.scope.names.lookup x = _; rw [S.hsc]; exact q) h1 h2 hn.1) h3
    · cases h
theorem s_wrap {pos : Pos} {e : Expr} {cf : CF} (h : PE X e (tF g D cf)) : PE X e (tE g D (wrapC T pos cf)) := by
  unfold wrapC wrapB
  cases T.isCell pos with
  | true => exact s_cell h
  | false => exact s_fz h
theorem assignEach_cons {a : Expr} {es : List Expr} {env : PySem.Env} (h : nstar a = true) : assignEach (a :: es) env = (false, assign a env) :: assignEach es env := by
  cases a <;> first | rfl | cases h
theorem assignEach_all {env : PySem.Env} : ∀ {es : List Expr}, es.all nstar = true → (assignEach es env).length = es.length ∧ (assignEach es env).findIdx? (·.1) = none
  | [], _ => ⟨rfl, rfl⟩
  | a :: es, h => by
    rw [List.all_cons, Bool.and_eq_true] at h
    rw [assignEach_cons h.1]
    obtain ⟨h1, h2⟩ := assignEach_all (env := env) h.2
    exact ⟨by rw [List.length_cons, List.length_cons, h1], by rw [List.findIdx?_cons, h2]; rfl⟩
def CGs.len : CGs → Nat
  | .nil => 0
  | .cons _ r => r.len + 1
theorem setGs_len : ∀ {c : CGs} {p : List PV} {m : Mem} {env env' : Env}, setGs c p m env = some env' → p.length = c.len
  | .nil, [], _, _, _, _ => rfl
  | .nil, _ :: _, _, _, _, h => by cases h
  | .cons _ _, [], _, _, _, h => by cases h
  | .cons g r, x :: xs, m, env, env', h => by
    unfold setGs at h
    cases e : setG g x m env with
    | none => rw [e] at h; cases h
    | some e1 =>
      rw [e] at h
      rw [List.length_cons, setGs_len h]
      rfl
theorem evEs_len : ∀ {c : CEs} {env : Env} {m m' : Mem} {xs : List PV}, c.plain = true → evEs D c env m = .ok xs m' → xs.length = c.cnt
  | .nil, _, _, _, _, _, h => by cases h; rfl
  | .cons a r, env, m, m', xs, hp, h => by
    simp only [evEs] at h
    cases e1 : evE D a env m with
    | stuck => rw [e1] at h; cases h
    | exc z m1 => rw [e1] at h; cases h
    | ok q m2 =>
      rw [e1] at h
      simp only [Out.bind] at h
      cases e2 : evEs D r env m2 with
      | stuck => rw [e2] at h; cases h
      | exc z m1 => rw [e2] at h; cases h
      | ok qs2 m3 =>
        rw [e2] at h
        cases h
        rw [List.length_cons, evEs_len (show r.plain = true from hp) e2]
        rfl
  | .star _ _, _, _, _, _, hp, h => by cases hp
theorem sa_star {a : Expr} {es : List Expr} {ca : CE} {ces : CEs} {p : Pos} (hK : X.K = g.K) (ha : PE X a (tE g D ca)) (hr : PA X es (tA g D ces)) : PA X (.Starred a p :: es) (tA g D (.star ca ces)) := PA.conv (StX.pa_star ha hr rfl) fun σ H Q h => by
  obtain ⟨F, mu, env, m, hE, hM, hw⟩ := h
  refine ⟨F, mu, env, m, hE, hM, (W.bind hw).mono fun q m1 F1 mu1 H1 st rm hw1 x hx => ?_⟩
  obtain ⟨ps, hps, hw2⟩ := W.of (W.bind hw1)
  have hw3 := W.ok hw2 rm
  obtain ⟨c, vs, rfl, k1, k2, k3⟩ := items_of rm hx hps
  rw [hK]
  refine ⟨c, vs, rfl, k1.symm, F1, mu1, env, m1, hE.step st, rm, (W.bind hw3).mono fun qs m2 F2 mu2 H2 st2 rm2 hw4 ws hws => ?_⟩
  exact W.ok hw4 rm2 _ ((k3.step st2).append hws)
theorem it_range {F : Hp} {mu : List Addr} (n : Nat) : ItOk0 g F mu ((List.range n).map fun (i : Nat) => PV.int (i : Int)) (Itr 0 n) := by
  intro F2 mu2 m2 H2 fF fm rm i
  refine ⟨fun p hp => ?_, fun hi => by
    have h2 : n ≤ i := by simpa using hi
    exact h2⟩
  rw [List.getElem?_map] at hp
  cases e : (List.range n)[i]? with
  | none => rw [e] at hp; cases hp
  | some c =>
    rw [e] at hp
    cases hp
    obtain ⟨h1, h2⟩ := List.getElem?_eq_some_iff.mp e
    rw [List.length_range] at h1
    rw [List.getElem_range] at h2
    subst h2
    refine ⟨h1, fun y H3 hy => ?_⟩
    obtain ⟨rfl, rfl⟩ := hy
    exact ⟨F2, St2.refl, rm, show V.int (0 + (i : Int)) = V.int (i : Int) by rw [Int.zero_add]⟩
theorem si_range {tg a : Expr} {ca : CE} {p pos : Pos} (S : SX T N g D k X fb sc) (hg : isGl sc "range" = true) (hs : nstar a = true) (ha : PE X a (tE g D ca)) : PI X tg (.Call (.Name "range" p) [a] [] pos) (tI g D (.range (.cons ca .nil))) := by
  refine PI.conv (pi_range1 (S.gl hg) (S.free _ (by simp)) (sa_cons' hs ha sa_nil) (starEach_cons hs)) fun σ H R h => ?_
  obtain ⟨F, mu, env, m, hE, hM, hw⟩ := h
  refine ⟨F, mu, env, m, hE, hM, (W.bind hw).mono fun ps m1 F1 mu1 H1 st rm hw1 vs hvs => ?_⟩
  cases ps with
  | nil => exact hw1.elim
  | cons q ps =>
    cases ps with
    | cons _ _ => cases q <;> exact hw1.elim
    | nil =>
      obtain ⟨v, r, rfl, hv, hr⟩ := hvs
      cases hr
      cases q with
      | int j =>
        obtain ⟨hj, hw2⟩ := W.ck hw1
        rw [Bool.and_eq_true] at hj
        have hj1 : -100000 ≤ j := of_decide_eq_true hj.1
        have hj2 : j ≤ 100000 := of_decide_eq_true hj.2
        refine ⟨j, by rw [show v = .int j from hv], by omega, by omega, W.ok hw2 rm _ (ItOk.fix (it_range _) (by rw [List.length_map, List.length_range, sizeLine_eq]; omega))⟩
      | _ => exact hw1.elim
/-- all that comp tells, at a depth -/
structure SAll (T : Tbl) (N : List Str) (g : G) (D : Cl) (k : Nat) (n : Nat) : Prop where
  xe : ∀ (X : Cx) fb sc (e : Expr) c, SX T N g D k X fb sc → comp T N n fb sc e = some c → PE X e (tE g D c)
  xt : ∀ (X : Cx) fb sc (e : Expr) c, SX T N g D k X fb sc → compT T N n fb sc e = some c → PT X e (tT g D c)
  xk : ∀ (X : Cx) fb sc (kws : List Keyword) c, SX T N g D k X fb sc → (kwVals kws).all nstar = true → compEs T N n fb sc (kwVals kws) = some c → PK X kws (tA g D c)
  xd : ∀ (X : Cx) fb sc (e : List Expr) c, SX T N g D k X fb sc → compEs T N n fb sc e = some c → e.all nstar = true → PEl X g D e c
  xs : ∀ (X : Cx) fb sc (e : List Expr) c, SX T N g D k X fb sc → compEs T N n fb sc e = some c → PA X e (tA g D c) ∧ c.cnt = e.length ∧ (e.all nstar = true → c.plain = true)
  xi : ∀ (X : Cx) fb sc (e : Expr) c tg, SX T N g D k X fb sc → compI T N n fb sc tg e = some c → PI X tg e (tI g D c) ∧ ∀ x, foldedSetIterable e X.env x = pure x
  xg : ∀ (X : Cx) fb sc (e : Expr) c, SX T N g D k X fb sc → compG T N n fb sc e = some c → PG X e (tG g c)
  xgs : ∀ (X : Cx) fb sc (e : List Expr) c, SX T N g D k X fb sc → e.all nstar = true → compGs T N n fb sc e = some c → PGs X e (tGs g c) ∧ c.len = e.length
  xlc : ∀ (X : Cx) fb sc (elt tg iter : Expr) ifs scope c, SX T N g D k X fb sc → compLc T N n fb sc elt tg iter ifs scope = some c → ∃ cg ci ct ce, c = .lc cg ci ct ce ((ownOf N scope).map (·.2)) ∧ BlkOk X.N X.env.scope scope (ownOf N scope) ∧ (∀ i ∈ gSlots cg, i ∈ (ownOf N scope).map (·.2)) ∧
    PI X tg iter (tI g D ci) ∧ (∀ x, foldedSetIterable iter X.env x = pure x) ∧ (∀ (s : Shared) (H : Hp) (C : Addr) (cl : List (Str × Addr)) (fp : List Addr), PG (X.blk s H scope (compEnvC scope cl C X.env) fp) tg (tG g cg)) ∧
    (∀ (s : Shared) (H : Hp) (C : Addr) (cl : List (Str × Addr)) (fp : List Addr), PTs (X.blk s H scope (compEnvC scope cl C X.env) fp) ifs (tT g D ct)) ∧ (∀ (s : Shared) (H : Hp) (C : Addr) (cl : List (Str × Addr)) (fp : List Addr), PE (X.blk s H scope (compEnvC scope cl C X.env) fp) elt (tE g D ce))
theorem folded_of {e : Expr} {env : PySem.Env} (h : ∀ a b c, e ≠ .Set a b c) : ∀ x, foldedSetIterable e env x = pure x := by
  intro x
  cases e <;> first | rfl | exact absurd rfl (h _ _ _)
theorem isTrue_plain' {e : Expr} {env : PySem.Env} (h : plainTest e = true) : ∀ whole, isTrue e env whole = (do let v ← whole; standAt e.pos; holding [v] (truthy v)) := by
  intro whole
  cases e with
  | UnaryOp op a p => cases op <;> first | rfl | cases h
  | BoolOp => cases h
  | IfExp => cases h
  | Compare => cases h
  | _ => rfl
theorem fnR1 {k fn : Nat} {fa : Addr} {fd : FuncData} {ps : List Str} (hl : ps.length = 1) (hF : FnAt X g D k fn fa fd ps) (hb : Binds X.K fd ps []) : FnR X.prog X.w X.K X.mg X.base CX0 k fa (spF g 1 (D.call fn)) := by
  unfold FnAt at hF
  rw [hl] at hF
  have e0 : (fun (vs : List V) (H : Hp) (Q : VK) (E : XK) => spF g 1 (D.call fn) (vs ++ []) H Q E) = spF g 1 (D.call fn) := by
    funext vs H Q E
    rw [List.append_nil]
  have hR := hF.raw hb .nil
  rwa [e0] at hR
theorem str_own (S : SX T N g D k X fb sc) : ∃ r, CallR X (.type "str") r ∧ OneS g D .str r := by
  have hp : ∀ i : Nat × Nat, (i.1 < D.nC ∧ D.own i.1 .str = some i.2) → CallR X (.type "str") (fun xs H Q => ∃ a dx fs, xs = [V.ref a] ∧ H a = some (.ins (g.CA i.1) dx fs) ∧ spF g 1 (D.call i.2) [.ref a] H (fun v H' => ∃ z, v = .str z ∧ Q (.str z) H') E0) := fun i hi => by
    obtain ⟨fa, fd, ps, hl, hs, hf, hF, hb⟩ := S.ownS i.1 i.2 hi.1 hi.2
    exact call_strOwn hs hf (fnR1 hl hF hb) (S.disp.room.mono (by omega))
  refine ⟨_, CallR.or (CallR.or call_str_int SkE.call_str_str) (show CallR X (.type "str") (fun xs H Q => ∃ i : Nat × Nat, (i.1 < D.nC ∧ D.own i.1 .str = some i.2) ∧ ∃ a dx fs, xs = [V.ref a] ∧ H a = some (.ins (g.CA i.1) dx fs) ∧ spF g 1 (D.call i.2) [.ref a] H (fun v H' => ∃ z, v = .str z ∧ Q (.str z) H') E0) from fun pins s σ H xs us Q I r ⟨i, hi, q⟩ => hp i hi pins s σ H xs us Q I r q), fun F mu H m x p Q' rm hx hw => ?_⟩
  unfold biO at hw
  cases ho : ownO D .str (vw m p) with
  | none =>
    rw [ho] at hw
    exact .inl (one_str F mu H m x p Q' rm hx hw)
  | some fn =>
    rw [ho] at hw
    unfold ownO at ho
    split at ho
    · rename_i c ns vs ev
      split at ho
      · rename_i hc
        have vx := view rm hx
        rw [ev] at vx
        obtain ⟨a, dx, us, rfl, h1, h2, h3⟩ := vx
        refine .inr ⟨(c, fn), ⟨hc, ho⟩, a, dx, _, rfl, h1, rfl, F, mu, m, [p], rm, ⟨_, [], rfl, hx, rfl⟩, (W.bind hw).mono fun r m1 F1 mu1 H1 st1 rm1 hw1 v hv => ?_⟩
        cases r with
        | str z => exact ⟨z, hv, W.ok hw1 rm1 _ rfl⟩
        | _ => exact hw1.elim
      · cases ho
    · cases ho
theorem SX.fmtOk (S : SX T N g D k X fb sc) : FmtOk X g D := fun c fn hc ho => by
  obtain ⟨fa, fd, ps, hl, hs, hf, hF, hb⟩ := S.ownS c fn hc ho
  obtain ⟨h1, h2⟩ := S.ownF c fn hc ho
  exact ⟨fa, hs, hf, h1, h2, k, fnR1 hl hF hb, S.disp.room.mono (by omega)⟩
theorem bi_call (S : SX T N g D k X fb sc) {x : Str} {a : Expr} {ca : CE} {b : Bi} {p pos : Pos} (hb : bi1 x = some b) (hg : isGl sc x = true) (hs : nstar a = true) (ha : PE X a (tE g D ca)) : PE X (.Call (.Name x p) [a] [] pos) (tE g D (.bi b ca)) := by
  have on : ∀ b, b ≠ .str → ∀ c, D.own c b = none := fun b hb c => S.ownN c b hb
  unfold bi1 at hb
  split at hb
  · rename_i e; subst e; cases hb
    exact s_biB call_len (S.gl hg) (S.free _ (by simp)) boot_len (by decide +kernel) (by decide +kernel) hs ha ((one_len S.hK).s (on _ (by intro z; cases z)))
  split at hb
  · rename_i e; subst e; cases hb
    exact s_biB call_abs (S.gl hg) (S.free _ (by simp)) (by decide +kernel) (by decide +kernel) (by decide +kernel) hs ha (one_abs.s (on _ (by intro z; cases z)))
  split at hb
  · rename_i e; subst e; cases hb
    exact s_biT (CallR.or call_int1 call_int_str) (S.gl hg) (S.free _ (by simp)) (by decide +kernel) (by decide +kernel) (by decide +kernel) hs ha (one_int.s (on _ (by intro z; cases z)))
  split at hb
  · rename_i e; subst e; cases hb
    obtain ⟨r, h1, h2⟩ := str_own S
    exact s_biT h1 (S.gl hg) (S.free _ (by simp)) (by decide +kernel) (by decide +kernel) (by decide +kernel) hs ha h2
  split at hb
  · rename_i e; subst e; cases hb
    exact s_biB (cr_all S.calm) (S.gl hg) (S.free _ (by simp)) (by decide +kernel) (by decide +kernel) (by decide +kernel) hs ha ((one_all S.hK).s (on _ (by intro z; cases z)))
  split at hb
  · rename_i e; subst e; cases hb
    exact s_biB (cr_any S.calm) (S.gl hg) (S.free _ (by simp)) (by decide +kernel) (by decide +kernel) (by decide +kernel) hs ha ((one_any S.hK).s (on _ (by intro z; cases z)))
  split at hb
  · rename_i e; subst e; cases hb
    exact s_biB (cr_sum S.calm) (S.gl hg) (S.free _ (by simp)) PyProof.Rows.boot_sum (by decide +kernel) (by decide +kernel) hs ha ((one_sum S.hK).s (on _ (by intro z; cases z)))
  split at hb
  · rename_i e; subst e; cases hb
    exact s_biT call_tuple_of (S.gl hg) (S.free _ (by simp)) (by decide +kernel) (by decide +kernel) (by decide +kernel) hs ha ((one_tuple S.hK).s (on _ (by intro z; cases z)))
  · cases hb
theorem snd_zero : SAll T N g D k 0 where
  xe := fun X fb sc e c S h => by cases h
  xt := fun X fb sc e c S h => by cases h
  xk := fun X fb sc e c S hs h => by cases h
  xd := fun X fb sc e c S h => by cases h
  xs := fun X fb sc e c S h => by cases h
  xi := fun X fb sc e c tg S h => by cases h
  xg := fun X fb sc e c S h => by cases h
  xgs := fun X fb sc e c S hs h => by cases h
  xlc := fun X fb sc elt tg iter ifs scope c S h => by cases h
section
variable {n : Nat}
theorem kw_len : ∀ {kws : List Keyword} {ks : List Str}, kwNames kws = some ks → kws.length = ks.length
  | [], ks, h => by cases h; rfl
  | ⟨some n, e, p⟩ :: r, ks, h => by
    simp only [kwNames] at h
    cases q : kwNames r with
    | none => rw [q] at h; cases h
    | some ks' => rw [q] at h; cases h; rw [List.length_cons, List.length_cons, kw_len q]
  | ⟨none, e, p⟩ :: r, ks, h => by cases h
theorem isK {b : Expr} {t : Isi} (S : SX T N g D k X fb sc) (h : isKind T sc b = some t) : ClsE X g D.nC b t ∨ ∃ p1 p2 kk p3, b = .Tuple [.Name "list" p1, .Name "tuple" p2] kk p3 ∧ t = .seq ∧ isGl sc "list" = true ∧ isGl sc "tuple" = true := by
  unfold isKind at h
  split at h
  · rename_i y py
    split at h
    · rename_i hq
      rw [Bool.and_eq_true] at hq
      have hd : (y == ("__debug__" : Str)) = false := by rw [← Bool.not_eq_true']; exact hq.2
      have hg := hq.1
      split at h
      · rename_i e; subst e; cases h; exact .inl (.int (S.gl hg) (S.free _ (by simp)))
      split at h
      · rename_i e; subst e; cases h; exact .inl (.bool (S.gl hg) (S.free _ (by simp)))
      split at h
      · rename_i e; subst e; cases h; exact .inl (.str (S.gl hg) (S.free _ (by simp)))
      split at h
      · rename_i e; subst e; cases h; exact .inl (.tuple (S.gl hg) (S.free _ (by simp)))
      · cases q : T.clss.lookup y with
        | none => rw [q] at h; cases h
        | some c =>
          rw [q] at h
          cases h
          obtain ⟨h1, h2⟩ := S.clss y c q
          exact .inl (.own (S.gl hg) h2 hd h1)
    · cases h
  · split at h
    · split at h
      · rename_i hq
        obtain ⟨rfl, rfl, h1, h2⟩ := hq
        cases h
        exact .inr ⟨_, _, _, _, rfl, rfl, h1, h2⟩
      · cases h
    · cases h
  · cases h
theorem plan_at {n : Nat} {ks : List Str} : ∀ fn a, (T.planL n ks).lookup fn = some a → T.plan fn n ks = some a := fun fn a h => h
theorem snd_call (I : SAll T N g D k n) (S : SX T N g D k X fb sc) {f : Expr} {as : List Expr} {ks : List Keyword} {pos : Pos} {c : CE} (h : comp T N (n + 1) fb sc (.Call f as ks pos) = some c) : PE X (.Call f as ks pos) (tE g D c) := by
  simp only [comp] at h
  split at h
  rotate_left
  · cases h
  rename_i kn hst0 hkn
  rw [Bool.and_eq_true] at hst0
  obtain ⟨hst, hstk⟩ := hst0
  have kwnil : kn.length = 0 → ks = [] := fun hz => by
    have := kw_len hkn
    rw [hz] at this
    exact List.length_eq_zero_iff.mp this
  have xes : ∀ ca, compEs T N n fb sc as = some ca → PA X as (tA g D ca) ∧ as.length = ca.cnt := fun ca h => by
    obtain ⟨h1, h2, _⟩ := I.xs X fb sc as ca S h
    exact ⟨h1, h2.symm⟩
  have xpl : ∀ ca, compEs T N n fb sc as = some ca → ca.plain = true := fun ca h => (I.xs X fb sc as ca S h).2.2 hst
  split at h
  · rename_i x px
    split at h
    · cases h
    · rename_i hdc
      rw [Bool.or_eq_false_iff] at hdc
      obtain ⟨hdb, hcd⟩ := hdc
      generalize hk : kindName T N sc x as kn.length = K at h
      unfold kindName at hk
      split at hk
      · -- local names
        rename_i hl
        split at hk
        · rename_i i hi
          subst hk
          dsimp only at h
          split at h
          · rename_i ca ck h1 h2
            cases h
            obtain ⟨p1, p2⟩ := xes ca h1
            exact s_mkL S.disp (by rw [S.hN]; exact idx_of hi) (by rw [S.hsc]; first | exact .inl hl | exact .inr (.inl hl) | exact .inr (.inr hl)) hdb hcd hst hkn p1 p2 (I.xk X fb sc ks ck S hstk h2) plan_at
          · cases h
        · subst hk; cases h
      · rename_i hl
        split at hk
        · rename_i i hi
          subst hk
          dsimp only at h
          split at h
          · rename_i ca ck h1 h2
            cases h
            obtain ⟨p1, p2⟩ := xes ca h1
            exact s_mkL S.disp (by rw [S.hN]; exact idx_of hi) (by rw [S.hsc]; first | exact .inl hl | exact .inr (.inl hl) | exact .inr (.inr hl)) hdb hcd hst hkn p1 p2 (I.xk X fb sc ks ck S hstk h2) plan_at
          · cases h
        · subst hk; cases h
      · rename_i hl
        split at hk
        · rename_i i hi
          subst hk
          dsimp only at h
          split at h
          · rename_i ca ck h1 h2
            cases h
            obtain ⟨p1, p2⟩ := xes ca h1
            exact s_mkL S.disp (by rw [S.hN]; exact idx_of hi) (by rw [S.hsc]; first | exact .inl hl | exact .inr (.inl hl) | exact .inr (.inr hl)) hdb hcd hst hkn p1 p2 (I.xk X fb sc ks ck S hstk h2) plan_at
          · cases h
        · subst hk; cases h
      · -- the module's names
        rename_i hl
        have hg : isGl sc x = true := by unfold isGl; rw [hl]
        split at hk
        · rename_i f na hf
          obtain ⟨fa, fd, ps, l1, hm, hkp, hb, hF, hP⟩ := S.fns x f na hf
          split at hk
          · rename_i hz
            subst hk
            obtain ⟨hz1, hz2⟩ := hz
            have := kwnil hz1
            subst this
            dsimp only at h
            cases e : compEs T N n fb sc as with
            | none => rw [e] at h; cases h
            | some ca =>
              rw [e] at h
              cases h
              obtain ⟨pa, plen⟩ := xes ca e
              unfold FnAt at hF
              exact s_call hF S.room (S.gl hg) hm hkp hb (by rw [l1]; exact hz2) hdb hst (xpl ca e) pa fun env m xs m' hq => by rw [evEs_len (xpl ca e) hq, plen]
          · subst hk
            dsimp only at h
            split at h
            · rename_i ar ca ck h0 h1 h2
              cases h
              obtain ⟨p1, p2⟩ := xes ca h1
              exact s_callk hF S.room (S.gl hg) hm hkp S.hK (hP _ _ ar h0) hdb hst hkn p1 p2 (I.xk X fb sc ks ck S hstk h2)
            · cases h
        · split at hk
          · rename_i c hc
            subst hk
            obtain ⟨c1, c2⟩ := S.clss x c hc
            dsimp only at h
            split at h
            · rename_i ca ck h1 h2
              cases h
              obtain ⟨p1, p2⟩ := xes ca h1
              exact s_mkG S.disp c1 (S.gl hg) c2 hdb hst hkn p1 p2 (I.xk X fb sc ks ck S hstk h2) plan_at
            · cases h
          · split at hk
            · rename_i hz
              have := kwnil hz
              subst this
              split at hk
              · rename_i a
                rw [List.all_cons, Bool.and_eq_true] at hst
                have hsa := hst.1
                split at hk
                · rename_i b hb
                  subst hk
                  dsimp only at h
                  cases q : comp T N n fb sc a with
                  | none => rw [q] at h; cases h
                  | some ca => rw [q] at h; cases h; exact bi_call S hb hg hsa (I.xe X fb sc a ca S q)
                · split at hk
                  · rename_i e
                    subst e hk
                    dsimp only at h
                    cases q : comp T N n fb sc a with
                    | none => rw [q] at h; cases h
                    | some ca => rw [q] at h; cases h; exact s_wrap (sf_srt S.calm S.hK (S.gl hg) (S.free _ (by simp)) hsa (I.xe X fb sc a ca S q))
                  · split at hk
                    · rename_i e
                      subst e hk
                      dsimp only at h
                      cases q : comp T N n fb sc a with
                      | none => rw [q] at h; cases h
                      | some ca => rw [q] at h; cases h; exact s_wrap (sf_lof S.calm S.hK (S.gl hg) (S.free _ (by simp)) hsa (I.xe X fb sc a ca S q))
                    · split at hk
                      · rename_i e
                        subst e hk
                        dsimp only at h
                        cases q : comp T N n fb sc a with
                        | none => rw [q] at h; cases h
                        | some ca => rw [q] at h; cases h; exact s_dof S.calm S.hK (S.gl hg) (S.free _ (by simp)) hsa (I.xe X fb sc a ca S q)
                      · subst hk; cases h
              · rename_i a b
                rw [List.all_cons, Bool.and_eq_true, List.all_cons, Bool.and_eq_true] at hst
                have hsa := hst.1
                have hsb := hst.2.1
                split at hk
                · rename_i e
                  subst e
                  split at hk
                  · rename_i t ht
                    subst hk
                    dsimp only at h
                    cases q : comp T N n fb sc a with
                    | none => rw [q] at h; cases h
                    | some ca =>
                      rw [q] at h
                      cases h
                      rcases isK S ht with hc | ⟨p1, p2, kk, p3, rfl, rfl, g1, g2⟩
                      · exact s_isi S.disp.cls S.hK (S.gl hg) (S.free _ (by simp)) hsa (I.xe X fb sc a ca S q) hc
                      · exact s_isiT S.disp.cls S.hK (S.gl hg) (S.free _ (by simp)) (S.gl g1) (S.free _ (by simp)) (S.gl g2) (S.free _ (by simp)) hsa (I.xe X fb sc a ca S q)
                  · subst hk; cases h
                · split at hk
                  · rename_i e
                    subst e hk
                    dsimp only at h
                    split at h
                    · rename_i ca cb h1 h2
                      cases h
                      exact s_min2 S.calm (S.gl hg) (S.free _ (by simp)) hsa hsb (I.xe X fb sc a ca S h1) (I.xe X fb sc b cb S h2)
                    · cases h
                  · split at hk
                    · rename_i e
                      subst e hk
                      dsimp only at h
                      split at h
                      · rename_i ca cb h1 h2
                        cases h
                        exact s_max2 S.calm (S.gl hg) (S.free _ (by simp)) hsa hsb (I.xe X fb sc a ca S h1) (I.xe X fb sc b cb S h2)
                      · cases h
                    · subst hk; cases h
              · subst hk; cases h
            · subst hk; cases h
      · subst hk; cases h
  · rename_i o m apos
    split at h
    · rename_i hq
      rw [Bool.and_eq_true, Bool.and_eq_true] at hq
      obtain ⟨hline, h0, hfew0⟩ := hq
      have hfew := of_decide_eq_true hfew0
      clear hfew0
      have methc : ∀ co ca ck, comp T N n fb sc o = some co → compEs T N n fb sc as = some ca → compEs T N n fb sc (kwVals ks) = some ck → PE X (.Call (.Attribute o m apos) as ks pos) (tE g D (.meth m co ca ck as.length kn.length (T.planL (as.length + 1) kn))) := fun co ca ck h1 h2 h3 => by
        obtain ⟨p1, p2⟩ := xes ca h2
        exact s_meth S.disp h0 (I.xe X fb sc o co S h1) hst hkn hfew hline p1 p2 (I.xk X fb sc ks ck S hstk h3) plan_at
      generalize hk : kindAttr T sc o m as kn.length = K at h
      unfold kindAttr at hk
      split at hk
      · rename_i f cl hcm
        subst hk
        dsimp only at h
        unfold cmName at hcm
        split at hcm
        · rename_i y py
          split at hcm
          · rename_i hq
            rw [Bool.and_eq_true] at hq
            have hd : (y == ("__debug__" : Str)) = false := by rw [← Bool.not_eq_true']; exact hq.2
            split at hcm
            · rename_i c0 hc0
              cases hT : T.cm c0 m with
              | none => rw [hT] at hcm; cases hcm
              | some f0 =>
                rw [hT] at hcm
                cases hcm
                obtain ⟨c1, c2⟩ := S.clss y _ hc0
                obtain ⟨mc, pa, fa, fd, ps, r1, r2, hF, hP⟩ := S.cms _ m _ c1 hT
                split at h
                · rename_i ar ca ck h1 h2 h3
                  cases h
                  obtain ⟨p1, p2⟩ := xes ca h2
                  exact s_cm S.hK (pe_glob (S.gl hq.1) c2 rfl hd) r1 r2 hF S.room (hP _ _ ar h1) h0 hst hkn hfew hline p1 p2 (I.xk X fb sc ks ck S hstk h3)
                · cases h
            · cases hcm
          · cases hcm
        · cases hcm
      · split at hk
        · rename_i hz
          have := kwnil hz
          subst this
          split at hk
          · rename_i a
            rw [List.all_cons, Bool.and_eq_true] at hst
            have hsa := hst.1
            split at hk
            · rename_i k1 hm1
              subst hk
              dsimp only at h
              split at h
              · rename_i co ca h1 h2
                cases h
                have po := I.xe X fb sc o co S h1
                have pa := I.xe X fb sc a ca S h2
                unfold m1Name at hm1
                split at hm1
                · rename_i e; subst e; cases hm1; exact s_append po pa h0 hsa hline
                split at hm1
                · rename_i e; subst e; cases hm1; exact s_popi po pa h0 hsa hline
                split at hm1
                · rename_i e; subst e; cases hm1; exact s_extend po pa h0 hsa hline
                split at hm1
                · rename_i e; subst e; cases hm1; exact s_join S.hK po pa h0 hsa hline
                split at hm1
                · rename_i e; subst e; cases hm1; exact s_split S.hK po pa h0 hsa hline
                split at hm1
                · rename_i e; subst e; cases hm1; exact s_partition S.hK po pa h0 hsa hline
                split at hm1
                · rename_i e; subst e; cases hm1; exact s_dupd po pa h0 hsa hline
                split at hm1
                · rename_i e; subst e; cases hm1; exact s_index S.hK S.hu po pa h0 hsa hline
                · cases hm1
              · cases h
            · (subst hk; dsimp only at h; split at h <;> first | (cases h; exact methc _ _ _ (by assumption) (by assumption) (by assumption)) | cases h)
          · rename_i a b
            rw [List.all_cons, Bool.and_eq_true, List.all_cons, Bool.and_eq_true] at hst
            split at hk
            · rename_i e
              subst e hk
              dsimp only at h
              split at h
              · rename_i co ca cb h1 h2 h3
                cases h
                exact s_dget2 (by have := S.hu; omega) (I.xe X fb sc o co S h1) (I.xe X fb sc a ca S h2) (I.xe X fb sc b cb S h3) h0 hst.1 hst.2.1 hline
              · cases h
            · (subst hk; dsimp only at h; split at h <;> first | (cases h; exact methc _ _ _ (by assumption) (by assumption) (by assumption)) | cases h)
          · (subst hk; dsimp only at h; split at h <;> first | (cases h; exact methc _ _ _ (by assumption) (by assumption) (by assumption)) | cases h)
        · (subst hk; dsimp only at h; split at h <;> first | (cases h; exact methc _ _ _ (by assumption) (by assumption) (by assumption)) | cases h)
    · cases h
  · cases h
theorem snd_e (I : SAll T N g D k n) (S : SX T N g D k X fb sc) {e : Expr} {c : CE} (h : comp T N (n + 1) fb sc e = some c) : PE X e (tE g D c) := by
  cases e with
  | Name x p => exact s_name S h
  | Constant v i p =>
    cases v <;> first | (cases h; done) | (cases h; exact s_k pe_int fun _ _ => rfl) | (cases h; exact s_k pe_bl fun _ _ => rfl) | (cases h; exact s_k pe_non fun _ _ => rfl) | (cases h; exact s_k pe_str fun _ _ => rfl)
  | BinOp a op b p =>
    simp only [comp] at h
    split at h
    · rename_i o ca cb h1 h2 h3
      cases h
      have pa := I.xe X fb sc a ca S h2
      have pb := I.xe X fb sc b cb S h3
      cases op <;> cases h1
      · exact s_add S.hK pa pb
      · exact s_sub pa pb
      · exact s_mul pa pb
      · exact s_mod pa pb
      · exact s_pow pa pb
      · exact s_fdiv pa pb
    · cases h
  | UnaryOp op a p =>
    simp only [comp] at h
    cases op with
    | USub =>
      cases e : comp T N n fb sc a with
      | none => rw [e] at h; cases h
      | some ca => rw [e] at h; cases h; exact s_neg (I.xe X fb sc a ca S e)
    | Not =>
      cases e : comp T N n fb sc a with
      | none => rw [e] at h; cases h
      | some ca => rw [e] at h; cases h; exact sv_not (I.xe X fb sc a ca S e)
    | Invert => cases h
    | UAdd => cases h
  | BoolOp op vs p =>
    simp only [comp] at h
    split at h
    · exact pe_one (I.xe X fb sc _ c S h)
    · split at h
      · rename_i ca cb h1 h2
        cases op with
        | And => cases h; exact sv_and (I.xe X fb sc _ ca S h1) (I.xe X fb sc _ cb S h2)
        | Or => cases h; exact sv_or (I.xe X fb sc _ ca S h1) (I.xe X fb sc _ cb S h2)
      · cases h
    · cases h
  | Compare a ops cs p =>
    simp only [comp] at h
    split at h
    · split at h
      · cases h
      · rename_i hm
        split at h
        · rename_i o ca cb h1 h2 h3
          cases h
          exact s_cmp (S.cmp S.hu h1) hm (I.xe X fb sc _ ca S h2) (I.xe X fb sc _ cb S h3)
        · cases h
    · split at h
      · cases h
      · rename_i hm
        split at h
        · rename_i o o' ca cb cc h1 h2 h3 h4 h5
          cases h
          exact s_chain (ops_of S.hu S.hK h1) (ops_of S.hu S.hK h2) hm (I.xe X fb sc _ ca S h3) (I.xe X fb sc _ cb S h4) (I.xe X fb sc _ cc S h5)
        · cases h
    · cases h
  | IfExp t a b p =>
    simp only [comp] at h
    split at h
    · rename_i ct ca cb h1 h2 h3
      cases h
      exact s_ite (I.xt X fb sc _ ct S h1) (I.xe X fb sc _ ca S h2) (I.xe X fb sc _ cb S h3)
    · cases h
  | Tuple es i p =>
    simp only [comp] at h
    cases e : compEs T N n fb sc es with
    | none => rw [e] at h; cases h
    | some ca => rw [e] at h; cases h; exact s_tup (I.xs X fb sc es ca S e).1
  | List es p =>
    simp only [comp] at h
    cases e : compEs T N n fb sc es with
    | none => rw [e] at h; cases h
    | some ca => rw [e] at h; cases h; exact s_wrap (sf_lst (I.xs X fb sc es ca S e).1)
  | ListComp elt gs scope p =>
    simp only [comp] at h
    split at h
    · rename_i tg iter ifs
      cases e : compLc T N n fb sc elt tg iter ifs scope with
      | none => rw [e] at h; cases h
      | some cf =>
        rw [e] at h
        cases h
        obtain ⟨cg, ci, ct, ce, rfl, ok, hown, hi, hs, hg, ht, he⟩ := I.xlc X fb sc elt tg iter ifs scope cf S e
        exact s_wrap (sf_lc S.calm S.nd hi ok hown hg ht he hs)
    · cases h
  | Subscript a b p =>
    simp only [comp] at h
    split at h
    · rename_i lo hi st sp
      split at h
      · split at h
        · rename_i ca cl ch h1 h2 h3
          cases h
          have pl : PO X lo (tO g D cl) := by
            cases lo with
            | none => cases h2; exact so_none
            | some e =>
              dsimp only at h2
              cases q : comp T N n fb sc e with
              | none => rw [q] at h2; cases h2
              | some ce => rw [q] at h2; cases h2; exact so_some (I.xe X fb sc e ce S q)
          have ph : PO X hi (tO g D ch) := by
            cases hi with
            | none => cases h3; exact so_none
            | some e =>
              dsimp only at h3
              cases q : comp T N n fb sc e with
              | none => rw [q] at h3; cases h3
              | some ce => rw [q] at h3; cases h3; exact so_some (I.xe X fb sc e ce S q)
          exact s_sl S.hK (I.xe X fb sc _ ca S h1) pl ph
        · cases h
      · split at h
        · cases q : comp T N n fb sc a with
          | none => rw [q] at h; cases h
          | some ca => rw [q] at h; cases h; exact s_rev1 S.hK (I.xe X fb sc a ca S q)
        · cases h
      · cases h
    · rename_i hnot
      split at h
      · rename_i ca cb hn h1 h2
        cases h
        exact s_ix S.hK (by have := S.hu; omega) hn (plainIx fun lo hi st q z => by subst z; cases hn) (I.xe X fb sc _ ca S h1) (I.xe X fb sc _ cb S h2)
      · cases h
  | Attribute e f p =>
    simp only [comp] at h
    split at h
    · rename_i v hv
      unfold excArg at hv
      split at hv
      · split at hv
        · split at hv
          · rename_i hc
            cases hv
            simp only [Bool.and_eq_true, Bool.not_eq_true', beq_iff_eq] at hc
            obtain ⟨c1, c2, rfl, c4⟩ := hc
            obtain ⟨C, fI, b, hm, Z⟩ := S.exs _ _ c4
            exact s_echo (k := k) Z (S.disp.room.mono (by omega)) (S.gl c1) hm c2 (I.xe X fb sc _ c S h)
          · cases hv
        · cases hv
      · cases hv
    split at h
    · rename_i h0
      cases q : comp T N n fb sc e with
      | none => rw [q] at h; cases h
      | some ca => rw [q] at h; cases h; exact s_attr S.disp h0 (I.xe X fb sc e ca S q)
    · cases h
  | Dict ks vs p =>
    simp only [comp] at h
    split at h
    · split at h
      · cases h; exact s_dnew
      · cases h
    · rename_i k0 ks
      split at h
      · rename_i ss ces h1 h2
        split at h
        · rename_i hq
          cases h
          rw [Bool.and_eq_true, Bool.and_eq_true, Bool.and_eq_true] at hq
          obtain ⟨q1, q2, q3, q4⟩ := hq
          exact s_disp (I.xd X fb sc vs ces S h2 q1) h1 (of_decide_eq_true q3) (of_decide_eq_true q2) (by simp) (of_decide_eq_true q4)
        · cases h
      · cases h
  | JoinedStr es p =>
    simp only [comp] at h
    split at h
    · rename_i hq
      rw [Bool.and_eq_true] at hq
      cases q : compEs T N n fb sc (es.map partIn) with
      | none => rw [q] at h; cases h
      | some ces =>
        rw [q] at h
        exact s_joined S.fmtOk hq.1 (I.xd X fb sc _ ces S q hq.2) h
    · cases h
  | DictComp kx vx gs scope p =>
    simp only [comp] at h
    split at h
    · rename_i tg iter ifs
      split at h
      · rename_i cg ci ct ce own ck h1 h2
        cases h
        obtain ⟨cg, ci, ct, ce, e1, ok, hown, hi, hs, hg, ht, he⟩ := I.xlc X fb sc vx tg iter ifs scope _ S h1
        cases e1
        exact s_dc S.calm S.nd hi ok hown hg ht (fun s H C cl fp => I.xe _ _ _ kx ck (S.blk ok.kind s H C cl fp) h2) he hs
      · cases h
    · cases h
  | Call f as ks p => exact snd_call I S h
  | _ => simp only [comp] at h; cases h
theorem snd_bool (I : SAll T N g D k n) (S : SX T N g D k X fb sc) {op : BoolOp} {vs : List Expr} {p : Pos} {c : CT} (h : compT T N (n + 1) fb sc (.BoolOp op vs p) = some c) (J : ∀ vs c, compT T N n fb sc (.BoolOp op vs p) = some c → PW X (.BoolOp op vs p) (tT g D c)) : PW X (.BoolOp op vs p) (tT g D c) := by
  simp only [compT] at h
  split at h
  · cases op with
    | And => exact pw_and1 (I.xt X fb sc _ c S h)
    | Or => exact pw_or1 (I.xt X fb sc _ c S h)
  · split at h
    · rename_i ca cb h1 h2
      cases op with
      | And => cases h; exact sw_and (I.xt X fb sc _ ca S h1) (J _ cb h2)
      | Or => cases h; exact sw_or (I.xt X fb sc _ ca S h1) (J _ cb h2)
    · cases h
  · cases h
theorem snd_el (I : SAll T N g D k n) (S : SX T N g D k X fb sc) {e : List Expr} {c : CEs} (h : compEs T N (n + 1) fb sc e = some c) (hs : e.all nstar = true) : PEl X g D e c := by
  cases e with
  | nil => cases h; exact .nil
  | cons a r =>
    rw [List.all_cons, Bool.and_eq_true] at hs
    simp only [compEs] at h
    rw [hs.1] at h
    dsimp only at h
    split at h
    · rename_i ca cr h1 h2
      cases h
      exact .cons (I.xe X fb sc a ca S h1) (I.xd X fb sc r cr S h2 hs.2)
    · cases h
theorem snd_es (I : SAll T N g D k n) (S : SX T N g D k X fb sc) {e : List Expr} {c : CEs} (h : compEs T N (n + 1) fb sc e = some c) : PA X e (tA g D c) ∧ c.cnt = e.length ∧ (e.all nstar = true → c.plain = true) := by
  cases e with
  | nil => cases h; exact ⟨sa_nil, rfl, fun _ => rfl⟩
  | cons a r =>
    simp only [compEs] at h
    split at h
    · rename_i hs
      split at h
      · rename_i ca cr h1 h2
        cases h
        obtain ⟨p1, p2, p3⟩ := I.xs X fb sc r cr S h2
        exact ⟨sa_cons' hs (I.xe X fb sc a ca S h1) p1, by rw [CEs.cnt, p2]; rfl, fun hq => p3 (by rw [List.all_cons, Bool.and_eq_true] at hq; exact hq.2)⟩
      · cases h
    · rename_i hs
      split at h
      · rename_i b bp
        split at h
        · rename_i ca cr h1 h2
          cases h
          obtain ⟨p1, p2, p3⟩ := I.xs X fb sc r cr S h2
          exact ⟨sa_star S.hK (I.xe X fb sc b ca S h1) p1, by rw [CEs.cnt, p2]; rfl, fun hq => by rw [List.all_cons, Bool.and_eq_true] at hq; cases hq.1⟩
        · cases h
      · cases h
theorem snd_k (I : SAll T N g D k n) (S : SX T N g D k X fb sc) : ∀ {kws : List Keyword} {c : CEs}, (kwVals kws).all nstar = true → compEs T N (n + 1) fb sc (kwVals kws) = some c → PK X kws (tA g D c)
  | [], c, _, h => by cases h; exact sk_nil
  | ⟨nm, e, p⟩ :: r, c, hs, h => by
    simp only [kwVals, List.all_cons, Bool.and_eq_true] at hs
    simp only [kwVals, compEs] at h
    rw [hs.1] at h
    dsimp only at h
    split at h
    · rename_i ca cr h1 h2
      cases h
      exact sk_cons (I.xe X fb sc e ca S h1) (I.xk X fb sc r cr S hs.2 h2)
    · cases h
theorem snd_i (I : SAll T N g D k n) (S : SX T N g D k X fb sc) {e : Expr} {c : CI} {tg : Expr} (h : compI T N (n + 1) fb sc tg e = some c) : PI X tg e (tI g D c) ∧ ∀ x, foldedSetIterable e X.env x = pure x := by
  have sq : ∀ e', (∀ a b c, e' ≠ .Set a b c) → (comp T N n fb sc e').map CI.seq = some c → PI X tg e' (tI g D c) ∧ ∀ x, foldedSetIterable e' X.env x = pure x := fun e' hn h' => by
    cases q : comp T N n fb sc e' with
    | none => rw [q] at h'; cases h'
    | some ca => rw [q] at h'; cases h'; exact ⟨si_seq S.hK (I.xe X fb sc e' ca S q), folded_of hn⟩
  cases e with
  | Set a b p => simp only [compI] at h; cases h
  | Call f as ks p =>
    simp only [compI] at h
    generalize hk : itKind sc tg f as ks = K at h
    unfold itKind at hk
    split at hk
    · rename_i x q
      split at hk
      · rename_i a
        split at hk
        · split at hk
          · rename_i hq
            rw [Bool.and_eq_true] at hq
            obtain ⟨h2, h3⟩ := hq
            split at hk
            · rename_i e1
              subst e1 hk
              dsimp only at h
              cases q2 : comp T N n fb sc a with
              | none => rw [q2] at h; cases h
              | some ca => rw [q2] at h; cases h; exact ⟨si_range S h2 h3 (I.xe X fb sc a ca S q2), folded_of fun _ _ _ z => by cases z⟩
            split at hk
            · rename_i e1
              subst e1 hk
              dsimp only at h
              cases q2 : comp T N n fb sc a with
              | none => rw [q2] at h; cases h
              | some ca => rw [q2] at h; cases h; exact ⟨si_rev S.hK (S.gl h2) (S.free _ (by simp)) h3 (I.xe X fb sc a ca S q2), folded_of fun _ _ _ z => by cases z⟩
            split at hk
            · rename_i e1
              obtain ⟨e1, ht⟩ := e1
              subst e1 hk
              dsimp only at h
              cases q2 : comp T N n fb sc a with
              | none => rw [q2] at h; cases h
              | some ca =>
                rw [q2] at h
                cases h
                cases tg <;> first | (cases ht; done) | skip
                exact ⟨si_enum S.hK (S.gl h2) (S.free _ (by simp)) h3 (I.xe X fb sc a ca S q2), folded_of fun _ _ _ z => by cases z⟩
            · subst hk; exact sq _ (fun _ _ _ z => by cases z) h
          · subst hk; exact sq _ (fun _ _ _ z => by cases z) h
        · subst hk; exact sq _ (fun _ _ _ z => by cases z) h
      · rename_i a b
        split at hk
        · split at hk
          · rename_i hq
            rw [Bool.and_eq_true, Bool.and_eq_true] at hq
            obtain ⟨h2, h3, h4⟩ := hq
            split at hk
            · rename_i e1
              obtain ⟨e1, ht⟩ := e1
              subst e1 hk
              dsimp only at h
              split at h
              · rename_i ca cb q1 q2
                cases h
                cases tg <;> first | (cases ht; done) | skip
                exact ⟨si_zip S.hK (S.gl h2) (S.free _ (by simp)) h3 h4 (I.xe X fb sc a ca S q1) (I.xe X fb sc b cb S q2), folded_of fun _ _ _ z => by cases z⟩
              · cases h
            · subst hk; exact sq _ (fun _ _ _ z => by cases z) h
          · subst hk; exact sq _ (fun _ _ _ z => by cases z) h
        · subst hk; exact sq _ (fun _ _ _ z => by cases z) h
      · subst hk; exact sq _ (fun _ _ _ z => by cases z) h
    · subst hk; exact sq _ (fun _ _ _ z => by cases z) h
  | _ => exact sq _ (fun _ _ _ z => by cases z) h
theorem snd_g (I : SAll T N g D k n) (S : SX T N g D k X fb sc) {e : Expr} {c : CG} (h : compG T N (n + 1) fb sc e = some c) : PG X e (tG g c) := by
  cases e with
  | Name x p =>
    simp only [compG] at h
    split at h
    · rename_i hq
      cases q : idx N x with
      | none => rw [q] at h; cases h
      | some i =>
        rw [q] at h
        cases h
        have hx : Loc X.env.scope x ∧ (X.fn x = true ∨ X.env.scope.names.lookup x = some .local) := by
          rw [S.hsc, S.fn]
          split at hq
          · rename_i z
            exact ⟨.inl z, .inr z⟩
          · rename_i z
            exact ⟨.inr z, .inl hq⟩
          · cases hq
        exact sg_name S.nd (by rw [S.hN]; exact idx_of q) hx.1 hx.2
    · cases h
  | Tuple es i p =>
    simp only [compG] at h
    split at h
    · rename_i hs
      cases q : compGs T N n fb sc es with
      | none => rw [q] at h; cases h
      | some cg =>
        rw [q] at h
        cases h
        obtain ⟨p1, p2⟩ := I.xgs X fb sc es cg S hs q
        obtain ⟨a1, a2⟩ := assignEach_all (env := X.env) hs
        exact sg_tup S.calm S.hK p1 (fun p m env env' hq => by rw [setGs_len hq, p2]) a1 a2
    · cases h
  | _ => simp only [compG] at h; cases h
theorem snd_gs (I : SAll T N g D k n) (S : SX T N g D k X fb sc) {e : List Expr} {c : CGs} (hs : e.all nstar = true) (h : compGs T N (n + 1) fb sc e = some c) : PGs X e (tGs g c) ∧ c.len = e.length := by
  cases e with
  | nil => cases h; exact ⟨sgs_nil, rfl⟩
  | cons a r =>
    simp only [compGs] at h
    rw [List.all_cons, Bool.and_eq_true] at hs
    split at h
    · rename_i ca cr h1 h2
      cases h
      obtain ⟨p1, p2⟩ := I.xgs X fb sc r cr S hs.2 h2
      exact ⟨sgs_cons (I.xg X fb sc a ca S h1) p1 (by rw [assignEach_cons hs.1]; rfl), by rw [CGs.len, p2]; rfl⟩
    · cases h
theorem snd_lc (I : SAll T N g D k n) (S : SX T N g D k X fb sc) {elt tg iter : Expr} {ifs : List Expr} {scope : Scope} {c : CF} (h : compLc T N (n + 1) fb sc elt tg iter ifs scope = some c) : ∃ cg ci ct ce, c = .lc cg ci ct ce ((ownOf N scope).map (·.2)) ∧ BlkOk X.N X.env.scope scope (ownOf N scope) ∧ (∀ i ∈ gSlots cg, i ∈ (ownOf N scope).map (·.2)) ∧
    PI X tg iter (tI g D ci) ∧ (∀ x, foldedSetIterable iter X.env x = pure x) ∧ (∀ (s : Shared) (H : Hp) (C : Addr) (cl : List (Str × Addr)) (fp : List Addr), PG (X.blk s H scope (compEnvC scope cl C X.env) fp) tg (tG g cg)) ∧
    (∀ (s : Shared) (H : Hp) (C : Addr) (cl : List (Str × Addr)) (fp : List Addr), PTs (X.blk s H scope (compEnvC scope cl C X.env) fp) ifs (tT g D ct)) ∧ (∀ (s : Shared) (H : Hp) (C : Addr) (cl : List (Str × Addr)) (fp : List Addr), PE (X.blk s H scope (compEnvC scope cl C X.env) fp) elt (tE g D ce)) := by
  simp only [compLc] at h
  split at h
  · rename_i hb
    have ok := blkOk_by hb
    split at h
    · rename_i ci cg ce ct h1 h2 h3 h4
      split at h
      · rename_i hown
        cases h
        obtain ⟨p1, p2⟩ := I.xi X fb sc iter ci tg S h1
        refine ⟨cg, ci, ct, ce, rfl, by rw [S.hN, S.hsc]; exact ok, fun i hi => ?_, p1, p2, fun s H C cl fp => ?_, fun s H C cl fp => ?_, fun s H C cl fp => ?_⟩
        · have := List.all_eq_true.mp hown i hi
          simpa using this
        · exact I.xg _ _ _ tg cg (S.blk ok.kind s H C cl fp) h2
        · split at h4
          · cases h4; exact sts_nil
          · exact pts_one (I.xt _ _ _ _ ct (S.blk ok.kind s H C cl fp) h4)
          · cases h4
        · exact I.xe _ _ _ elt ce (S.blk ok.kind s H C cl fp) h3
      · cases h
    · cases h
  · cases h
end
theorem snd_w : ∀ (n : Nat), (∀ m, m ≤ n → SAll T N g D k m) → ∀ (X : Cx) fb sc (op : BoolOp) (vs : List Expr) (p : Pos) c, SX T N g D k X fb sc → compT T N (n + 1) fb sc (.BoolOp op vs p) = some c → PW X (.BoolOp op vs p) (tT g D c)
  | 0, I, X, fb, sc, op, vs, p, c, S, h => snd_bool (I 0 (Nat.le_refl _)) S h fun vs c h => by cases h
  | n + 1, I, X, fb, sc, op, vs, p, c, S, h => snd_bool (I (n + 1) (Nat.le_refl _)) S h fun vs c h => snd_w n (fun m hm => I m (Nat.le_succ_of_le hm)) X fb sc op vs p c S h
theorem snd_t {n : Nat} (I : ∀ m, m ≤ n → SAll T N g D k m) (S : SX T N g D k X fb sc) {e : Expr} {c : CT} (h : compT T N (n + 1) fb sc e = some c) : PT X e (tT g D c) := by
  have dflt : plainTest e = true → (comp T N n fb sc e).map CT.val = some c → PT X e (tT g D c) := fun hp h' => by
    cases q : comp T N n fb sc e with
    | none => rw [q] at h'; cases h'
    | some ca => rw [q] at h'; cases h'; exact st_val ((I n (Nat.le_refl _)).xe X fb sc e ca S q) (isTrue_plain' hp)
  cases e with
  | UnaryOp op a p =>
    cases op with
    | Not =>
      simp only [compT] at h
      cases q : compT T N n fb sc a with
      | none => rw [q] at h; cases h
      | some ca => rw [q] at h; cases h; exact st_not ((I n (Nat.le_refl _)).xt X fb sc a ca S q)
    | _ => exact dflt rfl h
  | BoolOp op vs p => exact (snd_w n I X fb sc op vs p c S h).pt
  | Compare a ops cs p =>
    simp only [compT] at h
    cases n with
    | zero => cases h
    | succ n =>
      have J := I n (Nat.le_succ n)
      cases q : comp T N (n + 1) fb sc (.Compare a ops cs p) with
      | none => rw [q] at h; cases h
      | some ca =>
        rw [q] at h
        cases h
        simp only [comp] at q
        split at q
        · split at q
          · cases q
          · rename_i hm
            split at q
            · rename_i o ca cb h1 h2 h3
              cases q
              exact st_cmp (S.cmp S.hu h1) hm (J.xe X fb sc _ ca S h2) (J.xe X fb sc _ cb S h3)
            · cases q
        · split at q
          · cases q
          · rename_i hm
            split at q
            · rename_i o o' ca cb cc h1 h2 h3 h4 h5
              cases q
              exact st_chain (ops_of S.hu S.hK h1) (ops_of S.hu S.hK h2) hm (J.xe X fb sc _ ca S h3) (J.xe X fb sc _ cb S h4) (J.xe X fb sc _ cc S h5)
            · cases q
        · cases q
  | IfExp t a b p => simp only [compT, plainTest] at h; cases h
  | _ => exact dflt rfl h
theorem snd_upto : ∀ n, ∀ m, m ≤ n → SAll T N g D k m
  | 0, m, h => by
    have e : m = 0 := by omega
    subst e
    exact snd_zero
  | n + 1, m, h => by
    by_cases e : m = n + 1
    · subst e
      have I := snd_upto n
      have J := I n (Nat.le_refl _)
      exact ⟨fun X fb sc e c S h => snd_e J S h, fun X fb sc e c S h => snd_t I S h, fun X fb sc kws c S hs h => snd_k J S hs h, fun X fb sc e c S h hs => snd_el J S h hs, fun X fb sc e c S h => snd_es J S h, fun X fb sc e c tg S h => snd_i J S h, fun X fb sc e c S h => snd_g J S h, fun X fb sc e c S hs h => snd_gs J S hs h, fun X fb sc elt tg iter ifs scope c S h => snd_lc J S h⟩
    · exact snd_upto n m (by omega)
theorem snd_all (n : Nat) : SAll T N g D k n := snd_upto n n (Nat.le_refl _)
end
end Co

end P_CoreSound
section P_CoreSoundS
set_option Elab.async false
set_option linter.all false
set_option maxRecDepth 100000
set_option maxHeartbeats 4000000
/-! CoreSoundS: statements. -/
namespace Co
open PySem PySem.Spec PyProof.Rows L2
section
variable {T : Tbl} {N : List Str} {g : G} {D : Cl} {k : Nat} {X : Cx} {fb : Str → Bool} {sc : Scope} {wn : Nat}
theorem SX.passes (S : SX T N g D k X fb sc) : PassesOwn (model X.prog X.w) X.A X.env X.xe := by
  rw [S.xe]
  exact PassesOwn.never
theorem swaps_no {e : Expr} {t : Option Expr} {l : Nat} {env : PySem.Env} (h : notComp e = true) : swapsWith e t l env = pure false := by
  cases e <;> first | rfl | cases h
theorem swaps_cell {e : Expr} {y : Str} {py : Pos} {l : Nat} {env : PySem.Env} (h : env.scope.names.lookup y = some .cell) : swapsWith e (some (.Name y py)) l env = pure false := by
  have k : env.kindOf y = some .cell := h
  have d : (some NameKind.cell == some NameKind.local) = false := by decide
  cases e <;> first | rfl | (simp only [swapsWith, k, d, Bool.and_false, Bool.false_and]; done) | (simp only [swapsWith, k, d, Bool.and_false, Bool.false_and]; rfl)
theorem swaps_plain {e : Expr} {y : Str} {py : Pos} {l : Nat} {env : PySem.Env} {sc : Scope} (hs : env.scope = sc) (h : plainSet sc y e = true) : swapsWith e (some (.Name y py)) l env = pure false := by
  unfold plainSet at h
  rw [Bool.or_eq_true] at h
  rcases h with h | h
  · exact swaps_no h
  · exact swaps_cell (by rw [hs]; exact beq_iff_eq.mp h)
theorem block_kind {env : PySem.Env} (h : env.scope.kind = .function) : env.blockKind = .function := by
  unfold PySem.Env.blockKind
  rw [h]
  rfl
theorem par_swapped {x y : Str} {px py pt pt2 : Pos} {k k2 : Nat} {a b : Expr} {env : PySem.Env} (hk : env.scope.kind = .function) (hx : env.scope.names.lookup x = some .local) (hy : env.scope.names.lookup y = some .local) (hl : (py.line == px.line) = true) (hxy : (x == y) = false)
    (ha : nstar a = true) (hb : nstar b = true) (h1 : [a, b].all (foldedForSure 8) = false) (h2 : [a, b].all (constantsAlone 8) = false) :
    swappedStores [.Tuple [.Name x px, .Name y py] k pt] (.Tuple [a, b] k2 pt2) env = pure (some [x, y]) := by
  have kx : env.kindOf x = some .local := hx
  have ky : env.kindOf y = some .local := hy
  have e1 : ([a, b].any fun | .Starred .. => true | _ => false) = false := by
    cases a <;> first | (cases ha; done) | (cases b <;> first | (cases hb; done) | rfl)
  have e2 : ([(.Name x px : Expr), .Name y py].filterMap fun
    | .Name id pos => if (env.kindOf id == some .local && pos.line == ((([(.Name x px : Expr), .Name y py].head?.map (·.pos.line))).getD 0)) = true then some id else none
    | _ => none) = [x, y] := by
    simp only [List.filterMap_cons, List.filterMap_nil, kx, ky, List.head?_cons, Option.map_some, Option.getD_some, Expr.pos, hl, beq_self_eq_true, Bool.and_self, if_true]
  have e3 : [x, y].eraseDups.length = 2 := by
    have : (y == x) = false := by
      rw [beq_eq_false_iff_ne] at hxy ⊢
      exact fun e => hxy e.symm
    simp [List.eraseDups_cons, List.filter, this]
  have hbk := block_kind hk
  unfold swappedStores
  dsimp only
  rw [if_neg (by rw [hbk]; simp), if_neg (by intro z; exact Bool.false_ne_true (e1.symm.trans z))]
  simp only [List.filterMap_cons, List.filterMap_nil, kx, ky, List.head?_cons, Option.map_some, Option.getD_some, Expr.pos, hl, beq_self_eq_true, Bool.and_self, if_true]
  rw [if_neg (by rw [e3]; simp), if_neg (by rw [h1]; decide), if_neg (by rw [h2]; decide)]
structure SAllS (T : Tbl) (N : List Str) (g : G) (D : Cl) (k wn : Nat) (n : Nat) : Prop where
  xs : ∀ (X : Cx) fb sc (s : Stmt) c, SX T N g D k X fb sc → compS T N n fb sc s = some c → PS X s (tS g D wn c)
  xss : ∀ (X : Cx) fb sc (s : List Stmt) c, SX T N g D k X fb sc → compSs T N n fb sc s = some c → PSs X s (tSs g D wn c)
theorem snd_set (S : SX T N g D k X fb sc) {n : Nat} {y : Str} {py pos : Pos} {e : Expr} {cg : CG} {ce : CE} (hn : plainSet sc y e = true) (h1 : compG T N n fb sc (.Name y py) = some cg) (h2 : comp T N n fb sc e = some ce) : PS X (.Assign [.Name y py] e pos) (tS g D wn (.asg cg ce)) := by
  have he := (snd_all (T := T) (N := N) (g := g) (D := D) (k := k) n).xe X fb sc e ce S h2
  have hg := (snd_all (T := T) (N := N) (g := g) (D := D) (k := k) n).xg X fb sc _ cg S h1
  cases n with
  | zero => cases h1
  | succ n =>
    simp only [compG] at h1
    split at h1
    · rename_i hq
      cases q : idx N y with
      | none => rw [q] at h1; cases h1
      | some i =>
        rw [q] at h1
        cases h1
        have hx : Loc X.env.scope y ∧ (X.fn y = true ∨ X.env.scope.names.lookup y = some .local) := by
          rw [S.hsc, S.fn]
          split at hq
          · rename_i z
            exact ⟨.inl z, .inr z⟩
          · rename_i z
            exact ⟨.inr z, .inl hq⟩
          · cases hq
        exact s_set S.nd (by rw [S.hN]; exact idx_of q) hx.1 hx.2 he (swaps_plain S.hsc hn)
    · cases h1
theorem snd_tupset (S : SX T N g D k X fb sc) {n : Nat} {tg e : Expr} {pos : Pos} {cg : CG} {ce : CE} (ht : isTupE tg = true) (hn : isTupE e = false) (h1 : compG T N n fb sc tg = some cg) (h2 : comp T N n fb sc e = some ce) : PS X (.Assign [tg] e pos) (tS g D wn (.asg cg ce)) := by
  have he := (snd_all (T := T) (N := N) (g := g) (D := D) (k := k) n).xe X fb sc e ce S h2
  have hg := (snd_all (T := T) (N := N) (g := g) (D := D) (k := k) n).xg X fb sc _ cg S h1
  cases tg <;> first | (cases ht; done) | skip
  refine s_asg he hg ?_ ?_ rfl
  · cases e <;> rfl
  · cases e <;> first | (cases hn; done) | rfl
/-- a try whose body raises nothing (what raises is stuck) -/
theorem s_try {n : Nat} {body : List Stmt} {cb : CSs} {h₀ : ExceptHandler} {hs : List ExceptHandler} {pos : Pos} (hx : X.xe = fun _ _ => False) (hb : PSs X body (tSs g D n cb)) : PS X (.Try body (h₀ :: hs) [] [] pos) (tS g D n (.iff .tt cb .nil)) :=
  PS.conv (ps_try_never (fun e s h => by rw [hx] at h; exact h) hb pss_nil) fun Dn σ H h => by
    obtain ⟨F, mu, env, m, hE, hM, hw⟩ := h
    exact ⟨F, mu, env, m, hE, hM, hw⟩
theorem snd_s {n : Nat} (J : SAllS T N g D k wn n) (S : SX T N g D k X fb sc) {s : Stmt} {c : CS} (h : compS T N (n + 1) fb sc s = some c) : PS X s (tS g D wn c) := by
  have I := snd_all (T := T) (N := N) (g := g) (D := D) (k := k) n
  cases s with
  | Assign ts e pos =>
    simp only [compS] at h
    split at h
    · rename_i tg
      split at h
      · rename_i y py
        split at h
        · rename_i elt gs scope p
          split at h
          · rename_i hsw
            split at h
            · rename_i tg iter ifs i hi
              cases q : compLc T N n fb sc elt tg iter ifs scope with
              | none => rw [q] at h; cases h
              | some cf =>
                rw [q] at h
                cases h
                obtain ⟨cg, ci, ct, ce, rfl, ok, hown, hit, hs, hg, ht, he⟩ := I.xlc X fb sc elt tg iter ifs scope cf S q
                unfold lcSwap at hsw
                rw [Bool.and_eq_true, Bool.and_eq_true] at hsw
                obtain ⟨w1, w2, w3⟩ := hsw
                have w4 : X.env.scope.names.lookup y = some .local := by rw [S.hsc]; exact beq_iff_eq.mp w1
                have w5 : (scope.names.any fun (n, k) => n == y && (k == .local || k == .cell)) = false := by rw [← Bool.not_eq_true']; exact w3
                have := s_setLc (g := g) (D := D) (n := wn) (w := T.isCell p) S.calm S.nd (by rw [S.hN]; exact idx_of hi) w4 (sw_true (by rw [S.hsc]; exact S.kind) w4 w2 w5) hit ok hown hg ht he hs (spos := pos)
                exact this
            · cases h
          · split at h
            · rename_i hn h1 h2
              cases h
              exact snd_set S hn h1 h2
            · cases h
        · split at h
          · rename_i hn h1 h2
            cases h
            exact snd_set S hn h1 h2
          · cases h
      · split at h
        · rename_i ca cb ce hns h1 h2 h3
          cases h
          exact s_setix hns (by have := S.hu; omega) (I.xe X fb sc _ ca S h1) (I.xe X fb sc _ cb S h2) (I.xe X fb sc _ ce S h3)
        · cases h
      · split at h
        · rename_i ca ce h1 h2
          cases h
          exact s_setf S.disp (I.xe X fb sc _ ca S h1) (I.xe X fb sc _ ce S h2)
        · cases h
      · split at h
        · rename_i hq
          rw [Bool.and_eq_true] at hq
          split at h
          · rename_i i j es hp
            cases q : compEs T N n fb sc es with
            | none => rw [q] at h; cases h
            | some ces =>
              rw [q] at h
              cases h
              obtain ⟨pa, _, _⟩ := I.xs X fb sc es ces S q
              unfold isPar at hp
              split at hp
              · split at hp
                · rename_i x px y py kt pt a b k2 pt2 _ _ _ _ hc
                  simp only [Bool.and_eq_true, beq_iff_eq] at hc
                  obtain ⟨c1, c2, c3, c4, c5, c6, c7⟩ := hc
                  split at hp
                  · rename_i i' j' hi hj
                    split at hp
                    · cases hp
                    · rename_i hij
                      cases hp
                      have k1 : X.env.scope.names.lookup x = some .local := by rw [S.hsc]; exact c1
                      have k2 : X.env.scope.names.lookup y = some .local := by rw [S.hsc]; exact c2
                      have c4' : (x == y) = false := by rw [← Bool.not_eq_true']; exact c4
                      have c7' : ([a, b].all (foldedForSure 8) || [a, b].all (constantsAlone 8)) = false := by rw [← Bool.not_eq_true']; exact c7
                      rw [Bool.or_eq_false_iff] at c7'
                      exact s_par S.calm S.nd (by rw [S.hN]; exact idx_of hi) (by rw [S.hN]; exact idx_of hj) hij k1 k2 pa (par_swapped (by rw [S.hsc]; exact S.kind) k1 k2 (by rw [c3]; exact beq_self_eq_true _) c4' c5 c6 c7'.1 c7'.2) rfl
                  · cases hp
                · cases hp
              · cases hp
          · cases h
        · rename_i hq
          split at h
          · rename_i ht h1 h2
            cases h
            refine snd_tupset S ht ?_ h1 h2
            rw [ht, Bool.true_and] at hq
            exact hq
          · cases h
    · cases h
  | Expr e pos =>
    simp only [compS] at h
    split at h
    · rename_i hn
      cases q : comp T N n fb sc e with
      | none => rw [q] at h; cases h
      | some ce => rw [q] at h; cases h; exact s_ex (I.xe X fb sc e ce S q) (swaps_no hn)
    · cases h
  | Return e pos =>
    simp only [compS] at h
    split at h
    · rename_i e
      cases q : comp T N n fb sc e with
      | none => rw [q] at h; cases h
      | some ce => rw [q] at h; cases h; exact s_ret (I.xe X fb sc e ce S q)
    · cases h
  | If t a b pos =>
    simp only [compS] at h
    split at h
    · rename_i ct ca cb h1 h2 h3
      cases h
      exact s_iff (I.xt X fb sc t ct S h1) (J.xss X fb sc a ca S h2) (J.xss X fb sc b cb S h3)
    · cases h
  | Try b hs o f pos =>
    simp only [compS] at h
    split at h
    · cases q : compSs T N n fb sc b with
      | none => rw [q] at h; cases h
      | some cb =>
        rw [q] at h
        cases h
        exact s_try S.xe (J.xss X fb sc b cb S q)
    · cases h
  | While t b o pos =>
    simp only [compS] at h
    split at h
    · split at h
      · rename_i ct cb h1 h2
        cases h
        exact s_whil S.passes (I.xt X fb sc t ct S h1) (J.xss X fb sc b cb S h2)
      · cases h
    · cases h
  | For tg it b o pos =>
    simp only [compS] at h
    split at h
    · split at h
      · rename_i cg ci cb h1 h2 h3
        cases h
        obtain ⟨p1, p2⟩ := I.xi X fb sc it ci tg S h2
        exact s_for S.passes S.calm p1 (I.xg X fb sc tg cg S h1) (J.xss X fb sc b cb S h3) p2
      · cases h
    · cases h
  | Pass pos => simp only [compS] at h; cases h; exact s_pass
  | Break pos => simp only [compS] at h; cases h; exact s_brk
  | Continue pos => simp only [compS] at h; cases h; exact s_cont
  | Raise e c pos => simp only [compS] at h; cases h; exact s_bad
  | _ => simp only [compS] at h; cases h
theorem snd_ss {n : Nat} (J : SAllS T N g D k wn n) (S : SX T N g D k X fb sc) {s : List Stmt} {c : CSs} (h : compSs T N (n + 1) fb sc s = some c) : PSs X s (tSs g D wn c) := by
  cases s with
  | nil => simp only [compSs] at h; cases h; exact ss_nil
  | cons s r =>
    simp only [compSs] at h
    split at h
    · rename_i c2 h2
      cases h
      refine ss_cons ?_ (J.xss X fb sc r c2 S h2)
      cases h1 : compS T N n fb sc s with
      | some c1 => exact J.xs X fb sc s c1 S h1
      | none => exact s_bad
    · cases h
theorem snd_stmts : ∀ n, SAllS T N g D k wn n
  | 0 => ⟨fun X fb sc s c S h => (by cases h), fun X fb sc s c S h => (by cases h)⟩
  | n + 1 => ⟨fun X fb sc s c S h => snd_s (snd_stmts n) S h, fun X fb sc s c S h => snd_ss (snd_stmts n) S h⟩
end
end Co

end P_CoreSoundS
section P_CoreTab
set_option Elab.async false
set_option linter.all false
set_option maxRecDepth 100000
set_option maxHeartbeats 2000000
/-! CoreTab: all defs at once, by the depth of calls. -/
namespace Co
open PySem PySem.Spec PyProof.Rows L2
/-- a def's function: where it stands, its data, its parameters -/
structure FnE where
  fa : Addr
  fd : FuncData
  ps : List Str
/-- what the program's head tells -/
structure Facts (P : Program) (w : World) (mg : Str → Option Value) (g : G) (T : Tbl) (TB : Tab) (F : Nat → Option FnE) : Prop where
  cls : ClsG g TB.nC
  fld : ∀ c f, c < TB.nC → TB.att c f = some none → NoAttr g.K (g.CA c) f
  prop : ∀ c f fn, c < TB.nC → TB.att c f = some (some fn) → ∃ p e, F fn = some e ∧ e.ps.length = 1 ∧ PropOf g.K (g.CA c) f p e.fa ∧ Binds g.K e.fd e.ps []
  met : ∀ c m fn, c < TB.nC → TB.met c m = some fn → ∃ e, F fn = some e ∧ Meth g.K (g.CA c) m e.fa ∧ ∀ n ks ar, T.plan fn n ks = some ar → PlanOk g e.fd e.ps n ks ar
  ini : ∀ c fn, c < TB.nC → TB.ini c = some fn → ∃ e, F fn = some e ∧ Mk g.K (g.CA c) e.fa ∧ ∀ n ks ar, T.plan fn n ks = some ar → PlanOk g e.fd e.ps n ks ar
  eqf : ∀ c fn, c < TB.nC → TB.eqf c = some fn → ∃ e, F fn = some e ∧ e.ps.length = 2 ∧ PySem.W.findIn g.K (.ref (g.CA c)) "__eq__" = some (some (.ref e.fa)) ∧ PySem.W.isFn g.K (.ref e.fa) = true ∧ PySem.W.notFirst g.K (g.CA c) (.ref (g.CA c)) = true ∧
    PySem.W.findIn g.K (.ref (g.CA c)) "__ne__" = some (some (.builtin "object.__ne__")) ∧ Binds g.K e.fd e.ps []
  ownN : ∀ c b, b ≠ .str → TB.own c b = none
  ownS : ∀ c fn, c < TB.nC → TB.own c .str = some fn → ∃ e, F fn = some e ∧ e.ps.length = 1 ∧ PySem.W.findIn g.K (.ref (g.CA c)) "__str__" = some (some (.ref e.fa)) ∧ PySem.W.isFn g.K (.ref e.fa) = true ∧ Binds g.K e.fd e.ps []
  ownF : ∀ c fn, c < TB.nC → TB.own c .str = some fn → PySem.W.findIn g.K (.ref (g.CA c)) "__format__" = some (some (.builtin "object.__format__")) ∧ PySem.W.mroIn g.K (g.CA c) (.type "object") = some true
  cst : ∀ x p, T.consts.lookup x = some p → ∃ u v, mg x = some u ∧ RelV v u ∧ ∀ F mu, Rep g.K g.CA F mu p v
  free : ∀ x ∈ (["len", "abs", "int", "str", "all", "any", "range", "sum", "tuple", "sorted", "list", "isinstance", "min", "max", "reversed", "enumerate", "zip", "bool", "dict"] : List Str), mg x = none
  fns : ∀ x f na, T.fns.lookup x = some (f, na) → ∃ e, F f = some e ∧ e.ps.length = na ∧ mg x = some (.ref e.fa) ∧ PySem.W.keepIn g.K (.ref e.fa) = true ∧ Binds g.K e.fd e.ps [] ∧ ∀ n ks ar, T.plan f n ks = some ar → PlanOk g e.fd e.ps n ks ar
  clss : ∀ x c, T.clss.lookup x = some c → c < TB.nC ∧ mg x = some (.ref (g.CA c))
  cms : ∀ c m f, c < TB.nC → T.cm c m = some f → ∃ mc pa e, F f = some e ∧ ClX.CRead g.K (g.CA c) mc ∧ ClX.CMet g.K (g.CA c) mc m pa e.fa ∧ ∀ n ks ar, T.plan f n ks = some ar → PlanOk g e.fd e.ps n ks ar
  exs : ∀ x f, T.exs.lookup x = some f → ∃ C fI b, mg x = some (.ref C) ∧ Ex.ExcD P g.K C fI f b
  defs : ∀ fn e, F fn = some e → ∃ (C : CFn) (x qual : Str) (params : Arguments) (body : List Stmt) (scope : Scope) (dvs : List V) (kws : List (Str × V)) (N : List Str) (fuel : Nat), TB.fn fn = some C ∧ FunD g.K x qual params body scope dvs kws e.fa e.fd ∧ FnScope N e.ps scope ∧ C.nargs = e.ps.length ∧ C.nslots = N.length ∧
    compSs T N fuel (fun _ => true) scope body = some C.body
section
variable {P : Program} {w : World} {mg : Str → Option Value} {base : Heap} {g : G} {T : Tbl} {TB : Tab} {F : Nat → Option FnE} {W : Nat}
theorem tbl_ok (A : Facts P w mg g T TB F) : ∀ (n fn : Nat) (e : FnE), F fn = some e → FnOk P w g.K mg base CX0 (4 * n) e.fa e.fd e.ps (spF g e.ps.length (runFn TB W n fn))
  | 0, fn, e, he => ⟨fun vs H Q E h => h.1, fun B outer s H args us vs Q E _ _ _ _ h => by
      obtain ⟨_, F1, mu, m, xs, _, _, hw⟩ := h
      exact hw.elim⟩
  | n + 1, fn, e, he => by
    have ih := tbl_ok A n
    obtain ⟨C, x, qual, params, body, scope, dvs, kws, N, fuel, hC, hD, hS, h1, h2, h3⟩ := A.defs fn e he
    refine fn_ok (k := 4 * n + 3) (n := W) (D := TB.cl (runFn TB W n)) (cb := C.body) hD hS (fun xs m hx => ?_) fun X p1 p2 p3 p4 p5 p6 p7 p8 p9 p10 hr => ?_
    · simp only [runFn, hC]
      rw [show decide (xs.length = C.nargs) = true from decide_eq_true (by rw [h1]; exact hx), h2]
      rfl
    · have at_ : ∀ fn e, F fn = some e → FnAt X g (TB.cl (runFn TB W n)) (4 * n) fn e.fa e.fd e.ps := fun fn e h => by
        have := ih fn e h
        unfold FnAt
        rw [p1, p2, p3, p4, p5]
        exact this
      have S : SX T N g (TB.cl (runFn TB W n)) (4 * n) X (fun _ => true) scope := by
        refine ⟨p3, p6, by rw [p7]; exact hS.nd, p7, p8, p9, p10, hS.kind, ?_, ?_, ⟨p3, A.cls, hr, ?_, ?_, ?_, ?_, ?_⟩, ?_, ?_, ?_, ?_, A.ownN, ?_, ?_⟩
        · rw [p4]; exact A.cst
        · rw [p4]; exact A.free
        · rw [p3]; exact A.fld
        · intro c f fn hc hf
          obtain ⟨p, e, k1, k2, k3, k4⟩ := A.prop c f fn hc hf
          exact ⟨p, e.fa, e.fd, e.ps, k2, by rw [p3]; exact k3, at_ fn e k1, by rw [p3]; exact k4⟩
        · intro c m fn hc hf
          obtain ⟨e, k1, k2, k3⟩ := A.met c m fn hc hf
          exact ⟨e.fa, e.fd, e.ps, by rw [p3]; exact k2, at_ fn e k1, k3⟩
        · intro c fn hc hf
          obtain ⟨e, k1, k2, k3⟩ := A.ini c fn hc hf
          exact ⟨e.fa, e.fd, e.ps, by rw [p3]; exact k2, at_ fn e k1, k3⟩
        · intro c fn hc hf
          obtain ⟨e, k1, k2, k3, k4, k5, k6, k7⟩ := A.eqf c fn hc hf
          exact ⟨e.fa, e.fd, e.ps, k2, by rw [p3]; exact k3, by rw [p3]; exact k4, by rw [p3]; exact k5, by rw [p3]; exact k6, at_ fn e k1, by rw [p3]; exact k7⟩
        · intro x f na hf
          obtain ⟨e, k1, k2, k3, k4, k5, k6⟩ := A.fns x f na hf
          exact ⟨e.fa, e.fd, e.ps, k2, by rw [p4]; exact k3, by rw [p3]; exact k4, by rw [p3]; exact k5, at_ f e k1, k6⟩
        · rw [p4]; exact A.clss
        · intro c m f hc hf
          obtain ⟨mc, pa, e, k1, k2, k3, k4⟩ := A.cms c m f hc hf
          exact ⟨mc, pa, e.fa, e.fd, e.ps, by rw [p3]; exact k2, by rw [p3]; exact k3, at_ f e k1, k4⟩
        · rw [p1, p3, p4]; exact A.exs
        · intro c fn hc hf
          obtain ⟨e, k1, k2, k3, k4, k5⟩ := A.ownS c fn hc hf
          exact ⟨e.fa, e.fd, e.ps, k2, by rw [p3]; exact k3, by rw [p3]; exact k4, at_ fn e k1, by rw [p3]; exact k5⟩
        · rw [p3]; exact A.ownF
      exact (snd_stmts (wn := W) fuel).xss X _ _ body C.body S h3
/-- what is asked of the law's call -/
def isT (o : Out PV) : Bool := match o with
  | .ok (.bl true) _ => true
  | _ => false
theorem law_sp {n fn : Nat} (h : ∀ ns : List Int, ns.length ≤ 63 → isT (runFn TB W n fn [.scr ns] []) = true) {H : Hp} {a : Addr} {ns : List Int} (hl : ns.length ≤ 63) (hS : SqL g.K H a (ns.map V.int)) {Q : VK} {E : XK} (hQ : ∀ H', Q (.bl true) H') : spF g 1 (runFn TB W n fn) [.ref a] H Q E := by
  have hF : SqL g.K (fun b => if b = a then H a else none) a (ns.map V.int) := by
    rcases hS with (h | ⟨u, h⟩) | h
    · exact .inl (.inl (by show (if a = a then H a else none) = _; rw [if_pos rfl]; exact h))
    · exact .inl (.inr ⟨u, by show (if a = a then H a else none) = _; rw [if_pos rfl]; exact h⟩)
    · exact .inr h
  refine ⟨rfl, fun b => if b = a then H a else none, [], [], [.scr ns], ⟨fun b o hb => ?_, rfl, .nil, fun b hb => absurd hb (by simp), fun n c hc => by simp at hc⟩, ⟨.ref a, [], rfl, ⟨a, rfl, hF, by rw [sizeLine_eq]; omega⟩, rfl⟩, ?_⟩
  · by_cases e : b = a
    · subst e
      have hb : (if b = b then H b else none) = some o := hb
      rw [if_pos rfl] at hb
      exact .inl hb
    · have hb : (if b = a then H a else none) = some o := hb
      rw [if_neg e] at hb
      cases hb
  · have h1 := h ns hl
    unfold isT at h1
    split at h1
    · rename_i m e
      rw [e]
      exact fun F' mu' H' _ _ v hv => by
        rw [show v = .bl true from hv]
        exact hQ H'
    · cases h1
end
end Co

end P_CoreTab
section P_CoreTabs
set_option Elab.async false
set_option linter.all false
set_option maxRecDepth 100000
/-! CoreTabs: the tables as lists. -/
namespace Co
open PySem L2
def attA (l : List (Nat × (Str × Option Nat))) (c : Nat) (f : Str) : Option (Option Nat) := (l.find? fun q => decide (q.1 = c) && decide (q.2.1 = f)).map fun q => q.2.2
def metA (l : List (Nat × (Str × Nat))) (c : Nat) (f : Str) : Option Nat := (l.find? fun q => decide (q.1 = c) && decide (q.2.1 = f)).map fun q => q.2.2
def strA (l : List (Nat × Nat)) (c : Nat) (b : Bi) : Option Nat := match b with
  | .str => l.lookup c
  | _ => none
end Co

end P_CoreTabs
section P_CoreHead
set_option Elab.async false
set_option linter.all false
set_option maxRecDepth 100000
set_option maxHeartbeats 2000000
/-! CoreHead: from what the head shows to the table's facts. -/
namespace Co
open PySem PySem.Spec PyProof.Rows L2
/-! ### an exception class's row -/
structure ExR where
  cls : Str
  a : Str
  b : Ex.Base
  name : Str
  qual : Str
  params : Arguments
  body : List Stmt
  scope : Scope
  file : Str
abbrev FnX : Type := Option (Str × Str × Arguments × FuncBody × Scope × Addr × List Str × Addr)
def fnX (K : PySem.W.Frag) (a : Addr) : FnX := match K.lookup a with
  | some ⟨_, _, .func fd, _⟩ => some (fd.name, fd.qualname, fd.params, fd.body, fd.scope, fd.globals, fd.closure.map (·.1), fd.builtins)
  | _ => none
def ExR.val (r : ExR) : FnX := some (r.name, r.qual, r.params, .stmts r.body, r.scope, mainGlobals, ["__class__"], builtinsNs)
def ExR.at_ (K : PySem.W.Frag) (r : ExR) : Addr := He.ma K (He.ga K r.cls) "__init__"
def ExR.fnP (K : PySem.W.Frag) (r : ExR) : Bool := match K.lookup (r.at_ K) with
  | some ⟨_, _, .func fd, _⟩ => PySem.W.codeIn K fd.code r.qual && ((match fd.defaults with
    | .none => true
    | _ => false) && ((match fd.code with
    | .ref cda => match K.lookup cda with
      | some ⟨_, _, .fields vs, _⟩ => match (vs[2]? : Option Value) with
        | some (.str file _) => decide (file = r.file)
        | _ => false
      | _ => false
    | _ => false) && (match fd.closure with
    | [(_, cc)] => match K.lookup cc with
      | some ⟨_, _, .cell (some (.ref D)), _⟩ => decide (D = He.ga K r.cls)
      | _ => false
    | _ => false)))
  | _ => false
def ExR.ok (K : PySem.W.Frag) (r : ExR) : Bool := He.eqO (PySem.W.nsIn K mainGlobals r.cls) (some (some (.ref (He.ga K r.cls)))) && (He.eqO (PySem.W.findIn K (.ref (He.ga K r.cls)) "__init__") (some (some (.ref (r.at_ K)))) && (PySem.W.excInitIn K (He.ga K r.cls) r.b.bm r.b.newId &&
  (PySem.W.isFn K (.ref (r.at_ K)) && (PySem.W.keepIn K (.ref (He.ga K r.cls)) && (r.fnP K && (He.eqO (PySem.W.ks_superIn K (He.ga K r.cls) (He.ga K r.cls) "__init__") (some (some (.builtin r.b.initId))) &&
  (decide (PySem.W.subIn K (.ref (He.ga K r.cls)) (.type r.b.B) = some true) && (decide (PySem.W.mroIn K (He.ga K r.cls) (.ref (He.ga K r.cls)) = some true) && (He.eqO (PySem.W.nsIn K mainGlobals "super") (some none) &&
  (He.eqO (PySem.W.nsIn K cStatics "thirdparty.any") (some none) && (He.eqO (PySem.W.findIn K (.ref (He.ga K r.cls)) "__setattr__") (some (some (.builtin "object.__setattr__"))) && (PySem.W.excOver K (He.ga K r.cls) r.b.bm &&
  (He.eqO (PySem.W.takerIn K (He.ga K r.cls) r.a) (some none) && (PySem.W.hasDictIn K (He.ga K r.cls) && (He.eqO (PySem.W.findIn K (.ref (He.ga K r.cls)) "__getattribute__") (some (some (.builtin "BaseException.__getattribute__"))) &&
  (He.eqO (PySem.W.findIn K (.ref (He.ga K r.cls)) "__getattr__") (some none) && (decide (PySem.W.subIn K (.ref (He.ga K r.cls)) (.type "BaseException") = some true) && He.eqO (PySem.W.findIn K (.ref (He.ga K r.cls)) r.a) (some none))))))))))))))))))
/-- what is seen of its text -/
structure ExOk (r : ExR) : Prop where
  body : ∃ p0 p1 p2 p3 p4 p5 p6 p7 p8 p9 : Pos, (p2.endLine == p4.line) = true ∧ r.body = Ex.echoBody r.a p0 p1 p2 p3 p4 p5 p6 p7 p8 p9
  sc : Ex.ScopeX r.scope r.a
  par : ∃ ar, (r.params.posonlyargs ++ r.params.args).head? = some ar ∧ ar.arg = "self"
  bd : ∀ (kV doc pm : Value) (an : Option Addr) (cdv ct : Value) (cc : Addr) (x v : Value), bindArgs (PySem.W.ksFn r.name r.qual r.params r.body r.scope .none kV doc pm an cdv ct cc) ⟨[x], [(r.a, v)]⟩ = pure [(("self" : Str), x), (r.a, v)]
  ne : r.a ≠ "self"
  dbg : (r.a == ("__debug__" : Str)) = false
theorem exD_of {P : Program} {K : PySem.W.Frag} {r : ExR} (hf : fnX K (r.at_ K) = r.val) (hok : r.ok K = true) (O : ExOk r) (hfile : (P.main.file == r.file) = true) (htop : (P.main.scope.names.lookup ("super" : Str)).isSome = false) :
    Ex.ExcD P K (He.ga K r.cls) (r.at_ K) r.a r.b := by
  unfold ExR.ok at hok
  simp only [Bool.and_eq_true] at hok
  obtain ⟨k0, k1, k2, k3, k4, k5, k6, k7, k8, k9, k10, k11, k12, k13, k14, k15, k16, k17, k18⟩ := hok
  refine ⟨He.eqO_ok k1, k2, k3, k4, ?_, O.ne, O.dbg, He.eqO_ok k6, of_decide_eq_true k7, of_decide_eq_true k8, He.eqO_ok k9, He.eqO_ok k10, He.eqO_ok k11, k12, He.eqO_ok k13, k14, He.eqO_ok k15, He.eqO_ok k16, of_decide_eq_true k17, He.eqO_ok k18, htop⟩
  unfold ExR.fnP at k5
  unfold fnX ExR.val at hf
  cases q : K.lookup (r.at_ K) with
  | none => rw [q] at k5; cases k5
  | some o =>
    obtain ⟨oc, od, dt, osl⟩ := o
    rw [q] at k5 hf
    cases dt with
    | func fd =>
      obtain ⟨n1, n2, n3, n4, n5, n6, n7, n8, n9, n10, n11, n12, n13, n14, n15⟩ := fd
      dsimp only at hf k5
      simp only [Option.some.injEq, Prod.mk.injEq] at hf
      obtain ⟨h1, h2, h3, h4, h5, h6, h7, h8⟩ := hf
      subst h6 h8
      simp only [Bool.and_eq_true] at k5
      obtain ⟨j1, j2, j3, j4⟩ := k5
      obtain ⟨p0, p1, p2, p3, p4, p5, p6, p7, p8, p9, hl, hb⟩ := O.body
      cases n8 with
      | none =>
        cases n13 with
        | ref cda =>
          dsimp only at j3
          cases q2 : K.lookup cda with
          | none => rw [q2] at j3; cases j3
          | some oo =>
            obtain ⟨c1, c2, c3, c4⟩ := oo
            rw [q2] at j3
            cases c3 with
            | fields vs =>
              dsimp only at j3
              split at j3
              · rename_i file tf hvs
                have j3 := of_decide_eq_true j3
                subst j3
                cases n7 with
                | nil => cases h7
                | cons z zs =>
                  cases zs with
                  | cons _ _ => simp at h7
                  | nil =>
                    obtain ⟨z1, cc⟩ := z
                    have h7 : z1 = "__class__" := by simpa using h7
                    subst h7
                    dsimp only at j4
                    split at j4
                    · rename_i cl cld D csl hcc
                      have j4 := of_decide_eq_true j4
                      subst j4
                      refine ⟨oc, od, osl, r.name, r.qual, r.params, r.scope, .none, n9, n10, n11, n12, cda, n14, cc, p0, p1, p2, p3, p4, p5, p6, p7, p8, p9, hl, ?_, j1, O.sc, ⟨c1, c2, vs, c4, r.file, tf, q2, hvs, hfile⟩, ⟨cl, cld, csl, hcc⟩, O.par, fun s x v => ?_⟩
                      · rw [← hb, h1, h2, h3, h4, h5]
                      · rw [← hb]
                        exact .of_eq (O.bd n9 n10 n11 n12 (.ref cda) n14 cc x v)
                    · cases j4
              · cases j3
            | _ => cases j3
        | _ => cases j3
      | _ => cases j2
    | _ => cases k5
/-! ### the hook: defs at any address, and any look at the fragment -/
abbrev AlC : Type := He.AlD × (Bool × List FnX)
def obsC (ex : PySem.W.Frag → Bool) (fn : List He5.DefA) (xs : List ExR) (K : PySem.W.Frag) : AlC := (He5.obsA [] fn K, (ex K, xs.map fun r => fnX K (r.at_ K)))
def obsCG (n : Nat) (ex : PySem.W.Frag → Bool) (fn : List He5.DefA) (xs : List ExR) (g : Addr → Option Obj) : AlC := obsC ex fn xs (He.frG g (He5.asA g n))
def hookC (n : Nat) (ex : PySem.W.Frag → Bool) (fn : List He5.DefA) (xs : List ExR) : PySem.W.Hook where
  α := AlC
  obs := fun s => obsCG n ex fn xs s.heap.get?
  val := fun _ => (He5.valA fn, (true, xs.map ExR.val))
  says := fun _ h => ∃ K : PySem.W.Frag, K.In h ∧ He5.SaysA [] fn K ∧ ex K = true ∧ ∀ r ∈ xs, fnX K (r.at_ K) = r.val
  of := fun _ _ e => ⟨_, He.frG_in, congrArg (fun z : AlC => z.1) e, congrArg (fun z : AlC => z.2.1) e, List.map_inj_left.mp (congrArg (fun z : AlC => z.2.2) e)⟩
  keeps := fun _ _ _ ⟨K, hK, c⟩ k => ⟨K, PySem.W.Frag.In.keeps hK k, c⟩
theorem obsCG_eq {n : Nat} {ex : PySem.W.Frag → Bool} {fn : List He5.DefA} {xs : List ExR} {g : Addr → Option Obj} {s : Shared} (h : ∀ a, g a = s.heap.get? a) : obsCG n ex fn xs g = (hookC n ex fn xs).obs s := by
  have e : g = s.heap.get? := funext h
  rw [e] <;> rfl
/-! ### a law's rows -/
structure DefR where
  at_ : PySem.W.Frag → Addr
  name : Str
  qual : Str
  params : Arguments
  body : List Stmt
  scope : Scope
  ps : List Str
  N : List Str
  fuel : Nat
  dfl : List He.Dv := []
def DefR.a (r : DefR) : He5.DefA := ⟨r.at_, r.name, r.qual, r.params, r.body, r.scope, r.dfl, []⟩
structure LawR where
  defs : List DefR
  clss : List Str
  atts : List (Nat × (Str × Option Nat))
  mets : List (Nat × (Str × Nat))
  inis : List (Nat × Nat)
  eqfs : List (Nat × Nat)
  strl : List (Nat × Nat)
  cms : List (Nat × (Str × Nat))
  fns : List (Str × (Nat × Nat))
  consts : List (Str × PV)
  exs : List ExR := []
section
variable (L : LawR) (K : PySem.W.Frag)
def LawR.CA (c : Nat) : Addr := match L.clss[c]? with
  | some x => He.ga K x
  | none => 0
def LawR.at_ (fn : Nat) : Addr := match L.defs[fn]? with
  | some r => r.at_ K
  | none => 0
def LawR.F (fn : Nat) : Option FnE := match L.defs[fn]? with
  | some r => match K.lookup (r.at_ K) with
    | some ⟨_, _, .func fd, _⟩ => some ⟨r.at_ K, fd, r.ps⟩
    | _ => none
  | none => none
def clsFB (C : Addr) : Bool := PySem.W.plainGet K C Str.empty && (PySem.W.hasDictIn K C && (PySem.W.plainOver K C && (He.eqO (PySem.W.findIn K (.ref C) "__setattr__") (some (some (.builtin "object.__setattr__"))) &&
  (He.eqO (PySem.W.findIn K (.ref C) "__class__") (some (some (.builtin "object.__class__"))) && (He.eqO (PySem.W.specialIn K (.builtin "object.__class__") "__get__") (some (some (.builtin "getset_descriptor.__get__"))) &&
  (decide (PySem.W.takesIn K (.builtin "object.__class__") = some true) && (decide (PySem.W.mroIn K C (.type "object") = some true) &&
  ((["NoneType", "bool", "int", "str", "tuple", "list"].all fun b => decide (PySem.W.kitOne K (.type b) (.ref C) = some false)) && (["bool", "int", "str", "tuple", "list"].all fun b => decide (PySem.W.kitOne K (.ref C) (.type b) = some false))))))))))
def propFB (C : Addr) (f : Str) : Bool := He.eqO (PySem.W.findIn K (.ref C) f) (some (some (.ref (He.ma K C f)))) && (He.eqO (PySem.W.specialIn K (.ref (He.ma K C f)) "__get__") (some (some (.builtin "property.__get__"))) &&
  (decide (PySem.W.takesIn K (.ref (He.ma K C f)) = some true) && (match PySem.W.recIn K (He.ma K C f) "property" with
    | some (.ref _ :: _) => true
    | _ => false)))
def constB (x : Str) (p : PV) : Bool := match p with
  | .str z => match PySem.W.nsIn K mainGlobals x with
    | some (some (.str y _)) => decide (y = z)
    | _ => false
  | .int i => match PySem.W.nsIn K mainGlobals x with
    | some (some (.int j _)) => decide (j = i)
    | _ => false
  | _ => false
/-- a default: the empty tuple, or a plain value -/
def dvB (d : He.Dv) (p : PV) : Bool := match p with
  | .tup [] => match d with
    | .adr q => match K.lookup (q K) with
      | some ⟨c, _, .seq its _, _⟩ => decide (c = .type "tuple") && decide (its.size = 0)
      | _ => false
    | _ => false
  | _ => false
def LawR.ex (T : Tbl) : Bool := (L.exs.all fun r => r.ok K) && ((T.plans.all fun q => q.2.2.2.all fun a => match a with
    | .i _ => true
    | .d j p => match L.defs[q.2.2.1]? with
      | some r => match r.dfl[j]? with
        | some d => dvB K d p
        | none => false
      | none => false) && (((List.range L.clss.length).all fun c => clsFB K (L.CA K c)) &&
  (((List.range L.clss.length).all fun c => (List.range L.clss.length).all fun d => decide (PySem.W.kitOne K (.ref (L.CA K c)) (.ref (L.CA K d)) = some (c == d))) &&
  ((L.atts.all fun q => match q.2.2 with
    | none => He.eqO (PySem.W.findIn K (.ref (L.CA K q.1)) q.2.1) (some none)
    | some fn => propFB K (L.CA K q.1) q.2.1 && decide (L.at_ K fn = He5.wf K (L.CA K q.1) "property" q.2.1)) &&
  ((L.mets.all fun q => He.eqO (PySem.W.findIn K (.ref (L.CA K q.1)) q.2.1) (some (some (.ref (L.at_ K q.2.2)))) && (PySem.W.isFn K (.ref (L.at_ K q.2.2)) && PySem.W.keepIn K (.ref (L.at_ K q.2.2)))) &&
  ((L.inis.all fun q => PySem.W.makesIn K (L.CA K q.1) && (He.eqO (PySem.W.findIn K (.ref (L.CA K q.1)) "__init__") (some (some (.ref (L.at_ K q.2)))) && (PySem.W.isFn K (.ref (L.at_ K q.2)) && PySem.W.keepIn K (.ref (L.CA K q.1))))) &&
  ((L.eqfs.all fun q => He.eqO (PySem.W.findIn K (.ref (L.CA K q.1)) "__eq__") (some (some (.ref (L.at_ K q.2)))) && (PySem.W.isFn K (.ref (L.at_ K q.2)) && (PySem.W.notFirst K (L.CA K q.1) (.ref (L.CA K q.1)) &&
    He.eqO (PySem.W.findIn K (.ref (L.CA K q.1)) "__ne__") (some (some (.builtin "object.__ne__")))))) &&
  ((L.strl.all fun q => He.eqO (PySem.W.findIn K (.ref (L.CA K q.1)) "__str__") (some (some (.ref (L.at_ K q.2)))) && (PySem.W.isFn K (.ref (L.at_ K q.2)) && (He.eqO (PySem.W.findIn K (.ref (L.CA K q.1)) "__format__") (some (some (.builtin "object.__format__"))) && decide (PySem.W.mroIn K (L.CA K q.1) (.type "object") = some true)))) &&
  ((L.cms.all fun q => He5.wrapB K (L.CA K q.1) "classmethod" "classmethod.__get__" q.2.1 && (PySem.W.fnIn K (L.at_ K q.2.2) && (decide (L.at_ K q.2.2 = He5.wf K (L.CA K q.1) "classmethod" q.2.1) && (PySem.W.readsIn K (L.CA K q.1) (.type "type") &&
    He.eqO (PySem.W.specialIn K (.ref (L.CA K q.1)) "__getattribute__") (some (some (.builtin "type.__getattribute__"))))))) &&
  ((L.fns.all fun q => He.eqO (PySem.W.nsIn K mainGlobals q.1) (some (some (.ref (L.at_ K q.2.1)))) && PySem.W.keepIn K (.ref (L.at_ K q.2.1))) &&
  ((L.clss.all fun x => He.eqO (PySem.W.nsIn K mainGlobals x) (some (some (.ref (He.ga K x))))) &&
  ((L.consts.all fun q => constB K q.1 q.2) &&
  ((["len", "abs", "int", "str", "all", "any", "range", "sum", "tuple", "sorted", "list", "isinstance", "min", "max", "reversed", "enumerate", "zip", "bool", "dict"] : List Str).all fun x => He.eqO (PySem.W.nsIn K mainGlobals x) (some none))))))))))))))
end
/-- a plan's values in place -/
def arV {α : Type} (ar : List Ar) (xs ds : List α) : List α := ar.filterMap fun a => match a with
  | .i n => xs[n]?
  | .d j _ => ds[j]?
/-- what is seen of a def's text -/
structure DefOk (T : Tbl) (TB : Tab) (i : Nat) (r : DefR) : Prop where
  sc : FnScope r.N r.ps r.scope
  cf : ∃ C, TB.fn i = some C ∧ C.nargs = r.ps.length ∧ C.nslots = r.N.length ∧ compSs T r.N r.fuel (fun _ => true) r.scope r.body = some C.body
  bd : r.dfl = [] → ∀ (kV doc pm : Value) (an : Option Addr) (cdv ct : Value) (us : List Value), us.length = r.ps.length → bindArgs (PySem.W.fnOf r.name r.qual r.params r.body r.scope .none kV doc pm an cdv ct) ⟨us, []⟩ = pure (r.ps.zip us)
/-- what is seen of a plan -/
def PlanSt (r : DefR) (n : Nat) (ks : List Str) (ar : List Ar) : Prop := ar.length = r.ps.length ∧ ((r.dfl = [] ∧ ∀ (kV doc pm : Value) (an : Option Addr) (cdv ct : Value) (us ws : List Value), us.length = n → ws.length = ks.length →
    bindArgs (PySem.W.fnOf r.name r.qual r.params r.body r.scope .none kV doc pm an cdv ct) ⟨us, ks.zip ws⟩ = pure (r.ps.zip (arV ar (us ++ ws) []))) ∨
  (r.dfl ≠ [] ∧ ∀ (T : Addr) (kV doc pm : Value) (an : Option Addr) (cdv ct : Value) (us its ws : List Value), us.length = n → its.length = r.dfl.length → ws.length = ks.length →
    ∃ k, bindArgs (PySem.W.fnOf r.name r.qual r.params r.body r.scope (.ref T) kV doc pm an cdv ct) ⟨us, ks.zip ws⟩ = seqItems? (.ref T) >>= k ∧ k (some its.toArray) = pure (r.ps.zip (arV ar (us ++ ws) its))))
theorem vals_get : ∀ {vs : List V} {us : List Value} {n : Nat}, Vals vs us → match vs[n]? with
    | some v => ∃ u, us[n]? = some u ∧ RelV v u
    | none => us[n]? = none
  | [], _, n, h => by cases h; rfl
  | v :: vs, _, 0, h => by
    cases h with
    | cons r t => exact ⟨_, rfl, r⟩
  | v :: vs, _, n + 1, h => by
    cases h with
    | cons r t => simpa using vals_get (n := n) t
theorem vals_ar {vs ds : List V} {us es : List Value} (h : Vals vs us) (hd : Vals ds es) : ∀ ar : List Ar, Vals (arV ar vs ds) (arV ar us es)
  | [] => .nil
  | .d n p :: r => by
    have ih := vals_ar h hd r
    have hg := vals_get (n := n) hd
    unfold arV at ih ⊢
    rw [List.filterMap_cons, List.filterMap_cons]
    dsimp only
    cases e : ds[n]? with
    | none =>
      rw [e] at hg
      rw [show es[n]? = none from hg]
      exact ih
    | some v =>
      rw [e] at hg
      obtain ⟨u, hu, hr⟩ := hg
      rw [hu]
      exact .cons hr ih
  | .i n :: r => by
    have ih := vals_ar h hd r
    have hg := vals_get (n := n) h
    unfold arV at ih ⊢
    rw [List.filterMap_cons, List.filterMap_cons]
    dsimp only
    cases e : vs[n]? with
    | none =>
      rw [e] at hg
      rw [show us[n]? = none from hg]
      exact ih
    | some v =>
      rw [e] at hg
      obtain ⟨u, hu, hr⟩ := hg
      rw [hu]
      exact .cons hr ih
theorem reps_ar {g : G} {F : Hp} {mu : List Addr} {xs : List PV} {vs ds : List V} (h : Reps g.K g.CA F mu xs vs) : ∀ {ar : List Ar} {ys : List PV}, (∀ j p, Ar.d j p ∈ ar → ∃ v, ds[j]? = some v ∧ Rep g.K g.CA F mu p v) → pick xs ar = some ys → Reps g.K g.CA F mu ys (arV ar vs ds)
  | [], ys, _, e => by cases e; rfl
  | .d j p :: r, ys, hn, e => by
    simp only [pick] at e
    split at e
    · rename_i y zs h1 h2
      cases e
      cases h1
      obtain ⟨v, hv, hr⟩ := hn j p List.mem_cons_self
      have ih := reps_ar h (ar := r) (ys := zs) (fun j p hm => hn j p (List.mem_cons_of_mem _ hm)) h2
      unfold arV at ih ⊢
      rw [List.filterMap_cons]
      dsimp only
      rw [hv]
      exact ⟨v, _, rfl, hr, ih⟩
    · cases e
  | .i n :: r, ys, hn, e => by
    simp only [pick] at e
    split at e
    · rename_i y zs h1 h2
      cases e
      obtain ⟨v, hv, hr⟩ := h.get h1
      have ih := reps_ar h (ar := r) (ys := zs) (fun j p hm => hn j p (List.mem_cons_of_mem _ hm)) h2
      unfold arV at ih ⊢
      rw [List.filterMap_cons]
      dsimp only
      rw [hv]
      exact ⟨v, _, rfl, hr, ih⟩
    · cases e
theorem dvB_ok {K : PySem.W.Frag} {CA : Nat → Addr} {d : He.Dv} {p : PV} (h : dvB K d p = true) (F : Hp) (mu : List Addr) : Rep K CA F mu p (d.v K) := by
  unfold dvB at h
  split at h
  · split at h
    · rename_i q
      split at h
      · rename_i c dd its n sl e
        rw [Bool.and_eq_true] at h
        obtain ⟨h1, h2⟩ := h
        have h1 := of_decide_eq_true h1
        have h2 := of_decide_eq_true h2
        have he : its = #[] := Array.eq_empty_of_size_eq_zero h2
        subst he h1
        exact ⟨q K, [], rfl, .inr ⟨_, #[], n, e, rfl, rfl, by simp, .nil⟩, by simp, rfl⟩
      · cases h
    · cases h
  · cases h
theorem plan_mem {T : Tbl} {f n : Nat} {ks : List Str} {ar : List Ar} (h : T.plan f n ks = some ar) : (n, (ks, (f, ar))) ∈ T.plans := by
  unfold Tbl.plan at h
  have hm : (f, ar) ∈ T.planL n ks := by
    generalize T.planL n ks = l at h
    induction l with
    | nil => cases h
    | cons q l ih =>
      obtain ⟨a, b⟩ := q
      simp only [List.lookup] at h
      split at h
      · rename_i e
        cases h
        rw [beq_iff_eq.mp e]
        exact List.mem_cons_self
      · exact List.mem_cons_of_mem _ (ih h)
  unfold Tbl.planL at hm
  obtain ⟨q, hq, he⟩ := List.mem_filterMap.mp hm
  split at he
  · rename_i hc
    obtain ⟨a, b, c⟩ := q
    obtain ⟨rfl, rfl⟩ := hc
    cases he
    exact hq
  · cases he
theorem lookup_mem {α β : Type} [BEq α] [LawfulBEq α] {x : α} {b : β} : ∀ {l : List (α × β)}, l.lookup x = some b → (x, b) ∈ l
  | [], h => by cases h
  | (a, c) :: l, h => by
    simp only [List.lookup] at h
    split at h
    · rename_i e
      cases h
      rw [beq_iff_eq.mp e]
      exact List.mem_cons_self
    · exact List.mem_cons_of_mem _ (lookup_mem h)
section
variable {L : LawR} {K : PySem.W.Frag} {T : Tbl} {TB : Tab} {P : Program} {w : World} {mg : Str → Option Value} {h : Heap}
theorem F_of (c : He5.SaysA [] (L.defs.map DefR.a) K) {i : Nat} {r : DefR} (hi : L.defs[i]? = some r) : ∃ fd, FunD K r.name r.qual r.params r.body r.scope (r.dfl.map (He.Dv.v K)) [] (r.at_ K) fd ∧ L.F K i = some ⟨r.at_ K, fd, r.ps⟩ ∧ L.at_ K i = r.at_ K := by
  obtain ⟨fd, hF⟩ := c.def_ i (d := r.a) (by rw [List.getElem?_map, hi]; rfl)
  have hF2 : FunD K r.name r.qual r.params r.body r.scope (r.dfl.map (He.Dv.v K)) [] (r.at_ K) fd := hF
  refine ⟨fd, hF2, ?_, by unfold LawR.at_; rw [hi]⟩
  obtain ⟨oc, od, dV, kV, doc, pm, an, cdv, ct, osl, _, lk, _⟩ := hF2.ex
  unfold LawR.F
  rw [hi]
  dsimp only
  rw [lk]
theorem planOk_of {g : G} (hg : g.K = K) {r : DefR} {fd : FuncData} (hF : FunD K r.name r.qual r.params r.body r.scope (r.dfl.map (He.Dv.v K)) [] (r.at_ K) fd) {n : Nat} {ks : List Str} {ar : List Ar} (hp : PlanSt r n ks ar)
    (hd : ∀ j p, Ar.d j p ∈ ar → ∃ d, r.dfl[j]? = some d ∧ dvB K d p = true) : PlanOk g fd r.ps n ks ar := by
  obtain ⟨h1, h3⟩ := hp
  subst hg
  have rp : ∀ F mu (xs zs ys : List PV) vs ws, Reps g.K g.CA F mu xs vs → Reps g.K g.CA F mu zs ws → pick (xs ++ zs) ar = some ys → Reps g.K g.CA F mu ys (arV ar (vs ++ ws) (r.dfl.map (He.Dv.v g.K))) := fun F mu xs zs ys vs ws hx hz hpk => reps_ar (hx.append hz) (fun j p hm => by
    obtain ⟨d, hd1, hd2⟩ := hd j p hm
    exact ⟨d.v g.K, by rw [List.getElem?_map, hd1]; rfl, dvB_ok hd2 F mu⟩) hpk
  rcases h3 with ⟨h0, h3⟩ | ⟨h0, h3⟩
  · refine ⟨h1, fun us ws => arV ar (us ++ ws) [], fun vs zs => arV ar (vs ++ zs) (r.dfl.map (He.Dv.v g.K)), ⟨fun s us ws X l1 l2 => ?_, fun r1 r2 => vals_ar (r1.append r2) (by rw [h0]; exact .nil) ar⟩, fun F mu H m xs zs ys vs ws rm hx hz l1 l2 hpk => rp F mu xs zs ys vs ws hx hz hpk⟩
    obtain ⟨oc, od, dV, kV, doc, pm, an, cdv, ct, osl, rfl, lk, hcd, hD, hK⟩ := hF.ex
    rcases hD with ⟨_, rfl⟩ | ⟨e, _⟩
    · exact .of_eq (h3 kV doc pm an cdv ct us ws l1 l2)
    · rw [h0] at e; exact absurd rfl e
  · obtain ⟨its, hb⟩ := hF.kbindsD (ps := r.ps) n ks (fun us ds ws => arV ar (us ++ ws) ds) (by simpa using h0) (fun r1 r2 r3 => vals_ar (r1.append r3) r2 ar) (fun T kV doc pm an cdv ct us its ws l1 l2 l3 => h3 T kV doc pm an cdv ct us its ws l1 (by simpa using l2) l3)
    exact ⟨h1, _, _, hb, fun F mu H m xs zs ys vs ws rm hx hz l1 l2 hpk => rp F mu xs zs ys vs ws hx hz hpk⟩
/-- the table's facts, from what the head shows and what is seen of the text -/
theorem facts_of {g : G} (hgK : g.K = K) (hgC : g.CA = L.CA K) (hX : K.In h) (hG : h.Ns mainGlobals mg) (cS : He5.SaysA [] (L.defs.map DefR.a) K) (hex : L.ex K T = true) (hD : ∀ i r, L.defs[i]? = some r → DefOk T TB i r)
    (hP : ∀ q ∈ T.plans, ∃ r, L.defs[q.2.2.1]? = some r ∧ PlanSt r q.1 q.2.1 q.2.2.2) (e1 : TB.nC = L.clss.length) (e2 : TB.att = attA L.atts) (e3 : TB.met = metA L.mets) (e4 : TB.ini = fun c => L.inis.lookup c) (e5 : TB.eqf = fun c => L.eqfs.lookup c) (e6 : TB.own = strA L.strl)
    (e7 : T.fns = L.fns) (e8 : T.consts = L.consts) (e9 : T.cms = L.cms) (e10 : ∀ x c, T.clss.lookup x = some c → L.clss[c]? = some x)
    (a1 : ∀ q ∈ L.atts, ∀ fn, q.2.2 = some fn → ∃ r, L.defs[fn]? = some r ∧ r.ps.length = 1 ∧ r.dfl = []) (a2 : ∀ q ∈ L.mets, ∃ r, L.defs[q.2.2]? = some r) (a3 : ∀ q ∈ L.inis, ∃ r, L.defs[q.2]? = some r) (a4 : ∀ q ∈ L.eqfs, ∃ r, L.defs[q.2]? = some r ∧ r.ps.length = 2 ∧ r.dfl = [])
    (a5 : ∀ q ∈ L.strl, ∃ r, L.defs[q.2]? = some r ∧ r.ps.length = 1 ∧ r.dfl = []) (a6 : ∀ q ∈ L.cms, ∃ r, L.defs[q.2.2]? = some r) (a7 : ∀ q ∈ L.fns, ∃ r, L.defs[q.2.1]? = some r ∧ r.ps.length = q.2.2 ∧ r.dfl = [])
    (e11 : T.exs = L.exs.map fun r => (r.cls, r.a)) (a9 : ∀ r ∈ L.exs, ExOk r ∧ (P.main.file == r.file) = true ∧ (P.main.scope.names.lookup ("super" : Str)).isSome = false) (cX : ∀ r ∈ L.exs, fnX K (r.at_ K) = r.val) : Facts P w mg g T TB (L.F K) := by
  unfold LawR.ex at hex
  simp only [Bool.and_eq_true] at hex
  obtain ⟨xx, x0, x1, x2, x3, x4, x5, x6, x7, x8, x9, x10, x11, x12⟩ := hex
  have bnd : ∀ {i : Nat} {r : DefR} {fd : FuncData}, L.defs[i]? = some r → r.dfl = [] → FunD K r.name r.qual r.params r.body r.scope (r.dfl.map (He.Dv.v K)) [] (r.at_ K) fd → Binds K fd r.ps [] := fun {i r fd} hi h0 hF => by
    have b := (hD i r hi).bd h0
    rw [h0] at hF
    exact hF.bindsN b
  have pln : ∀ {i : Nat} {r : DefR} {fd : FuncData}, L.defs[i]? = some r → FunD K r.name r.qual r.params r.body r.scope (r.dfl.map (He.Dv.v K)) [] (r.at_ K) fd → ∀ n ks ar, T.plan i n ks = some ar → PlanOk g fd r.ps n ks ar := fun {i r fd} hi hF n ks ar hp => by
    obtain ⟨r', hr', hs⟩ := hP _ (plan_mem hp)
    rw [hi] at hr'
    cases hr'
    refine planOk_of hgK hF hs fun j p hm => ?_
    have := List.all_eq_true.mp (List.all_eq_true.mp x0 _ (plan_mem hp)) _ hm
    dsimp only at this
    rw [hi] at this
    dsimp only at this
    split at this
    · rename_i d hd
      exact ⟨d, hd, this⟩
    · cases this
  have attm : ∀ {c : Nat} {f : Str} {o : Option Nat}, attA L.atts c f = some o → (c, (f, o)) ∈ L.atts := fun {c f o} h => by
    unfold attA at h
    cases q : L.atts.find? fun q => decide (q.1 = c) && decide (q.2.1 = f) with
    | none => rw [q] at h; cases h
    | some z =>
      rw [q] at h
      cases h
      have := List.find?_some q
      rw [Bool.and_eq_true] at this
      obtain ⟨a, b, d⟩ := z
      obtain rfl : a = c := of_decide_eq_true this.1
      obtain rfl : b = f := of_decide_eq_true this.2
      exact List.mem_of_find?_eq_some q
  have metm : ∀ {c : Nat} {f : Str} {o : Nat}, metA L.mets c f = some o → (c, (f, o)) ∈ L.mets := fun {c f o} h => by
    unfold metA at h
    cases q : L.mets.find? fun q => decide (q.1 = c) && decide (q.2.1 = f) with
    | none => rw [q] at h; cases h
    | some z =>
      rw [q] at h
      cases h
      have := List.find?_some q
      rw [Bool.and_eq_true] at this
      obtain ⟨a, b, d⟩ := z
      obtain rfl : a = c := of_decide_eq_true this.1
      obtain rfl : b = f := of_decide_eq_true this.2
      exact List.mem_of_find?_eq_some q
  subst hgK
  rw [List.all_eq_true] at x0 x1 x2 x3 x4 x5 x6 x7 x8 x9 x10 x11 x12
  have inr : ∀ {c : Nat}, c < TB.nC → c ∈ List.range L.clss.length := fun {c} hc => List.mem_range.mpr (by omega)
  refine ⟨⟨fun c hc => ?_, fun c d hc hd => ?_⟩, ?_, ?_, ?_, ?_, ?_, ?_, ?_, ?_, ?_, ?_, ?_, ?_, ?_, ?_, ?_⟩
  · have := x1 c (inr hc)
    unfold clsFB at this
    simp only [Bool.and_eq_true] at this
    obtain ⟨k1, k2, k3, k4, k5, k6, k7, k8, k9, k10⟩ := this
    rw [hgC]
    exact ⟨⟨k1, k2, k3, He.eqO_ok k4⟩, He.eqO_ok k5, He.eqO_ok k6, of_decide_eq_true k7, of_decide_eq_true k8, fun b hb => of_decide_eq_true (List.all_eq_true.mp k9 b hb), fun b hb => of_decide_eq_true (List.all_eq_true.mp k10 b hb)⟩
  · have := List.all_eq_true.mp (x2 c (inr hc)) d (inr hd)
    rw [hgC]
    exact of_decide_eq_true this
  · intro c f hc hf
    rw [e2] at hf
    have := x3 _ (attm hf)
    rw [hgC]
    exact He.eqO_ok this
  · intro c f fn hc hf
    rw [e2] at hf
    have hm := attm hf
    have := x3 _ hm
    dsimp only at this
    rw [Bool.and_eq_true] at this
    obtain ⟨k1, k2⟩ := this
    obtain ⟨r, hr, hl, h0⟩ := a1 _ hm fn rfl
    obtain ⟨fd, hF, hF2, hat⟩ := F_of cS hr
    unfold propFB at k1
    simp only [Bool.and_eq_true] at k1
    obtain ⟨j1, j2, j3, j4⟩ := k1
    refine ⟨He.ma g.K (L.CA g.K c) f, _, hF2, hl, ?_, bnd hr h0 hF⟩
    rw [hgC]
    refine ⟨He.eqO_ok j1, He.eqO_ok j2, of_decide_eq_true j3, ?_⟩
    have hw : r.at_ g.K = He5.wf g.K (L.CA g.K c) "property" f := by rw [← hat]; exact of_decide_eq_true k2
    show ∃ rest, PySem.W.recIn g.K _ "property" = some (.ref (r.at_ g.K) :: rest)
    rw [hw]
    unfold He5.wf
    split at j4
    · rename_i z rest e
      exact ⟨rest, by rw [e]⟩
    · cases j4
  · intro c m fn hc hf
    rw [e3] at hf
    have hm := metm hf
    have := x4 _ hm
    simp only [Bool.and_eq_true] at this
    obtain ⟨k1, k2, k3⟩ := this
    obtain ⟨r, hr⟩ := a2 _ hm
    obtain ⟨fd, hF, hF2, hat⟩ := F_of cS hr
    skip
    rw [hat] at k1 k2 k3
    rw [hgC]
    exact ⟨_, hF2, ⟨He.eqO_ok k1, k2, k3⟩, pln hr hF⟩
  · intro c fn hc hf
    rw [e4] at hf
    have hm := lookup_mem hf
    have := x5 _ hm
    simp only [Bool.and_eq_true] at this
    obtain ⟨k1, k2, k3, k4⟩ := this
    obtain ⟨r, hr⟩ := a3 _ hm
    obtain ⟨fd, hF, hF2, hat⟩ := F_of cS hr
    skip
    rw [hat] at k2 k3
    rw [hgC]
    exact ⟨_, hF2, ⟨k1, He.eqO_ok k2, k3, k4⟩, pln hr hF⟩
  · intro c fn hc hf
    rw [e5] at hf
    have hm := lookup_mem hf
    have := x6 _ hm
    simp only [Bool.and_eq_true] at this
    obtain ⟨k1, k2, k3, k4⟩ := this
    obtain ⟨r, hr, hl, h0⟩ := a4 _ hm
    obtain ⟨fd, hF, hF2, hat⟩ := F_of cS hr
    skip
    rw [hat] at k1 k2
    rw [hgC]
    exact ⟨_, hF2, hl, He.eqO_ok k1, k2, k3, He.eqO_ok k4, bnd hr h0 hF⟩
  · intro c b hb
    rw [e6]
    cases b <;> first | rfl | exact absurd rfl hb
  · intro c fn hc hf
    rw [e6] at hf
    have hm := lookup_mem (show L.strl.lookup c = some fn from hf)
    have := x7 _ hm
    simp only [Bool.and_eq_true] at this
    obtain ⟨k1, k2, _, _⟩ := this
    obtain ⟨r, hr, hl, h0⟩ := a5 _ hm
    obtain ⟨fd, hF, hF2, hat⟩ := F_of cS hr
    skip
    rw [hat] at k1 k2
    rw [hgC]
    exact ⟨_, hF2, hl, He.eqO_ok k1, k2, bnd hr h0 hF⟩
  · intro c fn hc hf
    rw [e6] at hf
    have hm := lookup_mem (show L.strl.lookup c = some fn from hf)
    have := x7 _ hm
    simp only [Bool.and_eq_true] at this
    obtain ⟨_, _, k3, k4⟩ := this
    rw [hgC]
    exact ⟨He.eqO_ok k3, of_decide_eq_true k4⟩
  · intro x p hx
    rw [e8] at hx
    have := x11 _ (lookup_mem hx)
    dsimp only at this
    unfold constB at this
    split at this
    · split at this
      · rename_i y t e
        obtain rfl := of_decide_eq_true this
        exact ⟨_, .str y, PySem.W.mg_of hX hG e, ⟨t, rfl⟩, fun _ _ => rfl⟩
      · cases this
    · split at this
      · rename_i y t e
        obtain rfl := of_decide_eq_true this
        exact ⟨_, .int y, PySem.W.mg_of hX hG e, ⟨t, rfl⟩, fun _ _ => rfl⟩
      · cases this
    · cases this
  · intro x hx
    exact PySem.W.mg_none_of hX hG (He.eqO_ok (x12 x hx))
  · intro x f na hx
    rw [e7] at hx
    have hm := lookup_mem hx
    have := x9 _ hm
    simp only [Bool.and_eq_true] at this
    obtain ⟨k1, k2⟩ := this
    obtain ⟨r, hr, hl, h0⟩ := a7 _ hm
    obtain ⟨fd, hF, hF2, hat⟩ := F_of cS hr
    skip
    rw [hat] at k1 k2
    exact ⟨_, hF2, hl, PySem.W.mg_of hX hG (He.eqO_ok k1), k2, bnd hr h0 hF, pln hr hF⟩
  · intro x c' hx
    have hc' := e10 x c' hx
    have hlt : c' < L.clss.length := (List.getElem?_eq_some_iff.mp hc').1
    refine ⟨by omega, ?_⟩
    have := x10 x (List.mem_of_getElem? hc')
    rw [hgC]
    unfold LawR.CA
    rw [hc']
    exact PySem.W.mg_of hX hG (He.eqO_ok this)
  · intro c' m f hc hm0
    unfold Tbl.cm at hm0
    rw [e9] at hm0
    cases q : L.cms.find? fun q => decide (q.1 = c' ∧ q.2.1 = m) with
    | none => rw [q] at hm0; cases hm0
    | some z =>
      rw [q] at hm0
      cases hm0
      have := of_decide_eq_true (List.find?_some (p := fun q : Nat × (Str × Nat) => decide (q.1 = c' ∧ q.2.1 = m)) q)
      have hm := List.mem_of_find?_eq_some q
      obtain ⟨a, b, d⟩ := z
      obtain ⟨rfl, rfl⟩ := this
      have := x8 _ hm
      simp only [Bool.and_eq_true] at this
      obtain ⟨k1, k2, k3, k4, k5⟩ := this
      obtain ⟨r, hr⟩ := a6 _ hm
      obtain ⟨fd, hF, hF2, hat⟩ := F_of cS hr
      skip
      have hw := of_decide_eq_true k3
      rw [hat] at k2 hw
      rw [hgC]
      rw [hw] at k2
      have hcm := He5.cmet_of k1 k2
      rw [← hw] at hcm
      exact ⟨_, _, _, hF2, ⟨k4, He.eqO_ok k5⟩, hcm, pln hr hF⟩
  · intro x f hx
    rw [e11] at hx
    obtain ⟨r, hr, he⟩ := List.mem_map.mp (lookup_mem hx)
    cases he
    obtain ⟨O, h1, h2⟩ := a9 r hr
    have hok := List.all_eq_true.mp xx r hr
    refine ⟨_, _, r.b, ?_, exD_of (cX r hr) hok O h1 h2⟩
    unfold ExR.ok at hok
    exact PySem.W.mg_of hX hG (He.eqO_ok (Bool.and_eq_true_iff.mp hok).1)
  · intro fn e he
    unfold LawR.F at he
    cases q : L.defs[fn]? with
    | none => rw [q] at he; cases he
    | some r =>
      obtain ⟨fd, hF, hF2, hat⟩ := F_of cS q
      have : L.F g.K fn = some e := he
      rw [hF2] at this
      cases this
      have D := hD fn r q
      obtain ⟨C, c1, c2, c3, c4⟩ := D.cf
      exact ⟨C, _, _, _, _, _, _, _, r.N, r.fuel, c1, hF, D.sc, c2, c3, c4⟩
end
end Co

end P_CoreHead
section P_CoreFast
set_option Elab.async false
set_option linter.all false
set_option maxRecDepth 100000
/-! CoreFast: the evaluator's clauses as functions, for evaluation by the kernel. -/
namespace Co
open PySem L2
abbrev EM := Co.Env → M PV
abbrev TM := Co.Env → M Bool
abbrev AM := Co.Env → M (List PV)
abbrev IM := Co.Env → M Src
abbrev SM := Co.Env → M (Fl × Co.Env)
abbrev GM := PV → Mem → Co.Env → Option Co.Env
abbrev GsM := List PV → Mem → Co.Env → Option Co.Env
/-- a text by its signs -/
abbrev sx (l : List Nat) : Str := ⟨⟨l⟩⟩
def nth {α : Type} : List α → Nat → Option α
  | [], _ => none
  | a :: _, 0 => some a
  | _ :: l, n + 1 => nth l n
theorem nth_eq {α : Type} : ∀ (l : List α) (n : Nat), nth l n = l[n]?
  | [], n => by simp [nth]
  | a :: l, 0 => by simp [nth]
  | a :: l, n + 1 => by simp [nth, nth_eq l n]
def putO {α : Type} (a : α) : List α → Nat → Option (List α)
  | [], _ => none
  | _ :: l, 0 => some (a :: l)
  | b :: l, n + 1 => match putO a l n with
    | some l' => some (b :: l')
    | none => none
theorem putO_eq {α : Type} (a : α) : ∀ (l : List α) (n : Nat), putO a l n = if n < l.length then some (l.set n a) else none
  | [], n => by simp [putO]
  | b :: l, 0 => by simp [putO]
  | b :: l, n + 1 => by
    rw [putO, putO_eq a l n]
    by_cases h : n < l.length
    · rw [if_pos h, if_pos (by simpa using h)]; rfl
    · rw [if_neg h, if_neg (by simpa using h)]
/-! ### loops over items that are there -/
def lcFx (f : PV → Mem → Out (Option PV)) : List PV → M (List PV)
  | [], m => .ok [] m
  | x :: r, m => (f x m).bind fun o m1 => match o with
    | some y => (lcFx f r m1).bind fun ys m2 => .ok (y :: ys) m2
    | none => lcFx f r m1
theorem bind_assoc {α β γ : Type} (o : Out α) (f : α → Mem → Out β) (h : β → Mem → Out γ) : (o.bind f).bind h = o.bind fun a m => (f a m).bind h := by cases o <;> rfl
theorem bind_id {α : Type} (o : Out α) : (o.bind fun a m => .ok a m) = o := by cases o <;> rfl
theorem lcFx_eq (f : PV → Mem → Out (Option PV)) (xs : List PV) : ∀ (n i : Nat) (acc : List PV) (m : Mem), xs.length < n + i → 0 < n → lcL f (.fix xs) n i acc m = (lcFx f (xs.drop i) m).bind fun ys m1 => .ok (acc ++ ys) m1
  | 0, i, acc, m, h, h0 => absurd h0 (Nat.lt_irrefl _)
  | n + 1, i, acc, m, h, _ => by
    simp only [lcL, srcAt]
    cases e : xs[i]? with
    | none =>
      rw [List.drop_eq_nil_of_le (List.getElem?_eq_none_iff.mp e)]
      simp [lcFx, Out.bind]
    | some x =>
      obtain ⟨hl, rfl⟩ := List.getElem?_eq_some_iff.mp e
      rw [List.drop_eq_getElem_cons hl]
      simp only [lcFx]
      rw [bind_assoc]
      congr 1
      funext o m1
      cases o with
      | none => exact lcFx_eq f xs n (i + 1) acc m1 (by omega) (by omega)
      | some y =>
        dsimp only
        rw [lcFx_eq f xs n (i + 1) _ m1 (by omega) (by omega), bind_assoc]
        congr 1
        funext ys m2
        simp [Out.bind]
/-- a comprehension's turns -/
def lcS (f : PV → Mem → Out (Option PV)) (s : Src) (m : Mem) : Out (List PV) := match s with
  | .fix xs => lcFx f xs m
  | .live n => lcL f (.live n) 100001 0 [] m
theorem lcS_eq (f : PV → Mem → Out (Option PV)) (s : Src) (m : Mem) : lcL f s (srcFuel s) 0 [] m = lcS f s m := by
  cases s with
  | fix xs =>
    rw [show srcFuel (.fix xs) = xs.length + 1 from rfl, lcFx_eq f xs _ 0 [] m (by omega) (by omega)]
    simp [lcS, bind_id]
  | live n => rfl
def forFx (f : PV → Mem → Co.Env → Out (Fl × Co.Env)) : List PV → Co.Env → M (Fl × Co.Env)
  | [], env, m => .ok (.nx, env) m
  | x :: r, env, m => (f x m env).bind fun q m1 => match q.1 with
    | .nx => forFx f r q.2 m1
    | .ct => forFx f r q.2 m1
    | .bk => .ok (.nx, q.2) m1
    | .rt v => .ok (.rt v, q.2) m1
theorem forFx_eq (f : PV → Mem → Co.Env → Out (Fl × Co.Env)) (xs : List PV) : ∀ (n i : Nat) (env : Co.Env) (m : Mem), xs.length < n + i → 0 < n → forL f (.fix xs) n i env m = forFx f (xs.drop i) env m
  | 0, i, env, m, h, h0 => absurd h0 (Nat.lt_irrefl _)
  | n + 1, i, env, m, h, _ => by
    simp only [forL, srcAt]
    cases e : xs[i]? with
    | none =>
      rw [List.drop_eq_nil_of_le (List.getElem?_eq_none_iff.mp e)]
      rfl
    | some x =>
      obtain ⟨hl, rfl⟩ := List.getElem?_eq_some_iff.mp e
      rw [List.drop_eq_getElem_cons hl]
      simp only [forFx]
      congr 1
      funext q m1
      have hn : 0 < n := by omega
      cases q.1 with
      | nx => exact forFx_eq f xs n (i + 1) _ m1 (by omega) hn
      | ct => exact forFx_eq f xs n (i + 1) _ m1 (by omega) hn
      | bk => rfl
      | rt v => rfl
def forS (f : PV → Mem → Co.Env → Out (Fl × Co.Env)) (s : Src) (env : Co.Env) (m : Mem) : Out (Fl × Co.Env) := match s with
  | .fix xs => forFx f xs env m
  | .live n => forL f (.live n) 100001 0 env m
theorem forS_eq (f : PV → Mem → Co.Env → Out (Fl × Co.Env)) (s : Src) (env : Co.Env) (m : Mem) : forL f s (srcFuel s) 0 env m = forS f s env m := by
  cases s with
  | fix xs =>
    rw [show srcFuel (.fix xs) = xs.length + 1 from rfl, forFx_eq f xs _ 0 env m (by omega) (by omega)]
    rfl
  | live n => rfl
section
variable (D : Cl) (W : Nat)
/-! ### clauses -/
def kV (i : Nat) : EM := fun env m => match nth env i with
  | some (some v) => .ok v m
  | _ => .stuck
def kK (c : PV) : EM := fun _ m => .ok c m
def kBin (o : BOp) (a b : EM) : EM := fun env m => (a env m).bind fun x m1 => (b env m1).bind fun y m2 => Out.of (binop o (vw m2 x) (vw m2 y)) m2
def kNeg (a : EM) : EM := fun env m => (a env m).bind fun x m1 => match x with
  | .int i => .ok (.int (-i)) m1
  | _ => .stuck
def kCmp (o : COp) (a b : EM) : EM := fun env m => (a env m).bind fun x m1 => (b env m1).bind fun y m2 => cmpV D o x y m2
def kChain (o1 o2 : COp) (a b c : EM) : EM := fun env m => (a env m).bind fun x m1 => (b env m1).bind fun y m2 => match cmpop o1 (vw m2 x) (vw m2 y) with
  | some true => (c env m2).bind fun z m3 => Out.of ((cmpop o2 (vw m3 y) (vw m3 z)).map .bl) m3
  | some false => .ok (.bl false) m2
  | none => .stuck
def kTest (t : TM) : EM := fun env m => (t env m).bind fun b m1 => .ok (.bl b) m1
def kIte (t : TM) (a b : EM) : EM := fun env m => (t env m).bind fun c m1 => match c with
  | true => a env m1
  | false => b env m1
def kTup (es : AM) : EM := fun env m => (es env m).bind fun xs m1 => ck (decide (xs.length ≤ 100000)) (.ok (.tup xs) m1)
def kIx (a b : EM) : EM := fun env m => (a env m).bind fun x m1 => (b env m1).bind fun y m2 => Out.of (ixop (vw m2 x) y) m2
def kSl (a : EM) (lo hi : AM) : EM := fun env m => (a env m).bind fun x m1 => (lo env m1).bind fun l m2 => (Out.of (partO l) m2).bind fun lo m2 => (hi env m2).bind fun h m3 => (Out.of (partO h) m3).bind fun hi m3 => Out.of (slop (vw m3 x) lo hi) m3
def kRev1 (a : EM) : EM := fun env m => (a env m).bind fun x m1 => match vw m1 x with
  | .lst xs => .ok (.lst xs.reverse) m1
  | _ => .stuck
def kM1 (o : M1k) (a b : EM) : EM := fun env m => (a env m).bind fun x m1 => ck (recOk o m1 x) ((b env m1).bind fun y m2 => m1O o x y m2)
def kAttr (a : EM) (f : Str) : EM := fun env m => (a env m).bind fun x m1 => attO D f x m1
def kCall (f : Nat) (es : AM) : EM := fun env m => (es env m).bind fun xs m1 => D.call f xs m1
def kCallk (f : Nat) (es ks : AM) (n nk : Nat) (ar : List Ar) : EM := fun env m => (es env m).bind fun xs m1 => (ks env m1).bind fun zs m2 => (Out.of (pickN n nk xs zs ar) m2).bind fun ys m3 => D.call f ys m3
def kBi (b : Bi) (a : EM) : EM := fun env m => (a env m).bind fun x m1 => biO D b x m1
def kBi2 (b : Bi) (a c : EM) : EM := fun env m => (a env m).bind fun x m1 => (c env m1).bind fun y m2 => Out.of (builtin2 b x y) m2
def kIsi (a : EM) (t : Isi) : EM := fun env m => (a env m).bind fun x m1 => Out.of ((isiop D.nC t (vw m1 x)).map .bl) m1
def kMeth (f : Str) (a : EM) (es ks : AM) (n nk : Nat) (ar : List (Nat × List Ar)) : EM := fun env m => (a env m).bind fun x m1 => (Out.of (metO D f x m1) m1).bind fun k m2 => (es env m2).bind fun xs m3 => (ks env m3).bind fun zs m4 => (Out.of ((ar.lookup k).bind fun ar => pickN (n + 1) nk (x :: xs) zs ar) m4).bind fun ys m5 => D.call k ys m5
def kMake (a : EM) (es ks : AM) (n nk : Nat) (ar : List (Nat × List Ar)) : EM := fun env m => (a env m).bind fun x m1 => (Out.of (iniO D x) m1).bind fun k m2 => (es env m2).bind fun xs m3 => (ks env m3).bind fun zs m4 => (Out.of ((ar.lookup k.2).bind fun ar => pickN (n + 1) nk (.ref m4.length :: xs) zs ar) m4).bind fun ys m5 => (D.call k.2 ys (m5 ++ [.ins k.1 [] []])).bind fun r m6 => madeO m5.length r m6
def kDget2 (a b c : EM) : EM := fun env m => (a env m).bind fun x m1 => ck (isDic m1 x) ((b env m1).bind fun y m2 => (c env m2).bind fun z m3 => Out.of ((dgetO (vw m3 x) y).map fun o => o.getD z) m3)
def kDdis (ks : List Key) (es : AM) : EM := fun env m => (es env m).bind fun vs m1 => ck (decide (vs.length = ks.length)) (.ok (.ref m1.length) (m1 ++ [.dic ks vs]))
def kDof (a : EM) : EM := fun env m => (a env m).bind fun x m1 => dofO x m1
def kDnew : EM := fun _ m => .ok (.ref m.length) (m ++ [.dic [] []])
def kDcm (g : GM) (it : IM) (t : TM) (k e : EM) (own : List Nat) : EM := fun env m => (it env m).bind fun s m1 => (dcL (fun x m => match g x m (wipeE env own) with
    | some env' => (t env' m).bind fun b m2 => match b with
      | true => (k env' m2).bind fun q m3 => (e env' m3).bind fun y m4 => Out.of ((asKey q).map fun k => some (k, y)) m4
      | false => .ok none m2
    | none => .stuck) s (srcFuel s) 0 [] [] m1).bind fun r m2 => .ok (.ref m2.length) (m2 ++ [.dic r.1 r.2])
def kFz (f : AM) : EM := fun env m => (f env m).bind fun xs m1 => .ok (.lst xs) m1
def kCell (f : AM) : EM := fun env m => (f env m).bind fun xs m1 => .ok (.ref m1.length) (m1 ++ [.lst xs])
def kTt : TM := fun _ m => .ok true m
def kVal (a : EM) : TM := fun env m => (a env m).bind fun x m1 => Out.of (asBool (vw m1 x)) m1
def kNt (a : TM) : TM := fun env m => (a env m).bind fun b m1 => .ok (!b) m1
def kAn (a b : TM) : TM := fun env m => (a env m).bind fun c m1 => match c with
  | true => b env m1
  | false => .ok false m1
def kOr (a b : TM) : TM := fun env m => (a env m).bind fun c m1 => match c with
  | true => .ok true m1
  | false => b env m1
def kNil : AM := fun _ m => .ok [] m
def kCons (a : EM) (r : AM) : AM := fun env m => (a env m).bind fun x m1 => (r env m1).bind fun xs m2 => .ok (x :: xs) m2
def kStar (a : EM) (r : AM) : AM := fun env m => (a env m).bind fun x m1 => (Out.of (items (vw m1 x)) m1).bind fun xs m2 => (r env m2).bind fun ys m3 => .ok (xs ++ ys) m3
def kLst (es : AM) : AM := fun env m => (es env m).bind fun xs m1 => ck (decide (xs.length ≤ 100000)) (.ok xs m1)
def kLc (g : GM) (it : IM) (t : TM) (e : EM) (own : List Nat) : AM := fun env m => (it env m).bind fun s m1 => lcS (fun x m => match g x m (wipeE env own) with
    | some env' => (t env' m).bind fun b m2 => match b with
      | true => (e env' m2).bind fun y m3 => .ok (some y) m3
      | false => .ok none m2
    | none => .stuck) s m1
def kLof (a : EM) : AM := fun env m => (a env m).bind fun x m1 => Out.of (lofO (vw m1 x)) m1
def kSrt (a : EM) : AM := fun env m => (a env m).bind fun x m1 => Out.of (srtO (vw m1 x)) m1
def iSeq (a : EM) : IM := fun env m => (a env m).bind fun x m1 => match x with
  | .lst xs => .ok (.fix xs) m1
  | .tup xs => .ok (.fix xs) m1
  | .scr ns => .ok (.fix (ns.map .int)) m1
  | .str x => ck (decide (x.length ≤ 100000)) (.ok (.fix (x.cps.toList.map fun c => PV.str ⟨#[c]⟩)) m1)
  | .ref n => match m1[n]? with
    | some (.lst _) => .ok (.live n) m1
    | _ => .stuck
  | _ => .stuck
def iRange (es : AM) : IM := fun env m => (es env m).bind fun xs m1 => match xs with
  | [.int j] => ck (decide (-100000 ≤ j) && decide (j ≤ 100000)) (.ok (.fix ((List.range j.toNat).map fun (i : Nat) => PV.int (i : Int))) m1)
  | _ => .stuck
def iRev (a : EM) : IM := fun env m => (a env m).bind fun x m1 => match x with
  | .lst xs => .ok (.fix xs.reverse) m1
  | .tup xs => .ok (.fix xs.reverse) m1
  | _ => .stuck
def iEnum (a : EM) : IM := fun env m => (a env m).bind fun x m1 => match x with
  | .lst xs => .ok (.fix (xs.zipIdx.map fun q => .tup [.int (q.2 : Int), q.1])) m1
  | _ => .stuck
def iZip (a b : EM) : IM := fun env m => (a env m).bind fun x m1 => (b env m1).bind fun y m2 => zipO x y m2
def gV (i : Nat) : GM := fun v _ env => putO (some v) env i
def gT (gs : GsM) : GM := fun v m env => match vw m v with
  | .tup xs => gs xs m env
  | .lst xs => gs xs m env
  | _ => none
def gNil : GsM := fun xs _ env => match xs with
  | [] => some env
  | _ => none
def gCons (g : GM) (r : GsM) : GsM := fun xs m env => match xs with
  | x :: xs => match g x m env with
    | some e => r xs m e
    | none => none
  | [] => none
def sAsg (g : GM) (e : EM) : SM := fun env m => (e env m).bind fun x m1 => match g x m1 env with
  | some env' => .ok (.nx, env') m1
  | none => .stuck
def sSetix (a i e : EM) : SM := fun env m => (e env m).bind fun v m1 => (a env m1).bind fun x m2 => (i env m2).bind fun y m3 => (setixO v x y m3).bind fun _ m4 => .ok (.nx, env) m4
def sSetf (a : EM) (f : Str) (e : EM) : SM := fun env m => (e env m).bind fun v m1 => (a env m1).bind fun x m2 => (setfO D v x f m2).bind fun _ m3 => .ok (.nx, env) m3
def sEx (e : EM) : SM := fun env m => (e env m).bind fun _ m1 => .ok (.nx, env) m1
def sRet (e : EM) : SM := fun env m => (e env m).bind fun x m1 => .ok (.rt x, env) m1
def sIff (t : TM) (a b : SM) : SM := fun env m => (t env m).bind fun c m1 => match c with
  | true => a env m1
  | false => b env m1
def sWhil (t : TM) (b : SM) : SM := fun env m => whL t b W env m
def sForr (g : GM) (it : IM) (b : SM) : SM := fun env m => (it env m).bind fun s m1 => forS (fun x m env => match g x m env with
  | some env' => b env' m
  | none => .stuck) s env m1
def sPass : SM := fun env m => .ok (.nx, env) m
def sBrk : SM := fun env m => .ok (.bk, env) m
def sCont : SM := fun env m => .ok (.ct, env) m
def sBad : SM := fun _ _ => .stuck
def ssNil : SM := fun env m => .ok (.nx, env) m
def ssCons (s r : SM) : SM := fun env m => (s env m).bind fun p m1 => match p.1 with
  | .nx => r p.2 m1
  | _ => .ok p m1
end
/-! ### they are the evaluator's -/
section
variable {D : Cl} {W : Nat} {a b c e k : CE} {A B C E K : EM} {t u : CT} {T U : TM} {es ks ls hs : CEs} {ES KS LS HS : AM} {f : CF} {FF : AM} {it : CI} {I : IM} {g : CG} {GG : GM} {gs : CGs} {GS : GsM} {s : CS} {ss st : CSs} {S SS ST : SM}
theorem qV {i : Nat} : evE D (.v i) = kV i := by
  funext env m
  simp only [evE, kV, nth_eq]
  try rfl
theorem qK {p : PV} : evE D (.k p) = kK p := rfl
theorem qBin {o : BOp} (h1 : evE D a = A) (h2 : evE D b = B) : evE D (.bin o a b) = kBin o A B := by subst h1 h2; rfl
theorem qNeg (h1 : evE D a = A) : evE D (.neg a) = kNeg A := by subst h1; rfl
theorem qCmp {o : COp} (h1 : evE D a = A) (h2 : evE D b = B) : evE D (.cmp o a b) = kCmp D o A B := by subst h1 h2; rfl
theorem qChain {o p : COp} (h1 : evE D a = A) (h2 : evE D b = B) (h3 : evE D c = C) : evE D (.chain o p a b c) = kChain o p A B C := by subst h1 h2 h3; rfl
theorem qTest (h1 : evT D t = T) : evE D (.test t) = kTest T := by subst h1; rfl
theorem qIte (h1 : evT D t = T) (h2 : evE D a = A) (h3 : evE D b = B) : evE D (.ite t a b) = kIte T A B := by subst h1 h2 h3; rfl
theorem qTup (h1 : evEs D es = ES) : evE D (.tup es) = kTup ES := by subst h1; rfl
theorem qIx (h1 : evE D a = A) (h2 : evE D b = B) : evE D (.ix a b) = kIx A B := by subst h1 h2; rfl
theorem qSl (h1 : evE D a = A) (h2 : evEs D ls = LS) (h3 : evEs D hs = HS) : evE D (.sl a ls hs) = kSl A LS HS := by subst h1 h2 h3; rfl
theorem qRev1 (h1 : evE D a = A) : evE D (.rev1 a) = kRev1 A := by subst h1; rfl
theorem qM1 {o : M1k} (h1 : evE D a = A) (h2 : evE D b = B) : evE D (.m1 o a b) = kM1 o A B := by subst h1 h2; rfl
theorem qAttr {x : Str} (h1 : evE D a = A) : evE D (.attr a x) = kAttr D A x := by subst h1; rfl
theorem qCall {n : Nat} (h1 : evEs D es = ES) : evE D (.call n es) = kCall D n ES := by subst h1; rfl
theorem qCallk {n x y : Nat} {ar : List Ar} (h1 : evEs D es = ES) (h2 : evEs D ks = KS) : evE D (.callk n es ks x y ar) = kCallk D n ES KS x y ar := by subst h1 h2; rfl
theorem qBi {o : Bi} (h1 : evE D a = A) : evE D (.bi o a) = kBi D o A := by subst h1; rfl
theorem qBi2 {o : Bi} (h1 : evE D a = A) (h2 : evE D b = B) : evE D (.bi2 o a b) = kBi2 o A B := by subst h1 h2; rfl
theorem qIsi {i : Isi} (h1 : evE D a = A) : evE D (.isi a i) = kIsi D A i := by subst h1; rfl
theorem qMeth {x : Str} {n y : Nat} {ar : List (Nat × List Ar)} (h1 : evE D a = A) (h2 : evEs D es = ES) (h3 : evEs D ks = KS) : evE D (.meth x a es ks n y ar) = kMeth D x A ES KS n y ar := by subst h1 h2 h3; rfl
theorem qMake {n y : Nat} {ar : List (Nat × List Ar)} (h1 : evE D a = A) (h2 : evEs D es = ES) (h3 : evEs D ks = KS) : evE D (.make a es ks n y ar) = kMake D A ES KS n y ar := by subst h1 h2 h3; rfl
theorem qDget2 (h1 : evE D a = A) (h2 : evE D b = B) (h3 : evE D c = C) : evE D (.dget2 a b c) = kDget2 A B C := by subst h1 h2 h3; rfl
theorem qDnew : evE D .dnew = kDnew := rfl
theorem qDdis {ks' : List Key} (h : evEs D es = ES) : evE D (.ddis ks' es) = kDdis ks' ES := by subst h; rfl
theorem qDof (h1 : evE D a = A) : evE D (.dof a) = kDof A := by subst h1; rfl
theorem qDcm {own : List Nat} (h1 : setG g = GG) (h2 : evI D it = I) (h3 : evT D t = T) (h4 : evE D k = K) (h5 : evE D e = E) : evE D (.dcm g it t k e own) = kDcm GG I T K E own := by subst h1 h2 h3 h4 h5; rfl
theorem qFz (h1 : evF D f = FF) : evE D (.fz f) = kFz FF := by subst h1; rfl
theorem qCell (h1 : evF D f = FF) : evE D (.cell f) = kCell FF := by subst h1; rfl
theorem qTt : evT D .tt = kTt := rfl
theorem qVal (h1 : evE D a = A) : evT D (.val a) = kVal A := by subst h1; rfl
theorem qNt (h1 : evT D t = T) : evT D (.nt t) = kNt T := by subst h1; rfl
theorem qAn (h1 : evT D t = T) (h2 : evT D u = U) : evT D (.an t u) = kAn T U := by subst h1 h2; rfl
theorem qOr (h1 : evT D t = T) (h2 : evT D u = U) : evT D (.or t u) = kOr T U := by subst h1 h2; rfl
theorem qNil : evEs D .nil = kNil := rfl
theorem qCons (h1 : evE D a = A) (h2 : evEs D es = ES) : evEs D (.cons a es) = kCons A ES := by subst h1 h2; rfl
theorem qStar (h1 : evE D a = A) (h2 : evEs D es = ES) : evEs D (.star a es) = kStar A ES := by subst h1 h2; rfl
theorem qLst (h1 : evEs D es = ES) : evF D (.lst es) = kLst ES := by subst h1; rfl
theorem qLc {own : List Nat} (h1 : setG g = GG) (h2 : evI D it = I) (h3 : evT D t = T) (h4 : evE D e = E) : evF D (.lc g it t e own) = kLc GG I T E own := by
  subst h1 h2 h3 h4
  funext env m
  simp only [evF, kLc, lcS_eq]
  try rfl
theorem qLof (h1 : evE D a = A) : evF D (.lof a) = kLof A := by subst h1; rfl
theorem qSrt (h1 : evE D a = A) : evF D (.srt a) = kSrt A := by subst h1; rfl
theorem qSeq (h1 : evE D a = A) : evI D (.seq a) = iSeq A := by subst h1; rfl
theorem qRange (h1 : evEs D es = ES) : evI D (.range es) = iRange ES := by subst h1; rfl
theorem qRev (h1 : evE D a = A) : evI D (.rev a) = iRev A := by subst h1; rfl
theorem qEnum (h1 : evE D a = A) : evI D (.enum a) = iEnum A := by subst h1; rfl
theorem qZip (h1 : evE D a = A) (h2 : evE D b = B) : evI D (.zip a b) = iZip A B := by subst h1 h2; rfl
theorem qgV {i : Nat} : setG (.v i) = gV i := by
  funext v m env
  simp only [setG, gV, putO_eq]
theorem qgT (h1 : setGs gs = GS) : setG (.t gs) = gT GS := by subst h1; rfl
theorem qgNil : setGs .nil = gNil := by
  funext xs m env
  cases xs <;> rfl
theorem qgCons (h1 : setG g = GG) (h2 : setGs gs = GS) : setGs (.cons g gs) = gCons GG GS := by
  subst h1 h2
  funext xs m env
  cases xs <;> rfl
theorem qAsg (h1 : setG g = GG) (h2 : evE D e = E) : exS D W (.asg g e) = sAsg GG E := by subst h1 h2; rfl
theorem qSetix (h1 : evE D a = A) (h2 : evE D b = B) (h3 : evE D c = C) : exS D W (.setix a b c) = sSetix A B C := by subst h1 h2 h3; rfl
theorem qSetf {x : Str} (h1 : evE D a = A) (h2 : evE D b = B) : exS D W (.setf a x b) = sSetf D A x B := by subst h1 h2; rfl
theorem qEx (h1 : evE D a = A) : exS D W (.ex a) = sEx A := by subst h1; rfl
theorem qRet (h1 : evE D a = A) : exS D W (.ret a) = sRet A := by subst h1; rfl
theorem qIff (h1 : evT D t = T) (h2 : exSs D W ss = SS) (h3 : exSs D W st = ST) : exS D W (.iff t ss st) = sIff T SS ST := by subst h1 h2 h3; rfl
theorem qWhil (h1 : evT D t = T) (h2 : exSs D W ss = SS) : exS D W (.whil t ss) = sWhil W T SS := by subst h1 h2; rfl
theorem qForr (h1 : setG g = GG) (h2 : evI D it = I) (h3 : exSs D W ss = SS) : exS D W (.forr g it ss) = sForr GG I SS := by
  subst h1 h2 h3
  funext env m
  simp only [exS, sForr, forS_eq]
  try rfl
theorem qPass : exS D W .pass = sPass := rfl
theorem qBrk : exS D W .brk = sBrk := rfl
theorem qCont : exS D W .cont = sCont := rfl
theorem qBad : exS D W .bad = sBad := rfl
theorem qsNil : exSs D W .nil = ssNil := rfl
theorem qsCons (h1 : exS D W s = S) (h2 : exSs D W ss = SS) : exSs D W (.cons s ss) = ssCons S SS := by subst h1 h2; rfl
end
/-! ### all defs -/
abbrev FnG : Type := Nat × (Nat × (Cl → SM))
def callG (F : FnG) (D : Cl) (xs : List PV) (m : Mem) : Out PV := ck (decide (xs.length = F.1)) ((F.2.2 D (xs.map some ++ List.replicate (F.2.1 - xs.length) none) m).bind fun p m1 => match p.1 with
  | .rt v => .ok v m1
  | .nx => .ok .non m1
  | _ => .stuck)
def runG (L : List FnG) (mk : (Nat → List PV → M PV) → Cl) : Nat → Nat → List PV → M PV
  | 0, _, _, _ => .stuck
  | n + 1, f, xs, m => match nth L f with
    | some F => callG F (mk (runG L mk n)) xs m
    | none => .stuck
/-- one def is told rightly -/
def FnIs (W : Nat) : Option CFn → Option FnG → Prop
  | some F, some G => F.nargs = G.1 ∧ F.nslots = G.2.1 ∧ ∀ D, exSs D W F.body = G.2.2 D
  | none, none => True
  | _, _ => False
theorem runG_eq {T : Tab} {W : Nat} {L : List FnG} (h : ∀ f, FnIs W (T.fn f) (nth L f)) : ∀ n, runFn T W n = runG L T.cl n
  | 0 => rfl
  | n + 1 => by
    have ih := runG_eq h n
    funext f xs m
    have hf := h f
    simp only [runFn, runG]
    cases e1 : T.fn f with
    | none =>
      cases e2 : nth L f with
      | none => rfl
      | some G => rw [e1, e2] at hf; exact hf.elim
    | some F =>
      cases e2 : nth L f with
      | none => rw [e1, e2] at hf; exact hf.elim
      | some G =>
        rw [e1, e2] at hf
        obtain ⟨h1, h2, h3⟩ := hf
        dsimp only
        rw [h1, h2, h3, ih]
        rfl
end Co

end P_CoreFast
section P_CoreEv
set_option Elab.async false
set_option linter.all false
set_option maxRecDepth 100000
set_option maxHeartbeats 1000000
/-! CoreEv: clauses over shapes that are known: rules for rewriting. -/
namespace Co
open PySem
namespace Ev
section
variable {D : Cl} {env : Co.Env} {m : Mem} {v : PV} {o : Option PV} {a b c : EM} {t u : TM} {es ks : AM} {i j : Int} {x y : Str} {xs ys : List PV} {k n : Nat}
theorem v0 : kV 0 (some v :: env) m = .ok v m := rfl
theorem vs : kV (n + 1) (o :: env) m = kV n env m := rfl
theorem kk : kK v env m = .ok v m := rfl
theorem bin {p : BOp} : kBin p a b env m = (a env m).bind fun x m1 => (b env m1).bind fun y m2 => Out.of (binop p (vw m2 x) (vw m2 y)) m2 := rfl
theorem cmp {p : COp} : kCmp D p a b env m = (a env m).bind fun x m1 => (b env m1).bind fun y m2 => cmpV D p x y m2 := rfl
theorem bok {α β : Type} {z : α} {f : α → Mem → Out β} : (Out.ok z m).bind f = f z m := rfl
theorem ofs {α : Type} {z : α} : Out.of (some z) m = .ok z m := rfl
theorem test : kTest t env m = (t env m).bind fun b m1 => .ok (.bl b) m1 := rfl
theorem iteE : kIte t a b env m = (t env m).bind fun c m1 => match c with
  | true => a env m1
  | false => b env m1 := rfl
theorem val : kVal a env m = (a env m).bind fun x m1 => Out.of (asBool (vw m1 x)) m1 := rfl
theorem nt : kNt t env m = (t env m).bind fun b m1 => .ok (!b) m1 := rfl
theorem an : kAn t u env m = (t env m).bind fun c m1 => match c with
  | true => u env m1
  | false => .ok false m1 := rfl
theorem orE : kOr t u env m = (t env m).bind fun c m1 => match c with
  | true => .ok true m1
  | false => u env m1 := rfl
theorem tt : kTt env m = .ok true m := rfl
theorem enil : kNil env m = .ok [] m := rfl
theorem econs : kCons a es env m = (a env m).bind fun x m1 => (es env m1).bind fun xs m2 => .ok (x :: xs) m2 := rfl
theorem tup : kTup es env m = (es env m).bind fun xs m1 => ck (decide (xs.length ≤ 100000)) (.ok (.tup xs) m1) := rfl
theorem lst : kLst es env m = (es env m).bind fun xs m1 => ck (decide (xs.length ≤ 100000)) (.ok xs m1) := rfl
theorem fz : kFz es env m = (es env m).bind fun xs m1 => .ok (.lst xs) m1 := rfl
theorem cell : kCell es env m = (es env m).bind fun xs m1 => .ok (.ref m1.length) (m1 ++ [.lst xs]) := rfl
theorem ix : kIx a b env m = (a env m).bind fun x m1 => (b env m1).bind fun y m2 => Out.of (ixop (vw m2 x) y) m2 := rfl
theorem call : kCall D n es env m = (es env m).bind fun xs m1 => D.call n xs m1 := rfl
theorem bi {p : Bi} : kBi D p a env m = (a env m).bind fun x m1 => biO D p x m1 := rfl
theorem bi2 {p : Bi} : kBi2 p a b env m = (a env m).bind fun x m1 => (b env m1).bind fun y m2 => Out.of (builtin2 p x y) m2 := rfl
theorem isi {p : Isi} : kIsi D a p env m = (a env m).bind fun x m1 => Out.of ((isiop D.nC p (vw m1 x)).map .bl) m1 := rfl
theorem m1 {p : M1k} : kM1 p a b env m = (a env m).bind fun x m1 => ck (recOk p m1 x) ((b env m1).bind fun y m2 => m1O p x y m2) := rfl
theorem attr : kAttr D a x env m = (a env m).bind fun q m1 => attO D x q m1 := rfl
theorem sl {lo hi : AM} : kSl a lo hi env m = (a env m).bind fun x m1 => (lo env m1).bind fun l m2 => (Out.of (partO l) m2).bind fun lo m2 => (hi env m2).bind fun h m3 => (Out.of (partO h) m3).bind fun hi m3 => Out.of (slop (vw m3 x) lo hi) m3 := rfl
theorem lof : kLof a env m = (a env m).bind fun x m1 => Out.of (lofO (vw m1 x)) m1 := rfl
theorem ddis {ks' : List L2.Key} : kDdis ks' es env m = (es env m).bind fun vs m1 => ck (decide (vs.length = ks'.length)) (.ok (.ref m1.length) (m1 ++ [.dic ks' vs])) := rfl
theorem dof : kDof a env m = (a env m).bind fun x m1 => dofO x m1 := rfl
theorem dcm {g : GM} {it : IM} {t : TM} {k e : EM} {own : List Nat} : kDcm g it t k e own env m = (it env m).bind fun s m1 => (dcL (fun x m => match g x m (wipeE env own) with
    | some env' => (t env' m).bind fun b m2 => match b with
      | true => (k env' m2).bind fun q m3 => (e env' m3).bind fun y m4 => Out.of ((asKey q).map fun k => some (k, y)) m4
      | false => .ok none m2
    | none => .stuck) s (srcFuel s) 0 [] [] m1).bind fun r m2 => .ok (.ref m2.length) (m2 ++ [.dic r.1 r.2]) := rfl
theorem rev1 : kRev1 a env m = (a env m).bind fun x m1 => match vw m1 x with
  | .lst xs => .ok (.lst xs.reverse) m1
  | _ => .stuck := rfl
theorem srt : kSrt a env m = (a env m).bind fun x m1 => Out.of (srtO (vw m1 x)) m1 := rfl
theorem chain {p q : COp} : kChain p q a b c env m = (a env m).bind fun x m1 => (b env m1).bind fun y m2 => match cmpop p (vw m2 x) (vw m2 y) with
  | some true => (c env m2).bind fun z m3 => Out.of ((cmpop q (vw m3 y) (vw m3 z)).map .bl) m3
  | some false => .ok (.bl false) m2
  | none => .stuck := rfl
theorem lc {gg : GM} {ii : IM} {own : List Nat} : kLc gg ii t a own env m = (ii env m).bind fun s m1 => lcS (fun x m => match gg x m (wipeE env own) with
    | some env' => (t env' m).bind fun b m2 => match b with
      | true => (a env' m2).bind fun y m3 => .ok (some y) m3
      | false => .ok none m2
    | none => .stuck) s m1 := rfl
theorem lcf {f : PV → Mem → Out (Option PV)} : lcS f (.fix xs) m = lcFx f xs m := rfl
theorem forf {f : PV → Mem → Co.Env → Out (Fl × Co.Env)} : forS f (.fix xs) env m = forFx f xs env m := rfl
theorem wi0 : wipeE env [] = env := rfl
theorem wi1 {l : List Nat} : wipeE env (n :: l) = (wipeE env l).set n none := rfl
/-! statements -/
variable {g : GM} {gs : GsM} {it : IM} {s r s2 : SM} {e : EM} {z : Option PV}
theorem gv0 : gV 0 v m (o :: env) = some (some v :: env) := rfl
theorem gvs : gV (n + 1) v m (o :: env) = (match gV n v m env with
  | some l => some (o :: l)
  | none => none) := by
  simp only [gV, putO]
  cases putO (some v) env n <;> rfl
theorem gt : gT gs v m env = (match vw m v with
  | .tup xs => gs xs m env
  | .lst xs => gs xs m env
  | _ => none) := rfl
theorem gnil : gNil [] m env = some env := rfl
theorem gcons : gCons g gs (v :: xs) m env = (match g v m env with
  | some e => gs xs m e
  | none => none) := rfl
theorem asg : sAsg g e env m = (e env m).bind fun x m1 => match g x m1 env with
  | some env' => .ok (.nx, env') m1
  | none => .stuck := rfl
theorem setix : sSetix a b c env m = (c env m).bind fun v m1 => (a env m1).bind fun x m2 => (b env m2).bind fun y m3 => (setixO v x y m3).bind fun _ m4 => .ok (.nx, env) m4 := rfl
theorem setf {f : Str} : sSetf D a f b env m = (b env m).bind fun v m1 => (a env m1).bind fun x m2 => (setfO D v x f m2).bind fun _ m3 => .ok (.nx, env) m3 := rfl
theorem make {n y : Nat} {ar : List (Nat × List Ar)} : kMake D a es ks n y ar env m = (a env m).bind fun x m1 => (Out.of (iniO D x) m1).bind fun k m2 => (es env m2).bind fun xs m3 => (ks env m3).bind fun zs m4 => (Out.of ((ar.lookup k.2).bind fun ar => pickN (n + 1) y (.ref m4.length :: xs) zs ar) m4).bind fun ys m5 => (D.call k.2 ys (m5 ++ [.ins k.1 [] []])).bind fun r m6 => madeO m5.length r m6 := rfl
theorem callk {f n y : Nat} {ar : List Ar} : kCallk D f es ks n y ar env m = (es env m).bind fun xs m1 => (ks env m1).bind fun zs m2 => (Out.of (pickN n y xs zs ar) m2).bind fun ys m3 => D.call f ys m3 := rfl
theorem meth {f : Str} {n y : Nat} {ar : List (Nat × List Ar)} : kMeth D f a es ks n y ar env m = (a env m).bind fun x m1 => (Out.of (metO D f x m1) m1).bind fun k m2 => (es env m2).bind fun xs m3 => (ks env m3).bind fun zs m4 => (Out.of ((ar.lookup k).bind fun ar => pickN (n + 1) y (x :: xs) zs ar) m4).bind fun ys m5 => D.call k ys m5 := rfl
theorem ienum : iEnum a env m = (a env m).bind fun x m1 => match x with
  | .lst xs => .ok (.fix (xs.zipIdx.map fun q => .tup [.int (q.2 : Int), q.1])) m1
  | _ => .stuck := rfl
theorem dnew : kDnew env m = .ok (.ref m.length) (m ++ [.dic [] []]) := rfl
theorem dget2 : kDget2 a b c env m = (a env m).bind fun x m1 => ck (isDic m1 x) ((b env m1).bind fun y m2 => (c env m2).bind fun z m3 => Out.of ((dgetO (vw m3 x) y).map fun o => o.getD z) m3) := rfl
theorem irev : iRev a env m = (a env m).bind fun x m1 => match x with
  | .lst xs => .ok (.fix xs.reverse) m1
  | .tup xs => .ok (.fix xs.reverse) m1
  | _ => .stuck := rfl
theorem ex : sEx e env m = (e env m).bind fun _ m1 => .ok (.nx, env) m1 := rfl
theorem ret : sRet e env m = (e env m).bind fun x m1 => .ok (.rt x, env) m1 := rfl
theorem iff : sIff t s r env m = (t env m).bind fun c m1 => match c with
  | true => s env m1
  | false => r env m1 := rfl
theorem forr : sForr g it s env m = (it env m).bind fun q m1 => forS (fun x m env => match g x m env with
  | some env' => s env' m
  | none => .stuck) q env m1 := rfl
theorem snil : ssNil env m = .ok (.nx, env) m := rfl
theorem scons : ssCons s r env m = (s env m).bind fun p m1 => match p.1 with
  | .nx => r p.2 m1
  | _ => .ok p m1 := rfl
theorem iseq : iSeq a env m = (a env m).bind fun x m1 => match x with
  | .lst xs => .ok (.fix xs) m1
  | .tup xs => .ok (.fix xs) m1
  | .scr ns => .ok (.fix (ns.map .int)) m1
  | .str x => ck (decide (x.length ≤ 100000)) (.ok (.fix (x.cps.toList.map fun c => PV.str ⟨#[c]⟩)) m1)
  | .ref n => match m1[n]? with
    | some (.lst _) => .ok (.live n) m1
    | _ => .stuck
  | _ => .stuck := rfl
theorem irange : iRange es env m = (es env m).bind fun xs m1 => match xs with
  | [.int j] => ck (decide (-100000 ≤ j) && decide (j ≤ 100000)) (.ok (.fix ((List.range j.toNat).map fun (i : Nat) => PV.int (i : Int))) m1)
  | _ => .stuck := rfl
/-! values -/
theorem vwI : vw m (.int i) = .int i := rfl
theorem vwS : vw m (.str x) = .str x := rfl
theorem vwB {q : Bool} : vw m (.bl q) = .bl q := rfl
theorem vwN : vw m .non = .non := rfl
theorem vwL : vw m (.lst xs) = .lst xs := rfl
theorem vwT : vw m (.tup xs) = .tup xs := rfl
theorem vwO {cc : Nat} {ns : List Str} : vw m (.obj cc ns xs) = .obj cc ns xs := rfl
theorem vwR (h : m[k]? = some (.lst xs)) : vw m (.ref k) = .lst xs := by simp only [vw, h]
theorem vwD {ls : List L2.Key} (h : m[k]? = some (.dic ls xs)) : vw m (.ref k) = .dic ls xs := by simp only [vw, h]
theorem po0 : partO [] = some none := rfl
theorem poi : partO [.int i] = some (some i) := rfl
theorem slL {lo hi : Option Int} : slop (.lst xs) lo hi = some (.lst (cutP xs lo hi)) := rfl
theorem asb {q : Bool} : asBool (.bl q) = some q := rfl
theorem ckT {α : Type} {o : Out α} : ck true o = o := rfl
theorem addI : binop .add (.int i) (.int j) = some (.int (i + j)) := rfl
theorem subI : binop .sub (.int i) (.int j) = some (.int (i - j)) := rfl
theorem mulI (h1 : fits i = true) (h2 : fits j = true) : binop .mul (.int i) (.int j) = some (.int (i * j)) := by simp only [binop, h1, h2, Bool.and_self, if_true]
theorem modI (h : 0 < j) : binop .mod (.int i) (.int j) = some (.int (i % j)) := by simp only [binop, h, decide_true, if_true]
theorem fdivI (h : 0 < j) (h2 : fits j = true) : binop .fdiv (.int i) (.int j) = some (.int (i / j)) := by simp only [binop, h, h2, decide_true, Bool.and_self, if_true]
theorem ltI : cmpV D .lt (.int i) (.int j) m = .ok (.bl (decide (i < j))) m := rfl
theorem leI : cmpV D .le (.int i) (.int j) m = .ok (.bl (decide (i ≤ j))) m := rfl
theorem gtI : cmpV D .gt (.int i) (.int j) m = .ok (.bl (decide (j < i))) m := rfl
theorem geI : cmpV D .ge (.int i) (.int j) m = .ok (.bl (decide (j ≤ i))) m := rfl
theorem eqI : cmpV D .eq (.int i) (.int j) m = .ok (.bl (decide (i = j))) m := by
  show Out.of ((cmpop .eq (.int i) (.int j)).map PV.bl) m = _
  have : cmpop .eq (.int i) (.int j) = some (decide (i = j)) := by
    show some (PyData.eqv (.int i) (.int j)) = _
    congr 1
  rw [this]
  rfl
theorem neI : cmpV D .ne (.int i) (.int j) m = .ok (.bl (!decide (i = j))) m := by
  show Out.of ((cmpop .ne (.int i) (.int j)).map PV.bl) m = _
  have : cmpop .ne (.int i) (.int j) = some (!decide (i = j)) := by
    show some (!PyData.eqv (.int i) (.int j)) = _
    congr 1
  rw [this]
  rfl
theorem intI : biO D .int (.int i) m = .ok (.int i) m := rfl
theorem absI : biO D .abs (.int i) m = .ok (.int (if i < 0 then -i else i)) m := rfl
theorem lenL : biO D .len (.lst xs) m = .ok (.int xs.length) m := rfl
theorem lenT : biO D .len (.tup xs) m = .ok (.int xs.length) m := rfl
theorem lenC {ns : List Int} : biO D .len (.scr ns) m = .ok (.int ns.length) m := rfl
theorem lenR (h : m[k]? = some (.lst xs)) : biO D .len (.ref k) m = .ok (.int xs.length) m := by
  unfold biO
  rw [vwR h]
  rfl
theorem strS : biO D .str (.str x) m = .ok (.str x) m := rfl
theorem tupL : biO D .tuple (.lst xs) m = .ok (.tup xs) m := rfl
theorem tupT : biO D .tuple (.tup xs) m = .ok (.tup xs) m := rfl
theorem tupR (h : m[k]? = some (.lst xs)) : biO D .tuple (.ref k) m = .ok (.tup xs) m := by
  unfold biO
  rw [vwR h]
  rfl
end
end Ev
/-- the outcome is a value, so -/
def wp {α : Type} (o : Out α) (Q : α → Mem → Prop) : Prop := match o with
  | .ok a m => Q a m
  | _ => False
section
variable {α β : Type} {o : Out α} {f : α → Mem → Out β} {Q : α → Mem → Prop} {R : β → Mem → Prop} {m : Mem}
theorem wp_ok {a : α} : wp (.ok a m) Q = Q a m := rfl
theorem wp_bind : wp (o.bind f) R = wp o fun a m => wp (f a m) R := by
  cases o <;> rfl
theorem wp_mono (h : wp o Q) {Q' : α → Mem → Prop} (k : ∀ a m, Q a m → Q' a m) : wp o Q' := by
  cases o with
  | ok a m => exact k a m h
  | exc e m => exact h
  | stuck => exact h
theorem wp_then (h : wp o Q) (k : ∀ a m, Q a m → wp (f a m) R) : wp (o.bind f) R := by
  rw [wp_bind]
  exact wp_mono h k
theorem wp_ex (h : wp o Q) : ∃ a m, o = .ok a m ∧ Q a m := by
  cases o with
  | ok a m => exact ⟨a, m, rfl, h⟩
  | exc e m => exact h.elim
  | stuck => exact h.elim
theorem wp_ckt {b : Bool} (h : b = true) : wp (ck b o) Q = wp o Q := by subst h; rfl
end
theorem callG_wp {F : FnG} {D : Cl} {xs : List PV} {m : Mem} {Q : PV → Mem → Prop} (hl : xs.length = F.1) (h : wp (F.2.2 D (xs.map some ++ List.replicate (F.2.1 - xs.length) none) m) fun p m1 => match p.1 with
    | .rt v => Q v m1
    | .nx => Q .non m1
    | _ => False) : wp (callG F D xs m) Q := by
  unfold callG
  rw [wp_ckt (decide_eq_true hl), wp_bind]
  refine wp_mono h fun p m1 hp => ?_
  cases q : p.1 with
  | nx => rw [q] at hp; exact hp
  | rt v => rw [q] at hp; exact hp
  | bk => rw [q] at hp; exact hp.elim
  | ct => rw [q] at hp; exact hp.elim
end Co

end P_CoreEv
section P_CoreData
set_option Elab.async false
set_option linter.all false
set_option maxRecDepth 100000
set_option maxHeartbeats 1000000
/-! CoreData: plain data: numbers and texts in lists and tuples. -/
namespace Co
open PySem
mutual
/-- numbers, texts, lists and tuples of such, so deep at most -/
def pl : Nat → PV → Bool
  | _, .int _ => true
  | _, .str x => PyData.strOk x
  | n + 1, .tup xs => pls n xs
  | n + 1, .lst xs => pls n xs
  | _, _ => false
def pls : Nat → List PV → Bool
  | _, [] => true
  | n, x :: xs => pl n x && pls n xs
end
theorem pls_all : ∀ {n : Nat} {xs : List PV}, pls n xs = true ↔ ∀ x ∈ xs, pl n x = true
  | n, [] => by simp [pls]
  | n, x :: xs => by
    simp only [pls, Bool.and_eq_true, List.forall_mem_cons, pls_all (n := n) (xs := xs)]
mutual
theorem pl_toD : ∀ (n : Nat) (v : PV), pl n v = true → ∃ d, toD v = some d ∧ d.canLay0 = true ∧ d.depth ≤ n
  | _, .int i, _ => ⟨.int i, rfl, rfl, Nat.zero_le _⟩
  | _, .str x, h => ⟨.str x, rfl, by unfold pl at h; simpa [PyData.canLay0] using h, Nat.zero_le _⟩
  | n + 1, .tup xs, h => by
    simp only [pl] at h
    obtain ⟨ds, h1, h2, h3⟩ := pls_toD n xs h
    refine ⟨.tuple ds, by simp [toD, h1], by simpa [PyData.canLay0] using h2, ?_⟩
    simp only [PyData.depth]; omega
  | n + 1, .lst xs, h => by
    simp only [pl] at h
    obtain ⟨ds, h1, h2, h3⟩ := pls_toD n xs h
    refine ⟨.list ds, by simp [toD, h1], by simpa [PyData.canLay0] using h2, ?_⟩
    simp only [PyData.depth]; omega
  | n, .non, h => by cases n <;> simp [pl] at h
  | n, .bl b, h => by cases n <;> simp [pl] at h
  | n, .dic _ _, h => by cases n <;> simp [pl] at h
  | n, .obj _ _ _, h => by cases n <;> simp [pl] at h
  | n, .ref _, h => by cases n <;> simp [pl] at h
  | n, .scr _, h => by cases n <;> simp [pl] at h
  | n, .cls _, h => by cases n <;> simp [pl] at h
  | 0, .tup xs, h => by simp [pl] at h
  | 0, .lst xs, h => by simp [pl] at h
theorem pls_toD : ∀ (n : Nat) (xs : List PV), pls n xs = true → ∃ ds, toDs xs = some ds ∧ PyData.canLayAll0 ds = true ∧ PyData.depthAll ds ≤ n
  | _, [], _ => ⟨[], rfl, by simp [PyData.canLayAll0], by simp [PyData.depthAll]⟩
  | n, x :: xs, h => by
    simp only [pls, Bool.and_eq_true] at h
    obtain ⟨d, h1, h2, h3⟩ := pl_toD n x h.1
    obtain ⟨ds, k1, k2, k3⟩ := pls_toD n xs h.2
    refine ⟨d :: ds, by simp [toDs, h1, k1], by simp [PyData.canLayAll0, h2, k2], ?_⟩
    simp only [PyData.depthAll]; omega
end
theorem pl_datum {n : Nat} {v : PV} (h : pl n v = true) (hn : n ≤ 64) : ∃ d, toD v = some d ∧ datum v = some d := by
  obtain ⟨d, h1, h2, h3⟩ := pl_toD n v h
  refine ⟨d, h1, ?_⟩
  unfold datum
  rw [h1]
  have : SeqAt.shaped d = true := by
    unfold SeqAt.shaped
    rw [h2, decide_eq_true (by omega)]
    rfl
  simp [this]
mutual
theorem eqv_pl : ∀ (n k : Nat) (a b : PV) (d e : PyData), pl n a = true → pl k b = true → toD a = some d → toD b = some e → (PyData.eqv d e = true ↔ a = b)
  | n, k, .int i, .int j, d, e, _, _, hd, he => by cases hd; cases he; simp [PyData.eqv]
  | n, k, .str i, .str j, d, e, _, _, hd, he => by cases hd; cases he; simp [PyData.eqv]
  | n, k, .int i, .str j, d, e, _, _, hd, he => by cases hd; cases he; simp [PyData.eqv]
  | n, k, .str i, .int j, d, e, _, _, hd, he => by cases hd; cases he; simp [PyData.eqv]
  | n + 1, k + 1, .tup xs, .tup ys, d, e, ha, hb, hd, he => by
    simp only [pl] at ha hb
    obtain ⟨ds, h1, _⟩ := pls_toD n xs ha
    obtain ⟨es, h2, _⟩ := pls_toD k ys hb
    simp only [toD, h1, h2, Option.map_some, Option.some.injEq] at hd he
    subst hd he
    simp only [PyData.eqv, PV.tup.injEq]
    exact eqvs_pl n k xs ys ds es ha hb h1 h2
  | n + 1, k + 1, .lst xs, .lst ys, d, e, ha, hb, hd, he => by
    simp only [pl] at ha hb
    obtain ⟨ds, h1, _⟩ := pls_toD n xs ha
    obtain ⟨es, h2, _⟩ := pls_toD k ys hb
    simp only [toD, h1, h2, Option.map_some, Option.some.injEq] at hd he
    subst hd he
    simp only [PyData.eqv, PV.lst.injEq]
    exact eqvs_pl n k xs ys ds es ha hb h1 h2
  | n + 1, k, .tup xs, b, d, e, ha, hb, hd, he => by
    simp only [pl] at ha
    obtain ⟨ds, h1, _⟩ := pls_toD n xs ha
    simp only [toD, h1, Option.map_some, Option.some.injEq] at hd
    subst hd
    cases b with
    | int j => cases he; simp [PyData.eqv]
    | str j => cases he; simp [PyData.eqv]
    | tup ys =>
      cases k with
      | zero => simp [pl] at hb
      | succ k =>
        simp only [pl] at hb
        obtain ⟨es, h2, _⟩ := pls_toD k ys hb
        simp only [toD, h2, Option.map_some, Option.some.injEq] at he
        subst he
        simp only [PyData.eqv, PV.tup.injEq]
        exact eqvs_pl n k xs ys ds es ha hb h1 h2
    | lst ys =>
      cases k with
      | zero => simp [pl] at hb
      | succ k =>
        simp only [pl] at hb
        obtain ⟨es, h2, _⟩ := pls_toD k ys hb
        simp only [toD, h2, Option.map_some, Option.some.injEq] at he
        subst he
        simp [PyData.eqv]
    | _ => cases k <;> simp [pl] at hb
  | n + 1, k, .lst xs, b, d, e, ha, hb, hd, he => by
    simp only [pl] at ha
    obtain ⟨ds, h1, _⟩ := pls_toD n xs ha
    simp only [toD, h1, Option.map_some, Option.some.injEq] at hd
    subst hd
    cases b with
    | int j => cases he; simp [PyData.eqv]
    | str j => cases he; simp [PyData.eqv]
    | lst ys =>
      cases k with
      | zero => simp [pl] at hb
      | succ k =>
        simp only [pl] at hb
        obtain ⟨es, h2, _⟩ := pls_toD k ys hb
        simp only [toD, h2, Option.map_some, Option.some.injEq] at he
        subst he
        simp only [PyData.eqv, PV.lst.injEq]
        exact eqvs_pl n k xs ys ds es ha hb h1 h2
    | tup ys =>
      cases k with
      | zero => simp [pl] at hb
      | succ k =>
        simp only [pl] at hb
        obtain ⟨es, h2, _⟩ := pls_toD k ys hb
        simp only [toD, h2, Option.map_some, Option.some.injEq] at he
        subst he
        simp [PyData.eqv]
    | _ => cases k <;> simp [pl] at hb
  | n, k + 1, .int i, .tup ys, d, e, ha, hb, hd, he => by
    simp only [pl] at hb
    obtain ⟨es, h2, _⟩ := pls_toD k ys hb
    simp only [toD, h2, Option.map_some, Option.some.injEq] at he
    subst he; cases hd
    simp [PyData.eqv]
  | n, k + 1, .int i, .lst ys, d, e, ha, hb, hd, he => by
    simp only [pl] at hb
    obtain ⟨es, h2, _⟩ := pls_toD k ys hb
    simp only [toD, h2, Option.map_some, Option.some.injEq] at he
    subst he; cases hd
    simp [PyData.eqv]
  | n, k + 1, .str i, .tup ys, d, e, ha, hb, hd, he => by
    simp only [pl] at hb
    obtain ⟨es, h2, _⟩ := pls_toD k ys hb
    simp only [toD, h2, Option.map_some, Option.some.injEq] at he
    subst he; cases hd
    simp [PyData.eqv]
  | n, k + 1, .str i, .lst ys, d, e, ha, hb, hd, he => by
    simp only [pl] at hb
    obtain ⟨es, h2, _⟩ := pls_toD k ys hb
    simp only [toD, h2, Option.map_some, Option.some.injEq] at he
    subst he; cases hd
    simp [PyData.eqv]
  | 0, _, .tup _, _, _, _, h, _, _, _ => by simp [pl] at h
  | 0, _, .lst _, _, _, _, h, _, _, _ => by simp [pl] at h
  | _, 0, .int _, .tup _, _, _, _, h, _, _ => by simp [pl] at h
  | _, 0, .int _, .lst _, _, _, _, h, _, _ => by simp [pl] at h
  | _, 0, .str _, .tup _, _, _, _, h, _, _ => by simp [pl] at h
  | _, 0, .str _, .lst _, _, _, _, h, _, _ => by simp [pl] at h
  | n, _, .non, _, _, _, h, _, _, _ => by cases n <;> simp [pl] at h
  | n, _, .bl _, _, _, _, h, _, _, _ => by cases n <;> simp [pl] at h
  | n, _, .dic _ _, _, _, _, h, _, _, _ => by cases n <;> simp [pl] at h
  | n, _, .obj _ _ _, _, _, _, h, _, _, _ => by cases n <;> simp [pl] at h
  | n, _, .ref _, _, _, _, h, _, _, _ => by cases n <;> simp [pl] at h
  | n, _, .scr _, _, _, _, h, _, _, _ => by cases n <;> simp [pl] at h
  | n, _, .cls _, _, _, _, h, _, _, _ => by cases n <;> simp [pl] at h
  | _, n, .int _, .non, _, _, _, h, _, _ => by cases n <;> simp [pl] at h
  | _, n, .int _, .bl _, _, _, _, h, _, _ => by cases n <;> simp [pl] at h
  | _, n, .int _, .dic _ _, _, _, _, h, _, _ => by cases n <;> simp [pl] at h
  | _, n, .int _, .obj _ _ _, _, _, _, h, _, _ => by cases n <;> simp [pl] at h
  | _, n, .int _, .ref _, _, _, _, h, _, _ => by cases n <;> simp [pl] at h
  | _, n, .int _, .scr _, _, _, _, h, _, _ => by cases n <;> simp [pl] at h
  | _, n, .int _, .cls _, _, _, _, h, _, _ => by cases n <;> simp [pl] at h
  | _, n, .str _, .non, _, _, _, h, _, _ => by cases n <;> simp [pl] at h
  | _, n, .str _, .bl _, _, _, _, h, _, _ => by cases n <;> simp [pl] at h
  | _, n, .str _, .dic _ _, _, _, _, h, _, _ => by cases n <;> simp [pl] at h
  | _, n, .str _, .obj _ _ _, _, _, _, h, _, _ => by cases n <;> simp [pl] at h
  | _, n, .str _, .ref _, _, _, _, h, _, _ => by cases n <;> simp [pl] at h
  | _, n, .str _, .scr _, _, _, _, h, _, _ => by cases n <;> simp [pl] at h
  | _, n, .str _, .cls _, _, _, _, h, _, _ => by cases n <;> simp [pl] at h
theorem eqvs_pl : ∀ (n k : Nat) (a b : List PV) (d e : List PyData), pls n a = true → pls k b = true → toDs a = some d → toDs b = some e → (PyData.eqvAll d e = true ↔ a = b)
  | n, k, [], [], d, e, _, _, hd, he => by cases hd; cases he; simp [PyData.eqvAll]
  | n, k, x :: xs, [], d, e, ha, _, hd, he => by
    obtain ⟨ds, h1, _⟩ := pls_toD n (x :: xs) ha
    rw [hd] at h1
    cases he
    simp only [toDs] at hd
    split at hd
    · cases hd; simp [PyData.eqvAll]
    · cases hd
  | n, k, [], y :: ys, d, e, _, hb, hd, he => by
    cases hd
    simp only [toDs] at he
    split at he
    · cases he; simp [PyData.eqvAll]
    · cases he
  | n, k, x :: xs, y :: ys, d, e, ha, hb, hd, he => by
    simp only [pls, Bool.and_eq_true] at ha hb
    obtain ⟨d1, h1, _⟩ := pl_toD n x ha.1
    obtain ⟨d2, h2, _⟩ := pls_toD n xs ha.2
    obtain ⟨e1, k1, _⟩ := pl_toD k y hb.1
    obtain ⟨e2, k2, _⟩ := pls_toD k ys hb.2
    simp only [toDs, h1, h2, k1, k2, Option.some.injEq] at hd he
    subst hd he
    simp only [PyData.eqvAll, Bool.and_eq_true, List.cons.injEq]
    rw [eqv_pl n k x y d1 e1 ha.1 hb.1 h1 k1, eqvs_pl n k xs ys d2 e2 ha.2 hb.2 h2 k2]
end
theorem eq_pl {n k : Nat} {a b : PV} (ha : pl n a = true) (hb : pl k b = true) (hn : n ≤ 64) (hk : k ≤ 64) : ∃ q : Bool, cmpop .eq a b = some q ∧ cmpop .ne a b = some (!q) ∧ (q = true ↔ a = b) := by
  obtain ⟨d, h1, h2⟩ := pl_datum ha hn
  obtain ⟨e, k1, k2⟩ := pl_datum hb hk
  refine ⟨PyData.eqv d e, ?_, ?_, eqv_pl n k a b d e ha hb h1 k1⟩
  · simp [cmpop, h2, k2]
  · simp [cmpop, h2, k2]
theorem anyEq_pl {n k : Nat} {a : PV} {d : PyData} (ha : pl n a = true) (h1 : toD a = some d) : ∀ {ys : List PV} {ds : List PyData}, pls k ys = true → toDs ys = some ds → (anyEq d ds = true ↔ a ∈ ys)
  | [], ds, _, h => by cases h; simp [anyEq]
  | y :: ys, ds, hy, h => by
    simp only [pls, Bool.and_eq_true] at hy
    obtain ⟨e1, k1, _⟩ := pl_toD k y hy.1
    obtain ⟨e2, k2, _⟩ := pls_toD k ys hy.2
    simp only [toDs, k1, k2, Option.some.injEq] at h
    subst h
    have ih := anyEq_pl ha h1 hy.2 k2
    unfold anyEq at ih ⊢
    rw [List.any_cons, Bool.or_eq_true, ih, eqv_pl k n y a e1 d hy.1 ha k1 h1, List.mem_cons]
    exact ⟨fun h => h.elim (fun e => .inl e.symm) .inr, fun h => h.elim (fun e => .inl e.symm) .inr⟩
theorem in_pl {n k : Nat} {a : PV} {ys : List PV} (ha : pl n a = true) (hy : pls k ys = true) (hn : n ≤ 64) (hk : k + 1 ≤ 64) : ∃ q : Bool, (∀ c : PV, c = .lst ys ∨ c = .tup ys → cmpop .mem a c = some q ∧ cmpop .nmem a c = some (!q)) ∧ (q = true ↔ a ∈ ys) := by
  obtain ⟨d, h1, h2⟩ := pl_datum ha hn
  obtain ⟨ds, k1, k2, k3⟩ := pls_toD k ys hy
  obtain ⟨e1, l1, l2⟩ := pl_datum (n := k + 1) (v := .lst ys) (by simpa [pl] using hy) hk
  obtain ⟨e2, p1, p2⟩ := pl_datum (n := k + 1) (v := .tup ys) (by simpa [pl] using hy) hk
  simp only [toD, k1, Option.map_some, Option.some.injEq] at l1 p1
  subst l1 p1
  refine ⟨anyEq d ds, fun c hc => ?_, anyEq_pl ha h1 hy k1⟩
  rcases hc with rfl | rfl
  · simp [cmpop, h2, l2]
  · simp [cmpop, h2, p2]
mutual
theorem pl_below : ∀ (n k : Nat) (v : PV), pl n v = true → below k v = true
  | _, _, .int _, _ => rfl
  | _, _, .str _, _ => rfl
  | n + 1, k, .tup xs, h => by simp only [pl] at h; simpa [below] using pls_below n k xs h
  | n + 1, k, .lst xs, h => by simp only [pl] at h; simpa [below] using pls_below n k xs h
  | n, _, .non, h => by cases n <;> simp [pl] at h
  | n, _, .bl b, h => by cases n <;> simp [pl] at h
  | n, _, .dic _ _, h => by cases n <;> simp [pl] at h
  | n, _, .obj _ _ _, h => by cases n <;> simp [pl] at h
  | n, _, .ref _, h => by cases n <;> simp [pl] at h
  | n, _, .scr _, h => by cases n <;> simp [pl] at h
  | n, _, .cls _, h => by cases n <;> simp [pl] at h
  | 0, _, .tup xs, h => by simp [pl] at h
  | 0, _, .lst xs, h => by simp [pl] at h
theorem pls_below : ∀ (n k : Nat) (xs : List PV), pls n xs = true → belows k xs = true
  | _, _, [], _ => rfl
  | n, k, x :: xs, h => by
    simp only [pls, Bool.and_eq_true] at h
    simp only [belows, pl_below n k x h.1, pls_below n k xs h.2, Bool.and_self]
end
theorem pl_vw {n : Nat} {v : PV} {m : Mem} (h : pl n v = true) : vw m v = v := by
  cases v with
  | ref k => cases n <;> simp [pl] at h
  | _ => rfl
/-- no own == in the way -/
theorem cmpV_pl {D : Cl} {o : COp} {x y : PV} {m : Mem} {b : Bool} (h : cmpop o (vw m x) (vw m y) = some b) (hx : ∀ c ns vs, vw m x ≠ .obj c ns vs) : cmpV D o x y m = .ok (.bl b) m := by
  have : eqO D o (vw m x) (vw m y) = none := by
    cases e : vw m x with
    | obj c ns vs => exact absurd e (hx c ns vs)
    | _ => rfl
  unfold cmpV
  rw [this]
  dsimp only
  rw [h]
  rfl
theorem pl_nobj {n : Nat} {v : PV} (h : pl n v = true) : ∀ c ns vs, v ≠ .obj c ns vs := by
  intro c ns vs e
  subst e
  cases n <;> simp [pl] at h
end Co

end P_CoreData
section P_CoreText
set_option Elab.async false
set_option linter.all false
set_option maxRecDepth 100000
set_option maxHeartbeats 1000000
/-! CoreText: texts split where they were joined. -/
namespace Co.Tx
open PySem PySem.Builtin.Str PySem.StrLaws
abbrev tl (x : Str) : List Nat := x.cps.toList
theorem ext {x y : Str} (h : tl x = tl y) : x = y := by
  cases x; cases y
  simp only [Str.mk.injEq]
  exact Array.toList_inj.mp h
theorem tl_len (x : Str) : (tl x).length = x.length := by simp [tl, Str.length]
theorem tl_app (x y : Str) : tl (x ++ y) = tl x ++ tl y := by
  show (x.cps ++ y.cps).toList = _
  simp [tl]
theorem at_iff {x y : Str} {i : Nat} : At x y x.length i ↔ i + y.length ≤ x.length ∧ ((tl x).drop i).take y.length = tl y := by
  unfold At
  rw [subAt_eq]
  simp
theorem at_get {x y : Str} {i t : Nat} (h : At x y x.length i) (ht : t < y.length) : (tl x)[i + t]? = (tl y)[t]? := by
  have h2 := (at_iff.mp h).2
  rw [← h2, List.getElem?_take_of_lt ht, List.getElem?_drop]
/-- c stands in y at one place alone -/
def OneAt (y : Str) (c j : Nat) : Prop := (tl y)[j]? = some c ∧ ∀ t, (tl y)[t]? = some c → t = j
section
variable {x y p : Str} {pre rest : List Nat} {c j : Nat}
theorem at_mid (h : tl x = pre ++ (tl p ++ (tl y ++ rest))) : At x y x.length (pre.length + p.length) := by
  rw [at_iff]
  have hl := congrArg List.length h
  simp only [List.length_append, tl_len] at hl
  refine ⟨by omega, ?_⟩
  rw [h, ← List.append_assoc, List.drop_left' (by simp [Str.length]), List.take_left' (tl_len y)]
theorem no_at (hc : OneAt y c j) (hp : c ∉ tl p) {tail : List Nat} (h : tl x = pre ++ (tl p ++ tail)) (ht : tail = [] ∨ ∃ rest, tail = tl y ++ rest) (k : Nat) (h1 : pre.length ≤ k) (h2 : k < pre.length + p.length) : ¬ At x y x.length k := by
  intro hA
  obtain ⟨hj, hu⟩ := hc
  have hjl : j < y.length := by rw [← tl_len]; exact (List.getElem?_eq_some_iff.mp hj).1
  have g := at_get hA hjl
  rw [hj, h, List.getElem?_append_right (by omega)] at g
  by_cases hk : k + j - pre.length < (tl p).length
  · rw [List.getElem?_append_left hk] at g
    exact hp (List.mem_of_getElem? g)
  · rw [List.getElem?_append_right (by omega)] at g
    rcases ht with rfl | ⟨rest, rfl⟩
    · simp at g
    · rw [tl_len] at g hk
      rw [List.getElem?_append_left (by rw [tl_len]; omega)] at g
      have := hu _ g
      omega
/-- where the parts' ends stand -/
def cuts (w : Nat) : Nat → List Str → List Nat
  | a, p :: q :: r => (a + p.length) :: cuts w (a + p.length + w) (q :: r)
  | _, _ => []
theorem sub_of {a n : Nat} (h : tl x = pre ++ (tl p ++ rest)) (ha : a = pre.length) (hn : n = pre.length + p.length) : strSub x a n = p := by
  subst ha hn
  refine ext ?_
  show tl (strSub x _ _) = _
  rw [show tl (strSub x pre.length (pre.length + p.length)) = ((tl x).drop pre.length).take (pre.length + p.length - pre.length) from strSub_toList _ _ _, h, List.drop_left' rfl, Nat.add_sub_cancel_left, List.take_left' (tl_len p)]
theorem tl_join_cons (y p q : Str) (r : List Str) : tl (Str.join y (p :: q :: r)) = tl p ++ (tl y ++ tl (Str.join y (q :: r))) := by
  show tl (p ++ y ++ Str.join y (q :: r)) = _
  rw [tl_app, tl_app, List.append_assoc]
theorem chain_of (hc : OneAt y c j) (hw : 1 ≤ y.length) : ∀ (ps : List Str) (pre : List Nat) (a : Nat), ps ≠ [] → (∀ p ∈ ps, c ∉ tl p) → tl x = pre ++ tl (Str.join y ps) → a = pre.length →
    (∃ f, ChainG x y x.length a (cuts y.length a ps) f ∧ ∀ k, f ≤ k → ¬ At x y x.length k) ∧ partsFrom x y.length a (cuts y.length a ps) = ps
  | [], _, _, h, _, _, _ => absurd rfl h
  | [p], pre, a, _, hp, h, ha => by
    subst ha
    have h' : tl x = pre ++ (tl p ++ []) := by rw [List.append_nil]; exact h
    have hl := congrArg List.length h
    simp only [List.length_append, tl_len] at hl
    refine ⟨⟨pre.length, rfl, fun k hk hA => ?_⟩, ?_⟩
    · by_cases h2 : k < pre.length + p.length
      · exact no_at hc (hp p (by simp)) h' (.inl rfl) k hk h2 hA
      · have := hA.1
        have hl2 : x.length = pre.length + p.length := by rw [← tl_len, h]; simp [Str.length, Str.join]
        omega
    · show [strSub x pre.length x.length] = [p]
      rw [sub_of h' rfl (by rw [← tl_len, h]; simp [Str.length, Str.join])]
  | p :: q :: r, pre, a, _, hp, h, ha => by
    subst ha
    rw [tl_join_cons] at h
    have hA := at_mid h
    have ih := chain_of hc hw (q :: r) (pre ++ (tl p ++ tl y)) (pre.length + p.length + y.length) (by simp) (fun z hz => hp z (List.mem_cons_of_mem _ hz)) (by rw [h]; simp) (by simp [Str.length]; omega)
    obtain ⟨⟨f, h1, h2⟩, h3⟩ := ih
    refine ⟨⟨f, ⟨by omega, hA, fun k k1 k2 => no_at hc (hp p (by simp)) h (.inr ⟨_, rfl⟩) k k1 k2, h1⟩, h2⟩, ?_⟩
    show strSub x pre.length (pre.length + p.length) :: partsFrom x y.length (pre.length + p.length + y.length) (cuts y.length (pre.length + p.length + y.length) (q :: r)) = _
    rw [h3, sub_of h rfl rfl]
theorem chain_uniq : ∀ {a : Nat} {L L' : List Nat} {f f' : Nat}, ChainG x y x.length a L f → (∀ k, f ≤ k → ¬ At x y x.length k) → ChainG x y x.length a L' f' → (∀ k, f' ≤ k → ¬ At x y x.length k) → L = L'
  | _, [], [], _, _, _, _, _, _ => rfl
  | a, [], d :: r, f, f', h, hn, h', hn' => by
    have e : f = a := h
    subst e
    exact absurd h'.2.1 (hn d h'.1)
  | a, d :: r, [], f, f', h, hn, h', hn' => by
    have e : f' = a := h'
    subst e
    exact absurd h.2.1 (hn' d h.1)
  | a, d :: r, e :: s, f, f', h, hn, h', hn' => by
    have hde : d = e := by
      rcases Nat.lt_trichotomy d e with q | q | q
      · exact absurd h.2.1 (h'.2.2.1 d h.1 q)
      · exact q
      · exact absurd h'.2.1 (h.2.2.1 e h'.1 q)
    subst hde
    rw [chain_uniq h.2.2.2 hn h'.2.2.2 hn']
/-- split where it was joined -/
theorem split_join (hc : OneAt y c j) (hk : y.cps.all (· < 256) = true) {ps : List Str} (hne : ps ≠ []) (hp : ∀ p ∈ ps, c ∉ tl p) : Txt.split (Str.join y ps) y = ps := by
  have hw : 1 ≤ y.length := by
    rw [← tl_len]
    have := (List.getElem?_eq_some_iff.mp hc.1).1
    omega
  obtain ⟨⟨f, h1, h2⟩, h3⟩ := chain_of (x := Str.join y ps) hc hw ps [] 0 hne hp (by simp) rfl
  obtain ⟨f', k1, k2⟩ := occ_tight (Str.join y ps) y hw
  have ho := chain_uniq k1 k2 h1 h2
  have hkind : ¬ PySem.Builtin.Str.strKind (Str.join y ps) < PySem.Builtin.Str.strKind y := by
    have e : PySem.Builtin.Str.strKind y = 1 := by
      unfold PySem.Builtin.Str.strKind
      rw [if_pos hk]
    rw [e]
    unfold PySem.Builtin.Str.strKind
    split
    · omega
    · split <;> omega
  unfold Txt.split
  by_cases hlen : (Str.join y ps).length < y.length
  · rw [if_pos (by simp [hlen])]
    cases ps with
    | nil => exact absurd rfl hne
    | cons p r =>
      cases r with
      | nil => rfl
      | cons q r =>
        exfalso
        have := congrArg List.length (tl_join_cons y p q r)
        simp only [List.length_append, tl_len] at this
        omega
  · rw [if_neg (by simp [hlen, hkind])]
    rw [ho]
    cases hL : cuts y.length 0 ps with
    | nil =>
      simp only [List.isEmpty_nil, if_true]
      cases ps with
      | nil => exact absurd rfl hne
      | cons p r =>
        cases r with
        | nil => rfl
        | cons q r => simp [cuts] at hL
    | cons d L =>
      rw [if_neg (by simp), partsBetween_eq, ← hL]
      exact h3
theorem txt_join (y : Str) (ps : List Str) : Txt.join y ps = Str.join y ps := glued_eq_join y ps
/-- partition at the first place -/
theorem part_at (hc : OneAt y c j) {p r : Str} (hp : c ∉ tl p) : Txt.partition (p ++ y ++ r) y = (p, y, r) := by
  have h : tl (p ++ y ++ r) = [] ++ (tl p ++ (tl y ++ tl r)) := by rw [tl_app, tl_app]; simp
  have hA := at_mid h
  rcases occ_head (p ++ y ++ r) y 1 (Nat.le_refl _) with ⟨_, h2⟩ | ⟨i, L, h1, h2, h3⟩
  · exact absurd hA (h2 _)
  · have hi : i = p.length := by
      rcases Nat.lt_trichotomy i p.length with q | q | q
      · exact absurd h2 (no_at hc hp h (.inr ⟨_, rfl⟩) i (Nat.zero_le _) (by simpa using q))
      · exact q
      · exact absurd hA (h3 _ (by simpa using q))
    subst hi
    unfold Txt.partition
    rw [h1]
    dsimp only
    have q1 : strSub (p ++ y ++ r) 0 p.length = p := sub_of h rfl (by simp)
    rw [q1, sub_of (pre := tl p ++ tl y) (p := r) (rest := []) (by rw [tl_app, tl_app]; simp) (by simp [Str.length]) (by rw [← tl_len, tl_app, tl_app]; simp [Str.length]; omega)]
theorem part_no (hc : OneAt y c j) {p : Str} (hp : c ∉ tl p) : Txt.partition p y = (p, Str.empty, Str.empty) := by
  rcases occ_head p y 1 (Nat.le_refl _) with ⟨h1, _⟩ | ⟨i, L, h1, h2, h3⟩
  · unfold Txt.partition
    rw [h1]
  · exfalso
    have hjl : j < y.length := by rw [← tl_len]; exact (List.getElem?_eq_some_iff.mp hc.1).1
    have g := at_get h2 hjl
    rw [hc.1] at g
    exact hp (List.mem_of_getElem? g)
end
end Co.Tx

end P_CoreText
section P_CoreLoop
set_option Elab.async false
set_option linter.all false
set_option maxRecDepth 100000
set_option maxHeartbeats 1000000
/-! CoreLoop: loops by invariants. -/
namespace Co
open PySem
inductive All2 {α β : Type} (P : α → β → Prop) : List α → List β → Prop
  | nil : All2 P [] []
  | cons {x y xs ys} : P x y → All2 P xs ys → All2 P (x :: xs) (y :: ys)
theorem All2.len {α β : Type} {P : α → β → Prop} {xs : List α} {ys : List β} (h : All2 P xs ys) : ys.length = xs.length := by
  induction h with
  | nil => rfl
  | cons _ _ ih => simp [ih]
theorem All2.right {α β : Type} {P : α → β → Prop} {Q : β → Prop} {xs : List α} {ys : List β} (h : All2 P xs ys) (k : ∀ x y, x ∈ xs → P x y → Q y) : ∀ y ∈ ys, Q y := by
  induction h with
  | nil => simp
  | cons h1 _ ih => exact List.forall_mem_cons.mpr ⟨k _ _ List.mem_cons_self h1, ih fun x y hx => k x y (List.mem_cons_of_mem _ hx)⟩
/-- a while that ends when its measure is used up -/
theorem whL_inv {t : TM} {f : SM} {I : Nat → Co.Env → Mem → Prop} {Q : Fl × Co.Env → Mem → Prop}
    (ht : ∀ k env m, I k env m → wp (t env m) fun b m1 => match b with
      | true => ∃ k', k = k' + 1 ∧ wp (f env m1) fun r m2 => r.1 = .nx ∧ I k' r.2 m2
      | false => Q (.nx, env) m1) : ∀ (n k : Nat) (env : Co.Env) (m : Mem), k < n → I k env m → wp (whL t f n env m) Q
  | 0, k, env, m, h, _ => absurd h (Nat.not_lt_zero _)
  | n + 1, k, env, m, h, hI => by
    unfold whL
    refine wp_then (ht k env m hI) fun b m1 hb => ?_
    cases b with
    | false => exact hb
    | true =>
      obtain ⟨k', rfl, hb⟩ := hb
      refine wp_then hb fun r m2 ⟨h1, h2⟩ => ?_
      rw [h1]
      exact whL_inv ht n k' r.2 m2 (by omega) h2
/-- a for over items that are there -/
theorem forFx_inv {f : PV → Mem → Co.Env → Out (Fl × Co.Env)} {I : List PV → Co.Env → Mem → Prop} {Q : Fl × Co.Env → Mem → Prop}
    (hs : ∀ x r env m, I (x :: r) env m → wp (f x m env) fun q m1 => match q.1 with
      | .nx => I r q.2 m1
      | .ct => I r q.2 m1
      | .bk => Q (.nx, q.2) m1
      | .rt v => Q (.rt v, q.2) m1) (hn : ∀ env m, I [] env m → Q (.nx, env) m) : ∀ (xs : List PV) (env : Co.Env) (m : Mem), I xs env m → wp (forFx f xs env m) Q
  | [], env, m, h => hn env m h
  | x :: r, env, m, h => by
    unfold forFx
    refine wp_then (hs x r env m h) fun q m1 hq => ?_
    cases e : q.1 with
    | nx => rw [e] at hq; exact forFx_inv hs hn r q.2 m1 hq
    | ct => rw [e] at hq; exact forFx_inv hs hn r q.2 m1 hq
    | bk => rw [e] at hq; exact hq
    | rt v => rw [e] at hq; exact hq
/-- a comprehension whose element is a function of the item -/
theorem lcFx_fn {f : PV → Mem → Out (Option PV)} {h : PV → Option PV} {m : Mem} : ∀ {xs : List PV}, (∀ x ∈ xs, f x m = .ok (h x) m) → lcFx f xs m = .ok (xs.filterMap h) m
  | [], _ => rfl
  | x :: r, hf => by
    unfold lcFx
    rw [hf x List.mem_cons_self]
    show (match h x with
      | some y => (lcFx f r m).bind fun ys m2 => Out.ok (y :: ys) m2
      | none => lcFx f r m) = _
    rw [lcFx_fn fun z hz => hf z (List.mem_cons_of_mem _ hz), List.filterMap_cons]
    cases h x <;> rfl
theorem lcFx_map {f : PV → Mem → Out (Option PV)} {h : PV → PV} {m : Mem} {xs : List PV} (hf : ∀ x ∈ xs, f x m = .ok (some (h x)) m) : lcFx f xs m = .ok (xs.map h) m := by
  rw [lcFx_fn (h := fun x => some (h x)) hf, ← List.filterMap_eq_map]
  rfl
theorem lcFx_wp {f : PV → Mem → Out (Option PV)} (h : PV → PV) {m : Mem} {xs : List PV} (hf : ∀ x ∈ xs, f x m = .ok (some (h x)) m) : wp (lcFx f xs m) fun ys m1 => ys = xs.map h ∧ m1 = m := by
  rw [lcFx_map hf]
  exact ⟨rfl, rfl⟩
theorem wp_eq {α : Type} {o : Out α} {a : α} {m : Mem} (h : wp o fun v m' => v = a ∧ m' = m) : o = .ok a m := by
  obtain ⟨v, m', e, rfl, rfl⟩ := wp_ex h
  exact e
theorem all_true {D : Cl} {α : Type} {xs : List α} {m : Mem} : biO D .all (.lst (xs.map fun _ => .bl true)) m = .ok (.bl true) m := by
  have e : (xs.map fun _ => PV.bl true).mapM truth = some (xs.map fun _ => true) := by
    induction xs with
    | nil => rfl
    | cons a r ih =>
      rw [List.map_cons, List.mapM_cons, ih]
      rfl
  show Out.of (((xs.map fun _ => PV.bl true).mapM truth).map fun bs => PV.bl (bs.all id)) m = _
  rw [e]
  have : (xs.map fun _ => true).all id = true := by simp
  rw [Option.map_some, this]
  rfl
/-- a comprehension whose element may change the store -/
theorem lcFx_inv {f : PV → Mem → Out (Option PV)} {J : Mem → Prop} {P : PV → PV → Prop} : ∀ {xs : List PV} {m : Mem}, (∀ x ∈ xs, ∀ m, J m → wp (f x m) fun o m1 => J m1 ∧ ∃ y, o = some y ∧ P x y) → J m → wp (lcFx f xs m) fun ys m1 => J m1 ∧ All2 P xs ys
  | [], m, _, hJ => ⟨hJ, .nil⟩
  | x :: r, m, hf, hJ => by
    unfold lcFx
    refine wp_then (hf x List.mem_cons_self m hJ) fun o m1 ⟨h1, y, h2, h3⟩ => ?_
    subst h2
    refine wp_then (lcFx_inv (fun z hz => hf z (List.mem_cons_of_mem _ hz)) h1) fun ys m2 ⟨h4, h5⟩ => ⟨h4, .cons h3 h5⟩
theorem cons_erase {α : Type} {z : α} : ∀ {l : List α} {d : Nat}, l[d]? = some z → (z :: l.eraseIdx d).Perm l
  | [], d, h => by simp at h
  | a :: l, 0, h => by
    have : a = z := by simpa using h
    subst this
    exact .refl _
  | a :: l, d + 1, h => ((List.Perm.swap a z _)).trans ((cons_erase (by simpa using h)).cons a)
/-- a list in the store, walked while nothing changes -/
theorem lcS_live {f : PV → Mem → Out (Option PV)} (h : PV → PV) {p : Nat} {m : Mem} {xs : List PV} (hm : m[p]? = some (.lst xs)) (hl : xs.length ≤ 100000) (hf : ∀ x ∈ xs, f x m = .ok (some (h x)) m) : wp (lcS f (.live p) m) fun ys m1 => ys = xs.map h ∧ m1 = m := by
  have key : ∀ (n i : Nat) (acc : List PV), xs.length < n + i → 0 < n → lcL f (.live p) n i acc m = .ok (acc ++ (xs.drop i).map h) m := by
    intro n
    induction n with
    | zero => intro i acc _ h0; exact absurd h0 (Nat.lt_irrefl _)
    | succ n ih =>
      intro i acc hn _
      simp only [lcL, srcAt, hm]
      cases e : xs[i]? with
      | none =>
        rw [List.drop_eq_nil_of_le (List.getElem?_eq_none_iff.mp e)]
        simp
      | some x =>
        obtain ⟨hlt, rfl⟩ := List.getElem?_eq_some_iff.mp e
        simp only [hf _ (List.getElem_mem hlt), Out.bind]
        rw [ih (i + 1) _ (by omega) (by omega), List.drop_eq_getElem_cons hlt, List.map_cons, List.append_assoc]
        rfl
  show wp (lcL f (.live p) 100001 0 [] m) _
  rw [key 100001 0 [] (by omega) (by omega)]
  exact ⟨by simp, rfl⟩
/-- the same, items and results told by what they stand for -/
theorem lcFx_enc {α : Type} {f : PV → Mem → Out (Option PV)} {enc : α → PV} (res : α → PV) {m : Mem} : ∀ {ws : List α}, (∀ s ∈ ws, f (enc s) m = .ok (some (res s)) m) → wp (lcFx f (ws.map enc) m) fun ys m1 => ys = ws.map res ∧ m1 = m
  | [], _ => ⟨rfl, rfl⟩
  | s :: ws, hf => by
    rw [List.map_cons]
    unfold lcFx
    rw [hf s List.mem_cons_self]
    refine wp_then (o := lcFx f (ws.map enc) m) (lcFx_enc (res := res) fun z hz => hf z (List.mem_cons_of_mem _ hz)) fun ys m1 ⟨h1, h2⟩ => ?_
    subst h1 h2
    exact ⟨rfl, rfl⟩
theorem lcS_enc {α : Type} {f : PV → Mem → Out (Option PV)} {enc : α → PV} (res : α → PV) {p : Nat} {m : Mem} {ws : List α} (hm : m[p]? = some (.lst (ws.map enc))) (hl : ws.length ≤ 100000) (hf : ∀ s ∈ ws, f (enc s) m = .ok (some (res s)) m) : wp (lcS f (.live p) m) fun ys m1 => ys = ws.map res ∧ m1 = m := by
  have key : ∀ (n i : Nat) (acc : List PV), ws.length < n + i → 0 < n → lcL f (.live p) n i acc m = .ok (acc ++ (ws.drop i).map res) m := by
    intro n
    induction n with
    | zero => intro i acc _ h0; exact absurd h0 (Nat.lt_irrefl _)
    | succ n ih =>
      intro i acc hn _
      simp only [lcL, srcAt, hm, List.getElem?_map]
      cases e : ws[i]? with
      | none =>
        rw [List.drop_eq_nil_of_le (List.getElem?_eq_none_iff.mp e)]
        simp
      | some x =>
        obtain ⟨hlt, rfl⟩ := List.getElem?_eq_some_iff.mp e
        simp only [Option.map_some, hf _ (List.getElem_mem hlt), Out.bind]
        rw [ih (i + 1) _ (by omega) (by omega), List.drop_eq_getElem_cons hlt, List.map_cons, List.append_assoc]
        rfl
  show wp (lcL f (.live p) 100001 0 [] m) _
  rw [key 100001 0 [] (by omega) (by omega)]
  exact ⟨by simp, rfl⟩
/-- a for over a list in the store that stays -/
theorem forS_live {f : PV → Mem → Co.Env → Out (Fl × Co.Env)} {I : List PV → Co.Env → Mem → Prop} {Q : Fl × Co.Env → Mem → Prop} {p : Nat} {xs : List PV} (hl : xs.length ≤ 100000)
    (hk : ∀ r env m, I r env m → m[p]? = some (.lst xs)) (hs : ∀ x r env m, I (x :: r) env m → wp (f x m env) fun q m1 => match q.1 with
      | .nx => I r q.2 m1
      | .ct => I r q.2 m1
      | .bk => Q (.nx, q.2) m1
      | .rt v => Q (.rt v, q.2) m1) (hn : ∀ env m, I [] env m → Q (.nx, env) m) {env : Co.Env} {m : Mem} (hI : I xs env m) : wp (forS f (.live p) env m) Q := by
  have key : ∀ (n i : Nat) (env : Co.Env) (m : Mem), xs.length < n + i → 0 < n → I (xs.drop i) env m → wp (forL f (.live p) n i env m) Q := by
    intro n
    induction n with
    | zero => intro i env m _ h0; exact absurd h0 (Nat.lt_irrefl _)
    | succ n ih =>
      intro i env m hn' _ hI
      have hm := hk _ _ _ hI
      simp only [forL, srcAt, hm]
      cases e : xs[i]? with
      | none =>
        rw [List.drop_eq_nil_of_le (List.getElem?_eq_none_iff.mp e)] at hI
        exact hn env m hI
      | some x =>
        obtain ⟨hlt, rfl⟩ := List.getElem?_eq_some_iff.mp e
        rw [List.drop_eq_getElem_cons hlt] at hI
        dsimp only
        refine wp_then (hs _ _ env m hI) fun q m1 hq => ?_
        cases e : q.1 with
        | nx => rw [e] at hq; exact ih (i + 1) _ _ (by omega) (by omega) hq
        | ct => rw [e] at hq; exact ih (i + 1) _ _ (by omega) (by omega) hq
        | bk => rw [e] at hq; exact hq
        | rt v => rw [e] at hq; exact hq
  exact key 100001 0 env m (by omega) (by omega) hI
theorem texts_map : ∀ l : List Str, (l.map PV.str).mapM asStr = some l
  | [] => rfl
  | a :: l => by
    rw [List.map_cons, List.mapM_cons, texts_map l]
    rfl
/-! ### the box of draws -/
def BoxR (m : Mem) (k : Nat) : Prop := ∃ a b : Int, m[k]? = some (.lst [.int a, .int b]) ∧ 0 ≤ a ∧ 0 ≤ b ∧ b ≤ 2147483629
/-- the box alone may be otherwise; more cells -/
structure Gr (k : Nat) (m m' : Mem) : Prop where
  len : m.length ≤ m'.length
  same : ∀ i, i < m.length → i ≠ k → m'[i]? = m[i]?
  box : BoxR m' k
theorem BoxR.lt {m : Mem} {k : Nat} (h : BoxR m k) : k < m.length := by
  obtain ⟨a, b, h, _⟩ := h
  exact (List.getElem?_eq_some_iff.mp h).1
theorem Gr.refl {m : Mem} {k : Nat} (h : BoxR m k) : Gr k m m := ⟨Nat.le_refl _, fun _ _ _ => rfl, h⟩
theorem Gr.trans {k : Nat} {a b c : Mem} (h : Gr k a b) (g : Gr k b c) : Gr k a c := ⟨Nat.le_trans h.len g.len, fun i hi hn => (g.same i (Nat.lt_of_lt_of_le hi h.len) hn).trans (h.same i hi hn), g.box⟩
/-- cells at the end -/
theorem Gr.app {k : Nat} {m l : Mem} (h : BoxR m k) : Gr k m (m ++ l) := ⟨by simp, fun i hi _ => List.getElem?_append_left hi, by
  obtain ⟨a, b, h1, h2⟩ := h
  exact ⟨a, b, by rw [List.getElem?_append_left (List.getElem?_eq_some_iff.mp h1).1]; exact h1, h2⟩⟩
/-- a later cell written -/
theorem Gr.set {k i : Nat} {m m' : Mem} {c : Cell} (h : Gr k m m') (hi : m.length ≤ i) (hk : k < m.length) : Gr k m (m'.set i c) := by
  have hik : i ≠ k := by omega
  refine ⟨by simpa using h.len, fun j hj hn => by rw [List.getElem?_set_ne (by omega)]; exact h.same j hj hn, ?_⟩
  obtain ⟨a, b, h1, h2⟩ := h.box
  exact ⟨a, b, by rw [List.getElem?_set_ne hik]; exact h1, h2⟩
theorem small {z : Int} (h0 : 0 ≤ z) (h1 : z < 2 ^ 64) : fits z = true := by
  unfold fits big
  refine decide_eq_true (Nat.lt_of_lt_of_le (m := 2 ^ 64) ?_ (Nat.pow_le_pow_right (by decide) (by decide)))
  omega
theorem ix0 {x y : PV} : ixop (.lst [x, y]) (.int 0) = some x := rfl
theorem ix1 {x y : PV} : ixop (.lst [x, y]) (.int 1) = some y := rfl
theorem tix0 {x y : PV} : ixop (.tup [x, y]) (.int 0) = some x := rfl
theorem tix1 {x y : PV} : ixop (.tup [x, y]) (.int 1) = some y := rfl
theorem set0 {m : Mem} {k : Nat} {x y : PV} {z : Int} (h : m[k]? = some (.lst [x, y])) : setixO (.int z) (.ref k) (.int 0) m = .ok () (m.set k (.lst [.int z, y])) := by
  simp only [setixO, h]
  rfl
theorem set1 {m : Mem} {k : Nat} {x y : PV} {z : Int} (h : m[k]? = some (.lst [x, y])) : setixO (.int z) (.ref k) (.int 1) m = .ok () (m.set k (.lst [x, .int z])) := by
  simp only [setixO, h]
  rfl
theorem gr_set {m : Mem} {k : Nat} {a b : Int} (hk : k < m.length) (ha : 0 ≤ a) (hb : 0 ≤ b) (hb1 : b ≤ 2147483629) : Gr k m (m.set k (.lst [.int a, .int b])) :=
  ⟨by simp, fun i hi hne => by rw [List.getElem?_set_ne (Ne.symm hne)], a, b, by rw [List.getElem?_set_self hk], ha, hb, hb1⟩
theorem app_ref {m : Mem} {n : Nat} {xs : List PV} {y : PV} (h : m[n]? = some (.lst xs)) (hl : xs.length ≤ 100000) (hb : below n y = true) : appO (.ref n) y m = .ok .non (m.set n (.lst (xs ++ [y]))) := by
  simp only [appO, h, hb, decide_eq_true hl, Bool.and_self]
  rfl
theorem pop_ref {m : Mem} {n d : Nat} {xs : List PV} {z : PV} (h : m[n]? = some (.lst xs)) (hd : xs[d]? = some z) (hl : xs.length ≤ 100000) : popO (.ref n) (.int (d : Int)) m = .ok z (m.set n (.lst (xs.eraseIdx d))) := by
  have hlt : d < xs.length := (List.getElem?_eq_some_iff.mp hd).1
  have e : L2.ixN xs.length (d : Int) = some d := by
    unfold L2.ixN
    rw [if_pos (Int.natCast_nonneg d), if_pos (by omega)]
    rfl
  have hz : idxZ (d : Int) = true := by
    unfold idxZ
    rw [decide_eq_true (show (-1000000 : Int) ≤ d by omega), decide_eq_true (show (d : Int) ≤ 1000000 by omega)]
    rfl
  simp only [popO, h, e, hd, hz]
  rfl
theorem rec_ref {m : Mem} {n : Nat} {xs : List PV} (h : m[n]? = some (.lst xs)) : recOk .append m (.ref n) = true ∧ recOk .popi m (.ref n) = true := by
  simp only [recOk, h, and_self]
end Co

end P_CoreLoop
section P_CoreRatl
set_option Elab.async false
set_option linter.all false
set_option maxRecDepth 100000
set_option maxHeartbeats 1000000
/-! CoreRatl: fractions as pairs. -/
namespace Co
open PySem (Str)
abbrev pairR (q : Rat) : PV := .tup [.int q.num, .int (q.den : Int)]
theorem low_pair {a b : Nat} (hb : 0 < b) : PV.tup [.int ((a : Int) / (Nat.gcd a b : Int)), .int ((b : Int) / (Nat.gcd a b : Int))] = pairR (mkRat a b) := by
  have hne : b ≠ 0 := by omega
  unfold mkRat
  rw [dif_neg hne, Rat.normalize_eq]
  simp
theorem mkRat_self {N : Nat} (h : 0 < N) : mkRat N N = 1 := by
  have := (Rat.mkRat_eq_iff (n₁ := N) (d₁ := N) (n₂ := 1) (d₂ := 1) (by omega) (by decide)).mpr (by simp)
  rw [this]
  rfl
theorem mkRat_same {a b M N : Nat} (hM : 0 < M) (hN : 0 < N) (h : a * N = b * M) : mkRat a M = mkRat b N :=
  (Rat.mkRat_eq_iff (by omega) (by omega)).mpr (by exact_mod_cast h)
theorem mkRat_sum {a b N : Nat} (h : 0 < N) : mkRat a N + mkRat b N = mkRat (a + b : Nat) N := by
  rw [Rat.mkRat_add_mkRat _ _ (by omega) (by omega)]
  refine (Rat.mkRat_eq_iff (by exact Nat.ne_of_gt (Nat.mul_pos h h)) (by omega)).mpr ?_
  push_cast
  rw [← Int.add_mul, Int.mul_assoc]
/-- numerator, denominator -/
theorem mkRat_le {a N : Nat} (h : 0 < N) : 0 ≤ (mkRat a N).num ∧ (mkRat a N).num ≤ a ∧ (mkRat a N).den ≤ N ∧ 0 < (mkRat a N).den := by
  have hne : N ≠ 0 := by omega
  unfold mkRat
  rw [dif_neg hne, Rat.normalize_eq]
  simp only [Int.natAbs_natCast]
  have hg : 0 < Nat.gcd a N := Nat.gcd_pos_of_pos_right _ h
  refine ⟨?_, ?_, Nat.div_le_self _ _, Nat.div_pos (Nat.gcd_le_right _ h) hg⟩
  · exact Int.ediv_nonneg (by omega) (by omega)
  · have : ((a : Int) / (Nat.gcd a N : Int)) = ((a / Nat.gcd a N : Nat) : Int) := by simp
    rw [this]
    exact_mod_cast Nat.div_le_self _ _
end Co

end P_CoreRatl
section P_CoreHeir
set_option Elab.async false
set_option linter.all false
set_option maxRecDepth 100000
set_option maxHeartbeats 1000000
/-! CoreHeir: shares out of a will, over a common denominator. -/
namespace Co
open PySem (Str)
abbrev crown_ : Str := sx [99, 114, 111, 119, 110]
/-- the heirs of a share: those alive in the first group with such -/
def Hof (al : Str → Bool) : List (List Str) → List Str
  | [] => [crown_]
  | g :: gs => if (g.filter al).isEmpty then Hof al gs else g.filter al
def stepK (K : List Str) (x : Str) : List Str := if x ∈ K then K else K ++ [x]
def addF (c : Nat) (f : Str → Nat) (x : Str) : Str → Nat := fun y => if y = x then f y + c else f y
abbrev kys (K : List Str) : List L2.Key := K.map Sum.inr
abbrev vls (N : Nat) (f : Str → Nat) (K : List Str) : List PV := K.map fun x => pairR (mkRat (f x) N)
theorem dvat_ok {N : Nat} {f : Str → Nat} {x : Str} : ∀ {K : List Str}, dvat (kys K) (vls N f K) (.inr x) = if x ∈ K then some (pairR (mkRat (f x) N)) else none
  | [] => rfl
  | k :: K => by
    show (if (Sum.inr k : L2.Key) = .inr x then some _ else dvat (kys K) (vls N f K) (.inr x)) = _
    by_cases h : k = x
    · subst h
      rw [if_pos rfl, if_pos List.mem_cons_self]
    · rw [if_neg (by simpa using h), dvat_ok (K := K)]
      by_cases h2 : x ∈ K
      · rw [if_pos h2, if_pos (List.mem_cons_of_mem _ h2)]
      · rw [if_neg h2, if_neg (by simp [h2]; exact fun e => h e.symm)]
theorem any_keyH {x : Str} {K : List Str} : (kys K).any (fun k => decide (k = .inr x)) = decide (x ∈ K) := by
  induction K with
  | nil => simp
  | cons k K ih =>
    simp only [List.map_cons, List.any_cons, ih]
    by_cases h : x = k
    · subst h; simp
    · have h2 : ¬ ((Sum.inr k : L2.Key) = .inr x) := by simpa using fun e => h e.symm
      simp [h, h2]
theorem setAll_ok {N c : Nat} {f : Str → Nat} {x : Str} : ∀ {K : List Str}, setAll (kys K) (vls N f K) (.inr x) (pairR (mkRat (f x + c : Nat) N)) = vls N (addF c f x) K
  | [] => rfl
  | k :: K => by
    show (if (Sum.inr k : L2.Key) = .inr x then _ else pairR (mkRat (f k) N)) :: setAll (kys K) (vls N f K) (.inr x) _ = pairR (mkRat (addF c f x k) N) :: vls N (addF c f x) K
    rw [setAll_ok (K := K)]
    congr 1
    by_cases h : k = x
    · subst h
      rw [if_pos rfl]
      simp [addF]
    · rw [if_neg (by simpa using h)]
      simp [addF, h]
theorem dput_ok {N c : Nat} {f : Str → Nat} {x : Str} {K : List Str} (h0 : x ∉ K → f x = 0) : dputv (kys K) (vls N f K) (.inr x) (pairR (mkRat (f x + c : Nat) N)) = (kys (stepK K x), vls N (addF c f x) (stepK K x)) := by
  unfold dputv
  rw [any_keyH]
  by_cases h : x ∈ K
  · rw [decide_eq_true h]
    dsimp only
    rw [setAll_ok]
    unfold stepK
    rw [if_pos h]
  · rw [decide_eq_false h]
    dsimp only
    unfold stepK
    rw [if_neg h]
    simp only [List.map_append, List.map_cons, List.map_nil]
    congr 2
    · refine List.map_congr_left fun y hy => ?_
      have : y ≠ x := fun e => h (e ▸ hy)
      simp [addF, this]
    · simp [addF]
theorem stepK_nodup {K : List Str} {x : Str} (h : K.Nodup) : (stepK K x).Nodup := by
  unfold stepK
  by_cases hx : x ∈ K
  · rw [if_pos hx]; exact h
  · rw [if_neg hx]
    exact List.nodup_append.mpr ⟨h, by simp, fun a ha b hb e => hx (by simp at hb; subst hb e; exact ha)⟩
theorem stepK_mem {K : List Str} {x y : Str} : y ∈ stepK K x ↔ y ∈ K ∨ y = x := by
  unfold stepK
  by_cases hx : x ∈ K
  · rw [if_pos hx]
    exact ⟨.inl, fun h => h.elim id fun e => e ▸ hx⟩
  · rw [if_neg hx]
    simp
theorem stepK_len {K : List Str} {x : Str} : (stepK K x).length ≤ K.length + 1 := by
  unfold stepK
  split <;> simp
theorem foldK_nodup {K h : List Str} (hK : K.Nodup) : (h.foldl stepK K).Nodup := by
  induction h generalizing K with
  | nil => exact hK
  | cons x h ih => exact ih (stepK_nodup hK)
theorem foldK_mem {h : List Str} {y : Str} : ∀ {K : List Str}, y ∈ h.foldl stepK K ↔ y ∈ K ∨ y ∈ h := by
  induction h with
  | nil => intro K; simp
  | cons x h ih =>
    intro K
    rw [List.foldl_cons, ih, stepK_mem, List.mem_cons, or_assoc]
theorem foldK_len {h : List Str} : ∀ {K : List Str}, (h.foldl stepK K).length ≤ K.length + h.length := by
  induction h with
  | nil => intro K; simp
  | cons x h ih =>
    intro K
    rw [List.foldl_cons]
    have h1 := ih (K := stepK K x)
    have h2 := stepK_len (K := K) (x := x)
    rw [List.length_cons]
    omega
theorem foldF_ok {c : Nat} {h : List Str} (hn : h.Nodup) (y : Str) : ∀ {f : Str → Nat}, h.foldl (addF c) f y = f y + if y ∈ h then c else 0 := by
  induction h with
  | nil => intro f; simp
  | cons x h ih =>
    intro f
    rw [List.nodup_cons] at hn
    rw [List.foldl_cons, ih hn.2]
    unfold addF
    by_cases e : y = x
    · subst e
      rw [if_pos rfl, if_neg hn.1, if_pos List.mem_cons_self, Nat.add_zero]
    · rw [if_neg e]
      by_cases hy : y ∈ h
      · rw [if_pos hy, if_pos (List.mem_cons_of_mem _ hy)]
      · rw [if_neg hy, if_neg (by simp [e, hy])]
/-! ### over the whole will -/
abbrev Ws : Type := List (Int × List (List Str))
/-- what a share gives each of its heirs, over 2520 times the sum of weights -/
def cut (al : Str → Bool) (s : Int × List (List Str)) : Nat := s.1.toNat * (2520 / (Hof al s.2).length)
def KF (al : Str → Bool) : Ws → List Str → List Str
  | [], K => K
  | s :: r, K => KF al r ((Hof al s.2).foldl stepK K)
def FF (al : Str → Bool) : Ws → (Str → Nat) → (Str → Nat)
  | [], f => f
  | s :: r, f => FF al r ((Hof al s.2).foldl (addF (cut al s)) f)
def sF (al : Str → Bool) (y : Str) : Ws → Nat
  | [] => 0
  | s :: r => (if y ∈ Hof al s.2 then cut al s else 0) + sF al y r
def wsum : Ws → Nat
  | [] => 0
  | s :: r => s.1.toNat + wsum r
/-- the heirs with their parts -/
abbrev entry (N : Nat) (f : Str → Nat) (x : Str) : PV := .tup [.str x, pairR (mkRat (f x) N)]
def hV (al : Str → Bool) (ws : Ws) : PV := .tup ((srtS (KF al ws [])).map (entry (wsum ws * 2520) fun y => sF al y ws))
theorem KF_app {al : Str → Bool} {b : Ws} : ∀ {a : Ws} {K : List Str}, KF al (a ++ b) K = KF al b (KF al a K)
  | [], _ => rfl
  | s :: a, K => KF_app (a := a)
theorem FF_app {al : Str → Bool} {b : Ws} : ∀ {a : Ws} {f : Str → Nat}, FF al (a ++ b) f = FF al b (FF al a f)
  | [], _ => rfl
  | s :: a, f => FF_app (a := a)
theorem KF_len {al : Str → Bool} : ∀ {ws : Ws} {K : List Str}, (∀ s ∈ ws, (Hof al s.2).length ≤ 9) → (KF al ws K).length ≤ K.length + 9 * ws.length
  | [], K, _ => by simp [KF]
  | s :: r, K, h => by
    rw [List.forall_mem_cons] at h
    unfold KF
    have h1 := KF_len (K := (Hof al s.2).foldl stepK K) h.2
    have h2 := foldK_len (h := Hof al s.2) (K := K)
    rw [List.length_cons]
    omega
theorem sF_le {al : Str → Bool} {y : Str} : ∀ {ws : Ws}, (∀ s ∈ ws, s.1 ≤ 9) → sF al y ws ≤ 22680 * ws.length
  | [], _ => by simp [sF]
  | s :: r, h => by
    rw [List.forall_mem_cons] at h
    unfold sF
    have h1 := sF_le (y := y) (al := al) h.2
    have h2 : cut al s ≤ 22680 := by
      unfold cut
      have : s.1.toNat * (2520 / (Hof al s.2).length) ≤ 9 * 2520 := Nat.mul_le_mul (by have := h.1; omega) (Nat.div_le_self _ _)
      omega
    rw [List.length_cons]
    split <;> omega
theorem KF_mem {al : Str → Bool} {y : Str} : ∀ {ws : Ws} {K : List Str}, y ∈ KF al ws K ↔ y ∈ K ∨ ∃ s ∈ ws, y ∈ Hof al s.2
  | [], K => by simp [KF]
  | s :: r, K => by
    unfold KF
    rw [KF_mem, foldK_mem]
    simp only [List.mem_cons, exists_eq_or_imp, or_assoc]
theorem KF_nodup {al : Str → Bool} : ∀ {ws : Ws} {K : List Str}, K.Nodup → (KF al ws K).Nodup
  | [], _, h => h
  | s :: r, K, h => KF_nodup (ws := r) (foldK_nodup h)
theorem FF_ok {al : Str → Bool} {y : Str} : ∀ {ws : Ws} {f : Str → Nat}, (∀ s ∈ ws, (Hof al s.2).Nodup) → FF al ws f y = f y + sF al y ws
  | [], f, _ => rfl
  | s :: r, f, h => by
    rw [List.forall_mem_cons] at h
    unfold FF sF
    rw [FF_ok h.2, foldF_ok h.1, Nat.add_assoc]
theorem sF_zero {al : Str → Bool} {y : Str} : ∀ {ws : Ws}, (∀ s ∈ ws, y ∉ Hof al s.2) → sF al y ws = 0
  | [], _ => rfl
  | s :: r, h => by
    rw [List.forall_mem_cons] at h
    unfold sF
    rw [if_neg h.1, sF_zero h.2]
end Co

end P_CoreHeir
section P_CoreSeq
set_option Elab.async false
set_option linter.all false
set_option maxRecDepth 100000
set_option maxHeartbeats 1000000
/-! CoreSeq: sequences as lists, as tuples, in the store. -/
namespace Co
open PySem
def isq (m : Mem) (v : PV) (xs : List PV) : Prop := v = .lst xs ∨ v = .tup xs ∨ ∃ p, v = .ref p ∧ m[p]? = some (.lst xs)
def srcOf : PV → Src
  | .lst xs => .fix xs
  | .tup xs => .fix xs
  | .ref p => .live p
  | _ => .fix []
section
variable {D : Cl} {m : Mem} {v : PV} {xs : List PV} {env : Co.Env} {a : EM}
theorem iseqQ (h : isq m v xs) (ha : a env m = .ok v m) : iSeq a env m = .ok (srcOf v) m := by
  unfold iSeq
  rw [ha]
  rcases h with rfl | rfl | ⟨p, rfl, hp⟩
  · rfl
  · rfl
  · show (match m[p]? with
      | some (.lst _) => Out.ok (Src.live p) m
      | _ => .stuck) = _
    rw [hp]
    rfl
theorem lenQ (h : isq m v xs) : biO D .len v m = .ok (.int xs.length) m := by
  rcases h with rfl | rfl | ⟨p, rfl, hp⟩
  · rfl
  · rfl
  · exact Ev.lenR hp
theorem tupQ (h : isq m v xs) : biO D .tuple v m = .ok (.tup xs) m := by
  rcases h with rfl | rfl | ⟨p, rfl, hp⟩
  · rfl
  · rfl
  · exact Ev.tupR hp
theorem isq_seq (h : isq m v xs) {k : Nat} : isiop k .seq (vw m v) = some true := by
  rcases h with rfl | rfl | ⟨p, rfl, hp⟩
  · rfl
  · rfl
  · rw [Ev.vwR hp]; rfl
theorem isq_app {l : Mem} (h : isq m v xs) : isq (m ++ l) v xs := by
  rcases h with h | h | ⟨p, h, hp⟩
  · exact .inl h
  · exact .inr (.inl h)
  · exact .inr (.inr ⟨p, h, by rw [List.getElem?_append_left (List.getElem?_eq_some_iff.mp hp).1]; exact hp⟩)
theorem isq_set {q : Nat} {c : Cell} (h : isq m v xs) (hq : ∀ xs, m[q]? ≠ some (.lst xs)) : isq (m.set q c) v xs := by
  rcases h with h | h | ⟨p, h, hp⟩
  · exact .inl h
  · exact .inr (.inl h)
  · exact .inr (.inr ⟨p, h, by rw [List.getElem?_set_ne (show q ≠ p from fun e => by subst e; exact hq xs hp)]; exact hp⟩)
theorem lcS_q {α : Type} {f : PV → Mem → Out (Option PV)} {enc : α → PV} (res : α → PV) {ws : List α} (h : isq m v (ws.map enc)) (hl : ws.length ≤ 100000) (hf : ∀ s ∈ ws, f (enc s) m = .ok (some (res s)) m) : wp (lcS f (srcOf v) m) fun ys m1 => ys = ws.map res ∧ m1 = m := by
  rcases h with rfl | rfl | ⟨p, rfl, hp⟩
  · exact lcFx_enc res hf
  · exact lcFx_enc res hf
  · exact lcS_enc res hp hl hf
/-- with a changing store -/
theorem lcS_qi {f : PV → Mem → Out (Option PV)} {J : Mem → Prop} {P : PV → PV → Prop} (h : ∀ m, J m → isq m v xs) (hl : xs.length ≤ 100000) (hf : ∀ x ∈ xs, ∀ m, J m → wp (f x m) fun o m1 => J m1 ∧ ∃ y, o = some y ∧ P x y) (hJ : J m) : wp (lcS f (srcOf v) m) fun ys m1 => J m1 ∧ All2 P xs ys := by
  rcases h m hJ with rfl | rfl | ⟨p, rfl, hp⟩
  · exact lcFx_inv hf hJ
  · exact lcFx_inv hf hJ
  · have hp' : ∀ m, J m → m[p]? = some (.lst xs) := fun m hJ => by
      rcases h m hJ with e | e | ⟨p', e, hp⟩
      · cases e
      · cases e
      · cases e; exact hp
    have key : ∀ (n i : Nat) (acc : List PV) (m : Mem), xs.length < n + i → 0 < n → J m → wp (lcL f (.live p) n i acc m) fun ys m1 => J m1 ∧ ∃ zs, ys = acc ++ zs ∧ All2 P (xs.drop i) zs := by
      intro n
      induction n with
      | zero => intro i acc m _ h0 _; exact absurd h0 (Nat.lt_irrefl _)
      | succ n ih =>
        intro i acc m hn _ hJ
        unfold lcL
        simp only [srcAt, hp' m hJ]
        by_cases hi : i < xs.length
        · rw [List.getElem?_eq_getElem hi]
          refine wp_then (hf xs[i] (List.getElem_mem hi) m hJ) fun o m1 ⟨h1, y, h2, h3⟩ => ?_
          subst h2
          refine wp_mono (ih (i + 1) _ m1 (by omega) (by omega) h1) fun ys m2 ⟨h4, zs, h5, h6⟩ => ⟨h4, y :: zs, by rw [h5]; simp, ?_⟩
          rw [List.drop_eq_getElem_cons hi]
          exact .cons h3 h6
        · rw [List.getElem?_eq_none (by omega)]
          refine ⟨hJ, [], by simp, ?_⟩
          rw [List.drop_of_length_le (by omega)]
          exact .nil
    have := key 100001 0 [] m (by omega) (by omega) hJ
    exact wp_mono this fun ys m1 ⟨h1, zs, h2, h3⟩ => ⟨h1, by rw [h2]; exact h3⟩
/-- some are left out -/
theorem lcS_f {α : Type} {f : PV → Mem → Out (Option PV)} {enc : α → PV} (res : α → PV) (q : α → Bool) {ws : List α} (h : isq m v (ws.map enc)) (hl : ws.length ≤ 100000) (hf : ∀ s ∈ ws, f (enc s) m = .ok (if q s then some (res s) else none) m) : wp (lcS f (srcOf v) m) fun ys m1 => ys = (ws.filter q).map res ∧ m1 = m := by
  have hfx : ∀ ws : List α, (∀ s ∈ ws, f (enc s) m = .ok (if q s then some (res s) else none) m) → lcFx f (ws.map enc) m = .ok ((ws.filter q).map res) m := fun ws => by
    induction ws with
    | nil => intro _; rfl
    | cons s r ih =>
      intro h
      rw [List.forall_mem_cons] at h
      rw [List.map_cons]
      unfold lcFx
      rw [h.1]
      by_cases hq : q s = true
      · rw [if_pos hq, List.filter_cons_of_pos hq]
        show (lcFx f (r.map enc) m).bind _ = _
        rw [ih h.2]
        rfl
      · rw [if_neg hq, List.filter_cons_of_neg hq]
        exact ih h.2
  rcases h with rfl | rfl | ⟨p, rfl, hp⟩
  · show wp (lcFx f (ws.map enc) m) _
    rw [hfx ws hf]; exact ⟨rfl, rfl⟩
  · show wp (lcFx f (ws.map enc) m) _
    rw [hfx ws hf]; exact ⟨rfl, rfl⟩
  · have key : ∀ (n i : Nat) (acc : List PV), ws.length < n + i → 0 < n → lcL f (.live p) n i acc m = .ok (acc ++ ((ws.drop i).filter q).map res) m := by
      intro n
      induction n with
      | zero => intro i acc _ h0; exact absurd h0 (Nat.lt_irrefl _)
      | succ n ih =>
        intro i acc hn _
        unfold lcL
        simp only [srcAt, hp]
        by_cases hi : i < ws.length
        · rw [List.getElem?_eq_getElem (by simpa using hi), List.getElem_map]
          dsimp only
          rw [hf ws[i] (List.getElem_mem hi), List.drop_eq_getElem_cons hi]
          by_cases hq : q ws[i] = true
          · rw [if_pos hq, List.filter_cons_of_pos hq]
            show lcL f (.live p) n (i + 1) (acc ++ [res ws[i]]) m = _
            rw [ih (i + 1) _ (by omega) (by omega)]
            simp
          · rw [if_neg hq, List.filter_cons_of_neg hq]
            show lcL f (.live p) n (i + 1) acc m = _
            rw [ih (i + 1) _ (by omega) (by omega)]
        · rw [List.getElem?_eq_none (by simp; omega), List.drop_of_length_le (by omega)]
          simp
    show wp (lcL f (.live p) 100001 0 [] m) _
    rw [key 100001 0 [] (by omega) (by omega)]
    exact ⟨rfl, rfl⟩
/-- a for over such -/
theorem forS_q {f : PV → Mem → Co.Env → Out (Fl × Co.Env)} {I : List PV → Co.Env → Mem → Prop} {Q : Fl × Co.Env → Mem → Prop} (hl : xs.length ≤ 100000)
    (hk : ∀ r env m, I r env m → isq m v xs) (hs : ∀ x r env m, I (x :: r) env m → wp (f x m env) fun q m1 => match q.1 with
      | .nx => I r q.2 m1
      | .ct => I r q.2 m1
      | .bk => Q (.nx, q.2) m1
      | .rt v => Q (.rt v, q.2) m1) (hn : ∀ env m, I [] env m → Q (.nx, env) m) (hI : I xs env m) : wp (forS f (srcOf v) env m) Q := by
  rcases hk xs env m hI with rfl | rfl | ⟨p, rfl, hp⟩
  · exact forFx_inv hs hn _ _ _ hI
  · exact forFx_inv hs hn _ _ _ hI
  · refine forS_live hl (fun r env m hI => ?_) hs hn hI
    rcases hk r env m hI with e | e | ⟨p', e, hp⟩
    · cases e
    · cases e
    · cases e; exact hp
end
end Co

end P_CoreSeq
section P_CoreStep
set_option Elab.async false
set_option linter.all false
set_option maxRecDepth 100000
set_option maxHeartbeats 1000000
/-! CoreStep: statement by statement. -/
namespace Co
open PySem
section
variable {D : Cl} {W : Nat} {env : Co.Env} {m : Mem} {s r a b : SM} {t u : TM} {e : EM} {g : GM} {it : IM} {Q : Fl × Co.Env → Mem → Prop}
theorem sc (h : ∀ K : Fl × Co.Env → Mem → Prop, (∀ env' m', wp (r env' m') Q → K (.nx, env') m') → (∀ p m', (∀ env', p ≠ (.nx, env')) → Q p m' → K p m') → wp (s env m) K) : wp (ssCons s r env m) Q := by
  unfold ssCons
  rw [wp_bind]
  refine h (fun p m1 => wp (match p.1 with
    | .nx => r p.2 m1
    | _ => .ok p m1) Q) (fun _ _ h => h) fun p m' hp hq => ?_
  obtain ⟨fl, env'⟩ := p
  cases fl with
  | nx => exact absurd rfl (hp env')
  | rt v => exact hq
  | bk => exact hq
  | ct => exact hq
theorem sn (h : Q (.nx, env) m) : wp (ssNil env m) Q := h
theorem si (h : ∀ K : Bool → Mem → Prop, (∀ m', wp (a env m') Q → K true m') → (∀ m', wp (b env m') Q → K false m') → wp (t env m) K) : wp (sIff t a b env m) Q := by
  unfold sIff
  rw [wp_bind]
  exact h (fun c m1 => wp (match c with
    | true => a env m1
    | false => b env m1) Q) (fun _ h => h) fun _ h => h
/-- a for's body -/
def bodyF (g : GM) (s : SM) : PV → Mem → Co.Env → Out (Fl × Co.Env) := fun x m env => match g x m env with
  | some env' => s env' m
  | none => .stuck
theorem sf (h : ∀ K : Src → Mem → Prop, (∀ q m', wp (forS (bodyF g s) q env m') Q → K q m') → wp (it env m) K) : wp (sForr g it s env m) Q := by
  unfold sForr
  rw [wp_bind]
  exact h (fun q m1 => wp (forS (bodyF g s) q env m1) Q) fun _ _ h => h
theorem bf {x : PV} {env' : Co.Env} (hg : g x m env = some env') (h : wp (s env' m) Q) : wp (bodyF g s x m env) Q := by
  unfold bodyF
  rw [hg]
  exact h
theorem sw (h : wp (whL t s W env m) Q) : wp (sWhil W t s env m) Q := h
end
end Co

end P_CoreStep
section P_L18
set_option Elab.async false
set_option linter.all false
set_option maxRecDepth 100000
set_option maxHeartbeats 0
namespace My
open PySem PySem.Spec PyProof.Rows L2 Co
def b0 : CSs := (.cons (.whil (.val (.k (.bl true))) (.cons .pass .nil)) .nil)
def n0 : List Str := ["k"]
def b1 : CSs := (.cons (.ret (.test (.an (.val (.isi (.v 0) .int)) (.val (.test (.nt (.val (.isi (.v 0) .bool)))))))) .nil)
def n1 : List Str := ["value"]
def b2 : CSs := (.cons (.ret (.test (.an (.val (.call 1 (.cons (.v 0) .nil))) (.val (.cmp .ge (.v 0) (.k (.int 0))))))) .nil)
def n2 : List Str := ["value"]
def b3 : CSs := (.cons (.iff (.or (.nt (.val (.isi (.v 0) .str))) (.or (.nt (.val (.chain .lt .lt (.k (.int 0)) (.bi .len (.v 0)) (.k (.int 6))))) (.val (.cmp .eq (.v 0) (.k (.str (sx [99, 114, 111, 119, 110]))))))) (.cons (.ret (.k (.bl false))) .nil) .nil) (.cons (.ret (.bi .all (.fz (.lc (.v 1) (.seq (.v 0)) .tt (.cmp .mem (.v 1) (.k (.str (sx [97, 98, 99, 100, 101, 102, 103, 104, 105, 106, 107, 108, 109, 110, 111, 112, 113, 114, 115, 116, 117, 118, 119, 120, 121, 122])))) [1])))) .nil))
def n3 : List Str := ["value", "letter"]
def b4 : CSs := (.cons (.ret (.isi (.v 0) .seq)) .nil)
def n4 : List Str := ["value"]
def b5 : CSs := (.cons (.iff (.or (.nt (.val (.chain .lt .le (.k (.int 0)) (.bi .len (.v 0)) (.v 1)))) (.nt (.val (.bi .all (.fz (.lc (.v 2) (.seq (.v 0)) .tt (.cmp .mem (.v 2) (.k (.str (sx [48, 49, 50, 51, 52, 53, 54, 55, 56, 57])))) [2])))))) (.cons (.ret (.k .non)) .nil) .nil) (.cons (.ret (.ite (.an (.val (.cmp .gt (.bi .len (.v 0)) (.k (.int 1)))) (.val (.cmp .eq (.ix (.v 0) (.k (.int 0))) (.k (.str (sx [48])))))) (.k .non) (.bi .int (.v 0)))) .nil))
def n5 : List Str := ["word", "most", "sign"]
def b6 : CSs := (.cons (.iff (.or (.nt (.val (.call 4 (.cons (.v 0) .nil)))) (.or (.val (.cmp .eq (.bi .len (.v 0)) (.k (.int 0)))) (.nt (.val (.bi .all (.fz (.lc (.v 2) (.seq (.v 0)) .tt (.call 3 (.cons (.v 2) .nil)) [2]))))))) (.cons (.ret (.k (.bl false))) .nil) .nil) (.cons (.ret (.bi .all (.fz (.lc (.v 1) (.range (.cons (.bi .len (.v 0)) .nil)) .tt (.cmp .nmem (.ix (.v 0) (.v 1)) (.sl (.v 0) .nil (.cons (.v 1) .nil))) [1])))) .nil))
def n6 : List Str := ["value", "at", "name"]
def b7 : CSs := (.cons (.iff (.or (.nt (.val (.isi (.v 0) .tuple))) (.val (.cmp .ne (.bi .len (.v 0)) (.k (.int 2))))) (.cons (.ret (.k (.bl false))) .nil) .nil) (.cons (.iff (.or (.nt (.val (.call 1 (.cons (.ix (.v 0) (.k (.int 0))) .nil)))) (.or (.val (.cmp .lt (.ix (.v 0) (.k (.int 0))) (.k (.int 1)))) (.nt (.val (.call 4 (.cons (.ix (.v 0) (.k (.int 1))) .nil)))))) (.cons (.ret (.k (.bl false))) .nil) .nil) (.cons (.ret (.bi .all (.fz (.lc (.v 1) (.seq (.ix (.v 0) (.k (.int 1)))) .tt (.call 6 (.cons (.v 1) .nil)) [1])))) .nil)))
def n7 : List Str := ["value", "group"]
def b8 : CSs := (.cons (.asg (.v 1) (.m1 .join (.k (.str (sx [32, 62, 32]))) (.fz (.lc (.v 2) (.seq (.ix (.v 0) (.k (.int 1)))) .tt (.m1 .join (.k (.str (sx [43]))) (.v 2)) [2])))) (.cons (.ret (.ite (.val (.cmp .eq (.v 1) (.k (.str (sx []))))) (.bi .str (.ix (.v 0) (.k (.int 0)))) (.bin .add (.bin .add (.bi .str (.ix (.v 0) (.k (.int 0)))) (.k (.str (sx [32])))) (.v 1)))) .nil))
def n8 : List Str := ["share", "groups", "group"]
def b9 : CSs := (.cons (.asg (.t (.cons (.v 4) (.cons (.v 5) (.cons (.v 6) .nil)))) (.m1 .partition (.v 0) (.k (.str (sx [32]))))) (.cons (.asg (.v 1) (.call 5 (.cons (.v 4) (.cons (.k (.int 6)) .nil)))) (.cons (.asg (.v 2) (.ite (.val (.cmp .ne (.v 5) (.k (.str (sx []))))) (.fz (.lc (.v 7) (.seq (.m1 .split (.v 6) (.k (.str (sx [32, 62, 32]))))) .tt (.bi .tuple (.m1 .split (.v 7) (.k (.str (sx [43]))))) [7])) (.fz (.lst .nil)))) (.cons (.asg (.v 3) (.tup (.cons (.v 1) (.cons (.v 2) .nil)))) (.cons (.ret (.ite (.val (.call 7 (.cons (.v 3) .nil))) (.v 3) (.k .non))) .nil)))))
def n9 : List Str := ["part", "weight", "groups", "share", "head", "blank", "rest", "word"]
def b10 : CSs := (.cons (.iff (.or (.nt (.val (.call 4 (.cons (.v 1) .nil)))) (.or (.val (.cmp .eq (.bi .len (.v 1)) (.k (.int 0)))) (.nt (.val (.bi .all (.fz (.lc (.v 2) (.seq (.v 1)) .tt (.call 7 (.cons (.v 2) .nil)) [2]))))))) (.cons .bad .nil) .nil) (.cons (.setf (.v 0) (sx [115, 104, 97, 114, 101, 115]) (.bi .tuple (.fz (.lc (.v 2) (.seq (.v 1)) .tt (.tup (.cons (.ix (.v 2) (.k (.int 0))) (.cons (.bi .tuple (.fz (.lc (.v 3) (.seq (.ix (.v 2) (.k (.int 1)))) .tt (.bi .tuple (.fz (.srt (.v 3)))) [3]))) .nil))) [2])))) .nil))
def n10 : List Str := ["self", "shares", "share", "group"]
def b11 : CSs := (.cons (.asg (.v 1) .dnew) (.cons (.forr (.t (.cons (.v 2) (.cons (.v 3) .nil))) (.seq (.attr (.v 0) (sx [115, 104, 97, 114, 101, 115]))) (.cons (.forr (.v 4) (.seq (.v 3)) (.cons (.ex (.m1 .dupd (.v 1) (.dcm (.v 5) (.seq (.v 4)) .tt (.v 5) (.k (.bl true)) [5]))) .nil)) .nil)) (.cons (.ret (.bi .tuple (.fz (.srt (.v 1))))) .nil)))
def n11 : List Str := ["self", "found", "weight", "groups", "group", "name"]
def b12 : CSs := (.cons (.ex (.call 0 (.cons (.k (.int 0)) .nil))) .nil)
def n12 : List Str := ["self", "alive"]
def b13 : CSs := (.cons (.asg (.v 2) (.cell (.lst .nil))) (.cons (.forr (.t (.cons (.v 3) (.cons (.v 4) .nil))) (.enum (.m1 .split (.v 1) (.k (.str (sx [32, 124, 32]))))) (.cons (.asg (.v 5) (.call 9 (.cons (.v 4) .nil))) (.cons (.iff (.val (.cmp .isN (.v 5) (.k .non))) (.cons .bad .nil) .nil) (.cons (.ex (.m1 .append (.v 2) (.v 5))) .nil)))) (.cons (.ret (.make (.v 0) (.cons (.v 2) .nil) .nil 1 0 [(10, [.i 0, .i 1]), (24, [.i 0, .i 1, .d 0 (.tup []), .d 1 (.tup [])]), (29, [.i 0, .i 1]), (28, [.i 0, .i 1]), (13, [.i 0, .i 1])])) .nil)))
def n13 : List Str := ["cls", "text", "shares", "at", "part", "share"]
def b14 : CSs := (.cons (.ret (.bi .len (.attr (.v 0) (sx [115, 104, 97, 114, 101, 115])))) .nil)
def n14 : List Str := ["self"]
def b15 : CSs := (.cons (.ret (.test (.an (.val (.isi (.v 1) (.cls 0))) (.val (.cmp .eq (.attr (.v 0) (sx [115, 104, 97, 114, 101, 115])) (.attr (.v 1) (sx [115, 104, 97, 114, 101, 115]))))))) .nil)
def n15 : List Str := ["self", "other"]
def b16 : CSs := (.cons (.ret (.m1 .join (.k (.str (sx [32, 124, 32]))) (.fz (.lc (.v 1) (.seq (.attr (.v 0) (sx [115, 104, 97, 114, 101, 115]))) .tt (.call 8 (.cons (.v 1) .nil)) [1])))) .nil)
def n16 : List Str := ["self", "share"]
def b17 : CSs := (.cons (.ret (.test (.an (.val (.call 4 (.cons (.v 0) .nil))) (.val (.bi .all (.fz (.lc (.v 1) (.seq (.v 0)) .tt (.test (.an (.val (.isi (.v 1) .tuple)) (.val (.cmp .eq (.bi .len (.v 1)) (.k (.int 2)))))) [1]))))))) .nil)
def n17 : List Str := ["value", "pair"]
def b18 : CSs := (.cons (.ret (.bi .all (.fz (.lc (.v 1) (.range (.cons (.bi .len (.v 0)) .nil)) .tt (.cmp .nmem (.ix (.v 0) (.v 1)) (.sl (.v 0) .nil (.cons (.v 1) .nil))) [1])))) .nil)
def n18 : List Str := ["names", "at"]
def b19 : CSs := (.cons (.iff (.or (.nt (.val (.call 17 (.cons (.v 0) .nil)))) (.val (.cmp .eq (.bi .len (.v 0)) (.k (.int 0))))) (.cons (.ret (.k (.bl false))) .nil) .nil) (.cons (.iff (.nt (.val (.bi .all (.fz (.lc (.t (.cons (.v 1) (.cons (.v 2) .nil))) (.seq (.v 0)) .tt (.test (.an (.val (.call 3 (.cons (.v 1) .nil))) (.val (.call 2 (.cons (.v 2) .nil))))) [1, 2]))))) (.cons (.ret (.k (.bl false))) .nil) .nil) (.cons (.ret (.call 18 (.cons (.fz (.lc (.t (.cons (.v 1) (.cons (.v 2) .nil))) (.seq (.v 0)) .tt (.v 1) [1, 2])) .nil))) .nil)))
def n19 : List Str := ["value", "name", "amount"]
def b20 : CSs := (.cons (.iff (.or (.nt (.val (.isi (.v 0) .str))) (.or (.val (.cmp .nmem (.v 0) (.v 2))) (.nt (.val (.isi (.v 1) (.cls 0)))))) (.cons (.ret (.k (.bl false))) .nil) .nil) (.cons (.ret (.bi .all (.fz (.lc (.v 3) (.seq (.attr (.v 1) (sx [110, 97, 109, 101, 115]))) .tt (.test (.an (.val (.cmp .mem (.v 3) (.v 2))) (.val (.cmp .ne (.v 3) (.v 0))))) [3])))) .nil))
def n20 : List Str := ["name", "will", "names", "other"]
def b21 : CSs := (.cons (.iff (.or (.nt (.val (.call 17 (.cons (.v 0) .nil)))) (.nt (.val (.bi .all (.fz (.lc (.t (.cons (.v 2) (.cons (.v 3) .nil))) (.seq (.v 0)) .tt (.call 20 (.cons (.v 2) (.cons (.v 3) (.cons (.v 1) .nil)))) [2, 3])))))) (.cons (.ret (.k (.bl false))) .nil) .nil) (.cons (.ret (.call 18 (.cons (.fz (.lc (.t (.cons (.v 2) (.cons (.v 3) .nil))) (.seq (.v 0)) .tt (.v 2) [2, 3])) .nil))) .nil))
def n21 : List Str := ["value", "names", "name", "will"]
def b22 : CSs := (.cons (.iff (.nt (.val (.call 17 (.cons (.v 0) .nil)))) (.cons (.ret (.k (.bl false))) .nil) .nil) (.cons (.forr (.t (.cons (.v 2) (.cons (.v 3) .nil))) (.seq (.v 0)) (.cons (.iff (.or (.nt (.val (.isi (.v 2) .str))) (.nt (.val (.isi (.v 3) .str)))) (.cons (.ret (.k (.bl false))) .nil) .nil) (.cons (.iff (.or (.val (.cmp .nmem (.v 2) (.v 1))) (.or (.val (.cmp .nmem (.v 3) (.v 1))) (.val (.cmp .eq (.v 2) (.v 3))))) (.cons (.ret (.k (.bl false))) .nil) .nil) .nil))) (.cons (.ret (.k (.bl true))) .nil)))
def n22 : List Str := ["value", "dead", "first", "then"]
def b23 : CSs := (.cons (.asg (.v 2) (.fz (.lof (.v 0)))) (.cons (.whil (.val (.cmp .ne (.v 2) (.fz (.lst .nil)))) (.cons (.asg (.v 3) (.fz (.lc (.t (.cons (.v 6) (.cons (.v 7) .nil))) (.seq (.v 1)) (.val (.cmp .mem (.v 6) (.v 2))) (.v 7) [6, 7]))) (.cons (.asg (.v 4) (.fz (.lc (.v 5) (.seq (.v 2)) (.val (.cmp .nmem (.v 5) (.v 3))) (.v 5) [5]))) (.cons (.iff (.val (.cmp .eq (.v 4) (.fz (.lst .nil)))) (.cons (.ret (.k (.bl true))) .nil) .nil) (.cons (.asg (.v 2) (.fz (.lc (.v 5) (.seq (.v 2)) (.val (.cmp .nmem (.v 5) (.v 4))) (.v 5) [5]))) .nil))))) (.cons (.ret (.k (.bl false))) .nil)))
def n23 : List Str := ["dead", "facts", "left", "held", "free", "name", "first", "then"]
def b24 : CSs := (.cons (.iff (.nt (.val (.call 19 (.cons (.v 1) .nil)))) (.cons .bad .nil) .nil) (.cons (.iff (.nt (.val (.call 21 (.cons (.v 2) (.cons (.fz (.lc (.t (.cons (.v 5) (.cons (.v 7) .nil))) (.seq (.v 1)) .tt (.v 5) [5, 7])) .nil))))) (.cons .bad .nil) .nil) (.cons (.asg (.v 4) (.fz (.lc (.t (.cons (.v 5) (.cons (.v 6) .nil))) (.seq (.v 2)) .tt (.v 5) [5, 6]))) (.cons (.iff (.nt (.val (.call 22 (.cons (.v 3) (.cons (.v 4) .nil))))) (.cons .bad .nil) .nil) (.cons (.iff (.val (.call 23 (.cons (.v 4) (.cons (.v 3) .nil)))) (.cons .bad .nil) .nil) (.cons (.setf (.v 0) (sx [112, 101, 111, 112, 108, 101]) (.bi .tuple (.v 1))) (.cons (.setf (.v 0) (sx [119, 105, 108, 108, 115]) (.bi .tuple (.v 2))) (.cons (.setf (.v 0) (sx [102, 97, 99, 116, 115]) (.bi .tuple (.v 3))) .nil))))))))
def n24 : List Str := ["self", "people", "wills", "facts", "dead", "name", "will", "amount"]
def b25 : CSs := (.cons (.ret (.bi .tuple (.fz (.lc (.t (.cons (.v 1) (.cons (.v 2) .nil))) (.seq (.attr (.v 0) (sx [112, 101, 111, 112, 108, 101]))) .tt (.v 1) [1, 2])))) .nil)
def n25 : List Str := ["self", "name", "amount"]
def b26 : CSs := (.cons (.ret (.bi .tuple (.fz (.srt (.fz (.lc (.t (.cons (.v 1) (.cons (.v 2) .nil))) (.seq (.attr (.v 0) (sx [119, 105, 108, 108, 115]))) .tt (.v 1) [1, 2])))))) .nil)
def n26 : List Str := ["self", "name", "will"]
def b27 : CSs := (.cons (.ex (.call 0 (.cons (.k (.int 1)) .nil))) .nil)
def n27 : List Str := ["self"]
def b28 : CSs := (.cons (.forr (.t (.cons (.v 2) (.cons (.v 3) .nil))) (.seq (.attr (.v 0) (sx [112, 101, 111, 112, 108, 101]))) (.cons (.iff (.an (.val (.isi (.v 1) .str)) (.val (.cmp .eq (.v 2) (.v 1)))) (.cons (.ret (.v 3)) .nil) .nil) .nil)) (.cons .bad .nil))
def n28 : List Str := ["self", "name", "other", "amount"]
def b29 : CSs := (.cons (.forr (.t (.cons (.v 2) (.cons (.v 3) .nil))) (.seq (.attr (.v 0) (sx [119, 105, 108, 108, 115]))) (.cons (.iff (.an (.val (.isi (.v 1) .str)) (.val (.cmp .eq (.v 2) (.v 1)))) (.cons (.ret (.v 3)) .nil) .nil) .nil)) (.cons .bad .nil))
def n29 : List Str := ["self", "name", "other", "will"]
def b30 : CSs := (.cons (.ex (.meth (sx [119, 105, 108, 108, 95, 111, 102]) (.v 0) (.cons (.v 1) .nil) .nil 1 0 [(10, [.i 0, .i 1]), (24, [.i 0, .i 1, .d 0 (.tup []), .d 1 (.tup [])]), (29, [.i 0, .i 1]), (28, [.i 0, .i 1]), (13, [.i 0, .i 1])])) (.cons (.ex (.meth (sx [119, 105, 108, 108, 95, 111, 102]) (.v 0) (.cons (.v 2) .nil) .nil 1 0 [(10, [.i 0, .i 1]), (24, [.i 0, .i 1, .d 0 (.tup []), .d 1 (.tup [])]), (29, [.i 0, .i 1]), (28, [.i 0, .i 1]), (13, [.i 0, .i 1])])) (.cons (.ret (.make (.k (.cls 1)) (.cons (.attr (.v 0) (sx [112, 101, 111, 112, 108, 101])) (.cons (.attr (.v 0) (sx [119, 105, 108, 108, 115])) (.cons (.tup (.star (.attr (.v 0) (sx [102, 97, 99, 116, 115])) (.cons (.tup (.cons (.v 1) (.cons (.v 2) .nil))) .nil))) .nil))) .nil 3 0 [(24, [.i 0, .i 1, .i 2, .i 3])])) .nil)))
def n30 : List Str := ["self", "first", "then"]
def b31 : CSs := (.cons (.ex (.meth (sx [111, 119, 110]) (.v 0) (.cons (.v 1) .nil) .nil 1 0 [(10, [.i 0, .i 1]), (24, [.i 0, .i 1, .d 0 (.tup []), .d 1 (.tup [])]), (29, [.i 0, .i 1]), (28, [.i 0, .i 1]), (13, [.i 0, .i 1])])) (.cons (.asg (.v 3) (.fz (.lc (.t (.cons (.v 4) (.cons (.v 5) .nil))) (.seq (.attr (.v 0) (sx [112, 101, 111, 112, 108, 101]))) .tt (.tup (.cons (.v 4) (.cons (.ite (.val (.cmp .eq (.v 4) (.v 1))) (.v 2) (.v 5)) .nil))) [4, 5]))) (.cons (.ret (.make (.k (.cls 1)) (.cons (.v 3) (.cons (.attr (.v 0) (sx [119, 105, 108, 108, 115])) (.cons (.attr (.v 0) (sx [102, 97, 99, 116, 115])) .nil))) .nil 3 0 [(24, [.i 0, .i 1, .i 2, .i 3])])) .nil)))
def n31 : List Str := ["self", "name", "amount", "people", "other", "kept"]
def b32 : CSs := (.cons (.asg (.v 2) (.ddis [Sum.inr (sx [112, 101, 114, 115, 111, 110]), Sum.inr (sx [119, 105, 108, 108]), Sum.inr (sx [102, 105, 114, 115, 116])] (.cons (.cell (.lst .nil)) (.cons (.cell (.lst .nil)) (.cons (.cell (.lst .nil)) .nil))))) (.cons (.asg (.v 3) (.k (.int 0))) (.cons (.forr (.t (.cons (.v 4) (.cons (.v 5) .nil))) (.enum (.m1 .split (.v 1) (.k (.str (sx [10]))))) (.cons (.asg (.t (.cons (.v 7) (.cons (.v 8) .nil))) (.call 37 (.cons (.v 5) .nil))) (.cons (.asg (.v 6) (.ite (.val (.cmp .mem (.v 7) (.v 2))) (.m1 .index (.fz (.lof (.v 2))) (.v 7)) (.neg (.k (.int 1))))) (.cons (.iff (.val (.cmp .lt (.v 6) (.v 3))) (.cons .bad .nil) .nil) (.cons (.asg (.v 3) (.v 6)) (.cons (.ex (.m1 .append (.ix (.v 2) (.v 7)) (.v 8))) .nil)))))) (.cons (.ret (.make (.v 0) (.cons (.ix (.v 2) (.k (.str (sx [112, 101, 114, 115, 111, 110])))) (.cons (.ix (.v 2) (.k (.str (sx [119, 105, 108, 108])))) (.cons (.ix (.v 2) (.k (.str (sx [102, 105, 114, 115, 116])))) .nil))) .nil 3 0 [(24, [.i 0, .i 1, .i 2, .i 3])])) .nil))))
def n32 : List Str := ["cls", "text", "found", "stage", "at", "line", "later", "kind", "told"]
def b33 : CSs := (.cons (.iff (.nt (.val (.isi (.v 1) (.cls 1)))) (.cons .bad .nil) .nil) (.cons (.ret (.make (.k (.cls 1)) (.cons (.bin .add (.attr (.v 0) (sx [112, 101, 111, 112, 108, 101])) (.attr (.v 1) (sx [112, 101, 111, 112, 108, 101]))) (.cons (.bin .add (.attr (.v 0) (sx [119, 105, 108, 108, 115])) (.attr (.v 1) (sx [119, 105, 108, 108, 115]))) (.cons (.bin .add (.attr (.v 0) (sx [102, 97, 99, 116, 115])) (.attr (.v 1) (sx [102, 97, 99, 116, 115]))) .nil))) .nil 3 0 [(24, [.i 0, .i 1, .i 2, .i 3])])) .nil))
def n33 : List Str := ["self", "other"]
def b34 : CSs := (.cons (.ret (.test (.an (.val (.isi (.v 1) (.cls 1))) (.val (.cmp .eq (.bi .str (.v 0)) (.bi .str (.v 1))))))) .nil)
def n34 : List Str := ["self", "other"]
def b35 : CSs := (.cons (.asg (.v 1) (.fz (.lc (.t (.cons (.v 4) (.cons (.v 5) .nil))) (.seq (.attr (.v 0) (sx [112, 101, 111, 112, 108, 101]))) .tt (.bin .add (.bin .add (.bin .add (.k (.str (sx [112, 101, 114, 115, 111, 110, 32]))) (.bi .str (.v 4))) (.k (.str (sx [32])))) (.bi .str (.v 5))) [4, 5]))) (.cons (.asg (.v 2) (.fz (.lc (.t (.cons (.v 4) (.cons (.v 6) .nil))) (.seq (.attr (.v 0) (sx [119, 105, 108, 108, 115]))) .tt (.bin .add (.bin .add (.bin .add (.k (.str (sx [119, 105, 108, 108, 32]))) (.bi .str (.v 4))) (.k (.str (sx [32])))) (.bi .str (.v 6))) [4, 6]))) (.cons (.asg (.v 3) (.fz (.lc (.t (.cons (.v 7) (.cons (.v 8) .nil))) (.seq (.attr (.v 0) (sx [102, 97, 99, 116, 115]))) .tt (.bin .add (.bin .add (.bin .add (.k (.str (sx [102, 105, 114, 115, 116, 32]))) (.bi .str (.v 7))) (.k (.str (sx [32])))) (.bi .str (.v 8))) [7, 8]))) (.cons (.ret (.m1 .join (.k (.str (sx [10]))) (.fz (.lst (.star (.v 1) (.star (.v 2) (.star (.v 3) .nil))))))) .nil))))
def n35 : List Str := ["self", "people", "wills", "facts", "name", "amount", "will", "first", "then"]
def b36 : CSs := (.cons (.iff .tt (.cons (.ret (.callk 13 (.cons (.k (.cls 0)) (.cons (.v 0) .nil)) .nil 2 0 [.i 0, .i 1])) .nil) .nil) .nil)
def n36 : List Str := ["text"]
def b37 : CSs := (.cons (.asg (.v 1) (.m1 .split (.v 0) (.k (.str (sx [32]))))) (.cons (.iff (.an (.val (.cmp .eq (.ix (.v 1) (.k (.int 0))) (.k (.str (sx [119, 105, 108, 108]))))) (.an (.val (.cmp .gt (.bi .len (.v 1)) (.k (.int 2)))) (.val (.call 3 (.cons (.ix (.v 1) (.k (.int 1))) .nil))))) (.cons (.asg (.v 3) (.call 36 (.cons (.m1 .join (.k (.str (sx [32]))) (.sl (.v 1) (.cons (.k (.int 2)) .nil) .nil)) .nil))) (.cons (.ret (.ite (.val (.cmp .isN (.v 3) (.k .non))) (.tup (.cons (.k (.str (sx []))) (.cons (.k .non) .nil))) (.tup (.cons (.k (.str (sx [119, 105, 108, 108]))) (.cons (.tup (.cons (.ix (.v 1) (.k (.int 1))) (.cons (.v 3) .nil))) .nil))))) .nil)) .nil) (.cons (.iff (.or (.val (.cmp .ne (.bi .len (.v 1)) (.k (.int 3)))) (.nt (.val (.call 3 (.cons (.ix (.v 1) (.k (.int 1))) .nil))))) (.cons (.ret (.tup (.cons (.k (.str (sx []))) (.cons (.k .non) .nil)))) .nil) .nil) (.cons (.asg (.v 2) (.call 5 (.cons (.ix (.v 1) (.k (.int 2))) (.cons (.k (.int 10)) .nil)))) (.cons (.iff (.an (.val (.cmp .eq (.ix (.v 1) (.k (.int 0))) (.k (.str (sx [112, 101, 114, 115, 111, 110]))))) (.val (.cmp .notN (.v 2) (.k .non)))) (.cons (.ret (.tup (.cons (.k (.str (sx [112, 101, 114, 115, 111, 110]))) (.cons (.tup (.cons (.ix (.v 1) (.k (.int 1))) (.cons (.v 2) .nil))) .nil)))) .nil) .nil) (.cons (.iff (.an (.val (.cmp .eq (.ix (.v 1) (.k (.int 0))) (.k (.str (sx [102, 105, 114, 115, 116]))))) (.val (.call 3 (.cons (.ix (.v 1) (.k (.int 2))) .nil)))) (.cons (.ret (.tup (.cons (.k (.str (sx [102, 105, 114, 115, 116]))) (.cons (.tup (.cons (.ix (.v 1) (.k (.int 1))) (.cons (.ix (.v 1) (.k (.int 2))) .nil))) .nil)))) .nil) .nil) (.cons (.ret (.tup (.cons (.k (.str (sx []))) (.cons (.k .non) .nil)))) .nil)))))))
def n37 : List Str := ["line", "words", "amount", "will"]
def b38 : CSs := (.cons (.asg (.v 1) (.bin .add (.bin .mul (.k (.int 31)) (.bi .len (.v 0))) (.bi .sum (.fz (.lc (.v 2) (.seq (.sl (.v 0) .nil (.cons (.k (.int 40)) .nil))) .tt (.bin .mod (.bi .abs (.bi .int (.v 2))) (.k (.int 991))) [2]))))) (.cons (.ret (.fz (.lst (.cons (.bin .mod (.bi .int (.v 1)) (.k (.int 13))) (.cons (.bin .mod (.bi .int (.bin .fdiv (.v 1) (.k (.int 13)))) (.k (.int 7))) (.cons (.bin .mod (.bi .int (.bin .fdiv (.v 1) (.k (.int 91)))) (.k (.int 3))) .nil)))))) .nil))
def n38 : List Str := ["_law_script", "_law_zsum", "_law_zone"]
def b39 : CSs := (.cons (.asg (.t (.cons (.v 4) (.cons (.v 5) (.cons (.v 6) .nil)))) (.call 38 (.cons (.v 0) .nil))) (.cons (.asg (.v 1) (.fz (.lst (.cons (.tup (.cons (.k (.str (sx [97, 110, 110]))) (.cons (.v 4) .nil))) (.cons (.tup (.cons (.k (.str (sx [98, 111, 98]))) (.cons (.v 5) .nil))) (.cons (.tup (.cons (.k (.str (sx [99, 105, 100]))) (.cons (.v 6) .nil))) .nil)))))) (.cons (.asg (.v 2) (.fz (.lst (.cons (.tup (.cons (.k (.str (sx [97, 110, 110]))) (.cons (.make (.k (.cls 0)) (.cons (.fz (.lst (.cons (.tup (.cons (.bin .add (.k (.int 1)) (.v 6)) (.cons (.fz (.lst (.cons (.fz (.lst (.cons (.k (.str (sx [98, 111, 98]))) .nil))) (.cons (.fz (.lst (.cons (.k (.str (sx [99, 105, 100]))) .nil))) .nil)))) .nil))) .nil))) .nil) .nil 1 0 [(10, [.i 0, .i 1]), (24, [.i 0, .i 1, .d 0 (.tup []), .d 1 (.tup [])]), (29, [.i 0, .i 1]), (28, [.i 0, .i 1]), (13, [.i 0, .i 1])]) .nil))) (.cons (.tup (.cons (.k (.str (sx [98, 111, 98]))) (.cons (.make (.k (.cls 0)) (.cons (.fz (.lst (.cons (.tup (.cons (.k (.int 1)) (.cons (.fz (.lst (.cons (.fz (.lst (.cons (.k (.str (sx [99, 105, 100]))) .nil))) .nil))) .nil))) .nil))) .nil) .nil 1 0 [(10, [.i 0, .i 1]), (24, [.i 0, .i 1, .d 0 (.tup []), .d 1 (.tup [])]), (29, [.i 0, .i 1]), (28, [.i 0, .i 1]), (13, [.i 0, .i 1])]) .nil))) .nil))))) (.cons (.asg (.v 3) (.make (.k (.cls 1)) .nil (.cons (.fz (.lst (.cons (.tup (.cons (.k (.str (sx [97, 110, 110]))) (.cons (.k (.str (sx [98, 111, 98]))) .nil))) .nil))) (.cons (.v 2) (.cons (.v 1) .nil))) 0 3 [(24, [.i 0, .i 3, .i 2, .i 1])])) (.cons (.iff (.or (.val (.cmp .ne (.v 3) (.make (.k (.cls 1)) (.cons (.v 1) (.cons (.v 2) (.cons (.fz (.lst (.cons (.tup (.cons (.k (.str (sx [97, 110, 110]))) (.cons (.k (.str (sx [98, 111, 98]))) .nil))) .nil))) .nil))) .nil 3 0 [(24, [.i 0, .i 1, .i 2, .i 3])]))) (.val (.cmp .ne (.make (.k (.cls 1)) .nil (.cons (.v 1) .nil) 0 1 [(24, [.i 0, .i 1, .d 0 (.tup []), .d 1 (.tup [])])]) (.make (.k (.cls 1)) (.cons (.v 1) (.cons (.tup .nil) (.cons (.tup .nil) .nil))) .nil 3 0 [(24, [.i 0, .i 1, .i 2, .i 3])])))) (.cons (.ret (.k (.bl false))) .nil) .nil) (.cons (.iff (.or (.val (.cmp .ne (.callk 32 (.cons (.k (.cls 1)) .nil) (.cons (.bi .str (.v 3)) .nil) 1 1 [.i 0, .i 1]) (.v 3))) (.val (.cmp .ne (.meth (sx [111, 119, 110]) (.v 3) .nil (.cons (.k (.str (sx [98, 111, 98]))) .nil) 0 1 [(28, [.i 0, .i 1]), (29, [.i 0, .i 1])]) (.v 5)))) (.cons (.ret (.k (.bl false))) .nil) .nil) (.cons (.iff (.or (.val (.cmp .ne (.meth (sx [119, 105, 108, 108, 95, 111, 102]) (.v 3) .nil (.cons (.k (.str (sx [97, 110, 110]))) .nil) 0 1 [(28, [.i 0, .i 1]), (29, [.i 0, .i 1])]) (.ix (.ix (.v 2) (.k (.int 0))) (.k (.int 1))))) (.val (.cmp .ne (.attr (.make (.k (.cls 1)) .nil (.cons (.v 2) (.cons (.v 1) .nil)) 0 2 [(24, [.i 0, .i 2, .i 1, .d 1 (.tup [])])]) (sx [102, 97, 99, 116, 115])) (.tup .nil)))) (.cons (.ret (.k (.bl false))) .nil) .nil) (.cons (.iff (.val (.cmp .ne (.meth (sx [119, 105, 116, 104, 95, 102, 97, 99, 116]) (.v 3) .nil (.cons (.k (.str (sx [98, 111, 98]))) (.cons (.k (.str (sx [97, 110, 110]))) .nil)) 0 2 [(30, [.i 0, .i 2, .i 1])]) (.meth (sx [119, 105, 116, 104, 95, 102, 97, 99, 116]) (.v 3) (.cons (.k (.str (sx [97, 110, 110]))) (.cons (.k (.str (sx [98, 111, 98]))) .nil)) .nil 2 0 [(30, [.i 0, .i 1, .i 2]), (31, [.i 0, .i 1, .i 2])]))) (.cons (.ret (.k (.bl false))) .nil) .nil) (.cons (.ret (.cmp .eq (.meth (sx [119, 105, 116, 104, 95, 111, 119, 110]) (.v 3) .nil (.cons (.k (.int 9)) (.cons (.k (.str (sx [99, 105, 100]))) .nil)) 0 2 [(31, [.i 0, .i 2, .i 1])]) (.meth (sx [119, 105, 116, 104, 95, 111, 119, 110]) (.v 3) (.cons (.k (.str (sx [99, 105, 100]))) (.cons (.k (.int 9)) .nil)) .nil 2 0 [(30, [.i 0, .i 1, .i 2]), (31, [.i 0, .i 1, .i 2])]))) .nil)))))))))
def n39 : List Str := ["_law_script", "_law_zpeople", "_law_zwills", "_law_zhome", "_law_zone", "_law_ztwo", "_law_zthree"]
def fnT : Nat → Option CFn
  | 0 => some ⟨1, 1, b0⟩
  | 1 => some ⟨1, 1, b1⟩
  | 2 => some ⟨1, 1, b2⟩
  | 3 => some ⟨1, 2, b3⟩
  | 4 => some ⟨1, 1, b4⟩
  | 5 => some ⟨2, 3, b5⟩
  | 6 => some ⟨1, 3, b6⟩
  | 7 => some ⟨1, 2, b7⟩
  | 8 => some ⟨1, 3, b8⟩
  | 9 => some ⟨1, 8, b9⟩
  | 10 => some ⟨2, 4, b10⟩
  | 11 => some ⟨1, 6, b11⟩
  | 12 => some ⟨2, 2, b12⟩
  | 13 => some ⟨2, 6, b13⟩
  | 14 => some ⟨1, 1, b14⟩
  | 15 => some ⟨2, 2, b15⟩
  | 16 => some ⟨1, 2, b16⟩
  | 17 => some ⟨1, 2, b17⟩
  | 18 => some ⟨1, 2, b18⟩
  | 19 => some ⟨1, 3, b19⟩
  | 20 => some ⟨3, 4, b20⟩
  | 21 => some ⟨2, 4, b21⟩
  | 22 => some ⟨2, 4, b22⟩
  | 23 => some ⟨2, 8, b23⟩
  | 24 => some ⟨4, 8, b24⟩
  | 25 => some ⟨1, 3, b25⟩
  | 26 => some ⟨1, 3, b26⟩
  | 27 => some ⟨1, 1, b27⟩
  | 28 => some ⟨2, 4, b28⟩
  | 29 => some ⟨2, 4, b29⟩
  | 30 => some ⟨3, 3, b30⟩
  | 31 => some ⟨3, 6, b31⟩
  | 32 => some ⟨2, 9, b32⟩
  | 33 => some ⟨2, 2, b33⟩
  | 34 => some ⟨2, 2, b34⟩
  | 35 => some ⟨1, 9, b35⟩
  | 36 => some ⟨1, 1, b36⟩
  | 37 => some ⟨1, 4, b37⟩
  | 38 => some ⟨1, 3, b38⟩
  | 39 => some ⟨1, 7, b39⟩
  | _ => none
def attL : List (Nat × (Str × Option Nat)) := [(0, ((sx [115, 104, 97, 114, 101, 115]), none)), (0, ((sx [110, 97, 109, 101, 115]), (some 11))), (1, ((sx [102, 97, 99, 116, 115]), none)), (1, ((sx [112, 101, 111, 112, 108, 101]), none)), (1, ((sx [119, 105, 108, 108, 115]), none)), (1, ((sx [110, 97, 109, 101, 115]), (some 25))), (1, ((sx [100, 101, 97, 100]), (some 26))), (1, ((sx [108, 105, 118, 105, 110, 103]), (some 27)))]
def metL : List (Nat × (Str × Nat)) := [(0, ((sx [104, 101, 105, 114, 115]), 12)), (1, ((sx [111, 119, 110]), 28)), (1, ((sx [119, 105, 108, 108, 95, 111, 102]), 29)), (1, ((sx [119, 105, 116, 104, 95, 102, 97, 99, 116]), 30)), (1, ((sx [119, 105, 116, 104, 95, 111, 119, 110]), 31))]
def iniL : List (Nat × Nat) := [(0, 10), (1, 24)]
def eqfL : List (Nat × Nat) := [(0, 15), (1, 34)]
def strL : List (Nat × Nat) := [(0, 16), (1, 35)]
def TB : Tab := ⟨fnT, 2, attA attL, metA metL, fun c => iniL.lookup c, fun c => eqfL.lookup c, strA strL⟩
def TT : Tbl where
  fns := [("_wall", (0, 1)), ("is_integer", (1, 1)), ("is_number", (2, 1)), ("is_name", (3, 1)), ("is_sequence", (4, 1)), ("number_in", (5, 2)), ("is_group", (6, 1)), ("is_share", (7, 1)), ("share_text", (8, 1)), ("share_in", (9, 1)), ("are_pairs", (17, 1)), ("are_unlike", (18, 1)), ("are_people", (19, 1)), ("is_will_of", (20, 3)), ("are_wills", (21, 2)), ("are_facts", (22, 2)), ("has_ring", (23, 2)), ("will_in", (36, 1)), ("line_in", (37, 1)), ("_law_numbers", (38, 1)), ("law", (39, 1))]
  consts := [("CROWN", (.str (sx [99, 114, 111, 119, 110]))), ("LETTERS", (.str (sx [97, 98, 99, 100, 101, 102, 103, 104, 105, 106, 107, 108, 109, 110, 111, 112, 113, 114, 115, 116, 117, 118, 119, 120, 121, 122]))), ("FIGURES", (.str (sx [48, 49, 50, 51, 52, 53, 54, 55, 56, 57])))]
  cells := [(85, 17), (190, 27), (190, 39), (190, 52)]
  clss := [("Will", 0), ("Family", 1)]
  plans := [(2, ([], (10, [.i 0, .i 1]))), (2, ([], (24, [.i 0, .i 1, .d 0 (.tup []), .d 1 (.tup [])]))), (2, ([], (29, [.i 0, .i 1]))), (4, ([], (24, [.i 0, .i 1, .i 2, .i 3]))), (2, ([], (28, [.i 0, .i 1]))), (2, ([], (13, [.i 0, .i 1]))), (1, (["facts", "wills", "people"], (24, [.i 0, .i 3, .i 2, .i 1]))), (1, (["people"], (24, [.i 0, .i 1, .d 0 (.tup []), .d 1 (.tup [])]))), (1, (["text"], (32, [.i 0, .i 1]))), (1, (["name"], (28, [.i 0, .i 1]))), (1, (["name"], (29, [.i 0, .i 1]))), (1, (["wills", "people"], (24, [.i 0, .i 2, .i 1, .d 1 (.tup [])]))), (1, (["then", "first"], (30, [.i 0, .i 2, .i 1]))), (3, ([], (30, [.i 0, .i 1, .i 2]))), (1, (["amount", "name"], (31, [.i 0, .i 2, .i 1]))), (3, ([], (31, [.i 0, .i 1, .i 2])))]
  cms := [(0, ("read", 13)), (1, ("read", 32))]
  exs := [("InvalidWill", "word"), ("InvalidFamily", "word"), ("InvalidText", "at"), ("NoName", "name")]
def top (i : Nat) : Stmt := PySem.Challenge.pw_heirorders_k18_families_by_names.main.body.getD i (.Pass ⟨0, 0, 0, 0⟩)
def mth (i j : Nat) : Stmt := match top i with
  | .ClassDef _ _ _ b _ _ _ _ _ _ _ => b.getD j (.Pass ⟨0, 0, 0, 0⟩)
  | _ => .Pass ⟨0, 0, 0, 0⟩
def r0 : DefR := ⟨fun K => He.ga K "_wall", "_wall", "_wall", defArgs (top 0), defBody (top 0), defScope (top 0), ["k"], n0, 40, []⟩
def r1 : DefR := ⟨fun K => He.ga K "is_integer", "is_integer", "is_integer", defArgs (top 11), defBody (top 11), defScope (top 11), ["value"], n1, 40, []⟩
def r2 : DefR := ⟨fun K => He.ga K "is_number", "is_number", "is_number", defArgs (top 12), defBody (top 12), defScope (top 12), ["value"], n2, 40, []⟩
def r3 : DefR := ⟨fun K => He.ga K "is_name", "is_name", "is_name", defArgs (top 13), defBody (top 13), defScope (top 13), ["value"], n3, 40, []⟩
def r4 : DefR := ⟨fun K => He.ga K "is_sequence", "is_sequence", "is_sequence", defArgs (top 14), defBody (top 14), defScope (top 14), ["value"], n4, 40, []⟩
def r5 : DefR := ⟨fun K => He.ga K "number_in", "number_in", "number_in", defArgs (top 15), defBody (top 15), defScope (top 15), ["word", "most"], n5, 40, []⟩
def r6 : DefR := ⟨fun K => He.ga K "is_group", "is_group", "is_group", defArgs (top 17), defBody (top 17), defScope (top 17), ["value"], n6, 40, []⟩
def r7 : DefR := ⟨fun K => He.ga K "is_share", "is_share", "is_share", defArgs (top 18), defBody (top 18), defScope (top 18), ["value"], n7, 40, []⟩
def r8 : DefR := ⟨fun K => He.ga K "share_text", "share_text", "share_text", defArgs (top 19), defBody (top 19), defScope (top 19), ["share"], n8, 40, []⟩
def r9 : DefR := ⟨fun K => He.ga K "share_in", "share_in", "share_in", defArgs (top 20), defBody (top 20), defScope (top 20), ["part"], n9, 40, []⟩
def r10 : DefR := ⟨fun K => He.ma K (He.ga K "Will") "__init__", "__init__", "Will.__init__", defArgs (mth 21 0), defBody (mth 21 0), defScope (mth 21 0), ["self", "shares"], n10, 40, []⟩
def r11 : DefR := ⟨fun K => He5.wf K (He.ga K "Will") "property" "names", "names", "Will.names", defArgs (mth 21 1), defBody (mth 21 1), defScope (mth 21 1), ["self"], n11, 40, []⟩
def r12 : DefR := ⟨fun K => He.ma K (He.ga K "Will") "heirs", "heirs", "Will.heirs", defArgs (mth 21 2), defBody (mth 21 2), defScope (mth 21 2), ["self", "alive"], n12, 40, []⟩
def r13 : DefR := ⟨fun K => He5.wf K (He.ga K "Will") "classmethod" "read", "read", "Will.read", defArgs (mth 21 3), defBody (mth 21 3), defScope (mth 21 3), ["cls", "text"], n13, 40, []⟩
def r14 : DefR := ⟨fun K => He.ma K (He.ga K "Will") "__len__", "__len__", "Will.__len__", defArgs (mth 21 4), defBody (mth 21 4), defScope (mth 21 4), ["self"], n14, 40, []⟩
def r15 : DefR := ⟨fun K => He.ma K (He.ga K "Will") "__eq__", "__eq__", "Will.__eq__", defArgs (mth 21 5), defBody (mth 21 5), defScope (mth 21 5), ["self", "other"], n15, 40, []⟩
def r16 : DefR := ⟨fun K => He.ma K (He.ga K "Will") "__str__", "__str__", "Will.__str__", defArgs (mth 21 6), defBody (mth 21 6), defScope (mth 21 6), ["self"], n16, 40, []⟩
def r17 : DefR := ⟨fun K => He.ga K "are_pairs", "are_pairs", "are_pairs", defArgs (top 23), defBody (top 23), defScope (top 23), ["value"], n17, 40, []⟩
def r18 : DefR := ⟨fun K => He.ga K "are_unlike", "are_unlike", "are_unlike", defArgs (top 24), defBody (top 24), defScope (top 24), ["names"], n18, 40, []⟩
def r19 : DefR := ⟨fun K => He.ga K "are_people", "are_people", "are_people", defArgs (top 25), defBody (top 25), defScope (top 25), ["value"], n19, 40, []⟩
def r20 : DefR := ⟨fun K => He.ga K "is_will_of", "is_will_of", "is_will_of", defArgs (top 26), defBody (top 26), defScope (top 26), ["name", "will", "names"], n20, 40, []⟩
def r21 : DefR := ⟨fun K => He.ga K "are_wills", "are_wills", "are_wills", defArgs (top 27), defBody (top 27), defScope (top 27), ["value", "names"], n21, 40, []⟩
def r22 : DefR := ⟨fun K => He.ga K "are_facts", "are_facts", "are_facts", defArgs (top 28), defBody (top 28), defScope (top 28), ["value", "dead"], n22, 40, []⟩
def r23 : DefR := ⟨fun K => He.ga K "has_ring", "has_ring", "has_ring", defArgs (top 29), defBody (top 29), defScope (top 29), ["dead", "facts"], n23, 40, []⟩
def r24 : DefR := ⟨fun K => He.ma K (He.ga K "Family") "__init__", "__init__", "Family.__init__", defArgs (mth 30 0), defBody (mth 30 0), defScope (mth 30 0), ["self", "people", "wills", "facts"], n24, 40, [.adr (He.dflAt ("Family", some "__init__") 0), .adr (He.dflAt ("Family", some "__init__") 1)]⟩
def r25 : DefR := ⟨fun K => He5.wf K (He.ga K "Family") "property" "names", "names", "Family.names", defArgs (mth 30 1), defBody (mth 30 1), defScope (mth 30 1), ["self"], n25, 40, []⟩
def r26 : DefR := ⟨fun K => He5.wf K (He.ga K "Family") "property" "dead", "dead", "Family.dead", defArgs (mth 30 2), defBody (mth 30 2), defScope (mth 30 2), ["self"], n26, 40, []⟩
def r27 : DefR := ⟨fun K => He5.wf K (He.ga K "Family") "property" "living", "living", "Family.living", defArgs (mth 30 3), defBody (mth 30 3), defScope (mth 30 3), ["self"], n27, 40, []⟩
def r28 : DefR := ⟨fun K => He.ma K (He.ga K "Family") "own", "own", "Family.own", defArgs (mth 30 4), defBody (mth 30 4), defScope (mth 30 4), ["self", "name"], n28, 40, []⟩
def r29 : DefR := ⟨fun K => He.ma K (He.ga K "Family") "will_of", "will_of", "Family.will_of", defArgs (mth 30 5), defBody (mth 30 5), defScope (mth 30 5), ["self", "name"], n29, 40, []⟩
def r30 : DefR := ⟨fun K => He.ma K (He.ga K "Family") "with_fact", "with_fact", "Family.with_fact", defArgs (mth 30 6), defBody (mth 30 6), defScope (mth 30 6), ["self", "first", "then"], n30, 40, []⟩
def r31 : DefR := ⟨fun K => He.ma K (He.ga K "Family") "with_own", "with_own", "Family.with_own", defArgs (mth 30 7), defBody (mth 30 7), defScope (mth 30 7), ["self", "name", "amount"], n31, 40, []⟩
def r32 : DefR := ⟨fun K => He5.wf K (He.ga K "Family") "classmethod" "read", "read", "Family.read", defArgs (mth 30 8), defBody (mth 30 8), defScope (mth 30 8), ["cls", "text"], n32, 40, []⟩
def r33 : DefR := ⟨fun K => He.ma K (He.ga K "Family") "__add__", "__add__", "Family.__add__", defArgs (mth 30 9), defBody (mth 30 9), defScope (mth 30 9), ["self", "other"], n33, 40, []⟩
def r34 : DefR := ⟨fun K => He.ma K (He.ga K "Family") "__eq__", "__eq__", "Family.__eq__", defArgs (mth 30 10), defBody (mth 30 10), defScope (mth 30 10), ["self", "other"], n34, 40, []⟩
def r35 : DefR := ⟨fun K => He.ma K (He.ga K "Family") "__str__", "__str__", "Family.__str__", defArgs (mth 30 11), defBody (mth 30 11), defScope (mth 30 11), ["self"], n35, 40, []⟩
def r36 : DefR := ⟨fun K => He.ga K "will_in", "will_in", "will_in", defArgs (top 31), defBody (top 31), defScope (top 31), ["text"], n36, 40, []⟩
def r37 : DefR := ⟨fun K => He.ga K "line_in", "line_in", "line_in", defArgs (top 32), defBody (top 32), defScope (top 32), ["line"], n37, 40, []⟩
def r38 : DefR := ⟨fun K => He.ga K "_law_numbers", "_law_numbers", "_law_numbers", defArgs (top 34), defBody (top 34), defScope (top 34), ["_law_script"], n38, 40, []⟩
def r39 : DefR := ⟨fun K => He.ga K "law", "law", "law", defArgs (top 35), defBody (top 35), defScope (top 35), ["_law_script"], n39, 40, []⟩
def x0 : ExR := ⟨"InvalidWill", "word", .ve, "__init__", "InvalidWill.__init__", defArgs (mth 3 0), defBody (mth 3 0), defScope (mth 3 0), "/claim/cut.py"⟩
theorem y0 : ExOk x0 := ⟨⟨_, _, _, _, _, _, _, _, _, _, rfl, rfl⟩, ⟨rfl, rfl, rfl, rfl, rfl, rfl, rfl, by decide +kernel⟩, ⟨_, rfl, rfl⟩, fun _ _ _ _ _ _ _ _ _ => by kernel_rfl, by decide +kernel, by decide +kernel⟩
def x1 : ExR := ⟨"InvalidFamily", "word", .ve, "__init__", "InvalidFamily.__init__", defArgs (mth 4 0), defBody (mth 4 0), defScope (mth 4 0), "/claim/cut.py"⟩
theorem y1 : ExOk x1 := ⟨⟨_, _, _, _, _, _, _, _, _, _, rfl, rfl⟩, ⟨rfl, rfl, rfl, rfl, rfl, rfl, rfl, by decide +kernel⟩, ⟨_, rfl, rfl⟩, fun _ _ _ _ _ _ _ _ _ => by kernel_rfl, by decide +kernel, by decide +kernel⟩
def x2 : ExR := ⟨"InvalidText", "at", .ve, "__init__", "InvalidText.__init__", defArgs (mth 5 0), defBody (mth 5 0), defScope (mth 5 0), "/claim/cut.py"⟩
theorem y2 : ExOk x2 := ⟨⟨_, _, _, _, _, _, _, _, _, _, rfl, rfl⟩, ⟨rfl, rfl, rfl, rfl, rfl, rfl, rfl, by decide +kernel⟩, ⟨_, rfl, rfl⟩, fun _ _ _ _ _ _ _ _ _ => by kernel_rfl, by decide +kernel, by decide +kernel⟩
def x3 : ExR := ⟨"NoName", "name", .ke, "__init__", "NoName.__init__", defArgs (mth 6 0), defBody (mth 6 0), defScope (mth 6 0), "/claim/cut.py"⟩
theorem y3 : ExOk x3 := ⟨⟨_, _, _, _, _, _, _, _, _, _, rfl, rfl⟩, ⟨rfl, rfl, rfl, rfl, rfl, rfl, rfl, by decide +kernel⟩, ⟨_, rfl, rfl⟩, fun _ _ _ _ _ _ _ _ _ => by kernel_rfl, by decide +kernel, by decide +kernel⟩
def LR : LawR := ⟨[r0, r1, r2, r3, r4, r5, r6, r7, r8, r9, r10, r11, r12, r13, r14, r15, r16, r17, r18, r19, r20, r21, r22, r23, r24, r25, r26, r27, r28, r29, r30, r31, r32, r33, r34, r35, r36, r37, r38, r39], ["Will", "Family"], attL, metL, iniL, eqfL, strL, TT.cms, TT.fns, TT.consts, [x0, x1, x2, x3]⟩
abbrev dfs : List He5.DefA := LR.defs.map DefR.a
theorem c0 : compSs TT n0 40 (fun _ => true) r0.scope r0.body = some b0 := by kernel_rfl
theorem o0 : DefOk TT TB 0 r0 := ⟨⟨by kernel_rfl, by kernel_rfl, by kernel_rfl, by decide +kernel, by kernel_rfl, by decide +kernel, by decide +kernel⟩, ⟨_, rfl, rfl, rfl, c0⟩, fun _ _ _ _ _ _ _ us hl => match us, hl with | [_], _ => by kernel_rfl⟩
theorem c1 : compSs TT n1 40 (fun _ => true) r1.scope r1.body = some b1 := by kernel_rfl
theorem o1 : DefOk TT TB 1 r1 := ⟨⟨by kernel_rfl, by kernel_rfl, by kernel_rfl, by decide +kernel, by kernel_rfl, by decide +kernel, by decide +kernel⟩, ⟨_, rfl, rfl, rfl, c1⟩, fun _ _ _ _ _ _ _ us hl => match us, hl with | [_], _ => by kernel_rfl⟩
theorem c2 : compSs TT n2 40 (fun _ => true) r2.scope r2.body = some b2 := by kernel_rfl
theorem o2 : DefOk TT TB 2 r2 := ⟨⟨by kernel_rfl, by kernel_rfl, by kernel_rfl, by decide +kernel, by kernel_rfl, by decide +kernel, by decide +kernel⟩, ⟨_, rfl, rfl, rfl, c2⟩, fun _ _ _ _ _ _ _ us hl => match us, hl with | [_], _ => by kernel_rfl⟩
theorem c3 : compSs TT n3 40 (fun _ => true) r3.scope r3.body = some b3 := by kernel_rfl
theorem o3 : DefOk TT TB 3 r3 := ⟨⟨by kernel_rfl, by kernel_rfl, by kernel_rfl, by decide +kernel, by kernel_rfl, by decide +kernel, by decide +kernel⟩, ⟨_, rfl, rfl, rfl, c3⟩, fun _ _ _ _ _ _ _ us hl => match us, hl with | [_], _ => by kernel_rfl⟩
theorem c4 : compSs TT n4 40 (fun _ => true) r4.scope r4.body = some b4 := by kernel_rfl
theorem o4 : DefOk TT TB 4 r4 := ⟨⟨by kernel_rfl, by kernel_rfl, by kernel_rfl, by decide +kernel, by kernel_rfl, by decide +kernel, by decide +kernel⟩, ⟨_, rfl, rfl, rfl, c4⟩, fun _ _ _ _ _ _ _ us hl => match us, hl with | [_], _ => by kernel_rfl⟩
theorem c5 : compSs TT n5 40 (fun _ => true) r5.scope r5.body = some b5 := by kernel_rfl
theorem o5 : DefOk TT TB 5 r5 := ⟨⟨by kernel_rfl, by kernel_rfl, by kernel_rfl, by decide +kernel, by kernel_rfl, by decide +kernel, by decide +kernel⟩, ⟨_, rfl, rfl, rfl, c5⟩, fun _ _ _ _ _ _ _ us hl => match us, hl with | [_, _], _ => by kernel_rfl⟩
theorem c6 : compSs TT n6 40 (fun _ => true) r6.scope r6.body = some b6 := by kernel_rfl
theorem o6 : DefOk TT TB 6 r6 := ⟨⟨by kernel_rfl, by kernel_rfl, by kernel_rfl, by decide +kernel, by kernel_rfl, by decide +kernel, by decide +kernel⟩, ⟨_, rfl, rfl, rfl, c6⟩, fun _ _ _ _ _ _ _ us hl => match us, hl with | [_], _ => by kernel_rfl⟩
theorem c7 : compSs TT n7 40 (fun _ => true) r7.scope r7.body = some b7 := by kernel_rfl
theorem o7 : DefOk TT TB 7 r7 := ⟨⟨by kernel_rfl, by kernel_rfl, by kernel_rfl, by decide +kernel, by kernel_rfl, by decide +kernel, by decide +kernel⟩, ⟨_, rfl, rfl, rfl, c7⟩, fun _ _ _ _ _ _ _ us hl => match us, hl with | [_], _ => by kernel_rfl⟩
theorem c8 : compSs TT n8 40 (fun _ => true) r8.scope r8.body = some b8 := by kernel_rfl
theorem o8 : DefOk TT TB 8 r8 := ⟨⟨by kernel_rfl, by kernel_rfl, by kernel_rfl, by decide +kernel, by kernel_rfl, by decide +kernel, by decide +kernel⟩, ⟨_, rfl, rfl, rfl, c8⟩, fun _ _ _ _ _ _ _ us hl => match us, hl with | [_], _ => by kernel_rfl⟩
theorem c9 : compSs TT n9 40 (fun _ => true) r9.scope r9.body = some b9 := by kernel_rfl
theorem o9 : DefOk TT TB 9 r9 := ⟨⟨by kernel_rfl, by kernel_rfl, by kernel_rfl, by decide +kernel, by kernel_rfl, by decide +kernel, by decide +kernel⟩, ⟨_, rfl, rfl, rfl, c9⟩, fun _ _ _ _ _ _ _ us hl => match us, hl with | [_], _ => by kernel_rfl⟩
theorem c10 : compSs TT n10 40 (fun _ => true) r10.scope r10.body = some b10 := by kernel_rfl
theorem o10 : DefOk TT TB 10 r10 := ⟨⟨by kernel_rfl, by kernel_rfl, by kernel_rfl, by decide +kernel, by kernel_rfl, by decide +kernel, by decide +kernel⟩, ⟨_, rfl, rfl, rfl, c10⟩, fun _ _ _ _ _ _ _ us hl => match us, hl with | [_, _], _ => by kernel_rfl⟩
theorem c11 : compSs TT n11 40 (fun _ => true) r11.scope r11.body = some b11 := by kernel_rfl
theorem o11 : DefOk TT TB 11 r11 := ⟨⟨by kernel_rfl, by kernel_rfl, by kernel_rfl, by decide +kernel, by kernel_rfl, by decide +kernel, by decide +kernel⟩, ⟨_, rfl, rfl, rfl, c11⟩, fun _ _ _ _ _ _ _ us hl => match us, hl with | [_], _ => by kernel_rfl⟩
theorem c12 : compSs TT n12 40 (fun _ => true) r12.scope r12.body = some b12 := by kernel_rfl
theorem o12 : DefOk TT TB 12 r12 := ⟨⟨by kernel_rfl, by kernel_rfl, by kernel_rfl, by decide +kernel, by kernel_rfl, by decide +kernel, by decide +kernel⟩, ⟨_, rfl, rfl, rfl, c12⟩, fun _ _ _ _ _ _ _ us hl => match us, hl with | [_, _], _ => by kernel_rfl⟩
theorem c13 : compSs TT n13 40 (fun _ => true) r13.scope r13.body = some b13 := by kernel_rfl
theorem o13 : DefOk TT TB 13 r13 := ⟨⟨by kernel_rfl, by kernel_rfl, by kernel_rfl, by decide +kernel, by kernel_rfl, by decide +kernel, by decide +kernel⟩, ⟨_, rfl, rfl, rfl, c13⟩, fun _ _ _ _ _ _ _ us hl => match us, hl with | [_, _], _ => by kernel_rfl⟩
theorem c14 : compSs TT n14 40 (fun _ => true) r14.scope r14.body = some b14 := by kernel_rfl
theorem o14 : DefOk TT TB 14 r14 := ⟨⟨by kernel_rfl, by kernel_rfl, by kernel_rfl, by decide +kernel, by kernel_rfl, by decide +kernel, by decide +kernel⟩, ⟨_, rfl, rfl, rfl, c14⟩, fun _ _ _ _ _ _ _ us hl => match us, hl with | [_], _ => by kernel_rfl⟩
theorem c15 : compSs TT n15 40 (fun _ => true) r15.scope r15.body = some b15 := by kernel_rfl
theorem o15 : DefOk TT TB 15 r15 := ⟨⟨by kernel_rfl, by kernel_rfl, by kernel_rfl, by decide +kernel, by kernel_rfl, by decide +kernel, by decide +kernel⟩, ⟨_, rfl, rfl, rfl, c15⟩, fun _ _ _ _ _ _ _ us hl => match us, hl with | [_, _], _ => by kernel_rfl⟩
theorem c16 : compSs TT n16 40 (fun _ => true) r16.scope r16.body = some b16 := by kernel_rfl
theorem o16 : DefOk TT TB 16 r16 := ⟨⟨by kernel_rfl, by kernel_rfl, by kernel_rfl, by decide +kernel, by kernel_rfl, by decide +kernel, by decide +kernel⟩, ⟨_, rfl, rfl, rfl, c16⟩, fun _ _ _ _ _ _ _ us hl => match us, hl with | [_], _ => by kernel_rfl⟩
theorem c17 : compSs TT n17 40 (fun _ => true) r17.scope r17.body = some b17 := by kernel_rfl
theorem o17 : DefOk TT TB 17 r17 := ⟨⟨by kernel_rfl, by kernel_rfl, by kernel_rfl, by decide +kernel, by kernel_rfl, by decide +kernel, by decide +kernel⟩, ⟨_, rfl, rfl, rfl, c17⟩, fun _ _ _ _ _ _ _ us hl => match us, hl with | [_], _ => by kernel_rfl⟩
theorem c18 : compSs TT n18 40 (fun _ => true) r18.scope r18.body = some b18 := by kernel_rfl
theorem o18 : DefOk TT TB 18 r18 := ⟨⟨by kernel_rfl, by kernel_rfl, by kernel_rfl, by decide +kernel, by kernel_rfl, by decide +kernel, by decide +kernel⟩, ⟨_, rfl, rfl, rfl, c18⟩, fun _ _ _ _ _ _ _ us hl => match us, hl with | [_], _ => by kernel_rfl⟩
theorem c19 : compSs TT n19 40 (fun _ => true) r19.scope r19.body = some b19 := by kernel_rfl
theorem o19 : DefOk TT TB 19 r19 := ⟨⟨by kernel_rfl, by kernel_rfl, by kernel_rfl, by decide +kernel, by kernel_rfl, by decide +kernel, by decide +kernel⟩, ⟨_, rfl, rfl, rfl, c19⟩, fun _ _ _ _ _ _ _ us hl => match us, hl with | [_], _ => by kernel_rfl⟩
theorem c20 : compSs TT n20 40 (fun _ => true) r20.scope r20.body = some b20 := by kernel_rfl
theorem o20 : DefOk TT TB 20 r20 := ⟨⟨by kernel_rfl, by kernel_rfl, by kernel_rfl, by decide +kernel, by kernel_rfl, by decide +kernel, by decide +kernel⟩, ⟨_, rfl, rfl, rfl, c20⟩, fun _ _ _ _ _ _ _ us hl => match us, hl with | [_, _, _], _ => by kernel_rfl⟩
theorem c21 : compSs TT n21 40 (fun _ => true) r21.scope r21.body = some b21 := by kernel_rfl
theorem o21 : DefOk TT TB 21 r21 := ⟨⟨by kernel_rfl, by kernel_rfl, by kernel_rfl, by decide +kernel, by kernel_rfl, by decide +kernel, by decide +kernel⟩, ⟨_, rfl, rfl, rfl, c21⟩, fun _ _ _ _ _ _ _ us hl => match us, hl with | [_, _], _ => by kernel_rfl⟩
theorem c22 : compSs TT n22 40 (fun _ => true) r22.scope r22.body = some b22 := by kernel_rfl
theorem o22 : DefOk TT TB 22 r22 := ⟨⟨by kernel_rfl, by kernel_rfl, by kernel_rfl, by decide +kernel, by kernel_rfl, by decide +kernel, by decide +kernel⟩, ⟨_, rfl, rfl, rfl, c22⟩, fun _ _ _ _ _ _ _ us hl => match us, hl with | [_, _], _ => by kernel_rfl⟩
theorem c23 : compSs TT n23 40 (fun _ => true) r23.scope r23.body = some b23 := by kernel_rfl
theorem o23 : DefOk TT TB 23 r23 := ⟨⟨by kernel_rfl, by kernel_rfl, by kernel_rfl, by decide +kernel, by kernel_rfl, by decide +kernel, by decide +kernel⟩, ⟨_, rfl, rfl, rfl, c23⟩, fun _ _ _ _ _ _ _ us hl => match us, hl with | [_, _], _ => by kernel_rfl⟩
theorem c24 : compSs TT n24 40 (fun _ => true) r24.scope r24.body = some b24 := by kernel_rfl
theorem o24 : DefOk TT TB 24 r24 := ⟨⟨by kernel_rfl, by kernel_rfl, by kernel_rfl, by decide +kernel, by kernel_rfl, by decide +kernel, by decide +kernel⟩, ⟨_, rfl, rfl, rfl, c24⟩, (fun h => nomatch h)⟩
theorem c25 : compSs TT n25 40 (fun _ => true) r25.scope r25.body = some b25 := by kernel_rfl
theorem o25 : DefOk TT TB 25 r25 := ⟨⟨by kernel_rfl, by kernel_rfl, by kernel_rfl, by decide +kernel, by kernel_rfl, by decide +kernel, by decide +kernel⟩, ⟨_, rfl, rfl, rfl, c25⟩, fun _ _ _ _ _ _ _ us hl => match us, hl with | [_], _ => by kernel_rfl⟩
theorem c26 : compSs TT n26 40 (fun _ => true) r26.scope r26.body = some b26 := by kernel_rfl
theorem o26 : DefOk TT TB 26 r26 := ⟨⟨by kernel_rfl, by kernel_rfl, by kernel_rfl, by decide +kernel, by kernel_rfl, by decide +kernel, by decide +kernel⟩, ⟨_, rfl, rfl, rfl, c26⟩, fun _ _ _ _ _ _ _ us hl => match us, hl with | [_], _ => by kernel_rfl⟩
theorem c27 : compSs TT n27 40 (fun _ => true) r27.scope r27.body = some b27 := by kernel_rfl
theorem o27 : DefOk TT TB 27 r27 := ⟨⟨by kernel_rfl, by kernel_rfl, by kernel_rfl, by decide +kernel, by kernel_rfl, by decide +kernel, by decide +kernel⟩, ⟨_, rfl, rfl, rfl, c27⟩, fun _ _ _ _ _ _ _ us hl => match us, hl with | [_], _ => by kernel_rfl⟩
theorem c28 : compSs TT n28 40 (fun _ => true) r28.scope r28.body = some b28 := by kernel_rfl
theorem o28 : DefOk TT TB 28 r28 := ⟨⟨by kernel_rfl, by kernel_rfl, by kernel_rfl, by decide +kernel, by kernel_rfl, by decide +kernel, by decide +kernel⟩, ⟨_, rfl, rfl, rfl, c28⟩, fun _ _ _ _ _ _ _ us hl => match us, hl with | [_, _], _ => by kernel_rfl⟩
theorem c29 : compSs TT n29 40 (fun _ => true) r29.scope r29.body = some b29 := by kernel_rfl
theorem o29 : DefOk TT TB 29 r29 := ⟨⟨by kernel_rfl, by kernel_rfl, by kernel_rfl, by decide +kernel, by kernel_rfl, by decide +kernel, by decide +kernel⟩, ⟨_, rfl, rfl, rfl, c29⟩, fun _ _ _ _ _ _ _ us hl => match us, hl with | [_, _], _ => by kernel_rfl⟩
theorem c30 : compSs TT n30 40 (fun _ => true) r30.scope r30.body = some b30 := by kernel_rfl
theorem o30 : DefOk TT TB 30 r30 := ⟨⟨by kernel_rfl, by kernel_rfl, by kernel_rfl, by decide +kernel, by kernel_rfl, by decide +kernel, by decide +kernel⟩, ⟨_, rfl, rfl, rfl, c30⟩, fun _ _ _ _ _ _ _ us hl => match us, hl with | [_, _, _], _ => by kernel_rfl⟩
theorem c31 : compSs TT n31 40 (fun _ => true) r31.scope r31.body = some b31 := by kernel_rfl
theorem o31 : DefOk TT TB 31 r31 := ⟨⟨by kernel_rfl, by kernel_rfl, by kernel_rfl, by decide +kernel, by kernel_rfl, by decide +kernel, by decide +kernel⟩, ⟨_, rfl, rfl, rfl, c31⟩, fun _ _ _ _ _ _ _ us hl => match us, hl with | [_, _, _], _ => by kernel_rfl⟩
theorem c32 : compSs TT n32 40 (fun _ => true) r32.scope r32.body = some b32 := by kernel_rfl
theorem o32 : DefOk TT TB 32 r32 := ⟨⟨by kernel_rfl, by kernel_rfl, by kernel_rfl, by decide +kernel, by kernel_rfl, by decide +kernel, by decide +kernel⟩, ⟨_, rfl, rfl, rfl, c32⟩, fun _ _ _ _ _ _ _ us hl => match us, hl with | [_, _], _ => by kernel_rfl⟩
theorem c33 : compSs TT n33 40 (fun _ => true) r33.scope r33.body = some b33 := by kernel_rfl
theorem o33 : DefOk TT TB 33 r33 := ⟨⟨by kernel_rfl, by kernel_rfl, by kernel_rfl, by decide +kernel, by kernel_rfl, by decide +kernel, by decide +kernel⟩, ⟨_, rfl, rfl, rfl, c33⟩, fun _ _ _ _ _ _ _ us hl => match us, hl with | [_, _], _ => by kernel_rfl⟩
theorem c34 : compSs TT n34 40 (fun _ => true) r34.scope r34.body = some b34 := by kernel_rfl
theorem o34 : DefOk TT TB 34 r34 := ⟨⟨by kernel_rfl, by kernel_rfl, by kernel_rfl, by decide +kernel, by kernel_rfl, by decide +kernel, by decide +kernel⟩, ⟨_, rfl, rfl, rfl, c34⟩, fun _ _ _ _ _ _ _ us hl => match us, hl with | [_, _], _ => by kernel_rfl⟩
theorem c35 : compSs TT n35 40 (fun _ => true) r35.scope r35.body = some b35 := by kernel_rfl
theorem o35 : DefOk TT TB 35 r35 := ⟨⟨by kernel_rfl, by kernel_rfl, by kernel_rfl, by decide +kernel, by kernel_rfl, by decide +kernel, by decide +kernel⟩, ⟨_, rfl, rfl, rfl, c35⟩, fun _ _ _ _ _ _ _ us hl => match us, hl with | [_], _ => by kernel_rfl⟩
theorem c36 : compSs TT n36 40 (fun _ => true) r36.scope r36.body = some b36 := by kernel_rfl
theorem o36 : DefOk TT TB 36 r36 := ⟨⟨by kernel_rfl, by kernel_rfl, by kernel_rfl, by decide +kernel, by kernel_rfl, by decide +kernel, by decide +kernel⟩, ⟨_, rfl, rfl, rfl, c36⟩, fun _ _ _ _ _ _ _ us hl => match us, hl with | [_], _ => by kernel_rfl⟩
theorem c37 : compSs TT n37 40 (fun _ => true) r37.scope r37.body = some b37 := by kernel_rfl
theorem o37 : DefOk TT TB 37 r37 := ⟨⟨by kernel_rfl, by kernel_rfl, by kernel_rfl, by decide +kernel, by kernel_rfl, by decide +kernel, by decide +kernel⟩, ⟨_, rfl, rfl, rfl, c37⟩, fun _ _ _ _ _ _ _ us hl => match us, hl with | [_], _ => by kernel_rfl⟩
theorem c38 : compSs TT n38 40 (fun _ => true) r38.scope r38.body = some b38 := by kernel_rfl
theorem o38 : DefOk TT TB 38 r38 := ⟨⟨by kernel_rfl, by kernel_rfl, by kernel_rfl, by decide +kernel, by kernel_rfl, by decide +kernel, by decide +kernel⟩, ⟨_, rfl, rfl, rfl, c38⟩, fun _ _ _ _ _ _ _ us hl => match us, hl with | [_], _ => by kernel_rfl⟩
theorem c39 : compSs TT n39 40 (fun _ => true) r39.scope r39.body = some b39 := by kernel_rfl
theorem o39 : DefOk TT TB 39 r39 := ⟨⟨by kernel_rfl, by kernel_rfl, by kernel_rfl, by decide +kernel, by kernel_rfl, by decide +kernel, by decide +kernel⟩, ⟨_, rfl, rfl, rfl, c39⟩, fun _ _ _ _ _ _ _ us hl => match us, hl with | [_], _ => by kernel_rfl⟩
theorem p0 : PlanSt r10 2 [] [.i 0, .i 1] := ⟨rfl, .inl ⟨rfl, fun _ _ _ _ _ _ us ws l1 l2 => match us, ws, l1, l2 with | [_, _], [], _, _ => by kernel_rfl⟩⟩
theorem p1 : PlanSt r24 2 [] [.i 0, .i 1, .d 0 (.tup []), .d 1 (.tup [])] := ⟨rfl, .inr ⟨List.cons_ne_nil _ _, fun _ _ _ _ _ _ _ us its ws l1 l3 l2 => match us, ws, its, l1, l2, l3 with | [_, _], [], [_, _], _, _, _ => ⟨_, rfl, rfl⟩⟩⟩
theorem p2 : PlanSt r29 2 [] [.i 0, .i 1] := ⟨rfl, .inl ⟨rfl, fun _ _ _ _ _ _ us ws l1 l2 => match us, ws, l1, l2 with | [_, _], [], _, _ => by kernel_rfl⟩⟩
theorem p3 : PlanSt r24 4 [] [.i 0, .i 1, .i 2, .i 3] := ⟨rfl, .inr ⟨List.cons_ne_nil _ _, fun _ _ _ _ _ _ _ us its ws l1 l3 l2 => match us, ws, its, l1, l2, l3 with | [_, _, _, _], [], [_, _], _, _, _ => ⟨_, rfl, rfl⟩⟩⟩
theorem p4 : PlanSt r28 2 [] [.i 0, .i 1] := ⟨rfl, .inl ⟨rfl, fun _ _ _ _ _ _ us ws l1 l2 => match us, ws, l1, l2 with | [_, _], [], _, _ => by kernel_rfl⟩⟩
theorem p5 : PlanSt r13 2 [] [.i 0, .i 1] := ⟨rfl, .inl ⟨rfl, fun _ _ _ _ _ _ us ws l1 l2 => match us, ws, l1, l2 with | [_, _], [], _, _ => by kernel_rfl⟩⟩
theorem p6 : PlanSt r24 1 ["facts", "wills", "people"] [.i 0, .i 3, .i 2, .i 1] := ⟨rfl, .inr ⟨List.cons_ne_nil _ _, fun _ _ _ _ _ _ _ us its ws l1 l3 l2 => match us, ws, its, l1, l2, l3 with | [_], [_, _, _], [_, _], _, _, _ => ⟨_, rfl, rfl⟩⟩⟩
theorem p7 : PlanSt r24 1 ["people"] [.i 0, .i 1, .d 0 (.tup []), .d 1 (.tup [])] := ⟨rfl, .inr ⟨List.cons_ne_nil _ _, fun _ _ _ _ _ _ _ us its ws l1 l3 l2 => match us, ws, its, l1, l2, l3 with | [_], [_], [_, _], _, _, _ => ⟨_, rfl, rfl⟩⟩⟩
theorem p8 : PlanSt r32 1 ["text"] [.i 0, .i 1] := ⟨rfl, .inl ⟨rfl, fun _ _ _ _ _ _ us ws l1 l2 => match us, ws, l1, l2 with | [_], [_], _, _ => by kernel_rfl⟩⟩
theorem p9 : PlanSt r28 1 ["name"] [.i 0, .i 1] := ⟨rfl, .inl ⟨rfl, fun _ _ _ _ _ _ us ws l1 l2 => match us, ws, l1, l2 with | [_], [_], _, _ => by kernel_rfl⟩⟩
theorem p10 : PlanSt r29 1 ["name"] [.i 0, .i 1] := ⟨rfl, .inl ⟨rfl, fun _ _ _ _ _ _ us ws l1 l2 => match us, ws, l1, l2 with | [_], [_], _, _ => by kernel_rfl⟩⟩
theorem p11 : PlanSt r24 1 ["wills", "people"] [.i 0, .i 2, .i 1, .d 1 (.tup [])] := ⟨rfl, .inr ⟨List.cons_ne_nil _ _, fun _ _ _ _ _ _ _ us its ws l1 l3 l2 => match us, ws, its, l1, l2, l3 with | [_], [_, _], [_, _], _, _, _ => ⟨_, rfl, rfl⟩⟩⟩
theorem p12 : PlanSt r30 1 ["then", "first"] [.i 0, .i 2, .i 1] := ⟨rfl, .inl ⟨rfl, fun _ _ _ _ _ _ us ws l1 l2 => match us, ws, l1, l2 with | [_], [_, _], _, _ => by kernel_rfl⟩⟩
theorem p13 : PlanSt r30 3 [] [.i 0, .i 1, .i 2] := ⟨rfl, .inl ⟨rfl, fun _ _ _ _ _ _ us ws l1 l2 => match us, ws, l1, l2 with | [_, _, _], [], _, _ => by kernel_rfl⟩⟩
theorem p14 : PlanSt r31 1 ["amount", "name"] [.i 0, .i 2, .i 1] := ⟨rfl, .inl ⟨rfl, fun _ _ _ _ _ _ us ws l1 l2 => match us, ws, l1, l2 with | [_], [_, _], _, _ => by kernel_rfl⟩⟩
theorem p15 : PlanSt r31 3 [] [.i 0, .i 1, .i 2] := ⟨rfl, .inl ⟨rfl, fun _ _ _ _ _ _ us ws l1 l2 => match us, ws, l1, l2 with | [_, _, _], [], _, _ => by kernel_rfl⟩⟩
theorem allDefs : ∀ i r, LR.defs[i]? = some r → DefOk TT TB i r := fun i r h => match i, h with
  | 0, h => by cases h; exact o0
  | 1, h => by cases h; exact o1
  | 2, h => by cases h; exact o2
  | 3, h => by cases h; exact o3
  | 4, h => by cases h; exact o4
  | 5, h => by cases h; exact o5
  | 6, h => by cases h; exact o6
  | 7, h => by cases h; exact o7
  | 8, h => by cases h; exact o8
  | 9, h => by cases h; exact o9
  | 10, h => by cases h; exact o10
  | 11, h => by cases h; exact o11
  | 12, h => by cases h; exact o12
  | 13, h => by cases h; exact o13
  | 14, h => by cases h; exact o14
  | 15, h => by cases h; exact o15
  | 16, h => by cases h; exact o16
  | 17, h => by cases h; exact o17
  | 18, h => by cases h; exact o18
  | 19, h => by cases h; exact o19
  | 20, h => by cases h; exact o20
  | 21, h => by cases h; exact o21
  | 22, h => by cases h; exact o22
  | 23, h => by cases h; exact o23
  | 24, h => by cases h; exact o24
  | 25, h => by cases h; exact o25
  | 26, h => by cases h; exact o26
  | 27, h => by cases h; exact o27
  | 28, h => by cases h; exact o28
  | 29, h => by cases h; exact o29
  | 30, h => by cases h; exact o30
  | 31, h => by cases h; exact o31
  | 32, h => by cases h; exact o32
  | 33, h => by cases h; exact o33
  | 34, h => by cases h; exact o34
  | 35, h => by cases h; exact o35
  | 36, h => by cases h; exact o36
  | 37, h => by cases h; exact o37
  | 38, h => by cases h; exact o38
  | 39, h => by cases h; exact o39
  | n + 40, h => by have := (List.getElem?_eq_some_iff.mp h).1; simp [LR] at this; omega
theorem allPlans : ∀ q ∈ TT.plans, ∃ r, LR.defs[q.2.2.1]? = some r ∧ PlanSt r q.1 q.2.1 q.2.2.2 := List.forall_mem_cons.mpr ⟨⟨r10, rfl, p0⟩, List.forall_mem_cons.mpr ⟨⟨r24, rfl, p1⟩, List.forall_mem_cons.mpr ⟨⟨r29, rfl, p2⟩, List.forall_mem_cons.mpr ⟨⟨r24, rfl, p3⟩, List.forall_mem_cons.mpr ⟨⟨r28, rfl, p4⟩, List.forall_mem_cons.mpr ⟨⟨r13, rfl, p5⟩, List.forall_mem_cons.mpr ⟨⟨r24, rfl, p6⟩, List.forall_mem_cons.mpr ⟨⟨r24, rfl, p7⟩, List.forall_mem_cons.mpr ⟨⟨r32, rfl, p8⟩, List.forall_mem_cons.mpr ⟨⟨r28, rfl, p9⟩, List.forall_mem_cons.mpr ⟨⟨r29, rfl, p10⟩, List.forall_mem_cons.mpr ⟨⟨r24, rfl, p11⟩, List.forall_mem_cons.mpr ⟨⟨r30, rfl, p12⟩, List.forall_mem_cons.mpr ⟨⟨r30, rfl, p13⟩, List.forall_mem_cons.mpr ⟨⟨r31, rfl, p14⟩, List.forall_mem_cons.mpr ⟨⟨r31, rfl, p15⟩, fun _ h => absurd h (by simp)⟩⟩⟩⟩⟩⟩⟩⟩⟩⟩⟩⟩⟩⟩⟩⟩
theorem a1 : ∀ q ∈ LR.atts, ∀ fn, q.2.2 = some fn → ∃ r, LR.defs[fn]? = some r ∧ r.ps.length = 1 ∧ r.dfl = [] := List.forall_mem_cons.mpr ⟨(fun fn h => by cases h), List.forall_mem_cons.mpr ⟨(fun fn h => by cases h; exact ⟨r11, rfl, rfl, rfl⟩), List.forall_mem_cons.mpr ⟨(fun fn h => by cases h), List.forall_mem_cons.mpr ⟨(fun fn h => by cases h), List.forall_mem_cons.mpr ⟨(fun fn h => by cases h), List.forall_mem_cons.mpr ⟨(fun fn h => by cases h; exact ⟨r25, rfl, rfl, rfl⟩), List.forall_mem_cons.mpr ⟨(fun fn h => by cases h; exact ⟨r26, rfl, rfl, rfl⟩), List.forall_mem_cons.mpr ⟨(fun fn h => by cases h; exact ⟨r27, rfl, rfl, rfl⟩), fun _ h => absurd h (by simp)⟩⟩⟩⟩⟩⟩⟩⟩
theorem a2 : ∀ q ∈ LR.mets, ∃ r, LR.defs[q.2.2]? = some r := List.forall_mem_cons.mpr ⟨⟨r12, rfl⟩, List.forall_mem_cons.mpr ⟨⟨r28, rfl⟩, List.forall_mem_cons.mpr ⟨⟨r29, rfl⟩, List.forall_mem_cons.mpr ⟨⟨r30, rfl⟩, List.forall_mem_cons.mpr ⟨⟨r31, rfl⟩, fun _ h => absurd h (by simp)⟩⟩⟩⟩⟩
theorem a3 : ∀ q ∈ LR.inis, ∃ r, LR.defs[q.2]? = some r := List.forall_mem_cons.mpr ⟨⟨r10, rfl⟩, List.forall_mem_cons.mpr ⟨⟨r24, rfl⟩, fun _ h => absurd h (by simp)⟩⟩
theorem a4 : ∀ q ∈ LR.eqfs, ∃ r, LR.defs[q.2]? = some r ∧ r.ps.length = 2 ∧ r.dfl = [] := List.forall_mem_cons.mpr ⟨⟨r15, rfl, rfl, rfl⟩, List.forall_mem_cons.mpr ⟨⟨r34, rfl, rfl, rfl⟩, fun _ h => absurd h (by simp)⟩⟩
theorem a5 : ∀ q ∈ LR.strl, ∃ r, LR.defs[q.2]? = some r ∧ r.ps.length = 1 ∧ r.dfl = [] := List.forall_mem_cons.mpr ⟨⟨r16, rfl, rfl, rfl⟩, List.forall_mem_cons.mpr ⟨⟨r35, rfl, rfl, rfl⟩, fun _ h => absurd h (by simp)⟩⟩
theorem a6 : ∀ q ∈ LR.cms, ∃ r, LR.defs[q.2.2]? = some r := List.forall_mem_cons.mpr ⟨⟨r13, rfl⟩, List.forall_mem_cons.mpr ⟨⟨r32, rfl⟩, fun _ h => absurd h (by simp)⟩⟩
theorem a7 : ∀ q ∈ LR.fns, ∃ r, LR.defs[q.2.1]? = some r ∧ r.ps.length = q.2.2 ∧ r.dfl = [] := List.forall_mem_cons.mpr ⟨⟨r0, rfl, rfl, rfl⟩, List.forall_mem_cons.mpr ⟨⟨r1, rfl, rfl, rfl⟩, List.forall_mem_cons.mpr ⟨⟨r2, rfl, rfl, rfl⟩, List.forall_mem_cons.mpr ⟨⟨r3, rfl, rfl, rfl⟩, List.forall_mem_cons.mpr ⟨⟨r4, rfl, rfl, rfl⟩, List.forall_mem_cons.mpr ⟨⟨r5, rfl, rfl, rfl⟩, List.forall_mem_cons.mpr ⟨⟨r6, rfl, rfl, rfl⟩, List.forall_mem_cons.mpr ⟨⟨r7, rfl, rfl, rfl⟩, List.forall_mem_cons.mpr ⟨⟨r8, rfl, rfl, rfl⟩, List.forall_mem_cons.mpr ⟨⟨r9, rfl, rfl, rfl⟩, List.forall_mem_cons.mpr ⟨⟨r17, rfl, rfl, rfl⟩, List.forall_mem_cons.mpr ⟨⟨r18, rfl, rfl, rfl⟩, List.forall_mem_cons.mpr ⟨⟨r19, rfl, rfl, rfl⟩, List.forall_mem_cons.mpr ⟨⟨r20, rfl, rfl, rfl⟩, List.forall_mem_cons.mpr ⟨⟨r21, rfl, rfl, rfl⟩, List.forall_mem_cons.mpr ⟨⟨r22, rfl, rfl, rfl⟩, List.forall_mem_cons.mpr ⟨⟨r23, rfl, rfl, rfl⟩, List.forall_mem_cons.mpr ⟨⟨r36, rfl, rfl, rfl⟩, List.forall_mem_cons.mpr ⟨⟨r37, rfl, rfl, rfl⟩, List.forall_mem_cons.mpr ⟨⟨r38, rfl, rfl, rfl⟩, List.forall_mem_cons.mpr ⟨⟨r39, rfl, rfl, rfl⟩, fun _ h => absurd h (by simp)⟩⟩⟩⟩⟩⟩⟩⟩⟩⟩⟩⟩⟩⟩⟩⟩⟩⟩⟩⟩⟩
theorem a8 : ∀ x c, TT.clss.lookup x = some c → LR.clss[c]? = some x := fun x c h => by
  have hm := lookup_mem h
  revert hm
  exact fun hm => (show ∀ q ∈ TT.clss, LR.clss[q.2]? = some q.1 from List.forall_mem_cons.mpr ⟨rfl, List.forall_mem_cons.mpr ⟨rfl, fun _ h => absurd h (by simp)⟩⟩) _ hm
theorem a9 : ∀ r ∈ LR.exs, ExOk r ∧ ((PySem.Challenge.rw_heirorders_k18_families_by_names).prog.main.file == r.file) = true ∧ ((PySem.Challenge.rw_heirorders_k18_families_by_names).prog.main.scope.names.lookup ("super" : Str)).isSome = false := List.forall_mem_cons.mpr ⟨⟨y0, by decide +kernel, by decide +kernel⟩, List.forall_mem_cons.mpr ⟨⟨y1, by decide +kernel, by decide +kernel⟩, List.forall_mem_cons.mpr ⟨⟨y2, by decide +kernel, by decide +kernel⟩, List.forall_mem_cons.mpr ⟨⟨y3, by decide +kernel, by decide +kernel⟩, fun _ h => absurd h (by simp)⟩⟩⟩⟩
abbrev R : PySem.W.OpenRow := PySem.W.OpenLaw.row PySem.Challenge.rw_heirorders_k18_families_by_names
abbrev hk : PySem.W.Hook := hookC 6 (fun K => LR.ex K TT) dfs LR.exs
def ob (s : PySem.W.SharedT) : AlC := obsCG 6 (fun K => LR.ex K TT) dfs LR.exs (HandSHeadRun.getT s)
theorem ob_eq (s : PySem.W.SharedT) : ob s = hk.obs s.abs := obsCG_eq (HandSHeadRun.getT_eq s)
def nm0 : List PySem.Str := ["_wall", "HeirError", "InvalidWill", "InvalidFamily", "InvalidText", "NoName", "CROWN", "LETTERS", "FIGURES", "is_integer", "is_number", "is_name", "is_sequence", "number_in", "is_group", "is_share", "share_text", "share_in", "Will", "are_pairs", "are_unlike", "are_people", "is_will_of", "are_wills", "are_facts", "has_ring", "Family", "will_in", "line_in", "_law_numbers"]
def names : List PySem.Str := nm0
theorem run (w : World) : HandSHeadRun.RunEq R (PySem.W.view R.prog [35]) hk ob 3500 names w := by
  intro os
  kernel_rfl
/-- the law's call at level 40, loops of at most 100000 turns -/
abbrev lawRun (ns : List Int) : Out PV := runFn TB 100000 40 39 [.scr ns] []
theorem facts {w : World} {K : PySem.W.Frag} {h : Heap} {mg : Str → Option Value} {f : Addr} (H : ∀ ns : List Int, ns.length ≤ 63 → isT (lawRun ns) = true) (X : K.In h) (G : h.Ns mainGlobals mg) (hfa : mg ("law" : Str) = some (.ref f)) (c : He5.SaysA [] dfs K) (hex : LR.ex K TT = true) (cX : ∀ r ∈ LR.exs, fnX K (r.at_ K) = r.val) :
    ∃ (fd : FuncData) (sp : Sp), (∀ (s : Shared) (v : Value), BindsTo s fd ⟨[v], []⟩ [("_law_script", v)]) ∧ (∀ (H : Hp) (a : Addr) (ns : List Int), ns.length ≤ 63 → SqL K H a (ns.map V.int) → ∀ (Q : VK) (E : XK), (∀ H', Q (.bl true) H') → sp [.ref a] H Q E) ∧
      ∀ base : Heap, K.In base → base.Ns mainGlobals mg → FnOk (PySem.Challenge.rw_heirorders_k18_families_by_names).prog w K mg base CX0 160 f fd ["_law_script"] sp := by
  have A : Facts (PySem.Challenge.rw_heirorders_k18_families_by_names).prog w mg ⟨K, LR.CA K⟩ TT TB (LR.F K) := facts_of rfl rfl X G c hex allDefs allPlans rfl rfl rfl rfl rfl rfl rfl rfl rfl a8 a1 a2 a3 a4 a5 a6 a7 rfl a9 cX
  obtain ⟨fd, hF, hF2, hat⟩ := F_of (L := LR) (K := K) c (i := 39) (r := r39) rfl
  have e := hfa.symm.trans (show mg ("law" : Str) = some (.ref (He.ga K "law")) from by
    obtain ⟨e, k1, _, k2, _⟩ := A.fns "law" 39 1 (by decide +kernel)
    rw [hF2] at k1
    cases k1
    exact k2)
  cases e
  have b := FunD.bindsA (ps := ["_law_script"]) hF ((o39).bd rfl)
  exact ⟨fd, spF ⟨K, LR.CA K⟩ 1 (runFn TB 100000 40 39), fun s v => b s [v] rfl, fun H' a ns hl hS Q E hQ => law_sp H hl hS hQ, fun base _ _ => tbl_ok A 40 39 _ hF2⟩
end My
open PySem PySem.W PySem.Calls PyProof.Rows
theorem My.holds_of (H : ∀ ns : List Int, ns.length ≤ 63 → Co.isT (My.lawRun ns) = true) : PySem.Challenge.rw_heirorders_k18_families_by_names.Holds := by
  w_on; o_law
  refine HandSHeadRun.head_any (r := OpenLaw.row PySem.Challenge.rw_heirorders_k18_families_by_names) (q := view (OpenLaw.row PySem.Challenge.rw_heirorders_k18_families_by_names).prog [35]) (H := My.hk) (ob := My.ob) (M := 3500) (loose := My.names) (d := HandSHeadRun.topDef (OpenLaw.row PySem.Challenge.rw_heirorders_k18_families_by_names).prog 35) (kwd := []) My.ob_eq
    (by kernel_rfl) (fun s => by kernel_rfl) My.run (by kernel_rfl) (by kernel_rfl) (by kernel_rfl) (by rfl) (by first | assumption | decide +kernel) (by decide +kernel) ⟨rfl, rfl, rfl, rfl, rfl, by decide +kernel⟩ ?hw ?hc
  case hw => w_witness2
  case hc =>
    refine L2.walk_ofE (l := PySem.Challenge.rw_heirorders_k18_families_by_names) (n := 63) (k := 160) (x := "_law_script") (CX := L2.CX0) rfl (by decide) (by kernel_rfl) ⟨rfl, by decide, by decide⟩ ?F (fun _ _ _ _ z => z)
    intro w mg fa h Y G hmg0
    obtain ⟨K, KX, c, hex, cX⟩ := Y
    have hmg : mg ("law" : PySem.Str) = some (.ref fa) := by
      have e : (HandSHeadRun.topDef (OpenLaw.row PySem.Challenge.rw_heirorders_k18_families_by_names).prog 35).name = ("law" : PySem.Str) := by kernel_rfl
      rw [← e]
      exact hmg0
    obtain ⟨fd, sp, hb, hs, hF⟩ := My.facts (w := w) H KX G hmg c hex cX
    exact ⟨K, fd, sp, KX, hb, fun H a ns hl _ hS => hs H a ns (by simpa using hl) hS _ _ (fun _ => rfl), hF⟩

end P_L18
section P_F18
set_option Elab.async false
set_option linter.all false
set_option maxRecDepth 100000
set_option maxHeartbeats 0
namespace My
open PySem L2 Co
def g0 (W : Nat) (D : Cl) : SM := (ssCons (sWhil W (kVal (kK (.bl true))) (ssCons sPass ssNil)) ssNil)
theorem gq0 (W : Nat) (D : Cl) : exSs D W b0 = g0 W D := (qsCons (qWhil (qVal qK) (qsCons qPass qsNil)) qsNil)
def g1 (W : Nat) (D : Cl) : SM := (ssCons (sRet (kTest (kAn (kVal (kIsi D (kV 0) .int)) (kVal (kTest (kNt (kVal (kIsi D (kV 0) .bool)))))))) ssNil)
theorem gq1 (W : Nat) (D : Cl) : exSs D W b1 = g1 W D := (qsCons (qRet (qTest (qAn (qVal (qIsi qV)) (qVal (qTest (qNt (qVal (qIsi qV)))))))) qsNil)
def g2 (W : Nat) (D : Cl) : SM := (ssCons (sRet (kTest (kAn (kVal (kCall D 1 (kCons (kV 0) kNil))) (kVal (kCmp D .ge (kV 0) (kK (.int 0))))))) ssNil)
theorem gq2 (W : Nat) (D : Cl) : exSs D W b2 = g2 W D := (qsCons (qRet (qTest (qAn (qVal (qCall (qCons qV qNil))) (qVal (qCmp qV qK))))) qsNil)
def g3 (W : Nat) (D : Cl) : SM := (ssCons (sIff (kOr (kNt (kVal (kIsi D (kV 0) .str))) (kOr (kNt (kVal (kChain .lt .lt (kK (.int 0)) (kBi D .len (kV 0)) (kK (.int 6))))) (kVal (kCmp D .eq (kV 0) (kK (.str (sx [99, 114, 111, 119, 110]))))))) (ssCons (sRet (kK (.bl false))) ssNil) ssNil) (ssCons (sRet (kBi D .all (kFz (kLc (gV 1) (iSeq (kV 0)) kTt (kCmp D .mem (kV 1) (kK (.str (sx [97, 98, 99, 100, 101, 102, 103, 104, 105, 106, 107, 108, 109, 110, 111, 112, 113, 114, 115, 116, 117, 118, 119, 120, 121, 122])))) [1])))) ssNil))
theorem gq3 (W : Nat) (D : Cl) : exSs D W b3 = g3 W D := (qsCons (qIff (qOr (qNt (qVal (qIsi qV))) (qOr (qNt (qVal (qChain qK (qBi qV) qK))) (qVal (qCmp qV qK)))) (qsCons (qRet qK) qsNil) qsNil) (qsCons (qRet (qBi (qFz (qLc qgV (qSeq qV) qTt (qCmp qV qK))))) qsNil))
def g4 (W : Nat) (D : Cl) : SM := (ssCons (sRet (kIsi D (kV 0) .seq)) ssNil)
theorem gq4 (W : Nat) (D : Cl) : exSs D W b4 = g4 W D := (qsCons (qRet (qIsi qV)) qsNil)
def g5 (W : Nat) (D : Cl) : SM := (ssCons (sIff (kOr (kNt (kVal (kChain .lt .le (kK (.int 0)) (kBi D .len (kV 0)) (kV 1)))) (kNt (kVal (kBi D .all (kFz (kLc (gV 2) (iSeq (kV 0)) kTt (kCmp D .mem (kV 2) (kK (.str (sx [48, 49, 50, 51, 52, 53, 54, 55, 56, 57])))) [2])))))) (ssCons (sRet (kK .non)) ssNil) ssNil) (ssCons (sRet (kIte (kAn (kVal (kCmp D .gt (kBi D .len (kV 0)) (kK (.int 1)))) (kVal (kCmp D .eq (kIx (kV 0) (kK (.int 0))) (kK (.str (sx [48])))))) (kK .non) (kBi D .int (kV 0)))) ssNil))
theorem gq5 (W : Nat) (D : Cl) : exSs D W b5 = g5 W D := (qsCons (qIff (qOr (qNt (qVal (qChain qK (qBi qV) qV))) (qNt (qVal (qBi (qFz (qLc qgV (qSeq qV) qTt (qCmp qV qK))))))) (qsCons (qRet qK) qsNil) qsNil) (qsCons (qRet (qIte (qAn (qVal (qCmp (qBi qV) qK)) (qVal (qCmp (qIx qV qK) qK))) qK (qBi qV))) qsNil))
def g6 (W : Nat) (D : Cl) : SM := (ssCons (sIff (kOr (kNt (kVal (kCall D 4 (kCons (kV 0) kNil)))) (kOr (kVal (kCmp D .eq (kBi D .len (kV 0)) (kK (.int 0)))) (kNt (kVal (kBi D .all (kFz (kLc (gV 2) (iSeq (kV 0)) kTt (kCall D 3 (kCons (kV 2) kNil)) [2]))))))) (ssCons (sRet (kK (.bl false))) ssNil) ssNil) (ssCons (sRet (kBi D .all (kFz (kLc (gV 1) (iRange (kCons (kBi D .len (kV 0)) kNil)) kTt (kCmp D .nmem (kIx (kV 0) (kV 1)) (kSl (kV 0) kNil (kCons (kV 1) kNil))) [1])))) ssNil))
theorem gq6 (W : Nat) (D : Cl) : exSs D W b6 = g6 W D := (qsCons (qIff (qOr (qNt (qVal (qCall (qCons qV qNil)))) (qOr (qVal (qCmp (qBi qV) qK)) (qNt (qVal (qBi (qFz (qLc qgV (qSeq qV) qTt (qCall (qCons qV qNil))))))))) (qsCons (qRet qK) qsNil) qsNil) (qsCons (qRet (qBi (qFz (qLc qgV (qRange (qCons (qBi qV) qNil)) qTt (qCmp (qIx qV qV) (qSl qV qNil (qCons qV qNil))))))) qsNil))
def g7 (W : Nat) (D : Cl) : SM := (ssCons (sIff (kOr (kNt (kVal (kIsi D (kV 0) .tuple))) (kVal (kCmp D .ne (kBi D .len (kV 0)) (kK (.int 2))))) (ssCons (sRet (kK (.bl false))) ssNil) ssNil) (ssCons (sIff (kOr (kNt (kVal (kCall D 1 (kCons (kIx (kV 0) (kK (.int 0))) kNil)))) (kOr (kVal (kCmp D .lt (kIx (kV 0) (kK (.int 0))) (kK (.int 1)))) (kNt (kVal (kCall D 4 (kCons (kIx (kV 0) (kK (.int 1))) kNil)))))) (ssCons (sRet (kK (.bl false))) ssNil) ssNil) (ssCons (sRet (kBi D .all (kFz (kLc (gV 1) (iSeq (kIx (kV 0) (kK (.int 1)))) kTt (kCall D 6 (kCons (kV 1) kNil)) [1])))) ssNil)))
theorem gq7 (W : Nat) (D : Cl) : exSs D W b7 = g7 W D := (qsCons (qIff (qOr (qNt (qVal (qIsi qV))) (qVal (qCmp (qBi qV) qK))) (qsCons (qRet qK) qsNil) qsNil) (qsCons (qIff (qOr (qNt (qVal (qCall (qCons (qIx qV qK) qNil)))) (qOr (qVal (qCmp (qIx qV qK) qK)) (qNt (qVal (qCall (qCons (qIx qV qK) qNil)))))) (qsCons (qRet qK) qsNil) qsNil) (qsCons (qRet (qBi (qFz (qLc qgV (qSeq (qIx qV qK)) qTt (qCall (qCons qV qNil)))))) qsNil)))
def g8 (W : Nat) (D : Cl) : SM := (ssCons (sAsg (gV 1) (kM1 .join (kK (.str (sx [32, 62, 32]))) (kFz (kLc (gV 2) (iSeq (kIx (kV 0) (kK (.int 1)))) kTt (kM1 .join (kK (.str (sx [43]))) (kV 2)) [2])))) (ssCons (sRet (kIte (kVal (kCmp D .eq (kV 1) (kK (.str (sx []))))) (kBi D .str (kIx (kV 0) (kK (.int 0)))) (kBin .add (kBin .add (kBi D .str (kIx (kV 0) (kK (.int 0)))) (kK (.str (sx [32])))) (kV 1)))) ssNil))
theorem gq8 (W : Nat) (D : Cl) : exSs D W b8 = g8 W D := (qsCons (qAsg qgV (qM1 qK (qFz (qLc qgV (qSeq (qIx qV qK)) qTt (qM1 qK qV))))) (qsCons (qRet (qIte (qVal (qCmp qV qK)) (qBi (qIx qV qK)) (qBin (qBin (qBi (qIx qV qK)) qK) qV))) qsNil))
def g9 (W : Nat) (D : Cl) : SM := (ssCons (sAsg (gT (gCons (gV 4) (gCons (gV 5) (gCons (gV 6) gNil)))) (kM1 .partition (kV 0) (kK (.str (sx [32]))))) (ssCons (sAsg (gV 1) (kCall D 5 (kCons (kV 4) (kCons (kK (.int 6)) kNil)))) (ssCons (sAsg (gV 2) (kIte (kVal (kCmp D .ne (kV 5) (kK (.str (sx []))))) (kFz (kLc (gV 7) (iSeq (kM1 .split (kV 6) (kK (.str (sx [32, 62, 32]))))) kTt (kBi D .tuple (kM1 .split (kV 7) (kK (.str (sx [43]))))) [7])) (kFz (kLst kNil)))) (ssCons (sAsg (gV 3) (kTup (kCons (kV 1) (kCons (kV 2) kNil)))) (ssCons (sRet (kIte (kVal (kCall D 7 (kCons (kV 3) kNil))) (kV 3) (kK .non))) ssNil)))))
theorem gq9 (W : Nat) (D : Cl) : exSs D W b9 = g9 W D := (qsCons (qAsg (qgT (qgCons qgV (qgCons qgV (qgCons qgV qgNil)))) (qM1 qV qK)) (qsCons (qAsg qgV (qCall (qCons qV (qCons qK qNil)))) (qsCons (qAsg qgV (qIte (qVal (qCmp qV qK)) (qFz (qLc qgV (qSeq (qM1 qV qK)) qTt (qBi (qM1 qV qK)))) (qFz (qLst qNil)))) (qsCons (qAsg qgV (qTup (qCons qV (qCons qV qNil)))) (qsCons (qRet (qIte (qVal (qCall (qCons qV qNil))) qV qK)) qsNil)))))
def g10 (W : Nat) (D : Cl) : SM := (ssCons (sIff (kOr (kNt (kVal (kCall D 4 (kCons (kV 1) kNil)))) (kOr (kVal (kCmp D .eq (kBi D .len (kV 1)) (kK (.int 0)))) (kNt (kVal (kBi D .all (kFz (kLc (gV 2) (iSeq (kV 1)) kTt (kCall D 7 (kCons (kV 2) kNil)) [2]))))))) (ssCons sBad ssNil) ssNil) (ssCons (sSetf D (kV 0) (sx [115, 104, 97, 114, 101, 115]) (kBi D .tuple (kFz (kLc (gV 2) (iSeq (kV 1)) kTt (kTup (kCons (kIx (kV 2) (kK (.int 0))) (kCons (kBi D .tuple (kFz (kLc (gV 3) (iSeq (kIx (kV 2) (kK (.int 1)))) kTt (kBi D .tuple (kFz (kSrt (kV 3)))) [3]))) kNil))) [2])))) ssNil))
theorem gq10 (W : Nat) (D : Cl) : exSs D W b10 = g10 W D := (qsCons (qIff (qOr (qNt (qVal (qCall (qCons qV qNil)))) (qOr (qVal (qCmp (qBi qV) qK)) (qNt (qVal (qBi (qFz (qLc qgV (qSeq qV) qTt (qCall (qCons qV qNil))))))))) (qsCons qBad qsNil) qsNil) (qsCons (qSetf qV (qBi (qFz (qLc qgV (qSeq qV) qTt (qTup (qCons (qIx qV qK) (qCons (qBi (qFz (qLc qgV (qSeq (qIx qV qK)) qTt (qBi (qFz (qSrt qV)))))) qNil))))))) qsNil))
def g11 (W : Nat) (D : Cl) : SM := (ssCons (sAsg (gV 1) kDnew) (ssCons (sForr (gT (gCons (gV 2) (gCons (gV 3) gNil))) (iSeq (kAttr D (kV 0) (sx [115, 104, 97, 114, 101, 115]))) (ssCons (sForr (gV 4) (iSeq (kV 3)) (ssCons (sEx (kM1 .dupd (kV 1) (kDcm (gV 5) (iSeq (kV 4)) kTt (kV 5) (kK (.bl true)) [5]))) ssNil)) ssNil)) (ssCons (sRet (kBi D .tuple (kFz (kSrt (kV 1))))) ssNil)))
theorem gq11 (W : Nat) (D : Cl) : exSs D W b11 = g11 W D := (qsCons (qAsg qgV qDnew) (qsCons (qForr (qgT (qgCons qgV (qgCons qgV qgNil))) (qSeq (qAttr qV)) (qsCons (qForr qgV (qSeq qV) (qsCons (qEx (qM1 qV (qDcm qgV (qSeq qV) qTt qV qK))) qsNil)) qsNil)) (qsCons (qRet (qBi (qFz (qSrt qV)))) qsNil)))
def g12 (W : Nat) (D : Cl) : SM := (ssCons (sEx (kCall D 0 (kCons (kK (.int 0)) kNil))) ssNil)
theorem gq12 (W : Nat) (D : Cl) : exSs D W b12 = g12 W D := (qsCons (qEx (qCall (qCons qK qNil))) qsNil)
def g13 (W : Nat) (D : Cl) : SM := (ssCons (sAsg (gV 2) (kCell (kLst kNil))) (ssCons (sForr (gT (gCons (gV 3) (gCons (gV 4) gNil))) (iEnum (kM1 .split (kV 1) (kK (.str (sx [32, 124, 32]))))) (ssCons (sAsg (gV 5) (kCall D 9 (kCons (kV 4) kNil))) (ssCons (sIff (kVal (kCmp D .isN (kV 5) (kK .non))) (ssCons sBad ssNil) ssNil) (ssCons (sEx (kM1 .append (kV 2) (kV 5))) ssNil)))) (ssCons (sRet (kMake D (kV 0) (kCons (kV 2) kNil) kNil 1 0 [(10, [.i 0, .i 1]), (24, [.i 0, .i 1, .d 0 (.tup []), .d 1 (.tup [])]), (29, [.i 0, .i 1]), (28, [.i 0, .i 1]), (13, [.i 0, .i 1])])) ssNil)))
theorem gq13 (W : Nat) (D : Cl) : exSs D W b13 = g13 W D := (qsCons (qAsg qgV (qCell (qLst qNil))) (qsCons (qForr (qgT (qgCons qgV (qgCons qgV qgNil))) (qEnum (qM1 qV qK)) (qsCons (qAsg qgV (qCall (qCons qV qNil))) (qsCons (qIff (qVal (qCmp qV qK)) (qsCons qBad qsNil) qsNil) (qsCons (qEx (qM1 qV qV)) qsNil)))) (qsCons (qRet (qMake qV (qCons qV qNil) qNil)) qsNil)))
def g14 (W : Nat) (D : Cl) : SM := (ssCons (sRet (kBi D .len (kAttr D (kV 0) (sx [115, 104, 97, 114, 101, 115])))) ssNil)
theorem gq14 (W : Nat) (D : Cl) : exSs D W b14 = g14 W D := (qsCons (qRet (qBi (qAttr qV))) qsNil)
def g15 (W : Nat) (D : Cl) : SM := (ssCons (sRet (kTest (kAn (kVal (kIsi D (kV 1) (.cls 0))) (kVal (kCmp D .eq (kAttr D (kV 0) (sx [115, 104, 97, 114, 101, 115])) (kAttr D (kV 1) (sx [115, 104, 97, 114, 101, 115]))))))) ssNil)
theorem gq15 (W : Nat) (D : Cl) : exSs D W b15 = g15 W D := (qsCons (qRet (qTest (qAn (qVal (qIsi qV)) (qVal (qCmp (qAttr qV) (qAttr qV)))))) qsNil)
def g16 (W : Nat) (D : Cl) : SM := (ssCons (sRet (kM1 .join (kK (.str (sx [32, 124, 32]))) (kFz (kLc (gV 1) (iSeq (kAttr D (kV 0) (sx [115, 104, 97, 114, 101, 115]))) kTt (kCall D 8 (kCons (kV 1) kNil)) [1])))) ssNil)
theorem gq16 (W : Nat) (D : Cl) : exSs D W b16 = g16 W D := (qsCons (qRet (qM1 qK (qFz (qLc qgV (qSeq (qAttr qV)) qTt (qCall (qCons qV qNil)))))) qsNil)
def g17 (W : Nat) (D : Cl) : SM := (ssCons (sRet (kTest (kAn (kVal (kCall D 4 (kCons (kV 0) kNil))) (kVal (kBi D .all (kFz (kLc (gV 1) (iSeq (kV 0)) kTt (kTest (kAn (kVal (kIsi D (kV 1) .tuple)) (kVal (kCmp D .eq (kBi D .len (kV 1)) (kK (.int 2)))))) [1]))))))) ssNil)
theorem gq17 (W : Nat) (D : Cl) : exSs D W b17 = g17 W D := (qsCons (qRet (qTest (qAn (qVal (qCall (qCons qV qNil))) (qVal (qBi (qFz (qLc qgV (qSeq qV) qTt (qTest (qAn (qVal (qIsi qV)) (qVal (qCmp (qBi qV) qK))))))))))) qsNil)
def g18 (W : Nat) (D : Cl) : SM := (ssCons (sRet (kBi D .all (kFz (kLc (gV 1) (iRange (kCons (kBi D .len (kV 0)) kNil)) kTt (kCmp D .nmem (kIx (kV 0) (kV 1)) (kSl (kV 0) kNil (kCons (kV 1) kNil))) [1])))) ssNil)
theorem gq18 (W : Nat) (D : Cl) : exSs D W b18 = g18 W D := (qsCons (qRet (qBi (qFz (qLc qgV (qRange (qCons (qBi qV) qNil)) qTt (qCmp (qIx qV qV) (qSl qV qNil (qCons qV qNil))))))) qsNil)
def g19 (W : Nat) (D : Cl) : SM := (ssCons (sIff (kOr (kNt (kVal (kCall D 17 (kCons (kV 0) kNil)))) (kVal (kCmp D .eq (kBi D .len (kV 0)) (kK (.int 0))))) (ssCons (sRet (kK (.bl false))) ssNil) ssNil) (ssCons (sIff (kNt (kVal (kBi D .all (kFz (kLc (gT (gCons (gV 1) (gCons (gV 2) gNil))) (iSeq (kV 0)) kTt (kTest (kAn (kVal (kCall D 3 (kCons (kV 1) kNil))) (kVal (kCall D 2 (kCons (kV 2) kNil))))) [1, 2]))))) (ssCons (sRet (kK (.bl false))) ssNil) ssNil) (ssCons (sRet (kCall D 18 (kCons (kFz (kLc (gT (gCons (gV 1) (gCons (gV 2) gNil))) (iSeq (kV 0)) kTt (kV 1) [1, 2])) kNil))) ssNil)))
theorem gq19 (W : Nat) (D : Cl) : exSs D W b19 = g19 W D := (qsCons (qIff (qOr (qNt (qVal (qCall (qCons qV qNil)))) (qVal (qCmp (qBi qV) qK))) (qsCons (qRet qK) qsNil) qsNil) (qsCons (qIff (qNt (qVal (qBi (qFz (qLc (qgT (qgCons qgV (qgCons qgV qgNil))) (qSeq qV) qTt (qTest (qAn (qVal (qCall (qCons qV qNil))) (qVal (qCall (qCons qV qNil)))))))))) (qsCons (qRet qK) qsNil) qsNil) (qsCons (qRet (qCall (qCons (qFz (qLc (qgT (qgCons qgV (qgCons qgV qgNil))) (qSeq qV) qTt qV)) qNil))) qsNil)))
def g20 (W : Nat) (D : Cl) : SM := (ssCons (sIff (kOr (kNt (kVal (kIsi D (kV 0) .str))) (kOr (kVal (kCmp D .nmem (kV 0) (kV 2))) (kNt (kVal (kIsi D (kV 1) (.cls 0)))))) (ssCons (sRet (kK (.bl false))) ssNil) ssNil) (ssCons (sRet (kBi D .all (kFz (kLc (gV 3) (iSeq (kAttr D (kV 1) (sx [110, 97, 109, 101, 115]))) kTt (kTest (kAn (kVal (kCmp D .mem (kV 3) (kV 2))) (kVal (kCmp D .ne (kV 3) (kV 0))))) [3])))) ssNil))
theorem gq20 (W : Nat) (D : Cl) : exSs D W b20 = g20 W D := (qsCons (qIff (qOr (qNt (qVal (qIsi qV))) (qOr (qVal (qCmp qV qV)) (qNt (qVal (qIsi qV))))) (qsCons (qRet qK) qsNil) qsNil) (qsCons (qRet (qBi (qFz (qLc qgV (qSeq (qAttr qV)) qTt (qTest (qAn (qVal (qCmp qV qV)) (qVal (qCmp qV qV)))))))) qsNil))
def g21 (W : Nat) (D : Cl) : SM := (ssCons (sIff (kOr (kNt (kVal (kCall D 17 (kCons (kV 0) kNil)))) (kNt (kVal (kBi D .all (kFz (kLc (gT (gCons (gV 2) (gCons (gV 3) gNil))) (iSeq (kV 0)) kTt (kCall D 20 (kCons (kV 2) (kCons (kV 3) (kCons (kV 1) kNil)))) [2, 3])))))) (ssCons (sRet (kK (.bl false))) ssNil) ssNil) (ssCons (sRet (kCall D 18 (kCons (kFz (kLc (gT (gCons (gV 2) (gCons (gV 3) gNil))) (iSeq (kV 0)) kTt (kV 2) [2, 3])) kNil))) ssNil))
theorem gq21 (W : Nat) (D : Cl) : exSs D W b21 = g21 W D := (qsCons (qIff (qOr (qNt (qVal (qCall (qCons qV qNil)))) (qNt (qVal (qBi (qFz (qLc (qgT (qgCons qgV (qgCons qgV qgNil))) (qSeq qV) qTt (qCall (qCons qV (qCons qV (qCons qV qNil)))))))))) (qsCons (qRet qK) qsNil) qsNil) (qsCons (qRet (qCall (qCons (qFz (qLc (qgT (qgCons qgV (qgCons qgV qgNil))) (qSeq qV) qTt qV)) qNil))) qsNil))
def g22 (W : Nat) (D : Cl) : SM := (ssCons (sIff (kNt (kVal (kCall D 17 (kCons (kV 0) kNil)))) (ssCons (sRet (kK (.bl false))) ssNil) ssNil) (ssCons (sForr (gT (gCons (gV 2) (gCons (gV 3) gNil))) (iSeq (kV 0)) (ssCons (sIff (kOr (kNt (kVal (kIsi D (kV 2) .str))) (kNt (kVal (kIsi D (kV 3) .str)))) (ssCons (sRet (kK (.bl false))) ssNil) ssNil) (ssCons (sIff (kOr (kVal (kCmp D .nmem (kV 2) (kV 1))) (kOr (kVal (kCmp D .nmem (kV 3) (kV 1))) (kVal (kCmp D .eq (kV 2) (kV 3))))) (ssCons (sRet (kK (.bl false))) ssNil) ssNil) ssNil))) (ssCons (sRet (kK (.bl true))) ssNil)))
theorem gq22 (W : Nat) (D : Cl) : exSs D W b22 = g22 W D := (qsCons (qIff (qNt (qVal (qCall (qCons qV qNil)))) (qsCons (qRet qK) qsNil) qsNil) (qsCons (qForr (qgT (qgCons qgV (qgCons qgV qgNil))) (qSeq qV) (qsCons (qIff (qOr (qNt (qVal (qIsi qV))) (qNt (qVal (qIsi qV)))) (qsCons (qRet qK) qsNil) qsNil) (qsCons (qIff (qOr (qVal (qCmp qV qV)) (qOr (qVal (qCmp qV qV)) (qVal (qCmp qV qV)))) (qsCons (qRet qK) qsNil) qsNil) qsNil))) (qsCons (qRet qK) qsNil)))
def g23 (W : Nat) (D : Cl) : SM := (ssCons (sAsg (gV 2) (kFz (kLof (kV 0)))) (ssCons (sWhil W (kVal (kCmp D .ne (kV 2) (kFz (kLst kNil)))) (ssCons (sAsg (gV 3) (kFz (kLc (gT (gCons (gV 6) (gCons (gV 7) gNil))) (iSeq (kV 1)) (kVal (kCmp D .mem (kV 6) (kV 2))) (kV 7) [6, 7]))) (ssCons (sAsg (gV 4) (kFz (kLc (gV 5) (iSeq (kV 2)) (kVal (kCmp D .nmem (kV 5) (kV 3))) (kV 5) [5]))) (ssCons (sIff (kVal (kCmp D .eq (kV 4) (kFz (kLst kNil)))) (ssCons (sRet (kK (.bl true))) ssNil) ssNil) (ssCons (sAsg (gV 2) (kFz (kLc (gV 5) (iSeq (kV 2)) (kVal (kCmp D .nmem (kV 5) (kV 4))) (kV 5) [5]))) ssNil))))) (ssCons (sRet (kK (.bl false))) ssNil)))
theorem gq23 (W : Nat) (D : Cl) : exSs D W b23 = g23 W D := (qsCons (qAsg qgV (qFz (qLof qV))) (qsCons (qWhil (qVal (qCmp qV (qFz (qLst qNil)))) (qsCons (qAsg qgV (qFz (qLc (qgT (qgCons qgV (qgCons qgV qgNil))) (qSeq qV) (qVal (qCmp qV qV)) qV))) (qsCons (qAsg qgV (qFz (qLc qgV (qSeq qV) (qVal (qCmp qV qV)) qV))) (qsCons (qIff (qVal (qCmp qV (qFz (qLst qNil)))) (qsCons (qRet qK) qsNil) qsNil) (qsCons (qAsg qgV (qFz (qLc qgV (qSeq qV) (qVal (qCmp qV qV)) qV))) qsNil))))) (qsCons (qRet qK) qsNil)))
def g24 (W : Nat) (D : Cl) : SM := (ssCons (sIff (kNt (kVal (kCall D 19 (kCons (kV 1) kNil)))) (ssCons sBad ssNil) ssNil) (ssCons (sIff (kNt (kVal (kCall D 21 (kCons (kV 2) (kCons (kFz (kLc (gT (gCons (gV 5) (gCons (gV 7) gNil))) (iSeq (kV 1)) kTt (kV 5) [5, 7])) kNil))))) (ssCons sBad ssNil) ssNil) (ssCons (sAsg (gV 4) (kFz (kLc (gT (gCons (gV 5) (gCons (gV 6) gNil))) (iSeq (kV 2)) kTt (kV 5) [5, 6]))) (ssCons (sIff (kNt (kVal (kCall D 22 (kCons (kV 3) (kCons (kV 4) kNil))))) (ssCons sBad ssNil) ssNil) (ssCons (sIff (kVal (kCall D 23 (kCons (kV 4) (kCons (kV 3) kNil)))) (ssCons sBad ssNil) ssNil) (ssCons (sSetf D (kV 0) (sx [112, 101, 111, 112, 108, 101]) (kBi D .tuple (kV 1))) (ssCons (sSetf D (kV 0) (sx [119, 105, 108, 108, 115]) (kBi D .tuple (kV 2))) (ssCons (sSetf D (kV 0) (sx [102, 97, 99, 116, 115]) (kBi D .tuple (kV 3))) ssNil))))))))
theorem gq24 (W : Nat) (D : Cl) : exSs D W b24 = g24 W D := (qsCons (qIff (qNt (qVal (qCall (qCons qV qNil)))) (qsCons qBad qsNil) qsNil) (qsCons (qIff (qNt (qVal (qCall (qCons qV (qCons (qFz (qLc (qgT (qgCons qgV (qgCons qgV qgNil))) (qSeq qV) qTt qV)) qNil))))) (qsCons qBad qsNil) qsNil) (qsCons (qAsg qgV (qFz (qLc (qgT (qgCons qgV (qgCons qgV qgNil))) (qSeq qV) qTt qV))) (qsCons (qIff (qNt (qVal (qCall (qCons qV (qCons qV qNil))))) (qsCons qBad qsNil) qsNil) (qsCons (qIff (qVal (qCall (qCons qV (qCons qV qNil)))) (qsCons qBad qsNil) qsNil) (qsCons (qSetf qV (qBi qV)) (qsCons (qSetf qV (qBi qV)) (qsCons (qSetf qV (qBi qV)) qsNil))))))))
def g25 (W : Nat) (D : Cl) : SM := (ssCons (sRet (kBi D .tuple (kFz (kLc (gT (gCons (gV 1) (gCons (gV 2) gNil))) (iSeq (kAttr D (kV 0) (sx [112, 101, 111, 112, 108, 101]))) kTt (kV 1) [1, 2])))) ssNil)
theorem gq25 (W : Nat) (D : Cl) : exSs D W b25 = g25 W D := (qsCons (qRet (qBi (qFz (qLc (qgT (qgCons qgV (qgCons qgV qgNil))) (qSeq (qAttr qV)) qTt qV)))) qsNil)
def g26 (W : Nat) (D : Cl) : SM := (ssCons (sRet (kBi D .tuple (kFz (kSrt (kFz (kLc (gT (gCons (gV 1) (gCons (gV 2) gNil))) (iSeq (kAttr D (kV 0) (sx [119, 105, 108, 108, 115]))) kTt (kV 1) [1, 2])))))) ssNil)
theorem gq26 (W : Nat) (D : Cl) : exSs D W b26 = g26 W D := (qsCons (qRet (qBi (qFz (qSrt (qFz (qLc (qgT (qgCons qgV (qgCons qgV qgNil))) (qSeq (qAttr qV)) qTt qV)))))) qsNil)
def g27 (W : Nat) (D : Cl) : SM := (ssCons (sEx (kCall D 0 (kCons (kK (.int 1)) kNil))) ssNil)
theorem gq27 (W : Nat) (D : Cl) : exSs D W b27 = g27 W D := (qsCons (qEx (qCall (qCons qK qNil))) qsNil)
def g28 (W : Nat) (D : Cl) : SM := (ssCons (sForr (gT (gCons (gV 2) (gCons (gV 3) gNil))) (iSeq (kAttr D (kV 0) (sx [112, 101, 111, 112, 108, 101]))) (ssCons (sIff (kAn (kVal (kIsi D (kV 1) .str)) (kVal (kCmp D .eq (kV 2) (kV 1)))) (ssCons (sRet (kV 3)) ssNil) ssNil) ssNil)) (ssCons sBad ssNil))
theorem gq28 (W : Nat) (D : Cl) : exSs D W b28 = g28 W D := (qsCons (qForr (qgT (qgCons qgV (qgCons qgV qgNil))) (qSeq (qAttr qV)) (qsCons (qIff (qAn (qVal (qIsi qV)) (qVal (qCmp qV qV))) (qsCons (qRet qV) qsNil) qsNil) qsNil)) (qsCons qBad qsNil))
def g29 (W : Nat) (D : Cl) : SM := (ssCons (sForr (gT (gCons (gV 2) (gCons (gV 3) gNil))) (iSeq (kAttr D (kV 0) (sx [119, 105, 108, 108, 115]))) (ssCons (sIff (kAn (kVal (kIsi D (kV 1) .str)) (kVal (kCmp D .eq (kV 2) (kV 1)))) (ssCons (sRet (kV 3)) ssNil) ssNil) ssNil)) (ssCons sBad ssNil))
theorem gq29 (W : Nat) (D : Cl) : exSs D W b29 = g29 W D := (qsCons (qForr (qgT (qgCons qgV (qgCons qgV qgNil))) (qSeq (qAttr qV)) (qsCons (qIff (qAn (qVal (qIsi qV)) (qVal (qCmp qV qV))) (qsCons (qRet qV) qsNil) qsNil) qsNil)) (qsCons qBad qsNil))
def g30 (W : Nat) (D : Cl) : SM := (ssCons (sEx (kMeth D (sx [119, 105, 108, 108, 95, 111, 102]) (kV 0) (kCons (kV 1) kNil) kNil 1 0 [(10, [.i 0, .i 1]), (24, [.i 0, .i 1, .d 0 (.tup []), .d 1 (.tup [])]), (29, [.i 0, .i 1]), (28, [.i 0, .i 1]), (13, [.i 0, .i 1])])) (ssCons (sEx (kMeth D (sx [119, 105, 108, 108, 95, 111, 102]) (kV 0) (kCons (kV 2) kNil) kNil 1 0 [(10, [.i 0, .i 1]), (24, [.i 0, .i 1, .d 0 (.tup []), .d 1 (.tup [])]), (29, [.i 0, .i 1]), (28, [.i 0, .i 1]), (13, [.i 0, .i 1])])) (ssCons (sRet (kMake D (kK (.cls 1)) (kCons (kAttr D (kV 0) (sx [112, 101, 111, 112, 108, 101])) (kCons (kAttr D (kV 0) (sx [119, 105, 108, 108, 115])) (kCons (kTup (kStar (kAttr D (kV 0) (sx [102, 97, 99, 116, 115])) (kCons (kTup (kCons (kV 1) (kCons (kV 2) kNil))) kNil))) kNil))) kNil 3 0 [(24, [.i 0, .i 1, .i 2, .i 3])])) ssNil)))
theorem gq30 (W : Nat) (D : Cl) : exSs D W b30 = g30 W D := (qsCons (qEx (qMeth qV (qCons qV qNil) qNil)) (qsCons (qEx (qMeth qV (qCons qV qNil) qNil)) (qsCons (qRet (qMake qK (qCons (qAttr qV) (qCons (qAttr qV) (qCons (qTup (qStar (qAttr qV) (qCons (qTup (qCons qV (qCons qV qNil))) qNil))) qNil))) qNil)) qsNil)))
def g31 (W : Nat) (D : Cl) : SM := (ssCons (sEx (kMeth D (sx [111, 119, 110]) (kV 0) (kCons (kV 1) kNil) kNil 1 0 [(10, [.i 0, .i 1]), (24, [.i 0, .i 1, .d 0 (.tup []), .d 1 (.tup [])]), (29, [.i 0, .i 1]), (28, [.i 0, .i 1]), (13, [.i 0, .i 1])])) (ssCons (sAsg (gV 3) (kFz (kLc (gT (gCons (gV 4) (gCons (gV 5) gNil))) (iSeq (kAttr D (kV 0) (sx [112, 101, 111, 112, 108, 101]))) kTt (kTup (kCons (kV 4) (kCons (kIte (kVal (kCmp D .eq (kV 4) (kV 1))) (kV 2) (kV 5)) kNil))) [4, 5]))) (ssCons (sRet (kMake D (kK (.cls 1)) (kCons (kV 3) (kCons (kAttr D (kV 0) (sx [119, 105, 108, 108, 115])) (kCons (kAttr D (kV 0) (sx [102, 97, 99, 116, 115])) kNil))) kNil 3 0 [(24, [.i 0, .i 1, .i 2, .i 3])])) ssNil)))
theorem gq31 (W : Nat) (D : Cl) : exSs D W b31 = g31 W D := (qsCons (qEx (qMeth qV (qCons qV qNil) qNil)) (qsCons (qAsg qgV (qFz (qLc (qgT (qgCons qgV (qgCons qgV qgNil))) (qSeq (qAttr qV)) qTt (qTup (qCons qV (qCons (qIte (qVal (qCmp qV qV)) qV qV) qNil)))))) (qsCons (qRet (qMake qK (qCons qV (qCons (qAttr qV) (qCons (qAttr qV) qNil))) qNil)) qsNil)))
def g32 (W : Nat) (D : Cl) : SM := (ssCons (sAsg (gV 2) (kDdis [Sum.inr (sx [112, 101, 114, 115, 111, 110]), Sum.inr (sx [119, 105, 108, 108]), Sum.inr (sx [102, 105, 114, 115, 116])] (kCons (kCell (kLst kNil)) (kCons (kCell (kLst kNil)) (kCons (kCell (kLst kNil)) kNil))))) (ssCons (sAsg (gV 3) (kK (.int 0))) (ssCons (sForr (gT (gCons (gV 4) (gCons (gV 5) gNil))) (iEnum (kM1 .split (kV 1) (kK (.str (sx [10]))))) (ssCons (sAsg (gT (gCons (gV 7) (gCons (gV 8) gNil))) (kCall D 37 (kCons (kV 5) kNil))) (ssCons (sAsg (gV 6) (kIte (kVal (kCmp D .mem (kV 7) (kV 2))) (kM1 .index (kFz (kLof (kV 2))) (kV 7)) (kNeg (kK (.int 1))))) (ssCons (sIff (kVal (kCmp D .lt (kV 6) (kV 3))) (ssCons sBad ssNil) ssNil) (ssCons (sAsg (gV 3) (kV 6)) (ssCons (sEx (kM1 .append (kIx (kV 2) (kV 7)) (kV 8))) ssNil)))))) (ssCons (sRet (kMake D (kV 0) (kCons (kIx (kV 2) (kK (.str (sx [112, 101, 114, 115, 111, 110])))) (kCons (kIx (kV 2) (kK (.str (sx [119, 105, 108, 108])))) (kCons (kIx (kV 2) (kK (.str (sx [102, 105, 114, 115, 116])))) kNil))) kNil 3 0 [(24, [.i 0, .i 1, .i 2, .i 3])])) ssNil))))
theorem gq32 (W : Nat) (D : Cl) : exSs D W b32 = g32 W D := (qsCons (qAsg qgV (qDdis (qCons (qCell (qLst qNil)) (qCons (qCell (qLst qNil)) (qCons (qCell (qLst qNil)) qNil))))) (qsCons (qAsg qgV qK) (qsCons (qForr (qgT (qgCons qgV (qgCons qgV qgNil))) (qEnum (qM1 qV qK)) (qsCons (qAsg (qgT (qgCons qgV (qgCons qgV qgNil))) (qCall (qCons qV qNil))) (qsCons (qAsg qgV (qIte (qVal (qCmp qV qV)) (qM1 (qFz (qLof qV)) qV) (qNeg qK))) (qsCons (qIff (qVal (qCmp qV qV)) (qsCons qBad qsNil) qsNil) (qsCons (qAsg qgV qV) (qsCons (qEx (qM1 (qIx qV qV) qV)) qsNil)))))) (qsCons (qRet (qMake qV (qCons (qIx qV qK) (qCons (qIx qV qK) (qCons (qIx qV qK) qNil))) qNil)) qsNil))))
def g33 (W : Nat) (D : Cl) : SM := (ssCons (sIff (kNt (kVal (kIsi D (kV 1) (.cls 1)))) (ssCons sBad ssNil) ssNil) (ssCons (sRet (kMake D (kK (.cls 1)) (kCons (kBin .add (kAttr D (kV 0) (sx [112, 101, 111, 112, 108, 101])) (kAttr D (kV 1) (sx [112, 101, 111, 112, 108, 101]))) (kCons (kBin .add (kAttr D (kV 0) (sx [119, 105, 108, 108, 115])) (kAttr D (kV 1) (sx [119, 105, 108, 108, 115]))) (kCons (kBin .add (kAttr D (kV 0) (sx [102, 97, 99, 116, 115])) (kAttr D (kV 1) (sx [102, 97, 99, 116, 115]))) kNil))) kNil 3 0 [(24, [.i 0, .i 1, .i 2, .i 3])])) ssNil))
theorem gq33 (W : Nat) (D : Cl) : exSs D W b33 = g33 W D := (qsCons (qIff (qNt (qVal (qIsi qV))) (qsCons qBad qsNil) qsNil) (qsCons (qRet (qMake qK (qCons (qBin (qAttr qV) (qAttr qV)) (qCons (qBin (qAttr qV) (qAttr qV)) (qCons (qBin (qAttr qV) (qAttr qV)) qNil))) qNil)) qsNil))
def g34 (W : Nat) (D : Cl) : SM := (ssCons (sRet (kTest (kAn (kVal (kIsi D (kV 1) (.cls 1))) (kVal (kCmp D .eq (kBi D .str (kV 0)) (kBi D .str (kV 1))))))) ssNil)
theorem gq34 (W : Nat) (D : Cl) : exSs D W b34 = g34 W D := (qsCons (qRet (qTest (qAn (qVal (qIsi qV)) (qVal (qCmp (qBi qV) (qBi qV)))))) qsNil)
def g35 (W : Nat) (D : Cl) : SM := (ssCons (sAsg (gV 1) (kFz (kLc (gT (gCons (gV 4) (gCons (gV 5) gNil))) (iSeq (kAttr D (kV 0) (sx [112, 101, 111, 112, 108, 101]))) kTt (kBin .add (kBin .add (kBin .add (kK (.str (sx [112, 101, 114, 115, 111, 110, 32]))) (kBi D .str (kV 4))) (kK (.str (sx [32])))) (kBi D .str (kV 5))) [4, 5]))) (ssCons (sAsg (gV 2) (kFz (kLc (gT (gCons (gV 4) (gCons (gV 6) gNil))) (iSeq (kAttr D (kV 0) (sx [119, 105, 108, 108, 115]))) kTt (kBin .add (kBin .add (kBin .add (kK (.str (sx [119, 105, 108, 108, 32]))) (kBi D .str (kV 4))) (kK (.str (sx [32])))) (kBi D .str (kV 6))) [4, 6]))) (ssCons (sAsg (gV 3) (kFz (kLc (gT (gCons (gV 7) (gCons (gV 8) gNil))) (iSeq (kAttr D (kV 0) (sx [102, 97, 99, 116, 115]))) kTt (kBin .add (kBin .add (kBin .add (kK (.str (sx [102, 105, 114, 115, 116, 32]))) (kBi D .str (kV 7))) (kK (.str (sx [32])))) (kBi D .str (kV 8))) [7, 8]))) (ssCons (sRet (kM1 .join (kK (.str (sx [10]))) (kFz (kLst (kStar (kV 1) (kStar (kV 2) (kStar (kV 3) kNil))))))) ssNil))))
theorem gq35 (W : Nat) (D : Cl) : exSs D W b35 = g35 W D := (qsCons (qAsg qgV (qFz (qLc (qgT (qgCons qgV (qgCons qgV qgNil))) (qSeq (qAttr qV)) qTt (qBin (qBin (qBin qK (qBi qV)) qK) (qBi qV))))) (qsCons (qAsg qgV (qFz (qLc (qgT (qgCons qgV (qgCons qgV qgNil))) (qSeq (qAttr qV)) qTt (qBin (qBin (qBin qK (qBi qV)) qK) (qBi qV))))) (qsCons (qAsg qgV (qFz (qLc (qgT (qgCons qgV (qgCons qgV qgNil))) (qSeq (qAttr qV)) qTt (qBin (qBin (qBin qK (qBi qV)) qK) (qBi qV))))) (qsCons (qRet (qM1 qK (qFz (qLst (qStar qV (qStar qV (qStar qV qNil))))))) qsNil))))
def g36 (W : Nat) (D : Cl) : SM := (ssCons (sIff kTt (ssCons (sRet (kCallk D 13 (kCons (kK (.cls 0)) (kCons (kV 0) kNil)) kNil 2 0 [.i 0, .i 1])) ssNil) ssNil) ssNil)
theorem gq36 (W : Nat) (D : Cl) : exSs D W b36 = g36 W D := (qsCons (qIff qTt (qsCons (qRet (qCallk (qCons qK (qCons qV qNil)) qNil)) qsNil) qsNil) qsNil)
def g37 (W : Nat) (D : Cl) : SM := (ssCons (sAsg (gV 1) (kM1 .split (kV 0) (kK (.str (sx [32]))))) (ssCons (sIff (kAn (kVal (kCmp D .eq (kIx (kV 1) (kK (.int 0))) (kK (.str (sx [119, 105, 108, 108]))))) (kAn (kVal (kCmp D .gt (kBi D .len (kV 1)) (kK (.int 2)))) (kVal (kCall D 3 (kCons (kIx (kV 1) (kK (.int 1))) kNil))))) (ssCons (sAsg (gV 3) (kCall D 36 (kCons (kM1 .join (kK (.str (sx [32]))) (kSl (kV 1) (kCons (kK (.int 2)) kNil) kNil)) kNil))) (ssCons (sRet (kIte (kVal (kCmp D .isN (kV 3) (kK .non))) (kTup (kCons (kK (.str (sx []))) (kCons (kK .non) kNil))) (kTup (kCons (kK (.str (sx [119, 105, 108, 108]))) (kCons (kTup (kCons (kIx (kV 1) (kK (.int 1))) (kCons (kV 3) kNil))) kNil))))) ssNil)) ssNil) (ssCons (sIff (kOr (kVal (kCmp D .ne (kBi D .len (kV 1)) (kK (.int 3)))) (kNt (kVal (kCall D 3 (kCons (kIx (kV 1) (kK (.int 1))) kNil))))) (ssCons (sRet (kTup (kCons (kK (.str (sx []))) (kCons (kK .non) kNil)))) ssNil) ssNil) (ssCons (sAsg (gV 2) (kCall D 5 (kCons (kIx (kV 1) (kK (.int 2))) (kCons (kK (.int 10)) kNil)))) (ssCons (sIff (kAn (kVal (kCmp D .eq (kIx (kV 1) (kK (.int 0))) (kK (.str (sx [112, 101, 114, 115, 111, 110]))))) (kVal (kCmp D .notN (kV 2) (kK .non)))) (ssCons (sRet (kTup (kCons (kK (.str (sx [112, 101, 114, 115, 111, 110]))) (kCons (kTup (kCons (kIx (kV 1) (kK (.int 1))) (kCons (kV 2) kNil))) kNil)))) ssNil) ssNil) (ssCons (sIff (kAn (kVal (kCmp D .eq (kIx (kV 1) (kK (.int 0))) (kK (.str (sx [102, 105, 114, 115, 116]))))) (kVal (kCall D 3 (kCons (kIx (kV 1) (kK (.int 2))) kNil)))) (ssCons (sRet (kTup (kCons (kK (.str (sx [102, 105, 114, 115, 116]))) (kCons (kTup (kCons (kIx (kV 1) (kK (.int 1))) (kCons (kIx (kV 1) (kK (.int 2))) kNil))) kNil)))) ssNil) ssNil) (ssCons (sRet (kTup (kCons (kK (.str (sx []))) (kCons (kK .non) kNil)))) ssNil)))))))
theorem gq37 (W : Nat) (D : Cl) : exSs D W b37 = g37 W D := (qsCons (qAsg qgV (qM1 qV qK)) (qsCons (qIff (qAn (qVal (qCmp (qIx qV qK) qK)) (qAn (qVal (qCmp (qBi qV) qK)) (qVal (qCall (qCons (qIx qV qK) qNil))))) (qsCons (qAsg qgV (qCall (qCons (qM1 qK (qSl qV (qCons qK qNil) qNil)) qNil))) (qsCons (qRet (qIte (qVal (qCmp qV qK)) (qTup (qCons qK (qCons qK qNil))) (qTup (qCons qK (qCons (qTup (qCons (qIx qV qK) (qCons qV qNil))) qNil))))) qsNil)) qsNil) (qsCons (qIff (qOr (qVal (qCmp (qBi qV) qK)) (qNt (qVal (qCall (qCons (qIx qV qK) qNil))))) (qsCons (qRet (qTup (qCons qK (qCons qK qNil)))) qsNil) qsNil) (qsCons (qAsg qgV (qCall (qCons (qIx qV qK) (qCons qK qNil)))) (qsCons (qIff (qAn (qVal (qCmp (qIx qV qK) qK)) (qVal (qCmp qV qK))) (qsCons (qRet (qTup (qCons qK (qCons (qTup (qCons (qIx qV qK) (qCons qV qNil))) qNil)))) qsNil) qsNil) (qsCons (qIff (qAn (qVal (qCmp (qIx qV qK) qK)) (qVal (qCall (qCons (qIx qV qK) qNil)))) (qsCons (qRet (qTup (qCons qK (qCons (qTup (qCons (qIx qV qK) (qCons (qIx qV qK) qNil))) qNil)))) qsNil) qsNil) (qsCons (qRet (qTup (qCons qK (qCons qK qNil)))) qsNil)))))))
def g38 (W : Nat) (D : Cl) : SM := (ssCons (sAsg (gV 1) (kBin .add (kBin .mul (kK (.int 31)) (kBi D .len (kV 0))) (kBi D .sum (kFz (kLc (gV 2) (iSeq (kSl (kV 0) kNil (kCons (kK (.int 40)) kNil))) kTt (kBin .mod (kBi D .abs (kBi D .int (kV 2))) (kK (.int 991))) [2]))))) (ssCons (sRet (kFz (kLst (kCons (kBin .mod (kBi D .int (kV 1)) (kK (.int 13))) (kCons (kBin .mod (kBi D .int (kBin .fdiv (kV 1) (kK (.int 13)))) (kK (.int 7))) (kCons (kBin .mod (kBi D .int (kBin .fdiv (kV 1) (kK (.int 91)))) (kK (.int 3))) kNil)))))) ssNil))
theorem gq38 (W : Nat) (D : Cl) : exSs D W b38 = g38 W D := (qsCons (qAsg qgV (qBin (qBin qK (qBi qV)) (qBi (qFz (qLc qgV (qSeq (qSl qV qNil (qCons qK qNil))) qTt (qBin (qBi (qBi qV)) qK)))))) (qsCons (qRet (qFz (qLst (qCons (qBin (qBi qV) qK) (qCons (qBin (qBi (qBin qV qK)) qK) (qCons (qBin (qBi (qBin qV qK)) qK) qNil)))))) qsNil))
def g39 (W : Nat) (D : Cl) : SM := (ssCons (sAsg (gT (gCons (gV 4) (gCons (gV 5) (gCons (gV 6) gNil)))) (kCall D 38 (kCons (kV 0) kNil))) (ssCons (sAsg (gV 1) (kFz (kLst (kCons (kTup (kCons (kK (.str (sx [97, 110, 110]))) (kCons (kV 4) kNil))) (kCons (kTup (kCons (kK (.str (sx [98, 111, 98]))) (kCons (kV 5) kNil))) (kCons (kTup (kCons (kK (.str (sx [99, 105, 100]))) (kCons (kV 6) kNil))) kNil)))))) (ssCons (sAsg (gV 2) (kFz (kLst (kCons (kTup (kCons (kK (.str (sx [97, 110, 110]))) (kCons (kMake D (kK (.cls 0)) (kCons (kFz (kLst (kCons (kTup (kCons (kBin .add (kK (.int 1)) (kV 6)) (kCons (kFz (kLst (kCons (kFz (kLst (kCons (kK (.str (sx [98, 111, 98]))) kNil))) (kCons (kFz (kLst (kCons (kK (.str (sx [99, 105, 100]))) kNil))) kNil)))) kNil))) kNil))) kNil) kNil 1 0 [(10, [.i 0, .i 1]), (24, [.i 0, .i 1, .d 0 (.tup []), .d 1 (.tup [])]), (29, [.i 0, .i 1]), (28, [.i 0, .i 1]), (13, [.i 0, .i 1])]) kNil))) (kCons (kTup (kCons (kK (.str (sx [98, 111, 98]))) (kCons (kMake D (kK (.cls 0)) (kCons (kFz (kLst (kCons (kTup (kCons (kK (.int 1)) (kCons (kFz (kLst (kCons (kFz (kLst (kCons (kK (.str (sx [99, 105, 100]))) kNil))) kNil))) kNil))) kNil))) kNil) kNil 1 0 [(10, [.i 0, .i 1]), (24, [.i 0, .i 1, .d 0 (.tup []), .d 1 (.tup [])]), (29, [.i 0, .i 1]), (28, [.i 0, .i 1]), (13, [.i 0, .i 1])]) kNil))) kNil))))) (ssCons (sAsg (gV 3) (kMake D (kK (.cls 1)) kNil (kCons (kFz (kLst (kCons (kTup (kCons (kK (.str (sx [97, 110, 110]))) (kCons (kK (.str (sx [98, 111, 98]))) kNil))) kNil))) (kCons (kV 2) (kCons (kV 1) kNil))) 0 3 [(24, [.i 0, .i 3, .i 2, .i 1])])) (ssCons (sIff (kOr (kVal (kCmp D .ne (kV 3) (kMake D (kK (.cls 1)) (kCons (kV 1) (kCons (kV 2) (kCons (kFz (kLst (kCons (kTup (kCons (kK (.str (sx [97, 110, 110]))) (kCons (kK (.str (sx [98, 111, 98]))) kNil))) kNil))) kNil))) kNil 3 0 [(24, [.i 0, .i 1, .i 2, .i 3])]))) (kVal (kCmp D .ne (kMake D (kK (.cls 1)) kNil (kCons (kV 1) kNil) 0 1 [(24, [.i 0, .i 1, .d 0 (.tup []), .d 1 (.tup [])])]) (kMake D (kK (.cls 1)) (kCons (kV 1) (kCons (kTup kNil) (kCons (kTup kNil) kNil))) kNil 3 0 [(24, [.i 0, .i 1, .i 2, .i 3])])))) (ssCons (sRet (kK (.bl false))) ssNil) ssNil) (ssCons (sIff (kOr (kVal (kCmp D .ne (kCallk D 32 (kCons (kK (.cls 1)) kNil) (kCons (kBi D .str (kV 3)) kNil) 1 1 [.i 0, .i 1]) (kV 3))) (kVal (kCmp D .ne (kMeth D (sx [111, 119, 110]) (kV 3) kNil (kCons (kK (.str (sx [98, 111, 98]))) kNil) 0 1 [(28, [.i 0, .i 1]), (29, [.i 0, .i 1])]) (kV 5)))) (ssCons (sRet (kK (.bl false))) ssNil) ssNil) (ssCons (sIff (kOr (kVal (kCmp D .ne (kMeth D (sx [119, 105, 108, 108, 95, 111, 102]) (kV 3) kNil (kCons (kK (.str (sx [97, 110, 110]))) kNil) 0 1 [(28, [.i 0, .i 1]), (29, [.i 0, .i 1])]) (kIx (kIx (kV 2) (kK (.int 0))) (kK (.int 1))))) (kVal (kCmp D .ne (kAttr D (kMake D (kK (.cls 1)) kNil (kCons (kV 2) (kCons (kV 1) kNil)) 0 2 [(24, [.i 0, .i 2, .i 1, .d 1 (.tup [])])]) (sx [102, 97, 99, 116, 115])) (kTup kNil)))) (ssCons (sRet (kK (.bl false))) ssNil) ssNil) (ssCons (sIff (kVal (kCmp D .ne (kMeth D (sx [119, 105, 116, 104, 95, 102, 97, 99, 116]) (kV 3) kNil (kCons (kK (.str (sx [98, 111, 98]))) (kCons (kK (.str (sx [97, 110, 110]))) kNil)) 0 2 [(30, [.i 0, .i 2, .i 1])]) (kMeth D (sx [119, 105, 116, 104, 95, 102, 97, 99, 116]) (kV 3) (kCons (kK (.str (sx [97, 110, 110]))) (kCons (kK (.str (sx [98, 111, 98]))) kNil)) kNil 2 0 [(30, [.i 0, .i 1, .i 2]), (31, [.i 0, .i 1, .i 2])]))) (ssCons (sRet (kK (.bl false))) ssNil) ssNil) (ssCons (sRet (kCmp D .eq (kMeth D (sx [119, 105, 116, 104, 95, 111, 119, 110]) (kV 3) kNil (kCons (kK (.int 9)) (kCons (kK (.str (sx [99, 105, 100]))) kNil)) 0 2 [(31, [.i 0, .i 2, .i 1])]) (kMeth D (sx [119, 105, 116, 104, 95, 111, 119, 110]) (kV 3) (kCons (kK (.str (sx [99, 105, 100]))) (kCons (kK (.int 9)) kNil)) kNil 2 0 [(30, [.i 0, .i 1, .i 2]), (31, [.i 0, .i 1, .i 2])]))) ssNil)))))))))
theorem gq39 (W : Nat) (D : Cl) : exSs D W b39 = g39 W D := (qsCons (qAsg (qgT (qgCons qgV (qgCons qgV (qgCons qgV qgNil)))) (qCall (qCons qV qNil))) (qsCons (qAsg qgV (qFz (qLst (qCons (qTup (qCons qK (qCons qV qNil))) (qCons (qTup (qCons qK (qCons qV qNil))) (qCons (qTup (qCons qK (qCons qV qNil))) qNil)))))) (qsCons (qAsg qgV (qFz (qLst (qCons (qTup (qCons qK (qCons (qMake qK (qCons (qFz (qLst (qCons (qTup (qCons (qBin qK qV) (qCons (qFz (qLst (qCons (qFz (qLst (qCons qK qNil))) (qCons (qFz (qLst (qCons qK qNil))) qNil)))) qNil))) qNil))) qNil) qNil) qNil))) (qCons (qTup (qCons qK (qCons (qMake qK (qCons (qFz (qLst (qCons (qTup (qCons qK (qCons (qFz (qLst (qCons (qFz (qLst (qCons qK qNil))) qNil))) qNil))) qNil))) qNil) qNil) qNil))) qNil))))) (qsCons (qAsg qgV (qMake qK qNil (qCons (qFz (qLst (qCons (qTup (qCons qK (qCons qK qNil))) qNil))) (qCons qV (qCons qV qNil))))) (qsCons (qIff (qOr (qVal (qCmp qV (qMake qK (qCons qV (qCons qV (qCons (qFz (qLst (qCons (qTup (qCons qK (qCons qK qNil))) qNil))) qNil))) qNil))) (qVal (qCmp (qMake qK qNil (qCons qV qNil)) (qMake qK (qCons qV (qCons (qTup qNil) (qCons (qTup qNil) qNil))) qNil)))) (qsCons (qRet qK) qsNil) qsNil) (qsCons (qIff (qOr (qVal (qCmp (qCallk (qCons qK qNil) (qCons (qBi qV) qNil)) qV)) (qVal (qCmp (qMeth qV qNil (qCons qK qNil)) qV))) (qsCons (qRet qK) qsNil) qsNil) (qsCons (qIff (qOr (qVal (qCmp (qMeth qV qNil (qCons qK qNil)) (qIx (qIx qV qK) qK))) (qVal (qCmp (qAttr (qMake qK qNil (qCons qV (qCons qV qNil)))) (qTup qNil)))) (qsCons (qRet qK) qsNil) qsNil) (qsCons (qIff (qVal (qCmp (qMeth qV qNil (qCons qK (qCons qK qNil))) (qMeth qV (qCons qK (qCons qK qNil)) qNil))) (qsCons (qRet qK) qsNil) qsNil) (qsCons (qRet (qCmp (qMeth qV qNil (qCons qK (qCons qK qNil))) (qMeth qV (qCons qK (qCons qK qNil)) qNil))) qsNil)))))))))
def gL (W : Nat) : List FnG := [(1, 1, g0 W), (1, 1, g1 W), (1, 1, g2 W), (1, 2, g3 W), (1, 1, g4 W), (2, 3, g5 W), (1, 3, g6 W), (1, 2, g7 W), (1, 3, g8 W), (1, 8, g9 W), (2, 4, g10 W), (1, 6, g11 W), (2, 2, g12 W), (2, 6, g13 W), (1, 1, g14 W), (2, 2, g15 W), (1, 2, g16 W), (1, 2, g17 W), (1, 2, g18 W), (1, 3, g19 W), (3, 4, g20 W), (2, 4, g21 W), (2, 4, g22 W), (2, 8, g23 W), (4, 8, g24 W), (1, 3, g25 W), (1, 3, g26 W), (1, 1, g27 W), (2, 4, g28 W), (2, 4, g29 W), (3, 3, g30 W), (3, 6, g31 W), (2, 9, g32 W), (2, 2, g33 W), (2, 2, g34 W), (1, 9, g35 W), (1, 1, g36 W), (1, 4, g37 W), (1, 3, g38 W), (1, 7, g39 W)]
theorem gIs (W : Nat) : ∀ f, FnIs W (TB.fn f) (nth (gL W) f) := fun f => match f with
  | 0 => ⟨rfl, rfl, fun D => gq0 W D⟩
  | 1 => ⟨rfl, rfl, fun D => gq1 W D⟩
  | 2 => ⟨rfl, rfl, fun D => gq2 W D⟩
  | 3 => ⟨rfl, rfl, fun D => gq3 W D⟩
  | 4 => ⟨rfl, rfl, fun D => gq4 W D⟩
  | 5 => ⟨rfl, rfl, fun D => gq5 W D⟩
  | 6 => ⟨rfl, rfl, fun D => gq6 W D⟩
  | 7 => ⟨rfl, rfl, fun D => gq7 W D⟩
  | 8 => ⟨rfl, rfl, fun D => gq8 W D⟩
  | 9 => ⟨rfl, rfl, fun D => gq9 W D⟩
  | 10 => ⟨rfl, rfl, fun D => gq10 W D⟩
  | 11 => ⟨rfl, rfl, fun D => gq11 W D⟩
  | 12 => ⟨rfl, rfl, fun D => gq12 W D⟩
  | 13 => ⟨rfl, rfl, fun D => gq13 W D⟩
  | 14 => ⟨rfl, rfl, fun D => gq14 W D⟩
  | 15 => ⟨rfl, rfl, fun D => gq15 W D⟩
  | 16 => ⟨rfl, rfl, fun D => gq16 W D⟩
  | 17 => ⟨rfl, rfl, fun D => gq17 W D⟩
  | 18 => ⟨rfl, rfl, fun D => gq18 W D⟩
  | 19 => ⟨rfl, rfl, fun D => gq19 W D⟩
  | 20 => ⟨rfl, rfl, fun D => gq20 W D⟩
  | 21 => ⟨rfl, rfl, fun D => gq21 W D⟩
  | 22 => ⟨rfl, rfl, fun D => gq22 W D⟩
  | 23 => ⟨rfl, rfl, fun D => gq23 W D⟩
  | 24 => ⟨rfl, rfl, fun D => gq24 W D⟩
  | 25 => ⟨rfl, rfl, fun D => gq25 W D⟩
  | 26 => ⟨rfl, rfl, fun D => gq26 W D⟩
  | 27 => ⟨rfl, rfl, fun D => gq27 W D⟩
  | 28 => ⟨rfl, rfl, fun D => gq28 W D⟩
  | 29 => ⟨rfl, rfl, fun D => gq29 W D⟩
  | 30 => ⟨rfl, rfl, fun D => gq30 W D⟩
  | 31 => ⟨rfl, rfl, fun D => gq31 W D⟩
  | 32 => ⟨rfl, rfl, fun D => gq32 W D⟩
  | 33 => ⟨rfl, rfl, fun D => gq33 W D⟩
  | 34 => ⟨rfl, rfl, fun D => gq34 W D⟩
  | 35 => ⟨rfl, rfl, fun D => gq35 W D⟩
  | 36 => ⟨rfl, rfl, fun D => gq36 W D⟩
  | 37 => ⟨rfl, rfl, fun D => gq37 W D⟩
  | 38 => ⟨rfl, rfl, fun D => gq38 W D⟩
  | 39 => ⟨rfl, rfl, fun D => gq39 W D⟩
  | n + 40 => trivial
theorem run_g (W n : Nat) : runFn TB W n = runG (gL W) TB.cl n := runG_eq (gIs W) n
end My

end P_F18
section P_Xa
set_option Elab.async false
set_option linter.all false
set_option maxRecDepth 100000
set_option maxHeartbeats 2000000
namespace My
open Co
open PySem (Str)
abbrev RG (n f : Nat) (xs : List PV) : M PV := runG (gL 100000) TB.cl n f xs
abbrev DG (n : Nat) : Cl := TB.cl (runG (gL 100000) TB.cl n)
theorem call_wp {n f : Nat} {F : FnG} {xs : List PV} {m : Mem} {Q : PV → Mem → Prop} (hF : nth (gL 100000) f = some F) (hl : xs.length = F.1) (h : wp (F.2.2 (DG n) (xs.map some ++ List.replicate (F.2.1 - xs.length) none) m) fun p m1 => match p.1 with
    | .rt v => Q v m1
    | .nx => Q .non m1
    | _ => False) : wp (RG (n + 1) f xs m) Q := by
  show wp (match nth (gL 100000) f with
    | some F => callG F (DG n) xs m
    | none => .stuck) Q
  rw [hF]
  exact callG_wp hl h
theorem dcall {n f : Nat} {xs : List PV} {m : Mem} : (DG n).call f xs m = RG n f xs m := rfl
/-- a name -/
def nameB (x : Str) : Bool := decide (0 < x.length) && decide (x.length < 6) && x.cps.toList.all (fun c => decide (97 ≤ c) && decide (c ≤ 122)) && !decide (x = sx [99, 114, 111, 119, 110])
theorem cut_take {α : Type} {xs : List α} {i : Int} (h : 0 ≤ i) : cutP xs none (some i) = xs.take i.toNat := by
  unfold cutP
  open L2 PySem in unfold HT.sIx
  simp only [List.drop_zero, Nat.sub_zero]
  rw [if_neg (by omega)]
  by_cases hi : i.toNat ≤ xs.length
  · rw [Nat.min_eq_left hi]
  · rw [Nat.min_eq_right (by omega), List.take_length, List.take_of_length_le (by omega)]
theorem pls_names {ns : List Str} (h : ∀ x ∈ ns, nameB x = true) : pls 0 (ns.map .str) = true := by
  refine pls_all.mpr fun v hv => ?_
  obtain ⟨x, hx, rfl⟩ := List.mem_map.mp hv
  have := h x hx
  unfold nameB at this
  simp only [Bool.and_eq_true, List.all_eq_true, decide_eq_true_eq] at this
  unfold pl PySem.PyData.strOk
  rw [Array.all_eq_true']
  intro c hc
  have := (this.1.2 c (by simpa using hc)).2
  exact decide_eq_true (by omega)
theorem perm_str : ∀ {ys : List PV} {ns : List Str}, ys.Perm (ns.map .str) → ∃ ms : List Str, ys = ms.map .str ∧ ms.Perm ns := fun {ys ns} h => by
  have hall : ∀ y ∈ ys, ∃ x, y = .str x := fun y hy => by
    obtain ⟨x, _, rfl⟩ := List.mem_map.mp (h.subset hy)
    exact ⟨x, rfl⟩
  have : ∀ l : List PV, (∀ y ∈ l, ∃ x, y = .str x) → ∃ ms : List Str, l = ms.map PV.str := by
    intro l
    induction l with
    | nil => exact fun _ => ⟨[], rfl⟩
    | cons a l ih =>
      intro h
      obtain ⟨x, rfl⟩ := h a List.mem_cons_self
      obtain ⟨ms, rfl⟩ := ih fun y hy => h y (List.mem_cons_of_mem _ hy)
      exact ⟨x :: ms, rfl⟩
  obtain ⟨ms, rfl⟩ := this ys hall
  refine ⟨ms, rfl, ?_⟩
  have h2 := h.filterMap asStr
  have e : ∀ l : List Str, (l.map PV.str).filterMap asStr = l := fun l => by
    induction l with
    | nil => rfl
    | cons a l ih => rw [List.map_cons, List.filterMap_cons]; show a :: _ = _; rw [ih]
  rwa [e, e] at h2
def NamesOk (ns : List Str) : Prop := ns.Nodup ∧ (∀ x ∈ ns, nameB x = true) ∧ ns ≠ [] ∧ ns.length ≤ 9
abbrev encG (g : List Str) : PV := .lst (g.map .str)
abbrev encS (s : Int × List (List Str)) : PV := .tup [.int s.1, .lst (s.2.map encG)]
structure ShareOk (s : Int × List (List Str)) : Prop where
  lo : 1 ≤ s.1
  hi : s.1 ≤ 9
  few : s.2.length ≤ 3
  grp : ∀ g ∈ s.2, NamesOk g
theorem namesPl {g : List Str} (h : NamesOk g) : pl 1 (encG g) = true := by
  simp only [pl]
  exact pls_names h.2.1
theorem shareG {s : Int × List (List Str)} (h : ShareOk s) : pl 2 (.lst (s.2.map encG)) = true := by
  simp only [pl]
  refine pls_all.mpr fun v hv => ?_
  obtain ⟨g, hg, rfl⟩ := List.mem_map.mp hv
  exact namesPl (h.grp g hg)
theorem sharePl {s : Int × List (List Str)} (h : ShareOk s) : pl 3 (encS s) = true := by
  simp only [pl, pls, Bool.and_true, Bool.and_eq_true]
  exact ⟨trivial, shareG h⟩
theorem int_iff {q : Bool} {P : Prop} (h : q = true ↔ P) (hp : ¬ P) : q = false := by
  cases q with
  | false => rfl
  | true => exact absurd (h.mp rfl) hp
/-- a text list is not [] -/
theorem ne_names {D : Cl} {m : Mem} {ns : List Str} (h : NamesOk ns) : cmpV D .ne (.lst (ns.map .str)) (.lst []) m = .ok (.bl true) m := by
  obtain ⟨b, c1, c2, c3⟩ := eq_pl (n := 1) (k := 1) (a := .lst (ns.map .str)) (b := .lst []) (namesPl h) (by simp [pl, pls]) (by decide) (by decide)
  have hb : b = false := int_iff c3 (by
    intro e
    have : ns.map PV.str = [] := by injection e
    exact h.2.2.1 (List.map_eq_nil_iff.mp this))
  subst hb
  exact cmpV_pl c2 (by intro _ _ _ e; cases e)
end My

end P_Xa
section P_Xb
set_option Elab.async false
set_option linter.all false
set_option maxRecDepth 100000
set_option maxHeartbeats 2000000
namespace My
open Co
open PySem (Str)
/-- a group as list or tuple -/
def encB (b : Bool) (g : List Str) : PV := match b with
  | true => .lst (g.map .str)
  | false => .tup (g.map .str)
abbrev encSB (b : Bool) (s : Int × List (List Str)) : PV := .tup [.int s.1, .lst (s.2.map (encB b))]
theorem encB_pl {b : Bool} {g : List Str} (h : NamesOk g) : pl 1 (encB b g) = true := by
  cases b <;> (simp only [encB, pl]; exact pls_names h.2.1)
theorem is_integer_ok {n : Nat} {i : Int} {m : Mem} : RG (n + 1) 1 [.int i] m = .ok (.bl true) m := rfl
theorem is_seq_lst {n : Nat} {xs : List PV} {m : Mem} : RG (n + 1) 4 [.lst xs] m = .ok (.bl true) m := rfl
theorem is_seq_B {n : Nat} {b : Bool} {g : List Str} {m : Mem} : RG (n + 1) 4 [encB b g] m = .ok (.bl true) m := by
  cases b <;> rfl
theorem is_seq_ref {n p : Nat} {xs : List PV} {m : Mem} (h : m[p]? = some (.lst xs)) : RG (n + 1) 4 [.ref p] m = .ok (.bl true) m := by
  have e := Ev.vwR h
  show callG (1, 1, g4 100000) (DG n) [.ref p] m = _
  unfold callG
  try simp only [Ev.v0, Ev.vs, Ev.kk, Ev.bin, Ev.cmp, Ev.bok, Ev.ofs, Ev.test, Ev.iteE, Ev.val, Ev.nt, Ev.an, Ev.orE, Ev.tt, Ev.enil, Ev.econs, Ev.tup, Ev.lst, Ev.fz, Ev.cell, Ev.ix, Ev.call, Ev.bi, Ev.bi2, Ev.isi, Ev.m1, Ev.attr, Ev.sl, Ev.lof, Ev.srt, Ev.chain, Ev.gv0, Ev.gvs, Ev.gt, Ev.gnil, Ev.gcons, Ev.asg, Ev.setix, Ev.ex, Ev.ret, Ev.iff, Ev.forr, Ev.snil, Ev.scons, Ev.iseq, Ev.irange, Ev.vwI, Ev.vwS, Ev.vwB, Ev.vwN, Ev.vwL, Ev.vwT, Ev.vwO, Ev.asb, Ev.ckT, Ev.addI, Ev.subI, Ev.ltI, Ev.leI, Ev.gtI, Ev.geI, Ev.eqI, Ev.neI, Ev.intI, Ev.absI, Ev.lenL, Ev.lenT, Ev.lenC, Ev.strS, Ev.tupL, Ev.tupT, Ev.po0, Ev.poi, Ev.slL, Ev.setf, Ev.make, Ev.callk, Ev.meth, Ev.ienum, Ev.dnew, Ev.ddis, Ev.dof, Ev.dcm, Ev.rev1, Ev.dget2, Ev.irev, Ev.lc, Ev.lcf, Ev.forf, Ev.wi0, Ev.wi1, List.set_cons_succ, List.set_cons_zero, Co.bind_assoc, List.map_cons, List.map_nil, List.cons_append, List.nil_append, List.length_cons, List.length_nil, List.replicate_succ, List.replicate_zero, Nat.reduceAdd, Nat.reduceSub, Nat.reduceLeDiff, decide_true, wp_ok, g4, e, isiop]
  rfl
theorem call_eq {n f : Nat} {F : FnG} {xs : List PV} {m : Mem} {v : PV} {m' : Mem} {env : Co.Env} (hF : nth (gL 100000) f = some F) (hl : xs.length = F.1) (h : F.2.2 (DG n) (xs.map some ++ List.replicate (F.2.1 - xs.length) none) m = .ok (.rt v, env) m') : RG (n + 1) f xs m = .ok v m' := by
  show (match nth (gL 100000) f with
    | some F => callG F (DG n) xs m
    | none => .stuck) = _
  rw [hF]
  dsimp only
  unfold callG
  rw [decide_eq_true hl, h]
  rfl
theorem is_name_ok {n : Nat} {x : Str} {m : Mem} (h : nameB x = true) : RG (n + 1) 3 [.str x] m = .ok (.bl true) m := by
  unfold nameB at h
  simp only [Bool.and_eq_true, decide_eq_true_eq, Bool.not_eq_true', decide_eq_false_iff_not, List.all_eq_true] at h
  obtain ⟨⟨⟨h1, h2⟩, h3⟩, h4⟩ := h
  refine wp_eq (call_wp (F := (1, 2, g3 100000)) rfl rfl ?_)
  have i1 : isiop (DG n).nC .str (.str x) = some true := rfl
  have l1 : biO (DG n) .len (.str x) m = .ok (.int x.length) m := by
    show Out.of (if x.length ≤ 100000 then some (PV.int x.length) else none) m = _
    rw [if_pos (by omega)]
    rfl
  have c1 : cmpop .lt (.int 0) (.int x.length) = some true := by
    show some (decide ((0 : Int) < x.length)) = _
    rw [decide_eq_true (by omega)]
  have c2 : cmpop .lt (.int x.length) (.int 6) = some true := by
    show some (decide ((x.length : Int) < 6)) = _
    rw [decide_eq_true (by omega)]
  have c3 : cmpV (DG n) .eq (.str x) (.str (sx [99, 114, 111, 119, 110])) m = .ok (.bl false) m := by
    have hx : pl 0 (.str x) = true := by
      have := pls_names (ns := [x]) (by
        intro y hy
        rw [List.mem_singleton.mp hy]
        unfold nameB
        simp only [Bool.and_eq_true, decide_eq_true_eq, Bool.not_eq_true', decide_eq_false_iff_not, List.all_eq_true]
        exact ⟨⟨⟨h1, h2⟩, h3⟩, h4⟩)
      simpa [pls] using this
    obtain ⟨b, e1, e2, e3⟩ := eq_pl (n := 0) (k := 0) (a := .str x) (b := .str (sx [99, 114, 111, 119, 110])) hx (by decide +kernel) (by decide) (by decide)
    have hb : b = false := int_iff e3 (by
      intro e
      exact h4 (by injection e))
    subst hb
    exact cmpV_pl e1 (by intro _ _ _ e; cases e)
  have k1 : (decide (x.length ≤ 100000)) = true := decide_eq_true (by omega)
  try simp only [Ev.v0, Ev.vs, Ev.kk, Ev.bin, Ev.cmp, Ev.bok, Ev.ofs, Ev.test, Ev.iteE, Ev.val, Ev.nt, Ev.an, Ev.orE, Ev.tt, Ev.enil, Ev.econs, Ev.tup, Ev.lst, Ev.fz, Ev.cell, Ev.ix, Ev.call, Ev.bi, Ev.bi2, Ev.isi, Ev.m1, Ev.attr, Ev.sl, Ev.lof, Ev.srt, Ev.chain, Ev.gv0, Ev.gvs, Ev.gt, Ev.gnil, Ev.gcons, Ev.asg, Ev.setix, Ev.ex, Ev.ret, Ev.iff, Ev.forr, Ev.snil, Ev.scons, Ev.iseq, Ev.irange, Ev.vwI, Ev.vwS, Ev.vwB, Ev.vwN, Ev.vwL, Ev.vwT, Ev.vwO, Ev.asb, Ev.ckT, Ev.addI, Ev.subI, Ev.ltI, Ev.leI, Ev.gtI, Ev.geI, Ev.eqI, Ev.neI, Ev.intI, Ev.absI, Ev.lenL, Ev.lenT, Ev.lenC, Ev.strS, Ev.tupL, Ev.tupT, Ev.po0, Ev.poi, Ev.slL, Ev.setf, Ev.make, Ev.callk, Ev.meth, Ev.ienum, Ev.dnew, Ev.ddis, Ev.dof, Ev.dcm, Ev.rev1, Ev.dget2, Ev.irev, Ev.lc, Ev.lcf, Ev.forf, Ev.wi0, Ev.wi1, List.set_cons_succ, List.set_cons_zero, Co.bind_assoc, List.map_cons, List.map_nil, List.cons_append, List.nil_append, List.length_cons, List.length_nil, List.replicate_succ, List.replicate_zero, Nat.reduceAdd, Nat.reduceSub, Nat.reduceLeDiff, decide_true, wp_ok, g3, i1, l1, c1, c2, c3, k1, Option.map_some, Bool.not_true]
  refine wp_then (lcFx_wp (fun _ => .bl true) fun q hq => ?_) fun ys m1 ⟨e1, e2⟩ => ?_
  · obtain ⟨c, hc, rfl⟩ := List.mem_map.mp hq
    have hc2 := h3 c hc
    have hcm : cmpV (DG n) .mem (.str ⟨#[c]⟩) (.str (sx [97, 98, 99, 100, 101, 102, 103, 104, 105, 106, 107, 108, 109, 110, 111, 112, 113, 114, 115, 116, 117, 118, 119, 120, 121, 122])) m = .ok (.bl true) m := by
      show Out.of ((some (decide (c ∈ [97, 98, 99, 100, 101, 102, 103, 104, 105, 106, 107, 108, 109, 110, 111, 112, 113, 114, 115, 116, 117, 118, 119, 120, 121, 122]))).map PV.bl) m = _
      rw [decide_eq_true (by simp; omega)]
      rfl
    try simp only [Ev.v0, Ev.vs, Ev.kk, Ev.bin, Ev.cmp, Ev.bok, Ev.ofs, Ev.test, Ev.iteE, Ev.val, Ev.nt, Ev.an, Ev.orE, Ev.tt, Ev.enil, Ev.econs, Ev.tup, Ev.lst, Ev.fz, Ev.cell, Ev.ix, Ev.call, Ev.bi, Ev.bi2, Ev.isi, Ev.m1, Ev.attr, Ev.sl, Ev.lof, Ev.srt, Ev.chain, Ev.gv0, Ev.gvs, Ev.gt, Ev.gnil, Ev.gcons, Ev.asg, Ev.setix, Ev.ex, Ev.ret, Ev.iff, Ev.forr, Ev.snil, Ev.scons, Ev.iseq, Ev.irange, Ev.vwI, Ev.vwS, Ev.vwB, Ev.vwN, Ev.vwL, Ev.vwT, Ev.vwO, Ev.asb, Ev.ckT, Ev.addI, Ev.subI, Ev.ltI, Ev.leI, Ev.gtI, Ev.geI, Ev.eqI, Ev.neI, Ev.intI, Ev.absI, Ev.lenL, Ev.lenT, Ev.lenC, Ev.strS, Ev.tupL, Ev.tupT, Ev.po0, Ev.poi, Ev.slL, Ev.setf, Ev.make, Ev.callk, Ev.meth, Ev.ienum, Ev.dnew, Ev.ddis, Ev.dof, Ev.dcm, Ev.rev1, Ev.dget2, Ev.irev, Ev.lc, Ev.lcf, Ev.forf, Ev.wi0, Ev.wi1, List.set_cons_succ, List.set_cons_zero, Co.bind_assoc, List.map_cons, List.map_nil, List.cons_append, List.nil_append, List.length_cons, List.length_nil, List.replicate_succ, List.replicate_zero, Nat.reduceAdd, Nat.reduceSub, Nat.reduceLeDiff, decide_true, wp_ok, hcm]
  · subst e1 e2
    try simp only [Ev.v0, Ev.vs, Ev.kk, Ev.bin, Ev.cmp, Ev.bok, Ev.ofs, Ev.test, Ev.iteE, Ev.val, Ev.nt, Ev.an, Ev.orE, Ev.tt, Ev.enil, Ev.econs, Ev.tup, Ev.lst, Ev.fz, Ev.cell, Ev.ix, Ev.call, Ev.bi, Ev.bi2, Ev.isi, Ev.m1, Ev.attr, Ev.sl, Ev.lof, Ev.srt, Ev.chain, Ev.gv0, Ev.gvs, Ev.gt, Ev.gnil, Ev.gcons, Ev.asg, Ev.setix, Ev.ex, Ev.ret, Ev.iff, Ev.forr, Ev.snil, Ev.scons, Ev.iseq, Ev.irange, Ev.vwI, Ev.vwS, Ev.vwB, Ev.vwN, Ev.vwL, Ev.vwT, Ev.vwO, Ev.asb, Ev.ckT, Ev.addI, Ev.subI, Ev.ltI, Ev.leI, Ev.gtI, Ev.geI, Ev.eqI, Ev.neI, Ev.intI, Ev.absI, Ev.lenL, Ev.lenT, Ev.lenC, Ev.strS, Ev.tupL, Ev.tupT, Ev.po0, Ev.poi, Ev.slL, Ev.setf, Ev.make, Ev.callk, Ev.meth, Ev.ienum, Ev.dnew, Ev.ddis, Ev.dof, Ev.dcm, Ev.rev1, Ev.dget2, Ev.irev, Ev.lc, Ev.lcf, Ev.forf, Ev.wi0, Ev.wi1, List.set_cons_succ, List.set_cons_zero, Co.bind_assoc, List.map_cons, List.map_nil, List.cons_append, List.nil_append, List.length_cons, List.length_nil, List.replicate_succ, List.replicate_zero, Nat.reduceAdd, Nat.reduceSub, Nat.reduceLeDiff, decide_true, wp_ok, all_true]
    exact ⟨trivial, trivial⟩
theorem dR {n f : Nat} {xs : List PV} {m : Mem} : (DG n).call f xs m = RG n f xs m := rfl
/-- a value of a text list, in either form -/
theorem encB_items {b : Bool} {g : List Str} : items (encB b g) = some (g.map .str) := by cases b <;> rfl
theorem encB_vw {b : Bool} {g : List Str} {m : Mem} : vw m (encB b g) = encB b g := by cases b <;> rfl
theorem encB_len {b : Bool} {g : List Str} {m : Mem} {D : Cl} : biO D .len (encB b g) m = .ok (.int g.length) m := by
  cases b <;> (show Out.ok (PV.int ((g.map PV.str).length : Nat)) m = _; rw [List.length_map])
theorem encB_seq {b : Bool} {g : List Str} {a : EM} {env : Co.Env} {m : Mem} (h : a env m = .ok (encB b g) m) : iSeq a env m = .ok (.fix (g.map .str)) m := by
  unfold iSeq
  rw [h]
  cases b <;> rfl
theorem encB_ix {b : Bool} {g : List Str} {i : Nat} (h : i < g.length) : ixop (encB b g) (.int (i : Int)) = some (.str g[i]) := by
  have e : L2.atI (g.map PV.str) (i : Int) = some (.str g[i]) := by
    unfold L2.atI L2.ixN
    rw [if_pos (Int.natCast_nonneg i), if_pos (by simpa using h)]
    show (g.map PV.str)[i]? = _
    rw [List.getElem?_map, List.getElem?_eq_getElem h]
    rfl
  cases b <;> exact e
theorem encB_sl {b : Bool} {g : List Str} {i : Nat} : slop (encB b g) none (some (i : Int)) = some (encB b (g.take i)) := by
  cases b <;> (simp only [encB, slop, cut_take (Int.natCast_nonneg i), Int.toNat_natCast, List.map_take])
theorem is_seq_tup {n : Nat} {xs : List PV} {m : Mem} : RG (n + 1) 4 [.tup xs] m = .ok (.bl true) m := rfl
theorem atI_str {g : List Str} {i : Nat} (h : i < g.length) : L2.atI (g.map PV.str) (i : Int) = some (.str g[i]) := by
  unfold L2.atI L2.ixN
  rw [if_pos (Int.natCast_nonneg i), if_pos (by simpa using h)]
  show (g.map PV.str)[i]? = _
  rw [List.getElem?_map, List.getElem?_eq_getElem h]
  rfl
theorem nodup_take {α : Type} {l : List α} (h : l.Nodup) {i : Nat} (hi : i < l.length) : l[i] ∉ l.take i := by
  intro hm
  obtain ⟨j, hj, e⟩ := List.getElem_of_mem hm
  rw [List.length_take] at hj
  rw [List.getElem_take] at e
  have := (List.getElem_inj h).mp e
  omega
theorem is_group_l {n : Nat} {g : List Str} {m : Mem} (h : NamesOk g) : RG (n + 2) 6 [.lst (g.map .str)] m = .ok (.bl true) m := by
  obtain ⟨h1, h2, h3, h4⟩ := h
  refine wp_eq (call_wp (F := (1, 3, g6 100000)) rfl rfl ?_)
  have hpos : 0 < g.length := List.length_pos_iff.mpr h3
  have e0 : decide ((g.length : Int) = 0) = false := decide_eq_false (by omega)
  have hr : (decide (-100000 ≤ (g.length : Int)) && decide ((g.length : Int) ≤ 100000)) = true := by
    rw [decide_eq_true (by omega), decide_eq_true (by omega)]
    rfl
  try simp only [Ev.v0, Ev.vs, Ev.kk, Ev.bin, Ev.cmp, Ev.bok, Ev.ofs, Ev.test, Ev.iteE, Ev.val, Ev.nt, Ev.an, Ev.orE, Ev.tt, Ev.enil, Ev.econs, Ev.tup, Ev.lst, Ev.fz, Ev.cell, Ev.ix, Ev.call, Ev.bi, Ev.bi2, Ev.isi, Ev.m1, Ev.attr, Ev.sl, Ev.lof, Ev.srt, Ev.chain, Ev.gv0, Ev.gvs, Ev.gt, Ev.gnil, Ev.gcons, Ev.asg, Ev.setix, Ev.ex, Ev.ret, Ev.iff, Ev.forr, Ev.snil, Ev.scons, Ev.iseq, Ev.irange, Ev.vwI, Ev.vwS, Ev.vwB, Ev.vwN, Ev.vwL, Ev.vwT, Ev.vwO, Ev.asb, Ev.ckT, Ev.addI, Ev.subI, Ev.ltI, Ev.leI, Ev.gtI, Ev.geI, Ev.eqI, Ev.neI, Ev.intI, Ev.absI, Ev.lenL, Ev.lenT, Ev.lenC, Ev.strS, Ev.tupL, Ev.tupT, Ev.po0, Ev.poi, Ev.slL, Ev.setf, Ev.make, Ev.callk, Ev.meth, Ev.ienum, Ev.dnew, Ev.ddis, Ev.dof, Ev.dcm, Ev.rev1, Ev.dget2, Ev.irev, Ev.lc, Ev.lcf, Ev.forf, Ev.wi0, Ev.wi1, List.set_cons_succ, List.set_cons_zero, Co.bind_assoc, List.map_cons, List.map_nil, List.cons_append, List.nil_append, List.length_cons, List.length_nil, List.replicate_succ, List.replicate_zero, Nat.reduceAdd, Nat.reduceSub, Nat.reduceLeDiff, decide_true, wp_ok, g6, dR, is_seq_lst, List.length_map, e0, Bool.not_true]
  refine wp_then (lcFx_wp (fun _ => .bl true) fun q hq => ?_) fun ys m1 ⟨e1, e2⟩ => ?_
  · obtain ⟨x, hx, rfl⟩ := List.mem_map.mp hq
    try simp only [Ev.v0, Ev.vs, Ev.kk, Ev.bin, Ev.cmp, Ev.bok, Ev.ofs, Ev.test, Ev.iteE, Ev.val, Ev.nt, Ev.an, Ev.orE, Ev.tt, Ev.enil, Ev.econs, Ev.tup, Ev.lst, Ev.fz, Ev.cell, Ev.ix, Ev.call, Ev.bi, Ev.bi2, Ev.isi, Ev.m1, Ev.attr, Ev.sl, Ev.lof, Ev.srt, Ev.chain, Ev.gv0, Ev.gvs, Ev.gt, Ev.gnil, Ev.gcons, Ev.asg, Ev.setix, Ev.ex, Ev.ret, Ev.iff, Ev.forr, Ev.snil, Ev.scons, Ev.iseq, Ev.irange, Ev.vwI, Ev.vwS, Ev.vwB, Ev.vwN, Ev.vwL, Ev.vwT, Ev.vwO, Ev.asb, Ev.ckT, Ev.addI, Ev.subI, Ev.ltI, Ev.leI, Ev.gtI, Ev.geI, Ev.eqI, Ev.neI, Ev.intI, Ev.absI, Ev.lenL, Ev.lenT, Ev.lenC, Ev.strS, Ev.tupL, Ev.tupT, Ev.po0, Ev.poi, Ev.slL, Ev.setf, Ev.make, Ev.callk, Ev.meth, Ev.ienum, Ev.dnew, Ev.ddis, Ev.dof, Ev.dcm, Ev.rev1, Ev.dget2, Ev.irev, Ev.lc, Ev.lcf, Ev.forf, Ev.wi0, Ev.wi1, List.set_cons_succ, List.set_cons_zero, Co.bind_assoc, List.map_cons, List.map_nil, List.cons_append, List.nil_append, List.length_cons, List.length_nil, List.replicate_succ, List.replicate_zero, Nat.reduceAdd, Nat.reduceSub, Nat.reduceLeDiff, decide_true, wp_ok, dR, is_name_ok (h2 x hx)]
  · subst e1 e2
    try simp only [Ev.v0, Ev.vs, Ev.kk, Ev.bin, Ev.cmp, Ev.bok, Ev.ofs, Ev.test, Ev.iteE, Ev.val, Ev.nt, Ev.an, Ev.orE, Ev.tt, Ev.enil, Ev.econs, Ev.tup, Ev.lst, Ev.fz, Ev.cell, Ev.ix, Ev.call, Ev.bi, Ev.bi2, Ev.isi, Ev.m1, Ev.attr, Ev.sl, Ev.lof, Ev.srt, Ev.chain, Ev.gv0, Ev.gvs, Ev.gt, Ev.gnil, Ev.gcons, Ev.asg, Ev.setix, Ev.ex, Ev.ret, Ev.iff, Ev.forr, Ev.snil, Ev.scons, Ev.iseq, Ev.irange, Ev.vwI, Ev.vwS, Ev.vwB, Ev.vwN, Ev.vwL, Ev.vwT, Ev.vwO, Ev.asb, Ev.ckT, Ev.addI, Ev.subI, Ev.ltI, Ev.leI, Ev.gtI, Ev.geI, Ev.eqI, Ev.neI, Ev.intI, Ev.absI, Ev.lenL, Ev.lenT, Ev.lenC, Ev.strS, Ev.tupL, Ev.tupT, Ev.po0, Ev.poi, Ev.slL, Ev.setf, Ev.make, Ev.callk, Ev.meth, Ev.ienum, Ev.dnew, Ev.ddis, Ev.dof, Ev.dcm, Ev.rev1, Ev.dget2, Ev.irev, Ev.lc, Ev.lcf, Ev.forf, Ev.wi0, Ev.wi1, List.set_cons_succ, List.set_cons_zero, Co.bind_assoc, List.map_cons, List.map_nil, List.cons_append, List.nil_append, List.length_cons, List.length_nil, List.replicate_succ, List.replicate_zero, Nat.reduceAdd, Nat.reduceSub, Nat.reduceLeDiff, decide_true, wp_ok, all_true, Bool.not_true, hr, List.length_map]
    refine wp_then (lcFx_wp (fun _ => .bl true) fun q hq => ?_) fun ys m1 ⟨e1, e2⟩ => ?_
    · obtain ⟨i, hi, rfl⟩ := List.mem_map.mp hq
      have hi2 : i < g.length := by
        have := List.mem_range.mp hi
        omega
      have hix : ixop (.lst (g.map .str)) (.int (i : Int)) = some (.str g[i]) := atI_str hi2
      have hsl : slop (.lst (g.map .str)) none (some (i : Int)) = some (.lst ((g.take i).map .str)) := by
        simp only [slop, cut_take (Int.natCast_nonneg i), Int.toNat_natCast, List.map_take]
      have hin : cmpV (DG (n + 1)) .nmem (.str g[i]) (.lst ((g.take i).map .str)) m1 = .ok (.bl true) m1 := by
        obtain ⟨b, c1, c2⟩ := in_pl (n := 0) (k := 0) (a := .str g[i]) (ys := (g.take i).map .str) (by have := pls_all.mp (pls_names h2) (.str g[i]) (List.mem_map.mpr ⟨_, List.getElem_mem hi2, rfl⟩); exact this) (pls_names fun x hx => h2 x (List.mem_of_mem_take hx)) (by decide) (by decide)
        have hb : b = false := int_iff c2 (by
          intro hm
          obtain ⟨x, hx, e⟩ := List.mem_map.mp hm
          injection e with e
          subst e
          exact nodup_take h1 hi2 hx)
        subst hb
        exact cmpV_pl (c1 _ (by first | exact .inl rfl | exact .inr rfl)).2 (by intro _ _ _ e; cases e)
      have hcut : cutP (g.map PV.str) none (some (i : Int)) = (g.take i).map PV.str := by rw [cut_take (Int.natCast_nonneg i), Int.toNat_natCast, List.map_take]
      try simp only [Ev.v0, Ev.vs, Ev.kk, Ev.bin, Ev.cmp, Ev.bok, Ev.ofs, Ev.test, Ev.iteE, Ev.val, Ev.nt, Ev.an, Ev.orE, Ev.tt, Ev.enil, Ev.econs, Ev.tup, Ev.lst, Ev.fz, Ev.cell, Ev.ix, Ev.call, Ev.bi, Ev.bi2, Ev.isi, Ev.m1, Ev.attr, Ev.sl, Ev.lof, Ev.srt, Ev.chain, Ev.gv0, Ev.gvs, Ev.gt, Ev.gnil, Ev.gcons, Ev.asg, Ev.setix, Ev.ex, Ev.ret, Ev.iff, Ev.forr, Ev.snil, Ev.scons, Ev.iseq, Ev.irange, Ev.vwI, Ev.vwS, Ev.vwB, Ev.vwN, Ev.vwL, Ev.vwT, Ev.vwO, Ev.asb, Ev.ckT, Ev.addI, Ev.subI, Ev.ltI, Ev.leI, Ev.gtI, Ev.geI, Ev.eqI, Ev.neI, Ev.intI, Ev.absI, Ev.lenL, Ev.lenT, Ev.lenC, Ev.strS, Ev.tupL, Ev.tupT, Ev.po0, Ev.poi, Ev.slL, Ev.setf, Ev.make, Ev.callk, Ev.meth, Ev.ienum, Ev.dnew, Ev.ddis, Ev.dof, Ev.dcm, Ev.rev1, Ev.dget2, Ev.irev, Ev.lc, Ev.lcf, Ev.forf, Ev.wi0, Ev.wi1, List.set_cons_succ, List.set_cons_zero, Co.bind_assoc, List.map_cons, List.map_nil, List.cons_append, List.nil_append, List.length_cons, List.length_nil, List.replicate_succ, List.replicate_zero, Nat.reduceAdd, Nat.reduceSub, Nat.reduceLeDiff, decide_true, wp_ok, hix, hsl, hcut, hin]
    · subst e1 e2
      try simp only [Ev.v0, Ev.vs, Ev.kk, Ev.bin, Ev.cmp, Ev.bok, Ev.ofs, Ev.test, Ev.iteE, Ev.val, Ev.nt, Ev.an, Ev.orE, Ev.tt, Ev.enil, Ev.econs, Ev.tup, Ev.lst, Ev.fz, Ev.cell, Ev.ix, Ev.call, Ev.bi, Ev.bi2, Ev.isi, Ev.m1, Ev.attr, Ev.sl, Ev.lof, Ev.srt, Ev.chain, Ev.gv0, Ev.gvs, Ev.gt, Ev.gnil, Ev.gcons, Ev.asg, Ev.setix, Ev.ex, Ev.ret, Ev.iff, Ev.forr, Ev.snil, Ev.scons, Ev.iseq, Ev.irange, Ev.vwI, Ev.vwS, Ev.vwB, Ev.vwN, Ev.vwL, Ev.vwT, Ev.vwO, Ev.asb, Ev.ckT, Ev.addI, Ev.subI, Ev.ltI, Ev.leI, Ev.gtI, Ev.geI, Ev.eqI, Ev.neI, Ev.intI, Ev.absI, Ev.lenL, Ev.lenT, Ev.lenC, Ev.strS, Ev.tupL, Ev.tupT, Ev.po0, Ev.poi, Ev.slL, Ev.setf, Ev.make, Ev.callk, Ev.meth, Ev.ienum, Ev.dnew, Ev.ddis, Ev.dof, Ev.dcm, Ev.rev1, Ev.dget2, Ev.irev, Ev.lc, Ev.lcf, Ev.forf, Ev.wi0, Ev.wi1, List.set_cons_succ, List.set_cons_zero, Co.bind_assoc, List.map_cons, List.map_nil, List.cons_append, List.nil_append, List.length_cons, List.length_nil, List.replicate_succ, List.replicate_zero, Nat.reduceAdd, Nat.reduceSub, Nat.reduceLeDiff, decide_true, wp_ok, all_true]
      exact ⟨trivial, trivial⟩
theorem is_group_t {n : Nat} {g : List Str} {m : Mem} (h : NamesOk g) : RG (n + 2) 6 [.tup (g.map .str)] m = .ok (.bl true) m := by
  obtain ⟨h1, h2, h3, h4⟩ := h
  refine wp_eq (call_wp (F := (1, 3, g6 100000)) rfl rfl ?_)
  have hpos : 0 < g.length := List.length_pos_iff.mpr h3
  have e0 : decide ((g.length : Int) = 0) = false := decide_eq_false (by omega)
  have hr : (decide (-100000 ≤ (g.length : Int)) && decide ((g.length : Int) ≤ 100000)) = true := by
    rw [decide_eq_true (by omega), decide_eq_true (by omega)]
    rfl
  try simp only [Ev.v0, Ev.vs, Ev.kk, Ev.bin, Ev.cmp, Ev.bok, Ev.ofs, Ev.test, Ev.iteE, Ev.val, Ev.nt, Ev.an, Ev.orE, Ev.tt, Ev.enil, Ev.econs, Ev.tup, Ev.lst, Ev.fz, Ev.cell, Ev.ix, Ev.call, Ev.bi, Ev.bi2, Ev.isi, Ev.m1, Ev.attr, Ev.sl, Ev.lof, Ev.srt, Ev.chain, Ev.gv0, Ev.gvs, Ev.gt, Ev.gnil, Ev.gcons, Ev.asg, Ev.setix, Ev.ex, Ev.ret, Ev.iff, Ev.forr, Ev.snil, Ev.scons, Ev.iseq, Ev.irange, Ev.vwI, Ev.vwS, Ev.vwB, Ev.vwN, Ev.vwL, Ev.vwT, Ev.vwO, Ev.asb, Ev.ckT, Ev.addI, Ev.subI, Ev.ltI, Ev.leI, Ev.gtI, Ev.geI, Ev.eqI, Ev.neI, Ev.intI, Ev.absI, Ev.lenL, Ev.lenT, Ev.lenC, Ev.strS, Ev.tupL, Ev.tupT, Ev.po0, Ev.poi, Ev.slL, Ev.setf, Ev.make, Ev.callk, Ev.meth, Ev.ienum, Ev.dnew, Ev.ddis, Ev.dof, Ev.dcm, Ev.rev1, Ev.dget2, Ev.irev, Ev.lc, Ev.lcf, Ev.forf, Ev.wi0, Ev.wi1, List.set_cons_succ, List.set_cons_zero, Co.bind_assoc, List.map_cons, List.map_nil, List.cons_append, List.nil_append, List.length_cons, List.length_nil, List.replicate_succ, List.replicate_zero, Nat.reduceAdd, Nat.reduceSub, Nat.reduceLeDiff, decide_true, wp_ok, g6, dR, is_seq_tup, List.length_map, e0, Bool.not_true]
  refine wp_then (lcFx_wp (fun _ => .bl true) fun q hq => ?_) fun ys m1 ⟨e1, e2⟩ => ?_
  · obtain ⟨x, hx, rfl⟩ := List.mem_map.mp hq
    try simp only [Ev.v0, Ev.vs, Ev.kk, Ev.bin, Ev.cmp, Ev.bok, Ev.ofs, Ev.test, Ev.iteE, Ev.val, Ev.nt, Ev.an, Ev.orE, Ev.tt, Ev.enil, Ev.econs, Ev.tup, Ev.lst, Ev.fz, Ev.cell, Ev.ix, Ev.call, Ev.bi, Ev.bi2, Ev.isi, Ev.m1, Ev.attr, Ev.sl, Ev.lof, Ev.srt, Ev.chain, Ev.gv0, Ev.gvs, Ev.gt, Ev.gnil, Ev.gcons, Ev.asg, Ev.setix, Ev.ex, Ev.ret, Ev.iff, Ev.forr, Ev.snil, Ev.scons, Ev.iseq, Ev.irange, Ev.vwI, Ev.vwS, Ev.vwB, Ev.vwN, Ev.vwL, Ev.vwT, Ev.vwO, Ev.asb, Ev.ckT, Ev.addI, Ev.subI, Ev.ltI, Ev.leI, Ev.gtI, Ev.geI, Ev.eqI, Ev.neI, Ev.intI, Ev.absI, Ev.lenL, Ev.lenT, Ev.lenC, Ev.strS, Ev.tupL, Ev.tupT, Ev.po0, Ev.poi, Ev.slL, Ev.setf, Ev.make, Ev.callk, Ev.meth, Ev.ienum, Ev.dnew, Ev.ddis, Ev.dof, Ev.dcm, Ev.rev1, Ev.dget2, Ev.irev, Ev.lc, Ev.lcf, Ev.forf, Ev.wi0, Ev.wi1, List.set_cons_succ, List.set_cons_zero, Co.bind_assoc, List.map_cons, List.map_nil, List.cons_append, List.nil_append, List.length_cons, List.length_nil, List.replicate_succ, List.replicate_zero, Nat.reduceAdd, Nat.reduceSub, Nat.reduceLeDiff, decide_true, wp_ok, dR, is_name_ok (h2 x hx)]
  · subst e1 e2
    try simp only [Ev.v0, Ev.vs, Ev.kk, Ev.bin, Ev.cmp, Ev.bok, Ev.ofs, Ev.test, Ev.iteE, Ev.val, Ev.nt, Ev.an, Ev.orE, Ev.tt, Ev.enil, Ev.econs, Ev.tup, Ev.lst, Ev.fz, Ev.cell, Ev.ix, Ev.call, Ev.bi, Ev.bi2, Ev.isi, Ev.m1, Ev.attr, Ev.sl, Ev.lof, Ev.srt, Ev.chain, Ev.gv0, Ev.gvs, Ev.gt, Ev.gnil, Ev.gcons, Ev.asg, Ev.setix, Ev.ex, Ev.ret, Ev.iff, Ev.forr, Ev.snil, Ev.scons, Ev.iseq, Ev.irange, Ev.vwI, Ev.vwS, Ev.vwB, Ev.vwN, Ev.vwL, Ev.vwT, Ev.vwO, Ev.asb, Ev.ckT, Ev.addI, Ev.subI, Ev.ltI, Ev.leI, Ev.gtI, Ev.geI, Ev.eqI, Ev.neI, Ev.intI, Ev.absI, Ev.lenL, Ev.lenT, Ev.lenC, Ev.strS, Ev.tupL, Ev.tupT, Ev.po0, Ev.poi, Ev.slL, Ev.setf, Ev.make, Ev.callk, Ev.meth, Ev.ienum, Ev.dnew, Ev.ddis, Ev.dof, Ev.dcm, Ev.rev1, Ev.dget2, Ev.irev, Ev.lc, Ev.lcf, Ev.forf, Ev.wi0, Ev.wi1, List.set_cons_succ, List.set_cons_zero, Co.bind_assoc, List.map_cons, List.map_nil, List.cons_append, List.nil_append, List.length_cons, List.length_nil, List.replicate_succ, List.replicate_zero, Nat.reduceAdd, Nat.reduceSub, Nat.reduceLeDiff, decide_true, wp_ok, all_true, Bool.not_true, hr, List.length_map]
    refine wp_then (lcFx_wp (fun _ => .bl true) fun q hq => ?_) fun ys m1 ⟨e1, e2⟩ => ?_
    · obtain ⟨i, hi, rfl⟩ := List.mem_map.mp hq
      have hi2 : i < g.length := by
        have := List.mem_range.mp hi
        omega
      have hix : ixop (.tup (g.map .str)) (.int (i : Int)) = some (.str g[i]) := atI_str hi2
      have hsl : slop (.tup (g.map .str)) none (some (i : Int)) = some (.tup ((g.take i).map .str)) := by
        simp only [slop, cut_take (Int.natCast_nonneg i), Int.toNat_natCast, List.map_take]
      have hin : cmpV (DG (n + 1)) .nmem (.str g[i]) (.tup ((g.take i).map .str)) m1 = .ok (.bl true) m1 := by
        obtain ⟨b, c1, c2⟩ := in_pl (n := 0) (k := 0) (a := .str g[i]) (ys := (g.take i).map .str) (by have := pls_all.mp (pls_names h2) (.str g[i]) (List.mem_map.mpr ⟨_, List.getElem_mem hi2, rfl⟩); exact this) (pls_names fun x hx => h2 x (List.mem_of_mem_take hx)) (by decide) (by decide)
        have hb : b = false := int_iff c2 (by
          intro hm
          obtain ⟨x, hx, e⟩ := List.mem_map.mp hm
          injection e with e
          subst e
          exact nodup_take h1 hi2 hx)
        subst hb
        exact cmpV_pl (c1 _ (by first | exact .inl rfl | exact .inr rfl)).2 (by intro _ _ _ e; cases e)
      have hcut : cutP (g.map PV.str) none (some (i : Int)) = (g.take i).map PV.str := by rw [cut_take (Int.natCast_nonneg i), Int.toNat_natCast, List.map_take]
      try simp only [Ev.v0, Ev.vs, Ev.kk, Ev.bin, Ev.cmp, Ev.bok, Ev.ofs, Ev.test, Ev.iteE, Ev.val, Ev.nt, Ev.an, Ev.orE, Ev.tt, Ev.enil, Ev.econs, Ev.tup, Ev.lst, Ev.fz, Ev.cell, Ev.ix, Ev.call, Ev.bi, Ev.bi2, Ev.isi, Ev.m1, Ev.attr, Ev.sl, Ev.lof, Ev.srt, Ev.chain, Ev.gv0, Ev.gvs, Ev.gt, Ev.gnil, Ev.gcons, Ev.asg, Ev.setix, Ev.ex, Ev.ret, Ev.iff, Ev.forr, Ev.snil, Ev.scons, Ev.iseq, Ev.irange, Ev.vwI, Ev.vwS, Ev.vwB, Ev.vwN, Ev.vwL, Ev.vwT, Ev.vwO, Ev.asb, Ev.ckT, Ev.addI, Ev.subI, Ev.ltI, Ev.leI, Ev.gtI, Ev.geI, Ev.eqI, Ev.neI, Ev.intI, Ev.absI, Ev.lenL, Ev.lenT, Ev.lenC, Ev.strS, Ev.tupL, Ev.tupT, Ev.po0, Ev.poi, Ev.slL, Ev.setf, Ev.make, Ev.callk, Ev.meth, Ev.ienum, Ev.dnew, Ev.ddis, Ev.dof, Ev.dcm, Ev.rev1, Ev.dget2, Ev.irev, Ev.lc, Ev.lcf, Ev.forf, Ev.wi0, Ev.wi1, List.set_cons_succ, List.set_cons_zero, Co.bind_assoc, List.map_cons, List.map_nil, List.cons_append, List.nil_append, List.length_cons, List.length_nil, List.replicate_succ, List.replicate_zero, Nat.reduceAdd, Nat.reduceSub, Nat.reduceLeDiff, decide_true, wp_ok, hix, hsl, hcut, hin]
    · subst e1 e2
      try simp only [Ev.v0, Ev.vs, Ev.kk, Ev.bin, Ev.cmp, Ev.bok, Ev.ofs, Ev.test, Ev.iteE, Ev.val, Ev.nt, Ev.an, Ev.orE, Ev.tt, Ev.enil, Ev.econs, Ev.tup, Ev.lst, Ev.fz, Ev.cell, Ev.ix, Ev.call, Ev.bi, Ev.bi2, Ev.isi, Ev.m1, Ev.attr, Ev.sl, Ev.lof, Ev.srt, Ev.chain, Ev.gv0, Ev.gvs, Ev.gt, Ev.gnil, Ev.gcons, Ev.asg, Ev.setix, Ev.ex, Ev.ret, Ev.iff, Ev.forr, Ev.snil, Ev.scons, Ev.iseq, Ev.irange, Ev.vwI, Ev.vwS, Ev.vwB, Ev.vwN, Ev.vwL, Ev.vwT, Ev.vwO, Ev.asb, Ev.ckT, Ev.addI, Ev.subI, Ev.ltI, Ev.leI, Ev.gtI, Ev.geI, Ev.eqI, Ev.neI, Ev.intI, Ev.absI, Ev.lenL, Ev.lenT, Ev.lenC, Ev.strS, Ev.tupL, Ev.tupT, Ev.po0, Ev.poi, Ev.slL, Ev.setf, Ev.make, Ev.callk, Ev.meth, Ev.ienum, Ev.dnew, Ev.ddis, Ev.dof, Ev.dcm, Ev.rev1, Ev.dget2, Ev.irev, Ev.lc, Ev.lcf, Ev.forf, Ev.wi0, Ev.wi1, List.set_cons_succ, List.set_cons_zero, Co.bind_assoc, List.map_cons, List.map_nil, List.cons_append, List.nil_append, List.length_cons, List.length_nil, List.replicate_succ, List.replicate_zero, Nat.reduceAdd, Nat.reduceSub, Nat.reduceLeDiff, decide_true, wp_ok, all_true]
      exact ⟨trivial, trivial⟩
theorem is_group_ok {n : Nat} {b : Bool} {g : List Str} {m : Mem} (h : NamesOk g) : RG (n + 2) 6 [encB b g] m = .ok (.bl true) m := by
  cases b
  · exact is_group_t h
  · exact is_group_l h
theorem is_share_ok {n : Nat} {b : Bool} {s : Int × List (List Str)} {m : Mem} (h : ShareOk s) : RG (n + 3) 7 [encSB b s] m = .ok (.bl true) m := by
  obtain ⟨w, gs⟩ := s
  refine wp_eq (call_wp (F := (1, 2, g7 100000)) rfl rfl ?_)
  have i1 : isiop (DG (n + 2)).nC .tuple (.tup [.int w, .lst (gs.map (encB b))]) = some true := rfl
  have e0 : decide (((0 + 1 + 1 : Nat) : Int) = 2) = true := rfl
  have e1 : decide (w < 1) = false := decide_eq_false (by have := h.lo; simp only at this; omega)
  try simp only [Ev.v0, Ev.vs, Ev.kk, Ev.bin, Ev.cmp, Ev.bok, Ev.ofs, Ev.test, Ev.iteE, Ev.val, Ev.nt, Ev.an, Ev.orE, Ev.tt, Ev.enil, Ev.econs, Ev.tup, Ev.lst, Ev.fz, Ev.cell, Ev.ix, Ev.call, Ev.bi, Ev.bi2, Ev.isi, Ev.m1, Ev.attr, Ev.sl, Ev.lof, Ev.srt, Ev.chain, Ev.gv0, Ev.gvs, Ev.gt, Ev.gnil, Ev.gcons, Ev.asg, Ev.setix, Ev.ex, Ev.ret, Ev.iff, Ev.forr, Ev.snil, Ev.scons, Ev.iseq, Ev.irange, Ev.vwI, Ev.vwS, Ev.vwB, Ev.vwN, Ev.vwL, Ev.vwT, Ev.vwO, Ev.asb, Ev.ckT, Ev.addI, Ev.subI, Ev.ltI, Ev.leI, Ev.gtI, Ev.geI, Ev.eqI, Ev.neI, Ev.intI, Ev.absI, Ev.lenL, Ev.lenT, Ev.lenC, Ev.strS, Ev.tupL, Ev.tupT, Ev.po0, Ev.poi, Ev.slL, Ev.setf, Ev.make, Ev.callk, Ev.meth, Ev.ienum, Ev.dnew, Ev.ddis, Ev.dof, Ev.dcm, Ev.rev1, Ev.dget2, Ev.irev, Ev.lc, Ev.lcf, Ev.forf, Ev.wi0, Ev.wi1, List.set_cons_succ, List.set_cons_zero, Co.bind_assoc, List.map_cons, List.map_nil, List.cons_append, List.nil_append, List.length_cons, List.length_nil, List.replicate_succ, List.replicate_zero, Nat.reduceAdd, Nat.reduceSub, Nat.reduceLeDiff, decide_true, wp_ok, g7, dR, i1, Option.map_some, Bool.not_true, e0, tix0, tix1, is_integer_ok, e1, is_seq_lst]
  refine wp_then (lcFx_wp (fun _ => .bl true) fun q hq => ?_) fun ys m1 ⟨e1, e2⟩ => ?_
  · obtain ⟨x, hx, rfl⟩ := List.mem_map.mp hq
    try simp only [Ev.v0, Ev.vs, Ev.kk, Ev.bin, Ev.cmp, Ev.bok, Ev.ofs, Ev.test, Ev.iteE, Ev.val, Ev.nt, Ev.an, Ev.orE, Ev.tt, Ev.enil, Ev.econs, Ev.tup, Ev.lst, Ev.fz, Ev.cell, Ev.ix, Ev.call, Ev.bi, Ev.bi2, Ev.isi, Ev.m1, Ev.attr, Ev.sl, Ev.lof, Ev.srt, Ev.chain, Ev.gv0, Ev.gvs, Ev.gt, Ev.gnil, Ev.gcons, Ev.asg, Ev.setix, Ev.ex, Ev.ret, Ev.iff, Ev.forr, Ev.snil, Ev.scons, Ev.iseq, Ev.irange, Ev.vwI, Ev.vwS, Ev.vwB, Ev.vwN, Ev.vwL, Ev.vwT, Ev.vwO, Ev.asb, Ev.ckT, Ev.addI, Ev.subI, Ev.ltI, Ev.leI, Ev.gtI, Ev.geI, Ev.eqI, Ev.neI, Ev.intI, Ev.absI, Ev.lenL, Ev.lenT, Ev.lenC, Ev.strS, Ev.tupL, Ev.tupT, Ev.po0, Ev.poi, Ev.slL, Ev.setf, Ev.make, Ev.callk, Ev.meth, Ev.ienum, Ev.dnew, Ev.ddis, Ev.dof, Ev.dcm, Ev.rev1, Ev.dget2, Ev.irev, Ev.lc, Ev.lcf, Ev.forf, Ev.wi0, Ev.wi1, List.set_cons_succ, List.set_cons_zero, Co.bind_assoc, List.map_cons, List.map_nil, List.cons_append, List.nil_append, List.length_cons, List.length_nil, List.replicate_succ, List.replicate_zero, Nat.reduceAdd, Nat.reduceSub, Nat.reduceLeDiff, decide_true, wp_ok, dR, is_group_ok (h.grp x hx)]
  · subst e1 e2
    try simp only [Ev.v0, Ev.vs, Ev.kk, Ev.bin, Ev.cmp, Ev.bok, Ev.ofs, Ev.test, Ev.iteE, Ev.val, Ev.nt, Ev.an, Ev.orE, Ev.tt, Ev.enil, Ev.econs, Ev.tup, Ev.lst, Ev.fz, Ev.cell, Ev.ix, Ev.call, Ev.bi, Ev.bi2, Ev.isi, Ev.m1, Ev.attr, Ev.sl, Ev.lof, Ev.srt, Ev.chain, Ev.gv0, Ev.gvs, Ev.gt, Ev.gnil, Ev.gcons, Ev.asg, Ev.setix, Ev.ex, Ev.ret, Ev.iff, Ev.forr, Ev.snil, Ev.scons, Ev.iseq, Ev.irange, Ev.vwI, Ev.vwS, Ev.vwB, Ev.vwN, Ev.vwL, Ev.vwT, Ev.vwO, Ev.asb, Ev.ckT, Ev.addI, Ev.subI, Ev.ltI, Ev.leI, Ev.gtI, Ev.geI, Ev.eqI, Ev.neI, Ev.intI, Ev.absI, Ev.lenL, Ev.lenT, Ev.lenC, Ev.strS, Ev.tupL, Ev.tupT, Ev.po0, Ev.poi, Ev.slL, Ev.setf, Ev.make, Ev.callk, Ev.meth, Ev.ienum, Ev.dnew, Ev.ddis, Ev.dof, Ev.dcm, Ev.rev1, Ev.dget2, Ev.irev, Ev.lc, Ev.lcf, Ev.forf, Ev.wi0, Ev.wi1, List.set_cons_succ, List.set_cons_zero, Co.bind_assoc, List.map_cons, List.map_nil, List.cons_append, List.nil_append, List.length_cons, List.length_nil, List.replicate_succ, List.replicate_zero, Nat.reduceAdd, Nat.reduceSub, Nat.reduceLeDiff, decide_true, wp_ok, all_true]
    exact ⟨trivial, trivial⟩
end My

end P_Xb
section P_Xc
set_option Elab.async false
set_option linter.all false
set_option maxRecDepth 100000
set_option maxHeartbeats 2000000
namespace My
open Co
open PySem (Str)
abbrev norG (g : List Str) : PV := .tup ((srtS g).map .str)
abbrev norS (s : Int × List (List Str)) : PV := .tup [.int s.1, .tup (s.2.map norG)]
abbrev shN : Str := sx [115, 104, 97, 114, 101, 115]
/-- the will -/
abbrev objW (ws : List (Int × List (List Str))) : PV := .obj 0 [shN] [.tup (ws.map norS)]
theorem srt_B {b : Bool} {g : List Str} (h : NamesOk g) : srtO (encB b g) = some ((srtS g).map .str) := by
  have hl : g.length < 64 := by have := h.2.2.2; omega
  cases b <;> (show ((g.map PV.str).mapM asStr).bind (fun ss => if ss.length < 64 then some ((srtS ss).map PV.str) else none) = _; rw [texts_map]; show (if g.length < 64 then _ else _) = _; rw [if_pos hl])
def WsOk (ws : List (Int × List (List Str))) : Prop := (∀ s ∈ ws, ShareOk s) ∧ ws ≠ [] ∧ ws.length ≤ 3
theorem init_ok {n p q : Nat} {b : Bool} {m : Mem} {ws : List (Int × List (List Str))} (h : WsOk ws) (hp : m[p]? = some (.lst (ws.map (encSB b)))) (hq : m[q]? = some (.ins 0 [] [])) :
    RG (n + 4) 10 [.ref q, .ref p] m = .ok .non (m.set q (.ins 0 [shN] [.tup (ws.map norS)])) := by
  obtain ⟨h1, h2, h3⟩ := h
  refine wp_eq (call_wp (F := (2, 4, g10 100000)) rfl rfl ?_)
  have hpos : 0 < ws.length := List.length_pos_iff.mpr h2
  have e0 : decide ((ws.length : Int) = 0) = false := decide_eq_false (by omega)
  try simp only [Ev.v0, Ev.vs, Ev.kk, Ev.bin, Ev.cmp, Ev.bok, Ev.ofs, Ev.test, Ev.iteE, Ev.val, Ev.nt, Ev.an, Ev.orE, Ev.tt, Ev.enil, Ev.econs, Ev.tup, Ev.lst, Ev.fz, Ev.cell, Ev.ix, Ev.call, Ev.bi, Ev.bi2, Ev.isi, Ev.m1, Ev.attr, Ev.sl, Ev.lof, Ev.srt, Ev.chain, Ev.gv0, Ev.gvs, Ev.gt, Ev.gnil, Ev.gcons, Ev.asg, Ev.setix, Ev.ex, Ev.ret, Ev.iff, Ev.forr, Ev.snil, Ev.scons, Ev.iseq, Ev.irange, Ev.vwI, Ev.vwS, Ev.vwB, Ev.vwN, Ev.vwL, Ev.vwT, Ev.vwO, Ev.asb, Ev.ckT, Ev.addI, Ev.subI, Ev.ltI, Ev.leI, Ev.gtI, Ev.geI, Ev.eqI, Ev.neI, Ev.intI, Ev.absI, Ev.lenL, Ev.lenT, Ev.lenC, Ev.strS, Ev.tupL, Ev.tupT, Ev.po0, Ev.poi, Ev.slL, Ev.setf, Ev.make, Ev.callk, Ev.meth, Ev.ienum, Ev.dnew, Ev.ddis, Ev.dof, Ev.dcm, Ev.rev1, Ev.dget2, Ev.irev, Ev.lc, Ev.lcf, Ev.forf, Ev.wi0, Ev.wi1, List.set_cons_succ, List.set_cons_zero, Co.bind_assoc, List.map_cons, List.map_nil, List.cons_append, List.nil_append, List.length_cons, List.length_nil, List.replicate_succ, List.replicate_zero, Nat.reduceAdd, Nat.reduceSub, Nat.reduceLeDiff, decide_true, wp_ok, g10, dR, is_seq_ref hp, Ev.lenR hp, hp, List.length_map, e0, Bool.not_true]
  refine wp_then (lcS_enc (fun _ => .bl true) hp (by omega) fun s hs => ?_) fun ys m1 ⟨e1, e2⟩ => ?_
  · try simp only [Ev.v0, Ev.vs, Ev.kk, Ev.bin, Ev.cmp, Ev.bok, Ev.ofs, Ev.test, Ev.iteE, Ev.val, Ev.nt, Ev.an, Ev.orE, Ev.tt, Ev.enil, Ev.econs, Ev.tup, Ev.lst, Ev.fz, Ev.cell, Ev.ix, Ev.call, Ev.bi, Ev.bi2, Ev.isi, Ev.m1, Ev.attr, Ev.sl, Ev.lof, Ev.srt, Ev.chain, Ev.gv0, Ev.gvs, Ev.gt, Ev.gnil, Ev.gcons, Ev.asg, Ev.setix, Ev.ex, Ev.ret, Ev.iff, Ev.forr, Ev.snil, Ev.scons, Ev.iseq, Ev.irange, Ev.vwI, Ev.vwS, Ev.vwB, Ev.vwN, Ev.vwL, Ev.vwT, Ev.vwO, Ev.asb, Ev.ckT, Ev.addI, Ev.subI, Ev.ltI, Ev.leI, Ev.gtI, Ev.geI, Ev.eqI, Ev.neI, Ev.intI, Ev.absI, Ev.lenL, Ev.lenT, Ev.lenC, Ev.strS, Ev.tupL, Ev.tupT, Ev.po0, Ev.poi, Ev.slL, Ev.setf, Ev.make, Ev.callk, Ev.meth, Ev.ienum, Ev.dnew, Ev.ddis, Ev.dof, Ev.dcm, Ev.rev1, Ev.dget2, Ev.irev, Ev.lc, Ev.lcf, Ev.forf, Ev.wi0, Ev.wi1, List.set_cons_succ, List.set_cons_zero, Co.bind_assoc, List.map_cons, List.map_nil, List.cons_append, List.nil_append, List.length_cons, List.length_nil, List.replicate_succ, List.replicate_zero, Nat.reduceAdd, Nat.reduceSub, Nat.reduceLeDiff, decide_true, wp_ok, dR, is_share_ok (h1 s hs)]
  · subst e1 e2
    try simp only [Ev.v0, Ev.vs, Ev.kk, Ev.bin, Ev.cmp, Ev.bok, Ev.ofs, Ev.test, Ev.iteE, Ev.val, Ev.nt, Ev.an, Ev.orE, Ev.tt, Ev.enil, Ev.econs, Ev.tup, Ev.lst, Ev.fz, Ev.cell, Ev.ix, Ev.call, Ev.bi, Ev.bi2, Ev.isi, Ev.m1, Ev.attr, Ev.sl, Ev.lof, Ev.srt, Ev.chain, Ev.gv0, Ev.gvs, Ev.gt, Ev.gnil, Ev.gcons, Ev.asg, Ev.setix, Ev.ex, Ev.ret, Ev.iff, Ev.forr, Ev.snil, Ev.scons, Ev.iseq, Ev.irange, Ev.vwI, Ev.vwS, Ev.vwB, Ev.vwN, Ev.vwL, Ev.vwT, Ev.vwO, Ev.asb, Ev.ckT, Ev.addI, Ev.subI, Ev.ltI, Ev.leI, Ev.gtI, Ev.geI, Ev.eqI, Ev.neI, Ev.intI, Ev.absI, Ev.lenL, Ev.lenT, Ev.lenC, Ev.strS, Ev.tupL, Ev.tupT, Ev.po0, Ev.poi, Ev.slL, Ev.setf, Ev.make, Ev.callk, Ev.meth, Ev.ienum, Ev.dnew, Ev.ddis, Ev.dof, Ev.dcm, Ev.rev1, Ev.dget2, Ev.irev, Ev.lc, Ev.lcf, Ev.forf, Ev.wi0, Ev.wi1, List.set_cons_succ, List.set_cons_zero, Co.bind_assoc, List.map_cons, List.map_nil, List.cons_append, List.nil_append, List.length_cons, List.length_nil, List.replicate_succ, List.replicate_zero, Nat.reduceAdd, Nat.reduceSub, Nat.reduceLeDiff, decide_true, wp_ok, all_true, Bool.not_true, hp]
    refine wp_then (lcS_enc norS hp (by omega) fun s hs => ?_) fun ys m1 ⟨e1, e2⟩ => ?_
    · try simp only [Ev.v0, Ev.vs, Ev.kk, Ev.bin, Ev.cmp, Ev.bok, Ev.ofs, Ev.test, Ev.iteE, Ev.val, Ev.nt, Ev.an, Ev.orE, Ev.tt, Ev.enil, Ev.econs, Ev.tup, Ev.lst, Ev.fz, Ev.cell, Ev.ix, Ev.call, Ev.bi, Ev.bi2, Ev.isi, Ev.m1, Ev.attr, Ev.sl, Ev.lof, Ev.srt, Ev.chain, Ev.gv0, Ev.gvs, Ev.gt, Ev.gnil, Ev.gcons, Ev.asg, Ev.setix, Ev.ex, Ev.ret, Ev.iff, Ev.forr, Ev.snil, Ev.scons, Ev.iseq, Ev.irange, Ev.vwI, Ev.vwS, Ev.vwB, Ev.vwN, Ev.vwL, Ev.vwT, Ev.vwO, Ev.asb, Ev.ckT, Ev.addI, Ev.subI, Ev.ltI, Ev.leI, Ev.gtI, Ev.geI, Ev.eqI, Ev.neI, Ev.intI, Ev.absI, Ev.lenL, Ev.lenT, Ev.lenC, Ev.strS, Ev.tupL, Ev.tupT, Ev.po0, Ev.poi, Ev.slL, Ev.setf, Ev.make, Ev.callk, Ev.meth, Ev.ienum, Ev.dnew, Ev.ddis, Ev.dof, Ev.dcm, Ev.rev1, Ev.dget2, Ev.irev, Ev.lc, Ev.lcf, Ev.forf, Ev.wi0, Ev.wi1, List.set_cons_succ, List.set_cons_zero, Co.bind_assoc, List.map_cons, List.map_nil, List.cons_append, List.nil_append, List.length_cons, List.length_nil, List.replicate_succ, List.replicate_zero, Nat.reduceAdd, Nat.reduceSub, Nat.reduceLeDiff, decide_true, wp_ok, tix0, tix1]
      refine wp_eq (wp_then (lcFx_enc norG fun g hg => ?_) fun ys m1 ⟨e1, e2⟩ => ?_)
      · try simp only [Ev.v0, Ev.vs, Ev.kk, Ev.bin, Ev.cmp, Ev.bok, Ev.ofs, Ev.test, Ev.iteE, Ev.val, Ev.nt, Ev.an, Ev.orE, Ev.tt, Ev.enil, Ev.econs, Ev.tup, Ev.lst, Ev.fz, Ev.cell, Ev.ix, Ev.call, Ev.bi, Ev.bi2, Ev.isi, Ev.m1, Ev.attr, Ev.sl, Ev.lof, Ev.srt, Ev.chain, Ev.gv0, Ev.gvs, Ev.gt, Ev.gnil, Ev.gcons, Ev.asg, Ev.setix, Ev.ex, Ev.ret, Ev.iff, Ev.forr, Ev.snil, Ev.scons, Ev.iseq, Ev.irange, Ev.vwI, Ev.vwS, Ev.vwB, Ev.vwN, Ev.vwL, Ev.vwT, Ev.vwO, Ev.asb, Ev.ckT, Ev.addI, Ev.subI, Ev.ltI, Ev.leI, Ev.gtI, Ev.geI, Ev.eqI, Ev.neI, Ev.intI, Ev.absI, Ev.lenL, Ev.lenT, Ev.lenC, Ev.strS, Ev.tupL, Ev.tupT, Ev.po0, Ev.poi, Ev.slL, Ev.setf, Ev.make, Ev.callk, Ev.meth, Ev.ienum, Ev.dnew, Ev.ddis, Ev.dof, Ev.dcm, Ev.rev1, Ev.dget2, Ev.irev, Ev.lc, Ev.lcf, Ev.forf, Ev.wi0, Ev.wi1, List.set_cons_succ, List.set_cons_zero, Co.bind_assoc, List.map_cons, List.map_nil, List.cons_append, List.nil_append, List.length_cons, List.length_nil, List.replicate_succ, List.replicate_zero, Nat.reduceAdd, Nat.reduceSub, Nat.reduceLeDiff, decide_true, wp_ok, encB_vw, srt_B ((h1 s hs).grp g hg)]
      · subst e1 e2
        try simp only [Ev.v0, Ev.vs, Ev.kk, Ev.bin, Ev.cmp, Ev.bok, Ev.ofs, Ev.test, Ev.iteE, Ev.val, Ev.nt, Ev.an, Ev.orE, Ev.tt, Ev.enil, Ev.econs, Ev.tup, Ev.lst, Ev.fz, Ev.cell, Ev.ix, Ev.call, Ev.bi, Ev.bi2, Ev.isi, Ev.m1, Ev.attr, Ev.sl, Ev.lof, Ev.srt, Ev.chain, Ev.gv0, Ev.gvs, Ev.gt, Ev.gnil, Ev.gcons, Ev.asg, Ev.setix, Ev.ex, Ev.ret, Ev.iff, Ev.forr, Ev.snil, Ev.scons, Ev.iseq, Ev.irange, Ev.vwI, Ev.vwS, Ev.vwB, Ev.vwN, Ev.vwL, Ev.vwT, Ev.vwO, Ev.asb, Ev.ckT, Ev.addI, Ev.subI, Ev.ltI, Ev.leI, Ev.gtI, Ev.geI, Ev.eqI, Ev.neI, Ev.intI, Ev.absI, Ev.lenL, Ev.lenT, Ev.lenC, Ev.strS, Ev.tupL, Ev.tupT, Ev.po0, Ev.poi, Ev.slL, Ev.setf, Ev.make, Ev.callk, Ev.meth, Ev.ienum, Ev.dnew, Ev.ddis, Ev.dof, Ev.dcm, Ev.rev1, Ev.dget2, Ev.irev, Ev.lc, Ev.lcf, Ev.forf, Ev.wi0, Ev.wi1, List.set_cons_succ, List.set_cons_zero, Co.bind_assoc, List.map_cons, List.map_nil, List.cons_append, List.nil_append, List.length_cons, List.length_nil, List.replicate_succ, List.replicate_zero, Nat.reduceAdd, Nat.reduceSub, Nat.reduceLeDiff, decide_true, wp_ok]
        exact ⟨trivial, trivial⟩
    · subst e1 e2
      have hbel : below q (.tup (ws.map norS)) = true := by
        have hw : ∀ (ws : List (Int × List (List Str))), belows q (ws.map norS) = true := fun ws => by
          induction ws with
          | nil => rfl
          | cons s r ih =>
            have hg : ∀ gs : List (List Str), belows q (gs.map norG) = true := fun gs => by
              induction gs with
              | nil => rfl
              | cons g gs ih =>
                have hx : ∀ l : List Str, belows q (l.map .str) = true := fun l => by
                  induction l with
                  | nil => rfl
                  | cons a l ih => rw [List.map_cons]; simp only [belows, below, ih, Bool.and_self]
                rw [List.map_cons]
                simp only [belows, below, ih, hx, Bool.and_self]
            rw [List.map_cons]
            simp only [belows, below, ih, hg, Bool.and_self]
        simpa [below] using hw ws
      have hset : setfO (DG (n + 3)) (.tup (ws.map norS)) (.ref q) shN m1 = .ok () (m1.set q (.ins 0 [shN] [.tup (ws.map norS)])) := by
        simp only [setfO, hq, hbel]
        rfl
      try simp only [Ev.v0, Ev.vs, Ev.kk, Ev.bin, Ev.cmp, Ev.bok, Ev.ofs, Ev.test, Ev.iteE, Ev.val, Ev.nt, Ev.an, Ev.orE, Ev.tt, Ev.enil, Ev.econs, Ev.tup, Ev.lst, Ev.fz, Ev.cell, Ev.ix, Ev.call, Ev.bi, Ev.bi2, Ev.isi, Ev.m1, Ev.attr, Ev.sl, Ev.lof, Ev.srt, Ev.chain, Ev.gv0, Ev.gvs, Ev.gt, Ev.gnil, Ev.gcons, Ev.asg, Ev.setix, Ev.ex, Ev.ret, Ev.iff, Ev.forr, Ev.snil, Ev.scons, Ev.iseq, Ev.irange, Ev.vwI, Ev.vwS, Ev.vwB, Ev.vwN, Ev.vwL, Ev.vwT, Ev.vwO, Ev.asb, Ev.ckT, Ev.addI, Ev.subI, Ev.ltI, Ev.leI, Ev.gtI, Ev.geI, Ev.eqI, Ev.neI, Ev.intI, Ev.absI, Ev.lenL, Ev.lenT, Ev.lenC, Ev.strS, Ev.tupL, Ev.tupT, Ev.po0, Ev.poi, Ev.slL, Ev.setf, Ev.make, Ev.callk, Ev.meth, Ev.ienum, Ev.dnew, Ev.ddis, Ev.dof, Ev.dcm, Ev.rev1, Ev.dget2, Ev.irev, Ev.lc, Ev.lcf, Ev.forf, Ev.wi0, Ev.wi1, List.set_cons_succ, List.set_cons_zero, Co.bind_assoc, List.map_cons, List.map_nil, List.cons_append, List.nil_append, List.length_cons, List.length_nil, List.replicate_succ, List.replicate_zero, Nat.reduceAdd, Nat.reduceSub, Nat.reduceLeDiff, decide_true, wp_ok, hset]
      exact ⟨trivial, trivial⟩
theorem init_lst {n q : Nat} {b : Bool} {m : Mem} {ws : List (Int × List (List Str))} (h : WsOk ws) (hq : m[q]? = some (.ins 0 [] [])) :
    RG (n + 4) 10 [.ref q, .lst (ws.map (encSB b))] m = .ok .non (m.set q (.ins 0 [shN] [.tup (ws.map norS)])) := by
  obtain ⟨h1, h2, h3⟩ := h
  refine wp_eq (call_wp (F := (2, 4, g10 100000)) rfl rfl ?_)
  have hpos : 0 < ws.length := List.length_pos_iff.mpr h2
  have e0 : decide ((ws.length : Int) = 0) = false := decide_eq_false (by omega)
  try simp only [Ev.v0, Ev.vs, Ev.kk, Ev.bin, Ev.cmp, Ev.bok, Ev.ofs, Ev.test, Ev.iteE, Ev.val, Ev.nt, Ev.an, Ev.orE, Ev.tt, Ev.enil, Ev.econs, Ev.tup, Ev.lst, Ev.fz, Ev.cell, Ev.ix, Ev.call, Ev.bi, Ev.bi2, Ev.isi, Ev.m1, Ev.attr, Ev.sl, Ev.lof, Ev.srt, Ev.chain, Ev.gv0, Ev.gvs, Ev.gt, Ev.gnil, Ev.gcons, Ev.asg, Ev.setix, Ev.ex, Ev.ret, Ev.iff, Ev.forr, Ev.snil, Ev.scons, Ev.iseq, Ev.irange, Ev.vwI, Ev.vwS, Ev.vwB, Ev.vwN, Ev.vwL, Ev.vwT, Ev.vwO, Ev.asb, Ev.ckT, Ev.addI, Ev.subI, Ev.ltI, Ev.leI, Ev.gtI, Ev.geI, Ev.eqI, Ev.neI, Ev.intI, Ev.absI, Ev.lenL, Ev.lenT, Ev.lenC, Ev.strS, Ev.tupL, Ev.tupT, Ev.po0, Ev.poi, Ev.slL, Ev.setf, Ev.make, Ev.callk, Ev.meth, Ev.ienum, Ev.dnew, Ev.ddis, Ev.dof, Ev.dcm, Ev.rev1, Ev.dget2, Ev.irev, Ev.lc, Ev.lcf, Ev.forf, Ev.wi0, Ev.wi1, List.set_cons_succ, List.set_cons_zero, Co.bind_assoc, List.map_cons, List.map_nil, List.cons_append, List.nil_append, List.length_cons, List.length_nil, List.replicate_succ, List.replicate_zero, Nat.reduceAdd, Nat.reduceSub, Nat.reduceLeDiff, decide_true, wp_ok, g10, dR, is_seq_lst, List.length_map, e0, Bool.not_true]
  refine wp_then (lcFx_enc (fun _ => .bl true) fun s hs => ?_) fun ys m1 ⟨e1, e2⟩ => ?_
  · try simp only [Ev.v0, Ev.vs, Ev.kk, Ev.bin, Ev.cmp, Ev.bok, Ev.ofs, Ev.test, Ev.iteE, Ev.val, Ev.nt, Ev.an, Ev.orE, Ev.tt, Ev.enil, Ev.econs, Ev.tup, Ev.lst, Ev.fz, Ev.cell, Ev.ix, Ev.call, Ev.bi, Ev.bi2, Ev.isi, Ev.m1, Ev.attr, Ev.sl, Ev.lof, Ev.srt, Ev.chain, Ev.gv0, Ev.gvs, Ev.gt, Ev.gnil, Ev.gcons, Ev.asg, Ev.setix, Ev.ex, Ev.ret, Ev.iff, Ev.forr, Ev.snil, Ev.scons, Ev.iseq, Ev.irange, Ev.vwI, Ev.vwS, Ev.vwB, Ev.vwN, Ev.vwL, Ev.vwT, Ev.vwO, Ev.asb, Ev.ckT, Ev.addI, Ev.subI, Ev.ltI, Ev.leI, Ev.gtI, Ev.geI, Ev.eqI, Ev.neI, Ev.intI, Ev.absI, Ev.lenL, Ev.lenT, Ev.lenC, Ev.strS, Ev.tupL, Ev.tupT, Ev.po0, Ev.poi, Ev.slL, Ev.setf, Ev.make, Ev.callk, Ev.meth, Ev.ienum, Ev.dnew, Ev.ddis, Ev.dof, Ev.dcm, Ev.rev1, Ev.dget2, Ev.irev, Ev.lc, Ev.lcf, Ev.forf, Ev.wi0, Ev.wi1, List.set_cons_succ, List.set_cons_zero, Co.bind_assoc, List.map_cons, List.map_nil, List.cons_append, List.nil_append, List.length_cons, List.length_nil, List.replicate_succ, List.replicate_zero, Nat.reduceAdd, Nat.reduceSub, Nat.reduceLeDiff, decide_true, wp_ok, dR, is_share_ok (h1 s hs)]
  · subst e1 e2
    try simp only [Ev.v0, Ev.vs, Ev.kk, Ev.bin, Ev.cmp, Ev.bok, Ev.ofs, Ev.test, Ev.iteE, Ev.val, Ev.nt, Ev.an, Ev.orE, Ev.tt, Ev.enil, Ev.econs, Ev.tup, Ev.lst, Ev.fz, Ev.cell, Ev.ix, Ev.call, Ev.bi, Ev.bi2, Ev.isi, Ev.m1, Ev.attr, Ev.sl, Ev.lof, Ev.srt, Ev.chain, Ev.gv0, Ev.gvs, Ev.gt, Ev.gnil, Ev.gcons, Ev.asg, Ev.setix, Ev.ex, Ev.ret, Ev.iff, Ev.forr, Ev.snil, Ev.scons, Ev.iseq, Ev.irange, Ev.vwI, Ev.vwS, Ev.vwB, Ev.vwN, Ev.vwL, Ev.vwT, Ev.vwO, Ev.asb, Ev.ckT, Ev.addI, Ev.subI, Ev.ltI, Ev.leI, Ev.gtI, Ev.geI, Ev.eqI, Ev.neI, Ev.intI, Ev.absI, Ev.lenL, Ev.lenT, Ev.lenC, Ev.strS, Ev.tupL, Ev.tupT, Ev.po0, Ev.poi, Ev.slL, Ev.setf, Ev.make, Ev.callk, Ev.meth, Ev.ienum, Ev.dnew, Ev.ddis, Ev.dof, Ev.dcm, Ev.rev1, Ev.dget2, Ev.irev, Ev.lc, Ev.lcf, Ev.forf, Ev.wi0, Ev.wi1, List.set_cons_succ, List.set_cons_zero, Co.bind_assoc, List.map_cons, List.map_nil, List.cons_append, List.nil_append, List.length_cons, List.length_nil, List.replicate_succ, List.replicate_zero, Nat.reduceAdd, Nat.reduceSub, Nat.reduceLeDiff, decide_true, wp_ok, all_true, Bool.not_true]
    refine wp_then (lcFx_enc norS fun s hs => ?_) fun ys m1 ⟨e1, e2⟩ => ?_
    · try simp only [Ev.v0, Ev.vs, Ev.kk, Ev.bin, Ev.cmp, Ev.bok, Ev.ofs, Ev.test, Ev.iteE, Ev.val, Ev.nt, Ev.an, Ev.orE, Ev.tt, Ev.enil, Ev.econs, Ev.tup, Ev.lst, Ev.fz, Ev.cell, Ev.ix, Ev.call, Ev.bi, Ev.bi2, Ev.isi, Ev.m1, Ev.attr, Ev.sl, Ev.lof, Ev.srt, Ev.chain, Ev.gv0, Ev.gvs, Ev.gt, Ev.gnil, Ev.gcons, Ev.asg, Ev.setix, Ev.ex, Ev.ret, Ev.iff, Ev.forr, Ev.snil, Ev.scons, Ev.iseq, Ev.irange, Ev.vwI, Ev.vwS, Ev.vwB, Ev.vwN, Ev.vwL, Ev.vwT, Ev.vwO, Ev.asb, Ev.ckT, Ev.addI, Ev.subI, Ev.ltI, Ev.leI, Ev.gtI, Ev.geI, Ev.eqI, Ev.neI, Ev.intI, Ev.absI, Ev.lenL, Ev.lenT, Ev.lenC, Ev.strS, Ev.tupL, Ev.tupT, Ev.po0, Ev.poi, Ev.slL, Ev.setf, Ev.make, Ev.callk, Ev.meth, Ev.ienum, Ev.dnew, Ev.ddis, Ev.dof, Ev.dcm, Ev.rev1, Ev.dget2, Ev.irev, Ev.lc, Ev.lcf, Ev.forf, Ev.wi0, Ev.wi1, List.set_cons_succ, List.set_cons_zero, Co.bind_assoc, List.map_cons, List.map_nil, List.cons_append, List.nil_append, List.length_cons, List.length_nil, List.replicate_succ, List.replicate_zero, Nat.reduceAdd, Nat.reduceSub, Nat.reduceLeDiff, decide_true, wp_ok, tix0, tix1]
      refine wp_eq (wp_then (lcFx_enc norG fun g hg => ?_) fun ys m1 ⟨e1, e2⟩ => ?_)
      · try simp only [Ev.v0, Ev.vs, Ev.kk, Ev.bin, Ev.cmp, Ev.bok, Ev.ofs, Ev.test, Ev.iteE, Ev.val, Ev.nt, Ev.an, Ev.orE, Ev.tt, Ev.enil, Ev.econs, Ev.tup, Ev.lst, Ev.fz, Ev.cell, Ev.ix, Ev.call, Ev.bi, Ev.bi2, Ev.isi, Ev.m1, Ev.attr, Ev.sl, Ev.lof, Ev.srt, Ev.chain, Ev.gv0, Ev.gvs, Ev.gt, Ev.gnil, Ev.gcons, Ev.asg, Ev.setix, Ev.ex, Ev.ret, Ev.iff, Ev.forr, Ev.snil, Ev.scons, Ev.iseq, Ev.irange, Ev.vwI, Ev.vwS, Ev.vwB, Ev.vwN, Ev.vwL, Ev.vwT, Ev.vwO, Ev.asb, Ev.ckT, Ev.addI, Ev.subI, Ev.ltI, Ev.leI, Ev.gtI, Ev.geI, Ev.eqI, Ev.neI, Ev.intI, Ev.absI, Ev.lenL, Ev.lenT, Ev.lenC, Ev.strS, Ev.tupL, Ev.tupT, Ev.po0, Ev.poi, Ev.slL, Ev.setf, Ev.make, Ev.callk, Ev.meth, Ev.ienum, Ev.dnew, Ev.ddis, Ev.dof, Ev.dcm, Ev.rev1, Ev.dget2, Ev.irev, Ev.lc, Ev.lcf, Ev.forf, Ev.wi0, Ev.wi1, List.set_cons_succ, List.set_cons_zero, Co.bind_assoc, List.map_cons, List.map_nil, List.cons_append, List.nil_append, List.length_cons, List.length_nil, List.replicate_succ, List.replicate_zero, Nat.reduceAdd, Nat.reduceSub, Nat.reduceLeDiff, decide_true, wp_ok, encB_vw, srt_B ((h1 s hs).grp g hg)]
      · subst e1 e2
        try simp only [Ev.v0, Ev.vs, Ev.kk, Ev.bin, Ev.cmp, Ev.bok, Ev.ofs, Ev.test, Ev.iteE, Ev.val, Ev.nt, Ev.an, Ev.orE, Ev.tt, Ev.enil, Ev.econs, Ev.tup, Ev.lst, Ev.fz, Ev.cell, Ev.ix, Ev.call, Ev.bi, Ev.bi2, Ev.isi, Ev.m1, Ev.attr, Ev.sl, Ev.lof, Ev.srt, Ev.chain, Ev.gv0, Ev.gvs, Ev.gt, Ev.gnil, Ev.gcons, Ev.asg, Ev.setix, Ev.ex, Ev.ret, Ev.iff, Ev.forr, Ev.snil, Ev.scons, Ev.iseq, Ev.irange, Ev.vwI, Ev.vwS, Ev.vwB, Ev.vwN, Ev.vwL, Ev.vwT, Ev.vwO, Ev.asb, Ev.ckT, Ev.addI, Ev.subI, Ev.ltI, Ev.leI, Ev.gtI, Ev.geI, Ev.eqI, Ev.neI, Ev.intI, Ev.absI, Ev.lenL, Ev.lenT, Ev.lenC, Ev.strS, Ev.tupL, Ev.tupT, Ev.po0, Ev.poi, Ev.slL, Ev.setf, Ev.make, Ev.callk, Ev.meth, Ev.ienum, Ev.dnew, Ev.ddis, Ev.dof, Ev.dcm, Ev.rev1, Ev.dget2, Ev.irev, Ev.lc, Ev.lcf, Ev.forf, Ev.wi0, Ev.wi1, List.set_cons_succ, List.set_cons_zero, Co.bind_assoc, List.map_cons, List.map_nil, List.cons_append, List.nil_append, List.length_cons, List.length_nil, List.replicate_succ, List.replicate_zero, Nat.reduceAdd, Nat.reduceSub, Nat.reduceLeDiff, decide_true, wp_ok]
        exact ⟨trivial, trivial⟩
    · subst e1 e2
      have hbel : below q (.tup (ws.map norS)) = true := by
        have hw : ∀ (ws : List (Int × List (List Str))), belows q (ws.map norS) = true := fun ws => by
          induction ws with
          | nil => rfl
          | cons s r ih =>
            have hg : ∀ gs : List (List Str), belows q (gs.map norG) = true := fun gs => by
              induction gs with
              | nil => rfl
              | cons g gs ih =>
                have hx : ∀ l : List Str, belows q (l.map .str) = true := fun l => by
                  induction l with
                  | nil => rfl
                  | cons a l ih => rw [List.map_cons]; simp only [belows, below, ih, Bool.and_self]
                rw [List.map_cons]
                simp only [belows, below, ih, hx, Bool.and_self]
            rw [List.map_cons]
            simp only [belows, below, ih, hg, Bool.and_self]
        simpa [below] using hw ws
      have hset : setfO (DG (n + 3)) (.tup (ws.map norS)) (.ref q) shN m1 = .ok () (m1.set q (.ins 0 [shN] [.tup (ws.map norS)])) := by
        simp only [setfO, hq, hbel]
        rfl
      try simp only [Ev.v0, Ev.vs, Ev.kk, Ev.bin, Ev.cmp, Ev.bok, Ev.ofs, Ev.test, Ev.iteE, Ev.val, Ev.nt, Ev.an, Ev.orE, Ev.tt, Ev.enil, Ev.econs, Ev.tup, Ev.lst, Ev.fz, Ev.cell, Ev.ix, Ev.call, Ev.bi, Ev.bi2, Ev.isi, Ev.m1, Ev.attr, Ev.sl, Ev.lof, Ev.srt, Ev.chain, Ev.gv0, Ev.gvs, Ev.gt, Ev.gnil, Ev.gcons, Ev.asg, Ev.setix, Ev.ex, Ev.ret, Ev.iff, Ev.forr, Ev.snil, Ev.scons, Ev.iseq, Ev.irange, Ev.vwI, Ev.vwS, Ev.vwB, Ev.vwN, Ev.vwL, Ev.vwT, Ev.vwO, Ev.asb, Ev.ckT, Ev.addI, Ev.subI, Ev.ltI, Ev.leI, Ev.gtI, Ev.geI, Ev.eqI, Ev.neI, Ev.intI, Ev.absI, Ev.lenL, Ev.lenT, Ev.lenC, Ev.strS, Ev.tupL, Ev.tupT, Ev.po0, Ev.poi, Ev.slL, Ev.setf, Ev.make, Ev.callk, Ev.meth, Ev.ienum, Ev.dnew, Ev.ddis, Ev.dof, Ev.dcm, Ev.rev1, Ev.dget2, Ev.irev, Ev.lc, Ev.lcf, Ev.forf, Ev.wi0, Ev.wi1, List.set_cons_succ, List.set_cons_zero, Co.bind_assoc, List.map_cons, List.map_nil, List.cons_append, List.nil_append, List.length_cons, List.length_nil, List.replicate_succ, List.replicate_zero, Nat.reduceAdd, Nat.reduceSub, Nat.reduceLeDiff, decide_true, wp_ok, hset]
      exact ⟨trivial, trivial⟩
theorem mk_ok {n p : Nat} {b : Bool} {m : Mem} {ws : List (Int × List (List Str))} (h : WsOk ws) (hp : m[p]? = some (.lst (ws.map (encSB b)))) :
    (DG (n + 4)).call 10 [.ref m.length, .ref p] (m ++ [Cell.ins 0 [] []]) = .ok .non ((m ++ [Cell.ins 0 [] []]).set m.length (.ins 0 [shN] [.tup (ws.map norS)])) :=
  init_ok h (by rw [List.getElem?_append_left (List.getElem?_eq_some_iff.mp hp).1]; exact hp) (by simp)
theorem mk_lst {n : Nat} {b : Bool} {m : Mem} {ws : List (Int × List (List Str))} (h : WsOk ws) :
    (DG (n + 4)).call 10 [.ref m.length, .lst (ws.map (encSB b))] (m ++ [Cell.ins 0 [] []]) = .ok .non ((m ++ [Cell.ins 0 [] []]).set m.length (.ins 0 [shN] [.tup (ws.map norS)])) :=
  init_lst h (by simp)
theorem made_ok {m : Mem} {ws : List (Int × List (List Str))} : madeO m.length .non ((m ++ [Cell.ins 0 [] []]).set m.length (.ins 0 [shN] [.tup (ws.map norS)])) = .ok (objW ws) m := by
  unfold madeO
  dsimp only
  rw [List.getElem?_set_self (by simp)]
  dsimp only
  rw [List.take_set_of_le (Nat.le_refl _), List.take_left' rfl]
end My

end P_Xc
section P_Xd
set_option Elab.async false
set_option linter.all false
set_option maxRecDepth 100000
set_option maxHeartbeats 2000000
namespace My
open Co
open PySem (Str Txt.split Txt.partition Txt.join)
/-! ### texts -/
def dig (w : Int) : Str := sx [48 + w.toNat]
theorem str_w {D : Cl} {w : Int} {m : Mem} (h1 : 1 ≤ w) (h4 : w ≤ 9) : biO D .str (.int w) m = .ok (.str (dig w)) m := by
  have : w = 1 ∨ w = 2 ∨ w = 3 ∨ w = 4 ∨ w = 5 ∨ w = 6 ∨ w = 7 ∨ w = 8 ∨ w = 9 := by omega
  rcases this with rfl | rfl | rfl | rfl | rfl | rfl | rfl | rfl | rfl <;> kernel_rfl
theorem number_ok {n : Nat} {w : Int} {m : Mem} (h1 : 1 ≤ w) (h4 : w ≤ 9) : RG (n + 1) 5 [.str (dig w), .int 6] m = .ok (.int w) m := by
  have : w = 1 ∨ w = 2 ∨ w = 3 ∨ w = 4 ∨ w = 5 ∨ w = 6 ∨ w = 7 ∨ w = 8 ∨ w = 9 := by omega
  rcases this with rfl | rfl | rfl | rfl | rfl | rfl | rfl | rfl | rfl <;> kernel_rfl
abbrev pls_ : Str := sx [43]
abbrev gt_ : Str := sx [32, 62, 32]
abbrev bar_ : Str := sx [32, 124, 32]
abbrev sp_ : Str := sx [32]
def gText (g : List Str) : Str := Str.join pls_ g
def gsText (gs : List (List Str)) : Str := Str.join gt_ (gs.map gText)
def sText (s : Int × List (List Str)) : Str := match s.2 with
  | [] => dig s.1
  | g :: gs => dig s.1 ++ sp_ ++ gsText (g :: gs)
def wText (ws : List (Int × List (List Str))) : Str := Str.join bar_ (ws.map sText)
theorem join_len (sep : Str) (xs : List Str) (k : Nat) (h : ∀ x ∈ xs, x.length ≤ k) : (Str.join sep xs).length ≤ xs.length * (k + sep.length) := by
  have h1 := PySem.StrLaws.join_length_le sep xs
  have h2 := PySem.StrLaws.sumLen_le xs h
  rw [Nat.mul_add]
  omega
theorem name_len {x : Str} (h : nameB x = true) : 0 < x.length ∧ x.length ≤ 5 := by
  unfold nameB at h
  simp only [Bool.and_eq_true, decide_eq_true_eq] at h
  omega
theorem name_chars {x : Str} (h : nameB x = true) : ∀ c ∈ Tx.tl x, 97 ≤ c ∧ c ≤ 122 := by
  unfold nameB at h
  simp only [Bool.and_eq_true, decide_eq_true_eq, List.all_eq_true] at h
  exact h.1.2
theorem gText_len {g : List Str} (h : NamesOk g) : (gText g).length ≤ 54 := by
  have h1 := join_len pls_ g 5 fun x hx => (name_len (h.2.1 x hx)).2
  have h2 : g.length * (5 + (pls_).length) ≤ 9 * 6 := Nat.mul_le_mul_right 6 h.2.2.2
  exact Nat.le_trans h1 h2
theorem gsText_len {gs : List (List Str)} (h : ∀ g ∈ gs, NamesOk g) (hl : gs.length ≤ 3) : (gsText gs).length ≤ 171 := by
  have := join_len gt_ (gs.map gText) 54 (by
    intro x hx
    obtain ⟨g, hg, rfl⟩ := List.mem_map.mp hx
    exact gText_len (h g hg))
  have e : (gt_).length = 3 := rfl
  rw [e, List.length_map] at this
  unfold gsText
  have : gs.length * (54 + 3) ≤ 3 * 57 := Nat.mul_le_mul_right 57 hl
  omega
theorem sText_len {s : Int × List (List Str)} (h : ShareOk s) : (sText s).length ≤ 173 := by
  obtain ⟨w, gs⟩ := s
  unfold sText
  cases gs with
  | nil => show (dig w).length ≤ 173; show 1 ≤ 173; decide
  | cons g gs =>
    have h1 : (gsText (g :: gs)).length ≤ 171 := gsText_len h.grp h.few
    show (dig w ++ sp_ ++ gsText (g :: gs)).length ≤ 173
    rw [PySem.Str.length_append, PySem.Str.length_append]
    have e1 : (dig w).length = 1 := rfl
    have e2 : (sp_).length = 1 := rfl
    omega
theorem one_pls : Tx.OneAt pls_ 43 0 := ⟨rfl, fun t h => by rcases t with _ | t <;> simp [Tx.tl] at h ⊢⟩
theorem one_sp : Tx.OneAt sp_ 32 0 := ⟨rfl, fun t h => by rcases t with _ | t <;> simp [Tx.tl] at h ⊢⟩
theorem one_gt : Tx.OneAt gt_ 62 1 := ⟨rfl, fun t h => by rcases t with _ | _ | _ | t <;> simp [Tx.tl] at h ⊢⟩
theorem one_bar : Tx.OneAt bar_ 124 1 := ⟨rfl, fun t h => by rcases t with _ | _ | _ | t <;> simp [Tx.tl] at h ⊢⟩
theorem join_chars {sep : Str} : ∀ {xs : List Str} {c : Nat}, c ∈ Tx.tl (Str.join sep xs) → c ∈ Tx.tl sep ∨ ∃ x ∈ xs, c ∈ Tx.tl x
  | [], c, h => by simp [Str.join, Str.empty, Tx.tl] at h
  | [x], c, h => .inr ⟨x, by simp, h⟩
  | x :: y :: r, c, h => by
    rw [Tx.tl_join_cons] at h
    rcases List.mem_append.mp h with h | h
    · exact .inr ⟨x, by simp, h⟩
    · rcases List.mem_append.mp h with h | h
      · exact .inl h
      · rcases join_chars h with h | ⟨z, hz, h⟩
        · exact .inl h
        · exact .inr ⟨z, List.mem_cons_of_mem _ hz, h⟩
theorem gText_chars {g : List Str} (h : NamesOk g) : ∀ c ∈ Tx.tl (gText g), c = 43 ∨ (97 ≤ c ∧ c ≤ 122) := fun c hc => by
  rcases join_chars hc with h1 | ⟨x, hx, h1⟩
  · exact .inl (by simpa [Tx.tl] using h1)
  · exact .inr (name_chars (h.2.1 x hx) c h1)
theorem gsText_chars {gs : List (List Str)} (h : ∀ g ∈ gs, NamesOk g) : ∀ c ∈ Tx.tl (gsText gs), c = 32 ∨ c = 62 ∨ c = 43 ∨ (97 ≤ c ∧ c ≤ 122) := fun c hc => by
  rcases join_chars hc with h1 | ⟨x, hx, h1⟩
  · have : c = 32 ∨ c = 62 ∨ c = 32 := by simpa [Tx.tl] using h1
    omega
  · obtain ⟨g, hg, rfl⟩ := List.mem_map.mp hx
    have := gText_chars (h g hg) c h1
    omega
theorem dig_chars {w : Int} (h1 : 1 ≤ w) (h4 : w ≤ 9) : ∀ c ∈ Tx.tl (dig w), 49 ≤ c ∧ c ≤ 57 := fun c hc => by
  have : c = 48 + w.toNat := by simpa [Tx.tl, dig] using hc
  omega
theorem sText_chars {s : Int × List (List Str)} (h : ShareOk s) : ∀ c ∈ Tx.tl (sText s), c ≠ 124 := fun c hc => by
  obtain ⟨w, gs⟩ := s
  unfold sText at hc
  cases gs with
  | nil =>
    have := dig_chars h.lo h.hi c hc
    omega
  | cons g gs =>
    have hc : c ∈ Tx.tl (dig w ++ sp_ ++ gsText (g :: gs)) := hc
    rw [Tx.tl_app, Tx.tl_app] at hc
    rcases List.mem_append.mp hc with hc | hc
    · rcases List.mem_append.mp hc with hc | hc
      · have := dig_chars h.lo h.hi c hc
        omega
      · have : c = 32 := by simpa [Tx.tl] using hc
        omega
    · have := gsText_chars h.grp c hc
      omega
theorem split_g {g : List Str} (h : NamesOk g) : PySem.Txt.split (gText g) pls_ = g :=
  Tx.split_join one_pls (by decide +kernel) h.2.2.1 fun x hx hc => by
    have := name_chars (h.2.1 x hx) _ hc
    omega
theorem split_gs {gs : List (List Str)} (h : ∀ g ∈ gs, NamesOk g) (hn : gs ≠ []) : PySem.Txt.split (gsText gs) gt_ = gs.map gText :=
  Tx.split_join one_gt (by decide +kernel) (by simpa using hn) fun x hx hc => by
    obtain ⟨g, hg, rfl⟩ := List.mem_map.mp hx
    have := gText_chars (h g hg) _ hc
    omega
theorem split_w {ws : List (Int × List (List Str))} (h : WsOk ws) : PySem.Txt.split (wText ws) bar_ = ws.map sText :=
  Tx.split_join one_bar (by decide +kernel) (by simpa using h.2.1) fun x hx hc => by
    obtain ⟨s, hs, rfl⟩ := List.mem_map.mp hx
    exact sText_chars (h.1 s hs) _ hc rfl
theorem part_s {s : Int × List (List Str)} (h : ShareOk s) : PySem.Txt.partition (sText s) sp_ = (match s.2 with
    | [] => (dig s.1, Str.empty, Str.empty)
    | g :: gs => (dig s.1, sp_, gsText (g :: gs))) := by
  obtain ⟨w, gs⟩ := s
  have hd : 32 ∉ Tx.tl (dig w) := fun hc => by
    have := dig_chars h.lo h.hi _ hc
    omega
  cases gs with
  | nil => exact Tx.part_no one_sp hd
  | cons g gs => exact Tx.part_at one_sp hd
theorem pl_str {x : Str} (h : x.length ≤ 200) (hc : ∀ c ∈ Tx.tl x, c < 128) : pl 0 (.str x) = true := by
  unfold pl PySem.PyData.strOk
  rw [Array.all_eq_true']
  intro c h1
  have := hc c (by simpa [Tx.tl] using h1)
  exact decide_eq_true (by omega)
theorem share_in_ok {n : Nat} {s : Int × List (List Str)} {m : Mem} (h : ShareOk s) : RG (n + 4) 9 [.str (sText s)] m = .ok (encSB false s) m := by
  have hlen : decide ((sText s).length ≤ 100000) = true := decide_eq_true (by have := sText_len h; omega)
  have hp := part_s h
  have hpart : partitionO (.str (sText s)) (.str sp_) m = .ok (.tup [.str (PySem.Txt.partition (sText s) sp_).1, .str (PySem.Txt.partition (sText s) sp_).2.1, .str (PySem.Txt.partition (sText s) sp_).2.2]) m := by
    simp only [partitionO, hlen]
    rfl
  rw [hp] at hpart
  obtain ⟨w, gs⟩ := s
  refine wp_eq (call_wp (F := (1, 8, g9 100000)) rfl rfl ?_)
  have hw1 := h.lo
  have hw4 := h.hi
  have hsh : RG (n + 3) 7 [encSB false (w, gs)] m = .ok (.bl true) m := is_share_ok h
  have r1 : recOk .partition m (.str (sText (w, gs))) = true := rfl
  cases gs with
  | nil =>
    have hc : cmpV (DG (n + 3)) .ne (.str Str.empty) (.str (sx [])) m = .ok (.bl false) m := by kernel_rfl
    dsimp only at hpart
    have hsh2 : RG (n + 3) 7 [.tup [.int w, .lst []]] m = .ok (.bl true) m := hsh
    try simp only [Ev.v0, Ev.vs, Ev.kk, Ev.bin, Ev.cmp, Ev.bok, Ev.ofs, Ev.test, Ev.iteE, Ev.val, Ev.nt, Ev.an, Ev.orE, Ev.tt, Ev.enil, Ev.econs, Ev.tup, Ev.lst, Ev.fz, Ev.cell, Ev.ix, Ev.call, Ev.bi, Ev.bi2, Ev.isi, Ev.m1, Ev.attr, Ev.sl, Ev.lof, Ev.srt, Ev.chain, Ev.gv0, Ev.gvs, Ev.gt, Ev.gnil, Ev.gcons, Ev.asg, Ev.setix, Ev.ex, Ev.ret, Ev.iff, Ev.forr, Ev.snil, Ev.scons, Ev.iseq, Ev.irange, Ev.vwI, Ev.vwS, Ev.vwB, Ev.vwN, Ev.vwL, Ev.vwT, Ev.vwO, Ev.asb, Ev.ckT, Ev.addI, Ev.subI, Ev.ltI, Ev.leI, Ev.gtI, Ev.geI, Ev.eqI, Ev.neI, Ev.intI, Ev.absI, Ev.lenL, Ev.lenT, Ev.lenC, Ev.strS, Ev.tupL, Ev.tupT, Ev.po0, Ev.poi, Ev.slL, Ev.setf, Ev.make, Ev.callk, Ev.meth, Ev.ienum, Ev.dnew, Ev.ddis, Ev.dof, Ev.dcm, Ev.rev1, Ev.dget2, Ev.irev, Ev.lc, Ev.lcf, Ev.forf, Ev.wi0, Ev.wi1, List.set_cons_succ, List.set_cons_zero, Co.bind_assoc, List.map_cons, List.map_nil, List.cons_append, List.nil_append, List.length_cons, List.length_nil, List.replicate_succ, List.replicate_zero, Nat.reduceAdd, Nat.reduceSub, Nat.reduceLeDiff, decide_true, wp_ok, g9, r1, m1O, hpart, dR, number_ok hw1 hw4, hc, hsh2]
    exact ⟨rfl, trivial⟩
  | cons g gs =>
    have hc : cmpV (DG (n + 3)) .ne (.str sp_) (.str (sx [])) m = .ok (.bl true) m := by kernel_rfl
    have r2 : recOk .split m (.str (gsText (g :: gs))) = true := rfl
    have hl2 : decide ((gsText (g :: gs)).length ≤ 100000) = true := decide_eq_true (by have h9 : (gsText (g :: gs)).length ≤ 171 := gsText_len h.grp h.few; omega)
    have hs2 : splitO (.str (gsText (g :: gs))) (.str gt_) m = .ok (.lst ((g :: gs).map fun g => .str (gText g))) m := by
      simp only [splitO, hl2, split_gs h.grp (List.cons_ne_nil _ _), List.map_map]
      rfl
    dsimp only at hpart
    try simp only [Ev.v0, Ev.vs, Ev.kk, Ev.bin, Ev.cmp, Ev.bok, Ev.ofs, Ev.test, Ev.iteE, Ev.val, Ev.nt, Ev.an, Ev.orE, Ev.tt, Ev.enil, Ev.econs, Ev.tup, Ev.lst, Ev.fz, Ev.cell, Ev.ix, Ev.call, Ev.bi, Ev.bi2, Ev.isi, Ev.m1, Ev.attr, Ev.sl, Ev.lof, Ev.srt, Ev.chain, Ev.gv0, Ev.gvs, Ev.gt, Ev.gnil, Ev.gcons, Ev.asg, Ev.setix, Ev.ex, Ev.ret, Ev.iff, Ev.forr, Ev.snil, Ev.scons, Ev.iseq, Ev.irange, Ev.vwI, Ev.vwS, Ev.vwB, Ev.vwN, Ev.vwL, Ev.vwT, Ev.vwO, Ev.asb, Ev.ckT, Ev.addI, Ev.subI, Ev.ltI, Ev.leI, Ev.gtI, Ev.geI, Ev.eqI, Ev.neI, Ev.intI, Ev.absI, Ev.lenL, Ev.lenT, Ev.lenC, Ev.strS, Ev.tupL, Ev.tupT, Ev.po0, Ev.poi, Ev.slL, Ev.setf, Ev.make, Ev.callk, Ev.meth, Ev.ienum, Ev.dnew, Ev.ddis, Ev.dof, Ev.dcm, Ev.rev1, Ev.dget2, Ev.irev, Ev.lc, Ev.lcf, Ev.forf, Ev.wi0, Ev.wi1, List.set_cons_succ, List.set_cons_zero, Co.bind_assoc, List.map_cons, List.map_nil, List.cons_append, List.nil_append, List.length_cons, List.length_nil, List.replicate_succ, List.replicate_zero, Nat.reduceAdd, Nat.reduceSub, Nat.reduceLeDiff, decide_true, wp_ok, g9, r1, m1O, hpart, dR, number_ok hw1 hw4, hc, r2, hs2]
    have hsh2 : RG (n + 3) 7 [.tup [.int w, .lst ((g :: gs).map (encB false))]] m = .ok (.bl true) m := hsh
    rw [← List.map_cons (f := fun g => PV.str (gText g))]
    refine wp_then (lcFx_enc (encB false) fun g' hg' => ?_) fun ys m1 ⟨e1, e2⟩ => ?_
    · have hg := h.grp g' hg'
      have hl3 : decide ((gText g').length ≤ 100000) = true := decide_eq_true (by have := gText_len hg; omega)
      have r3 : recOk .split m (.str (gText g')) = true := rfl
      have hs3 : splitO (.str (gText g')) (.str pls_) m = .ok (.lst (g'.map .str)) m := by
        simp only [splitO, hl3, split_g hg]
        rfl
      try simp only [Ev.v0, Ev.vs, Ev.kk, Ev.bin, Ev.cmp, Ev.bok, Ev.ofs, Ev.test, Ev.iteE, Ev.val, Ev.nt, Ev.an, Ev.orE, Ev.tt, Ev.enil, Ev.econs, Ev.tup, Ev.lst, Ev.fz, Ev.cell, Ev.ix, Ev.call, Ev.bi, Ev.bi2, Ev.isi, Ev.m1, Ev.attr, Ev.sl, Ev.lof, Ev.srt, Ev.chain, Ev.gv0, Ev.gvs, Ev.gt, Ev.gnil, Ev.gcons, Ev.asg, Ev.setix, Ev.ex, Ev.ret, Ev.iff, Ev.forr, Ev.snil, Ev.scons, Ev.iseq, Ev.irange, Ev.vwI, Ev.vwS, Ev.vwB, Ev.vwN, Ev.vwL, Ev.vwT, Ev.vwO, Ev.asb, Ev.ckT, Ev.addI, Ev.subI, Ev.ltI, Ev.leI, Ev.gtI, Ev.geI, Ev.eqI, Ev.neI, Ev.intI, Ev.absI, Ev.lenL, Ev.lenT, Ev.lenC, Ev.strS, Ev.tupL, Ev.tupT, Ev.po0, Ev.poi, Ev.slL, Ev.setf, Ev.make, Ev.callk, Ev.meth, Ev.ienum, Ev.dnew, Ev.ddis, Ev.dof, Ev.dcm, Ev.rev1, Ev.dget2, Ev.irev, Ev.lc, Ev.lcf, Ev.forf, Ev.wi0, Ev.wi1, List.set_cons_succ, List.set_cons_zero, Co.bind_assoc, List.map_cons, List.map_nil, List.cons_append, List.nil_append, List.length_cons, List.length_nil, List.replicate_succ, List.replicate_zero, Nat.reduceAdd, Nat.reduceSub, Nat.reduceLeDiff, decide_true, wp_ok, r3, m1O, hs3]
      rfl
    · subst e1 e2
      try simp only [Ev.v0, Ev.vs, Ev.kk, Ev.bin, Ev.cmp, Ev.bok, Ev.ofs, Ev.test, Ev.iteE, Ev.val, Ev.nt, Ev.an, Ev.orE, Ev.tt, Ev.enil, Ev.econs, Ev.tup, Ev.lst, Ev.fz, Ev.cell, Ev.ix, Ev.call, Ev.bi, Ev.bi2, Ev.isi, Ev.m1, Ev.attr, Ev.sl, Ev.lof, Ev.srt, Ev.chain, Ev.gv0, Ev.gvs, Ev.gt, Ev.gnil, Ev.gcons, Ev.asg, Ev.setix, Ev.ex, Ev.ret, Ev.iff, Ev.forr, Ev.snil, Ev.scons, Ev.iseq, Ev.irange, Ev.vwI, Ev.vwS, Ev.vwB, Ev.vwN, Ev.vwL, Ev.vwT, Ev.vwO, Ev.asb, Ev.ckT, Ev.addI, Ev.subI, Ev.ltI, Ev.leI, Ev.gtI, Ev.geI, Ev.eqI, Ev.neI, Ev.intI, Ev.absI, Ev.lenL, Ev.lenT, Ev.lenC, Ev.strS, Ev.tupL, Ev.tupT, Ev.po0, Ev.poi, Ev.slL, Ev.setf, Ev.make, Ev.callk, Ev.meth, Ev.ienum, Ev.dnew, Ev.ddis, Ev.dof, Ev.dcm, Ev.rev1, Ev.dget2, Ev.irev, Ev.lc, Ev.lcf, Ev.forf, Ev.wi0, Ev.wi1, List.set_cons_succ, List.set_cons_zero, Co.bind_assoc, List.map_cons, List.map_nil, List.cons_append, List.nil_append, List.length_cons, List.length_nil, List.replicate_succ, List.replicate_zero, Nat.reduceAdd, Nat.reduceSub, Nat.reduceLeDiff, decide_true, wp_ok]
      simp only [List.map_cons] at hsh2
      try simp only [Ev.v0, Ev.vs, Ev.kk, Ev.bin, Ev.cmp, Ev.bok, Ev.ofs, Ev.test, Ev.iteE, Ev.val, Ev.nt, Ev.an, Ev.orE, Ev.tt, Ev.enil, Ev.econs, Ev.tup, Ev.lst, Ev.fz, Ev.cell, Ev.ix, Ev.call, Ev.bi, Ev.bi2, Ev.isi, Ev.m1, Ev.attr, Ev.sl, Ev.lof, Ev.srt, Ev.chain, Ev.gv0, Ev.gvs, Ev.gt, Ev.gnil, Ev.gcons, Ev.asg, Ev.setix, Ev.ex, Ev.ret, Ev.iff, Ev.forr, Ev.snil, Ev.scons, Ev.iseq, Ev.irange, Ev.vwI, Ev.vwS, Ev.vwB, Ev.vwN, Ev.vwL, Ev.vwT, Ev.vwO, Ev.asb, Ev.ckT, Ev.addI, Ev.subI, Ev.ltI, Ev.leI, Ev.gtI, Ev.geI, Ev.eqI, Ev.neI, Ev.intI, Ev.absI, Ev.lenL, Ev.lenT, Ev.lenC, Ev.strS, Ev.tupL, Ev.tupT, Ev.po0, Ev.poi, Ev.slL, Ev.setf, Ev.make, Ev.callk, Ev.meth, Ev.ienum, Ev.dnew, Ev.ddis, Ev.dof, Ev.dcm, Ev.rev1, Ev.dget2, Ev.irev, Ev.lc, Ev.lcf, Ev.forf, Ev.wi0, Ev.wi1, List.set_cons_succ, List.set_cons_zero, Co.bind_assoc, List.map_cons, List.map_nil, List.cons_append, List.nil_append, List.length_cons, List.length_nil, List.replicate_succ, List.replicate_zero, Nat.reduceAdd, Nat.reduceSub, Nat.reduceLeDiff, decide_true, wp_ok, hsh2]
      exact ⟨rfl, trivial⟩
theorem wText_len {ws : List (Int × List (List Str))} (h : WsOk ws) : (wText ws).length ≤ 600 := by
  have h1 := join_len bar_ (ws.map sText) 173 (by
    intro x hx
    obtain ⟨s, hs, rfl⟩ := List.mem_map.mp hx
    exact sText_len (h.1 s hs))
  have h2 : (ws.map sText).length * (173 + (bar_).length) ≤ 3 * 176 := Nat.mul_le_mul_right 176 (by simpa using h.2.2)
  exact Nat.le_trans (Nat.le_trans h1 h2) (by decide)
theorem pick_mk {x : PV} {q : Nat} : ((List.lookup 10 [(10, [.i 0, .i 1]), (24, [.i 0, .i 1, .d 0 (.tup []), .d 1 (.tup [])]), (29, [.i 0, .i 1]), (28, [.i 0, .i 1]), (13, [.i 0, .i 1])]).bind fun ar => pickN 2 0 [.ref q, x] [] ar) = some [.ref q, x] := rfl
theorem ini0 {n : Nat} : iniO (DG n) (.cls 0) = some (0, 10) := rfl
def ReadI (m : Mem) (c t : PV) (ws : List (Int × List (List Str))) (r : List PV) (env : Co.Env) (mm : Mem) : Prop := ∃ (dn rst : List (Int × List (List Str))) (x y z : Option PV), ws = dn ++ rst ∧ r = ((rst.map fun s => PV.str (sText s)).zipIdx dn.length).map (fun q => .tup [.int (q.2 : Int), q.1]) ∧ env = [some c, some t, some (.ref m.length), x, y, z] ∧ mm = m ++ [.lst (dn.map (encSB false))]
theorem read_ok {n : Nat} {ws : List (Int × List (List Str))} {m : Mem} (h : WsOk ws) : wp (RG (n + 5) 13 [.cls 0, .str (wText ws)] m) fun v m' => v = objW ws ∧ ∃ l, m' = m ++ l := by
  refine call_wp (F := (2, 6, g13 100000)) rfl rfl ?_
  have hl : decide ((wText ws).length ≤ 100000) = true := decide_eq_true (by have := wText_len h; omega)
  have r1 : ∀ m, recOk .split m (.str (wText ws)) = true := fun _ => rfl
  have hs : ∀ m, splitO (.str (wText ws)) (.str bar_) m = .ok (.lst (ws.map fun s => .str (sText s))) m := fun m => by
    simp only [splitO, hl, split_w h, List.map_map]
    rfl
  try simp only [Ev.v0, Ev.vs, Ev.kk, Ev.bin, Ev.cmp, Ev.bok, Ev.ofs, Ev.test, Ev.iteE, Ev.val, Ev.nt, Ev.an, Ev.orE, Ev.tt, Ev.enil, Ev.econs, Ev.tup, Ev.lst, Ev.fz, Ev.cell, Ev.ix, Ev.call, Ev.bi, Ev.bi2, Ev.isi, Ev.m1, Ev.attr, Ev.sl, Ev.lof, Ev.srt, Ev.chain, Ev.gv0, Ev.gvs, Ev.gt, Ev.gnil, Ev.gcons, Ev.asg, Ev.setix, Ev.ex, Ev.ret, Ev.iff, Ev.forr, Ev.snil, Ev.scons, Ev.iseq, Ev.irange, Ev.vwI, Ev.vwS, Ev.vwB, Ev.vwN, Ev.vwL, Ev.vwT, Ev.vwO, Ev.asb, Ev.ckT, Ev.addI, Ev.subI, Ev.ltI, Ev.leI, Ev.gtI, Ev.geI, Ev.eqI, Ev.neI, Ev.intI, Ev.absI, Ev.lenL, Ev.lenT, Ev.lenC, Ev.strS, Ev.tupL, Ev.tupT, Ev.po0, Ev.poi, Ev.slL, Ev.setf, Ev.make, Ev.callk, Ev.meth, Ev.ienum, Ev.dnew, Ev.ddis, Ev.dof, Ev.dcm, Ev.rev1, Ev.dget2, Ev.irev, Ev.lc, Ev.lcf, Ev.forf, Ev.wi0, Ev.wi1, List.set_cons_succ, List.set_cons_zero, Co.bind_assoc, List.map_cons, List.map_nil, List.cons_append, List.nil_append, List.length_cons, List.length_nil, List.replicate_succ, List.replicate_zero, Nat.reduceAdd, Nat.reduceSub, Nat.reduceLeDiff, decide_true, wp_ok, g13, r1, m1O, hs]
  refine wp_then (forFx_inv (I := ReadI m (.cls 0) (.str (wText ws)) ws) (Q := fun p mm => p.1 = .nx ∧ ReadI m (.cls 0) (.str (wText ws)) ws [] p.2 mm) (fun x r env mm hI => ?_) (fun env mm hI => ⟨rfl, hI⟩) _ _ _ ⟨[], ws, none, none, none, rfl, rfl, rfl, rfl⟩) fun p mm ⟨h1, h2⟩ => ?_
  · obtain ⟨dn, rst, x1, y1, z1, hws, hr, rfl, rfl⟩ := hI
    cases rst with
    | nil => cases hr
    | cons s rst =>
      rw [List.map_cons, List.zipIdx_cons, List.map_cons] at hr
      injection hr with hx hr
      subst hx hr
      have hS : ShareOk s := h.1 s (by rw [hws]; simp)
      have hc : ∀ m, cmpV (DG (n + 4)) .isN (encSB false s) .non m = .ok (.bl false) m := fun _ => rfl
      have hm : (m ++ [Cell.lst (dn.map (encSB false))])[m.length]? = some (.lst (dn.map (encSB false))) := by simp
      have hdl : dn.length ≤ 3 := by
        have := congrArg List.length hws
        have := h.2.2
        simp at *
        omega
      have hbel : below m.length (encSB false s) = true := by
        refine pl_below 3 _ _ ?_
        simp only [pl, pls, Bool.and_true, Bool.and_eq_true]
        exact ⟨trivial, pls_all.mpr fun v hv => by
          obtain ⟨g, hg, rfl⟩ := List.mem_map.mp hv
          exact encB_pl (hS.grp g hg)⟩
      have ha : appO (.ref m.length) (encSB false s) (m ++ [Cell.lst (dn.map (encSB false))]) = .ok .non (m ++ [Cell.lst ((dn ++ [s]).map (encSB false))]) := by
        rw [app_ref hm (by simp; omega) hbel]
        simp
      try simp only [Ev.v0, Ev.vs, Ev.kk, Ev.bin, Ev.cmp, Ev.bok, Ev.ofs, Ev.test, Ev.iteE, Ev.val, Ev.nt, Ev.an, Ev.orE, Ev.tt, Ev.enil, Ev.econs, Ev.tup, Ev.lst, Ev.fz, Ev.cell, Ev.ix, Ev.call, Ev.bi, Ev.bi2, Ev.isi, Ev.m1, Ev.attr, Ev.sl, Ev.lof, Ev.srt, Ev.chain, Ev.gv0, Ev.gvs, Ev.gt, Ev.gnil, Ev.gcons, Ev.asg, Ev.setix, Ev.ex, Ev.ret, Ev.iff, Ev.forr, Ev.snil, Ev.scons, Ev.iseq, Ev.irange, Ev.vwI, Ev.vwS, Ev.vwB, Ev.vwN, Ev.vwL, Ev.vwT, Ev.vwO, Ev.asb, Ev.ckT, Ev.addI, Ev.subI, Ev.ltI, Ev.leI, Ev.gtI, Ev.geI, Ev.eqI, Ev.neI, Ev.intI, Ev.absI, Ev.lenL, Ev.lenT, Ev.lenC, Ev.strS, Ev.tupL, Ev.tupT, Ev.po0, Ev.poi, Ev.slL, Ev.setf, Ev.make, Ev.callk, Ev.meth, Ev.ienum, Ev.dnew, Ev.ddis, Ev.dof, Ev.dcm, Ev.rev1, Ev.dget2, Ev.irev, Ev.lc, Ev.lcf, Ev.forf, Ev.wi0, Ev.wi1, List.set_cons_succ, List.set_cons_zero, Co.bind_assoc, List.map_cons, List.map_nil, List.cons_append, List.nil_append, List.length_cons, List.length_nil, List.replicate_succ, List.replicate_zero, Nat.reduceAdd, Nat.reduceSub, Nat.reduceLeDiff, decide_true, wp_ok, dR, share_in_ok hS, hc, (rec_ref hm).1, m1O, ha]
      exact ⟨dn ++ [s], rst, _, _, _, by rw [hws]; simp, by simp, rfl, rfl⟩
  · obtain ⟨dn, rst, x1, y1, z1, hws, hr, hE, rfl⟩ := h2
    have : rst = [] := by
      cases rst with
      | nil => rfl
      | cons s r => simp at hr
    subst this
    rw [List.append_nil] at hws
    subst hws
    rw [h1]
    dsimp only
    rw [hE]
    have hm : (m ++ [Cell.lst (ws.map (encSB false))])[m.length]? = some (.lst (ws.map (encSB false))) := by simp
    try simp only [Ev.v0, Ev.vs, Ev.kk, Ev.bin, Ev.cmp, Ev.bok, Ev.ofs, Ev.test, Ev.iteE, Ev.val, Ev.nt, Ev.an, Ev.orE, Ev.tt, Ev.enil, Ev.econs, Ev.tup, Ev.lst, Ev.fz, Ev.cell, Ev.ix, Ev.call, Ev.bi, Ev.bi2, Ev.isi, Ev.m1, Ev.attr, Ev.sl, Ev.lof, Ev.srt, Ev.chain, Ev.gv0, Ev.gvs, Ev.gt, Ev.gnil, Ev.gcons, Ev.asg, Ev.setix, Ev.ex, Ev.ret, Ev.iff, Ev.forr, Ev.snil, Ev.scons, Ev.iseq, Ev.irange, Ev.vwI, Ev.vwS, Ev.vwB, Ev.vwN, Ev.vwL, Ev.vwT, Ev.vwO, Ev.asb, Ev.ckT, Ev.addI, Ev.subI, Ev.ltI, Ev.leI, Ev.gtI, Ev.geI, Ev.eqI, Ev.neI, Ev.intI, Ev.absI, Ev.lenL, Ev.lenT, Ev.lenC, Ev.strS, Ev.tupL, Ev.tupT, Ev.po0, Ev.poi, Ev.slL, Ev.setf, Ev.make, Ev.callk, Ev.meth, Ev.ienum, Ev.dnew, Ev.ddis, Ev.dof, Ev.dcm, Ev.rev1, Ev.dget2, Ev.irev, Ev.lc, Ev.lcf, Ev.forf, Ev.wi0, Ev.wi1, List.set_cons_succ, List.set_cons_zero, Co.bind_assoc, List.map_cons, List.map_nil, List.cons_append, List.nil_append, List.length_cons, List.length_nil, List.replicate_succ, List.replicate_zero, Nat.reduceAdd, Nat.reduceSub, Nat.reduceLeDiff, decide_true, wp_ok, ini0, pick_mk, mk_ok (n := n) h hm, made_ok]
    exact ⟨trivial, _, rfl⟩
end My

end P_Xd
section P_Xe
set_option Elab.async false
set_option linter.all false
set_option maxRecDepth 100000
set_option maxHeartbeats 2000000
namespace My
open Co
open PySem (Str)
theorem srt_eq {a b : List Str} (h : a.Perm b) : srtS a = srtS b := pair_one ((srtS_perm a).trans (h.trans (srtS_perm b).symm)) (srtS_sorted a) (srtS_sorted b)
theorem NamesOk.perm {g g' : List Str} (h : NamesOk g) (p : g'.Perm g) : NamesOk g' := ⟨p.nodup_iff.mpr h.1, fun x hx => h.2.1 x (p.subset hx), fun e => h.2.2.1 (by subst e; exact List.Perm.eq_nil p.symm), by rw [p.length_eq]; exact h.2.2.2⟩
abbrev srtW (s : Int × List (List Str)) : Int × List (List Str) := (s.1, s.2.map srtS)
def permW (s s' : Int × List (List Str)) : Prop := s'.1 = s.1 ∧ All2 (fun g g' => g'.Perm g) s.2 s'.2
theorem all2_grp {gs gs' : List (List Str)} (h : All2 (fun g g' => g'.Perm g) gs gs') : gs'.map srtS = gs.map srtS ∧ gs'.length = gs.length ∧ ((∀ g ∈ gs, NamesOk g) → ∀ g ∈ gs', NamesOk g) := by
  induction h with
  | nil => exact ⟨rfl, rfl, fun h => h⟩
  | cons h1 _ ih =>
    obtain ⟨i1, i2, i3⟩ := ih
    refine ⟨by rw [List.map_cons, List.map_cons, i1, srt_eq h1], by simp [i2], fun h => ?_⟩
    rw [List.forall_mem_cons] at h ⊢
    exact ⟨h.1.perm h1, i3 h.2⟩
theorem permW_ok {s s' : Int × List (List Str)} (h : permW s s') (hs : ShareOk s) : ShareOk s' ∧ srtW s' = srtW s := by
  obtain ⟨h1, h2⟩ := h
  obtain ⟨i1, i2, i3⟩ := all2_grp h2
  refine ⟨⟨by rw [h1]; exact hs.lo, by rw [h1]; exact hs.hi, by rw [i2]; exact hs.few, i3 hs.grp⟩, ?_⟩
  unfold srtW
  rw [h1, i1]
theorem srtW_ok {s : Int × List (List Str)} (hs : ShareOk s) : ShareOk (srtW s) := by
  refine ⟨hs.lo, hs.hi, by simpa using hs.few, fun g hg => ?_⟩
  obtain ⟨g', hg', rfl⟩ := List.mem_map.mp hg
  exact (hs.grp g' hg').perm (srtS_perm g')
theorem norS_srt {s : Int × List (List Str)} : norS s = .tup [.int s.1, .tup ((srtW s).2.map fun g => .tup (g.map .str))] := by
  simp only [norS, List.map_map]
  rfl
theorem permsW_ok {ws ws' : List (Int × List (List Str))} (h : All2 permW ws ws') (hs : WsOk ws) : WsOk ws' ∧ objW ws' = objW ws := by
  have key : (∀ s ∈ ws, ShareOk s) → (∀ s ∈ ws', ShareOk s) ∧ ws'.map norS = ws.map norS := by
    clear hs
    induction h with
    | nil => exact fun h => ⟨h, rfl⟩
    | cons h1 _ ih =>
      intro hs
      rw [List.forall_mem_cons] at hs
      obtain ⟨i1, i2⟩ := ih hs.2
      obtain ⟨j1, j2⟩ := permW_ok h1 hs.1
      exact ⟨List.forall_mem_cons.mpr ⟨j1, i1⟩, by rw [List.map_cons, List.map_cons, i2, norS_srt, norS_srt, j2, h1.1]⟩
  obtain ⟨k1, k2⟩ := key hs.1
  have hl := h.len
  exact ⟨⟨k1, fun e => hs.2.1 (by subst e; exact List.length_eq_zero_iff.mp hl.symm), by rw [hl]; exact hs.2.2⟩, by unfold objW; rw [k2]⟩
theorem srtWs_ok {ws : List (Int × List (List Str))} (h : WsOk ws) : WsOk (ws.map srtW) ∧ objW (ws.map srtW) = objW ws := by
  refine permsW_ok ?_ h
  have : ∀ ws : List (Int × List (List Str)), All2 permW ws (ws.map srtW) := fun ws => by
    induction ws with
    | nil => exact .nil
    | cons s r ih =>
      refine .cons ⟨rfl, ?_⟩ ih
      have hg : ∀ gs : List (List Str), All2 (fun g g' => g'.Perm g) gs (gs.map srtS) := fun gs => by
        induction gs with
        | nil => exact .nil
        | cons g gs ih => exact .cons (srtS_perm g) ih
      exact hg s.2
  exact this ws
/-! ### join -/
theorem join_ok {v : PV} {m : Mem} {s : Str} {ss : List Str} (h : items (vw m v) = some (ss.map .str)) (hl : (ss.map (·.length)).sum + ss.length * s.length ≤ 100000) : joinO (.str s) v m = .ok (.str (Str.join s ss)) m := by
  unfold joinO
  dsimp only
  rw [h, Option.bind_some, texts_map]
  dsimp only
  rw [decide_eq_true hl, Tx.txt_join]
  rfl
theorem sum_le {ss : List Str} {k : Nat} (h : ∀ x ∈ ss, x.length ≤ k) : (ss.map (·.length)).sum ≤ ss.length * k := PySem.StrLaws.sumLen_le ss h
theorem join_g {v : PV} {m : Mem} {g : List Str} (h : items (vw m v) = some (g.map .str)) (hg : NamesOk g) : joinO (.str pls_) v m = .ok (.str (gText g)) m := by
  refine join_ok h ?_
  have h1 := sum_le fun x hx => (name_len (hg.2.1 x hx)).2
  have e : (pls_).length = 1 := rfl
  have := hg.2.2.2
  rw [e]
  omega
theorem join_gs {v : PV} {m : Mem} {gs : List (List Str)} (h : items (vw m v) = some ((gs.map gText).map .str)) (hg : ∀ g ∈ gs, NamesOk g) (hl : gs.length ≤ 3) : joinO (.str gt_) v m = .ok (.str (gsText gs)) m := by
  refine join_ok h ?_
  have h1 := sum_le (ss := gs.map gText) (k := 54) fun x hx => by
    obtain ⟨g, hg', rfl⟩ := List.mem_map.mp hx
    exact gText_len (hg g hg')
  have e : (gt_).length = 3 := rfl
  rw [e]
  simp only [List.length_map] at h1 ⊢
  omega
theorem join_w {v : PV} {m : Mem} {ws : List (Int × List (List Str))} (h : items (vw m v) = some ((ws.map sText).map .str)) (hw : WsOk ws) : joinO (.str bar_) v m = .ok (.str (wText ws)) m := by
  refine join_ok h ?_
  have h1 := sum_le (ss := ws.map sText) (k := 173) fun x hx => by
    obtain ⟨s, hs, rfl⟩ := List.mem_map.mp hx
    exact sText_len (hw.1 s hs)
  have e : (bar_).length = 3 := rfl
  have := hw.2.2
  rw [e]
  simp only [List.length_map] at h1 ⊢
  omega
theorem gText_pl {g : List Str} (h : NamesOk g) : pl 0 (.str (gText g)) = true := pl_str (by have := gText_len h; omega) fun c hc => by
  have := gText_chars h c hc
  omega
theorem gsText_pl {gs : List (List Str)} (h : ∀ g ∈ gs, NamesOk g) (hl : gs.length ≤ 3) : pl 0 (.str (gsText gs)) = true := pl_str (by have := gsText_len h hl; omega) fun c hc => by
  have := gsText_chars h c hc
  omega
theorem gsText_ne {g : List Str} {gs : List (List Str)} (h : NamesOk g) : gsText (g :: gs) ≠ sx [] := by
  have hg : 0 < (Tx.tl (gText g)).length := by
    obtain ⟨_, h2, h3, _⟩ := h
    unfold gText
    cases g with
    | nil => exact absurd rfl h3
    | cons x r =>
      have := (name_len (h2 x List.mem_cons_self)).1
      cases r with
      | nil => rw [Tx.tl_len]; exact this
      | cons y r => rw [Tx.tl_join_cons, List.length_append, Tx.tl_len]; omega
  intro e
  have e2 := congrArg Tx.tl e
  unfold gsText at e2
  cases gs with
  | nil =>
    have : Tx.tl (gText g) = [] := e2
    rw [this] at hg
    exact absurd hg (by decide)
  | cons g2 gs =>
    rw [List.map_cons, List.map_cons, Tx.tl_join_cons] at e2
    have := congrArg List.length e2
    rw [List.length_append] at this
    have e3 : (Tx.tl (sx [])).length = 0 := rfl
    omega
/-- share_text -/
theorem share_text_ok {n : Nat} {s : Int × List (List Str)} {m : Mem} (h : ShareOk s) : RG (n + 1) 8 [norS s] m = .ok (.str (sText (srtW s))) m := by
  have hS := srtW_ok h
  have hw1 := h.lo
  have hw4 := h.hi
  obtain ⟨w, gs⟩ := s
  refine wp_eq (call_wp (F := (1, 3, g8 100000)) rfl rfl ?_)
  have r1 : ∀ x m, recOk .join m (.str x) = true := fun _ _ => rfl
  try simp only [Ev.v0, Ev.vs, Ev.kk, Ev.bin, Ev.cmp, Ev.bok, Ev.ofs, Ev.test, Ev.iteE, Ev.val, Ev.nt, Ev.an, Ev.orE, Ev.tt, Ev.enil, Ev.econs, Ev.tup, Ev.lst, Ev.fz, Ev.cell, Ev.ix, Ev.call, Ev.bi, Ev.bi2, Ev.isi, Ev.m1, Ev.attr, Ev.sl, Ev.lof, Ev.srt, Ev.chain, Ev.gv0, Ev.gvs, Ev.gt, Ev.gnil, Ev.gcons, Ev.asg, Ev.setix, Ev.ex, Ev.ret, Ev.iff, Ev.forr, Ev.snil, Ev.scons, Ev.iseq, Ev.irange, Ev.vwI, Ev.vwS, Ev.vwB, Ev.vwN, Ev.vwL, Ev.vwT, Ev.vwO, Ev.asb, Ev.ckT, Ev.addI, Ev.subI, Ev.ltI, Ev.leI, Ev.gtI, Ev.geI, Ev.eqI, Ev.neI, Ev.intI, Ev.absI, Ev.lenL, Ev.lenT, Ev.lenC, Ev.strS, Ev.tupL, Ev.tupT, Ev.po0, Ev.poi, Ev.slL, Ev.setf, Ev.make, Ev.callk, Ev.meth, Ev.ienum, Ev.dnew, Ev.ddis, Ev.dof, Ev.dcm, Ev.rev1, Ev.dget2, Ev.irev, Ev.lc, Ev.lcf, Ev.forf, Ev.wi0, Ev.wi1, List.set_cons_succ, List.set_cons_zero, Co.bind_assoc, List.map_cons, List.map_nil, List.cons_append, List.nil_append, List.length_cons, List.length_nil, List.replicate_succ, List.replicate_zero, Nat.reduceAdd, Nat.reduceSub, Nat.reduceLeDiff, decide_true, wp_ok, g8, r1, m1O, tix1]
  refine wp_then (lcFx_enc (fun g => .str (gText (srtS g))) fun g hg => ?_) fun ys m1 ⟨e1, e2⟩ => ?_
  · have hj : joinO (.str pls_) (norG g) m = .ok (.str (gText (srtS g))) m := join_g rfl ((h.grp g hg).perm (srtS_perm g))
    try simp only [Ev.v0, Ev.vs, Ev.kk, Ev.bin, Ev.cmp, Ev.bok, Ev.ofs, Ev.test, Ev.iteE, Ev.val, Ev.nt, Ev.an, Ev.orE, Ev.tt, Ev.enil, Ev.econs, Ev.tup, Ev.lst, Ev.fz, Ev.cell, Ev.ix, Ev.call, Ev.bi, Ev.bi2, Ev.isi, Ev.m1, Ev.attr, Ev.sl, Ev.lof, Ev.srt, Ev.chain, Ev.gv0, Ev.gvs, Ev.gt, Ev.gnil, Ev.gcons, Ev.asg, Ev.setix, Ev.ex, Ev.ret, Ev.iff, Ev.forr, Ev.snil, Ev.scons, Ev.iseq, Ev.irange, Ev.vwI, Ev.vwS, Ev.vwB, Ev.vwN, Ev.vwL, Ev.vwT, Ev.vwO, Ev.asb, Ev.ckT, Ev.addI, Ev.subI, Ev.ltI, Ev.leI, Ev.gtI, Ev.geI, Ev.eqI, Ev.neI, Ev.intI, Ev.absI, Ev.lenL, Ev.lenT, Ev.lenC, Ev.strS, Ev.tupL, Ev.tupT, Ev.po0, Ev.poi, Ev.slL, Ev.setf, Ev.make, Ev.callk, Ev.meth, Ev.ienum, Ev.dnew, Ev.ddis, Ev.dof, Ev.dcm, Ev.rev1, Ev.dget2, Ev.irev, Ev.lc, Ev.lcf, Ev.forf, Ev.wi0, Ev.wi1, List.set_cons_succ, List.set_cons_zero, Co.bind_assoc, List.map_cons, List.map_nil, List.cons_append, List.nil_append, List.length_cons, List.length_nil, List.replicate_succ, List.replicate_zero, Nat.reduceAdd, Nat.reduceSub, Nat.reduceLeDiff, decide_true, wp_ok, r1, m1O, hj]
  · subst e1 e2
    have hj : joinO (.str gt_) (.lst (gs.map fun g => .str (gText (srtS g)))) m1 = .ok (.str (gsText (gs.map srtS))) m1 := join_gs (by show some _ = some _; simp only [List.map_map]; rfl) hS.grp hS.few
    try simp only [Ev.v0, Ev.vs, Ev.kk, Ev.bin, Ev.cmp, Ev.bok, Ev.ofs, Ev.test, Ev.iteE, Ev.val, Ev.nt, Ev.an, Ev.orE, Ev.tt, Ev.enil, Ev.econs, Ev.tup, Ev.lst, Ev.fz, Ev.cell, Ev.ix, Ev.call, Ev.bi, Ev.bi2, Ev.isi, Ev.m1, Ev.attr, Ev.sl, Ev.lof, Ev.srt, Ev.chain, Ev.gv0, Ev.gvs, Ev.gt, Ev.gnil, Ev.gcons, Ev.asg, Ev.setix, Ev.ex, Ev.ret, Ev.iff, Ev.forr, Ev.snil, Ev.scons, Ev.iseq, Ev.irange, Ev.vwI, Ev.vwS, Ev.vwB, Ev.vwN, Ev.vwL, Ev.vwT, Ev.vwO, Ev.asb, Ev.ckT, Ev.addI, Ev.subI, Ev.ltI, Ev.leI, Ev.gtI, Ev.geI, Ev.eqI, Ev.neI, Ev.intI, Ev.absI, Ev.lenL, Ev.lenT, Ev.lenC, Ev.strS, Ev.tupL, Ev.tupT, Ev.po0, Ev.poi, Ev.slL, Ev.setf, Ev.make, Ev.callk, Ev.meth, Ev.ienum, Ev.dnew, Ev.ddis, Ev.dof, Ev.dcm, Ev.rev1, Ev.dget2, Ev.irev, Ev.lc, Ev.lcf, Ev.forf, Ev.wi0, Ev.wi1, List.set_cons_succ, List.set_cons_zero, Co.bind_assoc, List.map_cons, List.map_nil, List.cons_append, List.nil_append, List.length_cons, List.length_nil, List.replicate_succ, List.replicate_zero, Nat.reduceAdd, Nat.reduceSub, Nat.reduceLeDiff, decide_true, wp_ok, hj]
    cases gs with
    | nil =>
      have hc : cmpV (DG n) .eq (.str (gsText [])) (.str (sx [])) m1 = .ok (.bl true) m1 := by kernel_rfl
      try simp only [Ev.v0, Ev.vs, Ev.kk, Ev.bin, Ev.cmp, Ev.bok, Ev.ofs, Ev.test, Ev.iteE, Ev.val, Ev.nt, Ev.an, Ev.orE, Ev.tt, Ev.enil, Ev.econs, Ev.tup, Ev.lst, Ev.fz, Ev.cell, Ev.ix, Ev.call, Ev.bi, Ev.bi2, Ev.isi, Ev.m1, Ev.attr, Ev.sl, Ev.lof, Ev.srt, Ev.chain, Ev.gv0, Ev.gvs, Ev.gt, Ev.gnil, Ev.gcons, Ev.asg, Ev.setix, Ev.ex, Ev.ret, Ev.iff, Ev.forr, Ev.snil, Ev.scons, Ev.iseq, Ev.irange, Ev.vwI, Ev.vwS, Ev.vwB, Ev.vwN, Ev.vwL, Ev.vwT, Ev.vwO, Ev.asb, Ev.ckT, Ev.addI, Ev.subI, Ev.ltI, Ev.leI, Ev.gtI, Ev.geI, Ev.eqI, Ev.neI, Ev.intI, Ev.absI, Ev.lenL, Ev.lenT, Ev.lenC, Ev.strS, Ev.tupL, Ev.tupT, Ev.po0, Ev.poi, Ev.slL, Ev.setf, Ev.make, Ev.callk, Ev.meth, Ev.ienum, Ev.dnew, Ev.ddis, Ev.dof, Ev.dcm, Ev.rev1, Ev.dget2, Ev.irev, Ev.lc, Ev.lcf, Ev.forf, Ev.wi0, Ev.wi1, List.set_cons_succ, List.set_cons_zero, Co.bind_assoc, List.map_cons, List.map_nil, List.cons_append, List.nil_append, List.length_cons, List.length_nil, List.replicate_succ, List.replicate_zero, Nat.reduceAdd, Nat.reduceSub, Nat.reduceLeDiff, decide_true, wp_ok, hc, tix0, str_w hw1 hw4]
      exact ⟨rfl, trivial⟩
    | cons g gs =>
      have hc : cmpV (DG n) .eq (.str (gsText (srtS g :: gs.map srtS))) (.str (sx [])) m1 = .ok (.bl false) m1 := by
        obtain ⟨b, c1, c2, c3⟩ := eq_pl (n := 0) (k := 0) (a := .str (gsText (srtS g :: gs.map srtS))) (b := .str (sx [])) (gsText_pl hS.grp hS.few) (by decide +kernel) (by decide) (by decide)
        have hb : b = false := int_iff c3 (by
          intro e
          injection e with e
          exact gsText_ne (hS.grp _ List.mem_cons_self) e)
        subst hb
        exact cmpV_pl c1 (by intro _ _ _ e; cases e)
      have hl9 : (gsText (srtS g :: gs.map srtS)).length ≤ 171 := gsText_len hS.grp hS.few
      have a1 : binop .add (.str (dig w)) (.str sp_) = some (.str (dig w ++ sp_)) := rfl
      have a2 : binop .add (.str (dig w ++ sp_)) (.str (gsText (srtS g :: gs.map srtS))) = some (.str (dig w ++ sp_ ++ gsText (srtS g :: gs.map srtS))) := by
        simp only [binop]
        rw [if_pos (by rw [PySem.Str.length_append]; have : (dig w).length = 1 := rfl; have : (sp_).length = 1 := rfl; omega)]
      try simp only [Ev.v0, Ev.vs, Ev.kk, Ev.bin, Ev.cmp, Ev.bok, Ev.ofs, Ev.test, Ev.iteE, Ev.val, Ev.nt, Ev.an, Ev.orE, Ev.tt, Ev.enil, Ev.econs, Ev.tup, Ev.lst, Ev.fz, Ev.cell, Ev.ix, Ev.call, Ev.bi, Ev.bi2, Ev.isi, Ev.m1, Ev.attr, Ev.sl, Ev.lof, Ev.srt, Ev.chain, Ev.gv0, Ev.gvs, Ev.gt, Ev.gnil, Ev.gcons, Ev.asg, Ev.setix, Ev.ex, Ev.ret, Ev.iff, Ev.forr, Ev.snil, Ev.scons, Ev.iseq, Ev.irange, Ev.vwI, Ev.vwS, Ev.vwB, Ev.vwN, Ev.vwL, Ev.vwT, Ev.vwO, Ev.asb, Ev.ckT, Ev.addI, Ev.subI, Ev.ltI, Ev.leI, Ev.gtI, Ev.geI, Ev.eqI, Ev.neI, Ev.intI, Ev.absI, Ev.lenL, Ev.lenT, Ev.lenC, Ev.strS, Ev.tupL, Ev.tupT, Ev.po0, Ev.poi, Ev.slL, Ev.setf, Ev.make, Ev.callk, Ev.meth, Ev.ienum, Ev.dnew, Ev.ddis, Ev.dof, Ev.dcm, Ev.rev1, Ev.dget2, Ev.irev, Ev.lc, Ev.lcf, Ev.forf, Ev.wi0, Ev.wi1, List.set_cons_succ, List.set_cons_zero, Co.bind_assoc, List.map_cons, List.map_nil, List.cons_append, List.nil_append, List.length_cons, List.length_nil, List.replicate_succ, List.replicate_zero, Nat.reduceAdd, Nat.reduceSub, Nat.reduceLeDiff, decide_true, wp_ok, hc, tix0, str_w hw1 hw4, a1, a2]
      exact ⟨rfl, trivial⟩
abbrev nText (ws : List (Int × List (List Str))) : Str := wText (ws.map srtW)
theorem att_sh {n : Nat} {ws : List (Int × List (List Str))} {m : Mem} : attO (DG n) shN (objW ws) m = .ok (.tup (ws.map norS)) m := rfl
theorem str_ok {n : Nat} {ws : List (Int × List (List Str))} {m : Mem} (h : WsOk ws) : RG (n + 2) 16 [objW ws] m = .ok (.str (nText ws)) m := by
  refine wp_eq (call_wp (F := (1, 2, g16 100000)) rfl rfl ?_)
  have r1 : ∀ x m, recOk .join m (.str x) = true := fun _ _ => rfl
  try simp only [Ev.v0, Ev.vs, Ev.kk, Ev.bin, Ev.cmp, Ev.bok, Ev.ofs, Ev.test, Ev.iteE, Ev.val, Ev.nt, Ev.an, Ev.orE, Ev.tt, Ev.enil, Ev.econs, Ev.tup, Ev.lst, Ev.fz, Ev.cell, Ev.ix, Ev.call, Ev.bi, Ev.bi2, Ev.isi, Ev.m1, Ev.attr, Ev.sl, Ev.lof, Ev.srt, Ev.chain, Ev.gv0, Ev.gvs, Ev.gt, Ev.gnil, Ev.gcons, Ev.asg, Ev.setix, Ev.ex, Ev.ret, Ev.iff, Ev.forr, Ev.snil, Ev.scons, Ev.iseq, Ev.irange, Ev.vwI, Ev.vwS, Ev.vwB, Ev.vwN, Ev.vwL, Ev.vwT, Ev.vwO, Ev.asb, Ev.ckT, Ev.addI, Ev.subI, Ev.ltI, Ev.leI, Ev.gtI, Ev.geI, Ev.eqI, Ev.neI, Ev.intI, Ev.absI, Ev.lenL, Ev.lenT, Ev.lenC, Ev.strS, Ev.tupL, Ev.tupT, Ev.po0, Ev.poi, Ev.slL, Ev.setf, Ev.make, Ev.callk, Ev.meth, Ev.ienum, Ev.dnew, Ev.ddis, Ev.dof, Ev.dcm, Ev.rev1, Ev.dget2, Ev.irev, Ev.lc, Ev.lcf, Ev.forf, Ev.wi0, Ev.wi1, List.set_cons_succ, List.set_cons_zero, Co.bind_assoc, List.map_cons, List.map_nil, List.cons_append, List.nil_append, List.length_cons, List.length_nil, List.replicate_succ, List.replicate_zero, Nat.reduceAdd, Nat.reduceSub, Nat.reduceLeDiff, decide_true, wp_ok, g16, r1, m1O, att_sh]
  refine wp_then (lcFx_enc (fun s => .str (sText (srtW s))) fun s hs => ?_) fun ys m1 ⟨e1, e2⟩ => ?_
  · try simp only [Ev.v0, Ev.vs, Ev.kk, Ev.bin, Ev.cmp, Ev.bok, Ev.ofs, Ev.test, Ev.iteE, Ev.val, Ev.nt, Ev.an, Ev.orE, Ev.tt, Ev.enil, Ev.econs, Ev.tup, Ev.lst, Ev.fz, Ev.cell, Ev.ix, Ev.call, Ev.bi, Ev.bi2, Ev.isi, Ev.m1, Ev.attr, Ev.sl, Ev.lof, Ev.srt, Ev.chain, Ev.gv0, Ev.gvs, Ev.gt, Ev.gnil, Ev.gcons, Ev.asg, Ev.setix, Ev.ex, Ev.ret, Ev.iff, Ev.forr, Ev.snil, Ev.scons, Ev.iseq, Ev.irange, Ev.vwI, Ev.vwS, Ev.vwB, Ev.vwN, Ev.vwL, Ev.vwT, Ev.vwO, Ev.asb, Ev.ckT, Ev.addI, Ev.subI, Ev.ltI, Ev.leI, Ev.gtI, Ev.geI, Ev.eqI, Ev.neI, Ev.intI, Ev.absI, Ev.lenL, Ev.lenT, Ev.lenC, Ev.strS, Ev.tupL, Ev.tupT, Ev.po0, Ev.poi, Ev.slL, Ev.setf, Ev.make, Ev.callk, Ev.meth, Ev.ienum, Ev.dnew, Ev.ddis, Ev.dof, Ev.dcm, Ev.rev1, Ev.dget2, Ev.irev, Ev.lc, Ev.lcf, Ev.forf, Ev.wi0, Ev.wi1, List.set_cons_succ, List.set_cons_zero, Co.bind_assoc, List.map_cons, List.map_nil, List.cons_append, List.nil_append, List.length_cons, List.length_nil, List.replicate_succ, List.replicate_zero, Nat.reduceAdd, Nat.reduceSub, Nat.reduceLeDiff, decide_true, wp_ok, dR, share_text_ok (h.1 s hs)]
  · subst e1 e2
    have hj : joinO (.str bar_) (.lst (ws.map fun s => .str (sText (srtW s)))) m1 = .ok (.str (nText ws)) m1 := join_w (by show some _ = some _; simp only [List.map_map]; rfl) (srtWs_ok h).1
    try simp only [Ev.v0, Ev.vs, Ev.kk, Ev.bin, Ev.cmp, Ev.bok, Ev.ofs, Ev.test, Ev.iteE, Ev.val, Ev.nt, Ev.an, Ev.orE, Ev.tt, Ev.enil, Ev.econs, Ev.tup, Ev.lst, Ev.fz, Ev.cell, Ev.ix, Ev.call, Ev.bi, Ev.bi2, Ev.isi, Ev.m1, Ev.attr, Ev.sl, Ev.lof, Ev.srt, Ev.chain, Ev.gv0, Ev.gvs, Ev.gt, Ev.gnil, Ev.gcons, Ev.asg, Ev.setix, Ev.ex, Ev.ret, Ev.iff, Ev.forr, Ev.snil, Ev.scons, Ev.iseq, Ev.irange, Ev.vwI, Ev.vwS, Ev.vwB, Ev.vwN, Ev.vwL, Ev.vwT, Ev.vwO, Ev.asb, Ev.ckT, Ev.addI, Ev.subI, Ev.ltI, Ev.leI, Ev.gtI, Ev.geI, Ev.eqI, Ev.neI, Ev.intI, Ev.absI, Ev.lenL, Ev.lenT, Ev.lenC, Ev.strS, Ev.tupL, Ev.tupT, Ev.po0, Ev.poi, Ev.slL, Ev.setf, Ev.make, Ev.callk, Ev.meth, Ev.ienum, Ev.dnew, Ev.ddis, Ev.dof, Ev.dcm, Ev.rev1, Ev.dget2, Ev.irev, Ev.lc, Ev.lcf, Ev.forf, Ev.wi0, Ev.wi1, List.set_cons_succ, List.set_cons_zero, Co.bind_assoc, List.map_cons, List.map_nil, List.cons_append, List.nil_append, List.length_cons, List.length_nil, List.replicate_succ, List.replicate_zero, Nat.reduceAdd, Nat.reduceSub, Nat.reduceLeDiff, decide_true, wp_ok, hj]
    exact ⟨trivial, trivial⟩
/-- str(will) -/
theorem bi_str {n : Nat} {ws : List (Int × List (List Str))} {m : Mem} (h : WsOk ws) : biO (DG (n + 2)) .str (objW ws) m = .ok (.str (nText ws)) m := by
  show ((DG (n + 2)).call 16 [objW ws] m).bind (fun r m1 => ownRes .str r m1) = _
  rw [dR, str_ok h]
  rfl
theorem norS_pl {s : Int × List (List Str)} (h : ShareOk s) : pl 3 (norS s) = true := by
  simp only [pl, pls, Bool.and_true, Bool.and_eq_true]
  refine ⟨trivial, pls_all.mpr fun v hv => ?_⟩
  obtain ⟨g, hg, rfl⟩ := List.mem_map.mp hv
  simp only [pl]
  exact pls_names ((h.grp g hg).perm (srtS_perm g)).2.1
theorem norT_pl {ws : List (Int × List (List Str))} (h : WsOk ws) : pl 4 (.tup (ws.map norS)) = true := by
  simp only [pl]
  refine pls_all.mpr fun v hv => ?_
  obtain ⟨s, hs, rfl⟩ := List.mem_map.mp hv
  exact norS_pl (h.1 s hs)
theorem cmp_self {D : Cl} {n : Nat} {v : PV} {m : Mem} (h : pl n v = true) (hn : n ≤ 64) : cmpV D .eq v v m = .ok (.bl true) m ∧ cmpV D .ne v v m = .ok (.bl false) m := by
  obtain ⟨b, c1, c2, c3⟩ := eq_pl h h hn hn
  have hb : b = true := c3.mpr rfl
  subst hb
  have hv := pl_vw (m := m) h
  exact ⟨cmpV_pl (by rw [hv]; exact c1) (by rw [hv]; exact pl_nobj h), cmpV_pl (by rw [hv]; exact c2) (by rw [hv]; exact pl_nobj h)⟩
theorem eq_ok {n : Nat} {ws : List (Int × List (List Str))} {m : Mem} (h : WsOk ws) : RG (n + 1) 15 [objW ws, objW ws] m = .ok (.bl true) m := by
  refine wp_eq (call_wp (F := (2, 2, g15 100000)) rfl rfl ?_)
  have i1 : isiop (DG n).nC (.cls 0) (objW ws) = some true := rfl
  have hv : vw m (objW ws) = objW ws := rfl
  try simp only [Ev.v0, Ev.vs, Ev.kk, Ev.bin, Ev.cmp, Ev.bok, Ev.ofs, Ev.test, Ev.iteE, Ev.val, Ev.nt, Ev.an, Ev.orE, Ev.tt, Ev.enil, Ev.econs, Ev.tup, Ev.lst, Ev.fz, Ev.cell, Ev.ix, Ev.call, Ev.bi, Ev.bi2, Ev.isi, Ev.m1, Ev.attr, Ev.sl, Ev.lof, Ev.srt, Ev.chain, Ev.gv0, Ev.gvs, Ev.gt, Ev.gnil, Ev.gcons, Ev.asg, Ev.setix, Ev.ex, Ev.ret, Ev.iff, Ev.forr, Ev.snil, Ev.scons, Ev.iseq, Ev.irange, Ev.vwI, Ev.vwS, Ev.vwB, Ev.vwN, Ev.vwL, Ev.vwT, Ev.vwO, Ev.asb, Ev.ckT, Ev.addI, Ev.subI, Ev.ltI, Ev.leI, Ev.gtI, Ev.geI, Ev.eqI, Ev.neI, Ev.intI, Ev.absI, Ev.lenL, Ev.lenT, Ev.lenC, Ev.strS, Ev.tupL, Ev.tupT, Ev.po0, Ev.poi, Ev.slL, Ev.setf, Ev.make, Ev.callk, Ev.meth, Ev.ienum, Ev.dnew, Ev.ddis, Ev.dof, Ev.dcm, Ev.rev1, Ev.dget2, Ev.irev, Ev.lc, Ev.lcf, Ev.forf, Ev.wi0, Ev.wi1, List.set_cons_succ, List.set_cons_zero, Co.bind_assoc, List.map_cons, List.map_nil, List.cons_append, List.nil_append, List.length_cons, List.length_nil, List.replicate_succ, List.replicate_zero, Nat.reduceAdd, Nat.reduceSub, Nat.reduceLeDiff, decide_true, wp_ok, g15, i1, Option.map_some, att_sh, (cmp_self (D := DG n) (m := m) (norT_pl h) (by decide)).1]
  exact ⟨trivial, trivial⟩
/-- will != will, the same -/
theorem ne_ok {n : Nat} {ws : List (Int × List (List Str))} {m : Mem} (h : WsOk ws) : cmpV (DG (n + 1)) .ne (objW ws) (objW ws) m = .ok (.bl false) m := by
  show ((DG (n + 1)).call 15 [objW ws, objW ws] m).bind (fun r m1 => negO true r m1) = _
  rw [dR, eq_ok h]
  rfl
theorem addL {xs ys : List PV} (h : xs.length + ys.length ≤ 100000) : binop .add (.lst xs) (.lst ys) = some (.lst (xs ++ ys)) := by
  simp only [binop, if_pos h]
end My

end P_Xe
section P_Xf
set_option Elab.async false
set_option linter.all false
set_option maxRecDepth 100000
set_option maxHeartbeats 2000000
namespace My
open Co
open PySem (Str)
theorem keys_str : ∀ K : List Str, (kys K).mapM keyStr = some K
  | [] => rfl
  | k :: K => by
    show (Sum.inr k :: kys K).mapM keyStr = _
    rw [List.mapM_cons, keys_str K]
    rfl
theorem strPl {x : Str} (h : nameB x = true ∨ x = crown_) : pl 0 (.str x) = true := by
  rcases h with h | rfl
  · have := pls_all.mp (pls_names (ns := [x]) (by simpa using h)) (.str x) (by simp)
    exact this
  · decide +kernel
/-- the groups are of these names -/
def InN (ns : List Str) (s : Int × List (List Str)) : Prop := ∀ g ∈ s.2, ∀ x ∈ g, x ∈ ns
abbrev vT (K : List Str) : List PV := K.map fun _ => PV.bl true
theorem setT {x : Str} : ∀ K : List Str, setAll (kys K) (vT K) (.inr x) (.bl true) = vT K
  | [] => rfl
  | k :: K => by
    show (if (Sum.inr k : L2.Key) = .inr x then _ else PV.bl true) :: setAll (kys K) (vT K) (.inr x) _ = PV.bl true :: vT K
    rw [setT K]
    split <;> rfl
theorem putT {x : Str} {K : List Str} : dputv (kys K) (vT K) (.inr x) (.bl true) = (kys (stepK K x), vT (stepK K x)) := by
  unfold dputv
  rw [any_keyH]
  by_cases h : x ∈ K
  · rw [decide_eq_true h]
    dsimp only
    rw [setT]
    unfold stepK
    rw [if_pos h]
  · rw [decide_eq_false h]
    dsimp only
    unfold stepK
    rw [if_neg h]
    simp only [List.map_append, List.map_cons, List.map_nil]
theorem mergeT : ∀ {L K : List Str}, mergev (kys K) (vT K) (kys L) (vT L) = (kys (L.foldl stepK K), vT (L.foldl stepK K))
  | [], _ => rfl
  | x :: L, K => by
    show mergev (dputv (kys K) (vT K) (.inr x) (.bl true)).1 (dputv (kys K) (vT K) (.inr x) (.bl true)).2 (kys L) (vT L) = _
    rw [putT]
    exact mergeT (L := L)
theorem dcl_ok {f : PV → Mem → Out (Option (L2.Key × PV))} {g : List Str} {m : Mem} (hl : g.length < 1000) (hf : ∀ x ∈ g, f (.str x) m = .ok (some (.inr x, .bl true)) m) : ∀ (rest dn K : List Str), dn ++ rest = g → K.length ≤ dn.length → dcL f (.fix (g.map .str)) (rest.length + 1) dn.length (kys K) (vT K) m = .ok (kys (rest.foldl stepK K), vT (rest.foldl stepK K)) m
  | [], dn, K, h, hK => by
    unfold dcL
    have : srcAt (.fix (g.map .str)) m dn.length = some none := by
      show some (g.map PV.str)[dn.length]? = _
      rw [List.getElem?_eq_none]
      rw [List.length_map, ← h]
      simp
    rw [this]
    rfl
  | x :: rest, dn, K, h, hK => by
    unfold dcL
    have hx : srcAt (.fix (g.map .str)) m dn.length = some (some (.str x)) := by
      show some (g.map PV.str)[dn.length]? = _
      rw [← h]
      simp
    have hd : K.length < 100000 := by
      have := congrArg List.length h
      simp at this
      omega
    rw [hx]
    dsimp only
    rw [hf x (by rw [← h]; simp)]
    show ck (decide ((kys K).length < 100000)) (dcL f _ (rest.length + 1) (dn.length + 1) (dputv (kys K) (vT K) (.inr x) (.bl true)).1 (dputv (kys K) (vT K) (.inr x) (.bl true)).2 m) = _
    rw [putT, decide_eq_true (by rw [List.length_map]; exact hd)]
    show dcL f _ (rest.length + 1) (dn.length + 1) (kys (stepK K x)) (vT (stepK K x)) m = _
    have := dcl_ok hl hf rest (dn ++ [x]) (stepK K x) (by rw [← h]; simp) (by
      have := stepK_len (K := K) (x := x)
      rw [List.length_append]
      simp
      omega)
    rw [List.length_append] at this
    exact this
theorem belT (n : Nat) : ∀ K : List Str, belows n (vT K) = true
  | [] => rfl
  | k :: K => by
    show belows n (PV.bl true :: vT K) = true
    simp only [belows, below, belT n K, Bool.and_self]
/-- all names, each once -/
def NF : Ws → List Str → List Str
  | [], K => K
  | s :: r, K => NF r (s.2.foldl (fun K g => (g.foldl stepK []).foldl stepK K) K)
theorem NF_app {b : Ws} : ∀ {a : Ws} {K : List Str}, NF (a ++ b) K = NF b (NF a K)
  | [], _ => rfl
  | s :: a, K => NF_app (a := a)
theorem grpF_mem {y : Str} : ∀ {gs : List (List Str)} {K : List Str}, y ∈ gs.foldl (fun K g => (g.foldl stepK []).foldl stepK K) K ↔ y ∈ K ∨ ∃ g ∈ gs, y ∈ g
  | [], K => by simp
  | g :: gs, K => by
    rw [List.foldl_cons, grpF_mem, foldK_mem, foldK_mem]
    simp only [List.mem_cons, exists_eq_or_imp, or_assoc, List.not_mem_nil, false_or]
theorem NF_mem {y : Str} : ∀ {ws : Ws} {K : List Str}, y ∈ NF ws K ↔ y ∈ K ∨ ∃ s ∈ ws, ∃ g ∈ s.2, y ∈ g
  | [], K => by simp [NF]
  | s :: r, K => by
    unfold NF
    rw [NF_mem, grpF_mem]
    simp only [List.mem_cons, exists_eq_or_imp, or_assoc]
theorem grpF_len : ∀ {gs : List (List Str)} {K : List Str}, (∀ g ∈ gs, g.length ≤ 9) → (gs.foldl (fun K g => (g.foldl stepK []).foldl stepK K) K).length ≤ K.length + 9 * gs.length
  | [], K, _ => by simp
  | g :: gs, K, h => by
    rw [List.forall_mem_cons] at h
    rw [List.foldl_cons]
    have h1 := grpF_len (K := (g.foldl stepK []).foldl stepK K) h.2
    have h2 := foldK_len (h := g.foldl stepK []) (K := K)
    have h3 := foldK_len (h := g) (K := [])
    rw [List.length_nil] at h3
    rw [List.length_cons]
    have := h.1
    omega
def NamI (m : Mem) (ws : Ws) (e0 : Co.Env → Prop) (r : List PV) (env : Co.Env) (mm : Mem) : Prop := ∃ (dn rst : Ws), ws = dn ++ rst ∧ r = rst.map norS ∧ e0 env ∧ ∃ (l : Mem), m.length < mm.length ∧ mm.take m.length = m ∧ mm[m.length]? = some (.dic (kys (NF (dn.map srtW) [])) (vT (NF (dn.map srtW) []))) ∧ (NF (dn.map srtW) []).length ≤ 27 * dn.length
def GrpN (m : Mem) (K0 : List Str) (gs : List (List Str)) (e0 : Co.Env → Prop) (r : List PV) (env : Co.Env) (mm : Mem) : Prop := ∃ (dn rst : List (List Str)), gs = dn ++ rst ∧ r = rst.map norG ∧ e0 env ∧ m.length < mm.length ∧ mm.take m.length = m ∧ mm[m.length]? = some (.dic (kys ((dn.map srtS).foldl (fun K g => (g.foldl stepK []).foldl stepK K) K0)) (vT ((dn.map srtS).foldl (fun K g => (g.foldl stepK []).foldl stepK K) K0)))
theorem evDcm {g : GM} {it : IM} {t : TM} {k e : EM} {own : List Nat} {env : Co.Env} {m : Mem} : kDcm g it t k e own env m = (it env m).bind fun s m1 => (dcL (fun x m => match g x m (wipeE env own) with
    | some env' => (t env' m).bind fun b m2 => match b with
      | true => (k env' m2).bind fun q m3 => (e env' m3).bind fun y m4 => Out.of ((asKey q).map fun k => some (k, y)) m4
      | false => .ok none m2
    | none => .stuck) s (srcFuel s) 0 [] [] m1).bind fun r m2 => .ok (.ref m2.length) (m2 ++ [.dic r.1 r.2]) := rfl
theorem dcl_wp {f : PV → Mem → Out (Option (L2.Key × PV))} {g : List Str} {m : Mem} (hl : g.length < 1000) (hf : ∀ x ∈ g, f (.str x) m = .ok (some (.inr x, .bl true)) m) : wp (dcL f (.fix (g.map .str)) (srcFuel (.fix (g.map .str))) 0 [] [] m) fun r m1 => r = (kys (g.foldl stepK []), vT (g.foldl stepK [])) ∧ m1 = m := by
  have := dcl_ok hl hf g [] [] rfl (Nat.le_refl _)
  have e : srcFuel (.fix (g.map .str)) = g.length + 1 := by simp [srcFuel]
  rw [e]
  rw [show dcL f (.fix (g.map .str)) (g.length + 1) 0 [] [] m = _ from this]
  exact ⟨rfl, rfl⟩
theorem dup_ok {m : Mem} {p q : Nat} {K L : List Str} (hp : m[p]? = some (.dic (kys K) (vT K))) (hq : m[q]? = some (.dic (kys L) (vT L))) (hpq : p ≠ q) (hK : K.length ≤ 1000) (hL : L.length ≤ 1000) : dupO (.ref p) (.ref q) m = .ok .non (m.set p (.dic (kys (L.foldl stepK K)) (vT (L.foldl stepK K)))) := by
  unfold dupO
  dsimp only
  rw [hp]
  dsimp only
  rw [hq]
  dsimp only
  rw [decide_eq_true hpq, belT, decide_eq_true (by simp; omega), mergeT]
  rfl
theorem rec_dic {m : Mem} {n : Nat} {ks : List L2.Key} {vs : List PV} (h : m[n]? = some (.dic ks vs)) : recOk .dupd m (.ref n) = true := by
  simp only [recOk, h]
abbrev namesN : Str := sx [110, 97, 109, 101, 115]
def namV (ws : Ws) : PV := .tup ((srtS (NF ws [])).map .str)
theorem names_at {n : Nat} {ws : Ws} {m : Mem} : attO (DG n) namesN (objW ws) m = RG n 11 [objW ws] m := rfl
theorem stepK_sub {K ns : List Str} {x : Str} (h : ∀ y ∈ K, y ∈ ns) (hx : x ∈ ns) : ∀ y ∈ stepK K x, y ∈ ns := fun y hy => (stepK_mem.mp hy).elim (h y) fun e => e ▸ hx
theorem NF_few {ns : List Str} {ws : Ws} (hn : ∀ s ∈ ws, InN ns s) : (NF ws []).Nodup ∧ (NF ws []).length ≤ ns.length := by
  have h2 : ∀ (gs : List (List Str)) (K : List Str), K.Nodup → (gs.foldl (fun K g => (g.foldl stepK []).foldl stepK K) K).Nodup := fun gs => by
    induction gs with
    | nil => exact fun K h => h
    | cons g gs ih => exact fun K h => ih _ (foldK_nodup h)
  have h1 : ∀ (ws : Ws) (K : List Str), K.Nodup → (NF ws K).Nodup := fun ws => by
    induction ws with
    | nil => exact fun K h => h
    | cons s r ih => exact fun K h => ih _ (h2 _ _ h)
  have h3 := h1 ws [] List.nodup_nil
  refine ⟨h3, List.Nodup.length_le_of_subset h3 fun y hy => ?_⟩
  rcases NF_mem.mp hy with h | ⟨s, hs, g, hg, hy⟩
  · cases h
  · exact hn s hs g hg y hy
theorem InN_srt {ns : List Str} {ws : Ws} (hn : ∀ s ∈ ws, InN ns s) : ∀ s ∈ ws.map srtW, InN ns s := fun s hs g hg x hx => by
  obtain ⟨s', hs', rfl⟩ := List.mem_map.mp hs
  obtain ⟨g', hg', rfl⟩ := List.mem_map.mp hg
  exact hn s' hs' g' hg' x ((srtS_perm g').subset hx)
theorem wnames_ok {n : Nat} {ns : List Str} {ws : Ws} {m : Mem} (h : WsOk ws) (hn : ∀ s ∈ ws, InN ns s) (hnl : ns.length ≤ 60) : wp (RG (n + 1) 11 [objW ws] m) fun v m' => v = namV (ws.map srtW) ∧ ∃ l, m' = m ++ l := by
  refine call_wp (F := (1, 6, g11 100000)) rfl rfl ?_
  have hat : ∀ m, attO (DG n) shN (objW ws) m = .ok (.tup (ws.map norS)) m := fun _ => rfl
  try simp only [Ev.v0, Ev.vs, Ev.kk, Ev.bin, Ev.cmp, Ev.bok, Ev.ofs, Ev.test, Ev.iteE, Ev.val, Ev.nt, Ev.an, Ev.orE, Ev.tt, Ev.enil, Ev.econs, Ev.tup, Ev.lst, Ev.fz, Ev.cell, Ev.ix, Ev.call, Ev.bi, Ev.bi2, Ev.isi, Ev.m1, Ev.attr, Ev.sl, Ev.lof, Ev.srt, Ev.chain, Ev.gv0, Ev.gvs, Ev.gt, Ev.gnil, Ev.gcons, Ev.asg, Ev.setix, Ev.ex, Ev.ret, Ev.iff, Ev.forr, Ev.snil, Ev.scons, Ev.iseq, Ev.irange, Ev.vwI, Ev.vwS, Ev.vwB, Ev.vwN, Ev.vwL, Ev.vwT, Ev.vwO, Ev.asb, Ev.ckT, Ev.addI, Ev.subI, Ev.ltI, Ev.leI, Ev.gtI, Ev.geI, Ev.eqI, Ev.neI, Ev.intI, Ev.absI, Ev.lenL, Ev.lenT, Ev.lenC, Ev.strS, Ev.tupL, Ev.tupT, Ev.po0, Ev.poi, Ev.slL, Ev.setf, Ev.make, Ev.callk, Ev.meth, Ev.ienum, Ev.dnew, Ev.ddis, Ev.dof, Ev.dcm, Ev.rev1, Ev.dget2, Ev.irev, Ev.lc, Ev.lcf, Ev.forf, Ev.wi0, Ev.wi1, List.set_cons_succ, List.set_cons_zero, Co.bind_assoc, List.map_cons, List.map_nil, List.cons_append, List.nil_append, List.length_cons, List.length_nil, List.replicate_succ, List.replicate_zero, Nat.reduceAdd, Nat.reduceSub, Nat.reduceLeDiff, decide_true, wp_ok, g11, hat]
  refine wp_then (forFx_inv (I := NamI m ws fun env => ∃ a b c d : Option PV, env = [some (objW ws), some (.ref m.length), a, b, c, d]) (Q := fun q mm => q.1 = .nx ∧ NamI m ws (fun env => ∃ a b c d : Option PV, env = [some (objW ws), some (.ref m.length), a, b, c, d]) [] q.2 mm) (fun x r env mm hI => ?_) (fun env mm hI => ⟨rfl, hI⟩) _ _ _ ⟨[], ws, rfl, rfl, ⟨none, none, none, none, rfl⟩, [], by simp, by simp, by simp; rfl, by simp [NF]⟩) fun q mm ⟨h1, h2⟩ => ?_
  · obtain ⟨dn, rst, hws, hr, ⟨a, b, c, d, rfl⟩, l, hlt, htk, hc, hl⟩ := hI
    cases rst with
    | nil => cases hr
    | cons s rst =>
      rw [List.map_cons] at hr
      injection hr with hx hr
      subst hx hr
      have hS : ShareOk s := h.1 s (by rw [hws]; simp)
      have hS' := srtW_ok hS
      have hdl : dn.length ≤ 2 := by
        have h9 := congrArg List.length hws
        have := h.2.2
        simp at h9
        omega
      generalize hK0 : NF (dn.map srtW) [] = K0 at hc hl
      try simp only [Ev.v0, Ev.vs, Ev.kk, Ev.bin, Ev.cmp, Ev.bok, Ev.ofs, Ev.test, Ev.iteE, Ev.val, Ev.nt, Ev.an, Ev.orE, Ev.tt, Ev.enil, Ev.econs, Ev.tup, Ev.lst, Ev.fz, Ev.cell, Ev.ix, Ev.call, Ev.bi, Ev.bi2, Ev.isi, Ev.m1, Ev.attr, Ev.sl, Ev.lof, Ev.srt, Ev.chain, Ev.gv0, Ev.gvs, Ev.gt, Ev.gnil, Ev.gcons, Ev.asg, Ev.setix, Ev.ex, Ev.ret, Ev.iff, Ev.forr, Ev.snil, Ev.scons, Ev.iseq, Ev.irange, Ev.vwI, Ev.vwS, Ev.vwB, Ev.vwN, Ev.vwL, Ev.vwT, Ev.vwO, Ev.asb, Ev.ckT, Ev.addI, Ev.subI, Ev.ltI, Ev.leI, Ev.gtI, Ev.geI, Ev.eqI, Ev.neI, Ev.intI, Ev.absI, Ev.lenL, Ev.lenT, Ev.lenC, Ev.strS, Ev.tupL, Ev.tupT, Ev.po0, Ev.poi, Ev.slL, Ev.setf, Ev.make, Ev.callk, Ev.meth, Ev.ienum, Ev.dnew, Ev.ddis, Ev.dof, Ev.dcm, Ev.rev1, Ev.dget2, Ev.irev, Ev.lc, Ev.lcf, Ev.forf, Ev.wi0, Ev.wi1, List.set_cons_succ, List.set_cons_zero, Co.bind_assoc, List.map_cons, List.map_nil, List.cons_append, List.nil_append, List.length_cons, List.length_nil, List.replicate_succ, List.replicate_zero, Nat.reduceAdd, Nat.reduceSub, Nat.reduceLeDiff, decide_true, wp_ok]
      refine wp_then (forFx_inv (I := GrpN m K0 s.2 fun env => ∃ c d : Option PV, env = [some (objW ws), some (.ref m.length), some (.int s.1), some (.tup (s.2.map norG)), c, d]) (Q := fun q mm => q.1 = .nx ∧ GrpN m K0 s.2 (fun env => ∃ c d : Option PV, env = [some (objW ws), some (.ref m.length), some (.int s.1), some (.tup (s.2.map norG)), c, d]) [] q.2 mm) (fun x r env mm hI => ?_) (fun env mm hI => ⟨rfl, hI⟩) _ _ _ ⟨[], s.2, rfl, rfl, ⟨c, d, rfl⟩, hlt, htk, hc⟩) fun q m2 ⟨k1, dn2, rst2, k2, k3, ⟨c2, d2, k4⟩, k5, k6, k7⟩ => ?_
      · obtain ⟨dn2, rst2, hgs, hr, ⟨c2, d2, rfl⟩, hlt2, htk2, hc2⟩ := hI
        cases rst2 with
        | nil => cases hr
        | cons g rst2 =>
          rw [List.map_cons] at hr
          injection hr with hx hr
          subst hx hr
          have hg : NamesOk (srtS g) := (hS.grp g (by rw [hgs]; simp)).perm (srtS_perm g)
          have hgl := hg.2.2.2
          try simp only [Ev.v0, Ev.vs, Ev.kk, Ev.bin, Ev.cmp, Ev.bok, Ev.ofs, Ev.test, Ev.iteE, Ev.val, Ev.nt, Ev.an, Ev.orE, Ev.tt, Ev.enil, Ev.econs, Ev.tup, Ev.lst, Ev.fz, Ev.cell, Ev.ix, Ev.call, Ev.bi, Ev.bi2, Ev.isi, Ev.m1, Ev.attr, Ev.sl, Ev.lof, Ev.srt, Ev.chain, Ev.gv0, Ev.gvs, Ev.gt, Ev.gnil, Ev.gcons, Ev.asg, Ev.setix, Ev.ex, Ev.ret, Ev.iff, Ev.forr, Ev.snil, Ev.scons, Ev.iseq, Ev.irange, Ev.vwI, Ev.vwS, Ev.vwB, Ev.vwN, Ev.vwL, Ev.vwT, Ev.vwO, Ev.asb, Ev.ckT, Ev.addI, Ev.subI, Ev.ltI, Ev.leI, Ev.gtI, Ev.geI, Ev.eqI, Ev.neI, Ev.intI, Ev.absI, Ev.lenL, Ev.lenT, Ev.lenC, Ev.strS, Ev.tupL, Ev.tupT, Ev.po0, Ev.poi, Ev.slL, Ev.setf, Ev.make, Ev.callk, Ev.meth, Ev.ienum, Ev.dnew, Ev.ddis, Ev.dof, Ev.dcm, Ev.rev1, Ev.dget2, Ev.irev, Ev.lc, Ev.lcf, Ev.forf, Ev.wi0, Ev.wi1, List.set_cons_succ, List.set_cons_zero, Co.bind_assoc, List.map_cons, List.map_nil, List.cons_append, List.nil_append, List.length_cons, List.length_nil, List.replicate_succ, List.replicate_zero, Nat.reduceAdd, Nat.reduceSub, Nat.reduceLeDiff, decide_true, wp_ok, (rec_dic hc2), m1O, evDcm]
          refine wp_then (dcl_wp (g := srtS g) (by omega) fun x hx => ?_) fun r m3 ⟨e1, e2⟩ => ?_
          · try simp only [Ev.v0, Ev.vs, Ev.kk, Ev.bin, Ev.cmp, Ev.bok, Ev.ofs, Ev.test, Ev.iteE, Ev.val, Ev.nt, Ev.an, Ev.orE, Ev.tt, Ev.enil, Ev.econs, Ev.tup, Ev.lst, Ev.fz, Ev.cell, Ev.ix, Ev.call, Ev.bi, Ev.bi2, Ev.isi, Ev.m1, Ev.attr, Ev.sl, Ev.lof, Ev.srt, Ev.chain, Ev.gv0, Ev.gvs, Ev.gt, Ev.gnil, Ev.gcons, Ev.asg, Ev.setix, Ev.ex, Ev.ret, Ev.iff, Ev.forr, Ev.snil, Ev.scons, Ev.iseq, Ev.irange, Ev.vwI, Ev.vwS, Ev.vwB, Ev.vwN, Ev.vwL, Ev.vwT, Ev.vwO, Ev.asb, Ev.ckT, Ev.addI, Ev.subI, Ev.ltI, Ev.leI, Ev.gtI, Ev.geI, Ev.eqI, Ev.neI, Ev.intI, Ev.absI, Ev.lenL, Ev.lenT, Ev.lenC, Ev.strS, Ev.tupL, Ev.tupT, Ev.po0, Ev.poi, Ev.slL, Ev.setf, Ev.make, Ev.callk, Ev.meth, Ev.ienum, Ev.dnew, Ev.ddis, Ev.dof, Ev.dcm, Ev.rev1, Ev.dget2, Ev.irev, Ev.lc, Ev.lcf, Ev.forf, Ev.wi0, Ev.wi1, List.set_cons_succ, List.set_cons_zero, Co.bind_assoc, List.map_cons, List.map_nil, List.cons_append, List.nil_append, List.length_cons, List.length_nil, List.replicate_succ, List.replicate_zero, Nat.reduceAdd, Nat.reduceSub, Nat.reduceLeDiff, decide_true, wp_ok, asKey, Option.map_some]
          subst e1 e2
          have h6 : dn2.length ≤ 2 := by
            have h9 := congrArg List.length hgs
            have := hS.few
            simp at h9
            omega
          have hKl : ((dn2.map srtS).foldl (fun K g => (g.foldl stepK []).foldl stepK K) K0).length ≤ 1000 := by
            have := grpF_len (K := K0) (gs := dn2.map srtS) fun g' hg' => by
              obtain ⟨g2, hg2, rfl⟩ := List.mem_map.mp hg'
              exact ((hS.grp g2 (by rw [hgs]; exact List.mem_append_left _ hg2)).perm (srtS_perm g2)).2.2.2
            rw [List.length_map] at this
            omega
          have hgK : ((srtS g).foldl stepK []).length ≤ 1000 := by
            have := foldK_len (h := srtS g) (K := [])
            rw [List.length_nil] at this
            omega
          have hd := dup_ok (m := m3 ++ [Cell.dic (kys ((srtS g).foldl stepK [])) (vT ((srtS g).foldl stepK []))]) (p := m.length) (q := m3.length) (K := (dn2.map srtS).foldl (fun K g => (g.foldl stepK []).foldl stepK K) K0) (L := (srtS g).foldl stepK []) (by rw [List.getElem?_append_left hlt2]; exact hc2) (by simp) (by omega) hKl hgK
          try simp only [Ev.v0, Ev.vs, Ev.kk, Ev.bin, Ev.cmp, Ev.bok, Ev.ofs, Ev.test, Ev.iteE, Ev.val, Ev.nt, Ev.an, Ev.orE, Ev.tt, Ev.enil, Ev.econs, Ev.tup, Ev.lst, Ev.fz, Ev.cell, Ev.ix, Ev.call, Ev.bi, Ev.bi2, Ev.isi, Ev.m1, Ev.attr, Ev.sl, Ev.lof, Ev.srt, Ev.chain, Ev.gv0, Ev.gvs, Ev.gt, Ev.gnil, Ev.gcons, Ev.asg, Ev.setix, Ev.ex, Ev.ret, Ev.iff, Ev.forr, Ev.snil, Ev.scons, Ev.iseq, Ev.irange, Ev.vwI, Ev.vwS, Ev.vwB, Ev.vwN, Ev.vwL, Ev.vwT, Ev.vwO, Ev.asb, Ev.ckT, Ev.addI, Ev.subI, Ev.ltI, Ev.leI, Ev.gtI, Ev.geI, Ev.eqI, Ev.neI, Ev.intI, Ev.absI, Ev.lenL, Ev.lenT, Ev.lenC, Ev.strS, Ev.tupL, Ev.tupT, Ev.po0, Ev.poi, Ev.slL, Ev.setf, Ev.make, Ev.callk, Ev.meth, Ev.ienum, Ev.dnew, Ev.ddis, Ev.dof, Ev.dcm, Ev.rev1, Ev.dget2, Ev.irev, Ev.lc, Ev.lcf, Ev.forf, Ev.wi0, Ev.wi1, List.set_cons_succ, List.set_cons_zero, Co.bind_assoc, List.map_cons, List.map_nil, List.cons_append, List.nil_append, List.length_cons, List.length_nil, List.replicate_succ, List.replicate_zero, Nat.reduceAdd, Nat.reduceSub, Nat.reduceLeDiff, decide_true, wp_ok, hd]
          refine ⟨dn2 ++ [g], rst2, by rw [hgs]; simp, rfl, ⟨_, _, rfl⟩, by simp; omega, ?_, ?_⟩
          · rw [List.take_set_of_le (Nat.le_refl _), List.take_append_of_le_length (by omega), htk2]
          · rw [List.getElem?_set_self (by simp; omega), List.map_append, List.foldl_append]
            rfl
      · have : rst2 = [] := by
          cases rst2 with
          | nil => rfl
          | cons g r => cases k3
        subst this
        rw [List.append_nil] at k2
        subst k2
        rw [k1]
        dsimp only
        rw [k4]
        try simp only [Ev.v0, Ev.vs, Ev.kk, Ev.bin, Ev.cmp, Ev.bok, Ev.ofs, Ev.test, Ev.iteE, Ev.val, Ev.nt, Ev.an, Ev.orE, Ev.tt, Ev.enil, Ev.econs, Ev.tup, Ev.lst, Ev.fz, Ev.cell, Ev.ix, Ev.call, Ev.bi, Ev.bi2, Ev.isi, Ev.m1, Ev.attr, Ev.sl, Ev.lof, Ev.srt, Ev.chain, Ev.gv0, Ev.gvs, Ev.gt, Ev.gnil, Ev.gcons, Ev.asg, Ev.setix, Ev.ex, Ev.ret, Ev.iff, Ev.forr, Ev.snil, Ev.scons, Ev.iseq, Ev.irange, Ev.vwI, Ev.vwS, Ev.vwB, Ev.vwN, Ev.vwL, Ev.vwT, Ev.vwO, Ev.asb, Ev.ckT, Ev.addI, Ev.subI, Ev.ltI, Ev.leI, Ev.gtI, Ev.geI, Ev.eqI, Ev.neI, Ev.intI, Ev.absI, Ev.lenL, Ev.lenT, Ev.lenC, Ev.strS, Ev.tupL, Ev.tupT, Ev.po0, Ev.poi, Ev.slL, Ev.setf, Ev.make, Ev.callk, Ev.meth, Ev.ienum, Ev.dnew, Ev.ddis, Ev.dof, Ev.dcm, Ev.rev1, Ev.dget2, Ev.irev, Ev.lc, Ev.lcf, Ev.forf, Ev.wi0, Ev.wi1, List.set_cons_succ, List.set_cons_zero, Co.bind_assoc, List.map_cons, List.map_nil, List.cons_append, List.nil_append, List.length_cons, List.length_nil, List.replicate_succ, List.replicate_zero, Nat.reduceAdd, Nat.reduceSub, Nat.reduceLeDiff, decide_true, wp_ok]
        have hN : NF ((dn ++ [s]).map srtW) [] = (s.2.map srtS).foldl (fun K g => (g.foldl stepK []).foldl stepK K) K0 := by
          rw [List.map_append, NF_app, hK0]
          rfl
        refine ⟨dn ++ [s], rst, by rw [hws]; simp, rfl, ⟨_, _, _, _, rfl⟩, [], k5, k6, by rw [hN]; exact k7, ?_⟩
        rw [hN]
        have h3 := grpF_len (K := K0) (gs := s.2.map srtS) fun g' hg' => (hS'.grp g' hg').2.2.2
        have h4 := hS.few
        rw [List.length_map] at h3
        rw [List.length_append, List.length_cons, List.length_nil]
        omega
  · obtain ⟨dn, rst, hws, hr, ⟨a, b, c, d, hE⟩, l, hlt, htk, hc, hl⟩ := h2
    have : rst = [] := by
      cases rst with
      | nil => rfl
      | cons g r => cases hr
    subst this
    rw [List.append_nil] at hws
    subst hws
    rw [h1]
    dsimp only
    rw [hE]
    have hws3 := h.2.2
    have hsr : srtO (.dic (kys (NF (ws.map srtW) [])) (vT (NF (ws.map srtW) []))) = some ((srtS (NF (ws.map srtW) [])).map .str) := by
      show ((kys (NF (ws.map srtW) [])).mapM keyStr).bind (fun ss => if ss.length < 64 then some ((srtS ss).map PV.str) else none) = _
      rw [keys_str]
      show (if (NF (ws.map srtW) []).length < 64 then _ else _) = _
      rw [if_pos (by have := (NF_few (InN_srt hn)).2; omega)]
    try simp only [Ev.v0, Ev.vs, Ev.kk, Ev.bin, Ev.cmp, Ev.bok, Ev.ofs, Ev.test, Ev.iteE, Ev.val, Ev.nt, Ev.an, Ev.orE, Ev.tt, Ev.enil, Ev.econs, Ev.tup, Ev.lst, Ev.fz, Ev.cell, Ev.ix, Ev.call, Ev.bi, Ev.bi2, Ev.isi, Ev.m1, Ev.attr, Ev.sl, Ev.lof, Ev.srt, Ev.chain, Ev.gv0, Ev.gvs, Ev.gt, Ev.gnil, Ev.gcons, Ev.asg, Ev.setix, Ev.ex, Ev.ret, Ev.iff, Ev.forr, Ev.snil, Ev.scons, Ev.iseq, Ev.irange, Ev.vwI, Ev.vwS, Ev.vwB, Ev.vwN, Ev.vwL, Ev.vwT, Ev.vwO, Ev.asb, Ev.ckT, Ev.addI, Ev.subI, Ev.ltI, Ev.leI, Ev.gtI, Ev.geI, Ev.eqI, Ev.neI, Ev.intI, Ev.absI, Ev.lenL, Ev.lenT, Ev.lenC, Ev.strS, Ev.tupL, Ev.tupT, Ev.po0, Ev.poi, Ev.slL, Ev.setf, Ev.make, Ev.callk, Ev.meth, Ev.ienum, Ev.dnew, Ev.ddis, Ev.dof, Ev.dcm, Ev.rev1, Ev.dget2, Ev.irev, Ev.lc, Ev.lcf, Ev.forf, Ev.wi0, Ev.wi1, List.set_cons_succ, List.set_cons_zero, Co.bind_assoc, List.map_cons, List.map_nil, List.cons_append, List.nil_append, List.length_cons, List.length_nil, List.replicate_succ, List.replicate_zero, Nat.reduceAdd, Nat.reduceSub, Nat.reduceLeDiff, decide_true, wp_ok, Ev.vwD hc, hsr]
    have e9 := List.take_append_drop m.length mm
    rw [htk] at e9
    exact ⟨rfl, mm.drop m.length, e9.symm⟩
end My

end P_Xf
section P_Xg
set_option Elab.async false
set_option linter.all false
set_option maxRecDepth 100000
set_option maxHeartbeats 2000000
namespace My
open Co
open PySem (Str)
abbrev encP (p : Str × Int) : PV := .tup [.str p.1, .int p.2]
abbrev encW (p : Str × Ws) : PV := .tup [.str p.1, objW p.2]
abbrev encF (p : Str × Str) : PV := .tup [.str p.1, .str p.2]
theorem range_ok {i : Nat} (h : i ≤ 1000) : (decide (-100000 ≤ (i : Int)) && decide ((i : Int) ≤ 100000)) = true := by
  rw [decide_eq_true (by omega), decide_eq_true (by omega)]
  rfl
theorem is_seqQ {n : Nat} {v : PV} {xs : List PV} {m : Mem} (h : isq m v xs) : RG (n + 1) 4 [v] m = .ok (.bl true) m := by
  refine wp_eq (call_wp (F := (1, 1, g4 100000)) rfl rfl ?_)
  have e := isq_seq h (k := (DG n).nC)
  try simp only [Ev.v0, Ev.vs, Ev.kk, Ev.bin, Ev.cmp, Ev.bok, Ev.ofs, Ev.test, Ev.iteE, Ev.val, Ev.nt, Ev.an, Ev.orE, Ev.tt, Ev.enil, Ev.econs, Ev.tup, Ev.lst, Ev.fz, Ev.cell, Ev.ix, Ev.call, Ev.bi, Ev.bi2, Ev.isi, Ev.m1, Ev.attr, Ev.sl, Ev.lof, Ev.srt, Ev.chain, Ev.gv0, Ev.gvs, Ev.gt, Ev.gnil, Ev.gcons, Ev.asg, Ev.setix, Ev.ex, Ev.ret, Ev.iff, Ev.forr, Ev.snil, Ev.scons, Ev.iseq, Ev.irange, Ev.vwI, Ev.vwS, Ev.vwB, Ev.vwN, Ev.vwL, Ev.vwT, Ev.vwO, Ev.asb, Ev.ckT, Ev.addI, Ev.subI, Ev.ltI, Ev.leI, Ev.gtI, Ev.geI, Ev.eqI, Ev.neI, Ev.intI, Ev.absI, Ev.lenL, Ev.lenT, Ev.lenC, Ev.strS, Ev.tupL, Ev.tupT, Ev.po0, Ev.poi, Ev.slL, Ev.setf, Ev.make, Ev.callk, Ev.meth, Ev.ienum, Ev.dnew, Ev.ddis, Ev.dof, Ev.dcm, Ev.rev1, Ev.dget2, Ev.irev, Ev.lc, Ev.lcf, Ev.forf, Ev.wi0, Ev.wi1, List.set_cons_succ, List.set_cons_zero, Co.bind_assoc, List.map_cons, List.map_nil, List.cons_append, List.nil_append, List.length_cons, List.length_nil, List.replicate_succ, List.replicate_zero, Nat.reduceAdd, Nat.reduceSub, Nat.reduceLeDiff, decide_true, wp_ok, g4, e, Option.map_some]
  exact ⟨trivial, trivial⟩
theorem are_pairs_ok {n : Nat} {α : Type} {enc : α → PV} {v : PV} {ws : List α} {m : Mem} (h : isq m v (ws.map enc)) (hl : ws.length ≤ 1000) (hx : ∀ s ∈ ws, ∃ a b, enc s = .tup [a, b]) : RG (n + 2) 17 [v] m = .ok (.bl true) m := by
  refine wp_eq (call_wp (F := (1, 2, g17 100000)) rfl rfl ?_)
  have hs := fun (a : EM) (env : Co.Env) (ha : a env m = .ok v m) => iseqQ h ha
  try simp only [Ev.v0, Ev.vs, Ev.kk, Ev.bin, Ev.cmp, Ev.bok, Ev.ofs, Ev.test, Ev.iteE, Ev.val, Ev.nt, Ev.an, Ev.orE, Ev.tt, Ev.enil, Ev.econs, Ev.tup, Ev.lst, Ev.fz, Ev.cell, Ev.ix, Ev.call, Ev.bi, Ev.bi2, Ev.isi, Ev.m1, Ev.attr, Ev.sl, Ev.lof, Ev.srt, Ev.chain, Ev.gv0, Ev.gvs, Ev.gt, Ev.gnil, Ev.gcons, Ev.asg, Ev.setix, Ev.ex, Ev.ret, Ev.iff, Ev.forr, Ev.snil, Ev.scons, Ev.irange, Ev.vwI, Ev.vwS, Ev.vwB, Ev.vwN, Ev.vwL, Ev.vwT, Ev.vwO, Ev.asb, Ev.ckT, Ev.addI, Ev.subI, Ev.ltI, Ev.leI, Ev.gtI, Ev.geI, Ev.eqI, Ev.neI, Ev.intI, Ev.absI, Ev.lenL, Ev.lenT, Ev.lenC, Ev.strS, Ev.tupL, Ev.tupT, Ev.po0, Ev.poi, Ev.slL, Ev.setf, Ev.make, Ev.callk, Ev.meth, Ev.ienum, Ev.dnew, Ev.ddis, Ev.dof, Ev.dcm, Ev.rev1, Ev.dget2, Ev.irev, Ev.lc, Ev.lcf, Ev.forf, Ev.wi0, Ev.wi1, List.set_cons_succ, List.set_cons_zero, Co.bind_assoc, List.map_cons, List.map_nil, List.cons_append, List.nil_append, List.length_cons, List.length_nil, List.replicate_succ, List.replicate_zero, Nat.reduceAdd, Nat.reduceSub, Nat.reduceLeDiff, decide_true, wp_ok, eq_self, g17, dR, is_seqQ h]
  rw [hs _ _ rfl]
  try simp only [Ev.v0, Ev.vs, Ev.kk, Ev.bin, Ev.cmp, Ev.bok, Ev.ofs, Ev.test, Ev.iteE, Ev.val, Ev.nt, Ev.an, Ev.orE, Ev.tt, Ev.enil, Ev.econs, Ev.tup, Ev.lst, Ev.fz, Ev.cell, Ev.ix, Ev.call, Ev.bi, Ev.bi2, Ev.isi, Ev.m1, Ev.attr, Ev.sl, Ev.lof, Ev.srt, Ev.chain, Ev.gv0, Ev.gvs, Ev.gt, Ev.gnil, Ev.gcons, Ev.asg, Ev.setix, Ev.ex, Ev.ret, Ev.iff, Ev.forr, Ev.snil, Ev.scons, Ev.irange, Ev.vwI, Ev.vwS, Ev.vwB, Ev.vwN, Ev.vwL, Ev.vwT, Ev.vwO, Ev.asb, Ev.ckT, Ev.addI, Ev.subI, Ev.ltI, Ev.leI, Ev.gtI, Ev.geI, Ev.eqI, Ev.neI, Ev.intI, Ev.absI, Ev.lenL, Ev.lenT, Ev.lenC, Ev.strS, Ev.tupL, Ev.tupT, Ev.po0, Ev.poi, Ev.slL, Ev.setf, Ev.make, Ev.callk, Ev.meth, Ev.ienum, Ev.dnew, Ev.ddis, Ev.dof, Ev.dcm, Ev.rev1, Ev.dget2, Ev.irev, Ev.lc, Ev.lcf, Ev.forf, Ev.wi0, Ev.wi1, List.set_cons_succ, List.set_cons_zero, Co.bind_assoc, List.map_cons, List.map_nil, List.cons_append, List.nil_append, List.length_cons, List.length_nil, List.replicate_succ, List.replicate_zero, Nat.reduceAdd, Nat.reduceSub, Nat.reduceLeDiff, decide_true, wp_ok, eq_self]
  refine wp_then (lcS_q (fun _ => .bl true) h (by omega) fun s hs => ?_) fun ys m1 ⟨e1, e2⟩ => ?_
  · obtain ⟨a, b, e⟩ := hx s hs
    rw [e]
    have i1 : isiop (DG (n + 1)).nC .tuple (.tup [a, b]) = some true := rfl
    have e0 : decide (((0 + 1 + 1 : Nat) : Int) = 2) = true := rfl
    try simp only [Ev.v0, Ev.vs, Ev.kk, Ev.bin, Ev.cmp, Ev.bok, Ev.ofs, Ev.test, Ev.iteE, Ev.val, Ev.nt, Ev.an, Ev.orE, Ev.tt, Ev.enil, Ev.econs, Ev.tup, Ev.lst, Ev.fz, Ev.cell, Ev.ix, Ev.call, Ev.bi, Ev.bi2, Ev.isi, Ev.m1, Ev.attr, Ev.sl, Ev.lof, Ev.srt, Ev.chain, Ev.gv0, Ev.gvs, Ev.gt, Ev.gnil, Ev.gcons, Ev.asg, Ev.setix, Ev.ex, Ev.ret, Ev.iff, Ev.forr, Ev.snil, Ev.scons, Ev.iseq, Ev.irange, Ev.vwI, Ev.vwS, Ev.vwB, Ev.vwN, Ev.vwL, Ev.vwT, Ev.vwO, Ev.asb, Ev.ckT, Ev.addI, Ev.subI, Ev.ltI, Ev.leI, Ev.gtI, Ev.geI, Ev.eqI, Ev.neI, Ev.intI, Ev.absI, Ev.lenL, Ev.lenT, Ev.lenC, Ev.strS, Ev.tupL, Ev.tupT, Ev.po0, Ev.poi, Ev.slL, Ev.setf, Ev.make, Ev.callk, Ev.meth, Ev.ienum, Ev.dnew, Ev.ddis, Ev.dof, Ev.dcm, Ev.rev1, Ev.dget2, Ev.irev, Ev.lc, Ev.lcf, Ev.forf, Ev.wi0, Ev.wi1, List.set_cons_succ, List.set_cons_zero, Co.bind_assoc, List.map_cons, List.map_nil, List.cons_append, List.nil_append, List.length_cons, List.length_nil, List.replicate_succ, List.replicate_zero, Nat.reduceAdd, Nat.reduceSub, Nat.reduceLeDiff, decide_true, wp_ok, i1, Option.map_some, e0]
  · subst e1 e2
    try simp only [Ev.v0, Ev.vs, Ev.kk, Ev.bin, Ev.cmp, Ev.bok, Ev.ofs, Ev.test, Ev.iteE, Ev.val, Ev.nt, Ev.an, Ev.orE, Ev.tt, Ev.enil, Ev.econs, Ev.tup, Ev.lst, Ev.fz, Ev.cell, Ev.ix, Ev.call, Ev.bi, Ev.bi2, Ev.isi, Ev.m1, Ev.attr, Ev.sl, Ev.lof, Ev.srt, Ev.chain, Ev.gv0, Ev.gvs, Ev.gt, Ev.gnil, Ev.gcons, Ev.asg, Ev.setix, Ev.ex, Ev.ret, Ev.iff, Ev.forr, Ev.snil, Ev.scons, Ev.iseq, Ev.irange, Ev.vwI, Ev.vwS, Ev.vwB, Ev.vwN, Ev.vwL, Ev.vwT, Ev.vwO, Ev.asb, Ev.ckT, Ev.addI, Ev.subI, Ev.ltI, Ev.leI, Ev.gtI, Ev.geI, Ev.eqI, Ev.neI, Ev.intI, Ev.absI, Ev.lenL, Ev.lenT, Ev.lenC, Ev.strS, Ev.tupL, Ev.tupT, Ev.po0, Ev.poi, Ev.slL, Ev.setf, Ev.make, Ev.callk, Ev.meth, Ev.ienum, Ev.dnew, Ev.ddis, Ev.dof, Ev.dcm, Ev.rev1, Ev.dget2, Ev.irev, Ev.lc, Ev.lcf, Ev.forf, Ev.wi0, Ev.wi1, List.set_cons_succ, List.set_cons_zero, Co.bind_assoc, List.map_cons, List.map_nil, List.cons_append, List.nil_append, List.length_cons, List.length_nil, List.replicate_succ, List.replicate_zero, Nat.reduceAdd, Nat.reduceSub, Nat.reduceLeDiff, decide_true, wp_ok, all_true]
    exact ⟨trivial, trivial⟩
theorem are_unlike_ok {n : Nat} {g : List Str} {m : Mem} (h1 : g.Nodup) (h2 : ∀ x ∈ g, nameB x = true) (hl : g.length ≤ 1000) : RG (n + 1) 18 [.lst (g.map .str)] m = .ok (.bl true) m := by
  refine wp_eq (call_wp (F := (1, 2, g18 100000)) rfl rfl ?_)
  try simp only [Ev.v0, Ev.vs, Ev.kk, Ev.bin, Ev.cmp, Ev.bok, Ev.ofs, Ev.test, Ev.iteE, Ev.val, Ev.nt, Ev.an, Ev.orE, Ev.tt, Ev.enil, Ev.econs, Ev.tup, Ev.lst, Ev.fz, Ev.cell, Ev.ix, Ev.call, Ev.bi, Ev.bi2, Ev.isi, Ev.m1, Ev.attr, Ev.sl, Ev.lof, Ev.srt, Ev.chain, Ev.gv0, Ev.gvs, Ev.gt, Ev.gnil, Ev.gcons, Ev.asg, Ev.setix, Ev.ex, Ev.ret, Ev.iff, Ev.forr, Ev.snil, Ev.scons, Ev.iseq, Ev.irange, Ev.vwI, Ev.vwS, Ev.vwB, Ev.vwN, Ev.vwL, Ev.vwT, Ev.vwO, Ev.asb, Ev.ckT, Ev.addI, Ev.subI, Ev.ltI, Ev.leI, Ev.gtI, Ev.geI, Ev.eqI, Ev.neI, Ev.intI, Ev.absI, Ev.lenL, Ev.lenT, Ev.lenC, Ev.strS, Ev.tupL, Ev.tupT, Ev.po0, Ev.poi, Ev.slL, Ev.setf, Ev.make, Ev.callk, Ev.meth, Ev.ienum, Ev.dnew, Ev.ddis, Ev.dof, Ev.dcm, Ev.rev1, Ev.dget2, Ev.irev, Ev.lc, Ev.lcf, Ev.forf, Ev.wi0, Ev.wi1, List.set_cons_succ, List.set_cons_zero, Co.bind_assoc, List.map_cons, List.map_nil, List.cons_append, List.nil_append, List.length_cons, List.length_nil, List.replicate_succ, List.replicate_zero, Nat.reduceAdd, Nat.reduceSub, Nat.reduceLeDiff, decide_true, wp_ok, g18, List.length_map, range_ok hl]
  refine wp_then (lcFx_wp (fun _ => .bl true) fun q hq => ?_) fun ys m1 ⟨e1, e2⟩ => ?_
  · obtain ⟨i, hi, rfl⟩ := List.mem_map.mp hq
    have hi2 : i < g.length := by
      have := List.mem_range.mp hi
      omega
    have hix : ixop (.lst (g.map .str)) (.int (i : Int)) = some (.str g[i]) := atI_str hi2
    have hcut : cutP (g.map PV.str) none (some (i : Int)) = (g.take i).map PV.str := by rw [cut_take (Int.natCast_nonneg i), Int.toNat_natCast, List.map_take]
    have hin : cmpV (DG n) .nmem (.str g[i]) (.lst ((g.take i).map .str)) m = .ok (.bl true) m := by
      obtain ⟨b, c1, c2⟩ := in_pl (n := 0) (k := 0) (a := .str g[i]) (ys := (g.take i).map .str) (by have := pls_all.mp (pls_names h2) (.str g[i]) (List.mem_map.mpr ⟨_, List.getElem_mem hi2, rfl⟩); exact this) (pls_names fun x hx => h2 x (List.mem_of_mem_take hx)) (by decide) (by decide)
      have hb : b = false := int_iff c2 (by
        intro hm
        obtain ⟨x, hx, e⟩ := List.mem_map.mp hm
        injection e with e
        subst e
        exact nodup_take h1 hi2 hx)
      subst hb
      exact cmpV_pl (c1 _ (by first | exact .inl rfl | exact .inr rfl)).2 (by intro _ _ _ e; cases e)
    try simp only [Ev.v0, Ev.vs, Ev.kk, Ev.bin, Ev.cmp, Ev.bok, Ev.ofs, Ev.test, Ev.iteE, Ev.val, Ev.nt, Ev.an, Ev.orE, Ev.tt, Ev.enil, Ev.econs, Ev.tup, Ev.lst, Ev.fz, Ev.cell, Ev.ix, Ev.call, Ev.bi, Ev.bi2, Ev.isi, Ev.m1, Ev.attr, Ev.sl, Ev.lof, Ev.srt, Ev.chain, Ev.gv0, Ev.gvs, Ev.gt, Ev.gnil, Ev.gcons, Ev.asg, Ev.setix, Ev.ex, Ev.ret, Ev.iff, Ev.forr, Ev.snil, Ev.scons, Ev.iseq, Ev.irange, Ev.vwI, Ev.vwS, Ev.vwB, Ev.vwN, Ev.vwL, Ev.vwT, Ev.vwO, Ev.asb, Ev.ckT, Ev.addI, Ev.subI, Ev.ltI, Ev.leI, Ev.gtI, Ev.geI, Ev.eqI, Ev.neI, Ev.intI, Ev.absI, Ev.lenL, Ev.lenT, Ev.lenC, Ev.strS, Ev.tupL, Ev.tupT, Ev.po0, Ev.poi, Ev.slL, Ev.setf, Ev.make, Ev.callk, Ev.meth, Ev.ienum, Ev.dnew, Ev.ddis, Ev.dof, Ev.dcm, Ev.rev1, Ev.dget2, Ev.irev, Ev.lc, Ev.lcf, Ev.forf, Ev.wi0, Ev.wi1, List.set_cons_succ, List.set_cons_zero, Co.bind_assoc, List.map_cons, List.map_nil, List.cons_append, List.nil_append, List.length_cons, List.length_nil, List.replicate_succ, List.replicate_zero, Nat.reduceAdd, Nat.reduceSub, Nat.reduceLeDiff, decide_true, wp_ok, hix, hcut, hin]
  · subst e1 e2
    try simp only [Ev.v0, Ev.vs, Ev.kk, Ev.bin, Ev.cmp, Ev.bok, Ev.ofs, Ev.test, Ev.iteE, Ev.val, Ev.nt, Ev.an, Ev.orE, Ev.tt, Ev.enil, Ev.econs, Ev.tup, Ev.lst, Ev.fz, Ev.cell, Ev.ix, Ev.call, Ev.bi, Ev.bi2, Ev.isi, Ev.m1, Ev.attr, Ev.sl, Ev.lof, Ev.srt, Ev.chain, Ev.gv0, Ev.gvs, Ev.gt, Ev.gnil, Ev.gcons, Ev.asg, Ev.setix, Ev.ex, Ev.ret, Ev.iff, Ev.forr, Ev.snil, Ev.scons, Ev.iseq, Ev.irange, Ev.vwI, Ev.vwS, Ev.vwB, Ev.vwN, Ev.vwL, Ev.vwT, Ev.vwO, Ev.asb, Ev.ckT, Ev.addI, Ev.subI, Ev.ltI, Ev.leI, Ev.gtI, Ev.geI, Ev.eqI, Ev.neI, Ev.intI, Ev.absI, Ev.lenL, Ev.lenT, Ev.lenC, Ev.strS, Ev.tupL, Ev.tupT, Ev.po0, Ev.poi, Ev.slL, Ev.setf, Ev.make, Ev.callk, Ev.meth, Ev.ienum, Ev.dnew, Ev.ddis, Ev.dof, Ev.dcm, Ev.rev1, Ev.dget2, Ev.irev, Ev.lc, Ev.lcf, Ev.forf, Ev.wi0, Ev.wi1, List.set_cons_succ, List.set_cons_zero, Co.bind_assoc, List.map_cons, List.map_nil, List.cons_append, List.nil_append, List.length_cons, List.length_nil, List.replicate_succ, List.replicate_zero, Nat.reduceAdd, Nat.reduceSub, Nat.reduceLeDiff, decide_true, wp_ok, all_true]
    exact ⟨trivial, trivial⟩
theorem is_number_ok {n : Nat} {i : Int} {m : Mem} (h : 0 ≤ i) : RG (n + 2) 2 [.int i] m = .ok (.bl true) m := by
  refine wp_eq (call_wp (F := (1, 1, g2 100000)) rfl rfl ?_)
  try simp only [Ev.v0, Ev.vs, Ev.kk, Ev.bin, Ev.cmp, Ev.bok, Ev.ofs, Ev.test, Ev.iteE, Ev.val, Ev.nt, Ev.an, Ev.orE, Ev.tt, Ev.enil, Ev.econs, Ev.tup, Ev.lst, Ev.fz, Ev.cell, Ev.ix, Ev.call, Ev.bi, Ev.bi2, Ev.isi, Ev.m1, Ev.attr, Ev.sl, Ev.lof, Ev.srt, Ev.chain, Ev.gv0, Ev.gvs, Ev.gt, Ev.gnil, Ev.gcons, Ev.asg, Ev.setix, Ev.ex, Ev.ret, Ev.iff, Ev.forr, Ev.snil, Ev.scons, Ev.iseq, Ev.irange, Ev.vwI, Ev.vwS, Ev.vwB, Ev.vwN, Ev.vwL, Ev.vwT, Ev.vwO, Ev.asb, Ev.ckT, Ev.addI, Ev.subI, Ev.ltI, Ev.leI, Ev.gtI, Ev.geI, Ev.eqI, Ev.neI, Ev.intI, Ev.absI, Ev.lenL, Ev.lenT, Ev.lenC, Ev.strS, Ev.tupL, Ev.tupT, Ev.po0, Ev.poi, Ev.slL, Ev.setf, Ev.make, Ev.callk, Ev.meth, Ev.ienum, Ev.dnew, Ev.ddis, Ev.dof, Ev.dcm, Ev.rev1, Ev.dget2, Ev.irev, Ev.lc, Ev.lcf, Ev.forf, Ev.wi0, Ev.wi1, List.set_cons_succ, List.set_cons_zero, Co.bind_assoc, List.map_cons, List.map_nil, List.cons_append, List.nil_append, List.length_cons, List.length_nil, List.replicate_succ, List.replicate_zero, Nat.reduceAdd, Nat.reduceSub, Nat.reduceLeDiff, decide_true, wp_ok, g2, dR, is_integer_ok, decide_eq_true h]
  exact ⟨trivial, trivial⟩
/-- people -/
structure PplOk (P : List (Str × Int)) : Prop where
  nd : (P.map (·.1)).Nodup
  nm : ∀ p ∈ P, nameB p.1 = true
  am : ∀ p ∈ P, 0 ≤ p.2
  ne : P ≠ []
  few : P.length ≤ 30
theorem are_people_ok {n : Nat} {v : PV} {P : List (Str × Int)} {m : Mem} (h : isq m v (P.map encP)) (hP : PplOk P) : RG (n + 3) 19 [v] m = .ok (.bl true) m := by
  refine wp_eq (call_wp (F := (1, 3, g19 100000)) rfl rfl ?_)
  have hs := fun (a : EM) (env : Co.Env) (ha : a env m = .ok v m) => iseqQ h ha
  have hf := hP.few
  have hpos : 0 < P.length := List.length_pos_iff.mpr hP.ne
  have e0 : decide ((P.length : Int) = 0) = false := decide_eq_false (by omega)
  have hpr : RG (n + 2) 17 [v] m = .ok (.bl true) m := are_pairs_ok h (by omega) fun s _ => ⟨_, _, rfl⟩
  try simp only [Ev.v0, Ev.vs, Ev.kk, Ev.bin, Ev.cmp, Ev.bok, Ev.ofs, Ev.test, Ev.iteE, Ev.val, Ev.nt, Ev.an, Ev.orE, Ev.tt, Ev.enil, Ev.econs, Ev.tup, Ev.lst, Ev.fz, Ev.cell, Ev.ix, Ev.call, Ev.bi, Ev.bi2, Ev.isi, Ev.m1, Ev.attr, Ev.sl, Ev.lof, Ev.srt, Ev.chain, Ev.gv0, Ev.gvs, Ev.gt, Ev.gnil, Ev.gcons, Ev.asg, Ev.setix, Ev.ex, Ev.ret, Ev.iff, Ev.forr, Ev.snil, Ev.scons, Ev.irange, Ev.vwI, Ev.vwS, Ev.vwB, Ev.vwN, Ev.vwL, Ev.vwT, Ev.vwO, Ev.asb, Ev.ckT, Ev.addI, Ev.subI, Ev.ltI, Ev.leI, Ev.gtI, Ev.geI, Ev.eqI, Ev.neI, Ev.intI, Ev.absI, Ev.lenL, Ev.lenT, Ev.lenC, Ev.strS, Ev.tupL, Ev.tupT, Ev.po0, Ev.poi, Ev.slL, Ev.setf, Ev.make, Ev.callk, Ev.meth, Ev.ienum, Ev.dnew, Ev.ddis, Ev.dof, Ev.dcm, Ev.rev1, Ev.dget2, Ev.irev, Ev.lc, Ev.lcf, Ev.forf, Ev.wi0, Ev.wi1, List.set_cons_succ, List.set_cons_zero, Co.bind_assoc, List.map_cons, List.map_nil, List.cons_append, List.nil_append, List.length_cons, List.length_nil, List.replicate_succ, List.replicate_zero, Nat.reduceAdd, Nat.reduceSub, Nat.reduceLeDiff, decide_true, wp_ok, eq_self, g19, dR, hpr, lenQ h, List.length_map, e0, Bool.not_true]
  rw [hs _ _ rfl]
  try simp only [Ev.v0, Ev.vs, Ev.kk, Ev.bin, Ev.cmp, Ev.bok, Ev.ofs, Ev.test, Ev.iteE, Ev.val, Ev.nt, Ev.an, Ev.orE, Ev.tt, Ev.enil, Ev.econs, Ev.tup, Ev.lst, Ev.fz, Ev.cell, Ev.ix, Ev.call, Ev.bi, Ev.bi2, Ev.isi, Ev.m1, Ev.attr, Ev.sl, Ev.lof, Ev.srt, Ev.chain, Ev.gv0, Ev.gvs, Ev.gt, Ev.gnil, Ev.gcons, Ev.asg, Ev.setix, Ev.ex, Ev.ret, Ev.iff, Ev.forr, Ev.snil, Ev.scons, Ev.irange, Ev.vwI, Ev.vwS, Ev.vwB, Ev.vwN, Ev.vwL, Ev.vwT, Ev.vwO, Ev.asb, Ev.ckT, Ev.addI, Ev.subI, Ev.ltI, Ev.leI, Ev.gtI, Ev.geI, Ev.eqI, Ev.neI, Ev.intI, Ev.absI, Ev.lenL, Ev.lenT, Ev.lenC, Ev.strS, Ev.tupL, Ev.tupT, Ev.po0, Ev.poi, Ev.slL, Ev.setf, Ev.make, Ev.callk, Ev.meth, Ev.ienum, Ev.dnew, Ev.ddis, Ev.dof, Ev.dcm, Ev.rev1, Ev.dget2, Ev.irev, Ev.lc, Ev.lcf, Ev.forf, Ev.wi0, Ev.wi1, List.set_cons_succ, List.set_cons_zero, Co.bind_assoc, List.map_cons, List.map_nil, List.cons_append, List.nil_append, List.length_cons, List.length_nil, List.replicate_succ, List.replicate_zero, Nat.reduceAdd, Nat.reduceSub, Nat.reduceLeDiff, decide_true, wp_ok, eq_self]
  refine wp_then (lcS_q (fun _ => .bl true) h (by omega) fun s hs => ?_) fun ys m1 ⟨e1, e2⟩ => ?_
  · try simp only [Ev.v0, Ev.vs, Ev.kk, Ev.bin, Ev.cmp, Ev.bok, Ev.ofs, Ev.test, Ev.iteE, Ev.val, Ev.nt, Ev.an, Ev.orE, Ev.tt, Ev.enil, Ev.econs, Ev.tup, Ev.lst, Ev.fz, Ev.cell, Ev.ix, Ev.call, Ev.bi, Ev.bi2, Ev.isi, Ev.m1, Ev.attr, Ev.sl, Ev.lof, Ev.srt, Ev.chain, Ev.gv0, Ev.gvs, Ev.gt, Ev.gnil, Ev.gcons, Ev.asg, Ev.setix, Ev.ex, Ev.ret, Ev.iff, Ev.forr, Ev.snil, Ev.scons, Ev.iseq, Ev.irange, Ev.vwI, Ev.vwS, Ev.vwB, Ev.vwN, Ev.vwL, Ev.vwT, Ev.vwO, Ev.asb, Ev.ckT, Ev.addI, Ev.subI, Ev.ltI, Ev.leI, Ev.gtI, Ev.geI, Ev.eqI, Ev.neI, Ev.intI, Ev.absI, Ev.lenL, Ev.lenT, Ev.lenC, Ev.strS, Ev.tupL, Ev.tupT, Ev.po0, Ev.poi, Ev.slL, Ev.setf, Ev.make, Ev.callk, Ev.meth, Ev.ienum, Ev.dnew, Ev.ddis, Ev.dof, Ev.dcm, Ev.rev1, Ev.dget2, Ev.irev, Ev.lc, Ev.lcf, Ev.forf, Ev.wi0, Ev.wi1, List.set_cons_succ, List.set_cons_zero, Co.bind_assoc, List.map_cons, List.map_nil, List.cons_append, List.nil_append, List.length_cons, List.length_nil, List.replicate_succ, List.replicate_zero, Nat.reduceAdd, Nat.reduceSub, Nat.reduceLeDiff, decide_true, wp_ok, dR, is_name_ok (hP.nm s hs), is_number_ok (hP.am s hs)]
  · subst e1 e2
    try simp only [Ev.v0, Ev.vs, Ev.kk, Ev.bin, Ev.cmp, Ev.bok, Ev.ofs, Ev.test, Ev.iteE, Ev.val, Ev.nt, Ev.an, Ev.orE, Ev.tt, Ev.enil, Ev.econs, Ev.tup, Ev.lst, Ev.fz, Ev.cell, Ev.ix, Ev.call, Ev.bi, Ev.bi2, Ev.isi, Ev.m1, Ev.attr, Ev.sl, Ev.lof, Ev.srt, Ev.chain, Ev.gv0, Ev.gvs, Ev.gt, Ev.gnil, Ev.gcons, Ev.asg, Ev.setix, Ev.ex, Ev.ret, Ev.iff, Ev.forr, Ev.snil, Ev.scons, Ev.irange, Ev.vwI, Ev.vwS, Ev.vwB, Ev.vwN, Ev.vwL, Ev.vwT, Ev.vwO, Ev.asb, Ev.ckT, Ev.addI, Ev.subI, Ev.ltI, Ev.leI, Ev.gtI, Ev.geI, Ev.eqI, Ev.neI, Ev.intI, Ev.absI, Ev.lenL, Ev.lenT, Ev.lenC, Ev.strS, Ev.tupL, Ev.tupT, Ev.po0, Ev.poi, Ev.slL, Ev.setf, Ev.make, Ev.callk, Ev.meth, Ev.ienum, Ev.dnew, Ev.ddis, Ev.dof, Ev.dcm, Ev.rev1, Ev.dget2, Ev.irev, Ev.lc, Ev.lcf, Ev.forf, Ev.wi0, Ev.wi1, List.set_cons_succ, List.set_cons_zero, Co.bind_assoc, List.map_cons, List.map_nil, List.cons_append, List.nil_append, List.length_cons, List.length_nil, List.replicate_succ, List.replicate_zero, Nat.reduceAdd, Nat.reduceSub, Nat.reduceLeDiff, decide_true, wp_ok, eq_self, all_true, Bool.not_true]
    rw [hs _ _ rfl]
    try simp only [Ev.v0, Ev.vs, Ev.kk, Ev.bin, Ev.cmp, Ev.bok, Ev.ofs, Ev.test, Ev.iteE, Ev.val, Ev.nt, Ev.an, Ev.orE, Ev.tt, Ev.enil, Ev.econs, Ev.tup, Ev.lst, Ev.fz, Ev.cell, Ev.ix, Ev.call, Ev.bi, Ev.bi2, Ev.isi, Ev.m1, Ev.attr, Ev.sl, Ev.lof, Ev.srt, Ev.chain, Ev.gv0, Ev.gvs, Ev.gt, Ev.gnil, Ev.gcons, Ev.asg, Ev.setix, Ev.ex, Ev.ret, Ev.iff, Ev.forr, Ev.snil, Ev.scons, Ev.irange, Ev.vwI, Ev.vwS, Ev.vwB, Ev.vwN, Ev.vwL, Ev.vwT, Ev.vwO, Ev.asb, Ev.ckT, Ev.addI, Ev.subI, Ev.ltI, Ev.leI, Ev.gtI, Ev.geI, Ev.eqI, Ev.neI, Ev.intI, Ev.absI, Ev.lenL, Ev.lenT, Ev.lenC, Ev.strS, Ev.tupL, Ev.tupT, Ev.po0, Ev.poi, Ev.slL, Ev.setf, Ev.make, Ev.callk, Ev.meth, Ev.ienum, Ev.dnew, Ev.ddis, Ev.dof, Ev.dcm, Ev.rev1, Ev.dget2, Ev.irev, Ev.lc, Ev.lcf, Ev.forf, Ev.wi0, Ev.wi1, List.set_cons_succ, List.set_cons_zero, Co.bind_assoc, List.map_cons, List.map_nil, List.cons_append, List.nil_append, List.length_cons, List.length_nil, List.replicate_succ, List.replicate_zero, Nat.reduceAdd, Nat.reduceSub, Nat.reduceLeDiff, decide_true, wp_ok, eq_self]
    refine wp_then (lcS_q (fun p => .str p.1) h (by omega) fun s hs => ?_) fun ys m1 ⟨e1, e2⟩ => ?_
    · try simp only [Ev.v0, Ev.vs, Ev.kk, Ev.bin, Ev.cmp, Ev.bok, Ev.ofs, Ev.test, Ev.iteE, Ev.val, Ev.nt, Ev.an, Ev.orE, Ev.tt, Ev.enil, Ev.econs, Ev.tup, Ev.lst, Ev.fz, Ev.cell, Ev.ix, Ev.call, Ev.bi, Ev.bi2, Ev.isi, Ev.m1, Ev.attr, Ev.sl, Ev.lof, Ev.srt, Ev.chain, Ev.gv0, Ev.gvs, Ev.gt, Ev.gnil, Ev.gcons, Ev.asg, Ev.setix, Ev.ex, Ev.ret, Ev.iff, Ev.forr, Ev.snil, Ev.scons, Ev.iseq, Ev.irange, Ev.vwI, Ev.vwS, Ev.vwB, Ev.vwN, Ev.vwL, Ev.vwT, Ev.vwO, Ev.asb, Ev.ckT, Ev.addI, Ev.subI, Ev.ltI, Ev.leI, Ev.gtI, Ev.geI, Ev.eqI, Ev.neI, Ev.intI, Ev.absI, Ev.lenL, Ev.lenT, Ev.lenC, Ev.strS, Ev.tupL, Ev.tupT, Ev.po0, Ev.poi, Ev.slL, Ev.setf, Ev.make, Ev.callk, Ev.meth, Ev.ienum, Ev.dnew, Ev.ddis, Ev.dof, Ev.dcm, Ev.rev1, Ev.dget2, Ev.irev, Ev.lc, Ev.lcf, Ev.forf, Ev.wi0, Ev.wi1, List.set_cons_succ, List.set_cons_zero, Co.bind_assoc, List.map_cons, List.map_nil, List.cons_append, List.nil_append, List.length_cons, List.length_nil, List.replicate_succ, List.replicate_zero, Nat.reduceAdd, Nat.reduceSub, Nat.reduceLeDiff, decide_true, wp_ok]
    · subst e1 e2
      have hu : RG (n + 2) 18 [.lst (P.map fun p => PV.str p.1)] m1 = .ok (.bl true) m1 := by
        have := are_unlike_ok (n := n + 1) (g := P.map (·.1)) (m := m1) hP.nd (fun x hx => by
          obtain ⟨p, hp, rfl⟩ := List.mem_map.mp hx
          exact hP.nm p hp) (by rw [List.length_map]; omega)
        rw [List.map_map] at this
        exact this
      try simp only [Ev.v0, Ev.vs, Ev.kk, Ev.bin, Ev.cmp, Ev.bok, Ev.ofs, Ev.test, Ev.iteE, Ev.val, Ev.nt, Ev.an, Ev.orE, Ev.tt, Ev.enil, Ev.econs, Ev.tup, Ev.lst, Ev.fz, Ev.cell, Ev.ix, Ev.call, Ev.bi, Ev.bi2, Ev.isi, Ev.m1, Ev.attr, Ev.sl, Ev.lof, Ev.srt, Ev.chain, Ev.gv0, Ev.gvs, Ev.gt, Ev.gnil, Ev.gcons, Ev.asg, Ev.setix, Ev.ex, Ev.ret, Ev.iff, Ev.forr, Ev.snil, Ev.scons, Ev.iseq, Ev.irange, Ev.vwI, Ev.vwS, Ev.vwB, Ev.vwN, Ev.vwL, Ev.vwT, Ev.vwO, Ev.asb, Ev.ckT, Ev.addI, Ev.subI, Ev.ltI, Ev.leI, Ev.gtI, Ev.geI, Ev.eqI, Ev.neI, Ev.intI, Ev.absI, Ev.lenL, Ev.lenT, Ev.lenC, Ev.strS, Ev.tupL, Ev.tupT, Ev.po0, Ev.poi, Ev.slL, Ev.setf, Ev.make, Ev.callk, Ev.meth, Ev.ienum, Ev.dnew, Ev.ddis, Ev.dof, Ev.dcm, Ev.rev1, Ev.dget2, Ev.irev, Ev.lc, Ev.lcf, Ev.forf, Ev.wi0, Ev.wi1, List.set_cons_succ, List.set_cons_zero, Co.bind_assoc, List.map_cons, List.map_nil, List.cons_append, List.nil_append, List.length_cons, List.length_nil, List.replicate_succ, List.replicate_zero, Nat.reduceAdd, Nat.reduceSub, Nat.reduceLeDiff, decide_true, wp_ok, dR, hu]
      exact ⟨trivial, trivial⟩
end My

end P_Xg
section P_Xh
set_option Elab.async false
set_option linter.all false
set_option maxRecDepth 100000
set_option maxHeartbeats 2000000
namespace My
open Co
open PySem (Str)
/-- a drawn name, or the crown -/
def okB (x : Str) : Prop := nameB x = true ∨ x = crown_
theorem eq_S {D : Cl} {x y : Str} {m : Mem} (hx : okB x) (hy : okB y) : cmpV D .eq (.str x) (.str y) m = .ok (.bl (decide (x = y))) m ∧ cmpV D .ne (.str x) (.str y) m = .ok (.bl (!decide (x = y))) m := by
  obtain ⟨b, c1, c2, c3⟩ := eq_pl (strPl hx) (strPl hy) (by decide) (by decide)
  have hb : b = decide (x = y) := by
    cases b with
    | true =>
      have := c3.mp rfl
      injection this with this
      exact (decide_eq_true this).symm
    | false =>
      refine (decide_eq_false fun e => ?_).symm
      have := c3.mpr (by rw [e])
      cases this
  subst hb
  exact ⟨cmpV_pl c1 (by intro _ _ _ e; cases e), cmpV_pl c2 (by intro _ _ _ e; cases e)⟩
theorem pls_ok {l : List Str} (h : ∀ x ∈ l, okB x) : pls 0 (l.map .str) = true := pls_all.mpr fun v hv => by
  obtain ⟨x, hx, rfl⟩ := List.mem_map.mp hv
  exact strPl (h x hx)
theorem str_mem {x : Str} {l : List Str} : PV.str x ∈ l.map PV.str ↔ x ∈ l := by
  rw [List.mem_map]
  constructor
  · rintro ⟨y, hy, e⟩
    injection e with e
    exact e ▸ hy
  · exact fun h => ⟨x, h, rfl⟩
theorem in_S {D : Cl} {x : Str} {l : List Str} {m : Mem} {c : PV} (hx : okB x) (hl : ∀ x ∈ l, okB x) (hc : c = .lst (l.map .str) ∨ c = .tup (l.map .str)) : cmpV D .mem (.str x) c m = .ok (.bl (decide (x ∈ l))) m ∧ cmpV D .nmem (.str x) c m = .ok (.bl (!decide (x ∈ l))) m := by
  obtain ⟨b, c1, c2⟩ := in_pl (strPl hx) (pls_ok hl) (by decide) (by decide)
  have hb : b = decide (x ∈ l) := by
    cases b with
    | true => exact (decide_eq_true (str_mem.mp (c2.mp rfl))).symm
    | false =>
      refine (decide_eq_false fun e => ?_).symm
      have := c2.mpr (str_mem.mpr e)
      cases this
  subst hb
  have ⟨q1, q2⟩ := c1 c hc
  have hv : vw m c = c := by rcases hc with rfl | rfl <;> rfl
  exact ⟨cmpV_pl (by rw [hv]; exact q1) (by intro _ _ _ e; cases e), cmpV_pl (by rw [hv]; exact q2) (by intro _ _ _ e; cases e)⟩
theorem ne_nil {D : Cl} {m : Mem} {ns : List Str} (h : ∀ x ∈ ns, okB x) : cmpV D .ne (.lst (ns.map .str)) (.lst []) m = .ok (.bl (!ns.isEmpty)) m ∧ cmpV D .eq (.lst (ns.map .str)) (.lst []) m = .ok (.bl ns.isEmpty) m := by
  obtain ⟨b, c1, c2, c3⟩ := eq_pl (n := 1) (k := 1) (a := .lst (ns.map .str)) (b := .lst []) (by simp only [pl]; exact pls_ok h) (by simp [pl, pls]) (by decide) (by decide)
  have hb : b = ns.isEmpty := by
    cases ns with
    | nil => exact c3.mpr rfl
    | cons g gs => exact int_iff c3 (by intro e; injection e with e; cases e)
  subst hb
  exact ⟨cmpV_pl c2 (by intro _ _ _ e; cases e), cmpV_pl c1 (by intro _ _ _ e; cases e)⟩
/-- whom a will names: some others -/
def NamedIn (N : List Str) (x : Str) (ws : Ws) : Prop := ∀ s ∈ ws, ∀ g ∈ s.2, ∀ y ∈ g, y ∈ N ∧ y ≠ x
/-- wills -/
structure WilOk (N : List Str) (W : List (Str × Ws)) : Prop where
  nd : (W.map (·.1)).Nodup
  nm : ∀ w ∈ W, w.1 ∈ N
  ok : ∀ w ∈ W, WsOk w.2
  inn : ∀ w ∈ W, NamedIn N w.1 w.2
  few : W.length ≤ 30
theorem is_will_ok {n : Nat} {N : List Str} {x : Str} {ws : Ws} {m : Mem} (hN : ∀ y ∈ N, nameB y = true) (hl : N.length ≤ 60) (hx : x ∈ N) (h : WsOk ws) (hi : NamedIn N x ws) : wp (RG (n + 2) 20 [.str x, objW ws, .lst (N.map .str)] m) fun v m' => v = .bl true ∧ ∃ l, m' = m ++ l := by
  refine call_wp (F := (3, 4, g20 100000)) rfl rfl ?_
  have i1 : isiop (DG (n + 1)).nC .str (.str x) = some true := rfl
  have i2 : isiop (DG (n + 1)).nC (.cls 0) (objW ws) = some true := rfl
  have hNo : ∀ y ∈ N, okB y := fun y hy => .inl (hN y hy)
  have c1 : cmpV (DG (n + 1)) .nmem (.str x) (.lst (N.map .str)) m = .ok (.bl false) m := by
    rw [(in_S (hNo x hx) hNo (.inl rfl)).2, decide_eq_true hx]
    rfl
  try simp only [Ev.v0, Ev.vs, Ev.kk, Ev.bin, Ev.cmp, Ev.bok, Ev.ofs, Ev.test, Ev.iteE, Ev.val, Ev.nt, Ev.an, Ev.orE, Ev.tt, Ev.enil, Ev.econs, Ev.tup, Ev.lst, Ev.fz, Ev.cell, Ev.ix, Ev.call, Ev.bi, Ev.bi2, Ev.isi, Ev.m1, Ev.attr, Ev.sl, Ev.lof, Ev.srt, Ev.chain, Ev.gv0, Ev.gvs, Ev.gt, Ev.gnil, Ev.gcons, Ev.asg, Ev.setix, Ev.ex, Ev.ret, Ev.iff, Ev.forr, Ev.snil, Ev.scons, Ev.iseq, Ev.irange, Ev.vwI, Ev.vwS, Ev.vwB, Ev.vwN, Ev.vwL, Ev.vwT, Ev.vwO, Ev.asb, Ev.ckT, Ev.addI, Ev.subI, Ev.ltI, Ev.leI, Ev.gtI, Ev.geI, Ev.eqI, Ev.neI, Ev.intI, Ev.absI, Ev.lenL, Ev.lenT, Ev.lenC, Ev.strS, Ev.tupL, Ev.tupT, Ev.po0, Ev.poi, Ev.slL, Ev.setf, Ev.make, Ev.callk, Ev.meth, Ev.ienum, Ev.dnew, Ev.ddis, Ev.dof, Ev.dcm, Ev.rev1, Ev.dget2, Ev.irev, Ev.lc, Ev.lcf, Ev.forf, Ev.wi0, Ev.wi1, List.set_cons_succ, List.set_cons_zero, Co.bind_assoc, List.map_cons, List.map_nil, List.cons_append, List.nil_append, List.length_cons, List.length_nil, List.replicate_succ, List.replicate_zero, Nat.reduceAdd, Nat.reduceSub, Nat.reduceLeDiff, decide_true, wp_ok, g20, i1, i2, c1, Option.map_some, Bool.not_true]
  refine wp_then (show wp (attO (DG (n + 1)) namesN (objW ws) m) _ from wnames_ok (n := n) h (ns := N) (fun s hs g hg y hy => (hi s hs g hg y hy).1) hl) fun v m1 ⟨hv, l1, hm1⟩ => ?_
  subst hv
  unfold namV
  try simp only [Ev.v0, Ev.vs, Ev.kk, Ev.bin, Ev.cmp, Ev.bok, Ev.ofs, Ev.test, Ev.iteE, Ev.val, Ev.nt, Ev.an, Ev.orE, Ev.tt, Ev.enil, Ev.econs, Ev.tup, Ev.lst, Ev.fz, Ev.cell, Ev.ix, Ev.call, Ev.bi, Ev.bi2, Ev.isi, Ev.m1, Ev.attr, Ev.sl, Ev.lof, Ev.srt, Ev.chain, Ev.gv0, Ev.gvs, Ev.gt, Ev.gnil, Ev.gcons, Ev.asg, Ev.setix, Ev.ex, Ev.ret, Ev.iff, Ev.forr, Ev.snil, Ev.scons, Ev.iseq, Ev.irange, Ev.vwI, Ev.vwS, Ev.vwB, Ev.vwN, Ev.vwL, Ev.vwT, Ev.vwO, Ev.asb, Ev.ckT, Ev.addI, Ev.subI, Ev.ltI, Ev.leI, Ev.gtI, Ev.geI, Ev.eqI, Ev.neI, Ev.intI, Ev.absI, Ev.lenL, Ev.lenT, Ev.lenC, Ev.strS, Ev.tupL, Ev.tupT, Ev.po0, Ev.poi, Ev.slL, Ev.setf, Ev.make, Ev.callk, Ev.meth, Ev.ienum, Ev.dnew, Ev.ddis, Ev.dof, Ev.dcm, Ev.rev1, Ev.dget2, Ev.irev, Ev.lc, Ev.lcf, Ev.forf, Ev.wi0, Ev.wi1, List.set_cons_succ, List.set_cons_zero, Co.bind_assoc, List.map_cons, List.map_nil, List.cons_append, List.nil_append, List.length_cons, List.length_nil, List.replicate_succ, List.replicate_zero, Nat.reduceAdd, Nat.reduceSub, Nat.reduceLeDiff, decide_true, wp_ok]
  refine wp_then (lcFx_enc (fun _ => .bl true) fun y hy => ?_) fun ys m2 ⟨e1, e2⟩ => ?_
  · have hy2 : y ∈ N ∧ y ≠ x := by
      obtain ⟨s, hs, g, hg, hz⟩ := (NF_mem.mp ((srtS_perm _).subset hy)).resolve_left (by simp)
      obtain ⟨s', hs', rfl⟩ := List.mem_map.mp hs
      obtain ⟨g', hg', rfl⟩ := List.mem_map.mp hg
      exact hi s' hs' g' hg' y ((srtS_perm g').subset hz)
    have c2 : cmpV (DG (n + 1)) .mem (.str y) (.lst (N.map .str)) m1 = .ok (.bl true) m1 := by
      rw [(in_S (hNo y hy2.1) hNo (.inl rfl)).1, decide_eq_true hy2.1]
    have c3 : cmpV (DG (n + 1)) .ne (.str y) (.str x) m1 = .ok (.bl true) m1 := by
      rw [(eq_S (hNo y hy2.1) (hNo x hx)).2, decide_eq_false hy2.2]
      rfl
    try simp only [Ev.v0, Ev.vs, Ev.kk, Ev.bin, Ev.cmp, Ev.bok, Ev.ofs, Ev.test, Ev.iteE, Ev.val, Ev.nt, Ev.an, Ev.orE, Ev.tt, Ev.enil, Ev.econs, Ev.tup, Ev.lst, Ev.fz, Ev.cell, Ev.ix, Ev.call, Ev.bi, Ev.bi2, Ev.isi, Ev.m1, Ev.attr, Ev.sl, Ev.lof, Ev.srt, Ev.chain, Ev.gv0, Ev.gvs, Ev.gt, Ev.gnil, Ev.gcons, Ev.asg, Ev.setix, Ev.ex, Ev.ret, Ev.iff, Ev.forr, Ev.snil, Ev.scons, Ev.iseq, Ev.irange, Ev.vwI, Ev.vwS, Ev.vwB, Ev.vwN, Ev.vwL, Ev.vwT, Ev.vwO, Ev.asb, Ev.ckT, Ev.addI, Ev.subI, Ev.ltI, Ev.leI, Ev.gtI, Ev.geI, Ev.eqI, Ev.neI, Ev.intI, Ev.absI, Ev.lenL, Ev.lenT, Ev.lenC, Ev.strS, Ev.tupL, Ev.tupT, Ev.po0, Ev.poi, Ev.slL, Ev.setf, Ev.make, Ev.callk, Ev.meth, Ev.ienum, Ev.dnew, Ev.ddis, Ev.dof, Ev.dcm, Ev.rev1, Ev.dget2, Ev.irev, Ev.lc, Ev.lcf, Ev.forf, Ev.wi0, Ev.wi1, List.set_cons_succ, List.set_cons_zero, Co.bind_assoc, List.map_cons, List.map_nil, List.cons_append, List.nil_append, List.length_cons, List.length_nil, List.replicate_succ, List.replicate_zero, Nat.reduceAdd, Nat.reduceSub, Nat.reduceLeDiff, decide_true, wp_ok, c2, c3]
  · subst e1 e2
    try simp only [Ev.v0, Ev.vs, Ev.kk, Ev.bin, Ev.cmp, Ev.bok, Ev.ofs, Ev.test, Ev.iteE, Ev.val, Ev.nt, Ev.an, Ev.orE, Ev.tt, Ev.enil, Ev.econs, Ev.tup, Ev.lst, Ev.fz, Ev.cell, Ev.ix, Ev.call, Ev.bi, Ev.bi2, Ev.isi, Ev.m1, Ev.attr, Ev.sl, Ev.lof, Ev.srt, Ev.chain, Ev.gv0, Ev.gvs, Ev.gt, Ev.gnil, Ev.gcons, Ev.asg, Ev.setix, Ev.ex, Ev.ret, Ev.iff, Ev.forr, Ev.snil, Ev.scons, Ev.iseq, Ev.irange, Ev.vwI, Ev.vwS, Ev.vwB, Ev.vwN, Ev.vwL, Ev.vwT, Ev.vwO, Ev.asb, Ev.ckT, Ev.addI, Ev.subI, Ev.ltI, Ev.leI, Ev.gtI, Ev.geI, Ev.eqI, Ev.neI, Ev.intI, Ev.absI, Ev.lenL, Ev.lenT, Ev.lenC, Ev.strS, Ev.tupL, Ev.tupT, Ev.po0, Ev.poi, Ev.slL, Ev.setf, Ev.make, Ev.callk, Ev.meth, Ev.ienum, Ev.dnew, Ev.ddis, Ev.dof, Ev.dcm, Ev.rev1, Ev.dget2, Ev.irev, Ev.lc, Ev.lcf, Ev.forf, Ev.wi0, Ev.wi1, List.set_cons_succ, List.set_cons_zero, Co.bind_assoc, List.map_cons, List.map_nil, List.cons_append, List.nil_append, List.length_cons, List.length_nil, List.replicate_succ, List.replicate_zero, Nat.reduceAdd, Nat.reduceSub, Nat.reduceLeDiff, decide_true, wp_ok, all_true]
    exact ⟨trivial, l1, hm1⟩
theorem all2_true {xs ys : List PV} (h : All2 (fun _ y => y = PV.bl true) xs ys) : ys = xs.map fun _ => .bl true := by
  induction h with
  | nil => rfl
  | cons h1 _ ih => rw [h1, ih]; rfl
theorem are_wills_ok {n : Nat} {N : List Str} {v : PV} {W : List (Str × Ws)} {m : Mem} (hN : ∀ y ∈ N, nameB y = true) (hl : N.length ≤ 60) (h : isq m v (W.map encW)) (hW : WilOk N W) : wp (RG (n + 3) 21 [v, .lst (N.map .str)] m) fun r m' => r = .bl true ∧ ∃ l, m' = m ++ l := by
  refine call_wp (F := (2, 4, g21 100000)) rfl rfl ?_
  have hs := fun (a : EM) (env : Co.Env) (ha : a env m = .ok v m) => iseqQ h ha
  have hf := hW.few
  have hpr : RG (n + 2) 17 [v] m = .ok (.bl true) m := are_pairs_ok h (by omega) fun s _ => ⟨_, _, rfl⟩
  try simp only [Ev.v0, Ev.vs, Ev.kk, Ev.bin, Ev.cmp, Ev.bok, Ev.ofs, Ev.test, Ev.iteE, Ev.val, Ev.nt, Ev.an, Ev.orE, Ev.tt, Ev.enil, Ev.econs, Ev.tup, Ev.lst, Ev.fz, Ev.cell, Ev.ix, Ev.call, Ev.bi, Ev.bi2, Ev.isi, Ev.m1, Ev.attr, Ev.sl, Ev.lof, Ev.srt, Ev.chain, Ev.gv0, Ev.gvs, Ev.gt, Ev.gnil, Ev.gcons, Ev.asg, Ev.setix, Ev.ex, Ev.ret, Ev.iff, Ev.forr, Ev.snil, Ev.scons, Ev.irange, Ev.vwI, Ev.vwS, Ev.vwB, Ev.vwN, Ev.vwL, Ev.vwT, Ev.vwO, Ev.asb, Ev.ckT, Ev.addI, Ev.subI, Ev.ltI, Ev.leI, Ev.gtI, Ev.geI, Ev.eqI, Ev.neI, Ev.intI, Ev.absI, Ev.lenL, Ev.lenT, Ev.lenC, Ev.strS, Ev.tupL, Ev.tupT, Ev.po0, Ev.poi, Ev.slL, Ev.setf, Ev.make, Ev.callk, Ev.meth, Ev.ienum, Ev.dnew, Ev.ddis, Ev.dof, Ev.dcm, Ev.rev1, Ev.dget2, Ev.irev, Ev.lc, Ev.lcf, Ev.forf, Ev.wi0, Ev.wi1, List.set_cons_succ, List.set_cons_zero, Co.bind_assoc, List.map_cons, List.map_nil, List.cons_append, List.nil_append, List.length_cons, List.length_nil, List.replicate_succ, List.replicate_zero, Nat.reduceAdd, Nat.reduceSub, Nat.reduceLeDiff, decide_true, wp_ok, eq_self, g21, dR, hpr, Bool.not_true]
  rw [hs _ _ rfl]
  try simp only [Ev.v0, Ev.vs, Ev.kk, Ev.bin, Ev.cmp, Ev.bok, Ev.ofs, Ev.test, Ev.iteE, Ev.val, Ev.nt, Ev.an, Ev.orE, Ev.tt, Ev.enil, Ev.econs, Ev.tup, Ev.lst, Ev.fz, Ev.cell, Ev.ix, Ev.call, Ev.bi, Ev.bi2, Ev.isi, Ev.m1, Ev.attr, Ev.sl, Ev.lof, Ev.srt, Ev.chain, Ev.gv0, Ev.gvs, Ev.gt, Ev.gnil, Ev.gcons, Ev.asg, Ev.setix, Ev.ex, Ev.ret, Ev.iff, Ev.forr, Ev.snil, Ev.scons, Ev.irange, Ev.vwI, Ev.vwS, Ev.vwB, Ev.vwN, Ev.vwL, Ev.vwT, Ev.vwO, Ev.asb, Ev.ckT, Ev.addI, Ev.subI, Ev.ltI, Ev.leI, Ev.gtI, Ev.geI, Ev.eqI, Ev.neI, Ev.intI, Ev.absI, Ev.lenL, Ev.lenT, Ev.lenC, Ev.strS, Ev.tupL, Ev.tupT, Ev.po0, Ev.poi, Ev.slL, Ev.setf, Ev.make, Ev.callk, Ev.meth, Ev.ienum, Ev.dnew, Ev.ddis, Ev.dof, Ev.dcm, Ev.rev1, Ev.dget2, Ev.irev, Ev.lc, Ev.lcf, Ev.forf, Ev.wi0, Ev.wi1, List.set_cons_succ, List.set_cons_zero, Co.bind_assoc, List.map_cons, List.map_nil, List.cons_append, List.nil_append, List.length_cons, List.length_nil, List.replicate_succ, List.replicate_zero, Nat.reduceAdd, Nat.reduceSub, Nat.reduceLeDiff, decide_true, wp_ok, eq_self]
  refine wp_then (lcS_qi (J := fun mm => ∃ l, mm = m ++ l) (P := fun _ y => y = .bl true) (xs := W.map encW) (fun mm ⟨l, hl⟩ => by rw [hl]; exact isq_app h) (by simp; omega) (fun x hx mm ⟨l, hl2⟩ => ?_) ⟨[], by simp⟩) fun ys m1 ⟨⟨l1, hm1⟩, hys⟩ => ?_
  · obtain ⟨w, hw, rfl⟩ := List.mem_map.mp hx
    try simp only [Ev.v0, Ev.vs, Ev.kk, Ev.bin, Ev.cmp, Ev.bok, Ev.ofs, Ev.test, Ev.iteE, Ev.val, Ev.nt, Ev.an, Ev.orE, Ev.tt, Ev.enil, Ev.econs, Ev.tup, Ev.lst, Ev.fz, Ev.cell, Ev.ix, Ev.call, Ev.bi, Ev.bi2, Ev.isi, Ev.m1, Ev.attr, Ev.sl, Ev.lof, Ev.srt, Ev.chain, Ev.gv0, Ev.gvs, Ev.gt, Ev.gnil, Ev.gcons, Ev.asg, Ev.setix, Ev.ex, Ev.ret, Ev.iff, Ev.forr, Ev.snil, Ev.scons, Ev.iseq, Ev.irange, Ev.vwI, Ev.vwS, Ev.vwB, Ev.vwN, Ev.vwL, Ev.vwT, Ev.vwO, Ev.asb, Ev.ckT, Ev.addI, Ev.subI, Ev.ltI, Ev.leI, Ev.gtI, Ev.geI, Ev.eqI, Ev.neI, Ev.intI, Ev.absI, Ev.lenL, Ev.lenT, Ev.lenC, Ev.strS, Ev.tupL, Ev.tupT, Ev.po0, Ev.poi, Ev.slL, Ev.setf, Ev.make, Ev.callk, Ev.meth, Ev.ienum, Ev.dnew, Ev.ddis, Ev.dof, Ev.dcm, Ev.rev1, Ev.dget2, Ev.irev, Ev.lc, Ev.lcf, Ev.forf, Ev.wi0, Ev.wi1, List.set_cons_succ, List.set_cons_zero, Co.bind_assoc, List.map_cons, List.map_nil, List.cons_append, List.nil_append, List.length_cons, List.length_nil, List.replicate_succ, List.replicate_zero, Nat.reduceAdd, Nat.reduceSub, Nat.reduceLeDiff, decide_true, wp_ok, dR]
    exact wp_then (is_will_ok (n := n) hN hl (hW.nm w hw) (hW.ok w hw) (hW.inn w hw)) fun r m2 ⟨hr, l2, hm2⟩ => ⟨⟨l ++ l2, by rw [hm2, hl2, List.append_assoc]⟩, r, rfl, hr⟩
  have e := all2_true hys
  subst e
  have h1 : isq m1 v (W.map encW) := by rw [hm1]; exact isq_app h
  have hs1 := fun (a : EM) (env : Co.Env) (ha : a env m1 = .ok v m1) => iseqQ h1 ha
  try simp only [Ev.v0, Ev.vs, Ev.kk, Ev.bin, Ev.cmp, Ev.bok, Ev.ofs, Ev.test, Ev.iteE, Ev.val, Ev.nt, Ev.an, Ev.orE, Ev.tt, Ev.enil, Ev.econs, Ev.tup, Ev.lst, Ev.fz, Ev.cell, Ev.ix, Ev.call, Ev.bi, Ev.bi2, Ev.isi, Ev.m1, Ev.attr, Ev.sl, Ev.lof, Ev.srt, Ev.chain, Ev.gv0, Ev.gvs, Ev.gt, Ev.gnil, Ev.gcons, Ev.asg, Ev.setix, Ev.ex, Ev.ret, Ev.iff, Ev.forr, Ev.snil, Ev.scons, Ev.irange, Ev.vwI, Ev.vwS, Ev.vwB, Ev.vwN, Ev.vwL, Ev.vwT, Ev.vwO, Ev.asb, Ev.ckT, Ev.addI, Ev.subI, Ev.ltI, Ev.leI, Ev.gtI, Ev.geI, Ev.eqI, Ev.neI, Ev.intI, Ev.absI, Ev.lenL, Ev.lenT, Ev.lenC, Ev.strS, Ev.tupL, Ev.tupT, Ev.po0, Ev.poi, Ev.slL, Ev.setf, Ev.make, Ev.callk, Ev.meth, Ev.ienum, Ev.dnew, Ev.ddis, Ev.dof, Ev.dcm, Ev.rev1, Ev.dget2, Ev.irev, Ev.lc, Ev.lcf, Ev.forf, Ev.wi0, Ev.wi1, List.set_cons_succ, List.set_cons_zero, Co.bind_assoc, List.map_cons, List.map_nil, List.cons_append, List.nil_append, List.length_cons, List.length_nil, List.replicate_succ, List.replicate_zero, Nat.reduceAdd, Nat.reduceSub, Nat.reduceLeDiff, decide_true, wp_ok, eq_self, all_true, Bool.not_true]
  rw [hs1 _ _ rfl]
  try simp only [Ev.v0, Ev.vs, Ev.kk, Ev.bin, Ev.cmp, Ev.bok, Ev.ofs, Ev.test, Ev.iteE, Ev.val, Ev.nt, Ev.an, Ev.orE, Ev.tt, Ev.enil, Ev.econs, Ev.tup, Ev.lst, Ev.fz, Ev.cell, Ev.ix, Ev.call, Ev.bi, Ev.bi2, Ev.isi, Ev.m1, Ev.attr, Ev.sl, Ev.lof, Ev.srt, Ev.chain, Ev.gv0, Ev.gvs, Ev.gt, Ev.gnil, Ev.gcons, Ev.asg, Ev.setix, Ev.ex, Ev.ret, Ev.iff, Ev.forr, Ev.snil, Ev.scons, Ev.irange, Ev.vwI, Ev.vwS, Ev.vwB, Ev.vwN, Ev.vwL, Ev.vwT, Ev.vwO, Ev.asb, Ev.ckT, Ev.addI, Ev.subI, Ev.ltI, Ev.leI, Ev.gtI, Ev.geI, Ev.eqI, Ev.neI, Ev.intI, Ev.absI, Ev.lenL, Ev.lenT, Ev.lenC, Ev.strS, Ev.tupL, Ev.tupT, Ev.po0, Ev.poi, Ev.slL, Ev.setf, Ev.make, Ev.callk, Ev.meth, Ev.ienum, Ev.dnew, Ev.ddis, Ev.dof, Ev.dcm, Ev.rev1, Ev.dget2, Ev.irev, Ev.lc, Ev.lcf, Ev.forf, Ev.wi0, Ev.wi1, List.set_cons_succ, List.set_cons_zero, Co.bind_assoc, List.map_cons, List.map_nil, List.cons_append, List.nil_append, List.length_cons, List.length_nil, List.replicate_succ, List.replicate_zero, Nat.reduceAdd, Nat.reduceSub, Nat.reduceLeDiff, decide_true, wp_ok, eq_self]
  refine wp_then (lcS_q (fun p => .str p.1) h1 (by omega) fun s hs => ?_) fun ys m2 ⟨e1, e2⟩ => ?_
  · try simp only [Ev.v0, Ev.vs, Ev.kk, Ev.bin, Ev.cmp, Ev.bok, Ev.ofs, Ev.test, Ev.iteE, Ev.val, Ev.nt, Ev.an, Ev.orE, Ev.tt, Ev.enil, Ev.econs, Ev.tup, Ev.lst, Ev.fz, Ev.cell, Ev.ix, Ev.call, Ev.bi, Ev.bi2, Ev.isi, Ev.m1, Ev.attr, Ev.sl, Ev.lof, Ev.srt, Ev.chain, Ev.gv0, Ev.gvs, Ev.gt, Ev.gnil, Ev.gcons, Ev.asg, Ev.setix, Ev.ex, Ev.ret, Ev.iff, Ev.forr, Ev.snil, Ev.scons, Ev.iseq, Ev.irange, Ev.vwI, Ev.vwS, Ev.vwB, Ev.vwN, Ev.vwL, Ev.vwT, Ev.vwO, Ev.asb, Ev.ckT, Ev.addI, Ev.subI, Ev.ltI, Ev.leI, Ev.gtI, Ev.geI, Ev.eqI, Ev.neI, Ev.intI, Ev.absI, Ev.lenL, Ev.lenT, Ev.lenC, Ev.strS, Ev.tupL, Ev.tupT, Ev.po0, Ev.poi, Ev.slL, Ev.setf, Ev.make, Ev.callk, Ev.meth, Ev.ienum, Ev.dnew, Ev.ddis, Ev.dof, Ev.dcm, Ev.rev1, Ev.dget2, Ev.irev, Ev.lc, Ev.lcf, Ev.forf, Ev.wi0, Ev.wi1, List.set_cons_succ, List.set_cons_zero, Co.bind_assoc, List.map_cons, List.map_nil, List.cons_append, List.nil_append, List.length_cons, List.length_nil, List.replicate_succ, List.replicate_zero, Nat.reduceAdd, Nat.reduceSub, Nat.reduceLeDiff, decide_true, wp_ok]
  · subst e1 e2
    have hu : RG (n + 2) 18 [.lst (W.map fun p => PV.str p.1)] m2 = .ok (.bl true) m2 := by
      have := are_unlike_ok (n := n + 1) (g := W.map (·.1)) (m := m2) hW.nd (fun x hx => by
        obtain ⟨p, hp, rfl⟩ := List.mem_map.mp hx
        exact hN _ (hW.nm p hp)) (by rw [List.length_map]; omega)
      rw [List.map_map] at this
      exact this
    try simp only [Ev.v0, Ev.vs, Ev.kk, Ev.bin, Ev.cmp, Ev.bok, Ev.ofs, Ev.test, Ev.iteE, Ev.val, Ev.nt, Ev.an, Ev.orE, Ev.tt, Ev.enil, Ev.econs, Ev.tup, Ev.lst, Ev.fz, Ev.cell, Ev.ix, Ev.call, Ev.bi, Ev.bi2, Ev.isi, Ev.m1, Ev.attr, Ev.sl, Ev.lof, Ev.srt, Ev.chain, Ev.gv0, Ev.gvs, Ev.gt, Ev.gnil, Ev.gcons, Ev.asg, Ev.setix, Ev.ex, Ev.ret, Ev.iff, Ev.forr, Ev.snil, Ev.scons, Ev.iseq, Ev.irange, Ev.vwI, Ev.vwS, Ev.vwB, Ev.vwN, Ev.vwL, Ev.vwT, Ev.vwO, Ev.asb, Ev.ckT, Ev.addI, Ev.subI, Ev.ltI, Ev.leI, Ev.gtI, Ev.geI, Ev.eqI, Ev.neI, Ev.intI, Ev.absI, Ev.lenL, Ev.lenT, Ev.lenC, Ev.strS, Ev.tupL, Ev.tupT, Ev.po0, Ev.poi, Ev.slL, Ev.setf, Ev.make, Ev.callk, Ev.meth, Ev.ienum, Ev.dnew, Ev.ddis, Ev.dof, Ev.dcm, Ev.rev1, Ev.dget2, Ev.irev, Ev.lc, Ev.lcf, Ev.forf, Ev.wi0, Ev.wi1, List.set_cons_succ, List.set_cons_zero, Co.bind_assoc, List.map_cons, List.map_nil, List.cons_append, List.nil_append, List.length_cons, List.length_nil, List.replicate_succ, List.replicate_zero, Nat.reduceAdd, Nat.reduceSub, Nat.reduceLeDiff, decide_true, wp_ok, dR, hu]
    exact ⟨trivial, l1, hm1⟩
/-- facts -/
structure FacOk (N : List Str) (F : List (Str × Str)) : Prop where
  inn : ∀ f ∈ F, f.1 ∈ N ∧ f.2 ∈ N
  rank : ∃ r : Str → Nat, ∀ f ∈ F, r f.1 < r f.2
  few : F.length ≤ 60
theorem FacOk.ne {N : List Str} {F : List (Str × Str)} (h : FacOk N F) {f : Str × Str} (hf : f ∈ F) : f.1 ≠ f.2 := fun e => by
  obtain ⟨r, hr⟩ := h.rank
  have := hr f hf
  rw [e] at this
  exact Nat.lt_irrefl _ this
theorem are_facts_ok {n : Nat} {N : List Str} {v : PV} {F : List (Str × Str)} {m : Mem} (hN : ∀ y ∈ N, nameB y = true) (h : isq m v (F.map encF)) (hF : FacOk N F) : RG (n + 3) 22 [v, .lst (N.map .str)] m = .ok (.bl true) m := by
  refine wp_eq (call_wp (F := (2, 4, g22 100000)) rfl rfl ?_)
  have hs := fun (a : EM) (env : Co.Env) (ha : a env m = .ok v m) => iseqQ h ha
  have hf := hF.few
  have hpr : RG (n + 2) 17 [v] m = .ok (.bl true) m := are_pairs_ok h (by omega) fun s _ => ⟨_, _, rfl⟩
  try simp only [Ev.v0, Ev.vs, Ev.kk, Ev.bin, Ev.cmp, Ev.bok, Ev.ofs, Ev.test, Ev.iteE, Ev.val, Ev.nt, Ev.an, Ev.orE, Ev.tt, Ev.enil, Ev.econs, Ev.tup, Ev.lst, Ev.fz, Ev.cell, Ev.ix, Ev.call, Ev.bi, Ev.bi2, Ev.isi, Ev.m1, Ev.attr, Ev.sl, Ev.lof, Ev.srt, Ev.chain, Ev.gv0, Ev.gvs, Ev.gt, Ev.gnil, Ev.gcons, Ev.asg, Ev.setix, Ev.ex, Ev.ret, Ev.iff, Ev.forr, Ev.snil, Ev.scons, Ev.irange, Ev.vwI, Ev.vwS, Ev.vwB, Ev.vwN, Ev.vwL, Ev.vwT, Ev.vwO, Ev.asb, Ev.ckT, Ev.addI, Ev.subI, Ev.ltI, Ev.leI, Ev.gtI, Ev.geI, Ev.eqI, Ev.neI, Ev.intI, Ev.absI, Ev.lenL, Ev.lenT, Ev.lenC, Ev.strS, Ev.tupL, Ev.tupT, Ev.po0, Ev.poi, Ev.slL, Ev.setf, Ev.make, Ev.callk, Ev.meth, Ev.ienum, Ev.dnew, Ev.ddis, Ev.dof, Ev.dcm, Ev.rev1, Ev.dget2, Ev.irev, Ev.lc, Ev.lcf, Ev.forf, Ev.wi0, Ev.wi1, List.set_cons_succ, List.set_cons_zero, Co.bind_assoc, List.map_cons, List.map_nil, List.cons_append, List.nil_append, List.length_cons, List.length_nil, List.replicate_succ, List.replicate_zero, Nat.reduceAdd, Nat.reduceSub, Nat.reduceLeDiff, decide_true, wp_ok, eq_self, g22, dR, hpr, Bool.not_true]
  rw [hs _ _ rfl]
  try simp only [Ev.v0, Ev.vs, Ev.kk, Ev.bin, Ev.cmp, Ev.bok, Ev.ofs, Ev.test, Ev.iteE, Ev.val, Ev.nt, Ev.an, Ev.orE, Ev.tt, Ev.enil, Ev.econs, Ev.tup, Ev.lst, Ev.fz, Ev.cell, Ev.ix, Ev.call, Ev.bi, Ev.bi2, Ev.isi, Ev.m1, Ev.attr, Ev.sl, Ev.lof, Ev.srt, Ev.chain, Ev.gv0, Ev.gvs, Ev.gt, Ev.gnil, Ev.gcons, Ev.asg, Ev.setix, Ev.ex, Ev.ret, Ev.iff, Ev.forr, Ev.snil, Ev.scons, Ev.irange, Ev.vwI, Ev.vwS, Ev.vwB, Ev.vwN, Ev.vwL, Ev.vwT, Ev.vwO, Ev.asb, Ev.ckT, Ev.addI, Ev.subI, Ev.ltI, Ev.leI, Ev.gtI, Ev.geI, Ev.eqI, Ev.neI, Ev.intI, Ev.absI, Ev.lenL, Ev.lenT, Ev.lenC, Ev.strS, Ev.tupL, Ev.tupT, Ev.po0, Ev.poi, Ev.slL, Ev.setf, Ev.make, Ev.callk, Ev.meth, Ev.ienum, Ev.dnew, Ev.ddis, Ev.dof, Ev.dcm, Ev.rev1, Ev.dget2, Ev.irev, Ev.lc, Ev.lcf, Ev.forf, Ev.wi0, Ev.wi1, List.set_cons_succ, List.set_cons_zero, Co.bind_assoc, List.map_cons, List.map_nil, List.cons_append, List.nil_append, List.length_cons, List.length_nil, List.replicate_succ, List.replicate_zero, Nat.reduceAdd, Nat.reduceSub, Nat.reduceLeDiff, decide_true, wp_ok, eq_self]
  have hNo : ∀ y ∈ N, okB y := fun y hy => .inl (hN y hy)
  refine wp_then (forS_q (xs := F.map encF) (I := fun r env mm => mm = m ∧ (∃ a b : Option PV, env = [some v, some (.lst (N.map .str)), a, b]) ∧ ∀ x ∈ r, x ∈ F.map encF) (Q := fun q mm => q.1 = .nx ∧ mm = m ∧ ∃ a b : Option PV, q.2 = [some v, some (.lst (N.map .str)), a, b]) (by simp; omega) (fun r env mm hI => by rw [hI.1]; exact h) (fun x r env mm hI => ?_) (fun env mm hI => ⟨rfl, hI.1, hI.2.1⟩) ⟨rfl, ⟨none, none, rfl⟩, fun _ h => h⟩) fun q m2 ⟨h1, h2, a, b, h3⟩ => ?_
  · obtain ⟨rfl, ⟨a, b, rfl⟩, hx⟩ := hI
    rw [List.forall_mem_cons] at hx
    obtain ⟨f, hfF, rfl⟩ := List.mem_map.mp hx.1
    obtain ⟨k1, k2⟩ := hF.inn f hfF
    have i1 : ∀ x : Str, isiop (DG (n + 2)).nC .str (.str x) = some true := fun _ => rfl
    have c1 : cmpV (DG (n + 2)) .nmem (.str f.1) (.lst (N.map .str)) mm = .ok (.bl false) mm := by
      rw [(in_S (hNo _ k1) hNo (.inl rfl)).2, decide_eq_true k1]; rfl
    have c2 : cmpV (DG (n + 2)) .nmem (.str f.2) (.lst (N.map .str)) mm = .ok (.bl false) mm := by
      rw [(in_S (hNo _ k2) hNo (.inl rfl)).2, decide_eq_true k2]; rfl
    have c3 : cmpV (DG (n + 2)) .eq (.str f.1) (.str f.2) mm = .ok (.bl false) mm := by
      rw [(eq_S (hNo _ k1) (hNo _ k2)).1, decide_eq_false (hF.ne hfF)]
    try simp only [Ev.v0, Ev.vs, Ev.kk, Ev.bin, Ev.cmp, Ev.bok, Ev.ofs, Ev.test, Ev.iteE, Ev.val, Ev.nt, Ev.an, Ev.orE, Ev.tt, Ev.enil, Ev.econs, Ev.tup, Ev.lst, Ev.fz, Ev.cell, Ev.ix, Ev.call, Ev.bi, Ev.bi2, Ev.isi, Ev.m1, Ev.attr, Ev.sl, Ev.lof, Ev.srt, Ev.chain, Ev.gv0, Ev.gvs, Ev.gt, Ev.gnil, Ev.gcons, Ev.asg, Ev.setix, Ev.ex, Ev.ret, Ev.iff, Ev.forr, Ev.snil, Ev.scons, Ev.iseq, Ev.irange, Ev.vwI, Ev.vwS, Ev.vwB, Ev.vwN, Ev.vwL, Ev.vwT, Ev.vwO, Ev.asb, Ev.ckT, Ev.addI, Ev.subI, Ev.ltI, Ev.leI, Ev.gtI, Ev.geI, Ev.eqI, Ev.neI, Ev.intI, Ev.absI, Ev.lenL, Ev.lenT, Ev.lenC, Ev.strS, Ev.tupL, Ev.tupT, Ev.po0, Ev.poi, Ev.slL, Ev.setf, Ev.make, Ev.callk, Ev.meth, Ev.ienum, Ev.dnew, Ev.ddis, Ev.dof, Ev.dcm, Ev.rev1, Ev.dget2, Ev.irev, Ev.lc, Ev.lcf, Ev.forf, Ev.wi0, Ev.wi1, List.set_cons_succ, List.set_cons_zero, Co.bind_assoc, List.map_cons, List.map_nil, List.cons_append, List.nil_append, List.length_cons, List.length_nil, List.replicate_succ, List.replicate_zero, Nat.reduceAdd, Nat.reduceSub, Nat.reduceLeDiff, decide_true, wp_ok, i1, Option.map_some, Bool.not_true, c1, c2, c3]
    exact ⟨trivial, ⟨_, _, rfl⟩, hx.2⟩
  · rw [h1, h3, h2]
    try simp only [Ev.v0, Ev.vs, Ev.kk, Ev.bin, Ev.cmp, Ev.bok, Ev.ofs, Ev.test, Ev.iteE, Ev.val, Ev.nt, Ev.an, Ev.orE, Ev.tt, Ev.enil, Ev.econs, Ev.tup, Ev.lst, Ev.fz, Ev.cell, Ev.ix, Ev.call, Ev.bi, Ev.bi2, Ev.isi, Ev.m1, Ev.attr, Ev.sl, Ev.lof, Ev.srt, Ev.chain, Ev.gv0, Ev.gvs, Ev.gt, Ev.gnil, Ev.gcons, Ev.asg, Ev.setix, Ev.ex, Ev.ret, Ev.iff, Ev.forr, Ev.snil, Ev.scons, Ev.iseq, Ev.irange, Ev.vwI, Ev.vwS, Ev.vwB, Ev.vwN, Ev.vwL, Ev.vwT, Ev.vwO, Ev.asb, Ev.ckT, Ev.addI, Ev.subI, Ev.ltI, Ev.leI, Ev.gtI, Ev.geI, Ev.eqI, Ev.neI, Ev.intI, Ev.absI, Ev.lenL, Ev.lenT, Ev.lenC, Ev.strS, Ev.tupL, Ev.tupT, Ev.po0, Ev.poi, Ev.slL, Ev.setf, Ev.make, Ev.callk, Ev.meth, Ev.ienum, Ev.dnew, Ev.ddis, Ev.dof, Ev.dcm, Ev.rev1, Ev.dget2, Ev.irev, Ev.lc, Ev.lcf, Ev.forf, Ev.wi0, Ev.wi1, List.set_cons_succ, List.set_cons_zero, Co.bind_assoc, List.map_cons, List.map_nil, List.cons_append, List.nil_append, List.length_cons, List.length_nil, List.replicate_succ, List.replicate_zero, Nat.reduceAdd, Nat.reduceSub, Nat.reduceLeDiff, decide_true, wp_ok]
    exact ⟨trivial, trivial⟩
end My

end P_Xh
section P_Xi
set_option Elab.async false
set_option linter.all false
set_option maxRecDepth 100000
set_option maxHeartbeats 2000000
namespace My
open Co
open PySem (Str)
theorem lcFx_flt {f : PV → Mem → Out (Option PV)} {al : Str → Bool} {m : Mem} {g : List Str} (hf : ∀ x ∈ g, f (.str x) m = .ok (if al x then some (.str x) else none) m) : wp (lcFx f (g.map .str) m) fun ys m1 => ys = (g.filter al).map .str ∧ m1 = m := by
  have : lcFx f (g.map .str) m = .ok ((g.filter al).map .str) m := by
    induction g with
    | nil => rfl
    | cons x g ih =>
      rw [List.forall_mem_cons] at hf
      rw [List.map_cons]
      unfold lcFx
      rw [hf.1]
      have ih := ih hf.2
      by_cases h : al x = true
      · rw [if_pos h, List.filter_cons_of_pos h]
        show (lcFx f (g.map .str) m).bind _ = _
        rw [ih]
        rfl
      · rw [if_neg h, List.filter_cons_of_neg h]
        exact ih
  rw [this]
  exact ⟨rfl, rfl⟩
theorem lofL {xs : List PV} : lofO (.lst xs) = some xs := rfl
/-- there is one that no fact holds back -/
theorem some_free {F : List (Str × Str)} {L : List Str} (hr : ∃ r : Str → Nat, ∀ f ∈ F, r f.1 < r f.2) (hL : L ≠ []) : ∃ x ∈ L, ∀ f ∈ F, f.1 ∈ L → f.2 ≠ x := by
  obtain ⟨r, hr⟩ := hr
  have hmin : ∀ L : List Str, L ≠ [] → ∃ x ∈ L, ∀ y ∈ L, r x ≤ r y := fun L => by
    induction L with
    | nil => intro h; exact absurd rfl h
    | cons a l ih =>
      intro _
      cases l with
      | nil => exact ⟨a, by simp, by simp⟩
      | cons b l =>
        obtain ⟨x, hx, hm⟩ := ih (by simp)
        by_cases h : r a ≤ r x
        · exact ⟨a, by simp, fun y hy => by
            rcases List.mem_cons.mp hy with rfl | hy
            · exact Nat.le_refl _
            · exact Nat.le_trans h (hm y hy)⟩
        · exact ⟨x, List.mem_cons_of_mem _ hx, fun y hy => by
            rcases List.mem_cons.mp hy with rfl | hy
            · omega
            · exact hm y hy⟩
  obtain ⟨x, hx, hm⟩ := hmin L hL
  exact ⟨x, hx, fun f hf h1 e => by
    have h2 := hr f hf
    have h3 := hm f.1 h1
    rw [e] at h2
    omega⟩
def RingI (m : Mem) (N : List Str) (v : PV) (c : Nat) (env : Co.Env) (mm : Mem) : Prop := mm = m ∧ ∃ (L : List Str) (a b x y z : Option PV), env = [some (.lst (N.map .str)), some v, some (.lst (L.map .str)), a, b, x, y, z] ∧ (∀ x ∈ L, x ∈ N) ∧ L.length ≤ c
theorem has_ring_ok {n : Nat} {N : List Str} {v : PV} {F : List (Str × Str)} {m : Mem} (hN : ∀ y ∈ N, nameB y = true) (hl : N.length ≤ 60) (h : isq m v (F.map encF)) (hF : FacOk N F) : RG (n + 1) 23 [.lst (N.map .str), v] m = .ok (.bl false) m := by
  refine wp_eq (call_wp (F := (2, 8, g23 100000)) rfl rfl ?_)
  have hf := hF.few
  have hs := fun (a : EM) (env : Co.Env) (ha : a env m = .ok v m) => iseqQ h ha
  have hNo : ∀ y ∈ N, okB y := fun y hy => .inl (hN y hy)
  try simp only [Ev.v0, Ev.vs, Ev.kk, Ev.bin, Ev.cmp, Ev.bok, Ev.ofs, Ev.test, Ev.iteE, Ev.val, Ev.nt, Ev.an, Ev.orE, Ev.tt, Ev.enil, Ev.econs, Ev.tup, Ev.lst, Ev.fz, Ev.cell, Ev.ix, Ev.call, Ev.bi, Ev.bi2, Ev.isi, Ev.m1, Ev.attr, Ev.sl, Ev.lof, Ev.srt, Ev.chain, Ev.gv0, Ev.gvs, Ev.gt, Ev.gnil, Ev.gcons, Ev.asg, Ev.setix, Ev.ex, Ev.ret, Ev.iff, Ev.forr, Ev.snil, Ev.scons, Ev.irange, Ev.vwI, Ev.vwS, Ev.vwB, Ev.vwN, Ev.vwL, Ev.vwT, Ev.vwO, Ev.asb, Ev.ckT, Ev.addI, Ev.subI, Ev.ltI, Ev.leI, Ev.gtI, Ev.geI, Ev.eqI, Ev.neI, Ev.intI, Ev.absI, Ev.lenL, Ev.lenT, Ev.lenC, Ev.strS, Ev.tupL, Ev.tupT, Ev.po0, Ev.poi, Ev.slL, Ev.setf, Ev.make, Ev.callk, Ev.meth, Ev.ienum, Ev.dnew, Ev.ddis, Ev.dof, Ev.dcm, Ev.rev1, Ev.dget2, Ev.irev, Ev.lc, Ev.lcf, Ev.forf, Ev.wi0, Ev.wi1, List.set_cons_succ, List.set_cons_zero, Co.bind_assoc, List.map_cons, List.map_nil, List.cons_append, List.nil_append, List.length_cons, List.length_nil, List.replicate_succ, List.replicate_zero, Nat.reduceAdd, Nat.reduceSub, Nat.reduceLeDiff, decide_true, wp_ok, eq_self, g23, lofL]
  refine wp_then (whL_inv (I := RingI m N v) (Q := fun q mm => q.1 = .nx ∧ mm = m ∧ ∃ e : Co.Env, q.2 = e) (fun c env mm hI => ?_) 100000 N.length _ _ (by omega) ⟨rfl, N, _, _, _, _, _, rfl, fun _ h => h, Nat.le_refl _⟩) fun q mm ⟨h1, h2, _⟩ => ?_
  · obtain ⟨rfl, L, a, b, x, y, z, rfl, hL, hc⟩ := hI
    have hLo : ∀ y ∈ L, okB y := fun y hy => hNo y (hL y hy)
    by_cases he : L = []
    · subst he
      have c0 : cmpV (DG n) .ne (.lst []) (.lst []) mm = .ok (.bl false) mm := (ne_nil (ns := []) (by simp)).1
      try simp only [Ev.v0, Ev.vs, Ev.kk, Ev.bin, Ev.cmp, Ev.bok, Ev.ofs, Ev.test, Ev.iteE, Ev.val, Ev.nt, Ev.an, Ev.orE, Ev.tt, Ev.enil, Ev.econs, Ev.tup, Ev.lst, Ev.fz, Ev.cell, Ev.ix, Ev.call, Ev.bi, Ev.bi2, Ev.isi, Ev.m1, Ev.attr, Ev.sl, Ev.lof, Ev.srt, Ev.chain, Ev.gv0, Ev.gvs, Ev.gt, Ev.gnil, Ev.gcons, Ev.asg, Ev.setix, Ev.ex, Ev.ret, Ev.iff, Ev.forr, Ev.snil, Ev.scons, Ev.iseq, Ev.irange, Ev.vwI, Ev.vwS, Ev.vwB, Ev.vwN, Ev.vwL, Ev.vwT, Ev.vwO, Ev.asb, Ev.ckT, Ev.addI, Ev.subI, Ev.ltI, Ev.leI, Ev.gtI, Ev.geI, Ev.eqI, Ev.neI, Ev.intI, Ev.absI, Ev.lenL, Ev.lenT, Ev.lenC, Ev.strS, Ev.tupL, Ev.tupT, Ev.po0, Ev.poi, Ev.slL, Ev.setf, Ev.make, Ev.callk, Ev.meth, Ev.ienum, Ev.dnew, Ev.ddis, Ev.dof, Ev.dcm, Ev.rev1, Ev.dget2, Ev.irev, Ev.lc, Ev.lcf, Ev.forf, Ev.wi0, Ev.wi1, List.set_cons_succ, List.set_cons_zero, Co.bind_assoc, List.map_cons, List.map_nil, List.cons_append, List.nil_append, List.length_cons, List.length_nil, List.replicate_succ, List.replicate_zero, Nat.reduceAdd, Nat.reduceSub, Nat.reduceLeDiff, decide_true, wp_ok, c0]
      exact ⟨trivial, trivial, _, rfl⟩
    · have c0 : cmpV (DG n) .ne (.lst (L.map .str)) (.lst []) mm = .ok (.bl true) mm := by
        rw [(ne_nil hLo).1]
        cases L with
        | nil => exact absurd rfl he
        | cons _ _ => rfl
      have hpos : 0 < L.length := List.length_pos_iff.mpr he
      try simp only [Ev.v0, Ev.vs, Ev.kk, Ev.bin, Ev.cmp, Ev.bok, Ev.ofs, Ev.test, Ev.iteE, Ev.val, Ev.nt, Ev.an, Ev.orE, Ev.tt, Ev.enil, Ev.econs, Ev.tup, Ev.lst, Ev.fz, Ev.cell, Ev.ix, Ev.call, Ev.bi, Ev.bi2, Ev.isi, Ev.m1, Ev.attr, Ev.sl, Ev.lof, Ev.srt, Ev.chain, Ev.gv0, Ev.gvs, Ev.gt, Ev.gnil, Ev.gcons, Ev.asg, Ev.setix, Ev.ex, Ev.ret, Ev.iff, Ev.forr, Ev.snil, Ev.scons, Ev.irange, Ev.vwI, Ev.vwS, Ev.vwB, Ev.vwN, Ev.vwL, Ev.vwT, Ev.vwO, Ev.asb, Ev.ckT, Ev.addI, Ev.subI, Ev.ltI, Ev.leI, Ev.gtI, Ev.geI, Ev.eqI, Ev.neI, Ev.intI, Ev.absI, Ev.lenL, Ev.lenT, Ev.lenC, Ev.strS, Ev.tupL, Ev.tupT, Ev.po0, Ev.poi, Ev.slL, Ev.setf, Ev.make, Ev.callk, Ev.meth, Ev.ienum, Ev.dnew, Ev.ddis, Ev.dof, Ev.dcm, Ev.rev1, Ev.dget2, Ev.irev, Ev.lc, Ev.lcf, Ev.forf, Ev.wi0, Ev.wi1, List.set_cons_succ, List.set_cons_zero, Co.bind_assoc, List.map_cons, List.map_nil, List.cons_append, List.nil_append, List.length_cons, List.length_nil, List.replicate_succ, List.replicate_zero, Nat.reduceAdd, Nat.reduceSub, Nat.reduceLeDiff, decide_true, wp_ok, eq_self, c0]
      rw [hs _ _ rfl]
      try simp only [Ev.v0, Ev.vs, Ev.kk, Ev.bin, Ev.cmp, Ev.bok, Ev.ofs, Ev.test, Ev.iteE, Ev.val, Ev.nt, Ev.an, Ev.orE, Ev.tt, Ev.enil, Ev.econs, Ev.tup, Ev.lst, Ev.fz, Ev.cell, Ev.ix, Ev.call, Ev.bi, Ev.bi2, Ev.isi, Ev.m1, Ev.attr, Ev.sl, Ev.lof, Ev.srt, Ev.chain, Ev.gv0, Ev.gvs, Ev.gt, Ev.gnil, Ev.gcons, Ev.asg, Ev.setix, Ev.ex, Ev.ret, Ev.iff, Ev.forr, Ev.snil, Ev.scons, Ev.irange, Ev.vwI, Ev.vwS, Ev.vwB, Ev.vwN, Ev.vwL, Ev.vwT, Ev.vwO, Ev.asb, Ev.ckT, Ev.addI, Ev.subI, Ev.ltI, Ev.leI, Ev.gtI, Ev.geI, Ev.eqI, Ev.neI, Ev.intI, Ev.absI, Ev.lenL, Ev.lenT, Ev.lenC, Ev.strS, Ev.tupL, Ev.tupT, Ev.po0, Ev.poi, Ev.slL, Ev.setf, Ev.make, Ev.callk, Ev.meth, Ev.ienum, Ev.dnew, Ev.ddis, Ev.dof, Ev.dcm, Ev.rev1, Ev.dget2, Ev.irev, Ev.lc, Ev.lcf, Ev.forf, Ev.wi0, Ev.wi1, List.set_cons_succ, List.set_cons_zero, Co.bind_assoc, List.map_cons, List.map_nil, List.cons_append, List.nil_append, List.length_cons, List.length_nil, List.replicate_succ, List.replicate_zero, Nat.reduceAdd, Nat.reduceSub, Nat.reduceLeDiff, decide_true, wp_ok, eq_self]
      refine ⟨c - 1, by omega, ?_⟩
      refine wp_then (lcS_f (fun f => .str f.2) (fun f => decide (f.1 ∈ L)) h (by omega) fun f hf => ?_) fun ys m1 ⟨e1, e2⟩ => ?_
      · have c1 : cmpV (DG n) .mem (.str f.1) (.lst (L.map .str)) mm = .ok (.bl (decide (f.1 ∈ L))) mm := (in_S (hNo _ (hF.inn f hf).1) hLo (.inl rfl)).1
        by_cases hm : f.1 ∈ L
        · rw [decide_eq_true hm] at c1 ⊢
          try simp only [Ev.v0, Ev.vs, Ev.kk, Ev.bin, Ev.cmp, Ev.bok, Ev.ofs, Ev.test, Ev.iteE, Ev.val, Ev.nt, Ev.an, Ev.orE, Ev.tt, Ev.enil, Ev.econs, Ev.tup, Ev.lst, Ev.fz, Ev.cell, Ev.ix, Ev.call, Ev.bi, Ev.bi2, Ev.isi, Ev.m1, Ev.attr, Ev.sl, Ev.lof, Ev.srt, Ev.chain, Ev.gv0, Ev.gvs, Ev.gt, Ev.gnil, Ev.gcons, Ev.asg, Ev.setix, Ev.ex, Ev.ret, Ev.iff, Ev.forr, Ev.snil, Ev.scons, Ev.iseq, Ev.irange, Ev.vwI, Ev.vwS, Ev.vwB, Ev.vwN, Ev.vwL, Ev.vwT, Ev.vwO, Ev.asb, Ev.ckT, Ev.addI, Ev.subI, Ev.ltI, Ev.leI, Ev.gtI, Ev.geI, Ev.eqI, Ev.neI, Ev.intI, Ev.absI, Ev.lenL, Ev.lenT, Ev.lenC, Ev.strS, Ev.tupL, Ev.tupT, Ev.po0, Ev.poi, Ev.slL, Ev.setf, Ev.make, Ev.callk, Ev.meth, Ev.ienum, Ev.dnew, Ev.ddis, Ev.dof, Ev.dcm, Ev.rev1, Ev.dget2, Ev.irev, Ev.lc, Ev.lcf, Ev.forf, Ev.wi0, Ev.wi1, List.set_cons_succ, List.set_cons_zero, Co.bind_assoc, List.map_cons, List.map_nil, List.cons_append, List.nil_append, List.length_cons, List.length_nil, List.replicate_succ, List.replicate_zero, Nat.reduceAdd, Nat.reduceSub, Nat.reduceLeDiff, decide_true, wp_ok, c1]
          rfl
        · rw [decide_eq_false hm] at c1 ⊢
          try simp only [Ev.v0, Ev.vs, Ev.kk, Ev.bin, Ev.cmp, Ev.bok, Ev.ofs, Ev.test, Ev.iteE, Ev.val, Ev.nt, Ev.an, Ev.orE, Ev.tt, Ev.enil, Ev.econs, Ev.tup, Ev.lst, Ev.fz, Ev.cell, Ev.ix, Ev.call, Ev.bi, Ev.bi2, Ev.isi, Ev.m1, Ev.attr, Ev.sl, Ev.lof, Ev.srt, Ev.chain, Ev.gv0, Ev.gvs, Ev.gt, Ev.gnil, Ev.gcons, Ev.asg, Ev.setix, Ev.ex, Ev.ret, Ev.iff, Ev.forr, Ev.snil, Ev.scons, Ev.iseq, Ev.irange, Ev.vwI, Ev.vwS, Ev.vwB, Ev.vwN, Ev.vwL, Ev.vwT, Ev.vwO, Ev.asb, Ev.ckT, Ev.addI, Ev.subI, Ev.ltI, Ev.leI, Ev.gtI, Ev.geI, Ev.eqI, Ev.neI, Ev.intI, Ev.absI, Ev.lenL, Ev.lenT, Ev.lenC, Ev.strS, Ev.tupL, Ev.tupT, Ev.po0, Ev.poi, Ev.slL, Ev.setf, Ev.make, Ev.callk, Ev.meth, Ev.ienum, Ev.dnew, Ev.ddis, Ev.dof, Ev.dcm, Ev.rev1, Ev.dget2, Ev.irev, Ev.lc, Ev.lcf, Ev.forf, Ev.wi0, Ev.wi1, List.set_cons_succ, List.set_cons_zero, Co.bind_assoc, List.map_cons, List.map_nil, List.cons_append, List.nil_append, List.length_cons, List.length_nil, List.replicate_succ, List.replicate_zero, Nat.reduceAdd, Nat.reduceSub, Nat.reduceLeDiff, decide_true, wp_ok, c1]
          rfl
      subst e1 e2
      have eh : ((F.filter fun f => decide (f.1 ∈ L)).map fun f => PV.str f.2) = ((F.filter fun f => decide (f.1 ∈ L)).map (·.2)).map .str := by rw [List.map_map]; rfl
      rw [eh]
      generalize hH : (F.filter fun f => decide (f.1 ∈ L)).map (·.2) = Hd
      have hHo : ∀ y ∈ Hd, okB y := fun y hy => by
        rw [← hH] at hy
        obtain ⟨f, hf, rfl⟩ := List.mem_map.mp hy
        exact hNo _ (hF.inn f (List.mem_filter.mp hf).1).2
      try simp only [Ev.v0, Ev.vs, Ev.kk, Ev.bin, Ev.cmp, Ev.bok, Ev.ofs, Ev.test, Ev.iteE, Ev.val, Ev.nt, Ev.an, Ev.orE, Ev.tt, Ev.enil, Ev.econs, Ev.tup, Ev.lst, Ev.fz, Ev.cell, Ev.ix, Ev.call, Ev.bi, Ev.bi2, Ev.isi, Ev.m1, Ev.attr, Ev.sl, Ev.lof, Ev.srt, Ev.chain, Ev.gv0, Ev.gvs, Ev.gt, Ev.gnil, Ev.gcons, Ev.asg, Ev.setix, Ev.ex, Ev.ret, Ev.iff, Ev.forr, Ev.snil, Ev.scons, Ev.iseq, Ev.irange, Ev.vwI, Ev.vwS, Ev.vwB, Ev.vwN, Ev.vwL, Ev.vwT, Ev.vwO, Ev.asb, Ev.ckT, Ev.addI, Ev.subI, Ev.ltI, Ev.leI, Ev.gtI, Ev.geI, Ev.eqI, Ev.neI, Ev.intI, Ev.absI, Ev.lenL, Ev.lenT, Ev.lenC, Ev.strS, Ev.tupL, Ev.tupT, Ev.po0, Ev.poi, Ev.slL, Ev.setf, Ev.make, Ev.callk, Ev.meth, Ev.ienum, Ev.dnew, Ev.ddis, Ev.dof, Ev.dcm, Ev.rev1, Ev.dget2, Ev.irev, Ev.lc, Ev.lcf, Ev.forf, Ev.wi0, Ev.wi1, List.set_cons_succ, List.set_cons_zero, Co.bind_assoc, List.map_cons, List.map_nil, List.cons_append, List.nil_append, List.length_cons, List.length_nil, List.replicate_succ, List.replicate_zero, Nat.reduceAdd, Nat.reduceSub, Nat.reduceLeDiff, decide_true, wp_ok]
      refine wp_then (lcFx_flt (al := fun x => !decide (x ∈ Hd)) fun x hx => ?_) fun ys m2 ⟨e1, e2⟩ => ?_
      · have c1 : cmpV (DG n) .nmem (.str x) (.lst (Hd.map .str)) m1 = .ok (.bl (!decide (x ∈ Hd))) m1 := (in_S (hLo x hx) hHo (.inl rfl)).2
        by_cases hm : x ∈ Hd
        · rw [decide_eq_true hm] at c1 ⊢
          try simp only [Ev.v0, Ev.vs, Ev.kk, Ev.bin, Ev.cmp, Ev.bok, Ev.ofs, Ev.test, Ev.iteE, Ev.val, Ev.nt, Ev.an, Ev.orE, Ev.tt, Ev.enil, Ev.econs, Ev.tup, Ev.lst, Ev.fz, Ev.cell, Ev.ix, Ev.call, Ev.bi, Ev.bi2, Ev.isi, Ev.m1, Ev.attr, Ev.sl, Ev.lof, Ev.srt, Ev.chain, Ev.gv0, Ev.gvs, Ev.gt, Ev.gnil, Ev.gcons, Ev.asg, Ev.setix, Ev.ex, Ev.ret, Ev.iff, Ev.forr, Ev.snil, Ev.scons, Ev.iseq, Ev.irange, Ev.vwI, Ev.vwS, Ev.vwB, Ev.vwN, Ev.vwL, Ev.vwT, Ev.vwO, Ev.asb, Ev.ckT, Ev.addI, Ev.subI, Ev.ltI, Ev.leI, Ev.gtI, Ev.geI, Ev.eqI, Ev.neI, Ev.intI, Ev.absI, Ev.lenL, Ev.lenT, Ev.lenC, Ev.strS, Ev.tupL, Ev.tupT, Ev.po0, Ev.poi, Ev.slL, Ev.setf, Ev.make, Ev.callk, Ev.meth, Ev.ienum, Ev.dnew, Ev.ddis, Ev.dof, Ev.dcm, Ev.rev1, Ev.dget2, Ev.irev, Ev.lc, Ev.lcf, Ev.forf, Ev.wi0, Ev.wi1, List.set_cons_succ, List.set_cons_zero, Co.bind_assoc, List.map_cons, List.map_nil, List.cons_append, List.nil_append, List.length_cons, List.length_nil, List.replicate_succ, List.replicate_zero, Nat.reduceAdd, Nat.reduceSub, Nat.reduceLeDiff, decide_true, wp_ok, c1, Bool.not_true]
          rfl
        · rw [decide_eq_false hm] at c1 ⊢
          try simp only [Ev.v0, Ev.vs, Ev.kk, Ev.bin, Ev.cmp, Ev.bok, Ev.ofs, Ev.test, Ev.iteE, Ev.val, Ev.nt, Ev.an, Ev.orE, Ev.tt, Ev.enil, Ev.econs, Ev.tup, Ev.lst, Ev.fz, Ev.cell, Ev.ix, Ev.call, Ev.bi, Ev.bi2, Ev.isi, Ev.m1, Ev.attr, Ev.sl, Ev.lof, Ev.srt, Ev.chain, Ev.gv0, Ev.gvs, Ev.gt, Ev.gnil, Ev.gcons, Ev.asg, Ev.setix, Ev.ex, Ev.ret, Ev.iff, Ev.forr, Ev.snil, Ev.scons, Ev.iseq, Ev.irange, Ev.vwI, Ev.vwS, Ev.vwB, Ev.vwN, Ev.vwL, Ev.vwT, Ev.vwO, Ev.asb, Ev.ckT, Ev.addI, Ev.subI, Ev.ltI, Ev.leI, Ev.gtI, Ev.geI, Ev.eqI, Ev.neI, Ev.intI, Ev.absI, Ev.lenL, Ev.lenT, Ev.lenC, Ev.strS, Ev.tupL, Ev.tupT, Ev.po0, Ev.poi, Ev.slL, Ev.setf, Ev.make, Ev.callk, Ev.meth, Ev.ienum, Ev.dnew, Ev.ddis, Ev.dof, Ev.dcm, Ev.rev1, Ev.dget2, Ev.irev, Ev.lc, Ev.lcf, Ev.forf, Ev.wi0, Ev.wi1, List.set_cons_succ, List.set_cons_zero, Co.bind_assoc, List.map_cons, List.map_nil, List.cons_append, List.nil_append, List.length_cons, List.length_nil, List.replicate_succ, List.replicate_zero, Nat.reduceAdd, Nat.reduceSub, Nat.reduceLeDiff, decide_true, wp_ok, c1, Bool.not_false]
          rfl
      subst e1 e2
      obtain ⟨x0, hx0, hfr⟩ := some_free hF.rank he
      have hx0f : x0 ∈ L.filter fun x => !decide (x ∈ Hd) := List.mem_filter.mpr ⟨hx0, by
        rw [decide_eq_false]
        · rfl
        · intro hm
          rw [← hH] at hm
          obtain ⟨f, hf, e⟩ := List.mem_map.mp hm
          have := List.mem_filter.mp hf
          exact hfr f this.1 (of_decide_eq_true this.2) e⟩
      generalize hG : (L.filter fun x => !decide (x ∈ Hd)) = Fr at hx0f
      have hFo : ∀ y ∈ Fr, okB y := fun y hy => by
        rw [← hG] at hy
        exact hLo y (List.mem_filter.mp hy).1
      have c2 : cmpV (DG n) .eq (.lst (Fr.map .str)) (.lst []) m2 = .ok (.bl false) m2 := by
        rw [(ne_nil hFo).2]
        cases Fr with
        | nil => cases hx0f
        | cons _ _ => rfl
      try simp only [Ev.v0, Ev.vs, Ev.kk, Ev.bin, Ev.cmp, Ev.bok, Ev.ofs, Ev.test, Ev.iteE, Ev.val, Ev.nt, Ev.an, Ev.orE, Ev.tt, Ev.enil, Ev.econs, Ev.tup, Ev.lst, Ev.fz, Ev.cell, Ev.ix, Ev.call, Ev.bi, Ev.bi2, Ev.isi, Ev.m1, Ev.attr, Ev.sl, Ev.lof, Ev.srt, Ev.chain, Ev.gv0, Ev.gvs, Ev.gt, Ev.gnil, Ev.gcons, Ev.asg, Ev.setix, Ev.ex, Ev.ret, Ev.iff, Ev.forr, Ev.snil, Ev.scons, Ev.iseq, Ev.irange, Ev.vwI, Ev.vwS, Ev.vwB, Ev.vwN, Ev.vwL, Ev.vwT, Ev.vwO, Ev.asb, Ev.ckT, Ev.addI, Ev.subI, Ev.ltI, Ev.leI, Ev.gtI, Ev.geI, Ev.eqI, Ev.neI, Ev.intI, Ev.absI, Ev.lenL, Ev.lenT, Ev.lenC, Ev.strS, Ev.tupL, Ev.tupT, Ev.po0, Ev.poi, Ev.slL, Ev.setf, Ev.make, Ev.callk, Ev.meth, Ev.ienum, Ev.dnew, Ev.ddis, Ev.dof, Ev.dcm, Ev.rev1, Ev.dget2, Ev.irev, Ev.lc, Ev.lcf, Ev.forf, Ev.wi0, Ev.wi1, List.set_cons_succ, List.set_cons_zero, Co.bind_assoc, List.map_cons, List.map_nil, List.cons_append, List.nil_append, List.length_cons, List.length_nil, List.replicate_succ, List.replicate_zero, Nat.reduceAdd, Nat.reduceSub, Nat.reduceLeDiff, decide_true, wp_ok, c2]
      refine wp_then (lcFx_flt (al := fun x => !decide (x ∈ Fr)) fun x hx => ?_) fun ys m3 ⟨e1, e2⟩ => ?_
      · have c1 : cmpV (DG n) .nmem (.str x) (.lst (Fr.map .str)) m2 = .ok (.bl (!decide (x ∈ Fr))) m2 := (in_S (hLo x hx) hFo (.inl rfl)).2
        by_cases hm : x ∈ Fr
        · rw [decide_eq_true hm] at c1 ⊢
          try simp only [Ev.v0, Ev.vs, Ev.kk, Ev.bin, Ev.cmp, Ev.bok, Ev.ofs, Ev.test, Ev.iteE, Ev.val, Ev.nt, Ev.an, Ev.orE, Ev.tt, Ev.enil, Ev.econs, Ev.tup, Ev.lst, Ev.fz, Ev.cell, Ev.ix, Ev.call, Ev.bi, Ev.bi2, Ev.isi, Ev.m1, Ev.attr, Ev.sl, Ev.lof, Ev.srt, Ev.chain, Ev.gv0, Ev.gvs, Ev.gt, Ev.gnil, Ev.gcons, Ev.asg, Ev.setix, Ev.ex, Ev.ret, Ev.iff, Ev.forr, Ev.snil, Ev.scons, Ev.iseq, Ev.irange, Ev.vwI, Ev.vwS, Ev.vwB, Ev.vwN, Ev.vwL, Ev.vwT, Ev.vwO, Ev.asb, Ev.ckT, Ev.addI, Ev.subI, Ev.ltI, Ev.leI, Ev.gtI, Ev.geI, Ev.eqI, Ev.neI, Ev.intI, Ev.absI, Ev.lenL, Ev.lenT, Ev.lenC, Ev.strS, Ev.tupL, Ev.tupT, Ev.po0, Ev.poi, Ev.slL, Ev.setf, Ev.make, Ev.callk, Ev.meth, Ev.ienum, Ev.dnew, Ev.ddis, Ev.dof, Ev.dcm, Ev.rev1, Ev.dget2, Ev.irev, Ev.lc, Ev.lcf, Ev.forf, Ev.wi0, Ev.wi1, List.set_cons_succ, List.set_cons_zero, Co.bind_assoc, List.map_cons, List.map_nil, List.cons_append, List.nil_append, List.length_cons, List.length_nil, List.replicate_succ, List.replicate_zero, Nat.reduceAdd, Nat.reduceSub, Nat.reduceLeDiff, decide_true, wp_ok, c1, Bool.not_true]
          rfl
        · rw [decide_eq_false hm] at c1 ⊢
          try simp only [Ev.v0, Ev.vs, Ev.kk, Ev.bin, Ev.cmp, Ev.bok, Ev.ofs, Ev.test, Ev.iteE, Ev.val, Ev.nt, Ev.an, Ev.orE, Ev.tt, Ev.enil, Ev.econs, Ev.tup, Ev.lst, Ev.fz, Ev.cell, Ev.ix, Ev.call, Ev.bi, Ev.bi2, Ev.isi, Ev.m1, Ev.attr, Ev.sl, Ev.lof, Ev.srt, Ev.chain, Ev.gv0, Ev.gvs, Ev.gt, Ev.gnil, Ev.gcons, Ev.asg, Ev.setix, Ev.ex, Ev.ret, Ev.iff, Ev.forr, Ev.snil, Ev.scons, Ev.iseq, Ev.irange, Ev.vwI, Ev.vwS, Ev.vwB, Ev.vwN, Ev.vwL, Ev.vwT, Ev.vwO, Ev.asb, Ev.ckT, Ev.addI, Ev.subI, Ev.ltI, Ev.leI, Ev.gtI, Ev.geI, Ev.eqI, Ev.neI, Ev.intI, Ev.absI, Ev.lenL, Ev.lenT, Ev.lenC, Ev.strS, Ev.tupL, Ev.tupT, Ev.po0, Ev.poi, Ev.slL, Ev.setf, Ev.make, Ev.callk, Ev.meth, Ev.ienum, Ev.dnew, Ev.ddis, Ev.dof, Ev.dcm, Ev.rev1, Ev.dget2, Ev.irev, Ev.lc, Ev.lcf, Ev.forf, Ev.wi0, Ev.wi1, List.set_cons_succ, List.set_cons_zero, Co.bind_assoc, List.map_cons, List.map_nil, List.cons_append, List.nil_append, List.length_cons, List.length_nil, List.replicate_succ, List.replicate_zero, Nat.reduceAdd, Nat.reduceSub, Nat.reduceLeDiff, decide_true, wp_ok, c1, Bool.not_false]
          rfl
      subst e1 e2
      try simp only [Ev.v0, Ev.vs, Ev.kk, Ev.bin, Ev.cmp, Ev.bok, Ev.ofs, Ev.test, Ev.iteE, Ev.val, Ev.nt, Ev.an, Ev.orE, Ev.tt, Ev.enil, Ev.econs, Ev.tup, Ev.lst, Ev.fz, Ev.cell, Ev.ix, Ev.call, Ev.bi, Ev.bi2, Ev.isi, Ev.m1, Ev.attr, Ev.sl, Ev.lof, Ev.srt, Ev.chain, Ev.gv0, Ev.gvs, Ev.gt, Ev.gnil, Ev.gcons, Ev.asg, Ev.setix, Ev.ex, Ev.ret, Ev.iff, Ev.forr, Ev.snil, Ev.scons, Ev.iseq, Ev.irange, Ev.vwI, Ev.vwS, Ev.vwB, Ev.vwN, Ev.vwL, Ev.vwT, Ev.vwO, Ev.asb, Ev.ckT, Ev.addI, Ev.subI, Ev.ltI, Ev.leI, Ev.gtI, Ev.geI, Ev.eqI, Ev.neI, Ev.intI, Ev.absI, Ev.lenL, Ev.lenT, Ev.lenC, Ev.strS, Ev.tupL, Ev.tupT, Ev.po0, Ev.poi, Ev.slL, Ev.setf, Ev.make, Ev.callk, Ev.meth, Ev.ienum, Ev.dnew, Ev.ddis, Ev.dof, Ev.dcm, Ev.rev1, Ev.dget2, Ev.irev, Ev.lc, Ev.lcf, Ev.forf, Ev.wi0, Ev.wi1, List.set_cons_succ, List.set_cons_zero, Co.bind_assoc, List.map_cons, List.map_nil, List.cons_append, List.nil_append, List.length_cons, List.length_nil, List.replicate_succ, List.replicate_zero, Nat.reduceAdd, Nat.reduceSub, Nat.reduceLeDiff, decide_true, wp_ok]
      refine ⟨trivial, rfl, _, _, _, _, _, _, rfl, fun x hx => hL x (List.mem_filter.mp hx).1, ?_⟩
      have : (L.filter fun x => !decide (x ∈ Fr)).length < L.length := by
        refine Nat.lt_of_le_of_ne (List.length_filter_le _ _) fun e => ?_
        have := List.length_filter_eq_length_iff.mp e x0 hx0
        rw [decide_eq_true hx0f] at this
        cases this
      omega
  · rw [h1, h2]
    try simp only [Ev.v0, Ev.vs, Ev.kk, Ev.bin, Ev.cmp, Ev.bok, Ev.ofs, Ev.test, Ev.iteE, Ev.val, Ev.nt, Ev.an, Ev.orE, Ev.tt, Ev.enil, Ev.econs, Ev.tup, Ev.lst, Ev.fz, Ev.cell, Ev.ix, Ev.call, Ev.bi, Ev.bi2, Ev.isi, Ev.m1, Ev.attr, Ev.sl, Ev.lof, Ev.srt, Ev.chain, Ev.gv0, Ev.gvs, Ev.gt, Ev.gnil, Ev.gcons, Ev.asg, Ev.setix, Ev.ex, Ev.ret, Ev.iff, Ev.forr, Ev.snil, Ev.scons, Ev.iseq, Ev.irange, Ev.vwI, Ev.vwS, Ev.vwB, Ev.vwN, Ev.vwL, Ev.vwT, Ev.vwO, Ev.asb, Ev.ckT, Ev.addI, Ev.subI, Ev.ltI, Ev.leI, Ev.gtI, Ev.geI, Ev.eqI, Ev.neI, Ev.intI, Ev.absI, Ev.lenL, Ev.lenT, Ev.lenC, Ev.strS, Ev.tupL, Ev.tupT, Ev.po0, Ev.poi, Ev.slL, Ev.setf, Ev.make, Ev.callk, Ev.meth, Ev.ienum, Ev.dnew, Ev.ddis, Ev.dof, Ev.dcm, Ev.rev1, Ev.dget2, Ev.irev, Ev.lc, Ev.lcf, Ev.forf, Ev.wi0, Ev.wi1, List.set_cons_succ, List.set_cons_zero, Co.bind_assoc, List.map_cons, List.map_nil, List.cons_append, List.nil_append, List.length_cons, List.length_nil, List.replicate_succ, List.replicate_zero, Nat.reduceAdd, Nat.reduceSub, Nat.reduceLeDiff, decide_true, wp_ok]
    exact ⟨trivial, trivial⟩
end My

end P_Xi
section P_Xj
set_option Elab.async false
set_option linter.all false
set_option maxRecDepth 100000
set_option maxHeartbeats 2000000
namespace My
open Co
open PySem (Str)
abbrev pplN : Str := sx [112, 101, 111, 112, 108, 101]
abbrev wilN : Str := sx [119, 105, 108, 108, 115]
abbrev facN : Str := sx [102, 97, 99, 116, 115]
structure Fam where
  P : List (Str × Int)
  W : List (Str × Ws)
  F : List (Str × Str)
abbrev Fam.names (f : Fam) : List Str := f.P.map (·.1)
abbrev Fam.dead (f : Fam) : List Str := f.W.map (·.1)
structure FamOk (f : Fam) : Prop where
  ppl : PplOk f.P
  wil : WilOk f.names f.W
  fac : FacOk f.dead f.F
abbrev objF (f : Fam) : PV := .obj 1 [pplN, wilN, facN] [.tup (f.P.map encP), .tup (f.W.map encW), .tup (f.F.map encF)]
theorem FamOk.nmB {f : Fam} (h : FamOk f) : ∀ y ∈ f.names, nameB y = true := fun y hy => by
  obtain ⟨p, hp, rfl⟩ := List.mem_map.mp hy
  exact h.ppl.nm p hp
theorem FamOk.ddB {f : Fam} (h : FamOk f) : ∀ y ∈ f.dead, nameB y = true := fun y hy => by
  obtain ⟨p, hp, rfl⟩ := List.mem_map.mp hy
  exact h.nmB _ (h.wil.nm p hp)
theorem bel_P {q : Nat} : ∀ P : List (Str × Int), belows q (P.map encP) = true
  | [] => rfl
  | p :: P => by rw [List.map_cons]; simp only [belows, below, bel_P P, Bool.and_self]
theorem bel_F {q : Nat} : ∀ P : List (Str × Str), belows q (P.map encF) = true
  | [] => rfl
  | p :: P => by rw [List.map_cons]; simp only [belows, below, bel_F P, Bool.and_self]
theorem bel_S {q : Nat} : ∀ l : List Str, belows q (l.map .str) = true
  | [] => rfl
  | a :: l => by rw [List.map_cons]; simp only [belows, below, bel_S l, Bool.and_self]
theorem bel_G {q : Nat} : ∀ gs : List (List Str), belows q (gs.map norG) = true
  | [] => rfl
  | g :: gs => by rw [List.map_cons]; simp only [belows, below, bel_G gs, bel_S, Bool.and_self]
theorem bel_Ws {q : Nat} : ∀ ws : Ws, belows q (ws.map norS) = true
  | [] => rfl
  | s :: r => by rw [List.map_cons]; simp only [belows, below, bel_Ws r, bel_G, Bool.and_self]
theorem bel_W {q : Nat} : ∀ P : List (Str × Ws), belows q (P.map encW) = true
  | [] => rfl
  | p :: P => by rw [List.map_cons]; simp only [belows, below, bel_W P, bel_Ws, Bool.and_self]
theorem finit_ok {n q : Nat} {f : Fam} {vp vwi vf : PV} {m : Mem} (hf : FamOk f) (h1 : isq m vp (f.P.map encP)) (h2 : isq m vwi (f.W.map encW)) (h3 : isq m vf (f.F.map encF)) (hq : m[q]? = some (.ins 1 [] [])) :
    wp (RG (n + 4) 24 [.ref q, vp, vwi, vf] m) fun r m' => r = .non ∧ ∃ l, m' = (m ++ l).set q (.ins 1 [pplN, wilN, facN] [.tup (f.P.map encP), .tup (f.W.map encW), .tup (f.F.map encF)]) := by
  refine call_wp (F := (4, 8, g24 100000)) rfl rfl ?_
  have hs1 := fun (a : EM) (env : Co.Env) (ha : a env m = .ok vp m) => iseqQ h1 ha
  have hfew := hf.ppl.few
  have hfew2 := hf.wil.few
  try simp only [Ev.v0, Ev.vs, Ev.kk, Ev.bin, Ev.cmp, Ev.bok, Ev.ofs, Ev.test, Ev.iteE, Ev.val, Ev.nt, Ev.an, Ev.orE, Ev.tt, Ev.enil, Ev.econs, Ev.tup, Ev.lst, Ev.fz, Ev.cell, Ev.ix, Ev.call, Ev.bi, Ev.bi2, Ev.isi, Ev.m1, Ev.attr, Ev.sl, Ev.lof, Ev.srt, Ev.chain, Ev.gv0, Ev.gvs, Ev.gt, Ev.gnil, Ev.gcons, Ev.asg, Ev.setix, Ev.ex, Ev.ret, Ev.iff, Ev.forr, Ev.snil, Ev.scons, Ev.irange, Ev.vwI, Ev.vwS, Ev.vwB, Ev.vwN, Ev.vwL, Ev.vwT, Ev.vwO, Ev.asb, Ev.ckT, Ev.addI, Ev.subI, Ev.ltI, Ev.leI, Ev.gtI, Ev.geI, Ev.eqI, Ev.neI, Ev.intI, Ev.absI, Ev.lenL, Ev.lenT, Ev.lenC, Ev.strS, Ev.tupL, Ev.tupT, Ev.po0, Ev.poi, Ev.slL, Ev.setf, Ev.make, Ev.callk, Ev.meth, Ev.ienum, Ev.dnew, Ev.ddis, Ev.dof, Ev.dcm, Ev.rev1, Ev.dget2, Ev.irev, Ev.lc, Ev.lcf, Ev.forf, Ev.wi0, Ev.wi1, List.set_cons_succ, List.set_cons_zero, Co.bind_assoc, List.map_cons, List.map_nil, List.cons_append, List.nil_append, List.length_cons, List.length_nil, List.replicate_succ, List.replicate_zero, Nat.reduceAdd, Nat.reduceSub, Nat.reduceLeDiff, decide_true, wp_ok, eq_self, g24, dR, are_people_ok h1 hf.ppl, Bool.not_true]
  rw [hs1 _ _ rfl]
  try simp only [Ev.v0, Ev.vs, Ev.kk, Ev.bin, Ev.cmp, Ev.bok, Ev.ofs, Ev.test, Ev.iteE, Ev.val, Ev.nt, Ev.an, Ev.orE, Ev.tt, Ev.enil, Ev.econs, Ev.tup, Ev.lst, Ev.fz, Ev.cell, Ev.ix, Ev.call, Ev.bi, Ev.bi2, Ev.isi, Ev.m1, Ev.attr, Ev.sl, Ev.lof, Ev.srt, Ev.chain, Ev.gv0, Ev.gvs, Ev.gt, Ev.gnil, Ev.gcons, Ev.asg, Ev.setix, Ev.ex, Ev.ret, Ev.iff, Ev.forr, Ev.snil, Ev.scons, Ev.irange, Ev.vwI, Ev.vwS, Ev.vwB, Ev.vwN, Ev.vwL, Ev.vwT, Ev.vwO, Ev.asb, Ev.ckT, Ev.addI, Ev.subI, Ev.ltI, Ev.leI, Ev.gtI, Ev.geI, Ev.eqI, Ev.neI, Ev.intI, Ev.absI, Ev.lenL, Ev.lenT, Ev.lenC, Ev.strS, Ev.tupL, Ev.tupT, Ev.po0, Ev.poi, Ev.slL, Ev.setf, Ev.make, Ev.callk, Ev.meth, Ev.ienum, Ev.dnew, Ev.ddis, Ev.dof, Ev.dcm, Ev.rev1, Ev.dget2, Ev.irev, Ev.lc, Ev.lcf, Ev.forf, Ev.wi0, Ev.wi1, List.set_cons_succ, List.set_cons_zero, Co.bind_assoc, List.map_cons, List.map_nil, List.cons_append, List.nil_append, List.length_cons, List.length_nil, List.replicate_succ, List.replicate_zero, Nat.reduceAdd, Nat.reduceSub, Nat.reduceLeDiff, decide_true, wp_ok, eq_self]
  refine wp_then (lcS_q (fun p => .str p.1) h1 (by omega) fun s hs => ?_) fun ys m1 ⟨e1, e2⟩ => ?_
  · try simp only [Ev.v0, Ev.vs, Ev.kk, Ev.bin, Ev.cmp, Ev.bok, Ev.ofs, Ev.test, Ev.iteE, Ev.val, Ev.nt, Ev.an, Ev.orE, Ev.tt, Ev.enil, Ev.econs, Ev.tup, Ev.lst, Ev.fz, Ev.cell, Ev.ix, Ev.call, Ev.bi, Ev.bi2, Ev.isi, Ev.m1, Ev.attr, Ev.sl, Ev.lof, Ev.srt, Ev.chain, Ev.gv0, Ev.gvs, Ev.gt, Ev.gnil, Ev.gcons, Ev.asg, Ev.setix, Ev.ex, Ev.ret, Ev.iff, Ev.forr, Ev.snil, Ev.scons, Ev.iseq, Ev.irange, Ev.vwI, Ev.vwS, Ev.vwB, Ev.vwN, Ev.vwL, Ev.vwT, Ev.vwO, Ev.asb, Ev.ckT, Ev.addI, Ev.subI, Ev.ltI, Ev.leI, Ev.gtI, Ev.geI, Ev.eqI, Ev.neI, Ev.intI, Ev.absI, Ev.lenL, Ev.lenT, Ev.lenC, Ev.strS, Ev.tupL, Ev.tupT, Ev.po0, Ev.poi, Ev.slL, Ev.setf, Ev.make, Ev.callk, Ev.meth, Ev.ienum, Ev.dnew, Ev.ddis, Ev.dof, Ev.dcm, Ev.rev1, Ev.dget2, Ev.irev, Ev.lc, Ev.lcf, Ev.forf, Ev.wi0, Ev.wi1, List.set_cons_succ, List.set_cons_zero, Co.bind_assoc, List.map_cons, List.map_nil, List.cons_append, List.nil_append, List.length_cons, List.length_nil, List.replicate_succ, List.replicate_zero, Nat.reduceAdd, Nat.reduceSub, Nat.reduceLeDiff, decide_true, wp_ok]
  subst e1 e2
  have en : (f.P.map fun p => PV.str p.1) = f.names.map .str := by rw [List.map_map]; rfl
  rw [en]
  try simp only [Ev.v0, Ev.vs, Ev.kk, Ev.bin, Ev.cmp, Ev.bok, Ev.ofs, Ev.test, Ev.iteE, Ev.val, Ev.nt, Ev.an, Ev.orE, Ev.tt, Ev.enil, Ev.econs, Ev.tup, Ev.lst, Ev.fz, Ev.cell, Ev.ix, Ev.call, Ev.bi, Ev.bi2, Ev.isi, Ev.m1, Ev.attr, Ev.sl, Ev.lof, Ev.srt, Ev.chain, Ev.gv0, Ev.gvs, Ev.gt, Ev.gnil, Ev.gcons, Ev.asg, Ev.setix, Ev.ex, Ev.ret, Ev.iff, Ev.forr, Ev.snil, Ev.scons, Ev.irange, Ev.vwI, Ev.vwS, Ev.vwB, Ev.vwN, Ev.vwL, Ev.vwT, Ev.vwO, Ev.asb, Ev.ckT, Ev.addI, Ev.subI, Ev.ltI, Ev.leI, Ev.gtI, Ev.geI, Ev.eqI, Ev.neI, Ev.intI, Ev.absI, Ev.lenL, Ev.lenT, Ev.lenC, Ev.strS, Ev.tupL, Ev.tupT, Ev.po0, Ev.poi, Ev.slL, Ev.setf, Ev.make, Ev.callk, Ev.meth, Ev.ienum, Ev.dnew, Ev.ddis, Ev.dof, Ev.dcm, Ev.rev1, Ev.dget2, Ev.irev, Ev.lc, Ev.lcf, Ev.forf, Ev.wi0, Ev.wi1, List.set_cons_succ, List.set_cons_zero, Co.bind_assoc, List.map_cons, List.map_nil, List.cons_append, List.nil_append, List.length_cons, List.length_nil, List.replicate_succ, List.replicate_zero, Nat.reduceAdd, Nat.reduceSub, Nat.reduceLeDiff, decide_true, wp_ok, eq_self, dR]
  refine wp_then (are_wills_ok (n := n) hf.nmB (by rw [List.length_map]; omega) h2 hf.wil) fun r m2 ⟨hr, l2, hm2⟩ => ?_
  subst hr
  have h1' : isq m2 vp (f.P.map encP) := by rw [hm2]; exact isq_app h1
  have h2' : isq m2 vwi (f.W.map encW) := by rw [hm2]; exact isq_app h2
  have h3' : isq m2 vf (f.F.map encF) := by rw [hm2]; exact isq_app h3
  have hq' : m2[q]? = some (.ins 1 [] []) := by rw [hm2, List.getElem?_append_left (List.getElem?_eq_some_iff.mp hq).1]; exact hq
  have hs2 := fun (a : EM) (env : Co.Env) (ha : a env m2 = .ok vwi m2) => iseqQ h2' ha
  try simp only [Ev.v0, Ev.vs, Ev.kk, Ev.bin, Ev.cmp, Ev.bok, Ev.ofs, Ev.test, Ev.iteE, Ev.val, Ev.nt, Ev.an, Ev.orE, Ev.tt, Ev.enil, Ev.econs, Ev.tup, Ev.lst, Ev.fz, Ev.cell, Ev.ix, Ev.call, Ev.bi, Ev.bi2, Ev.isi, Ev.m1, Ev.attr, Ev.sl, Ev.lof, Ev.srt, Ev.chain, Ev.gv0, Ev.gvs, Ev.gt, Ev.gnil, Ev.gcons, Ev.asg, Ev.setix, Ev.ex, Ev.ret, Ev.iff, Ev.forr, Ev.snil, Ev.scons, Ev.irange, Ev.vwI, Ev.vwS, Ev.vwB, Ev.vwN, Ev.vwL, Ev.vwT, Ev.vwO, Ev.asb, Ev.ckT, Ev.addI, Ev.subI, Ev.ltI, Ev.leI, Ev.gtI, Ev.geI, Ev.eqI, Ev.neI, Ev.intI, Ev.absI, Ev.lenL, Ev.lenT, Ev.lenC, Ev.strS, Ev.tupL, Ev.tupT, Ev.po0, Ev.poi, Ev.slL, Ev.setf, Ev.make, Ev.callk, Ev.meth, Ev.ienum, Ev.dnew, Ev.ddis, Ev.dof, Ev.dcm, Ev.rev1, Ev.dget2, Ev.irev, Ev.lc, Ev.lcf, Ev.forf, Ev.wi0, Ev.wi1, List.set_cons_succ, List.set_cons_zero, Co.bind_assoc, List.map_cons, List.map_nil, List.cons_append, List.nil_append, List.length_cons, List.length_nil, List.replicate_succ, List.replicate_zero, Nat.reduceAdd, Nat.reduceSub, Nat.reduceLeDiff, decide_true, wp_ok, eq_self, Bool.not_true]
  rw [hs2 _ _ rfl]
  try simp only [Ev.v0, Ev.vs, Ev.kk, Ev.bin, Ev.cmp, Ev.bok, Ev.ofs, Ev.test, Ev.iteE, Ev.val, Ev.nt, Ev.an, Ev.orE, Ev.tt, Ev.enil, Ev.econs, Ev.tup, Ev.lst, Ev.fz, Ev.cell, Ev.ix, Ev.call, Ev.bi, Ev.bi2, Ev.isi, Ev.m1, Ev.attr, Ev.sl, Ev.lof, Ev.srt, Ev.chain, Ev.gv0, Ev.gvs, Ev.gt, Ev.gnil, Ev.gcons, Ev.asg, Ev.setix, Ev.ex, Ev.ret, Ev.iff, Ev.forr, Ev.snil, Ev.scons, Ev.irange, Ev.vwI, Ev.vwS, Ev.vwB, Ev.vwN, Ev.vwL, Ev.vwT, Ev.vwO, Ev.asb, Ev.ckT, Ev.addI, Ev.subI, Ev.ltI, Ev.leI, Ev.gtI, Ev.geI, Ev.eqI, Ev.neI, Ev.intI, Ev.absI, Ev.lenL, Ev.lenT, Ev.lenC, Ev.strS, Ev.tupL, Ev.tupT, Ev.po0, Ev.poi, Ev.slL, Ev.setf, Ev.make, Ev.callk, Ev.meth, Ev.ienum, Ev.dnew, Ev.ddis, Ev.dof, Ev.dcm, Ev.rev1, Ev.dget2, Ev.irev, Ev.lc, Ev.lcf, Ev.forf, Ev.wi0, Ev.wi1, List.set_cons_succ, List.set_cons_zero, Co.bind_assoc, List.map_cons, List.map_nil, List.cons_append, List.nil_append, List.length_cons, List.length_nil, List.replicate_succ, List.replicate_zero, Nat.reduceAdd, Nat.reduceSub, Nat.reduceLeDiff, decide_true, wp_ok, eq_self]
  refine wp_then (lcS_q (fun p => .str p.1) h2' (by omega) fun s hs => ?_) fun ys m3 ⟨e1, e2⟩ => ?_
  · try simp only [Ev.v0, Ev.vs, Ev.kk, Ev.bin, Ev.cmp, Ev.bok, Ev.ofs, Ev.test, Ev.iteE, Ev.val, Ev.nt, Ev.an, Ev.orE, Ev.tt, Ev.enil, Ev.econs, Ev.tup, Ev.lst, Ev.fz, Ev.cell, Ev.ix, Ev.call, Ev.bi, Ev.bi2, Ev.isi, Ev.m1, Ev.attr, Ev.sl, Ev.lof, Ev.srt, Ev.chain, Ev.gv0, Ev.gvs, Ev.gt, Ev.gnil, Ev.gcons, Ev.asg, Ev.setix, Ev.ex, Ev.ret, Ev.iff, Ev.forr, Ev.snil, Ev.scons, Ev.iseq, Ev.irange, Ev.vwI, Ev.vwS, Ev.vwB, Ev.vwN, Ev.vwL, Ev.vwT, Ev.vwO, Ev.asb, Ev.ckT, Ev.addI, Ev.subI, Ev.ltI, Ev.leI, Ev.gtI, Ev.geI, Ev.eqI, Ev.neI, Ev.intI, Ev.absI, Ev.lenL, Ev.lenT, Ev.lenC, Ev.strS, Ev.tupL, Ev.tupT, Ev.po0, Ev.poi, Ev.slL, Ev.setf, Ev.make, Ev.callk, Ev.meth, Ev.ienum, Ev.dnew, Ev.ddis, Ev.dof, Ev.dcm, Ev.rev1, Ev.dget2, Ev.irev, Ev.lc, Ev.lcf, Ev.forf, Ev.wi0, Ev.wi1, List.set_cons_succ, List.set_cons_zero, Co.bind_assoc, List.map_cons, List.map_nil, List.cons_append, List.nil_append, List.length_cons, List.length_nil, List.replicate_succ, List.replicate_zero, Nat.reduceAdd, Nat.reduceSub, Nat.reduceLeDiff, decide_true, wp_ok]
  subst e1 e2
  have en : (f.W.map fun p => PV.str p.1) = f.dead.map .str := by rw [List.map_map]; rfl
  rw [en]
  have hdl : f.dead.length ≤ 60 := by rw [List.length_map]; omega
  have hset : ∀ (m : Mem) (v : PV) (ns : List Str) (vs : List PV) (x : Str), m[q]? = some (.ins 1 ns vs) → below q v = true → ns.length < 900 → (DG (n + 3)).att 1 x = some none → setfO (DG (n + 3)) v (.ref q) x m = .ok () (m.set q (.ins 1 (fputv ns vs x v).1 (fputv ns vs x v).2)) := fun m v ns vs x hm hb hn ha => by
    simp only [setfO, hm, hb, ha, decide_eq_true hn]
    rfl
  have hql : q < m3.length := (List.getElem?_eq_some_iff.mp hq').1
  have s1 := hset m3 (.tup (f.P.map encP)) [] [] pplN hq' (by simp only [below, bel_P]) (by decide) rfl
  have hns : ∀ xs, m3[q]? ≠ some (.lst xs) := fun xs e => by rw [hq'] at e; cases e
  have hq2 : (m3.set q (.ins 1 [pplN] [.tup (f.P.map encP)]))[q]? = some (.ins 1 [pplN] [.tup (f.P.map encP)]) := List.getElem?_set_self hql
  have s2 := hset (m3.set q (.ins 1 [pplN] [.tup (f.P.map encP)])) (.tup (f.W.map encW)) [pplN] [.tup (f.P.map encP)] wilN hq2 (by simp only [below, bel_W]) (by decide) rfl
  have hq3 : ((m3.set q (.ins 1 [pplN] [.tup (f.P.map encP)])).set q (.ins 1 [pplN, wilN] [.tup (f.P.map encP), .tup (f.W.map encW)]))[q]? = some (.ins 1 [pplN, wilN] [.tup (f.P.map encP), .tup (f.W.map encW)]) := List.getElem?_set_self (by simpa using hql)
  have s3 := hset ((m3.set q (.ins 1 [pplN] [.tup (f.P.map encP)])).set q (.ins 1 [pplN, wilN] [.tup (f.P.map encP), .tup (f.W.map encW)])) (.tup (f.F.map encF)) [pplN, wilN] [.tup (f.P.map encP), .tup (f.W.map encW)] facN hq3 (by simp only [below, bel_F]) (by decide) rfl
  have h2b : isq (m3.set q (.ins 1 [pplN] [.tup (f.P.map encP)])) vwi (f.W.map encW) := isq_set h2' hns
  have h3b : isq ((m3.set q (.ins 1 [pplN] [.tup (f.P.map encP)])).set q (.ins 1 [pplN, wilN] [.tup (f.P.map encP), .tup (f.W.map encW)])) vf (f.F.map encF) := isq_set (isq_set h3' hns) (fun xs e => by rw [hq2] at e; cases e)
  have s1' : setfO (DG (n + 3)) (.tup (f.P.map encP)) (.ref q) pplN m3 = .ok () (m3.set q (.ins 1 [pplN] [.tup (f.P.map encP)])) := s1
  have s2' : setfO (DG (n + 3)) (.tup (f.W.map encW)) (.ref q) wilN (m3.set q (.ins 1 [pplN] [.tup (f.P.map encP)])) = .ok () ((m3.set q (.ins 1 [pplN] [.tup (f.P.map encP)])).set q (.ins 1 [pplN, wilN] [.tup (f.P.map encP), .tup (f.W.map encW)])) := s2
  have s3' : setfO (DG (n + 3)) (.tup (f.F.map encF)) (.ref q) facN ((m3.set q (.ins 1 [pplN] [.tup (f.P.map encP)])).set q (.ins 1 [pplN, wilN] [.tup (f.P.map encP), .tup (f.W.map encW)])) = .ok () (((m3.set q (.ins 1 [pplN] [.tup (f.P.map encP)])).set q (.ins 1 [pplN, wilN] [.tup (f.P.map encP), .tup (f.W.map encW)])).set q (.ins 1 [pplN, wilN, facN] [.tup (f.P.map encP), .tup (f.W.map encW), .tup (f.F.map encF)])) := s3
  try simp only [Ev.v0, Ev.vs, Ev.kk, Ev.bin, Ev.cmp, Ev.bok, Ev.ofs, Ev.test, Ev.iteE, Ev.val, Ev.nt, Ev.an, Ev.orE, Ev.tt, Ev.enil, Ev.econs, Ev.tup, Ev.lst, Ev.fz, Ev.cell, Ev.ix, Ev.call, Ev.bi, Ev.bi2, Ev.isi, Ev.m1, Ev.attr, Ev.sl, Ev.lof, Ev.srt, Ev.chain, Ev.gv0, Ev.gvs, Ev.gt, Ev.gnil, Ev.gcons, Ev.asg, Ev.setix, Ev.ex, Ev.ret, Ev.iff, Ev.forr, Ev.snil, Ev.scons, Ev.irange, Ev.vwI, Ev.vwS, Ev.vwB, Ev.vwN, Ev.vwL, Ev.vwT, Ev.vwO, Ev.asb, Ev.ckT, Ev.addI, Ev.subI, Ev.ltI, Ev.leI, Ev.gtI, Ev.geI, Ev.eqI, Ev.neI, Ev.intI, Ev.absI, Ev.lenL, Ev.lenT, Ev.lenC, Ev.strS, Ev.tupL, Ev.tupT, Ev.po0, Ev.poi, Ev.slL, Ev.setf, Ev.make, Ev.callk, Ev.meth, Ev.ienum, Ev.dnew, Ev.ddis, Ev.dof, Ev.dcm, Ev.rev1, Ev.dget2, Ev.irev, Ev.lc, Ev.lcf, Ev.forf, Ev.wi0, Ev.wi1, List.set_cons_succ, List.set_cons_zero, Co.bind_assoc, List.map_cons, List.map_nil, List.cons_append, List.nil_append, List.length_cons, List.length_nil, List.replicate_succ, List.replicate_zero, Nat.reduceAdd, Nat.reduceSub, Nat.reduceLeDiff, decide_true, wp_ok, eq_self, dR, are_facts_ok (n := n) hf.ddB h3' hf.fac, has_ring_ok (n := n + 2) hf.ddB hdl h3' hf.fac, Bool.not_true, tupQ h1', s1', tupQ h2b, s2', tupQ h3b, s3']
  refine ⟨trivial, l2, ?_⟩
  rw [hm2]
  simp
end My

end P_Xj
section P_Xk
set_option Elab.async false
set_option linter.all false
set_option maxRecDepth 100000
set_option maxHeartbeats 2000000
namespace My
open Co
open PySem (Str)
theorem fmk {n : Nat} {f : Fam} {vp vwi vf : PV} {m : Mem} (hf : FamOk f) (h1 : isq m vp (f.P.map encP)) (h2 : isq m vwi (f.W.map encW)) (h3 : isq m vf (f.F.map encF)) :
    ∃ m', RG (n + 4) 24 [.ref m.length, vp, vwi, vf] (m ++ [Cell.ins 1 [] []]) = .ok .non m' ∧ madeO m.length .non m' = .ok (objF f) m := by
  obtain ⟨v, m', e, hv, l, hm⟩ := wp_ex (finit_ok (n := n) (q := m.length) (m := m ++ [Cell.ins 1 [] []]) hf (isq_app h1) (isq_app h2) (isq_app h3) (by simp))
  subst hv
  refine ⟨m', e, ?_⟩
  unfold madeO
  dsimp only
  have hg : m'[m.length]? = some (.ins 1 [pplN, wilN, facN] [.tup (f.P.map encP), .tup (f.W.map encW), .tup (f.F.map encF)]) := by rw [hm, List.getElem?_set_self (by simp)]
  rw [hg]
  dsimp only
  rw [hm, List.take_set_of_le (Nat.le_refl _), List.append_assoc, List.take_left' rfl]
/-! ### texts -/
def amts : List Int := [0, 1, 2, 3, 4, 5, 6, 7, 8, 9, 10, 11, 12, 15, 30, 500000000, 1000000000]
def dgs : Nat → Nat → List Nat → List Nat
  | 0, _, acc => acc
  | n + 1, i, acc => if i < 10 then (48 + i) :: acc else dgs n (i / 10) ((48 + i % 10) :: acc)
def amtS (i : Int) : Str := sx (dgs 12 i.toNat [])
theorem amt_cases {i : Int} (h : i ∈ amts) {Q : Int → Prop} (hQ : ∀ j ∈ amts, Q j) : Q i := hQ i h
theorem str_amt {D : Cl} {i : Int} {m : Mem} (h : i ∈ amts) : biO D .str (.int i) m = .ok (.str (amtS i)) m := by
  simp only [amts, List.mem_cons, List.not_mem_nil, or_false] at h
  rcases h with rfl | rfl | rfl | rfl | rfl | rfl | rfl | rfl | rfl | rfl | rfl | rfl | rfl | rfl | rfl | rfl | rfl <;> kernel_rfl
theorem num_amt {n : Nat} {i : Int} {m : Mem} (h : i ∈ amts) : RG (n + 1) 5 [.str (amtS i), .int 10] m = .ok (.int i) m := by
  simp only [amts, List.mem_cons, List.not_mem_nil, or_false] at h
  rcases h with rfl | rfl | rfl | rfl | rfl | rfl | rfl | rfl | rfl | rfl | rfl | rfl | rfl | rfl | rfl | rfl | rfl <;> kernel_rfl
theorem amt_txt {i : Int} (h : i ∈ amts) : (amtS i).length ≤ 10 ∧ ∀ c ∈ Tx.tl (amtS i), 48 ≤ c ∧ c ≤ 57 := by
  have : amts.all (fun i => decide ((amtS i).length ≤ 10) && (Tx.tl (amtS i)).all fun c => decide (48 ≤ c) && decide (c ≤ 57)) = true := by decide +kernel
  have := List.all_eq_true.mp this i h
  simp only [Bool.and_eq_true, decide_eq_true_eq, List.all_eq_true] at this
  exact this
abbrev person_ : Str := sx [112, 101, 114, 115, 111, 110, 32]
abbrev will_ : Str := sx [119, 105, 108, 108, 32]
abbrev first_ : Str := sx [102, 105, 114, 115, 116, 32]
abbrev nl_ : Str := sx [10]
def pLine (p : Str × Int) : Str := person_ ++ p.1 ++ sp_ ++ amtS p.2
def wLine (w : Str × Ws) : Str := will_ ++ w.1 ++ sp_ ++ nText w.2
def fLine (p : Str × Str) : Str := first_ ++ p.1 ++ sp_ ++ p.2
def fLines (f : Fam) : List Str := f.P.map pLine ++ (f.W.map wLine ++ f.F.map fLine)
def fText (f : Fam) : Str := Str.join nl_ (fLines f)
theorem addS {x y : Str} (h : x.length + y.length ≤ 100000) : binop .add (.str x) (.str y) = some (.str (x ++ y)) := by
  simp only [binop, if_pos h]
def AmOk (f : Fam) : Prop := ∀ p ∈ f.P, p.2 ∈ amts
theorem strOf {D : Cl} {x : Str} {m : Mem} : biO D .str (.str x) m = .ok (.str x) m := rfl
theorem evStar {a : EM} {es : AM} {env : Co.Env} {m : Mem} : kStar a es env m = (a env m).bind fun x m1 => (Out.of (items (vw m1 x)) m1).bind fun xs m2 => (es env m2).bind fun ys m3 => .ok (xs ++ ys) m3 := rfl
theorem itemsL {xs : List PV} : items (.lst xs) = some xs := rfl
theorem itemsT {xs : List PV} : items (.tup xs) = some xs := rfl
theorem pLine_len {p : Str × Int} (h1 : nameB p.1 = true) (h2 : p.2 ∈ amts) : (pLine p).length ≤ 23 := by
  unfold pLine
  rw [PySem.Str.length_append, PySem.Str.length_append, PySem.Str.length_append]
  have := (name_len h1).2
  have := (amt_txt h2).1
  have e1 : (person_).length = 7 := rfl
  have e2 : (sp_).length = 1 := rfl
  omega
theorem wLine_len {w : Str × Ws} (h1 : nameB w.1 = true) (h2 : WsOk w.2) : (wLine w).length ≤ 611 := by
  unfold wLine
  rw [PySem.Str.length_append, PySem.Str.length_append, PySem.Str.length_append]
  have := (name_len h1).2
  have : (nText w.2).length ≤ 600 := wText_len (srtWs_ok h2).1
  have e1 : (will_).length = 5 := rfl
  have e2 : (sp_).length = 1 := rfl
  omega
theorem fLine_len {p : Str × Str} (h1 : nameB p.1 = true) (h2 : nameB p.2 = true) : (fLine p).length ≤ 17 := by
  unfold fLine
  rw [PySem.Str.length_append, PySem.Str.length_append, PySem.Str.length_append]
  have := (name_len h1).2
  have := (name_len h2).2
  have e1 : (first_).length = 6 := rfl
  have e2 : (sp_).length = 1 := rfl
  omega
theorem line_len {f : Fam} (hf : FamOk f) (ha : AmOk f) : ∀ x ∈ fLines f, x.length ≤ 611 := fun x hx => by
  unfold fLines at hx
  rcases List.mem_append.mp hx with hx | hx
  · obtain ⟨p, hp, rfl⟩ := List.mem_map.mp hx
    have := pLine_len (hf.ppl.nm p hp) (ha p hp)
    omega
  · rcases List.mem_append.mp hx with hx | hx
    · obtain ⟨w, hw, rfl⟩ := List.mem_map.mp hx
      exact wLine_len (hf.nmB _ (hf.wil.nm w hw)) (hf.wil.ok w hw)
    · obtain ⟨p, hp, rfl⟩ := List.mem_map.mp hx
      have := fLine_len (hf.ddB _ (hf.fac.inn p hp).1) (hf.ddB _ (hf.fac.inn p hp).2)
      omega
theorem lines_few {f : Fam} (hf : FamOk f) : (fLines f).length ≤ 120 := by
  unfold fLines
  rw [List.length_append, List.length_append, List.length_map, List.length_map, List.length_map]
  have := hf.ppl.few
  have := hf.wil.few
  have := hf.fac.few
  omega
theorem fstr_ok {n : Nat} {f : Fam} {m : Mem} (hf : FamOk f) (ha : AmOk f) : RG (n + 3) 35 [objF f] m = .ok (.str (fText f)) m := by
  refine wp_eq (call_wp (F := (1, 9, g35 100000)) rfl rfl ?_)
  have a1 : ∀ m, attO (DG (n + 2)) pplN (objF f) m = .ok (.tup (f.P.map encP)) m := fun _ => rfl
  have a2 : ∀ m, attO (DG (n + 2)) wilN (objF f) m = .ok (.tup (f.W.map encW)) m := fun _ => rfl
  have a3 : ∀ m, attO (DG (n + 2)) facN (objF f) m = .ok (.tup (f.F.map encF)) m := fun _ => rfl
  try simp only [Ev.v0, Ev.vs, Ev.kk, Ev.bin, Ev.cmp, Ev.bok, Ev.ofs, Ev.test, Ev.iteE, Ev.val, Ev.nt, Ev.an, Ev.orE, Ev.tt, Ev.enil, Ev.econs, Ev.tup, Ev.lst, Ev.fz, Ev.cell, Ev.ix, Ev.call, Ev.bi, Ev.bi2, Ev.isi, Ev.m1, Ev.attr, Ev.sl, Ev.lof, Ev.srt, Ev.chain, Ev.gv0, Ev.gvs, Ev.gt, Ev.gnil, Ev.gcons, Ev.asg, Ev.setix, Ev.ex, Ev.ret, Ev.iff, Ev.forr, Ev.snil, Ev.scons, Ev.iseq, Ev.irange, Ev.vwI, Ev.vwS, Ev.vwB, Ev.vwN, Ev.vwL, Ev.vwT, Ev.vwO, Ev.asb, Ev.ckT, Ev.addI, Ev.subI, Ev.ltI, Ev.leI, Ev.gtI, Ev.geI, Ev.eqI, Ev.neI, Ev.intI, Ev.absI, Ev.lenL, Ev.lenT, Ev.lenC, Ev.strS, Ev.tupL, Ev.tupT, Ev.po0, Ev.poi, Ev.slL, Ev.setf, Ev.make, Ev.callk, Ev.meth, Ev.ienum, Ev.dnew, Ev.ddis, Ev.dof, Ev.dcm, Ev.rev1, Ev.dget2, Ev.irev, Ev.lc, Ev.lcf, Ev.forf, Ev.wi0, Ev.wi1, List.set_cons_succ, List.set_cons_zero, Co.bind_assoc, List.map_cons, List.map_nil, List.cons_append, List.nil_append, List.length_cons, List.length_nil, List.replicate_succ, List.replicate_zero, Nat.reduceAdd, Nat.reduceSub, Nat.reduceLeDiff, decide_true, wp_ok, g35, a1]
  refine wp_then (lcFx_enc (fun p => .str (pLine p)) fun p hp => ?_) fun ys m1 ⟨e1, e2⟩ => ?_
  · have l1 := (name_len (hf.ppl.nm p hp)).2
    have l2 := (amt_txt (ha p hp)).1
    have p1 : binop .add (.str person_) (.str p.1) = some (.str (person_ ++ p.1)) := addS (by show 7 + p.1.length ≤ _; omega)
    have p2 : binop .add (.str (person_ ++ p.1)) (.str sp_) = some (.str (person_ ++ p.1 ++ sp_)) := addS (by rw [PySem.Str.length_append]; show 7 + p.1.length + 1 ≤ _; omega)
    have p3 : binop .add (.str (person_ ++ p.1 ++ sp_)) (.str (amtS p.2)) = some (.str (pLine p)) := addS (by rw [PySem.Str.length_append, PySem.Str.length_append]; show 7 + p.1.length + 1 + (amtS p.2).length ≤ _; omega)
    try simp only [Ev.v0, Ev.vs, Ev.kk, Ev.bin, Ev.cmp, Ev.bok, Ev.ofs, Ev.test, Ev.iteE, Ev.val, Ev.nt, Ev.an, Ev.orE, Ev.tt, Ev.enil, Ev.econs, Ev.tup, Ev.lst, Ev.fz, Ev.cell, Ev.ix, Ev.call, Ev.bi, Ev.bi2, Ev.isi, Ev.m1, Ev.attr, Ev.sl, Ev.lof, Ev.srt, Ev.chain, Ev.gv0, Ev.gvs, Ev.gt, Ev.gnil, Ev.gcons, Ev.asg, Ev.setix, Ev.ex, Ev.ret, Ev.iff, Ev.forr, Ev.snil, Ev.scons, Ev.iseq, Ev.irange, Ev.vwI, Ev.vwS, Ev.vwB, Ev.vwN, Ev.vwL, Ev.vwT, Ev.vwO, Ev.asb, Ev.ckT, Ev.addI, Ev.subI, Ev.ltI, Ev.leI, Ev.gtI, Ev.geI, Ev.eqI, Ev.neI, Ev.intI, Ev.absI, Ev.lenL, Ev.lenT, Ev.lenC, Ev.strS, Ev.tupL, Ev.tupT, Ev.po0, Ev.poi, Ev.slL, Ev.setf, Ev.make, Ev.callk, Ev.meth, Ev.ienum, Ev.dnew, Ev.ddis, Ev.dof, Ev.dcm, Ev.rev1, Ev.dget2, Ev.irev, Ev.lc, Ev.lcf, Ev.forf, Ev.wi0, Ev.wi1, List.set_cons_succ, List.set_cons_zero, Co.bind_assoc, List.map_cons, List.map_nil, List.cons_append, List.nil_append, List.length_cons, List.length_nil, List.replicate_succ, List.replicate_zero, Nat.reduceAdd, Nat.reduceSub, Nat.reduceLeDiff, decide_true, wp_ok, strOf, str_amt (ha p hp), p1, p2, p3]
  subst e1 e2
  try simp only [Ev.v0, Ev.vs, Ev.kk, Ev.bin, Ev.cmp, Ev.bok, Ev.ofs, Ev.test, Ev.iteE, Ev.val, Ev.nt, Ev.an, Ev.orE, Ev.tt, Ev.enil, Ev.econs, Ev.tup, Ev.lst, Ev.fz, Ev.cell, Ev.ix, Ev.call, Ev.bi, Ev.bi2, Ev.isi, Ev.m1, Ev.attr, Ev.sl, Ev.lof, Ev.srt, Ev.chain, Ev.gv0, Ev.gvs, Ev.gt, Ev.gnil, Ev.gcons, Ev.asg, Ev.setix, Ev.ex, Ev.ret, Ev.iff, Ev.forr, Ev.snil, Ev.scons, Ev.iseq, Ev.irange, Ev.vwI, Ev.vwS, Ev.vwB, Ev.vwN, Ev.vwL, Ev.vwT, Ev.vwO, Ev.asb, Ev.ckT, Ev.addI, Ev.subI, Ev.ltI, Ev.leI, Ev.gtI, Ev.geI, Ev.eqI, Ev.neI, Ev.intI, Ev.absI, Ev.lenL, Ev.lenT, Ev.lenC, Ev.strS, Ev.tupL, Ev.tupT, Ev.po0, Ev.poi, Ev.slL, Ev.setf, Ev.make, Ev.callk, Ev.meth, Ev.ienum, Ev.dnew, Ev.ddis, Ev.dof, Ev.dcm, Ev.rev1, Ev.dget2, Ev.irev, Ev.lc, Ev.lcf, Ev.forf, Ev.wi0, Ev.wi1, List.set_cons_succ, List.set_cons_zero, Co.bind_assoc, List.map_cons, List.map_nil, List.cons_append, List.nil_append, List.length_cons, List.length_nil, List.replicate_succ, List.replicate_zero, Nat.reduceAdd, Nat.reduceSub, Nat.reduceLeDiff, decide_true, wp_ok, a2]
  refine wp_then (lcFx_enc (fun w => .str (wLine w)) fun w hw => ?_) fun ys m1 ⟨e1, e2⟩ => ?_
  · have l1 := (name_len (hf.nmB _ (hf.wil.nm w hw))).2
    have l2 : (nText w.2).length ≤ 600 := wText_len (srtWs_ok (hf.wil.ok w hw)).1
    have p1 : binop .add (.str will_) (.str w.1) = some (.str (will_ ++ w.1)) := addS (by show 5 + w.1.length ≤ _; omega)
    have p2 : binop .add (.str (will_ ++ w.1)) (.str sp_) = some (.str (will_ ++ w.1 ++ sp_)) := addS (by rw [PySem.Str.length_append]; show 5 + w.1.length + 1 ≤ _; omega)
    have p3 : binop .add (.str (will_ ++ w.1 ++ sp_)) (.str (nText w.2)) = some (.str (wLine w)) := addS (by rw [PySem.Str.length_append, PySem.Str.length_append]; show 5 + w.1.length + 1 + (nText w.2).length ≤ _; omega)
    have bs : ∀ m, biO (DG (n + 2)) .str (objW w.2) m = .ok (.str (nText w.2)) m := fun m => bi_str (hf.wil.ok w hw)
    try simp only [Ev.v0, Ev.vs, Ev.kk, Ev.bin, Ev.cmp, Ev.bok, Ev.ofs, Ev.test, Ev.iteE, Ev.val, Ev.nt, Ev.an, Ev.orE, Ev.tt, Ev.enil, Ev.econs, Ev.tup, Ev.lst, Ev.fz, Ev.cell, Ev.ix, Ev.call, Ev.bi, Ev.bi2, Ev.isi, Ev.m1, Ev.attr, Ev.sl, Ev.lof, Ev.srt, Ev.chain, Ev.gv0, Ev.gvs, Ev.gt, Ev.gnil, Ev.gcons, Ev.asg, Ev.setix, Ev.ex, Ev.ret, Ev.iff, Ev.forr, Ev.snil, Ev.scons, Ev.iseq, Ev.irange, Ev.vwI, Ev.vwS, Ev.vwB, Ev.vwN, Ev.vwL, Ev.vwT, Ev.vwO, Ev.asb, Ev.ckT, Ev.addI, Ev.subI, Ev.ltI, Ev.leI, Ev.gtI, Ev.geI, Ev.eqI, Ev.neI, Ev.intI, Ev.absI, Ev.lenL, Ev.lenT, Ev.lenC, Ev.strS, Ev.tupL, Ev.tupT, Ev.po0, Ev.poi, Ev.slL, Ev.setf, Ev.make, Ev.callk, Ev.meth, Ev.ienum, Ev.dnew, Ev.ddis, Ev.dof, Ev.dcm, Ev.rev1, Ev.dget2, Ev.irev, Ev.lc, Ev.lcf, Ev.forf, Ev.wi0, Ev.wi1, List.set_cons_succ, List.set_cons_zero, Co.bind_assoc, List.map_cons, List.map_nil, List.cons_append, List.nil_append, List.length_cons, List.length_nil, List.replicate_succ, List.replicate_zero, Nat.reduceAdd, Nat.reduceSub, Nat.reduceLeDiff, decide_true, wp_ok, strOf, bs, p1, p2, p3]
  subst e1 e2
  try simp only [Ev.v0, Ev.vs, Ev.kk, Ev.bin, Ev.cmp, Ev.bok, Ev.ofs, Ev.test, Ev.iteE, Ev.val, Ev.nt, Ev.an, Ev.orE, Ev.tt, Ev.enil, Ev.econs, Ev.tup, Ev.lst, Ev.fz, Ev.cell, Ev.ix, Ev.call, Ev.bi, Ev.bi2, Ev.isi, Ev.m1, Ev.attr, Ev.sl, Ev.lof, Ev.srt, Ev.chain, Ev.gv0, Ev.gvs, Ev.gt, Ev.gnil, Ev.gcons, Ev.asg, Ev.setix, Ev.ex, Ev.ret, Ev.iff, Ev.forr, Ev.snil, Ev.scons, Ev.iseq, Ev.irange, Ev.vwI, Ev.vwS, Ev.vwB, Ev.vwN, Ev.vwL, Ev.vwT, Ev.vwO, Ev.asb, Ev.ckT, Ev.addI, Ev.subI, Ev.ltI, Ev.leI, Ev.gtI, Ev.geI, Ev.eqI, Ev.neI, Ev.intI, Ev.absI, Ev.lenL, Ev.lenT, Ev.lenC, Ev.strS, Ev.tupL, Ev.tupT, Ev.po0, Ev.poi, Ev.slL, Ev.setf, Ev.make, Ev.callk, Ev.meth, Ev.ienum, Ev.dnew, Ev.ddis, Ev.dof, Ev.dcm, Ev.rev1, Ev.dget2, Ev.irev, Ev.lc, Ev.lcf, Ev.forf, Ev.wi0, Ev.wi1, List.set_cons_succ, List.set_cons_zero, Co.bind_assoc, List.map_cons, List.map_nil, List.cons_append, List.nil_append, List.length_cons, List.length_nil, List.replicate_succ, List.replicate_zero, Nat.reduceAdd, Nat.reduceSub, Nat.reduceLeDiff, decide_true, wp_ok, a3]
  refine wp_then (lcFx_enc (fun p => .str (fLine p)) fun p hp => ?_) fun ys m1 ⟨e1, e2⟩ => ?_
  · have l1 := (name_len (hf.ddB _ (hf.fac.inn p hp).1)).2
    have l2 := (name_len (hf.ddB _ (hf.fac.inn p hp).2)).2
    have p1 : binop .add (.str first_) (.str p.1) = some (.str (first_ ++ p.1)) := addS (by show 6 + p.1.length ≤ _; omega)
    have p2 : binop .add (.str (first_ ++ p.1)) (.str sp_) = some (.str (first_ ++ p.1 ++ sp_)) := addS (by rw [PySem.Str.length_append]; show 6 + p.1.length + 1 ≤ _; omega)
    have p3 : binop .add (.str (first_ ++ p.1 ++ sp_)) (.str p.2) = some (.str (fLine p)) := addS (by rw [PySem.Str.length_append, PySem.Str.length_append]; show 6 + p.1.length + 1 + p.2.length ≤ _; omega)
    try simp only [Ev.v0, Ev.vs, Ev.kk, Ev.bin, Ev.cmp, Ev.bok, Ev.ofs, Ev.test, Ev.iteE, Ev.val, Ev.nt, Ev.an, Ev.orE, Ev.tt, Ev.enil, Ev.econs, Ev.tup, Ev.lst, Ev.fz, Ev.cell, Ev.ix, Ev.call, Ev.bi, Ev.bi2, Ev.isi, Ev.m1, Ev.attr, Ev.sl, Ev.lof, Ev.srt, Ev.chain, Ev.gv0, Ev.gvs, Ev.gt, Ev.gnil, Ev.gcons, Ev.asg, Ev.setix, Ev.ex, Ev.ret, Ev.iff, Ev.forr, Ev.snil, Ev.scons, Ev.iseq, Ev.irange, Ev.vwI, Ev.vwS, Ev.vwB, Ev.vwN, Ev.vwL, Ev.vwT, Ev.vwO, Ev.asb, Ev.ckT, Ev.addI, Ev.subI, Ev.ltI, Ev.leI, Ev.gtI, Ev.geI, Ev.eqI, Ev.neI, Ev.intI, Ev.absI, Ev.lenL, Ev.lenT, Ev.lenC, Ev.strS, Ev.tupL, Ev.tupT, Ev.po0, Ev.poi, Ev.slL, Ev.setf, Ev.make, Ev.callk, Ev.meth, Ev.ienum, Ev.dnew, Ev.ddis, Ev.dof, Ev.dcm, Ev.rev1, Ev.dget2, Ev.irev, Ev.lc, Ev.lcf, Ev.forf, Ev.wi0, Ev.wi1, List.set_cons_succ, List.set_cons_zero, Co.bind_assoc, List.map_cons, List.map_nil, List.cons_append, List.nil_append, List.length_cons, List.length_nil, List.replicate_succ, List.replicate_zero, Nat.reduceAdd, Nat.reduceSub, Nat.reduceLeDiff, decide_true, wp_ok, strOf, p1, p2, p3]
  subst e1 e2
  have el : (f.P.map fun p => PV.str (pLine p)) ++ ((f.W.map fun w => PV.str (wLine w)) ++ (f.F.map fun p => PV.str (fLine p))) = (fLines f).map .str := by
    unfold fLines
    rw [List.map_append, List.map_append, List.map_map, List.map_map, List.map_map]
    rfl
  have hk : decide (((fLines f).map PV.str).length ≤ 100000) = true := decide_eq_true (by have := lines_few hf; rw [List.length_map]; omega)
  have r1 : ∀ x m, recOk .join m (.str x) = true := fun _ _ => rfl
  have hj : joinO (.str nl_) (.lst ((fLines f).map .str)) m1 = .ok (.str (fText f)) m1 := by
    refine join_ok (ss := fLines f) (by show some _ = some _; rfl) ?_
    have h1 := lines_few hf
    have h2 := PySem.StrLaws.sumLen_le (fLines f) (line_len hf ha)
    have e1 : (nl_).length = 1 := rfl
    rw [e1]
    have h3 : (fLines f).length * 611 ≤ 120 * 611 := Nat.mul_le_mul_right 611 h1
    omega
  try simp only [Ev.v0, Ev.vs, Ev.kk, Ev.bin, Ev.cmp, Ev.bok, Ev.ofs, Ev.test, Ev.iteE, Ev.val, Ev.nt, Ev.an, Ev.orE, Ev.tt, Ev.enil, Ev.econs, Ev.tup, Ev.lst, Ev.fz, Ev.cell, Ev.ix, Ev.call, Ev.bi, Ev.bi2, Ev.isi, Ev.m1, Ev.attr, Ev.sl, Ev.lof, Ev.srt, Ev.chain, Ev.gv0, Ev.gvs, Ev.gt, Ev.gnil, Ev.gcons, Ev.asg, Ev.setix, Ev.ex, Ev.ret, Ev.iff, Ev.forr, Ev.snil, Ev.scons, Ev.iseq, Ev.irange, Ev.vwI, Ev.vwS, Ev.vwB, Ev.vwN, Ev.vwL, Ev.vwT, Ev.vwO, Ev.asb, Ev.ckT, Ev.addI, Ev.subI, Ev.ltI, Ev.leI, Ev.gtI, Ev.geI, Ev.eqI, Ev.neI, Ev.intI, Ev.absI, Ev.lenL, Ev.lenT, Ev.lenC, Ev.strS, Ev.tupL, Ev.tupT, Ev.po0, Ev.poi, Ev.slL, Ev.setf, Ev.make, Ev.callk, Ev.meth, Ev.ienum, Ev.dnew, Ev.ddis, Ev.dof, Ev.dcm, Ev.rev1, Ev.dget2, Ev.irev, Ev.lc, Ev.lcf, Ev.forf, Ev.wi0, Ev.wi1, List.set_cons_succ, List.set_cons_zero, Co.bind_assoc, List.map_cons, List.map_nil, List.cons_append, List.nil_append, List.length_cons, List.length_nil, List.replicate_succ, List.replicate_zero, Nat.reduceAdd, Nat.reduceSub, Nat.reduceLeDiff, decide_true, wp_ok, r1, evStar, itemsL, List.append_nil, el]
  rw [hk]
  try simp only [Ev.v0, Ev.vs, Ev.kk, Ev.bin, Ev.cmp, Ev.bok, Ev.ofs, Ev.test, Ev.iteE, Ev.val, Ev.nt, Ev.an, Ev.orE, Ev.tt, Ev.enil, Ev.econs, Ev.tup, Ev.lst, Ev.fz, Ev.cell, Ev.ix, Ev.call, Ev.bi, Ev.bi2, Ev.isi, Ev.m1, Ev.attr, Ev.sl, Ev.lof, Ev.srt, Ev.chain, Ev.gv0, Ev.gvs, Ev.gt, Ev.gnil, Ev.gcons, Ev.asg, Ev.setix, Ev.ex, Ev.ret, Ev.iff, Ev.forr, Ev.snil, Ev.scons, Ev.iseq, Ev.irange, Ev.vwI, Ev.vwS, Ev.vwB, Ev.vwN, Ev.vwL, Ev.vwT, Ev.vwO, Ev.asb, Ev.ckT, Ev.addI, Ev.subI, Ev.ltI, Ev.leI, Ev.gtI, Ev.geI, Ev.eqI, Ev.neI, Ev.intI, Ev.absI, Ev.lenL, Ev.lenT, Ev.lenC, Ev.strS, Ev.tupL, Ev.tupT, Ev.po0, Ev.poi, Ev.slL, Ev.setf, Ev.make, Ev.callk, Ev.meth, Ev.ienum, Ev.dnew, Ev.ddis, Ev.dof, Ev.dcm, Ev.rev1, Ev.dget2, Ev.irev, Ev.lc, Ev.lcf, Ev.forf, Ev.wi0, Ev.wi1, List.set_cons_succ, List.set_cons_zero, Co.bind_assoc, List.map_cons, List.map_nil, List.cons_append, List.nil_append, List.length_cons, List.length_nil, List.replicate_succ, List.replicate_zero, Nat.reduceAdd, Nat.reduceSub, Nat.reduceLeDiff, decide_true, wp_ok, m1O, hj]
  exact ⟨trivial, trivial⟩
end My

end P_Xk
section P_Xl
set_option Elab.async false
set_option linter.all false
set_option maxRecDepth 100000
set_option maxHeartbeats 2000000
namespace My
open Co
open PySem (Str)
theorem wText_chars {ws : Ws} (h : WsOk ws) : ∀ c ∈ Tx.tl (wText ws), c < 128 ∧ c ≠ 10 := fun c hc => by
  rcases join_chars hc with h1 | ⟨x, hx, h1⟩
  · have : c = 32 ∨ c = 124 ∨ c = 32 := by simpa [Tx.tl] using h1
    omega
  · obtain ⟨s, hs, rfl⟩ := List.mem_map.mp hx
    have hS := h.1 s hs
    obtain ⟨w, gs⟩ := s
    cases gs with
    | nil =>
      have := dig_chars hS.lo hS.hi c h1
      omega
    | cons g gs =>
      have h1 : c ∈ Tx.tl (dig w ++ sp_ ++ gsText (g :: gs)) := h1
      rw [Tx.tl_app, Tx.tl_app] at h1
      rcases List.mem_append.mp h1 with h1 | h1
      · rcases List.mem_append.mp h1 with h1 | h1
        · have := dig_chars hS.lo hS.hi c h1
          omega
        · have : c = 32 := by simpa [Tx.tl] using h1
          omega
      · have := gsText_chars hS.grp c h1
        omega
theorem pLine_chars {p : Str × Int} (h1 : nameB p.1 = true) (h2 : p.2 ∈ amts) : ∀ c ∈ Tx.tl (pLine p), c < 128 ∧ c ≠ 10 := fun c hc => by
  unfold pLine at hc
  rw [Tx.tl_app, Tx.tl_app, Tx.tl_app] at hc
  rcases List.mem_append.mp hc with hc | hc
  · rcases List.mem_append.mp hc with hc | hc
    · rcases List.mem_append.mp hc with hc | hc
      · simp [Tx.tl] at hc
        omega
      · have := name_chars h1 c hc
        omega
    · have : c = 32 := by simpa [Tx.tl] using hc
      omega
  · have := (amt_txt h2).2 c hc
    omega
theorem wLine_chars {w : Str × Ws} (h1 : nameB w.1 = true) (h2 : WsOk w.2) : ∀ c ∈ Tx.tl (wLine w), c < 128 ∧ c ≠ 10 := fun c hc => by
  unfold wLine at hc
  rw [Tx.tl_app, Tx.tl_app, Tx.tl_app] at hc
  rcases List.mem_append.mp hc with hc | hc
  · rcases List.mem_append.mp hc with hc | hc
    · rcases List.mem_append.mp hc with hc | hc
      · simp [Tx.tl] at hc
        omega
      · have := name_chars h1 c hc
        omega
    · have : c = 32 := by simpa [Tx.tl] using hc
      omega
  · exact wText_chars (srtWs_ok h2).1 c hc
theorem fLine_chars {p : Str × Str} (h1 : nameB p.1 = true) (h2 : nameB p.2 = true) : ∀ c ∈ Tx.tl (fLine p), c < 128 ∧ c ≠ 10 := fun c hc => by
  unfold fLine at hc
  rw [Tx.tl_app, Tx.tl_app, Tx.tl_app] at hc
  rcases List.mem_append.mp hc with hc | hc
  · rcases List.mem_append.mp hc with hc | hc
    · rcases List.mem_append.mp hc with hc | hc
      · simp [Tx.tl] at hc
        omega
      · have := name_chars h1 c hc
        omega
    · have : c = 32 := by simpa [Tx.tl] using hc
      omega
  · have := name_chars h2 c hc
    omega
theorem line_chars {f : Fam} (hf : FamOk f) (ha : AmOk f) : ∀ x ∈ fLines f, ∀ c ∈ Tx.tl x, c < 128 ∧ c ≠ 10 := fun x hx => by
  unfold fLines at hx
  rcases List.mem_append.mp hx with hx | hx
  · obtain ⟨p, hp, rfl⟩ := List.mem_map.mp hx
    exact pLine_chars (hf.ppl.nm p hp) (ha p hp)
  · rcases List.mem_append.mp hx with hx | hx
    · obtain ⟨w, hw, rfl⟩ := List.mem_map.mp hx
      exact wLine_chars (hf.nmB _ (hf.wil.nm w hw)) (hf.wil.ok w hw)
    · obtain ⟨p, hp, rfl⟩ := List.mem_map.mp hx
      exact fLine_chars (hf.ddB _ (hf.fac.inn p hp).1) (hf.ddB _ (hf.fac.inn p hp).2)
theorem fText_pl {f : Fam} (hf : FamOk f) (ha : AmOk f) : pl 0 (.str (fText f)) = true := by
  unfold pl PySem.PyData.strOk
  rw [Array.all_eq_true']
  intro c hc
  have hc : c ∈ Tx.tl (fText f) := by simpa [Tx.tl] using hc
  refine decide_eq_true ?_
  rcases join_chars hc with h1 | ⟨x, hx, h1⟩
  · have : c = 10 := by simpa [Tx.tl] using h1
    omega
  · have := (line_chars hf ha x hx c h1).1
    omega
theorem bi_fstr {n : Nat} {f : Fam} {m : Mem} (hf : FamOk f) (ha : AmOk f) : biO (DG (n + 3)) .str (objF f) m = .ok (.str (fText f)) m := by
  show ((DG (n + 3)).call 35 [objF f] m).bind (fun r m1 => ownRes .str r m1) = _
  rw [dR, fstr_ok hf ha]
  rfl
/-- two families: alike by their texts -/
theorem feq_ok {n : Nat} {f g : Fam} {m : Mem} (hf : FamOk f) (ha : AmOk f) (hg : FamOk g) (hb : AmOk g) : RG (n + 4) 34 [objF f, objF g] m = .ok (.bl (decide (fText f = fText g))) m := by
  refine wp_eq (call_wp (F := (2, 2, g34 100000)) rfl rfl ?_)
  have i1 : ∀ m, isiop (DG (n + 3)).nC (.cls 1) (vw m (objF g)) = some true := fun _ => rfl
  have b1 : ∀ m, biO (DG (n + 3)) .str (objF f) m = .ok (.str (fText f)) m := fun m => bi_fstr hf ha
  have b2 : ∀ m, biO (DG (n + 3)) .str (objF g) m = .ok (.str (fText g)) m := fun m => bi_fstr hg hb
  obtain ⟨b, c1, c2, c3⟩ := eq_pl (fText_pl hf ha) (fText_pl hg hb) (by decide) (by decide)
  have hbd : b = decide (fText f = fText g) := by
    cases b with
    | true =>
      have := c3.mp rfl
      injection this with this
      exact (decide_eq_true this).symm
    | false =>
      refine (decide_eq_false fun e => ?_).symm
      have := c3.mpr (by rw [e])
      cases this
  subst hbd
  have hc : ∀ m, cmpV (DG (n + 3)) .eq (.str (fText f)) (.str (fText g)) m = .ok (.bl (decide (fText f = fText g))) m := fun m => cmpV_pl c1 (by intro _ _ _ e; cases e)
  have i2 : isiop (DG (n + 3)).nC (.cls 1) (objF g) = some true := rfl
  try simp only [Ev.v0, Ev.vs, Ev.kk, Ev.bin, Ev.cmp, Ev.bok, Ev.ofs, Ev.test, Ev.iteE, Ev.val, Ev.nt, Ev.an, Ev.orE, Ev.tt, Ev.enil, Ev.econs, Ev.tup, Ev.lst, Ev.fz, Ev.cell, Ev.ix, Ev.call, Ev.bi, Ev.bi2, Ev.isi, Ev.m1, Ev.attr, Ev.sl, Ev.lof, Ev.srt, Ev.chain, Ev.gv0, Ev.gvs, Ev.gt, Ev.gnil, Ev.gcons, Ev.asg, Ev.setix, Ev.ex, Ev.ret, Ev.iff, Ev.forr, Ev.snil, Ev.scons, Ev.iseq, Ev.irange, Ev.vwI, Ev.vwS, Ev.vwB, Ev.vwN, Ev.vwL, Ev.vwT, Ev.vwO, Ev.asb, Ev.ckT, Ev.addI, Ev.subI, Ev.ltI, Ev.leI, Ev.gtI, Ev.geI, Ev.eqI, Ev.neI, Ev.intI, Ev.absI, Ev.lenL, Ev.lenT, Ev.lenC, Ev.strS, Ev.tupL, Ev.tupT, Ev.po0, Ev.poi, Ev.slL, Ev.setf, Ev.make, Ev.callk, Ev.meth, Ev.ienum, Ev.dnew, Ev.ddis, Ev.dof, Ev.dcm, Ev.rev1, Ev.dget2, Ev.irev, Ev.lc, Ev.lcf, Ev.forf, Ev.wi0, Ev.wi1, List.set_cons_succ, List.set_cons_zero, Co.bind_assoc, List.map_cons, List.map_nil, List.cons_append, List.nil_append, List.length_cons, List.length_nil, List.replicate_succ, List.replicate_zero, Nat.reduceAdd, Nat.reduceSub, Nat.reduceLeDiff, decide_true, wp_ok, g34, i2, Option.map_some, b1, b2, hc]
  exact ⟨trivial, trivial⟩
theorem feq {n : Nat} {f : Fam} {m : Mem} (hf : FamOk f) (ha : AmOk f) : cmpV (DG (n + 4)) .eq (objF f) (objF f) m = .ok (.bl true) m ∧ cmpV (DG (n + 4)) .ne (objF f) (objF f) m = .ok (.bl false) m := by
  have h := feq_ok (n := n) (m := m) hf ha hf ha
  rw [decide_eq_true rfl] at h
  constructor
  · show ((DG (n + 4)).call 34 [objF f, objF f] m).bind (fun r m1 => negO false r m1) = _
    rw [dR, h]
    rfl
  · show ((DG (n + 4)).call 34 [objF f, objF f] m).bind (fun r m1 => negO true r m1) = _
    rw [dR, h]
    rfl
/-! ### what each owned, each will -/
theorem own_ok {n : Nat} {f : Fam} {p : Str × Int} {m : Mem} (hf : FamOk f) (hp : p ∈ f.P) : RG (n + 1) 28 [objF f, .str p.1] m = .ok (.int p.2) m := by
  refine wp_eq (call_wp (F := (2, 4, g28 100000)) rfl rfl ?_)
  have a1 : ∀ m, attO (DG n) pplN (objF f) m = .ok (.tup (f.P.map encP)) m := fun _ => rfl
  have i1 : isiop (DG n).nC .str (.str p.1) = some true := rfl
  try simp only [Ev.v0, Ev.vs, Ev.kk, Ev.bin, Ev.cmp, Ev.bok, Ev.ofs, Ev.test, Ev.iteE, Ev.val, Ev.nt, Ev.an, Ev.orE, Ev.tt, Ev.enil, Ev.econs, Ev.tup, Ev.lst, Ev.fz, Ev.cell, Ev.ix, Ev.call, Ev.bi, Ev.bi2, Ev.isi, Ev.m1, Ev.attr, Ev.sl, Ev.lof, Ev.srt, Ev.chain, Ev.gv0, Ev.gvs, Ev.gt, Ev.gnil, Ev.gcons, Ev.asg, Ev.setix, Ev.ex, Ev.ret, Ev.iff, Ev.forr, Ev.snil, Ev.scons, Ev.iseq, Ev.irange, Ev.vwI, Ev.vwS, Ev.vwB, Ev.vwN, Ev.vwL, Ev.vwT, Ev.vwO, Ev.asb, Ev.ckT, Ev.addI, Ev.subI, Ev.ltI, Ev.leI, Ev.gtI, Ev.geI, Ev.eqI, Ev.neI, Ev.intI, Ev.absI, Ev.lenL, Ev.lenT, Ev.lenC, Ev.strS, Ev.tupL, Ev.tupT, Ev.po0, Ev.poi, Ev.slL, Ev.setf, Ev.make, Ev.callk, Ev.meth, Ev.ienum, Ev.dnew, Ev.ddis, Ev.dof, Ev.dcm, Ev.rev1, Ev.dget2, Ev.irev, Ev.lc, Ev.lcf, Ev.forf, Ev.wi0, Ev.wi1, List.set_cons_succ, List.set_cons_zero, Co.bind_assoc, List.map_cons, List.map_nil, List.cons_append, List.nil_append, List.length_cons, List.length_nil, List.replicate_succ, List.replicate_zero, Nat.reduceAdd, Nat.reduceSub, Nat.reduceLeDiff, decide_true, wp_ok, g28, a1]
  refine wp_then (forFx_inv (I := fun r env mm => mm = m ∧ (∃ a b : Option PV, env = [some (objF f), some (.str p.1), a, b]) ∧ ∃ Q : List (Str × Int), r = Q.map encP ∧ p ∈ Q ∧ ∀ q ∈ Q, q ∈ f.P) (Q := fun q mm => q.1 = .rt (.int p.2) ∧ mm = m) (fun x r env mm hI => ?_) (fun env mm hI => ?_) _ _ _ ⟨rfl, ⟨none, none, rfl⟩, f.P, rfl, hp, fun _ h => h⟩) fun q mm ⟨h1, h2⟩ => ?_
  · obtain ⟨rfl, ⟨a, b, rfl⟩, Q, hr, hpQ, hQ⟩ := hI
    cases Q with
    | nil => cases hr
    | cons q Q =>
      rw [List.map_cons] at hr
      injection hr with hx hr
      subst hx hr
      rw [List.forall_mem_cons] at hQ
      have hc := (eq_S (D := DG n) (m := mm) (.inl (hf.ppl.nm q hQ.1)) (.inl (hf.ppl.nm p hp))).1
      by_cases e : q.1 = p.1
      · have eq : q = p := by
          obtain ⟨i, hi, ei⟩ := List.getElem_of_mem hQ.1
          obtain ⟨j, hj, ej⟩ := List.getElem_of_mem hp
          have hnd := hf.ppl.nd
          have : i = j := by
            have h1 : (f.P.map (·.1))[i]'(by simpa using hi) = (f.P.map (·.1))[j]'(by simpa using hj) := by
              rw [List.getElem_map, List.getElem_map, ei, ej, e]
            exact (List.getElem_inj hnd).mp h1
          subst this
          rw [← ei, ← ej]
        rw [decide_eq_true e] at hc
        try simp only [Ev.v0, Ev.vs, Ev.kk, Ev.bin, Ev.cmp, Ev.bok, Ev.ofs, Ev.test, Ev.iteE, Ev.val, Ev.nt, Ev.an, Ev.orE, Ev.tt, Ev.enil, Ev.econs, Ev.tup, Ev.lst, Ev.fz, Ev.cell, Ev.ix, Ev.call, Ev.bi, Ev.bi2, Ev.isi, Ev.m1, Ev.attr, Ev.sl, Ev.lof, Ev.srt, Ev.chain, Ev.gv0, Ev.gvs, Ev.gt, Ev.gnil, Ev.gcons, Ev.asg, Ev.setix, Ev.ex, Ev.ret, Ev.iff, Ev.forr, Ev.snil, Ev.scons, Ev.iseq, Ev.irange, Ev.vwI, Ev.vwS, Ev.vwB, Ev.vwN, Ev.vwL, Ev.vwT, Ev.vwO, Ev.asb, Ev.ckT, Ev.addI, Ev.subI, Ev.ltI, Ev.leI, Ev.gtI, Ev.geI, Ev.eqI, Ev.neI, Ev.intI, Ev.absI, Ev.lenL, Ev.lenT, Ev.lenC, Ev.strS, Ev.tupL, Ev.tupT, Ev.po0, Ev.poi, Ev.slL, Ev.setf, Ev.make, Ev.callk, Ev.meth, Ev.ienum, Ev.dnew, Ev.ddis, Ev.dof, Ev.dcm, Ev.rev1, Ev.dget2, Ev.irev, Ev.lc, Ev.lcf, Ev.forf, Ev.wi0, Ev.wi1, List.set_cons_succ, List.set_cons_zero, Co.bind_assoc, List.map_cons, List.map_nil, List.cons_append, List.nil_append, List.length_cons, List.length_nil, List.replicate_succ, List.replicate_zero, Nat.reduceAdd, Nat.reduceSub, Nat.reduceLeDiff, decide_true, wp_ok, i1, Option.map_some, hc]
        rw [eq]
        exact ⟨rfl, trivial⟩
      · rw [decide_eq_false e] at hc
        try simp only [Ev.v0, Ev.vs, Ev.kk, Ev.bin, Ev.cmp, Ev.bok, Ev.ofs, Ev.test, Ev.iteE, Ev.val, Ev.nt, Ev.an, Ev.orE, Ev.tt, Ev.enil, Ev.econs, Ev.tup, Ev.lst, Ev.fz, Ev.cell, Ev.ix, Ev.call, Ev.bi, Ev.bi2, Ev.isi, Ev.m1, Ev.attr, Ev.sl, Ev.lof, Ev.srt, Ev.chain, Ev.gv0, Ev.gvs, Ev.gt, Ev.gnil, Ev.gcons, Ev.asg, Ev.setix, Ev.ex, Ev.ret, Ev.iff, Ev.forr, Ev.snil, Ev.scons, Ev.iseq, Ev.irange, Ev.vwI, Ev.vwS, Ev.vwB, Ev.vwN, Ev.vwL, Ev.vwT, Ev.vwO, Ev.asb, Ev.ckT, Ev.addI, Ev.subI, Ev.ltI, Ev.leI, Ev.gtI, Ev.geI, Ev.eqI, Ev.neI, Ev.intI, Ev.absI, Ev.lenL, Ev.lenT, Ev.lenC, Ev.strS, Ev.tupL, Ev.tupT, Ev.po0, Ev.poi, Ev.slL, Ev.setf, Ev.make, Ev.callk, Ev.meth, Ev.ienum, Ev.dnew, Ev.ddis, Ev.dof, Ev.dcm, Ev.rev1, Ev.dget2, Ev.irev, Ev.lc, Ev.lcf, Ev.forf, Ev.wi0, Ev.wi1, List.set_cons_succ, List.set_cons_zero, Co.bind_assoc, List.map_cons, List.map_nil, List.cons_append, List.nil_append, List.length_cons, List.length_nil, List.replicate_succ, List.replicate_zero, Nat.reduceAdd, Nat.reduceSub, Nat.reduceLeDiff, decide_true, wp_ok, i1, Option.map_some, hc]
        have hne : p ≠ q := fun z => e (by rw [z])
        exact ⟨trivial, ⟨_, _, rfl⟩, Q, rfl, (List.mem_cons.mp hpQ).resolve_left hne, hQ.2⟩
  · obtain ⟨_, _, Q, hr, hpQ, _⟩ := hI
    cases Q with
    | nil => cases hpQ
    | cons q Q => cases hr
  · obtain ⟨q1, q2⟩ := q
    dsimp only at h1
    subst h1
    exact ⟨rfl, h2⟩
theorem will_of_ok {n : Nat} {f : Fam} {p : Str × Ws} {m : Mem} (hf : FamOk f) (hp : p ∈ f.W) : RG (n + 1) 29 [objF f, .str p.1] m = .ok (objW p.2) m := by
  refine wp_eq (call_wp (F := (2, 4, g29 100000)) rfl rfl ?_)
  have a1 : ∀ m, attO (DG n) wilN (objF f) m = .ok (.tup (f.W.map encW)) m := fun _ => rfl
  have i1 : isiop (DG n).nC .str (.str p.1) = some true := rfl
  have nb : ∀ w ∈ f.W, nameB w.1 = true := fun w hw => hf.nmB _ (hf.wil.nm w hw)
  try simp only [Ev.v0, Ev.vs, Ev.kk, Ev.bin, Ev.cmp, Ev.bok, Ev.ofs, Ev.test, Ev.iteE, Ev.val, Ev.nt, Ev.an, Ev.orE, Ev.tt, Ev.enil, Ev.econs, Ev.tup, Ev.lst, Ev.fz, Ev.cell, Ev.ix, Ev.call, Ev.bi, Ev.bi2, Ev.isi, Ev.m1, Ev.attr, Ev.sl, Ev.lof, Ev.srt, Ev.chain, Ev.gv0, Ev.gvs, Ev.gt, Ev.gnil, Ev.gcons, Ev.asg, Ev.setix, Ev.ex, Ev.ret, Ev.iff, Ev.forr, Ev.snil, Ev.scons, Ev.iseq, Ev.irange, Ev.vwI, Ev.vwS, Ev.vwB, Ev.vwN, Ev.vwL, Ev.vwT, Ev.vwO, Ev.asb, Ev.ckT, Ev.addI, Ev.subI, Ev.ltI, Ev.leI, Ev.gtI, Ev.geI, Ev.eqI, Ev.neI, Ev.intI, Ev.absI, Ev.lenL, Ev.lenT, Ev.lenC, Ev.strS, Ev.tupL, Ev.tupT, Ev.po0, Ev.poi, Ev.slL, Ev.setf, Ev.make, Ev.callk, Ev.meth, Ev.ienum, Ev.dnew, Ev.ddis, Ev.dof, Ev.dcm, Ev.rev1, Ev.dget2, Ev.irev, Ev.lc, Ev.lcf, Ev.forf, Ev.wi0, Ev.wi1, List.set_cons_succ, List.set_cons_zero, Co.bind_assoc, List.map_cons, List.map_nil, List.cons_append, List.nil_append, List.length_cons, List.length_nil, List.replicate_succ, List.replicate_zero, Nat.reduceAdd, Nat.reduceSub, Nat.reduceLeDiff, decide_true, wp_ok, g29, a1]
  refine wp_then (forFx_inv (I := fun r env mm => mm = m ∧ (∃ a b : Option PV, env = [some (objF f), some (.str p.1), a, b]) ∧ ∃ Q : List (Str × Ws), r = Q.map encW ∧ p ∈ Q ∧ ∀ q ∈ Q, q ∈ f.W) (Q := fun q mm => q.1 = .rt (objW p.2) ∧ mm = m) (fun x r env mm hI => ?_) (fun env mm hI => ?_) _ _ _ ⟨rfl, ⟨none, none, rfl⟩, f.W, rfl, hp, fun _ h => h⟩) fun q mm ⟨h1, h2⟩ => ?_
  · obtain ⟨rfl, ⟨a, b, rfl⟩, Q, hr, hpQ, hQ⟩ := hI
    cases Q with
    | nil => cases hr
    | cons q Q =>
      rw [List.map_cons] at hr
      injection hr with hx hr
      subst hx hr
      rw [List.forall_mem_cons] at hQ
      have hc := (eq_S (D := DG n) (m := mm) (.inl (nb q hQ.1)) (.inl (nb p hp))).1
      by_cases e : q.1 = p.1
      · have eq : q = p := by
          obtain ⟨i, hi, ei⟩ := List.getElem_of_mem hQ.1
          obtain ⟨j, hj, ej⟩ := List.getElem_of_mem hp
          have hnd := hf.wil.nd
          have : i = j := by
            have h1 : (f.W.map (·.1))[i]'(by simpa using hi) = (f.W.map (·.1))[j]'(by simpa using hj) := by
              rw [List.getElem_map, List.getElem_map, ei, ej, e]
            exact (List.getElem_inj hnd).mp h1
          subst this
          rw [← ei, ← ej]
        rw [decide_eq_true e] at hc
        try simp only [Ev.v0, Ev.vs, Ev.kk, Ev.bin, Ev.cmp, Ev.bok, Ev.ofs, Ev.test, Ev.iteE, Ev.val, Ev.nt, Ev.an, Ev.orE, Ev.tt, Ev.enil, Ev.econs, Ev.tup, Ev.lst, Ev.fz, Ev.cell, Ev.ix, Ev.call, Ev.bi, Ev.bi2, Ev.isi, Ev.m1, Ev.attr, Ev.sl, Ev.lof, Ev.srt, Ev.chain, Ev.gv0, Ev.gvs, Ev.gt, Ev.gnil, Ev.gcons, Ev.asg, Ev.setix, Ev.ex, Ev.ret, Ev.iff, Ev.forr, Ev.snil, Ev.scons, Ev.iseq, Ev.irange, Ev.vwI, Ev.vwS, Ev.vwB, Ev.vwN, Ev.vwL, Ev.vwT, Ev.vwO, Ev.asb, Ev.ckT, Ev.addI, Ev.subI, Ev.ltI, Ev.leI, Ev.gtI, Ev.geI, Ev.eqI, Ev.neI, Ev.intI, Ev.absI, Ev.lenL, Ev.lenT, Ev.lenC, Ev.strS, Ev.tupL, Ev.tupT, Ev.po0, Ev.poi, Ev.slL, Ev.setf, Ev.make, Ev.callk, Ev.meth, Ev.ienum, Ev.dnew, Ev.ddis, Ev.dof, Ev.dcm, Ev.rev1, Ev.dget2, Ev.irev, Ev.lc, Ev.lcf, Ev.forf, Ev.wi0, Ev.wi1, List.set_cons_succ, List.set_cons_zero, Co.bind_assoc, List.map_cons, List.map_nil, List.cons_append, List.nil_append, List.length_cons, List.length_nil, List.replicate_succ, List.replicate_zero, Nat.reduceAdd, Nat.reduceSub, Nat.reduceLeDiff, decide_true, wp_ok, i1, Option.map_some, hc]
        rw [eq]
        exact ⟨rfl, trivial⟩
      · rw [decide_eq_false e] at hc
        try simp only [Ev.v0, Ev.vs, Ev.kk, Ev.bin, Ev.cmp, Ev.bok, Ev.ofs, Ev.test, Ev.iteE, Ev.val, Ev.nt, Ev.an, Ev.orE, Ev.tt, Ev.enil, Ev.econs, Ev.tup, Ev.lst, Ev.fz, Ev.cell, Ev.ix, Ev.call, Ev.bi, Ev.bi2, Ev.isi, Ev.m1, Ev.attr, Ev.sl, Ev.lof, Ev.srt, Ev.chain, Ev.gv0, Ev.gvs, Ev.gt, Ev.gnil, Ev.gcons, Ev.asg, Ev.setix, Ev.ex, Ev.ret, Ev.iff, Ev.forr, Ev.snil, Ev.scons, Ev.iseq, Ev.irange, Ev.vwI, Ev.vwS, Ev.vwB, Ev.vwN, Ev.vwL, Ev.vwT, Ev.vwO, Ev.asb, Ev.ckT, Ev.addI, Ev.subI, Ev.ltI, Ev.leI, Ev.gtI, Ev.geI, Ev.eqI, Ev.neI, Ev.intI, Ev.absI, Ev.lenL, Ev.lenT, Ev.lenC, Ev.strS, Ev.tupL, Ev.tupT, Ev.po0, Ev.poi, Ev.slL, Ev.setf, Ev.make, Ev.callk, Ev.meth, Ev.ienum, Ev.dnew, Ev.ddis, Ev.dof, Ev.dcm, Ev.rev1, Ev.dget2, Ev.irev, Ev.lc, Ev.lcf, Ev.forf, Ev.wi0, Ev.wi1, List.set_cons_succ, List.set_cons_zero, Co.bind_assoc, List.map_cons, List.map_nil, List.cons_append, List.nil_append, List.length_cons, List.length_nil, List.replicate_succ, List.replicate_zero, Nat.reduceAdd, Nat.reduceSub, Nat.reduceLeDiff, decide_true, wp_ok, i1, Option.map_some, hc]
        have hne : p ≠ q := fun z => e (by rw [z])
        exact ⟨trivial, ⟨_, _, rfl⟩, Q, rfl, (List.mem_cons.mp hpQ).resolve_left hne, hQ.2⟩
  · obtain ⟨_, _, Q, hr, hpQ, _⟩ := hI
    cases Q with
    | nil => cases hpQ
    | cons q Q => cases hr
  · obtain ⟨q1, q2⟩ := q
    dsimp only at h1
    subst h1
    exact ⟨rfl, h2⟩
end My

end P_Xl
section P_Xm
set_option Elab.async false
set_option linter.all false
set_option maxRecDepth 100000
set_option maxHeartbeats 2000000
namespace My
open Co
open PySem (Str)
theorem ini1 {n : Nat} : iniO (DG n) (.cls 1) = some (1, 24) := rfl
theorem pick_f3 {x y z : PV} {q : Nat} : ((List.lookup 24 [(24, [.i 0, .i 1, .i 2, .i 3])]).bind fun ar => pickN 4 0 [.ref q, x, y, z] [] ar) = some [.ref q, x, y, z] := rfl
theorem met_wo {n : Nat} {f : Fam} {m : Mem} : metO (DG n) (sx [119, 105, 108, 108, 95, 111, 102]) (objF f) m = some 29 := rfl
theorem met_own {n : Nat} {f : Fam} {m : Mem} : metO (DG n) (sx [111, 119, 110]) (objF f) m = some 28 := rfl
theorem pick_wo {x y : PV} : ((List.lookup 29 [(10, [.i 0, .i 1]), (24, [.i 0, .i 1, .d 0 (.tup []), .d 1 (.tup [])]), (29, [.i 0, .i 1]), (28, [.i 0, .i 1]), (13, [.i 0, .i 1])]).bind fun ar => pickN 2 0 [x, y] [] ar) = some [x, y] := rfl
theorem pick_own {x y : PV} : ((List.lookup 28 [(10, [.i 0, .i 1]), (24, [.i 0, .i 1, .d 0 (.tup []), .d 1 (.tup [])]), (29, [.i 0, .i 1]), (28, [.i 0, .i 1]), (13, [.i 0, .i 1])]).bind fun ar => pickN 2 0 [x, y] [] ar) = some [x, y] := rfl
theorem mem_dead {f : Fam} {x : Str} (h : x ∈ f.dead) : ∃ w ∈ f.W, w.1 = x := by
  obtain ⟨w, hw, e⟩ := List.mem_map.mp h
  exact ⟨w, hw, e⟩
theorem with_fact_ok {n : Nat} {f : Fam} {x y : Str} {m : Mem} (hf : FamOk f) (hx : x ∈ f.dead) (hy : y ∈ f.dead) (hg : FamOk ⟨f.P, f.W, f.F ++ [(x, y)]⟩) : RG (n + 5) 30 [objF f, .str x, .str y] m = .ok (objF ⟨f.P, f.W, f.F ++ [(x, y)]⟩) m := by
  refine wp_eq (call_wp (F := (3, 3, g30 100000)) rfl rfl ?_)
  obtain ⟨w1, hw1, rfl⟩ := mem_dead hx
  obtain ⟨w2, hw2, rfl⟩ := mem_dead hy
  have a1 : ∀ m, attO (DG (n + 4)) pplN (objF f) m = .ok (.tup (f.P.map encP)) m := fun _ => rfl
  have a2 : ∀ m, attO (DG (n + 4)) wilN (objF f) m = .ok (.tup (f.W.map encW)) m := fun _ => rfl
  have a3 : ∀ m, attO (DG (n + 4)) facN (objF f) m = .ok (.tup (f.F.map encF)) m := fun _ => rfl
  have o1 : ∀ m, RG (n + 4) 29 [objF f, .str w1.1] m = .ok (objW w1.2) m := fun m => will_of_ok hf hw1
  have o2 : ∀ m, RG (n + 4) 29 [objF f, .str w2.1] m = .ok (objW w2.2) m := fun m => will_of_ok hf hw2
  have ef : f.F.map encF ++ [PV.tup [.str w1.1, .str w2.1]] = (f.F ++ [(w1.1, w2.1)]).map encF := by rw [List.map_append]; rfl
  obtain ⟨m', e1, e2⟩ := fmk (n := n) (m := m) hg (vp := .tup (f.P.map encP)) (vwi := .tup (f.W.map encW)) (vf := .tup ((f.F ++ [(w1.1, w2.1)]).map encF)) (.inr (.inl rfl)) (.inr (.inl rfl)) (.inr (.inl rfl))
  have hk : decide (((f.F ++ [(w1.1, w2.1)]).map encF).length ≤ 100000) = true := decide_eq_true (by have := hf.fac.few; simp; omega)
  try simp only [Ev.v0, Ev.vs, Ev.kk, Ev.bin, Ev.cmp, Ev.bok, Ev.ofs, Ev.test, Ev.iteE, Ev.val, Ev.nt, Ev.an, Ev.orE, Ev.tt, Ev.enil, Ev.econs, Ev.tup, Ev.lst, Ev.fz, Ev.cell, Ev.ix, Ev.call, Ev.bi, Ev.bi2, Ev.isi, Ev.m1, Ev.attr, Ev.sl, Ev.lof, Ev.srt, Ev.chain, Ev.gv0, Ev.gvs, Ev.gt, Ev.gnil, Ev.gcons, Ev.asg, Ev.setix, Ev.ex, Ev.ret, Ev.iff, Ev.forr, Ev.snil, Ev.scons, Ev.iseq, Ev.irange, Ev.vwI, Ev.vwS, Ev.vwB, Ev.vwN, Ev.vwL, Ev.vwT, Ev.vwO, Ev.asb, Ev.ckT, Ev.addI, Ev.subI, Ev.ltI, Ev.leI, Ev.gtI, Ev.geI, Ev.eqI, Ev.neI, Ev.intI, Ev.absI, Ev.lenL, Ev.lenT, Ev.lenC, Ev.strS, Ev.tupL, Ev.tupT, Ev.po0, Ev.poi, Ev.slL, Ev.setf, Ev.make, Ev.callk, Ev.meth, Ev.ienum, Ev.dnew, Ev.ddis, Ev.dof, Ev.dcm, Ev.rev1, Ev.dget2, Ev.irev, Ev.lc, Ev.lcf, Ev.forf, Ev.wi0, Ev.wi1, List.set_cons_succ, List.set_cons_zero, Co.bind_assoc, List.map_cons, List.map_nil, List.cons_append, List.nil_append, List.length_cons, List.length_nil, List.replicate_succ, List.replicate_zero, Nat.reduceAdd, Nat.reduceSub, Nat.reduceLeDiff, decide_true, wp_ok, g30, met_wo, pick_wo, dR, o1, o2, a1, a2, a3, evStar, itemsT, ef]
  rw [hk]
  try simp only [Ev.v0, Ev.vs, Ev.kk, Ev.bin, Ev.cmp, Ev.bok, Ev.ofs, Ev.test, Ev.iteE, Ev.val, Ev.nt, Ev.an, Ev.orE, Ev.tt, Ev.enil, Ev.econs, Ev.tup, Ev.lst, Ev.fz, Ev.cell, Ev.ix, Ev.call, Ev.bi, Ev.bi2, Ev.isi, Ev.m1, Ev.attr, Ev.sl, Ev.lof, Ev.srt, Ev.chain, Ev.gv0, Ev.gvs, Ev.gt, Ev.gnil, Ev.gcons, Ev.asg, Ev.setix, Ev.ex, Ev.ret, Ev.iff, Ev.forr, Ev.snil, Ev.scons, Ev.iseq, Ev.irange, Ev.vwI, Ev.vwS, Ev.vwB, Ev.vwN, Ev.vwL, Ev.vwT, Ev.vwO, Ev.asb, Ev.ckT, Ev.addI, Ev.subI, Ev.ltI, Ev.leI, Ev.gtI, Ev.geI, Ev.eqI, Ev.neI, Ev.intI, Ev.absI, Ev.lenL, Ev.lenT, Ev.lenC, Ev.strS, Ev.tupL, Ev.tupT, Ev.po0, Ev.poi, Ev.slL, Ev.setf, Ev.make, Ev.callk, Ev.meth, Ev.ienum, Ev.dnew, Ev.ddis, Ev.dof, Ev.dcm, Ev.rev1, Ev.dget2, Ev.irev, Ev.lc, Ev.lcf, Ev.forf, Ev.wi0, Ev.wi1, List.set_cons_succ, List.set_cons_zero, Co.bind_assoc, List.map_cons, List.map_nil, List.cons_append, List.nil_append, List.length_cons, List.length_nil, List.replicate_succ, List.replicate_zero, Nat.reduceAdd, Nat.reduceSub, Nat.reduceLeDiff, decide_true, wp_ok, ini1, pick_f3, dR, e1, e2]
  exact ⟨trivial, trivial⟩
theorem with_own_ok {n : Nat} {f : Fam} {x : Str} {a : Int} {m : Mem} (hf : FamOk f) (hx : x ∈ f.names) (hg : FamOk ⟨f.P.map fun p => (p.1, if p.1 = x then a else p.2), f.W, f.F⟩) : RG (n + 5) 31 [objF f, .str x, .int a] m = .ok (objF ⟨f.P.map fun p => (p.1, if p.1 = x then a else p.2), f.W, f.F⟩) m := by
  refine wp_eq (call_wp (F := (3, 6, g31 100000)) rfl rfl ?_)
  obtain ⟨p0, hp0, rfl⟩ := List.mem_map.mp hx
  have a1 : ∀ m, attO (DG (n + 4)) pplN (objF f) m = .ok (.tup (f.P.map encP)) m := fun _ => rfl
  have a2 : ∀ m, attO (DG (n + 4)) wilN (objF f) m = .ok (.tup (f.W.map encW)) m := fun _ => rfl
  have a3 : ∀ m, attO (DG (n + 4)) facN (objF f) m = .ok (.tup (f.F.map encF)) m := fun _ => rfl
  have o1 : ∀ m, RG (n + 4) 28 [objF f, .str p0.1] m = .ok (.int p0.2) m := fun m => own_ok hf hp0
  try simp only [Ev.v0, Ev.vs, Ev.kk, Ev.bin, Ev.cmp, Ev.bok, Ev.ofs, Ev.test, Ev.iteE, Ev.val, Ev.nt, Ev.an, Ev.orE, Ev.tt, Ev.enil, Ev.econs, Ev.tup, Ev.lst, Ev.fz, Ev.cell, Ev.ix, Ev.call, Ev.bi, Ev.bi2, Ev.isi, Ev.m1, Ev.attr, Ev.sl, Ev.lof, Ev.srt, Ev.chain, Ev.gv0, Ev.gvs, Ev.gt, Ev.gnil, Ev.gcons, Ev.asg, Ev.setix, Ev.ex, Ev.ret, Ev.iff, Ev.forr, Ev.snil, Ev.scons, Ev.iseq, Ev.irange, Ev.vwI, Ev.vwS, Ev.vwB, Ev.vwN, Ev.vwL, Ev.vwT, Ev.vwO, Ev.asb, Ev.ckT, Ev.addI, Ev.subI, Ev.ltI, Ev.leI, Ev.gtI, Ev.geI, Ev.eqI, Ev.neI, Ev.intI, Ev.absI, Ev.lenL, Ev.lenT, Ev.lenC, Ev.strS, Ev.tupL, Ev.tupT, Ev.po0, Ev.poi, Ev.slL, Ev.setf, Ev.make, Ev.callk, Ev.meth, Ev.ienum, Ev.dnew, Ev.ddis, Ev.dof, Ev.dcm, Ev.rev1, Ev.dget2, Ev.irev, Ev.lc, Ev.lcf, Ev.forf, Ev.wi0, Ev.wi1, List.set_cons_succ, List.set_cons_zero, Co.bind_assoc, List.map_cons, List.map_nil, List.cons_append, List.nil_append, List.length_cons, List.length_nil, List.replicate_succ, List.replicate_zero, Nat.reduceAdd, Nat.reduceSub, Nat.reduceLeDiff, decide_true, wp_ok, g31, met_own, pick_own, dR, o1, a1]
  refine wp_then (lcFx_enc (fun p => encP (p.1, if p.1 = p0.1 then a else p.2)) fun p hp => ?_) fun ys m1 ⟨e1, e2⟩ => ?_
  · have hc := (eq_S (D := DG (n + 4)) (m := m) (.inl (hf.ppl.nm p hp)) (.inl (hf.ppl.nm p0 hp0))).1
    by_cases e : p.1 = p0.1
    · rw [decide_eq_true e] at hc
      try simp only [Ev.v0, Ev.vs, Ev.kk, Ev.bin, Ev.cmp, Ev.bok, Ev.ofs, Ev.test, Ev.iteE, Ev.val, Ev.nt, Ev.an, Ev.orE, Ev.tt, Ev.enil, Ev.econs, Ev.tup, Ev.lst, Ev.fz, Ev.cell, Ev.ix, Ev.call, Ev.bi, Ev.bi2, Ev.isi, Ev.m1, Ev.attr, Ev.sl, Ev.lof, Ev.srt, Ev.chain, Ev.gv0, Ev.gvs, Ev.gt, Ev.gnil, Ev.gcons, Ev.asg, Ev.setix, Ev.ex, Ev.ret, Ev.iff, Ev.forr, Ev.snil, Ev.scons, Ev.iseq, Ev.irange, Ev.vwI, Ev.vwS, Ev.vwB, Ev.vwN, Ev.vwL, Ev.vwT, Ev.vwO, Ev.asb, Ev.ckT, Ev.addI, Ev.subI, Ev.ltI, Ev.leI, Ev.gtI, Ev.geI, Ev.eqI, Ev.neI, Ev.intI, Ev.absI, Ev.lenL, Ev.lenT, Ev.lenC, Ev.strS, Ev.tupL, Ev.tupT, Ev.po0, Ev.poi, Ev.slL, Ev.setf, Ev.make, Ev.callk, Ev.meth, Ev.ienum, Ev.dnew, Ev.ddis, Ev.dof, Ev.dcm, Ev.rev1, Ev.dget2, Ev.irev, Ev.lc, Ev.lcf, Ev.forf, Ev.wi0, Ev.wi1, List.set_cons_succ, List.set_cons_zero, Co.bind_assoc, List.map_cons, List.map_nil, List.cons_append, List.nil_append, List.length_cons, List.length_nil, List.replicate_succ, List.replicate_zero, Nat.reduceAdd, Nat.reduceSub, Nat.reduceLeDiff, decide_true, wp_ok, hc, if_pos e]
    · rw [decide_eq_false e] at hc
      try simp only [Ev.v0, Ev.vs, Ev.kk, Ev.bin, Ev.cmp, Ev.bok, Ev.ofs, Ev.test, Ev.iteE, Ev.val, Ev.nt, Ev.an, Ev.orE, Ev.tt, Ev.enil, Ev.econs, Ev.tup, Ev.lst, Ev.fz, Ev.cell, Ev.ix, Ev.call, Ev.bi, Ev.bi2, Ev.isi, Ev.m1, Ev.attr, Ev.sl, Ev.lof, Ev.srt, Ev.chain, Ev.gv0, Ev.gvs, Ev.gt, Ev.gnil, Ev.gcons, Ev.asg, Ev.setix, Ev.ex, Ev.ret, Ev.iff, Ev.forr, Ev.snil, Ev.scons, Ev.iseq, Ev.irange, Ev.vwI, Ev.vwS, Ev.vwB, Ev.vwN, Ev.vwL, Ev.vwT, Ev.vwO, Ev.asb, Ev.ckT, Ev.addI, Ev.subI, Ev.ltI, Ev.leI, Ev.gtI, Ev.geI, Ev.eqI, Ev.neI, Ev.intI, Ev.absI, Ev.lenL, Ev.lenT, Ev.lenC, Ev.strS, Ev.tupL, Ev.tupT, Ev.po0, Ev.poi, Ev.slL, Ev.setf, Ev.make, Ev.callk, Ev.meth, Ev.ienum, Ev.dnew, Ev.ddis, Ev.dof, Ev.dcm, Ev.rev1, Ev.dget2, Ev.irev, Ev.lc, Ev.lcf, Ev.forf, Ev.wi0, Ev.wi1, List.set_cons_succ, List.set_cons_zero, Co.bind_assoc, List.map_cons, List.map_nil, List.cons_append, List.nil_append, List.length_cons, List.length_nil, List.replicate_succ, List.replicate_zero, Nat.reduceAdd, Nat.reduceSub, Nat.reduceLeDiff, decide_true, wp_ok, hc, if_neg e]
  subst e1 e2
  have ep : (f.P.map fun p => encP (p.1, if p.1 = p0.1 then a else p.2)) = (f.P.map fun p => (p.1, if p.1 = p0.1 then a else p.2)).map encP := by rw [List.map_map]; rfl
  rw [ep]
  obtain ⟨m', e1, e2⟩ := fmk (n := n) (m := m1) hg (vp := .lst ((f.P.map fun p => (p.1, if p.1 = p0.1 then a else p.2)).map encP)) (vwi := .tup (f.W.map encW)) (vf := .tup (f.F.map encF)) (.inl rfl) (.inr (.inl rfl)) (.inr (.inl rfl))
  try simp only [Ev.v0, Ev.vs, Ev.kk, Ev.bin, Ev.cmp, Ev.bok, Ev.ofs, Ev.test, Ev.iteE, Ev.val, Ev.nt, Ev.an, Ev.orE, Ev.tt, Ev.enil, Ev.econs, Ev.tup, Ev.lst, Ev.fz, Ev.cell, Ev.ix, Ev.call, Ev.bi, Ev.bi2, Ev.isi, Ev.m1, Ev.attr, Ev.sl, Ev.lof, Ev.srt, Ev.chain, Ev.gv0, Ev.gvs, Ev.gt, Ev.gnil, Ev.gcons, Ev.asg, Ev.setix, Ev.ex, Ev.ret, Ev.iff, Ev.forr, Ev.snil, Ev.scons, Ev.iseq, Ev.irange, Ev.vwI, Ev.vwS, Ev.vwB, Ev.vwN, Ev.vwL, Ev.vwT, Ev.vwO, Ev.asb, Ev.ckT, Ev.addI, Ev.subI, Ev.ltI, Ev.leI, Ev.gtI, Ev.geI, Ev.eqI, Ev.neI, Ev.intI, Ev.absI, Ev.lenL, Ev.lenT, Ev.lenC, Ev.strS, Ev.tupL, Ev.tupT, Ev.po0, Ev.poi, Ev.slL, Ev.setf, Ev.make, Ev.callk, Ev.meth, Ev.ienum, Ev.dnew, Ev.ddis, Ev.dof, Ev.dcm, Ev.rev1, Ev.dget2, Ev.irev, Ev.lc, Ev.lcf, Ev.forf, Ev.wi0, Ev.wi1, List.set_cons_succ, List.set_cons_zero, Co.bind_assoc, List.map_cons, List.map_nil, List.cons_append, List.nil_append, List.length_cons, List.length_nil, List.replicate_succ, List.replicate_zero, Nat.reduceAdd, Nat.reduceSub, Nat.reduceLeDiff, decide_true, wp_ok, a2, a3, ini1, pick_f3, dR, e1, e2]
  exact ⟨trivial, trivial⟩
end My

end P_Xm
section P_Xn
set_option Elab.async false
set_option linter.all false
set_option maxRecDepth 100000
set_option maxHeartbeats 4000000
namespace My
open Co
open PySem (Str)
/-! ### words -/
theorem tokens (t : List Nat) : ∃ xs : List Str, xs ≠ [] ∧ (∀ x ∈ xs, 32 ∉ Tx.tl x) ∧ Tx.tl (Str.join sp_ xs) = t := by
  induction t with
  | nil => exact ⟨[sx []], by simp, by simp [Tx.tl], rfl⟩
  | cons c t ih =>
    obtain ⟨xs, h1, h2, h3⟩ := ih
    cases xs with
    | nil => exact absurd rfl h1
    | cons x xs =>
      by_cases hc : c = 32
      · refine ⟨sx [] :: x :: xs, by simp, ?_, ?_⟩
        · intro y hy
          rcases List.mem_cons.mp hy with rfl | hy
          · simp [Tx.tl]
          · exact h2 y hy
        · rw [Tx.tl_join_cons, h3, hc]
          rfl
      · refine ⟨sx (c :: Tx.tl x) :: xs, by simp, ?_, ?_⟩
        · intro y hy
          rcases List.mem_cons.mp hy with rfl | hy
          · have := h2 x List.mem_cons_self
            simp [Tx.tl] at this ⊢
            exact ⟨fun e => hc e.symm, this⟩
          · exact h2 y (List.mem_cons_of_mem _ hy)
        · cases xs with
          | nil =>
            have h3 : Tx.tl x = t := h3
            show Tx.tl (sx (c :: Tx.tl x)) = _
            rw [h3]
            try simp [Tx.tl]
          | cons y ys =>
            rw [Tx.tl_join_cons] at h3 ⊢
            rw [← h3]
            simp [Tx.tl]
abbrev personW : Str := sx [112, 101, 114, 115, 111, 110]
abbrev willW : Str := sx [119, 105, 108, 108]
abbrev firstW : Str := sx [102, 105, 114, 115, 116]
theorem split_sp {x : Str} {ps : List Str} (h : Tx.tl x = Tx.tl (Str.join sp_ ps)) (hn : ps ≠ []) (hp : ∀ p ∈ ps, 32 ∉ Tx.tl p) : PySem.Txt.split x sp_ = ps := by
  rw [Tx.ext h]
  exact Tx.split_join one_sp (by decide +kernel) hn hp
theorem no_sp_name {x : Str} (h : nameB x = true) : 32 ∉ Tx.tl x := fun hc => by
  have := name_chars h _ hc
  omega
theorem split_p {p : Str × Int} (h1 : nameB p.1 = true) (h2 : p.2 ∈ amts) : PySem.Txt.split (pLine p) sp_ = [personW, p.1, amtS p.2] := by
  refine split_sp ?_ (by simp) fun x hx => ?_
  · rw [Tx.tl_join_cons, Tx.tl_join_cons]
    unfold pLine
    rw [Tx.tl_app, Tx.tl_app, Tx.tl_app]
    show [112, 101, 114, 115, 111, 110, 32] ++ Tx.tl p.1 ++ [32] ++ Tx.tl (amtS p.2) = [112, 101, 114, 115, 111, 110] ++ ([32] ++ (Tx.tl p.1 ++ ([32] ++ Tx.tl (amtS p.2))))
    simp
  · simp only [List.mem_cons, List.not_mem_nil, or_false] at hx
    rcases hx with rfl | rfl | rfl
    · simp [Tx.tl]
    · exact no_sp_name h1
    · exact fun hc => by have := (amt_txt h2).2 _ hc; omega
theorem split_f {p : Str × Str} (h1 : nameB p.1 = true) (h2 : nameB p.2 = true) : PySem.Txt.split (fLine p) sp_ = [firstW, p.1, p.2] := by
  refine split_sp ?_ (by simp) fun x hx => ?_
  · rw [Tx.tl_join_cons, Tx.tl_join_cons]
    unfold fLine
    rw [Tx.tl_app, Tx.tl_app, Tx.tl_app]
    show [102, 105, 114, 115, 116, 32] ++ Tx.tl p.1 ++ [32] ++ Tx.tl p.2 = [102, 105, 114, 115, 116] ++ ([32] ++ (Tx.tl p.1 ++ ([32] ++ Tx.tl p.2)))
    simp
  · simp only [List.mem_cons, List.not_mem_nil, or_false] at hx
    rcases hx with rfl | rfl | rfl
    · simp [Tx.tl]
    · exact no_sp_name h1
    · exact no_sp_name h2
theorem split_wl {w : Str × Ws} (h1 : nameB w.1 = true) : ∃ xs : List Str, xs ≠ [] ∧ PySem.Txt.split (wLine w) sp_ = willW :: w.1 :: xs ∧ Str.join sp_ xs = nText w.2 ∧ (∀ x ∈ xs, 32 ∉ Tx.tl x) := by
  obtain ⟨xs, k1, k2, k3⟩ := tokens (Tx.tl (nText w.2))
  refine ⟨xs, k1, split_sp ?_ (by simp) fun x hx => ?_, Tx.ext k3, k2⟩
  · cases xs with
    | nil => exact absurd rfl k1
    | cons y ys =>
      rw [Tx.tl_join_cons, Tx.tl_join_cons, k3]
      unfold wLine
      rw [Tx.tl_app, Tx.tl_app, Tx.tl_app]
      show [119, 105, 108, 108, 32] ++ Tx.tl w.1 ++ [32] ++ Tx.tl (nText w.2) = [119, 105, 108, 108] ++ ([32] ++ (Tx.tl w.1 ++ ([32] ++ Tx.tl (nText w.2))))
      simp
  · rcases List.mem_cons.mp hx with rfl | hx
    · simp [Tx.tl]
    · rcases List.mem_cons.mp hx with rfl | hx
      · exact no_sp_name h1
      · exact k2 x hx
theorem join_lens (sep : Str) : ∀ {xs : List Str}, xs ≠ [] → (xs.map (·.length)).sum + xs.length * sep.length = (Str.join sep xs).length + sep.length
  | [], h => absurd rfl h
  | [x], _ => by
    show x.length + 0 + 1 * sep.length = x.length + sep.length
    omega
  | x :: y :: r, _ => by
    have i1 := join_lens sep (xs := y :: r) (by simp)
    have e : (Str.join sep (x :: y :: r)).length = x.length + (sep.length + (Str.join sep (y :: r)).length) := by
      rw [← Tx.tl_len, Tx.tl_join_cons, List.length_append, List.length_append, Tx.tl_len, Tx.tl_len, Tx.tl_len]
    rw [e, List.map_cons, List.sum_cons, List.length_cons, Nat.add_mul, Nat.one_mul]
    omega
theorem all_false {D : Cl} {α : Type} {xs : List α} {m : Mem} (h : xs ≠ []) : biO D .all (.lst (xs.map fun _ => .bl false)) m = .ok (.bl false) m := by
  have e : (xs.map fun _ => PV.bl false).mapM truth = some (xs.map fun _ => false) := by
    clear h
    induction xs with
    | nil => rfl
    | cons a r ih =>
      rw [List.map_cons, List.mapM_cons, ih]
      rfl
  show Out.of (((xs.map fun _ => PV.bl false).mapM truth).map fun bs => PV.bl (bs.all id)) m = _
  rw [e]
  have : (xs.map fun _ => false).all id = false := by
    cases xs with
    | nil => exact absurd rfl h
    | cons _ _ => rfl
  rw [Option.map_some, this]
  rfl
/-- a name is no number -/
theorem no_num {n : Nat} {x : Str} {m : Mem} (h : nameB x = true) : RG (n + 1) 5 [.str x, .int 10] m = .ok .non m := by
  have ⟨h1, h2⟩ := name_len h
  refine wp_eq (call_wp (F := (2, 3, g5 100000)) rfl rfl ?_)
  have l1 : biO (DG n) .len (.str x) m = .ok (.int x.length) m := by
    show Out.of (if x.length ≤ 100000 then some (PV.int x.length) else none) m = _
    rw [if_pos (by omega)]
    rfl
  have c1 : cmpop .lt (.int 0) (.int x.length) = some true := by
    show some (decide ((0 : Int) < x.length)) = _
    rw [decide_eq_true (by omega)]
  have c2 : cmpop .le (.int x.length) (.int 10) = some true := by
    show some (decide ((x.length : Int) ≤ 10)) = _
    rw [decide_eq_true (by omega)]
  have k1 : (decide (x.length ≤ 100000)) = true := decide_eq_true (by omega)
  try simp only [Ev.v0, Ev.vs, Ev.kk, Ev.bin, Ev.cmp, Ev.bok, Ev.ofs, Ev.test, Ev.iteE, Ev.val, Ev.nt, Ev.an, Ev.orE, Ev.tt, Ev.enil, Ev.econs, Ev.tup, Ev.lst, Ev.fz, Ev.cell, Ev.ix, Ev.call, Ev.bi, Ev.bi2, Ev.isi, Ev.m1, Ev.attr, Ev.sl, Ev.lof, Ev.srt, Ev.chain, Ev.gv0, Ev.gvs, Ev.gt, Ev.gnil, Ev.gcons, Ev.asg, Ev.setix, Ev.ex, Ev.ret, Ev.iff, Ev.forr, Ev.snil, Ev.scons, Ev.iseq, Ev.irange, Ev.vwI, Ev.vwS, Ev.vwB, Ev.vwN, Ev.vwL, Ev.vwT, Ev.vwO, Ev.asb, Ev.ckT, Ev.addI, Ev.subI, Ev.ltI, Ev.leI, Ev.gtI, Ev.geI, Ev.eqI, Ev.neI, Ev.intI, Ev.absI, Ev.lenL, Ev.lenT, Ev.lenC, Ev.strS, Ev.tupL, Ev.tupT, Ev.po0, Ev.poi, Ev.slL, Ev.setf, Ev.make, Ev.callk, Ev.meth, Ev.ienum, Ev.dnew, Ev.ddis, Ev.dof, Ev.dcm, Ev.rev1, Ev.dget2, Ev.irev, Ev.lc, Ev.lcf, Ev.forf, Ev.wi0, Ev.wi1, List.set_cons_succ, List.set_cons_zero, Co.bind_assoc, List.map_cons, List.map_nil, List.cons_append, List.nil_append, List.length_cons, List.length_nil, List.replicate_succ, List.replicate_zero, Nat.reduceAdd, Nat.reduceSub, Nat.reduceLeDiff, decide_true, wp_ok, g5, l1, c1, c2, k1, Option.map_some, Bool.not_true]
  refine wp_then (lcFx_wp (fun _ => .bl false) fun q hq => ?_) fun ys m1 ⟨e1, e2⟩ => ?_
  · obtain ⟨c, hc, rfl⟩ := List.mem_map.mp hq
    have hc2 := name_chars h c hc
    have hcm : cmpV (DG n) .mem (.str ⟨#[c]⟩) (.str (sx [48, 49, 50, 51, 52, 53, 54, 55, 56, 57])) m = .ok (.bl false) m := by
      show Out.of ((some (decide (c ∈ [48, 49, 50, 51, 52, 53, 54, 55, 56, 57]))).map PV.bl) m = _
      rw [decide_eq_false (by simp; omega)]
      rfl
    try simp only [Ev.v0, Ev.vs, Ev.kk, Ev.bin, Ev.cmp, Ev.bok, Ev.ofs, Ev.test, Ev.iteE, Ev.val, Ev.nt, Ev.an, Ev.orE, Ev.tt, Ev.enil, Ev.econs, Ev.tup, Ev.lst, Ev.fz, Ev.cell, Ev.ix, Ev.call, Ev.bi, Ev.bi2, Ev.isi, Ev.m1, Ev.attr, Ev.sl, Ev.lof, Ev.srt, Ev.chain, Ev.gv0, Ev.gvs, Ev.gt, Ev.gnil, Ev.gcons, Ev.asg, Ev.setix, Ev.ex, Ev.ret, Ev.iff, Ev.forr, Ev.snil, Ev.scons, Ev.iseq, Ev.irange, Ev.vwI, Ev.vwS, Ev.vwB, Ev.vwN, Ev.vwL, Ev.vwT, Ev.vwO, Ev.asb, Ev.ckT, Ev.addI, Ev.subI, Ev.ltI, Ev.leI, Ev.gtI, Ev.geI, Ev.eqI, Ev.neI, Ev.intI, Ev.absI, Ev.lenL, Ev.lenT, Ev.lenC, Ev.strS, Ev.tupL, Ev.tupT, Ev.po0, Ev.poi, Ev.slL, Ev.setf, Ev.make, Ev.callk, Ev.meth, Ev.ienum, Ev.dnew, Ev.ddis, Ev.dof, Ev.dcm, Ev.rev1, Ev.dget2, Ev.irev, Ev.lc, Ev.lcf, Ev.forf, Ev.wi0, Ev.wi1, List.set_cons_succ, List.set_cons_zero, Co.bind_assoc, List.map_cons, List.map_nil, List.cons_append, List.nil_append, List.length_cons, List.length_nil, List.replicate_succ, List.replicate_zero, Nat.reduceAdd, Nat.reduceSub, Nat.reduceLeDiff, decide_true, wp_ok, hcm]
  · subst e1 e2
    have hne : (x.cps.toList.map fun c => PV.str ⟨#[c]⟩) ≠ [] := fun e => by
      have := congrArg List.length e
      have h3 : x.cps.toList.length = x.length := by simp [Str.length]
      rw [List.length_map, h3] at this
      simp at this
      omega
    try simp only [Ev.v0, Ev.vs, Ev.kk, Ev.bin, Ev.cmp, Ev.bok, Ev.ofs, Ev.test, Ev.iteE, Ev.val, Ev.nt, Ev.an, Ev.orE, Ev.tt, Ev.enil, Ev.econs, Ev.tup, Ev.lst, Ev.fz, Ev.cell, Ev.ix, Ev.call, Ev.bi, Ev.bi2, Ev.isi, Ev.m1, Ev.attr, Ev.sl, Ev.lof, Ev.srt, Ev.chain, Ev.gv0, Ev.gvs, Ev.gt, Ev.gnil, Ev.gcons, Ev.asg, Ev.setix, Ev.ex, Ev.ret, Ev.iff, Ev.forr, Ev.snil, Ev.scons, Ev.iseq, Ev.irange, Ev.vwI, Ev.vwS, Ev.vwB, Ev.vwN, Ev.vwL, Ev.vwT, Ev.vwO, Ev.asb, Ev.ckT, Ev.addI, Ev.subI, Ev.ltI, Ev.leI, Ev.gtI, Ev.geI, Ev.eqI, Ev.neI, Ev.intI, Ev.absI, Ev.lenL, Ev.lenT, Ev.lenC, Ev.strS, Ev.tupL, Ev.tupT, Ev.po0, Ev.poi, Ev.slL, Ev.setf, Ev.make, Ev.callk, Ev.meth, Ev.ienum, Ev.dnew, Ev.ddis, Ev.dof, Ev.dcm, Ev.rev1, Ev.dget2, Ev.irev, Ev.lc, Ev.lcf, Ev.forf, Ev.wi0, Ev.wi1, List.set_cons_succ, List.set_cons_zero, Co.bind_assoc, List.map_cons, List.map_nil, List.cons_append, List.nil_append, List.length_cons, List.length_nil, List.replicate_succ, List.replicate_zero, Nat.reduceAdd, Nat.reduceSub, Nat.reduceLeDiff, decide_true, wp_ok, all_false hne, Bool.not_false]
    exact ⟨trivial, trivial⟩
end My

end P_Xn
section P_Xo
set_option Elab.async false
set_option linter.all false
set_option maxRecDepth 100000
set_option maxHeartbeats 4000000
namespace My
open Co
open PySem (Str)
theorem atI_nat {α : Type} {xs : List α} {i : Nat} (h : i < xs.length) : L2.atI xs (i : Int) = some xs[i] := by
  unfold L2.atI L2.ixN
  rw [if_pos (Int.natCast_nonneg i), if_pos (by omega)]
  exact List.getElem?_eq_getElem h
theorem cut_drop {α : Type} {xs : List α} {i : Int} (h : 0 ≤ i) : cutP xs (some i) none = xs.drop i.toNat := by
  unfold cutP
  open L2 PySem in unfold HT.sIx
  dsimp only
  rw [if_neg (by omega)]
  by_cases hi : i.toNat ≤ xs.length
  · rw [Nat.min_eq_left hi, List.take_of_length_le (by simp)]
  · rw [Nat.min_eq_right (by omega), List.drop_of_length_le (Nat.le_refl _), List.drop_of_length_le (by omega)]
    exact List.take_nil
theorem eqK {D : Cl} {x y : Str} {m : Mem} (hx : pl 0 (.str x) = true) (hy : pl 0 (.str y) = true) : cmpV D .eq (.str x) (.str y) m = .ok (.bl (decide (x = y))) m := by
  obtain ⟨b, c1, c2, c3⟩ := eq_pl hx hy (by decide) (by decide)
  have hb : b = decide (x = y) := by
    cases b with
    | true =>
      have := c3.mp rfl
      injection this with this
      exact (decide_eq_true this).symm
    | false =>
      refine (decide_eq_false fun e => ?_).symm
      have := c3.mpr (by rw [e])
      cases this
  subst hb
  exact cmpV_pl c1 (by intro _ _ _ e; cases e)
theorem kwPW {D : Cl} {m : Mem} : cmpV D .eq (.str personW) (.str willW) m = .ok (.bl false) m := by rw [eqK (by decide +kernel) (by decide +kernel)]; rfl
theorem kwPP {D : Cl} {m : Mem} : cmpV D .eq (.str personW) (.str personW) m = .ok (.bl true) m := by rw [eqK (by decide +kernel) (by decide +kernel)]; rfl
theorem kwWW {D : Cl} {m : Mem} : cmpV D .eq (.str willW) (.str willW) m = .ok (.bl true) m := by rw [eqK (by decide +kernel) (by decide +kernel)]; rfl
theorem kwFW {D : Cl} {m : Mem} : cmpV D .eq (.str firstW) (.str willW) m = .ok (.bl false) m := by rw [eqK (by decide +kernel) (by decide +kernel)]; rfl
theorem kwFP {D : Cl} {m : Mem} : cmpV D .eq (.str firstW) (.str personW) m = .ok (.bl false) m := by rw [eqK (by decide +kernel) (by decide +kernel)]; rfl
theorem kwFF {D : Cl} {m : Mem} : cmpV D .eq (.str firstW) (.str firstW) m = .ok (.bl true) m := by rw [eqK (by decide +kernel) (by decide +kernel)]; rfl
theorem ix3a {x y z : PV} : ixop (.lst [x, y, z]) (.int 0) = some x := rfl
theorem ix3b {x y z : PV} : ixop (.lst [x, y, z]) (.int 1) = some y := rfl
theorem ix3c {x y z : PV} : ixop (.lst [x, y, z]) (.int 2) = some z := rfl
theorem recSp {m : Mem} {x : Str} : recOk .split m (.str x) = true ∧ recOk .join m (.str x) = true := ⟨rfl, rfl⟩
theorem line_p {n : Nat} {p : Str × Int} {m : Mem} (h1 : nameB p.1 = true) (h2 : p.2 ∈ amts) : RG (n + 2) 37 [.str (pLine p)] m = .ok (.tup [.str personW, encP p]) m := by
  refine wp_eq (call_wp (F := (1, 4, g37 100000)) rfl rfl ?_)
  have hl := pLine_len h1 h2
  have hs : splitO (.str (pLine p)) (.str sp_) m = .ok (.lst [.str personW, .str p.1, .str (amtS p.2)]) m := by
    simp only [splitO, decide_eq_true (show (pLine p).length ≤ 100000 by omega), split_p h1 h2]
    rfl
  have e3 : (!decide (((0 + 1 + 1 + 1 : Nat) : Int) = 3)) = false := rfl
  have nn : ∀ m, cmpV (DG (n + 1)) .notN (.int p.2) .non m = .ok (.bl true) m := fun _ => rfl
  try simp only [Ev.v0, Ev.vs, Ev.kk, Ev.bin, Ev.cmp, Ev.bok, Ev.ofs, Ev.test, Ev.iteE, Ev.val, Ev.nt, Ev.an, Ev.orE, Ev.tt, Ev.enil, Ev.econs, Ev.tup, Ev.lst, Ev.fz, Ev.cell, Ev.ix, Ev.call, Ev.bi, Ev.bi2, Ev.isi, Ev.m1, Ev.attr, Ev.sl, Ev.lof, Ev.srt, Ev.chain, Ev.gv0, Ev.gvs, Ev.gt, Ev.gnil, Ev.gcons, Ev.asg, Ev.setix, Ev.ex, Ev.ret, Ev.iff, Ev.forr, Ev.snil, Ev.scons, Ev.iseq, Ev.irange, Ev.vwI, Ev.vwS, Ev.vwB, Ev.vwN, Ev.vwL, Ev.vwT, Ev.vwO, Ev.asb, Ev.ckT, Ev.addI, Ev.subI, Ev.ltI, Ev.leI, Ev.gtI, Ev.geI, Ev.eqI, Ev.neI, Ev.intI, Ev.absI, Ev.lenL, Ev.lenT, Ev.lenC, Ev.strS, Ev.tupL, Ev.tupT, Ev.po0, Ev.poi, Ev.slL, Ev.setf, Ev.make, Ev.callk, Ev.meth, Ev.ienum, Ev.dnew, Ev.ddis, Ev.dof, Ev.dcm, Ev.rev1, Ev.dget2, Ev.irev, Ev.lc, Ev.lcf, Ev.forf, Ev.wi0, Ev.wi1, List.set_cons_succ, List.set_cons_zero, Co.bind_assoc, List.map_cons, List.map_nil, List.cons_append, List.nil_append, List.length_cons, List.length_nil, List.replicate_succ, List.replicate_zero, Nat.reduceAdd, Nat.reduceSub, Nat.reduceLeDiff, decide_true, wp_ok, g37, recSp.1, m1O, hs, ix3a, ix3b, ix3c, kwPW, kwPP, e3, dR, is_name_ok h1, num_amt h2, nn, Bool.not_true]
  exact ⟨trivial, trivial⟩
theorem line_f {n : Nat} {p : Str × Str} {m : Mem} (h1 : nameB p.1 = true) (h2 : nameB p.2 = true) : RG (n + 2) 37 [.str (fLine p)] m = .ok (.tup [.str firstW, encF p]) m := by
  refine wp_eq (call_wp (F := (1, 4, g37 100000)) rfl rfl ?_)
  have hl := fLine_len h1 h2
  have hs : splitO (.str (fLine p)) (.str sp_) m = .ok (.lst [.str firstW, .str p.1, .str p.2]) m := by
    simp only [splitO, decide_eq_true (show (fLine p).length ≤ 100000 by omega), split_f h1 h2]
    rfl
  have e3 : (!decide (((0 + 1 + 1 + 1 : Nat) : Int) = 3)) = false := rfl
  try simp only [Ev.v0, Ev.vs, Ev.kk, Ev.bin, Ev.cmp, Ev.bok, Ev.ofs, Ev.test, Ev.iteE, Ev.val, Ev.nt, Ev.an, Ev.orE, Ev.tt, Ev.enil, Ev.econs, Ev.tup, Ev.lst, Ev.fz, Ev.cell, Ev.ix, Ev.call, Ev.bi, Ev.bi2, Ev.isi, Ev.m1, Ev.attr, Ev.sl, Ev.lof, Ev.srt, Ev.chain, Ev.gv0, Ev.gvs, Ev.gt, Ev.gnil, Ev.gcons, Ev.asg, Ev.setix, Ev.ex, Ev.ret, Ev.iff, Ev.forr, Ev.snil, Ev.scons, Ev.iseq, Ev.irange, Ev.vwI, Ev.vwS, Ev.vwB, Ev.vwN, Ev.vwL, Ev.vwT, Ev.vwO, Ev.asb, Ev.ckT, Ev.addI, Ev.subI, Ev.ltI, Ev.leI, Ev.gtI, Ev.geI, Ev.eqI, Ev.neI, Ev.intI, Ev.absI, Ev.lenL, Ev.lenT, Ev.lenC, Ev.strS, Ev.tupL, Ev.tupT, Ev.po0, Ev.poi, Ev.slL, Ev.setf, Ev.make, Ev.callk, Ev.meth, Ev.ienum, Ev.dnew, Ev.ddis, Ev.dof, Ev.dcm, Ev.rev1, Ev.dget2, Ev.irev, Ev.lc, Ev.lcf, Ev.forf, Ev.wi0, Ev.wi1, List.set_cons_succ, List.set_cons_zero, Co.bind_assoc, List.map_cons, List.map_nil, List.cons_append, List.nil_append, List.length_cons, List.length_nil, List.replicate_succ, List.replicate_zero, Nat.reduceAdd, Nat.reduceSub, Nat.reduceLeDiff, decide_true, wp_ok, g37, recSp.1, m1O, hs, ix3a, ix3b, ix3c, kwFW, kwFP, kwFF, e3, dR, is_name_ok h1, is_name_ok h2, no_num h2, Bool.not_true]
  exact ⟨trivial, trivial⟩
theorem will_in_ok {n : Nat} {ws : Ws} {m : Mem} (h : WsOk ws) : wp (RG (n + 6) 36 [.str (nText ws)] m) fun v m' => v = objW ws ∧ ∃ l, m' = m ++ l := by
  refine call_wp (F := (1, 1, g36 100000)) rfl rfl ?_
  have ⟨hs, ho⟩ := srtWs_ok h
  have pick : pickN 2 0 [PV.cls 0, .str (nText ws)] [] [Ar.i 0, Ar.i 1] = some [PV.cls 0, .str (nText ws)] := rfl
  try simp only [Ev.v0, Ev.vs, Ev.kk, Ev.bin, Ev.cmp, Ev.bok, Ev.ofs, Ev.test, Ev.iteE, Ev.val, Ev.nt, Ev.an, Ev.orE, Ev.tt, Ev.enil, Ev.econs, Ev.tup, Ev.lst, Ev.fz, Ev.cell, Ev.ix, Ev.call, Ev.bi, Ev.bi2, Ev.isi, Ev.m1, Ev.attr, Ev.sl, Ev.lof, Ev.srt, Ev.chain, Ev.gv0, Ev.gvs, Ev.gt, Ev.gnil, Ev.gcons, Ev.asg, Ev.setix, Ev.ex, Ev.ret, Ev.iff, Ev.forr, Ev.snil, Ev.scons, Ev.iseq, Ev.irange, Ev.vwI, Ev.vwS, Ev.vwB, Ev.vwN, Ev.vwL, Ev.vwT, Ev.vwO, Ev.asb, Ev.ckT, Ev.addI, Ev.subI, Ev.ltI, Ev.leI, Ev.gtI, Ev.geI, Ev.eqI, Ev.neI, Ev.intI, Ev.absI, Ev.lenL, Ev.lenT, Ev.lenC, Ev.strS, Ev.tupL, Ev.tupT, Ev.po0, Ev.poi, Ev.slL, Ev.setf, Ev.make, Ev.callk, Ev.meth, Ev.ienum, Ev.dnew, Ev.ddis, Ev.dof, Ev.dcm, Ev.rev1, Ev.dget2, Ev.irev, Ev.lc, Ev.lcf, Ev.forf, Ev.wi0, Ev.wi1, List.set_cons_succ, List.set_cons_zero, Co.bind_assoc, List.map_cons, List.map_nil, List.cons_append, List.nil_append, List.length_cons, List.length_nil, List.replicate_succ, List.replicate_zero, Nat.reduceAdd, Nat.reduceSub, Nat.reduceLeDiff, decide_true, wp_ok, g36, Ev.callk, pick, dR]
  refine wp_then (read_ok (n := n) (m := m) hs) fun v m1 ⟨hv, l, hm⟩ => ?_
  subst hv
  rw [ho]
  try simp only [Ev.v0, Ev.vs, Ev.kk, Ev.bin, Ev.cmp, Ev.bok, Ev.ofs, Ev.test, Ev.iteE, Ev.val, Ev.nt, Ev.an, Ev.orE, Ev.tt, Ev.enil, Ev.econs, Ev.tup, Ev.lst, Ev.fz, Ev.cell, Ev.ix, Ev.call, Ev.bi, Ev.bi2, Ev.isi, Ev.m1, Ev.attr, Ev.sl, Ev.lof, Ev.srt, Ev.chain, Ev.gv0, Ev.gvs, Ev.gt, Ev.gnil, Ev.gcons, Ev.asg, Ev.setix, Ev.ex, Ev.ret, Ev.iff, Ev.forr, Ev.snil, Ev.scons, Ev.iseq, Ev.irange, Ev.vwI, Ev.vwS, Ev.vwB, Ev.vwN, Ev.vwL, Ev.vwT, Ev.vwO, Ev.asb, Ev.ckT, Ev.addI, Ev.subI, Ev.ltI, Ev.leI, Ev.gtI, Ev.geI, Ev.eqI, Ev.neI, Ev.intI, Ev.absI, Ev.lenL, Ev.lenT, Ev.lenC, Ev.strS, Ev.tupL, Ev.tupT, Ev.po0, Ev.poi, Ev.slL, Ev.setf, Ev.make, Ev.callk, Ev.meth, Ev.ienum, Ev.dnew, Ev.ddis, Ev.dof, Ev.dcm, Ev.rev1, Ev.dget2, Ev.irev, Ev.lc, Ev.lcf, Ev.forf, Ev.wi0, Ev.wi1, List.set_cons_succ, List.set_cons_zero, Co.bind_assoc, List.map_cons, List.map_nil, List.cons_append, List.nil_append, List.length_cons, List.length_nil, List.replicate_succ, List.replicate_zero, Nat.reduceAdd, Nat.reduceSub, Nat.reduceLeDiff, decide_true, wp_ok]
  exact ⟨trivial, l, hm⟩
theorem line_w {n : Nat} {w : Str × Ws} {m : Mem} (h1 : nameB w.1 = true) (h2 : WsOk w.2) : wp (RG (n + 7) 37 [.str (wLine w)] m) fun v m' => v = .tup [.str willW, encW w] ∧ ∃ l, m' = m ++ l := by
  refine call_wp (F := (1, 4, g37 100000)) rfl rfl ?_
  have hl := wLine_len h1 h2
  obtain ⟨xs, k1, k2, k3, k4⟩ := split_wl (w := w) h1
  have hs : splitO (.str (wLine w)) (.str sp_) m = .ok (.lst (.str willW :: .str w.1 :: xs.map .str)) m := by
    simp only [splitO, decide_eq_true (show (wLine w).length ≤ 100000 by omega), k2]
    rfl
  have hpos : 0 < xs.length := List.length_pos_iff.mpr k1
  have i0 : ixop (.lst (.str willW :: .str w.1 :: xs.map .str)) (.int 0) = some (.str willW) := by
    show L2.atI _ ((0 : Nat) : Int) = _
    rw [atI_nat (by simp)]
    rfl
  have i1 : ixop (.lst (.str willW :: .str w.1 :: xs.map .str)) (.int 1) = some (.str w.1) := by
    show L2.atI _ ((1 : Nat) : Int) = _
    rw [atI_nat (by simp)]
    rfl
  have e3 : decide (2 < (((xs.map PV.str).length + 1 + 1 : Nat) : Int)) = true := decide_eq_true (by rw [List.length_map]; omega)
  have hc : cutP (PV.str willW :: .str w.1 :: xs.map .str) (some 2) none = xs.map .str := cut_drop (by decide)
  have hj : joinO (.str sp_) (.lst (xs.map .str)) m = .ok (.str (nText w.2)) m := by
    rw [← k3]
    refine join_ok (ss := xs) (by show some _ = some _; rfl) ?_
    have q := join_lens sp_ k1
    have hn : (nText w.2).length ≤ 600 := wText_len (srtWs_ok h2).1
    rw [k3] at q
    have e1 : (sp_).length = 1 := rfl
    rw [e1] at q ⊢
    omega
  have nn : ∀ m, cmpV (DG (n + 6)) .isN (objW w.2) .non m = .ok (.bl false) m := fun _ => rfl
  try simp only [Ev.v0, Ev.vs, Ev.kk, Ev.bin, Ev.cmp, Ev.bok, Ev.ofs, Ev.test, Ev.iteE, Ev.val, Ev.nt, Ev.an, Ev.orE, Ev.tt, Ev.enil, Ev.econs, Ev.tup, Ev.lst, Ev.fz, Ev.cell, Ev.ix, Ev.call, Ev.bi, Ev.bi2, Ev.isi, Ev.m1, Ev.attr, Ev.sl, Ev.lof, Ev.srt, Ev.chain, Ev.gv0, Ev.gvs, Ev.gt, Ev.gnil, Ev.gcons, Ev.asg, Ev.setix, Ev.ex, Ev.ret, Ev.iff, Ev.forr, Ev.snil, Ev.scons, Ev.iseq, Ev.irange, Ev.vwI, Ev.vwS, Ev.vwB, Ev.vwN, Ev.vwL, Ev.vwT, Ev.vwO, Ev.asb, Ev.ckT, Ev.addI, Ev.subI, Ev.ltI, Ev.leI, Ev.gtI, Ev.geI, Ev.eqI, Ev.neI, Ev.intI, Ev.absI, Ev.lenL, Ev.lenT, Ev.lenC, Ev.strS, Ev.tupL, Ev.tupT, Ev.po0, Ev.poi, Ev.slL, Ev.setf, Ev.make, Ev.callk, Ev.meth, Ev.ienum, Ev.dnew, Ev.ddis, Ev.dof, Ev.dcm, Ev.rev1, Ev.dget2, Ev.irev, Ev.lc, Ev.lcf, Ev.forf, Ev.wi0, Ev.wi1, List.set_cons_succ, List.set_cons_zero, Co.bind_assoc, List.map_cons, List.map_nil, List.cons_append, List.nil_append, List.length_cons, List.length_nil, List.replicate_succ, List.replicate_zero, Nat.reduceAdd, Nat.reduceSub, Nat.reduceLeDiff, decide_true, wp_ok, g37, recSp.1, recSp.2, m1O, hs, i0, i1, kwWW, e3, dR, is_name_ok h1, partO, slop, hc, hj]
  refine wp_then (will_in_ok (n := n) (m := m) h2) fun v m1 ⟨hv, l, hm⟩ => ?_
  subst hv
  try simp only [Ev.v0, Ev.vs, Ev.kk, Ev.bin, Ev.cmp, Ev.bok, Ev.ofs, Ev.test, Ev.iteE, Ev.val, Ev.nt, Ev.an, Ev.orE, Ev.tt, Ev.enil, Ev.econs, Ev.tup, Ev.lst, Ev.fz, Ev.cell, Ev.ix, Ev.call, Ev.bi, Ev.bi2, Ev.isi, Ev.m1, Ev.attr, Ev.sl, Ev.lof, Ev.srt, Ev.chain, Ev.gv0, Ev.gvs, Ev.gt, Ev.gnil, Ev.gcons, Ev.asg, Ev.setix, Ev.ex, Ev.ret, Ev.iff, Ev.forr, Ev.snil, Ev.scons, Ev.iseq, Ev.irange, Ev.vwI, Ev.vwS, Ev.vwB, Ev.vwN, Ev.vwL, Ev.vwT, Ev.vwO, Ev.asb, Ev.ckT, Ev.addI, Ev.subI, Ev.ltI, Ev.leI, Ev.gtI, Ev.geI, Ev.eqI, Ev.neI, Ev.intI, Ev.absI, Ev.lenL, Ev.lenT, Ev.lenC, Ev.strS, Ev.tupL, Ev.tupT, Ev.po0, Ev.poi, Ev.slL, Ev.setf, Ev.make, Ev.callk, Ev.meth, Ev.ienum, Ev.dnew, Ev.ddis, Ev.dof, Ev.dcm, Ev.rev1, Ev.dget2, Ev.irev, Ev.lc, Ev.lcf, Ev.forf, Ev.wi0, Ev.wi1, List.set_cons_succ, List.set_cons_zero, Co.bind_assoc, List.map_cons, List.map_nil, List.cons_append, List.nil_append, List.length_cons, List.length_nil, List.replicate_succ, List.replicate_zero, Nat.reduceAdd, Nat.reduceSub, Nat.reduceLeDiff, decide_true, wp_ok, nn, i1]
  exact ⟨trivial, l, hm⟩
end My

end P_Xo
section P_Xp
set_option Elab.async false
set_option linter.all false
set_option maxRecDepth 100000
set_option maxHeartbeats 4000000
namespace My
open Co
open PySem (Str)
theorem one_nl : Tx.OneAt nl_ 10 0 := ⟨rfl, fun t h => by rcases t with _ | t <;> simp [Tx.tl] at h ⊢⟩
theorem split_f2 {f : Fam} (hf : FamOk f) (ha : AmOk f) : PySem.Txt.split (fText f) nl_ = fLines f :=
  Tx.split_join one_nl (by decide +kernel) (by
    have := hf.ppl.ne
    intro e
    have h2 := congrArg List.length e
    have h3 := List.length_pos_iff.mpr this
    unfold fLines at h2
    rw [List.length_append, List.length_map, List.length_nil] at h2
    omega) fun x hx hc => (line_chars hf ha x hx 10 hc).2 rfl
theorem fText_len {f : Fam} (hf : FamOk f) (ha : AmOk f) : (fText f).length ≤ 100000 := by
  have h0 := join_len nl_ (fLines f) 611 (line_len hf ha)
  have h1 := lines_few hf
  have h3 : (fLines f).length * (611 + (nl_).length) ≤ 120 * 612 := Nat.mul_le_mul_right 612 h1
  exact Nat.le_trans h0 (Nat.le_trans h3 (by decide))
abbrev kws : List L2.Key := [Sum.inr personW, Sum.inr willW, Sum.inr firstW]
def itemsOf (k : Nat) (ls : List Str) : List PV := ((ls.map PV.str).zipIdx k).map fun q => .tup [.int (q.2 : Int), q.1]
theorem items_cons {k : Nat} {x : Str} {ls : List Str} : itemsOf k (x :: ls) = .tup [.int (k : Int), .str x] :: itemsOf (k + 1) ls := by
  unfold itemsOf
  rw [List.map_cons, List.zipIdx_cons, List.map_cons]
/-- what is read till now -/
structure RdI (m : Mem) (f : Fam) (c t : PV) (r : List PV) (env : Co.Env) (mm : Mem) : Prop where
  st : ∃ (dP rP : List (Str × Int)) (dW rW : List (Str × Ws)) (dF rF : List (Str × Str)) (k : Nat) (s : Int) (x4 x5 x6 x7 x8 : Option PV),
    f.P = dP ++ rP ∧ f.W = dW ++ rW ∧ f.F = dF ++ rF ∧ r = itemsOf k (rP.map pLine ++ (rW.map wLine ++ rF.map fLine)) ∧
    env = [some c, some t, some (.ref (m.length + 3)), some (.int s), x4, x5, x6, x7, x8] ∧ (rP ≠ [] → s ≤ 0) ∧ (rW ≠ [] → s ≤ 1) ∧ s ≤ 2 ∧
    mm[m.length]? = some (.lst (dP.map encP)) ∧ mm[m.length + 1]? = some (.lst (dW.map encW)) ∧ mm[m.length + 2]? = some (.lst (dF.map encF)) ∧ mm[m.length + 3]? = some (.dic kws [.ref m.length, .ref (m.length + 1), .ref (m.length + 2)])
  old : mm.take m.length = m
theorem rd_app {m : Mem} {f : Fam} {c t : PV} {k a b : Nat} {xs : List PV} : True := trivial
theorem idxP {m : Mem} : indexO (.lst [.str personW, .str willW, .str firstW]) (.str personW) m = .ok (.int 0) m := by kernel_rfl
theorem idxW {m : Mem} : indexO (.lst [.str personW, .str willW, .str firstW]) (.str willW) m = .ok (.int 1) m := by kernel_rfl
theorem idxF {m : Mem} : indexO (.lst [.str personW, .str willW, .str firstW]) (.str firstW) m = .ok (.int 2) m := by kernel_rfl
theorem inK {D : Cl} {d : Nat} {m : Mem} {vs : List PV} {x : Str} (h : m[d]? = some (.dic kws vs)) (hx : (dvat kws vs (.inr x)).isSome = true) : cmpV D .mem (.str x) (.ref d) m = .ok (.bl true) m := by
  refine cmpV_pl ?_ (by intro _ _ _ e; cases e)
  rw [Ev.vwD h]
  show some ((dvat kws vs (.inr x)).isSome) = _
  rw [hx]
theorem set_take {m mm : Mem} {i : Nat} {c : Cell} (h : mm.take m.length = m) (hi : m.length ≤ i) : (mm.set i c).take m.length = m := by
  rw [List.take_set_of_le hi, h]
theorem app_take {m mm l : Mem} (h : mm.take m.length = m) (hl : m.length ≤ mm.length) : (mm ++ l).take m.length = m := by
  rw [List.take_append_of_le_length hl, h]
theorem fread_ok {n : Nat} {f : Fam} {m : Mem} (hf : FamOk f) (ha : AmOk f) : wp (RG (n + 8) 32 [.cls 1, .str (fText f)] m) fun v m' => v = objF f ∧ ∃ l, m' = m ++ l := by
  refine call_wp (F := (2, 9, g32 100000)) rfl rfl ?_
  have hs : ∀ m, splitO (.str (fText f)) (.str nl_) m = .ok (.lst ((fLines f).map .str)) m := fun m => by
    simp only [splitO, decide_eq_true (fText_len hf ha), split_f2 hf ha]
    rfl
  have hk3 : decide (3 = List.length kws) = true := rfl
  have hm0 : m ++ [Cell.lst []] ++ [Cell.lst []] ++ [Cell.lst []] ++ [Cell.dic kws [.ref m.length, .ref (m.length + 1), .ref (m.length + 1 + 1)]] = m ++ [.lst [], .lst [], .lst [], .dic kws [.ref m.length, .ref (m.length + 1), .ref (m.length + 2)]] := by simp
  have hlen0 : (m ++ [Cell.lst []]).length = m.length + 1 := by simp
  have hlen1 : (m ++ [Cell.lst []] ++ [Cell.lst []]).length = m.length + 1 + 1 := by simp
  have hlen2 : (m ++ [Cell.lst []] ++ [Cell.lst []] ++ [Cell.lst []]).length = m.length + 3 := by simp
  try simp only [Ev.v0, Ev.vs, Ev.kk, Ev.bin, Ev.cmp, Ev.bok, Ev.ofs, Ev.test, Ev.iteE, Ev.val, Ev.nt, Ev.an, Ev.orE, Ev.tt, Ev.enil, Ev.econs, Ev.tup, Ev.lst, Ev.fz, Ev.cell, Ev.ix, Ev.call, Ev.bi, Ev.bi2, Ev.isi, Ev.m1, Ev.attr, Ev.sl, Ev.lof, Ev.srt, Ev.chain, Ev.gv0, Ev.gvs, Ev.gt, Ev.gnil, Ev.gcons, Ev.asg, Ev.setix, Ev.ex, Ev.ret, Ev.iff, Ev.forr, Ev.snil, Ev.scons, Ev.iseq, Ev.irange, Ev.vwI, Ev.vwS, Ev.vwB, Ev.vwN, Ev.vwL, Ev.vwT, Ev.vwO, Ev.asb, Ev.ckT, Ev.addI, Ev.subI, Ev.ltI, Ev.leI, Ev.gtI, Ev.geI, Ev.eqI, Ev.neI, Ev.intI, Ev.absI, Ev.lenL, Ev.lenT, Ev.lenC, Ev.strS, Ev.tupL, Ev.tupT, Ev.po0, Ev.poi, Ev.slL, Ev.setf, Ev.make, Ev.callk, Ev.meth, Ev.ienum, Ev.dnew, Ev.ddis, Ev.dof, Ev.dcm, Ev.rev1, Ev.dget2, Ev.irev, Ev.lc, Ev.lcf, Ev.forf, Ev.wi0, Ev.wi1, List.set_cons_succ, List.set_cons_zero, Co.bind_assoc, List.map_cons, List.map_nil, List.cons_append, List.nil_append, List.length_cons, List.length_nil, List.replicate_succ, List.replicate_zero, Nat.reduceAdd, Nat.reduceSub, Nat.reduceLeDiff, decide_true, wp_ok, g32, hlen0, hlen1, hlen2, recSp.1, m1O, hs]
  have hit : ((fLines f).map PV.str).zipIdx.map (fun q => PV.tup [.int (q.2 : Int), q.1]) = itemsOf 0 (f.P.map pLine ++ (f.W.map wLine ++ f.F.map fLine)) := rfl
  rw [hit]
  refine wp_then (forFx_inv (I := RdI m f (.cls 1) (.str (fText f))) (Q := fun q mm => q.1 = .nx ∧ RdI m f (.cls 1) (.str (fText f)) [] q.2 mm) (fun x r env mm hI => ?_) (fun env mm hI => ⟨rfl, hI⟩) _ _ _ ⟨⟨[], f.P, [], f.W, [], f.F, 0, 0, none, none, none, none, none, rfl, rfl, rfl, rfl, rfl, fun _ => by decide, fun _ => by decide, by decide, by simp, by simp, by simp, by simp⟩, by simp⟩) fun q mm ⟨h1, hI⟩ => ?_
  · obtain ⟨⟨dP, rP, dW, rW, dF, rF, k, s, x4, x5, x6, x7, x8, eP, eW, eF, hr, rfl, sP, sW, s2, c0, c1, c2, c3⟩, hold⟩ := hI
    have hln : m.length + 3 < mm.length := (List.getElem?_eq_some_iff.mp c3).1
    have lo : lofO (.dic kws [.ref m.length, .ref (m.length + 1), .ref (m.length + 2)]) = some [.str personW, .str willW, .str firstW] := rfl
    have ri : ∀ m, recOk .index m (.lst [.str personW, .str willW, .str firstW]) = true := fun _ => rfl
    cases rP with
    | cons p rP =>
      rw [List.map_cons, List.cons_append, items_cons] at hr
      injection hr with hx hr
      subst hx hr
      have hp : p ∈ f.P := by rw [eP]; simp
      have hin := inK (D := DG (n + 7)) (x := personW) c3 (by kernel_rfl)
      have ixd : ixop (.dic kws [.ref m.length, .ref (m.length + 1), .ref (m.length + 2)]) (.str personW) = some (.ref m.length) := by kernel_rfl
      have hlt : decide ((0 : Int) < s) = false := decide_eq_false (by have := sP (by simp); omega)
      have hap := app_ref (y := encP p) c0 (by have := congrArg List.length eP; have := hf.ppl.few; rw [List.length_append] at *; rw [List.length_map]; omega) (by simp only [below, belows, Bool.and_self])
      try simp only [Ev.v0, Ev.vs, Ev.kk, Ev.bin, Ev.cmp, Ev.bok, Ev.ofs, Ev.test, Ev.iteE, Ev.val, Ev.nt, Ev.an, Ev.orE, Ev.tt, Ev.enil, Ev.econs, Ev.tup, Ev.lst, Ev.fz, Ev.cell, Ev.ix, Ev.call, Ev.bi, Ev.bi2, Ev.isi, Ev.m1, Ev.attr, Ev.sl, Ev.lof, Ev.srt, Ev.chain, Ev.gv0, Ev.gvs, Ev.gt, Ev.gnil, Ev.gcons, Ev.asg, Ev.setix, Ev.ex, Ev.ret, Ev.iff, Ev.forr, Ev.snil, Ev.scons, Ev.iseq, Ev.irange, Ev.vwI, Ev.vwS, Ev.vwB, Ev.vwN, Ev.vwL, Ev.vwT, Ev.vwO, Ev.asb, Ev.ckT, Ev.addI, Ev.subI, Ev.ltI, Ev.leI, Ev.gtI, Ev.geI, Ev.eqI, Ev.neI, Ev.intI, Ev.absI, Ev.lenL, Ev.lenT, Ev.lenC, Ev.strS, Ev.tupL, Ev.tupT, Ev.po0, Ev.poi, Ev.slL, Ev.setf, Ev.make, Ev.callk, Ev.meth, Ev.ienum, Ev.dnew, Ev.ddis, Ev.dof, Ev.dcm, Ev.rev1, Ev.dget2, Ev.irev, Ev.lc, Ev.lcf, Ev.forf, Ev.wi0, Ev.wi1, List.set_cons_succ, List.set_cons_zero, Co.bind_assoc, List.map_cons, List.map_nil, List.cons_append, List.nil_append, List.length_cons, List.length_nil, List.replicate_succ, List.replicate_zero, Nat.reduceAdd, Nat.reduceSub, Nat.reduceLeDiff, decide_true, wp_ok, dR, line_p (n := n + 5) (hf.ppl.nm p hp) (ha p hp), hin, Ev.vwD c3, lo, ri, idxP, hlt, ixd, (rec_ref c0).1, m1O, hap]
      refine ⟨⟨dP ++ [p], rP, dW, rW, dF, rF, k + 1, 0, _, _, _, _, _, by rw [eP]; simp, eW, eF, rfl, rfl, fun _ => by decide, fun _ => by decide, by decide, ?_, ?_, ?_, ?_⟩, set_take hold (Nat.le_refl _)⟩
      · rw [List.getElem?_set_self (by omega), List.map_append]; rfl
      · rw [List.getElem?_set_ne (by omega)]; exact c1
      · rw [List.getElem?_set_ne (by omega)]; exact c2
      · rw [List.getElem?_set_ne (by omega)]; exact c3
    | nil =>
      rw [List.map_nil, List.nil_append] at hr
      cases rW with
      | cons w rW =>
        rw [List.map_cons, List.cons_append, items_cons] at hr
        injection hr with hx hr
        subst hx hr
        have hw : w ∈ f.W := by rw [eW]; simp
        have hlt : decide ((1 : Int) < s) = false := decide_eq_false (by have := sW (by simp); omega)
        try simp only [Ev.v0, Ev.vs, Ev.kk, Ev.bin, Ev.cmp, Ev.bok, Ev.ofs, Ev.test, Ev.iteE, Ev.val, Ev.nt, Ev.an, Ev.orE, Ev.tt, Ev.enil, Ev.econs, Ev.tup, Ev.lst, Ev.fz, Ev.cell, Ev.ix, Ev.call, Ev.bi, Ev.bi2, Ev.isi, Ev.m1, Ev.attr, Ev.sl, Ev.lof, Ev.srt, Ev.chain, Ev.gv0, Ev.gvs, Ev.gt, Ev.gnil, Ev.gcons, Ev.asg, Ev.setix, Ev.ex, Ev.ret, Ev.iff, Ev.forr, Ev.snil, Ev.scons, Ev.iseq, Ev.irange, Ev.vwI, Ev.vwS, Ev.vwB, Ev.vwN, Ev.vwL, Ev.vwT, Ev.vwO, Ev.asb, Ev.ckT, Ev.addI, Ev.subI, Ev.ltI, Ev.leI, Ev.gtI, Ev.geI, Ev.eqI, Ev.neI, Ev.intI, Ev.absI, Ev.lenL, Ev.lenT, Ev.lenC, Ev.strS, Ev.tupL, Ev.tupT, Ev.po0, Ev.poi, Ev.slL, Ev.setf, Ev.make, Ev.callk, Ev.meth, Ev.ienum, Ev.dnew, Ev.ddis, Ev.dof, Ev.dcm, Ev.rev1, Ev.dget2, Ev.irev, Ev.lc, Ev.lcf, Ev.forf, Ev.wi0, Ev.wi1, List.set_cons_succ, List.set_cons_zero, Co.bind_assoc, List.map_cons, List.map_nil, List.cons_append, List.nil_append, List.length_cons, List.length_nil, List.replicate_succ, List.replicate_zero, Nat.reduceAdd, Nat.reduceSub, Nat.reduceLeDiff, decide_true, wp_ok, dR]
        refine wp_then (line_w (n := n) (hf.nmB _ (hf.wil.nm w hw)) (hf.wil.ok w hw)) fun v m1 ⟨hv, l, hm1⟩ => ?_
        subst hv
        have g : ∀ {i : Nat} {c : Cell}, mm[i]? = some c → m1[i]? = some c := fun h => by
          rw [hm1, List.getElem?_append_left (List.getElem?_eq_some_iff.mp h).1]; exact h
        have hold1 : m1.take m.length = m := by rw [hm1]; exact app_take hold (by omega)
        have hln1 : m.length + 3 < m1.length := (List.getElem?_eq_some_iff.mp (g c3)).1
        have hin := inK (D := DG (n + 7)) (x := willW) (g c3) (by kernel_rfl)
        have ixd : ixop (.dic kws [.ref m.length, .ref (m.length + 1), .ref (m.length + 2)]) (.str willW) = some (.ref (m.length + 1)) := by kernel_rfl
        have hap := app_ref (y := encW w) (g c1) (by have := congrArg List.length eW; have := hf.wil.few; rw [List.length_append] at *; rw [List.length_map]; omega) (by simp only [below, belows, bel_Ws, Bool.and_self])
        try simp only [Ev.v0, Ev.vs, Ev.kk, Ev.bin, Ev.cmp, Ev.bok, Ev.ofs, Ev.test, Ev.iteE, Ev.val, Ev.nt, Ev.an, Ev.orE, Ev.tt, Ev.enil, Ev.econs, Ev.tup, Ev.lst, Ev.fz, Ev.cell, Ev.ix, Ev.call, Ev.bi, Ev.bi2, Ev.isi, Ev.m1, Ev.attr, Ev.sl, Ev.lof, Ev.srt, Ev.chain, Ev.gv0, Ev.gvs, Ev.gt, Ev.gnil, Ev.gcons, Ev.asg, Ev.setix, Ev.ex, Ev.ret, Ev.iff, Ev.forr, Ev.snil, Ev.scons, Ev.iseq, Ev.irange, Ev.vwI, Ev.vwS, Ev.vwB, Ev.vwN, Ev.vwL, Ev.vwT, Ev.vwO, Ev.asb, Ev.ckT, Ev.addI, Ev.subI, Ev.ltI, Ev.leI, Ev.gtI, Ev.geI, Ev.eqI, Ev.neI, Ev.intI, Ev.absI, Ev.lenL, Ev.lenT, Ev.lenC, Ev.strS, Ev.tupL, Ev.tupT, Ev.po0, Ev.poi, Ev.slL, Ev.setf, Ev.make, Ev.callk, Ev.meth, Ev.ienum, Ev.dnew, Ev.ddis, Ev.dof, Ev.dcm, Ev.rev1, Ev.dget2, Ev.irev, Ev.lc, Ev.lcf, Ev.forf, Ev.wi0, Ev.wi1, List.set_cons_succ, List.set_cons_zero, Co.bind_assoc, List.map_cons, List.map_nil, List.cons_append, List.nil_append, List.length_cons, List.length_nil, List.replicate_succ, List.replicate_zero, Nat.reduceAdd, Nat.reduceSub, Nat.reduceLeDiff, decide_true, wp_ok, hin, Ev.vwD (g c3), lo, ri, idxW, hlt, ixd, (rec_ref (g c1)).1, m1O, hap]
        refine ⟨⟨dP, [], dW ++ [w], rW, dF, rF, k + 1, 1, _, _, _, _, _, eP, by rw [eW]; simp, eF, rfl, rfl, fun h => absurd rfl h, fun _ => by decide, by decide, ?_, ?_, ?_, ?_⟩, set_take hold1 (by omega)⟩
        · rw [List.getElem?_set_ne (by omega)]; exact g c0
        · rw [List.getElem?_set_self (by omega), List.map_append]; rfl
        · rw [List.getElem?_set_ne (by omega)]; exact g c2
        · rw [List.getElem?_set_ne (by omega)]; exact g c3
      | nil =>
        rw [List.map_nil, List.nil_append] at hr
        cases rF with
        | nil => cases hr
        | cons p rF =>
          rw [List.map_cons, items_cons] at hr
          injection hr with hx hr
          subst hx hr
          have hp : p ∈ f.F := by rw [eF]; simp
          have hin := inK (D := DG (n + 7)) (x := firstW) c3 (by kernel_rfl)
          have ixd : ixop (.dic kws [.ref m.length, .ref (m.length + 1), .ref (m.length + 2)]) (.str firstW) = some (.ref (m.length + 2)) := by kernel_rfl
          have hlt : decide ((2 : Int) < s) = false := decide_eq_false (by omega)
          have hap := app_ref (y := encF p) c2 (by have := congrArg List.length eF; have := hf.fac.few; rw [List.length_append] at *; rw [List.length_map]; omega) (by simp only [below, belows, Bool.and_self])
          try simp only [Ev.v0, Ev.vs, Ev.kk, Ev.bin, Ev.cmp, Ev.bok, Ev.ofs, Ev.test, Ev.iteE, Ev.val, Ev.nt, Ev.an, Ev.orE, Ev.tt, Ev.enil, Ev.econs, Ev.tup, Ev.lst, Ev.fz, Ev.cell, Ev.ix, Ev.call, Ev.bi, Ev.bi2, Ev.isi, Ev.m1, Ev.attr, Ev.sl, Ev.lof, Ev.srt, Ev.chain, Ev.gv0, Ev.gvs, Ev.gt, Ev.gnil, Ev.gcons, Ev.asg, Ev.setix, Ev.ex, Ev.ret, Ev.iff, Ev.forr, Ev.snil, Ev.scons, Ev.iseq, Ev.irange, Ev.vwI, Ev.vwS, Ev.vwB, Ev.vwN, Ev.vwL, Ev.vwT, Ev.vwO, Ev.asb, Ev.ckT, Ev.addI, Ev.subI, Ev.ltI, Ev.leI, Ev.gtI, Ev.geI, Ev.eqI, Ev.neI, Ev.intI, Ev.absI, Ev.lenL, Ev.lenT, Ev.lenC, Ev.strS, Ev.tupL, Ev.tupT, Ev.po0, Ev.poi, Ev.slL, Ev.setf, Ev.make, Ev.callk, Ev.meth, Ev.ienum, Ev.dnew, Ev.ddis, Ev.dof, Ev.dcm, Ev.rev1, Ev.dget2, Ev.irev, Ev.lc, Ev.lcf, Ev.forf, Ev.wi0, Ev.wi1, List.set_cons_succ, List.set_cons_zero, Co.bind_assoc, List.map_cons, List.map_nil, List.cons_append, List.nil_append, List.length_cons, List.length_nil, List.replicate_succ, List.replicate_zero, Nat.reduceAdd, Nat.reduceSub, Nat.reduceLeDiff, decide_true, wp_ok, dR, line_f (n := n + 5) (hf.ddB _ (hf.fac.inn p hp).1) (hf.ddB _ (hf.fac.inn p hp).2), hin, Ev.vwD c3, lo, ri, idxF, hlt, ixd, (rec_ref c2).1, m1O, hap]
          refine ⟨⟨dP, [], dW, [], dF ++ [p], rF, k + 1, 2, _, _, _, _, _, eP, eW, by rw [eF]; simp, by simp, rfl, fun h => absurd rfl h, fun h => absurd rfl h, by decide, ?_, ?_, ?_, ?_⟩, set_take hold (by omega)⟩
          · rw [List.getElem?_set_ne (by omega)]; exact c0
          · rw [List.getElem?_set_ne (by omega)]; exact c1
          · rw [List.getElem?_set_self (by omega), List.map_append]; rfl
          · rw [List.getElem?_set_ne (by omega)]; exact c3
  · obtain ⟨⟨dP, rP, dW, rW, dF, rF, k, s, x4, x5, x6, x7, x8, eP, eW, eF, hr, hE, sP, sW, s2, c0, c1, c2, c3⟩, hold⟩ := hI
    have hnil : rP = [] ∧ rW = [] ∧ rF = [] := by
      have h9 := congrArg List.length hr
      unfold itemsOf at h9
      simp at h9
      refine ⟨?_, ?_, ?_⟩
      · exact List.length_eq_zero_iff.mp (by omega)
      · exact List.length_eq_zero_iff.mp (by omega)
      · exact List.length_eq_zero_iff.mp (by omega)
    obtain ⟨rfl, rfl, rfl⟩ := hnil
    rw [List.append_nil] at eP eW eF
    rw [h1]
    dsimp only
    rw [hE]
    have ixa : ixop (.dic kws [.ref m.length, .ref (m.length + 1), .ref (m.length + 2)]) (.str personW) = some (.ref m.length) := by kernel_rfl
    have ixb : ixop (.dic kws [.ref m.length, .ref (m.length + 1), .ref (m.length + 2)]) (.str willW) = some (.ref (m.length + 1)) := by kernel_rfl
    have ixc : ixop (.dic kws [.ref m.length, .ref (m.length + 1), .ref (m.length + 2)]) (.str firstW) = some (.ref (m.length + 2)) := by kernel_rfl
    obtain ⟨m', e1, e2⟩ := fmk (n := n + 3) (m := mm) hf (vp := .ref m.length) (vwi := .ref (m.length + 1)) (vf := .ref (m.length + 2)) (.inr (.inr ⟨_, rfl, by rw [eP]; exact c0⟩)) (.inr (.inr ⟨_, rfl, by rw [eW]; exact c1⟩)) (.inr (.inr ⟨_, rfl, by rw [eF]; exact c2⟩))
    try simp only [Ev.v0, Ev.vs, Ev.kk, Ev.bin, Ev.cmp, Ev.bok, Ev.ofs, Ev.test, Ev.iteE, Ev.val, Ev.nt, Ev.an, Ev.orE, Ev.tt, Ev.enil, Ev.econs, Ev.tup, Ev.lst, Ev.fz, Ev.cell, Ev.ix, Ev.call, Ev.bi, Ev.bi2, Ev.isi, Ev.m1, Ev.attr, Ev.sl, Ev.lof, Ev.srt, Ev.chain, Ev.gv0, Ev.gvs, Ev.gt, Ev.gnil, Ev.gcons, Ev.asg, Ev.setix, Ev.ex, Ev.ret, Ev.iff, Ev.forr, Ev.snil, Ev.scons, Ev.iseq, Ev.irange, Ev.vwI, Ev.vwS, Ev.vwB, Ev.vwN, Ev.vwL, Ev.vwT, Ev.vwO, Ev.asb, Ev.ckT, Ev.addI, Ev.subI, Ev.ltI, Ev.leI, Ev.gtI, Ev.geI, Ev.eqI, Ev.neI, Ev.intI, Ev.absI, Ev.lenL, Ev.lenT, Ev.lenC, Ev.strS, Ev.tupL, Ev.tupT, Ev.po0, Ev.poi, Ev.slL, Ev.setf, Ev.make, Ev.callk, Ev.meth, Ev.ienum, Ev.dnew, Ev.ddis, Ev.dof, Ev.dcm, Ev.rev1, Ev.dget2, Ev.irev, Ev.lc, Ev.lcf, Ev.forf, Ev.wi0, Ev.wi1, List.set_cons_succ, List.set_cons_zero, Co.bind_assoc, List.map_cons, List.map_nil, List.cons_append, List.nil_append, List.length_cons, List.length_nil, List.replicate_succ, List.replicate_zero, Nat.reduceAdd, Nat.reduceSub, Nat.reduceLeDiff, decide_true, wp_ok, ini1, Ev.vwD c3, ixa, ixb, ixc, pick_f3, dR, e1, e2]
    refine ⟨trivial, mm.drop m.length, ?_⟩
    have e9 := List.take_append_drop m.length mm
    rw [hold] at e9
    exact e9.symm
end My

end P_Xp
section P_Xq
set_option Elab.async false
set_option linter.all false
set_option maxRecDepth 100000
set_option maxHeartbeats 2000000
namespace My
open Co
open PySem (Str)
def ab (z : Int) : Int := (if z < 0 then -z else z) % 991
def zsum (ns : List Int) : Int := 31 * (ns.length : Int) + ((cutP ns none (some 40)).map ab).sum
theorem sum_ints : ∀ zs : List Int, (zs.map PV.int).mapM asInt = some zs
  | [] => rfl
  | z :: zs => by
    rw [List.map_cons, List.mapM_cons, sum_ints zs]
    rfl
theorem fits_s {j : Int} (h : 0 ≤ j) (h1 : j < 2 ^ 64) : fits j = true := small h h1
theorem numbers_ok {n : Nat} {ns : List Int} {m : Mem} (h : ns.length ≤ 63) : RG (n + 1) 38 [.scr ns] m = .ok (.lst [.int (zsum ns % 13), .int (zsum ns / 13 % 7), .int (zsum ns / 91 % 3)]) m := by
  refine wp_eq (call_wp (F := (1, 3, g38 100000)) rfl rfl ?_)
  have f1 := fits_s (j := 31) (by decide) (by decide)
  have f2 := fits_s (j := (ns.length : Int)) (by omega) (by omega)
  have f3 := fits_s (j := 13) (by decide) (by decide)
  have f4 := fits_s (j := 91) (by decide) (by decide)
  have hs : slop (.scr ns) none (some 40) = some (.lst ((cutP ns none (some 40)).map .int)) := rfl
  have hv : ∀ m, vw m (.scr ns) = .scr ns := fun _ => rfl
  try simp only [Ev.v0, Ev.vs, Ev.kk, Ev.bin, Ev.cmp, Ev.bok, Ev.ofs, Ev.test, Ev.iteE, Ev.val, Ev.nt, Ev.an, Ev.orE, Ev.tt, Ev.enil, Ev.econs, Ev.tup, Ev.lst, Ev.fz, Ev.cell, Ev.ix, Ev.call, Ev.bi, Ev.bi2, Ev.isi, Ev.m1, Ev.attr, Ev.sl, Ev.lof, Ev.srt, Ev.chain, Ev.gv0, Ev.gvs, Ev.gt, Ev.gnil, Ev.gcons, Ev.asg, Ev.setix, Ev.ex, Ev.ret, Ev.iff, Ev.forr, Ev.snil, Ev.scons, Ev.iseq, Ev.irange, Ev.vwI, Ev.vwS, Ev.vwB, Ev.vwN, Ev.vwL, Ev.vwT, Ev.vwO, Ev.asb, Ev.ckT, Ev.addI, Ev.subI, Ev.ltI, Ev.leI, Ev.gtI, Ev.geI, Ev.eqI, Ev.neI, Ev.intI, Ev.absI, Ev.lenL, Ev.lenT, Ev.lenC, Ev.strS, Ev.tupL, Ev.tupT, Ev.po0, Ev.poi, Ev.slL, Ev.setf, Ev.make, Ev.callk, Ev.meth, Ev.ienum, Ev.dnew, Ev.ddis, Ev.dof, Ev.dcm, Ev.rev1, Ev.dget2, Ev.irev, Ev.lc, Ev.lcf, Ev.forf, Ev.wi0, Ev.wi1, List.set_cons_succ, List.set_cons_zero, Co.bind_assoc, List.map_cons, List.map_nil, List.cons_append, List.nil_append, List.length_cons, List.length_nil, List.replicate_succ, List.replicate_zero, Nat.reduceAdd, Nat.reduceSub, Nat.reduceLeDiff, decide_true, wp_ok, g38, Ev.mulI f1 f2, hs, hv]
  refine wp_then (lcFx_enc (enc := PV.int) (fun z => .int (ab z)) fun z hz => ?_) fun ys m1 ⟨e1, e2⟩ => ?_
  · try simp only [Ev.v0, Ev.vs, Ev.kk, Ev.bin, Ev.cmp, Ev.bok, Ev.ofs, Ev.test, Ev.iteE, Ev.val, Ev.nt, Ev.an, Ev.orE, Ev.tt, Ev.enil, Ev.econs, Ev.tup, Ev.lst, Ev.fz, Ev.cell, Ev.ix, Ev.call, Ev.bi, Ev.bi2, Ev.isi, Ev.m1, Ev.attr, Ev.sl, Ev.lof, Ev.srt, Ev.chain, Ev.gv0, Ev.gvs, Ev.gt, Ev.gnil, Ev.gcons, Ev.asg, Ev.setix, Ev.ex, Ev.ret, Ev.iff, Ev.forr, Ev.snil, Ev.scons, Ev.iseq, Ev.irange, Ev.vwI, Ev.vwS, Ev.vwB, Ev.vwN, Ev.vwL, Ev.vwT, Ev.vwO, Ev.asb, Ev.ckT, Ev.addI, Ev.subI, Ev.ltI, Ev.leI, Ev.gtI, Ev.geI, Ev.eqI, Ev.neI, Ev.intI, Ev.absI, Ev.lenL, Ev.lenT, Ev.lenC, Ev.strS, Ev.tupL, Ev.tupT, Ev.po0, Ev.poi, Ev.slL, Ev.setf, Ev.make, Ev.callk, Ev.meth, Ev.ienum, Ev.dnew, Ev.ddis, Ev.dof, Ev.dcm, Ev.rev1, Ev.dget2, Ev.irev, Ev.lc, Ev.lcf, Ev.forf, Ev.wi0, Ev.wi1, List.set_cons_succ, List.set_cons_zero, Co.bind_assoc, List.map_cons, List.map_nil, List.cons_append, List.nil_append, List.length_cons, List.length_nil, List.replicate_succ, List.replicate_zero, Nat.reduceAdd, Nat.reduceSub, Nat.reduceLeDiff, decide_true, wp_ok, Ev.modI (show (0 : Int) < 991 by decide)]
    rfl
  subst e1 e2
  have hsum : ∀ m, biO (DG n) .sum (.lst ((cutP ns none (some 40)).map fun z => PV.int (ab z))) m = .ok (.int ((cutP ns none (some 40)).map ab).sum) m := fun m => by
    show Out.of (((((cutP ns none (some 40)).map fun z => PV.int (ab z))).mapM asInt).map fun ns => PV.int ns.sum) m = _
    rw [show ((cutP ns none (some 40)).map fun z => PV.int (ab z)) = ((cutP ns none (some 40)).map ab).map PV.int by rw [List.map_map]; rfl, sum_ints]
    rfl
  try simp only [Ev.v0, Ev.vs, Ev.kk, Ev.bin, Ev.cmp, Ev.bok, Ev.ofs, Ev.test, Ev.iteE, Ev.val, Ev.nt, Ev.an, Ev.orE, Ev.tt, Ev.enil, Ev.econs, Ev.tup, Ev.lst, Ev.fz, Ev.cell, Ev.ix, Ev.call, Ev.bi, Ev.bi2, Ev.isi, Ev.m1, Ev.attr, Ev.sl, Ev.lof, Ev.srt, Ev.chain, Ev.gv0, Ev.gvs, Ev.gt, Ev.gnil, Ev.gcons, Ev.asg, Ev.setix, Ev.ex, Ev.ret, Ev.iff, Ev.forr, Ev.snil, Ev.scons, Ev.iseq, Ev.irange, Ev.vwI, Ev.vwS, Ev.vwB, Ev.vwN, Ev.vwL, Ev.vwT, Ev.vwO, Ev.asb, Ev.ckT, Ev.addI, Ev.subI, Ev.ltI, Ev.leI, Ev.gtI, Ev.geI, Ev.eqI, Ev.neI, Ev.intI, Ev.absI, Ev.lenL, Ev.lenT, Ev.lenC, Ev.strS, Ev.tupL, Ev.tupT, Ev.po0, Ev.poi, Ev.slL, Ev.setf, Ev.make, Ev.callk, Ev.meth, Ev.ienum, Ev.dnew, Ev.ddis, Ev.dof, Ev.dcm, Ev.rev1, Ev.dget2, Ev.irev, Ev.lc, Ev.lcf, Ev.forf, Ev.wi0, Ev.wi1, List.set_cons_succ, List.set_cons_zero, Co.bind_assoc, List.map_cons, List.map_nil, List.cons_append, List.nil_append, List.length_cons, List.length_nil, List.replicate_succ, List.replicate_zero, Nat.reduceAdd, Nat.reduceSub, Nat.reduceLeDiff, decide_true, wp_ok, hsum, Ev.modI (show (0 : Int) < 13 by decide), Ev.modI (show (0 : Int) < 7 by decide), Ev.modI (show (0 : Int) < 3 by decide), Ev.fdivI (show (0 : Int) < 13 by decide) f3, Ev.fdivI (show (0 : Int) < 91 by decide) f4]
  exact ⟨rfl, trivial⟩
abbrev annS : Str := sx [97, 110, 110]
abbrev bobS : Str := sx [98, 111, 98]
abbrev cidS : Str := sx [99, 105, 100]
def w1 (c : Int) : Ws := [(1 + c, [[bobS], [cidS]])]
def w2 : Ws := [(1, [[cidS]])]
def pp (a b c : Int) : List (Str × Int) := [(annS, a), (bobS, b), (cidS, c)]
def ww (c : Int) : List (Str × Ws) := [(annS, w1 c), (bobS, w2)]
theorem amts_le : ∀ k : Nat, k ≤ 12 → (k : Int) ∈ amts := by decide +kernel
theorem amt_in {a : Int} (h0 : 0 ≤ a) (h : a ≤ 12) : a ∈ amts := by
  have := amts_le a.toNat (by omega)
  rwa [Int.toNat_of_nonneg h0] at this
theorem single {x : Str} (h : nameB x = true) : NamesOk [x] := ⟨by simp, fun y hy => by rw [List.mem_singleton.mp hy]; exact h, by simp, by simp⟩
theorem nmA : nameB annS = true := by decide +kernel
theorem nmB : nameB bobS = true := by decide +kernel
theorem nmC : nameB cidS = true := by decide +kernel
theorem w1_ok {c : Int} (h0 : 0 ≤ c) (h : c ≤ 2) : WsOk (w1 c) := ⟨fun s hs => by
  rw [List.mem_singleton.mp hs]
  refine ⟨by show 1 ≤ 1 + c; omega, by show 1 + c ≤ 9; omega, by show 2 ≤ 3; omega, fun g hg => ?_⟩
  have hg : g ∈ [[bobS], [cidS]] := hg
  simp only [List.mem_cons, List.not_mem_nil, or_false] at hg
  rcases hg with rfl | rfl
  · exact single nmB
  · exact single nmC, by simp [w1], by simp [w1]⟩
theorem w2_ok : WsOk w2 := ⟨fun s hs => by
  rw [List.mem_singleton.mp hs]
  refine ⟨by decide, by decide, by decide, fun g hg => ?_⟩
  have hg : g ∈ [[cidS]] := hg
  rw [List.mem_singleton.mp hg]
  exact single nmC, by simp [w2], by simp [w2]⟩
theorem ne_ab : annS ≠ bobS := by decide +kernel
theorem ne_ac : annS ≠ cidS := by decide +kernel
theorem ne_bc : bobS ≠ cidS := by decide +kernel
theorem pp_ok {a b c : Int} (ha : 0 ≤ a) (hb : 0 ≤ b) (hc : 0 ≤ c) : PplOk (pp a b c) := by
  refine ⟨?_, ?_, ?_, by simp [pp], by simp [pp]⟩
  · show [annS, bobS, cidS].Nodup
    decide +kernel
  · intro p hp
    simp only [pp, List.mem_cons, List.not_mem_nil, or_false] at hp
    rcases hp with rfl | rfl | rfl
    · exact nmA
    · exact nmB
    · exact nmC
  · intro p hp
    simp only [pp, List.mem_cons, List.not_mem_nil, or_false] at hp
    rcases hp with rfl | rfl | rfl <;> assumption
theorem ww_ok {c : Int} (h0 : 0 ≤ c) (h : c ≤ 2) : WilOk [annS, bobS, cidS] (ww c) := by
  refine ⟨?_, ?_, ?_, ?_, by simp [ww]⟩
  · show [annS, bobS].Nodup
    decide +kernel
  · intro w hw
    simp only [ww, List.mem_cons, List.not_mem_nil, or_false] at hw
    rcases hw with rfl | rfl <;> simp
  · intro w hw
    simp only [ww, List.mem_cons, List.not_mem_nil, or_false] at hw
    rcases hw with rfl | rfl
    · exact w1_ok h0 h
    · exact w2_ok
  · intro w hw s hs g hg y hy
    simp only [ww, List.mem_cons, List.not_mem_nil, or_false] at hw
    rcases hw with rfl | rfl
    · have hs := List.mem_singleton.mp hs
      subst hs
      have hg : g ∈ [[bobS], [cidS]] := hg
      simp only [List.mem_cons, List.not_mem_nil, or_false] at hg
      rcases hg with rfl | rfl
      · rw [List.mem_singleton.mp hy]; exact ⟨by simp, ne_ab.symm⟩
      · rw [List.mem_singleton.mp hy]; exact ⟨by simp, ne_ac.symm⟩
    · have hs := List.mem_singleton.mp hs
      subst hs
      have hg : g ∈ [[cidS]] := hg
      rw [List.mem_singleton.mp hg] at hy
      rw [List.mem_singleton.mp hy]
      exact ⟨by simp, ne_bc.symm⟩
theorem fac1 : FacOk [annS, bobS] [(annS, bobS)] := ⟨fun f hf => by rw [List.mem_singleton.mp hf]; exact ⟨by simp, by simp⟩, ⟨fun x => if x = annS then 0 else 1, fun f hf => by rw [List.mem_singleton.mp hf]; decide +kernel⟩, by simp⟩
theorem fac2 : FacOk [annS, bobS] [(annS, bobS), (annS, bobS)] := ⟨fun f hf => by
  have hf : f = (annS, bobS) := by
    simp only [List.mem_cons, List.not_mem_nil, or_false, or_self] at hf
    exact hf
  rw [hf]; exact ⟨by simp, by simp⟩, ⟨fun x => if x = annS then 0 else 1, fun f hf => by
  have hf : f = (annS, bobS) := by
    simp only [List.mem_cons, List.not_mem_nil, or_false, or_self] at hf
    exact hf
  rw [hf]; decide +kernel⟩, by simp⟩
theorem fac0 {N : List Str} : FacOk N [] := ⟨fun f hf => (by cases hf), ⟨fun _ => 0, fun f hf => (by cases hf)⟩, by simp⟩
abbrev f1 (a b c : Int) : Fam := ⟨pp a b c, ww c, [(annS, bobS)]⟩
abbrev f2 (a b c : Int) : Fam := ⟨pp a b c, ww c, [(annS, bobS), (annS, bobS)]⟩
abbrev f3 (a b c : Int) : Fam := ⟨pp a b c, [], []⟩
abbrev f4 (a b c : Int) : Fam := ⟨pp a b c, ww c, []⟩
end My

end P_Xq
section P_Xr
set_option Elab.async false
set_option linter.all false
set_option maxRecDepth 100000
set_option maxHeartbeats 2000000
namespace My
open Co
open PySem (Str)
theorem fread_ex {n : Nat} {f : Fam} {m : Mem} (hf : FamOk f) (ha : AmOk f) : ∃ v m', RG (n + 9) 32 [.cls 1, .str (fText f)] m = .ok v m' ∧ v = objF f ∧ ∃ l, m' = m ++ l := wp_ex (fread_ok (n := n + 1) hf ha)
theorem lit1 {c : Int} : (PV.lst [.tup [.int (1 + c), .lst [.lst [.str bobS], .lst [.str cidS]]]]) = .lst ((w1 c).map (encSB true)) := rfl
theorem lit2 : (PV.lst [.tup [.int 1, .lst [.lst [.str cidS]]]]) = .lst (w2.map (encSB true)) := rfl
abbrev f5 (a b c : Int) : Fam := ⟨pp a b 9, ww c, [(annS, bobS)]⟩
theorem law_ok {n : Nat} {ns : List Int} {m : Mem} (h : ns.length ≤ 63) : wp (RG (n + 10) 39 [.scr ns] m) fun v _ => v = .bl true := by
  refine call_wp (F := (1, 7, g39 100000)) rfl rfl ?_
  have ha0 : 0 ≤ zsum ns % 13 := Int.emod_nonneg _ (by decide)
  have ha1 : zsum ns % 13 ≤ 12 := by have := Int.emod_lt_of_pos (zsum ns) (show (0 : Int) < 13 by decide); omega
  have hb0 : 0 ≤ zsum ns / 13 % 7 := Int.emod_nonneg _ (by decide)
  have hb1 : zsum ns / 13 % 7 ≤ 6 := by have := Int.emod_lt_of_pos (zsum ns / 13) (show (0 : Int) < 7 by decide); omega
  have hc0 : 0 ≤ zsum ns / 91 % 3 := Int.emod_nonneg _ (by decide)
  have hc1 : zsum ns / 91 % 3 ≤ 2 := by have := Int.emod_lt_of_pos (zsum ns / 91) (show (0 : Int) < 3 by decide); omega
  dsimp only
  unfold g39
  refine sc fun K hK hR => ?_
  try simp only [Ev.v0, Ev.vs, Ev.kk, Ev.bin, Ev.cmp, Ev.bok, Ev.ofs, Ev.test, Ev.iteE, Ev.val, Ev.nt, Ev.an, Ev.orE, Ev.tt, Ev.enil, Ev.econs, Ev.tup, Ev.lst, Ev.fz, Ev.cell, Ev.ix, Ev.call, Ev.bi, Ev.bi2, Ev.isi, Ev.m1, Ev.attr, Ev.sl, Ev.lof, Ev.srt, Ev.chain, Ev.gv0, Ev.gvs, Ev.gt, Ev.gnil, Ev.gcons, Ev.asg, Ev.setix, Ev.ex, Ev.ret, Ev.iff, Ev.forr, Ev.snil, Ev.scons, Ev.iseq, Ev.irange, Ev.vwI, Ev.vwS, Ev.vwB, Ev.vwN, Ev.vwL, Ev.vwT, Ev.vwO, Ev.asb, Ev.ckT, Ev.addI, Ev.subI, Ev.ltI, Ev.leI, Ev.gtI, Ev.geI, Ev.eqI, Ev.neI, Ev.intI, Ev.absI, Ev.lenL, Ev.lenT, Ev.lenC, Ev.strS, Ev.tupL, Ev.tupT, Ev.po0, Ev.poi, Ev.slL, Ev.setf, Ev.make, Ev.callk, Ev.meth, Ev.ienum, Ev.dnew, Ev.ddis, Ev.dof, Ev.dcm, Ev.rev1, Ev.dget2, Ev.irev, Ev.lc, Ev.lcf, Ev.forf, Ev.wi0, Ev.wi1, List.set_cons_succ, List.set_cons_zero, Co.bind_assoc, List.map_cons, List.map_nil, List.cons_append, List.nil_append, List.length_cons, List.length_nil, List.replicate_succ, List.replicate_zero, Nat.reduceAdd, Nat.reduceSub, Nat.reduceLeDiff, decide_true, wp_ok, dR, numbers_ok (n := n + 8) h]
  refine hK _ _ ?_
  clear hK hR K
  generalize zsum ns % 13 = a at ha0 ha1
  generalize zsum ns / 13 % 7 = b at hb0 hb1
  generalize zsum ns / 91 % 3 = c at hc0 hc1
  have hW1 := w1_ok hc0 hc1
  have mk1 : ∀ m : Mem, RG (n + 9) 10 [.ref m.length, .lst [.tup [.int (1 + c), .lst [.lst [.str bobS], .lst [.str cidS]]]]] (m ++ [Cell.ins 0 [] []]) = .ok .non ((m ++ [Cell.ins 0 [] []]).set m.length (.ins 0 [shN] [.tup ((w1 c).map norS)])) := fun m => by
    rw [lit1]
    exact mk_lst (n := n + 5) (b := true) hW1
  have mk2 : ∀ m : Mem, RG (n + 9) 10 [.ref m.length, .lst [.tup [.int 1, .lst [.lst [.str cidS]]]]] (m ++ [Cell.ins 0 [] []]) = .ok .non ((m ++ [Cell.ins 0 [] []]).set m.length (.ins 0 [shN] [.tup (w2.map norS)])) := fun m => by
    rw [lit2]
    exact mk_lst (n := n + 5) (b := true) w2_ok
  have md1 : ∀ m : Mem, madeO m.length .non ((m ++ [Cell.ins 0 [] []]).set m.length (.ins 0 [shN] [.tup ((w1 c).map norS)])) = .ok (objW (w1 c)) m := fun m => made_ok
  have md2 : ∀ m : Mem, madeO m.length .non ((m ++ [Cell.ins 0 [] []]).set m.length (.ins 0 [shN] [.tup (w2.map norS)])) = .ok (objW w2) m := fun m => made_ok
  have hP : PplOk (pp a b c) := pp_ok ha0 hb0 hc0
  have hf1 : FamOk (f1 a b c) := ⟨hP, ww_ok hc0 hc1, fac1⟩
  have hf2 : FamOk (f2 a b c) := ⟨hP, ww_ok hc0 hc1, fac2⟩
  have hf3 : FamOk (f3 a b c) := ⟨hP, ⟨by simp, by simp, by simp, by simp, by simp⟩, fac0⟩
  have hf4 : FamOk (f4 a b c) := ⟨hP, ww_ok hc0 hc1, fac0⟩
  have hA : ∀ p ∈ pp a b c, p.2 ∈ amts := fun p hp => by
    simp only [pp, List.mem_cons, List.not_mem_nil, or_false] at hp
    rcases hp with rfl | rfl | rfl
    · exact amt_in ha0 ha1
    · exact amt_in hb0 (by omega)
    · exact amt_in hc0 (by omega)
  have qp : (PV.lst [.tup [.str annS, .int a], .tup [.str bobS, .int b], .tup [.str cidS, .int c]]) = .lst ((pp a b c).map encP) := rfl
  have qw : (PV.lst [.tup [.str annS, objW (w1 c)], .tup [.str bobS, objW w2]]) = .lst ((ww c).map encW) := rfl
  refine sc fun K hK hR => ?_
  try simp only [Ev.v0, Ev.vs, Ev.kk, Ev.bin, Ev.cmp, Ev.bok, Ev.ofs, Ev.test, Ev.iteE, Ev.val, Ev.nt, Ev.an, Ev.orE, Ev.tt, Ev.enil, Ev.econs, Ev.tup, Ev.lst, Ev.fz, Ev.cell, Ev.ix, Ev.call, Ev.bi, Ev.bi2, Ev.isi, Ev.m1, Ev.attr, Ev.sl, Ev.lof, Ev.srt, Ev.chain, Ev.gv0, Ev.gvs, Ev.gt, Ev.gnil, Ev.gcons, Ev.asg, Ev.setix, Ev.ex, Ev.ret, Ev.iff, Ev.forr, Ev.snil, Ev.scons, Ev.iseq, Ev.irange, Ev.vwI, Ev.vwS, Ev.vwB, Ev.vwN, Ev.vwL, Ev.vwT, Ev.vwO, Ev.asb, Ev.ckT, Ev.addI, Ev.subI, Ev.ltI, Ev.leI, Ev.gtI, Ev.geI, Ev.eqI, Ev.neI, Ev.intI, Ev.absI, Ev.lenL, Ev.lenT, Ev.lenC, Ev.strS, Ev.tupL, Ev.tupT, Ev.po0, Ev.poi, Ev.slL, Ev.setf, Ev.make, Ev.callk, Ev.meth, Ev.ienum, Ev.dnew, Ev.ddis, Ev.dof, Ev.dcm, Ev.rev1, Ev.dget2, Ev.irev, Ev.lc, Ev.lcf, Ev.forf, Ev.wi0, Ev.wi1, List.set_cons_succ, List.set_cons_zero, Co.bind_assoc, List.map_cons, List.map_nil, List.cons_append, List.nil_append, List.length_cons, List.length_nil, List.replicate_succ, List.replicate_zero, Nat.reduceAdd, Nat.reduceSub, Nat.reduceLeDiff, decide_true, wp_ok]
  refine hK _ _ ?_
  clear hK hR K
  rw [qp]
  refine sc fun K hK hR => ?_
  try simp only [Ev.v0, Ev.vs, Ev.kk, Ev.bin, Ev.cmp, Ev.bok, Ev.ofs, Ev.test, Ev.iteE, Ev.val, Ev.nt, Ev.an, Ev.orE, Ev.tt, Ev.enil, Ev.econs, Ev.tup, Ev.lst, Ev.fz, Ev.cell, Ev.ix, Ev.call, Ev.bi, Ev.bi2, Ev.isi, Ev.m1, Ev.attr, Ev.sl, Ev.lof, Ev.srt, Ev.chain, Ev.gv0, Ev.gvs, Ev.gt, Ev.gnil, Ev.gcons, Ev.asg, Ev.setix, Ev.ex, Ev.ret, Ev.iff, Ev.forr, Ev.snil, Ev.scons, Ev.iseq, Ev.irange, Ev.vwI, Ev.vwS, Ev.vwB, Ev.vwN, Ev.vwL, Ev.vwT, Ev.vwO, Ev.asb, Ev.ckT, Ev.addI, Ev.subI, Ev.ltI, Ev.leI, Ev.gtI, Ev.geI, Ev.eqI, Ev.neI, Ev.intI, Ev.absI, Ev.lenL, Ev.lenT, Ev.lenC, Ev.strS, Ev.tupL, Ev.tupT, Ev.po0, Ev.poi, Ev.slL, Ev.setf, Ev.make, Ev.callk, Ev.meth, Ev.ienum, Ev.dnew, Ev.ddis, Ev.dof, Ev.dcm, Ev.rev1, Ev.dget2, Ev.irev, Ev.lc, Ev.lcf, Ev.forf, Ev.wi0, Ev.wi1, List.set_cons_succ, List.set_cons_zero, Co.bind_assoc, List.map_cons, List.map_nil, List.cons_append, List.nil_append, List.length_cons, List.length_nil, List.replicate_succ, List.replicate_zero, Nat.reduceAdd, Nat.reduceSub, Nat.reduceLeDiff, decide_true, wp_ok, ini0, pick_mk, dR, mk1, md1, mk2, md2]
  refine hK _ _ ?_
  clear hK hR K
  rw [qw]
  have qf : (PV.lst [.tup [.str annS, .str bobS]]) = .lst ([(annS, bobS)].map encF) := rfl
  have hAm1 : AmOk (f1 a b c) := hA
  have hAm2 : AmOk (f2 a b c) := hA
  have hAm3 : AmOk (f3 a b c) := hA
  have hAm4 : AmOk (f4 a b c) := hA
  have fm1 : ∀ m : Mem, ∃ m', RG (n + 9) 24 [.ref m.length, .lst ((pp a b c).map encP), .lst ((ww c).map encW), .lst [.tup [.str annS, .str bobS]]] (m ++ [Cell.ins 1 [] []]) = .ok .non m' ∧ madeO m.length .non m' = .ok (objF (f1 a b c)) m := fun m => fmk (n := n + 5) hf1 (.inl rfl) (.inl rfl) (.inl rfl)
  have fm3 : ∀ m : Mem, ∃ m', RG (n + 9) 24 [.ref m.length, .lst ((pp a b c).map encP), .tup [], .tup []] (m ++ [Cell.ins 1 [] []]) = .ok .non m' ∧ madeO m.length .non m' = .ok (objF (f3 a b c)) m := fun m => fmk (n := n + 5) hf3 (.inl rfl) (.inr (.inl rfl)) (.inr (.inl rfl))
  have fm4 : ∀ m : Mem, ∃ m', RG (n + 9) 24 [.ref m.length, .lst ((pp a b c).map encP), .lst ((ww c).map encW), .tup []] (m ++ [Cell.ins 1 [] []]) = .ok .non m' ∧ madeO m.length .non m' = .ok (objF (f4 a b c)) m := fun m => fmk (n := n + 5) hf4 (.inl rfl) (.inl rfl) (.inr (.inl rfl))
  have pk1 : ∀ {q : Nat} {x y z : PV}, ((List.lookup 24 [(24, [.i 0, .i 3, .i 2, .i 1])]).bind fun ar => pickN 1 3 [.ref q] [z, y, x] ar) = some [.ref q, x, y, z] := rfl
  have pk2 : ∀ {q : Nat} {x : PV}, ((List.lookup 24 [(24, [.i 0, .i 1, .d 0 (.tup []), .d 1 (.tup [])])]).bind fun ar => pickN 1 1 [.ref q] [x] ar) = some [.ref q, x, .tup [], .tup []] := rfl
  have pk3 : ∀ {q : Nat} {x y : PV}, ((List.lookup 24 [(24, [.i 0, .i 2, .i 1, .d 1 (.tup [])])]).bind fun ar => pickN 1 2 [.ref q] [y, x] ar) = some [.ref q, x, y, .tup []] := rfl
  have e1 : ∀ m, cmpV (DG (n + 9)) .ne (objF (f1 a b c)) (objF (f1 a b c)) m = .ok (.bl false) m := fun m => (feq (n := n + 5) hf1 hAm1).2
  have e3 : ∀ m, cmpV (DG (n + 9)) .ne (objF (f3 a b c)) (objF (f3 a b c)) m = .ok (.bl false) m := fun m => (feq (n := n + 5) hf3 hAm3).2
  obtain ⟨m1, g1, g2⟩ := fm1 m
  refine sc fun K hK hR => ?_
  try simp only [Ev.v0, Ev.vs, Ev.kk, Ev.bin, Ev.cmp, Ev.bok, Ev.ofs, Ev.test, Ev.iteE, Ev.val, Ev.nt, Ev.an, Ev.orE, Ev.tt, Ev.enil, Ev.econs, Ev.tup, Ev.lst, Ev.fz, Ev.cell, Ev.ix, Ev.call, Ev.bi, Ev.bi2, Ev.isi, Ev.m1, Ev.attr, Ev.sl, Ev.lof, Ev.srt, Ev.chain, Ev.gv0, Ev.gvs, Ev.gt, Ev.gnil, Ev.gcons, Ev.asg, Ev.setix, Ev.ex, Ev.ret, Ev.iff, Ev.forr, Ev.snil, Ev.scons, Ev.iseq, Ev.irange, Ev.vwI, Ev.vwS, Ev.vwB, Ev.vwN, Ev.vwL, Ev.vwT, Ev.vwO, Ev.asb, Ev.ckT, Ev.addI, Ev.subI, Ev.ltI, Ev.leI, Ev.gtI, Ev.geI, Ev.eqI, Ev.neI, Ev.intI, Ev.absI, Ev.lenL, Ev.lenT, Ev.lenC, Ev.strS, Ev.tupL, Ev.tupT, Ev.po0, Ev.poi, Ev.slL, Ev.setf, Ev.make, Ev.callk, Ev.meth, Ev.ienum, Ev.dnew, Ev.ddis, Ev.dof, Ev.dcm, Ev.rev1, Ev.dget2, Ev.irev, Ev.lc, Ev.lcf, Ev.forf, Ev.wi0, Ev.wi1, List.set_cons_succ, List.set_cons_zero, Co.bind_assoc, List.map_cons, List.map_nil, List.cons_append, List.nil_append, List.length_cons, List.length_nil, List.replicate_succ, List.replicate_zero, Nat.reduceAdd, Nat.reduceSub, Nat.reduceLeDiff, decide_true, wp_ok, ini1, pk1, dR, g1, g2]
  refine hK _ _ ?_
  clear hK hR K
  obtain ⟨m3, g3, g4⟩ := fm3 m
  refine sc fun K hK hR => si fun K2 hT hF => ?_
  try simp only [Ev.v0, Ev.vs, Ev.kk, Ev.bin, Ev.cmp, Ev.bok, Ev.ofs, Ev.test, Ev.iteE, Ev.val, Ev.nt, Ev.an, Ev.orE, Ev.tt, Ev.enil, Ev.econs, Ev.tup, Ev.lst, Ev.fz, Ev.cell, Ev.ix, Ev.call, Ev.bi, Ev.bi2, Ev.isi, Ev.m1, Ev.attr, Ev.sl, Ev.lof, Ev.srt, Ev.chain, Ev.gv0, Ev.gvs, Ev.gt, Ev.gnil, Ev.gcons, Ev.asg, Ev.setix, Ev.ex, Ev.ret, Ev.iff, Ev.forr, Ev.snil, Ev.scons, Ev.iseq, Ev.irange, Ev.vwI, Ev.vwS, Ev.vwB, Ev.vwN, Ev.vwL, Ev.vwT, Ev.vwO, Ev.asb, Ev.ckT, Ev.addI, Ev.subI, Ev.ltI, Ev.leI, Ev.gtI, Ev.geI, Ev.eqI, Ev.neI, Ev.intI, Ev.absI, Ev.lenL, Ev.lenT, Ev.lenC, Ev.strS, Ev.tupL, Ev.tupT, Ev.po0, Ev.poi, Ev.slL, Ev.setf, Ev.make, Ev.callk, Ev.meth, Ev.ienum, Ev.dnew, Ev.ddis, Ev.dof, Ev.dcm, Ev.rev1, Ev.dget2, Ev.irev, Ev.lc, Ev.lcf, Ev.forf, Ev.wi0, Ev.wi1, List.set_cons_succ, List.set_cons_zero, Co.bind_assoc, List.map_cons, List.map_nil, List.cons_append, List.nil_append, List.length_cons, List.length_nil, List.replicate_succ, List.replicate_zero, Nat.reduceAdd, Nat.reduceSub, Nat.reduceLeDiff, decide_true, wp_ok, ini1, pick_f3, pk2, dR, g1, g2, g3, g4, e1, e3]
  refine hF _ (hK _ _ ?_)
  clear hF hT K2 hK hR K
  have e2 : ∀ m, cmpV (DG (n + 9)) .ne (objF (f2 a b c)) (objF (f2 a b c)) m = .ok (.bl false) m := fun m => (feq (n := n + 5) hf2 hAm2).2
  have bs : ∀ m, biO (DG (n + 9)) .str (objF (f1 a b c)) m = .ok (.str (fText (f1 a b c))) m := fun m => bi_fstr (n := n + 6) hf1 hAm1
  obtain ⟨v5, m5, e5, hv5, l5, hm5⟩ := fread_ex (n := n) (m := m) hf1 hAm1
  subst hv5 hm5
  have pr : ∀ {x y : PV}, pickN 1 1 [x] [y] [.i 0, .i 1] = some [x, y] := rfl
  have po : ∀ {x y : PV}, ((List.lookup 28 [(28, [.i 0, .i 1]), (29, [.i 0, .i 1])]).bind fun ar => pickN 1 1 [x] [y] ar) = some [x, y] := rfl
  have pw : ∀ {x y : PV}, ((List.lookup 29 [(28, [.i 0, .i 1]), (29, [.i 0, .i 1])]).bind fun ar => pickN 1 1 [x] [y] ar) = some [x, y] := rfl
  have ow : ∀ m, RG (n + 9) 28 [objF (f1 a b c), .str bobS] m = .ok (.int b) m := fun m => own_ok (n := n + 8) (p := (bobS, b)) hf1 (by simp [f1, pp])
  have wo : ∀ m, RG (n + 9) 29 [objF (f1 a b c), .str annS] m = .ok (objW (w1 c)) m := fun m => will_of_ok (n := n + 8) (p := (annS, w1 c)) hf1 (by simp [f1, ww])
  refine sc fun K hK hR => si fun K2 hT hF => ?_
  try simp only [Ev.v0, Ev.vs, Ev.kk, Ev.bin, Ev.cmp, Ev.bok, Ev.ofs, Ev.test, Ev.iteE, Ev.val, Ev.nt, Ev.an, Ev.orE, Ev.tt, Ev.enil, Ev.econs, Ev.tup, Ev.lst, Ev.fz, Ev.cell, Ev.ix, Ev.call, Ev.bi, Ev.bi2, Ev.isi, Ev.m1, Ev.attr, Ev.sl, Ev.lof, Ev.srt, Ev.chain, Ev.gv0, Ev.gvs, Ev.gt, Ev.gnil, Ev.gcons, Ev.asg, Ev.setix, Ev.ex, Ev.ret, Ev.iff, Ev.forr, Ev.snil, Ev.scons, Ev.iseq, Ev.irange, Ev.vwI, Ev.vwS, Ev.vwB, Ev.vwN, Ev.vwL, Ev.vwT, Ev.vwO, Ev.asb, Ev.ckT, Ev.addI, Ev.subI, Ev.ltI, Ev.leI, Ev.gtI, Ev.geI, Ev.eqI, Ev.neI, Ev.intI, Ev.absI, Ev.lenL, Ev.lenT, Ev.lenC, Ev.strS, Ev.tupL, Ev.tupT, Ev.po0, Ev.poi, Ev.slL, Ev.setf, Ev.make, Ev.callk, Ev.meth, Ev.ienum, Ev.dnew, Ev.ddis, Ev.dof, Ev.dcm, Ev.rev1, Ev.dget2, Ev.irev, Ev.lc, Ev.lcf, Ev.forf, Ev.wi0, Ev.wi1, List.set_cons_succ, List.set_cons_zero, Co.bind_assoc, List.map_cons, List.map_nil, List.cons_append, List.nil_append, List.length_cons, List.length_nil, List.replicate_succ, List.replicate_zero, Nat.reduceAdd, Nat.reduceSub, Nat.reduceLeDiff, decide_true, wp_ok, bs, pr, dR, e5, e1, met_own, po, ow, eq_self, Bool.not_true]
  refine hF _ (hK _ _ ?_)
  clear hF hT K2 hK hR K
  have i0 : ixop (.lst ((ww c).map encW)) (.int 0) = some (encW (annS, w1 c)) := rfl
  have i1 : ixop (encW (annS, w1 c)) (.int 1) = some (objW (w1 c)) := rfl
  have nw : ∀ m, cmpV (DG (n + 9)) .ne (objW (w1 c)) (objW (w1 c)) m = .ok (.bl false) m := fun m => ne_ok (n := n + 8) hW1
  generalize m ++ l5 = mm
  obtain ⟨m6, g6, g7⟩ := fm4 mm
  have af : ∀ m, attO (DG (n + 9)) facN (objF (f4 a b c)) m = .ok (.tup []) m := fun m => rfl
  have nn : ∀ m, cmpV (DG (n + 9)) .ne (.tup []) (.tup []) m = .ok (.bl false) m := fun m => (cmp_self (n := 1) (by simp [pl, pls]) (by decide)).2
  refine sc fun K hK hR => si fun K2 hT hF => ?_
  try simp only [Ev.v0, Ev.vs, Ev.kk, Ev.bin, Ev.cmp, Ev.bok, Ev.ofs, Ev.test, Ev.iteE, Ev.val, Ev.nt, Ev.an, Ev.orE, Ev.tt, Ev.enil, Ev.econs, Ev.tup, Ev.lst, Ev.fz, Ev.cell, Ev.ix, Ev.call, Ev.bi, Ev.bi2, Ev.isi, Ev.m1, Ev.attr, Ev.sl, Ev.lof, Ev.srt, Ev.chain, Ev.gv0, Ev.gvs, Ev.gt, Ev.gnil, Ev.gcons, Ev.asg, Ev.setix, Ev.ex, Ev.ret, Ev.iff, Ev.forr, Ev.snil, Ev.scons, Ev.iseq, Ev.irange, Ev.vwI, Ev.vwS, Ev.vwB, Ev.vwN, Ev.vwL, Ev.vwT, Ev.vwO, Ev.asb, Ev.ckT, Ev.addI, Ev.subI, Ev.ltI, Ev.leI, Ev.gtI, Ev.geI, Ev.eqI, Ev.neI, Ev.intI, Ev.absI, Ev.lenL, Ev.lenT, Ev.lenC, Ev.strS, Ev.tupL, Ev.tupT, Ev.po0, Ev.poi, Ev.slL, Ev.setf, Ev.make, Ev.callk, Ev.meth, Ev.ienum, Ev.dnew, Ev.ddis, Ev.dof, Ev.dcm, Ev.rev1, Ev.dget2, Ev.irev, Ev.lc, Ev.lcf, Ev.forf, Ev.wi0, Ev.wi1, List.set_cons_succ, List.set_cons_zero, Co.bind_assoc, List.map_cons, List.map_nil, List.cons_append, List.nil_append, List.length_cons, List.length_nil, List.replicate_succ, List.replicate_zero, Nat.reduceAdd, Nat.reduceSub, Nat.reduceLeDiff, decide_true, wp_ok, met_wo, pw, dR, wo, i0, i1, nw, ini1, pk3, g6, g7, af, nn]
  refine hF _ (hK _ _ ?_)
  clear hF hT K2 hK hR K
  have mf : ∀ m, metO (DG (n + 9)) (sx [119, 105, 116, 104, 95, 102, 97, 99, 116]) (objF (f1 a b c)) m = some 30 := fun m => rfl
  have mo : ∀ m, metO (DG (n + 9)) (sx [119, 105, 116, 104, 95, 111, 119, 110]) (objF (f1 a b c)) m = some 31 := fun m => rfl
  have pf1 : ∀ {x y z : PV}, ((List.lookup 30 [(30, [.i 0, .i 2, .i 1])]).bind fun ar => pickN 1 2 [x] [z, y] ar) = some [x, y, z] := rfl
  have pf2 : ∀ {x y z : PV}, ((List.lookup 30 [(30, [.i 0, .i 1, .i 2]), (31, [.i 0, .i 1, .i 2])]).bind fun ar => pickN 3 0 [x, y, z] [] ar) = some [x, y, z] := rfl
  have pf3 : ∀ {x y z : PV}, ((List.lookup 31 [(31, [.i 0, .i 2, .i 1])]).bind fun ar => pickN 1 2 [x] [z, y] ar) = some [x, y, z] := rfl
  have pf4 : ∀ {x y z : PV}, ((List.lookup 31 [(30, [.i 0, .i 1, .i 2]), (31, [.i 0, .i 1, .i 2])]).bind fun ar => pickN 3 0 [x, y, z] [] ar) = some [x, y, z] := rfl
  have wf : ∀ m, RG (n + 9) 30 [objF (f1 a b c), .str annS, .str bobS] m = .ok (objF (f2 a b c)) m := fun m => with_fact_ok (n := n + 4) hf1 (by simp [f1, ww]) (by simp [f1, ww]) hf2
  have pe : (pp a b c).map (fun p => (p.1, if p.1 = cidS then 9 else p.2)) = pp a b 9 := by
    simp only [pp, List.map_cons, List.map_nil, if_neg ne_ac, if_neg ne_bc, if_true]
  have hf5 : FamOk (f5 a b c) := ⟨pp_ok ha0 hb0 (by decide), ww_ok hc0 hc1, fac1⟩
  have hAm5 : AmOk (f5 a b c) := fun p hp => by
    have hp : p ∈ pp a b 9 := hp
    simp only [pp, List.mem_cons, List.not_mem_nil, or_false] at hp
    rcases hp with rfl | rfl | rfl
    · exact amt_in ha0 ha1
    · exact amt_in hb0 (by omega)
    · exact amt_in (by decide) (by decide)
  have wn : ∀ m, RG (n + 9) 31 [objF (f1 a b c), .str cidS, .int 9] m = .ok (objF (f5 a b c)) m := fun m => by
    have := with_own_ok (n := n + 4) (f := f1 a b c) (x := cidS) (a := 9) (m := m) hf1 (by simp [f1, pp]) (by
      show FamOk ⟨(pp a b c).map (fun p => (p.1, if p.1 = cidS then 9 else p.2)), ww c, [(annS, bobS)]⟩
      rw [pe]
      exact hf5)
    refine this.trans ?_
    show Out.ok (objF ⟨(pp a b c).map (fun p => (p.1, if p.1 = cidS then 9 else p.2)), ww c, [(annS, bobS)]⟩) m = _
    rw [pe]
  have e9 : ∀ m, cmpV (DG (n + 9)) .eq (objF (f5 a b c)) (objF (f5 a b c)) m = .ok (.bl true) m := fun m => (feq (n := n + 5) hf5 hAm5).1
  refine sc fun K hK hR => si fun K2 hT hF => ?_
  try simp only [Ev.v0, Ev.vs, Ev.kk, Ev.bin, Ev.cmp, Ev.bok, Ev.ofs, Ev.test, Ev.iteE, Ev.val, Ev.nt, Ev.an, Ev.orE, Ev.tt, Ev.enil, Ev.econs, Ev.tup, Ev.lst, Ev.fz, Ev.cell, Ev.ix, Ev.call, Ev.bi, Ev.bi2, Ev.isi, Ev.m1, Ev.attr, Ev.sl, Ev.lof, Ev.srt, Ev.chain, Ev.gv0, Ev.gvs, Ev.gt, Ev.gnil, Ev.gcons, Ev.asg, Ev.setix, Ev.ex, Ev.ret, Ev.iff, Ev.forr, Ev.snil, Ev.scons, Ev.iseq, Ev.irange, Ev.vwI, Ev.vwS, Ev.vwB, Ev.vwN, Ev.vwL, Ev.vwT, Ev.vwO, Ev.asb, Ev.ckT, Ev.addI, Ev.subI, Ev.ltI, Ev.leI, Ev.gtI, Ev.geI, Ev.eqI, Ev.neI, Ev.intI, Ev.absI, Ev.lenL, Ev.lenT, Ev.lenC, Ev.strS, Ev.tupL, Ev.tupT, Ev.po0, Ev.poi, Ev.slL, Ev.setf, Ev.make, Ev.callk, Ev.meth, Ev.ienum, Ev.dnew, Ev.ddis, Ev.dof, Ev.dcm, Ev.rev1, Ev.dget2, Ev.irev, Ev.lc, Ev.lcf, Ev.forf, Ev.wi0, Ev.wi1, List.set_cons_succ, List.set_cons_zero, Co.bind_assoc, List.map_cons, List.map_nil, List.cons_append, List.nil_append, List.length_cons, List.length_nil, List.replicate_succ, List.replicate_zero, Nat.reduceAdd, Nat.reduceSub, Nat.reduceLeDiff, decide_true, wp_ok, mf, pf1, pf2, dR, wf, e2]
  refine hF _ (hK _ _ ?_)
  clear hF hT K2 hK hR K
  refine sc fun K hK hR => ?_
  try simp only [Ev.v0, Ev.vs, Ev.kk, Ev.bin, Ev.cmp, Ev.bok, Ev.ofs, Ev.test, Ev.iteE, Ev.val, Ev.nt, Ev.an, Ev.orE, Ev.tt, Ev.enil, Ev.econs, Ev.tup, Ev.lst, Ev.fz, Ev.cell, Ev.ix, Ev.call, Ev.bi, Ev.bi2, Ev.isi, Ev.m1, Ev.attr, Ev.sl, Ev.lof, Ev.srt, Ev.chain, Ev.gv0, Ev.gvs, Ev.gt, Ev.gnil, Ev.gcons, Ev.asg, Ev.setix, Ev.ex, Ev.ret, Ev.iff, Ev.forr, Ev.snil, Ev.scons, Ev.iseq, Ev.irange, Ev.vwI, Ev.vwS, Ev.vwB, Ev.vwN, Ev.vwL, Ev.vwT, Ev.vwO, Ev.asb, Ev.ckT, Ev.addI, Ev.subI, Ev.ltI, Ev.leI, Ev.gtI, Ev.geI, Ev.eqI, Ev.neI, Ev.intI, Ev.absI, Ev.lenL, Ev.lenT, Ev.lenC, Ev.strS, Ev.tupL, Ev.tupT, Ev.po0, Ev.poi, Ev.slL, Ev.setf, Ev.make, Ev.callk, Ev.meth, Ev.ienum, Ev.dnew, Ev.ddis, Ev.dof, Ev.dcm, Ev.rev1, Ev.dget2, Ev.irev, Ev.lc, Ev.lcf, Ev.forf, Ev.wi0, Ev.wi1, List.set_cons_succ, List.set_cons_zero, Co.bind_assoc, List.map_cons, List.map_nil, List.cons_append, List.nil_append, List.length_cons, List.length_nil, List.replicate_succ, List.replicate_zero, Nat.reduceAdd, Nat.reduceSub, Nat.reduceLeDiff, decide_true, wp_ok, mo, pf3, pf4, dR, wn, e9]
  refine hR _ _ (fun _ e => nomatch e) ?_
  clear hK hR K
  rfl
theorem law_all (ns : List Int) (h : ns.length ≤ 63) : isT (runFn TB 100000 40 39 [.scr ns] []) = true := by
  rw [run_g]
  obtain ⟨v, m, e, hv⟩ := wp_ex (law_ok (n := 30) (m := []) h)
  subst hv
  rw [show runG (gL 100000) TB.cl 40 39 [.scr ns] [] = .ok (.bl true) m from e]
  rfl
end My

end P_Xr
section P_E18
set_option maxRecDepth 100000
theorem PySem.Challenge.cw_heirorders_k18_families_by_names_holds : PySem.Challenge.rw_heirorders_k18_families_by_names.Holds :=
  My.holds_of My.law_all

end P_E18
