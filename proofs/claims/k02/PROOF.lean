import PyProof.Rows.All
import Wide.All
import OpenK.AllK
import Wide.FinOn
import KE.KStateDown
import HandS.Head0
import HandS.Head1
import HandS.Head2
import HandS.Base
import HandS.Call
import HandS.List
import HandS.TupAny
import HandS.Text
import HandS.StrMore
import HandS.Comp
import HandS.Words
import HandS.Defaults
import HandS.IsInst
import HandS.Deep
import HandS.Style
import PyProof.NeData
import HandS.Iter
import HandS.More
import HandS.Ends
import HandS.HeadEnd
import HandS.HeadHook2
import HandS.Codes
import PySem.Challenge.RW_wokenlives_k02_first_bad_token
set_option Elab.async false
set_option linter.all false
set_option maxRecDepth 100000
/-! PL0: a small pure language over plain data, and what its expressions and statements compute. -/
namespace PL
open PySem
/-- plain data -/
inductive D where
  | non | bl (b : Bool) | int (i : Int) | str (s : Str) | tup (xs : List D) | lst (xs : List D) | fls (xs : List D) | dct (kvs : List (D × D)) | fn (f : Nat)
mutual
def D.pd : D → PyData
  | .non => .none
  | .bl b => .bool b
  | .int i => .int i
  | .str s => .str s
  | .tup xs => .tuple (D.pds xs)
  | .lst xs => .list (D.pds xs)
  | .fls xs => .list (D.pds xs)
  | .dct _ => .dict []
  | .fn _ => .dict []
def D.pds : List D → List PyData
  | [] => []
  | x :: xs => x.pd :: D.pds xs
end
inductive B1 where
  | add | sub | mul | fdiv | mod | pow
  deriving DecidableEq
inductive CO where
  | eq | ne | lt | le | gt | ge | isin | notin | is_ | isnot
  deriving DecidableEq
/-- built-in functions and types called by name -/
inductive BI where
  | len | abs | int_ | str_ | tuple_ | list_ | all_ | any_ | sum_ | max_ | min_ | sorted_ | isint | isstr | istuple | islist | isbool
  deriving DecidableEq
/-- methods of built-in types -/
inductive MI where
  | index | find | split | join | get | values
  deriving DecidableEq
/-- methods of an own list: what is left, what is answered -/
inductive OM where
  | clear | pop | popat | insert | extend | reverse
  deriving DecidableEq
def omD : OM → List D → List D → Option (List D × D)
  | .clear, _, [] => some ([], .non)
  | .pop, ds, [] => (ds[ds.length - 1]?).map fun d => (ds.dropLast, d)
  | .popat, ds, [.int i] => if -(2 ^ 62) ≤ i ∧ i < 2 ^ 62 then (seqIndex? i ds.length).bind fun k => (ds[k]?).map fun d => (ds.eraseIdx k, d) else none
  | .insert, ds, [.int i, d] => if ds.length < sizeLine ∧ 0 ≤ i ∧ i < 2 ^ 62 then some (ds.take i.toNat ++ [d] ++ ds.drop i.toNat, .non) else none
  | .extend, ds, [.lst es] => if ds.length + es.length ≤ sizeLine then some (ds ++ es, .non) else none
  | .reverse, ds, [] => some (ds.reverse, .non)
  | _, _, _ => none
inductive E where
  | c (d : D) | var (i : Nat) | rd (i : Nat) | gl (x : Nat)
  | tup (es : List E) | lst (es : List E)
  | bin (o : B1) (a b : E) | neg (a : E) | nt (a : E)
  | cmp (o : CO) (a b : E) | chain (o1 o2 : CO) (a b c : E)
  | an (a b : E) | orr (a b : E) | ife (c a b : E)
  | ix (a b : E) | sl (a lo hi : E) | nohi
  | call (f : Nat) (es : List E) | callb (f : Nat) (es : List E) | cloc (i : Nat) (es : List E)
  | bi (f : BI) (es : List E) | me (m : MI) (o : E) (es : List E)
  | lc (is : List Nat) (it c e : E) | lcr (i : Nat) (es : List E) (c e : E)
  | no
inductive Sl where
  | un | sh (d : D) | ow (d : D)
abbrev Env := List Sl
def Sl.get : Sl → Option D
  | .un => none
  | .sh d => some d
  | .ow d => some d
def Sl.shd : Sl → Option D
  | .sh d => some d
  | _ => none
def Sl.own : Sl → Option D
  | .ow d => some d
  | _ => none
/-- one is in a row: the items are flat, or all of it is shaped -/
def flatD : D → Bool
  | .non => true
  | .bl _ => true
  | .int _ => true
  | .str _ => true
  | _ => false
def eqF : D → D → Bool
  | .non, .non => true
  | .bl a, .bl b => a == b
  | .bl a, .int b => (if a = true then 1 else 0) == b
  | .int a, .bl b => a == if b = true then 1 else 0
  | .int a, .int b => a == b
  | .str a, .str b => a == b
  | _, _ => false
/-- two that are compared at once -/
def scalD : D → D → Bool
  | .non, .non => true | .non, .int _ => true | .int _, .non => true | .non, .bl _ => true | .bl _, .non => true | .non, .str _ => true | .str _, .non => true
  | .int _, .int _ => true | .bl _, .bl _ => true | .str _, .str _ => true
  | .int _, .str _ => true | .str _, .int _ => true | .bl _, .str _ => true | .str _, .bl _ => true
  | _, _ => false
/-- the abstract equality: kinds and values, bools as numbers -/
def eqD (a b : D) : Option Bool :=
  if scalD a b then some (eqF a b) else if a.pd.canLay0 && b.pd.canLay0 && decide (min a.pd.depth b.pd.depth ≤ 64) then some (PyData.eqv a.pd b.pd) else none
def binD : B1 → D → D → Option D
  | .add, .int a, .int b => some (.int (a + b))
  | .add, .str a, .str b => if a.length + b.length ≤ sizeLine then some (.str (a ++ b)) else none
  | .add, .tup a, .tup b => if a.length + b.length ≤ sizeLine then some (.tup (a ++ b)) else none
  | .add, .lst a, .lst b => if a.length + b.length ≤ sizeLine then some (.lst (a ++ b)) else none
  | .sub, .int a, .int b => some (.int (a - b))
  | .mul, .int a, .int b => if (-(2 ^ 64) < a ∧ a < 2 ^ 64) ∨ (-(2 ^ 64) < b ∧ b < 2 ^ 64) then some (.int (a * b)) else none
  | .mul, .lst a, .int k => if 0 ≤ k ∧ k < 2 ^ 63 ∧ a.length * k.toNat ≤ sizeLine then some (.lst (List.replicate k.toNat a).flatten) else none
  | .fdiv, .int a, .int b => if b ≠ 0 ∧ b.natAbs < 1073741824 then some (.int (a.fdiv b)) else none
  | .mod, .int a, .int b => if b ≠ 0 then some (.int (a.fmod b)) else none
  | .pow, .int a, .int b => if 0 ≤ b ∧ b ≤ 1000000 ∧ a.natAbs < 2 ^ 64 then some (.int (a ^ b.toNat)) else none
  | _, _, _ => none
def inD : D → D → Option Bool
  | .str a, .str b => some (!(Builtin.Str.occurrences b a 0 b.length 1).isEmpty)
  | x, .tup ys => if flatD x && ys.all flatD then some (ys.any fun y => eqF y x) else none
  | x, .lst ys => if flatD x && ys.all flatD then some (ys.any fun y => eqF y x)
      else if SeqAt.shaped x.pd && SeqAt.shaped (D.lst ys).pd then some (ys.any fun y => PyData.eqv y.pd x.pd) else none
  | _, _ => none
def cmpD : CO → D → D → Option Bool
  | .eq, a, b => eqD a b
  | .ne, a, b => (eqD a b).map (!·)
  | .lt, .int a, .int b => some (decide (a < b))
  | .lt, .str a, .str b => some (decide (a.cps.toList < b.cps.toList))
  | .le, .int a, .int b => some (decide (a ≤ b))
  | .gt, .int a, .int b => some (decide (b < a))
  | .ge, .int a, .int b => some (decide (b ≤ a))
  | .isin, a, b => inD a b
  | .notin, a, b => (inD a b).map (!·)
  | .is_, .bl a, .bl b => some (a == b)
  | .is_, .non, .non => some true
  | .is_, _, .non => some false
  | .isnot, .non, .non => some false
  | .isnot, _, .non => some true
  | _, _, _ => none
def ixD : D → D → Option D
  | .tup xs, .int i => L2.atI xs i
  | .lst xs, .int i => L2.atI xs i
  | .fls xs, .int i => L2.atI xs i
  | .str z, .int i => if z.length ≤ sizeLine then (L2.atI z.cps.toList i).map fun c => .str ⟨#[c]⟩ else none
  | _, _ => none
def cutL (xs : List D) (lo hi : Option Int) : List D := (xs.drop (HT.sIx xs.length 0 lo)).take (HT.sIx xs.length xs.length hi - HT.sIx xs.length 0 lo)
def endD : D → Option (Option Int)
  | .int i => some (some i)
  | _ => none
def E.isNo : E → Bool
  | .nohi => true
  | _ => false
def slD : D → Option Int → Option Int → Option D
  | .tup xs, lo, hi => some (.tup (cutL xs lo hi))
  | .lst xs, lo, hi => some (.lst (cutL xs lo hi))
  | .str z, lo, hi => if z.length ≤ sizeLine then some (.str (L2.cutS z lo hi)) else none
  | _, _, _ => none
def sumD : List D → Option Int
  | [] => some 0
  | .int i :: r => (sumD r).map (i + ·)
  | _ => none
def boolsD : List D → Option (List Bool)
  | [] => some []
  | .bl b :: r => (boolsD r).map (b :: ·)
  | _ => none
def intsD : List D → Option (List Int)
  | [] => some []
  | .int b :: r => (intsD r).map (b :: ·)
  | _ => none
def strsD : List D → Option (List Str)
  | [] => some []
  | .str b :: r => (strsD r).map (b :: ·)
  | _ => none
def joinD (a : Str) (ds : List D) : Option D := (strsD ds).bind fun ys => if (ys.map (·.length)).sum + ys.length * a.length ≤ 16777216 then some (.str (Txt.join a ys)) else none
def meD : MI → D → List D → Option D
  | .split, .str a, [.str b] => if (b.length == 0) = false ∧ a.length + 2 ≤ sizeLine then some (.lst ((Txt.split a b).map D.str)) else none
  | .find, .str a, [.str b, .int i] => some (.int (Txt.find3 a b i))
  | .join, .str a, [.lst ds] => joinD a ds
  | .join, .str a, [.tup ds] => joinD a ds
  | _, _, _ => none
def biD : BI → List D → Option D
  | .len, [.tup xs] => some (.int xs.length)
  | .len, [.lst xs] => some (.int xs.length)
  | .len, [.fls xs] => some (.int xs.length)
  | .len, [.str z] => if z.length ≤ sizeLine then some (.int z.length) else none
  | .abs, [.int i] => some (.int (if i < 0 then -i else i))
  | .int_, [.int i] => some (.int i)
  | .int_, [.bl k] => some (.int (if k then 1 else 0))
  | .int_, [.str z] => if z.length ≤ 640 then (PySem.intText? z).map .int else none
  | .str_, [.int i] => if i.natAbs.log2 < 1920 then some (.str (toString i)) else none
  | .tuple_, [.lst xs] => some (.tup xs)
  | .tuple_, [.tup xs] => some (.tup xs)
  | .list_, [.lst xs] => some (.lst xs)
  | .list_, [.tup xs] => some (.lst xs)
  | .all_, [.lst xs] => (boolsD xs).map fun bs => .bl (bs.all id)
  | .any_, [.lst xs] => (boolsD xs).map fun bs => .bl (bs.any id)
  | .sum_, [.lst xs] => (intsD xs).map fun ns => .int ns.sum
  | .max_, [.int i, .int j] => some (.int (if j > i then j else i))
  | .min_, [.int i, .int j] => some (.int (if j < i then j else i))
  | .isint, [d] => match d with | .fls _ => none | .int _ => some (.bl true) | .bl _ => some (.bl true) | .fn _ => none | _ => some (.bl false)
  | .isstr, [d] => match d with | .fls _ => none | .str _ => some (.bl true) | .fn _ => none | _ => some (.bl false)
  | .istuple, [d] => match d with | .fls _ => none | .tup _ => some (.bl true) | .fn _ => none | _ => some (.bl false)
  | .islist, [d] => match d with | .fls _ => none | .lst _ => some (.bl true) | .fn _ => none | _ => some (.bl false)
  | .isbool, [d] => match d with | .fls _ => none | .bl _ => some (.bl true) | .fn _ => none | _ => some (.bl false)
  | _, _ => none
def rngD : List D → Option (List D)
  | [.int j] => if -(2 ^ 62) ≤ j ∧ j < 2 ^ 62 then some ((List.range j.toNat).map fun (k : Nat) => D.int (k : Int)) else none
  | [.int i, .int j] => if -(2 ^ 62) ≤ i ∧ i < 2 ^ 62 ∧ -(2 ^ 62) ≤ j ∧ j < 2 ^ 62 then some ((List.range (j - i).toNat).map fun (k : Nat) => D.int (i + (k : Int))) else none
  | _ => none
def itD : D → Option (List D)
  | .tup xs => some xs
  | .lst xs => some xs
  | .fls xs => some xs
  | .str z => some (z.cps.toList.map fun c => .str ⟨#[c]⟩)
  | _ => none
/-- store a turn's item: one name, or several that unpack it -/
def tgs : List Nat → List D → Env → Option Env
  | [], [], s => some s
  | i :: is, x :: xs, s => tgs is xs (s.set i (.sh x))
  | _, _, _ => none
def tgD : List Nat → D → Env → Option Env
  | [i], d, s => some (s.set i (.sh d))
  | is, .tup xs, s => tgs is xs s
  | _, _, _ => none
/-- a block's own names forgotten -/
def wipeE (s : Env) : List Nat → Env
  | [] => s
  | v :: vs => (wipeE s vs).set v .un
/-- a comprehension: each item in turn -/
def lcD (f : D → Option (Option D)) : List D → Option (List D)
  | [] => some []
  | x :: xs => (f x).bind fun y => (lcD f xs).map fun r => match y with
    | some y => y :: r
    | none => r
abbrev Fc := Nat → List D → Option (D × List D)
mutual
/-- no list is within -/
def noL : D → Bool
  | .lst _ => false
  | .fls _ => false
  | .dct _ => false
  | .tup xs => noLs xs
  | _ => true
def noLs : List D → Bool
  | [] => true
  | x :: xs => noL x && noLs xs
end
mutual
def ev (F : Fc) (G : Nat → Option D) : E → Env → Option D
  | .c d, _ => some d
  | .var i, s => (s[i]?).bind Sl.shd
  | .rd i, s => (s[i]?).bind Sl.own
  | .gl x, _ => G x
  | .tup es, s => (evs F G es s).bind fun xs => if xs.length ≤ sizeLine then some (.tup xs) else none
  | .lst es, s => (evs F G es s).bind fun xs => if xs.length ≤ sizeLine then some (.lst xs) else none
  | .bin o a b, s => (ev F G a s).bind fun x => (ev F G b s).bind fun y => binD o x y
  | .neg a, s => (ev F G a s).bind fun x => match x with
    | .int i => some (.int (-i))
    | _ => none
  | .nt a, s => (ev F G a s).bind fun x => match x with
    | .bl b => some (.bl (!b))
    | _ => none
  | .cmp o a b, s => (ev F G a s).bind fun x => (ev F G b s).bind fun y => (cmpD o x y).map .bl
  | .chain o1 o2 a b c, s => (ev F G a s).bind fun x => (ev F G b s).bind fun y => (cmpD o1 x y).bind fun k =>
      if k = true then (ev F G c s).bind fun z => (cmpD o2 y z).map .bl else some (.bl false)
  | .an a b, s => (ev F G a s).bind fun x => match x with
    | .bl true => ev F G b s
    | .bl false => some (.bl false)
    | _ => none
  | .orr a b, s => (ev F G a s).bind fun x => match x with
    | .bl true => some (.bl true)
    | .bl false => ev F G b s
    | _ => none
  | .ife c a b, s => (ev F G c s).bind fun x => match x with
    | .bl true => ev F G a s
    | .bl false => ev F G b s
    | _ => none
  | .ix a b, s => (ev F G a s).bind fun x => (ev F G b s).bind fun y => ixD x y
  | .sl a lo hi, s => (ev F G a s).bind fun x => (if lo.isNo then some none else (ev F G lo s).bind endD).bind fun l => (if hi.isNo then some none else (ev F G hi s).bind endD).bind fun h => slD x l h
  | .nohi, _ => none
  | .call f es, s => (evs F G es s).bind fun xs => (F f xs).bind fun r => match r.2 with
    | [] => some r.1
    | _ => none
  | .callb f es, s => (evs F G es s).bind fun xs => (F f xs).bind fun r => match r.2 with
    | [] => if noL r.1 then some r.1 else none
    | _ => none
  | .cloc i es, s => (s[i]?).bind fun o => (evs F G es s).bind fun xs => match o with
    | .sh (.fn f) => (F f xs).bind fun r => match r.2 with
      | [] => some r.1
      | _ => none
    | _ => none
  | .bi f es, s => (evs F G es s).bind fun xs => biD f xs
  | .me m o es, s => (ev F G o s).bind fun x => (evs F G es s).bind fun xs => meD m x xs
  | .lc is it c e, s => (ev F G it s).bind fun l => (itD l).bind fun xs =>
      (lcD (fun x => (tgD is x (wipeE s is)).bind fun s2 => (ev F G c s2).bind fun k => match k with
        | .bl true => (ev F G e s2).map some
        | .bl false => some none
        | _ => none) xs).bind fun r => if r.length ≤ sizeLine then some (.lst r) else none
  | .lcr i es c e, s => (evs F G es s).bind fun l => (rngD l).bind fun xs =>
      (lcD (fun x => (tgD [i] x (wipeE s [i])).bind fun s2 => (ev F G c s2).bind fun k => match k with
        | .bl true => (ev F G e s2).map some
        | .bl false => some none
        | _ => none) xs).bind fun r => if r.length ≤ sizeLine then some (.lst r) else none
  | .no, _ => none
def evs (F : Fc) (G : Nat → Option D) : List E → Env → Option (List D)
  | [], _ => some []
  | e :: es, s => (ev F G e s).bind fun x => (evs F G es s).map (x :: ·)
end

inductive S where
  | set (i : Nat) (e : E) | seto (i : Nat) (e : E)
  | unp (is : List Nat) (e : E) | par (i j : Nat) (a b : E)
  | aug (i : Nat) (o : B1) (e : E)
  | expr (e : E)
  | mth (i : Nat) (m : OM) (es : List E) | mthx (j i : Nat) (m : OM) (es : List E)
  | app (i : Nat) (e : E) | sets (i : Nat) (k e : E)
  | ret (e : E) | reto (i : Nat) | retn
  | iff (c : E) (a b : List S) | whl (c : E) (b : List S) | for_ (is : List Nat) (it : E) (b : List S) | forr (i : Nat) (es : List E) (b : List S)
  | brk | cnt | pass | share (i : Nat) | never
inductive Out where
  | nx (s : Env) | rt (d : D) (s : Env) | bk (s : Env) | ct (s : Env)
/-- a for loop over items -/
def forD (t : D → Env → Option Env) (b : Env → Option Out) : List D → Env → Option Out
  | [], s => some (.nx s)
  | x :: xs, s => (t x s).bind fun s1 => (b s1).bind fun o => match o with
    | .nx s2 => forD t b xs s2
    | .ct s2 => forD t b xs s2
    | .bk s2 => some (.nx s2)
    | .rt d s2 => some (.rt d s2)
/-- a while loop, at most n turns -/
def whlD (c : Env → Option D) (b : Env → Option Out) : Nat → Env → Option Out
  | 0, _ => none
  | n + 1, s => (c s).bind fun k => match k with
    | .bl true => (b s).bind fun o => match o with
      | .nx s2 => whlD c b n s2
      | .ct s2 => whlD c b n s2
      | .bk s2 => some (.nx s2)
      | .rt d s2 => some (.rt d s2)
    | .bl false => some (.nx s)
    | _ => none
def fuel : Nat := 2 ^ 40
mutual
def ex (F : Fc) (G : Nat → Option D) : S → Env → Option Out
  | .set i e, s => (ev F G e s).map fun d => .nx (s.set i (.sh d))
  | .seto i e, s => (ev F G e s).bind fun d => match d with
    | .lst xs => some (.nx (s.set i (.ow (.lst xs))))
    | _ => none
  | .unp is e, s => (ev F G e s).bind fun d => (tgD is d s).map .nx
  | .par i j a b, s => (ev F G a s).bind fun x => (ev F G b s).map fun y => .nx ((s.set i (.sh x)).set j (.sh y))
  | .aug i o e, s => ((s[i]?).bind Sl.shd).bind fun x => (ev F G e s).bind fun y => match x, y with
    | .int a, .int b => (binD o (.int a) (.int b)).map fun z => .nx (s.set i (.sh z))
    | _, _ => none
  | .expr e, s => (ev F G e s).map fun _ => .nx s
  | .app i e, s => ((s[i]?).bind Sl.own).bind fun x => (ev F G e s).bind fun d => match x with
    | .lst xs => if xs.length < sizeLine then some (.nx (s.set i (.ow (.lst (xs ++ [d]))))) else none
    | _ => none
  | .mth i m es, s => ((s[i]?).bind Sl.own).bind fun x => (evs F G es s).bind fun xs => match x with
    | .lst ds => (omD m ds xs).map fun r => .nx (s.set i (.ow (.lst r.1)))
    | _ => none
  | .mthx j i m es, s => ((s[i]?).bind Sl.own).bind fun x => (evs F G es s).bind fun xs => match x with
    | .lst ds => (omD m ds xs).map fun r => .nx ((s.set i (.ow (.lst r.1))).set j (.sh r.2))
    | _ => none
  | .sets i k e, s => ((s[i]?).bind Sl.own).bind fun x => (ev F G e s).bind fun d => (ev F G k s).bind fun k => match x, k with
    | .lst xs, .int k => (L2.ixN xs.length k).map fun j => .nx (s.set i (.ow (.lst (xs.set j d))))
    | _, _ => none
  | .ret e, s => (ev F G e s).map fun d => .rt d s
  | .reto i, s => ((s[i]?).bind Sl.own).map fun d => .rt d s
  | .retn, s => some (.rt .non s)
  | .iff c a b, s => (ev F G c s).bind fun k => match k with
    | .bl true => exs F G a s
    | .bl false => exs F G b s
    | _ => none
  | .whl c b, s => whlD (ev F G c) (exs F G b) fuel s
  | .for_ is it b, s => (ev F G it s).bind fun l => (itD l).bind fun xs => forD (tgD is) (exs F G b) xs s
  | .forr i es b, s => (evs F G es s).bind fun l => (rngD l).bind fun xs => forD (tgD [i]) (exs F G b) xs s
  | .brk, s => some (.bk s)
  | .cnt, s => some (.ct s)
  | .pass, s => some (.nx s)
  | .share i, s => ((s[i]?).bind Sl.own).map fun d => .nx (s.set i (.sh d))
  | .never, _ => none
def exs (F : Fc) (G : Nat → Option D) : List S → Env → Option Out
  | [], s => some (.nx s)
  | a :: r, s => (ex F G a s).bind fun o => match o with
    | .nx s2 => exs F G r s2
    | o => some o
end
/-- a def: its names by slots (parameters first), how many parameters, the constants that stand behind the written arguments, whether what it hands back is a list of its own, its body -/
structure Fn where
  name : Str
  names : List Str
  ps : Nat
  dfl : List D
  fresh : Bool
  body : List S
def Fn.start (f : Fn) (xs : List D) : Env := xs.map .sh ++ List.replicate (f.names.length - xs.length) .un
abbrev Tab := Nat → Option Fn
def call (T : Tab) (G : Nat → Option D) : Nat → Fc
  | 0, _, _ => none
  | n + 1, f, xs => (T f).bind fun fi => if (xs ++ fi.dfl).length = fi.ps then match exs (call T G n) G fi.body (fi.start (xs ++ fi.dfl)) with
    | some (.nx _) => some (.non, [])
    | some (.rt d _) => some (d, [])
    | _ => none
    else none
end PL

/-! PL1: what the small language computes is what the text does. -/
namespace PL
open PySem PySem.Spec PyProof.Rows L2
/-! ### data at values -/
open Classical in
noncomputable def gd (S : Addr → Prop) (H : Hp) : Hp := fun a => if S a then none else H a
section
variable (K : PySem.W.Frag) (FA : Nat → Addr)
mutual
inductive R (G : Hp) : V → D → Prop
  | non : R G .non .non
  | bl (b : Bool) : R G (.bl b) (.bl b)
  | int (i : Int) : R G (.int i) (.int i)
  | str (x : Str) : R G (.str x) (.str x)
  | tup {a : Addr} {vs : List V} {ds : List D} : SqT K G a vs → Rs G vs ds → R G (.ref a) (.tup ds)
  | lst {a : Addr} {vs : List V} {ds : List D} : G a = some (.lst vs) → Rs G vs ds → R G (.ref a) (.lst ds)
  | fls {a : Addr} {vs : List V} {ds : List D} : SqL K G a vs → Rs G vs ds → R G (.ref a) (.fls ds)
  | fn (f : Nat) : R G (.ref (FA f)) (.fn f)
inductive Rs (G : Hp) : List V → List D → Prop
  | nil : Rs G [] []
  | cons {v : V} {vs : List V} {d : D} {ds : List D} : R G v d → Rs G vs ds → Rs G (v :: vs) (d :: ds)
end
end
section
variable {K : PySem.W.Frag} {FA : Nat → Addr} {G G' H H' H1 : Hp} {S S' : Addr → Prop} {v : V} {d : D} {vs : List V} {ds : List D} {a : Addr} {o : HO}
theorem rd_mono (m : Same G G') {u : HO} (h : Rd G a u) : Rd G' a u := h.elim (fun q => .inl (m _ _ q)) fun ⟨o, q⟩ => .inr ⟨o, m _ _ q⟩
theorem sqT_mono (m : Same G G') (h : SqT K G a vs) : SqT K G' a vs := h.elim (fun q => .inl (rd_mono m q)) .inr
theorem sqL_mono (m : Same G G') (h : SqL K G a vs) : SqL K G' a vs := h.elim (fun q => .inl (rd_mono m q)) .inr
mutual
theorem R.mono (m : Same G G') : ∀ {v : V} {d : D}, R K FA G v d → R K FA G' v d
  | _, _, .non => .non
  | _, _, .bl b => .bl b
  | _, _, .int i => .int i
  | _, _, .str x => .str x
  | _, _, .tup h r => .tup (sqT_mono m h) (Rs.mono m r)
  | _, _, .lst h r => .lst (m _ _ h) (Rs.mono m r)
  | _, _, .fls h r => .fls (sqL_mono m h) (Rs.mono m r)
  | _, _, .fn f => .fn f
theorem Rs.mono (m : Same G G') : ∀ {vs : List V} {ds : List D}, Rs K FA G vs ds → Rs K FA G' vs ds
  | _, _, .nil => .nil
  | _, _, .cons h r => .cons (R.mono m h) (Rs.mono m r)
end
theorem Rs.length : ∀ {vs : List V} {ds : List D}, Rs K FA G vs ds → vs.length = ds.length
  | _, _, .nil => rfl
  | _, _, .cons _ r => congrArg Nat.succ (Rs.length r)
theorem Rs.append : ∀ {vs : List V} {ds : List D} {ws : List V} {es : List D}, Rs K FA G vs ds → Rs K FA G ws es → Rs K FA G (vs ++ ws) (ds ++ es)
  | _, _, _, _, .nil, s => s
  | _, _, _, _, .cons h r, s => .cons h (Rs.append r s)
theorem Rs.get : ∀ {vs : List V} {ds : List D} {i : Nat} {d : D}, Rs K FA G vs ds → ds[i]? = some d → ∃ v, vs[i]? = some v ∧ R K FA G v d
  | _, _, _, _, .nil, e => by simp at e
  | _, _, 0, _, .cons h _, e => by simp at e; subst e; exact ⟨_, rfl, h⟩
  | _, _, i + 1, _, .cons _ r, e => by
    obtain ⟨v, h1, h2⟩ := Rs.get (i := i) r (by simpa using e)
    exact ⟨v, by simpa using h1, h2⟩
theorem Rs.get' : ∀ {vs : List V} {ds : List D} {i : Nat} {v : V}, Rs K FA G vs ds → vs[i]? = some v → ∃ d, ds[i]? = some d ∧ R K FA G v d
  | _, _, _, _, .nil, e => by simp at e
  | _, _, 0, _, .cons h _, e => by simp at e; subst e; exact ⟨_, rfl, h⟩
  | _, _, i + 1, _, .cons _ r, e => by
    obtain ⟨v, h1, h2⟩ := Rs.get' (i := i) r (by simpa using e)
    exact ⟨v, by simpa using h1, h2⟩
theorem Rs.take : ∀ (n : Nat) {vs : List V} {ds : List D}, Rs K FA G vs ds → Rs K FA G (vs.take n) (ds.take n)
  | 0, _, _, _ => by simp; exact .nil
  | _ + 1, _, _, .nil => by simp; exact .nil
  | n + 1, _, _, .cons h r => by simp; exact .cons h (Rs.take n r)
theorem Rs.drop : ∀ (n : Nat) {vs : List V} {ds : List D}, Rs K FA G vs ds → Rs K FA G (vs.drop n) (ds.drop n)
  | 0, _, _, r => by simpa using r
  | _ + 1, _, _, .nil => by simp; exact .nil
  | n + 1, _, _, .cons _ r => by simp; exact Rs.drop n r
theorem Rs.set : ∀ (n : Nat) {vs : List V} {ds : List D} {v : V} {d : D}, Rs K FA G vs ds → R K FA G v d → Rs K FA G (vs.set n v) (ds.set n d)
  | _, _, _, _, _, .nil, _ => by simp; exact .nil
  | 0, _, _, _, _, .cons _ r, q => by simp; exact .cons q r
  | n + 1, _, _, _, _, .cons h r, q => by simp; exact .cons h (Rs.set n r q)
theorem gd_sub : Same (gd S H) H := fun b o e => by
  unfold gd at e
  split at e
  · cases e
  · exact e
theorem gd_mono (m : Same H H') : Same (gd S H) (gd S H') := fun b o e => by
  unfold gd at *
  split at e
  · cases e
  · rename_i n
    rw [if_neg n]
    exact m b o e
theorem gd_anti (m : ∀ a, S a → S' a) : Same (gd S' H) (gd S H) := fun b o e => by
  unfold gd at *
  split at e
  · cases e
  · rename_i n
    rw [if_neg fun z => n (m b z)]
    exact e
theorem gd_of (n : ¬ S a) (e : H a = some o) : gd S H a = some o := by
  unfold gd
  rw [if_neg n]
  exact e
/-- what is left out stands in the heap -/
def Dom (S : Addr → Prop) (H : Hp) : Prop := ∀ a, S a → ∃ vs, H a = some (.lst vs)
theorem Dom.mono (x : Dom S H) (m : Same H H') : Dom S H' := fun a h => let ⟨vs, e⟩ := x a h; ⟨vs, m _ _ e⟩
theorem Dom.nn (x : Dom S H) {a : Addr} (h : S a) (e : H a = none) : False := by
  obtain ⟨vs, q⟩ := x a h
  rw [e] at q
  cases q
theorem same_upd (m : Same H H1) (n : H1 a = none) : Same H (upd H1 a o) := fun b u e => by
  rw [upd_ne (ne_of_none (m b u e) n)]
  exact m b u e
theorem same_new (n : H1 a = none) : Same H1 (upd H1 a o) := same_upd (Same.refl _) n
theorem gd_new (x : Dom S H) (n : H a = none) : gd S (upd H a o) a = some o := gd_of (fun z => x.nn z n) upd_same
theorem R.new_tup (x : Dom S H) (n : H a = none) (r : Rs K FA (gd S H) vs ds) : R K FA (gd S (upd H a (.tup vs))) (.ref a) (.tup ds) :=
  .tup (SqT.of (gd_new x n)) (r.mono (gd_mono (same_new n)))
theorem R.new_lst (x : Dom S H) (n : H a = none) (r : Rs K FA (gd S H) vs ds) : R K FA (gd S (upd H a (.lst vs))) (.ref a) (.lst ds) :=
  .lst (gd_new x n) (r.mono (gd_mono (same_new n)))
/-- a value that is read: known at what may be shared, or a list that one alone holds -/
def RA (K : PySem.W.Frag) (FA : Nat → Addr) (S : Addr → Prop) (H : Hp) (v : V) (d : D) : Prop :=
  R K FA (gd S H) v d ∨ ∃ a vs ds, v = .ref a ∧ d = .lst ds ∧ H a = some (.lst vs) ∧ Rs K FA (gd S H) vs ds
theorem RA.mono (m : Same H H') (r : RA K FA S H v d) : RA K FA S H' v d := r.elim (fun r => .inl (r.mono (gd_mono m))) fun ⟨a, vs, ds, e1, e2, e3, e4⟩ => .inr ⟨a, vs, ds, e1, e2, m _ _ e3, e4.mono (gd_mono m)⟩
theorem RA.non (r : RA K FA S H v .non) : v = .non := by
  rcases r with r | ⟨_, _, _, _, e, _⟩
  · cases r; rfl
  · cases e
theorem RA.bl {b : Bool} (r : RA K FA S H v (.bl b)) : v = .bl b := by
  rcases r with r | ⟨_, _, _, _, e, _⟩
  · cases r; rfl
  · cases e
theorem RA.int {i : Int} (r : RA K FA S H v (.int i)) : v = .int i := by
  rcases r with r | ⟨_, _, _, _, e, _⟩
  · cases r; rfl
  · cases e
theorem RA.str {x : Str} (r : RA K FA S H v (.str x)) : v = .str x := by
  rcases r with r | ⟨_, _, _, _, e, _⟩
  · cases r; rfl
  · cases e
theorem RA.fn {x : Nat} (r : RA K FA S H v (.fn x)) : v = .ref (FA x) := by
  rcases r with r | ⟨_, _, _, _, e, _⟩
  · cases r; rfl
  · cases e
theorem RA.tup (r : RA K FA S H v (.tup ds)) : ∃ a vs, v = .ref a ∧ SqT K H a vs ∧ Rs K FA (gd S H) vs ds := by
  rcases r with r | ⟨_, _, _, _, e, _⟩
  · cases r with
    | tup h r => exact ⟨_, _, rfl, sqT_mono gd_sub h, r⟩
  · cases e
theorem RA.lst (r : RA K FA S H v (.lst ds)) : ∃ a vs, v = .ref a ∧ H a = some (.lst vs) ∧ Rs K FA (gd S H) vs ds := by
  rcases r with r | ⟨a, vs, ds', e1, e2, e3, e4⟩
  · cases r with
    | lst h r => exact ⟨_, _, rfl, gd_sub _ _ h, r⟩
  · cases e2
    exact ⟨_, _, e1, e3, e4⟩
theorem RA.fls (r : RA K FA S H v (.fls ds)) : ∃ a vs, v = .ref a ∧ SqL K H a vs ∧ Rs K FA (gd S H) vs ds := by
  rcases r with r | ⟨_, _, _, _, e, _⟩
  · cases r with
    | fls h r => exact ⟨_, _, rfl, sqL_mono gd_sub h, r⟩
  · cases e
theorem RA.fls' (r : RA K FA S H v (.fls ds)) : ∃ a vs, v = .ref a ∧ SqL K (gd S H) a vs ∧ Rs K FA (gd S H) vs ds := by
  rcases r with r | ⟨_, _, _, _, e, _⟩
  · cases r with
    | fls h r => exact ⟨_, _, rfl, h, r⟩
  · cases e
/-- all of it, in the whole heap -/
theorem RA.all (r : RA K FA S H v d) : R K FA H v d := r.elim (fun r => r.mono gd_sub) fun ⟨_, _, _, e1, e2, e3, e4⟩ => by
  subst e1 e2
  exact .lst e3 (e4.mono gd_sub)
mutual
theorem R.dp : ∀ {v : V} {d : D}, R K FA G v d → d.pd.canLay0 = true → Dp K G v d.pd
  | _, _, .non, _ => .non
  | _, _, .bl b, _ => .bl b
  | _, _, .int i, _ => .int i
  | _, _, .str x, _ => .str x
  | _, _, .tup h r, c => .tup h (Rs.dp r (by simpa [D.pd, PyData.canLay0] using c))
  | _, _, .lst h r, c => .lst (SqL.of h) (Rs.dp r (by simpa [D.pd, PyData.canLay0] using c))
  | _, _, .fls h r, c => .lst h (Rs.dp r (by simpa [D.pd, PyData.canLay0] using c))
  | _, _, .fn f, c => by simp [D.pd, PyData.canLay0] at c
theorem Rs.dp : ∀ {vs : List V} {ds : List D}, Rs K FA G vs ds → PyData.canLayAll0 (D.pds ds) = true → DpAll K G vs (D.pds ds)
  | _, _, .nil, _ => .nil
  | _, _, .cons h r, c => by
    simp only [D.pds, PyData.canLayAll0] at c
    obtain ⟨c1, c2⟩ := Bool.and_eq_true_iff.mp c
    exact .cons (R.dp h c1) (Rs.dp r c2)
end
/-- a list that is new since H and nobody else's; anything else is no list -/
def Fr (K : PySem.W.Frag) (FA : Nat → Addr) (S : Addr → Prop) (H H' : Hp) (v : V) (d : D) : Prop :=
  ∀ ds, d = .lst ds → ∃ a vs, v = .ref a ∧ H a = none ∧ H' a = some (.lst vs) ∧ Rs K FA (gd (fun b => S b ∨ b = a) H') vs ds
theorem Fr.back (m : Same H1 H) (f : Fr K FA S H H' v d) : Fr K FA S H1 H' v d := fun ds e => by
  obtain ⟨a, vs, e1, e2, e3, e4⟩ := f ds e
  exact ⟨a, vs, e1, m.free e2, e3, e4⟩
theorem Fr.no (h : ∀ ds, d ≠ .lst ds) : Fr K FA S H H' v d := fun ds e => absurd e (h ds)
theorem Rs.gd_ne {a : Addr} (x : Dom S H) (n : H a = none) (r : Rs K FA (gd S H) vs ds) : Rs K FA (gd (fun b => S b ∨ b = a) (upd H a o)) vs ds := r.mono fun b u e => by
  have hb : H b = some u := gd_sub b u e
  have nb : b ≠ a := ne_of_none hb n
  have ns : ¬ S b := fun z => by
    unfold gd at e
    rw [if_pos z] at e
    cases e
  rw [gd_of (fun z => z.elim ns nb)]
  rw [upd_ne nb]
  exact hb
theorem Fr.new (x : Dom S H1) (m : Same H H1) (n : H1 a = none) (r : Rs K FA (gd S H1) vs ds) : Fr K FA S H (upd H1 a (.lst vs)) (.ref a) (.lst ds) := fun ds' e => by
  cases e
  exact ⟨a, vs, rfl, m.free n, upd_same, r.gd_ne x n⟩
end
end PL

/-! PL2: operators and built-ins by values. -/
namespace PL
open PySem PySem.Spec PyProof.Rows L2
section
variable {X : Cx} {K : PySem.W.Frag} {FA : Nat → Addr} {S : Addr → Prop} {H : Hp} {v u : V} {x y d : D} {Q : VK}
/-! ### equality -/
def rEqM (K : PySem.W.Frag) : R2 := fun x y H Q => ∃ d e, Dp K H x d ∧ Dp K H y e ∧ d.canLay0 = true ∧ e.canLay0 = true ∧ min d.depth e.depth ≤ 64 ∧ Q (.bl (PyData.eqv d e)) H
def rNeM (K : PySem.W.Frag) : R2 := fun x y H Q => ∃ d e, Dp K H x d ∧ Dp K H y e ∧ d.canLay0 = true ∧ e.canLay0 = true ∧ min d.depth e.depth ≤ 64 ∧ Q (.bl (!PyData.eqv d e)) H
theorem op_eqM (hu : X.A.units + 64 < cLine) : OpR X (compareOp .Eq) (rEqM X.K) := by
  intro pins s σ H x y v u Q I rx ry h
  obtain ⟨d, e, hd, he, sd, se, hm, q⟩ := h
  obtain ⟨as, r1⟩ := Dp.reads I d x v hd rx
  obtain ⟨bs, r2⟩ := Dp.reads I e y u he ry
  exact SeqAt.compareEq_reads r1 r2 sd se (by omega) ⟨.bl _, H, I, rfl, q⟩
theorem op_neM (hu : X.A.units + 64 < cLine) : OpR X (compareOp .NotEq) (rNeM X.K) := by
  intro pins s σ H x y v u Q I rx ry h
  obtain ⟨d, e, hd, he, sd, se, hm, q⟩ := h
  obtain ⟨as, r1⟩ := Dp.reads I d x v hd rx
  obtain ⟨bs, r2⟩ := Dp.reads I e y u he ry
  exact SeqAt.compareNe_reads r1 r2 sd se (by omega) ⟨.bl _, H, I, rfl, q⟩
/-! ### operators -/
def pyOp : B1 → Operator
  | .add => .Add
  | .sub => .Sub
  | .mul => .Mult
  | .fdiv => .FloorDiv
  | .mod => .Mod
  | .pow => .Pow
def rAddStr : R2 := fun x y H Q => ∃ i j, x = .str i ∧ y = .str j ∧ i.length + j.length ≤ sizeLine ∧ Q (.str (i ++ j)) H
def rB (K : PySem.W.Frag) : B1 → R2
  | .add => fun x y H Q => (rI0 (fun i j => .int (i + j)) x y H Q ∨ rAddStr x y H Q) ∨ (rCatA K x y H Q ∨ rCat x y H Q)
  | .sub => rI0 fun i j => .int (i - j)
  | .mul => fun x y H Q => rI CMul (fun i j => .int (i * j)) x y H Q ∨ rRep x y H Q
  | .fdiv => rI CDivN fun i j => .int (i.fdiv j)
  | .mod => rI (fun _ j => j ≠ 0) fun i j => .int (i.fmod j)
  | .pow => rI CPow fun i j => .int (i ^ j.toNat)
theorem opB : ∀ o : B1, OpR X (binaryOp (pyOp o)) (rB X.K o)
  | .add => (op_add.or op_add_str).or (op_catA.or op_cat)
  | .sub => op_sub
  | .mul => op_mul.or op_rep
  | .fdiv => op_fdivN
  | .mod => op_modN
  | .pow => op_pow
/-- what is handed on: known at what may be shared, its list new -/
def Ok (K : PySem.W.Frag) (FA : Nat → Addr) (S : Addr → Prop) (H : Hp) (d : D) (Q : VK) : Prop :=
  ∀ v H', Same H H' → R K FA (gd S H') v d → Fr K FA S H H' v d → Q v H'
theorem Ok.int {i : Int} (q : Ok K FA S H (.int i) Q) : Q (.int i) H := q _ _ (Same.refl _) (.int i) (Fr.no fun _ e => by cases e)
theorem Ok.bl {b : Bool} (q : Ok K FA S H (.bl b) Q) : Q (.bl b) H := q _ _ (Same.refl _) (.bl b) (Fr.no fun _ e => by cases e)
theorem Ok.str {b : Str} (q : Ok K FA S H (.str b) Q) : Q (.str b) H := q _ _ (Same.refl _) (.str b) (Fr.no fun _ e => by cases e)
theorem Ok.non (q : Ok K FA S H .non Q) : Q .non H := q _ _ (Same.refl _) .non (Fr.no fun _ e => by cases e)
theorem Ok.tup {ds : List D} (q : Ok K FA S H (.tup ds) Q) {a : Addr} {vs : List V} (h : SqT K (gd S H) a vs) (r : Rs K FA (gd S H) vs ds) : Q (.ref a) H :=
  q _ _ (Same.refl _) (.tup h r) (Fr.no fun _ e => by cases e)
theorem Ok.newT {ds : List D} (q : Ok K FA S H (.tup ds) Q) {a : Addr} {vs : List V} (x : Dom S H) (n : H a = none) (r : Rs K FA (gd S H) vs ds) : Q (.ref a) (upd H a (.tup vs)) :=
  q _ _ (same_new n) (.new_tup x n r) (Fr.no fun _ e => by cases e)
theorem Ok.newL {ds : List D} (q : Ok K FA S H (.lst ds) Q) {a : Addr} {vs : List V} (x : Dom S H) (n : H a = none) (r : Rs K FA (gd S H) vs ds) : Q (.ref a) (upd H a (.lst vs)) :=
  q _ _ (same_new n) (.new_lst x n r) (Fr.new x (Same.refl _) n r)
theorem RA.tup' {ds : List D} (r : RA K FA S H v (.tup ds)) : ∃ a vs, v = .ref a ∧ SqT K (gd S H) a vs ∧ Rs K FA (gd S H) vs ds := by
  rcases r with r | ⟨_, _, _, _, e, _⟩
  · cases r with
    | tup h r => exact ⟨_, _, rfl, h, r⟩
  · cases e
theorem rep_rs {vs : List V} {ds : List D} (r : Rs K FA (gd S H) vs ds) : ∀ n : Nat, Rs K FA (gd S H) (List.replicate n vs).flatten (List.replicate n ds).flatten
  | 0 => .nil
  | n + 1 => by
    rw [List.replicate_succ, List.replicate_succ, List.flatten_cons, List.flatten_cons]
    exact r.append (rep_rs r n)
theorem bin_ok {o : B1} (e : binD o x y = some d) (rx : RA K FA S H v x) (ry : RA K FA S H u y) (dm : Dom S H) (q : Ok K FA S H d Q) : rB K o v u H Q := by
  unfold binD at e
  split at e
  · cases e; cases rx.int; cases ry.int
    exact .inl (.inl ⟨_, _, rfl, rfl, q.int⟩)
  · split at e
    · cases e; cases rx.str; cases ry.str
      exact .inl (.inr ⟨_, _, rfl, rfl, by assumption, q.str⟩)
    · cases e
  · split at e
    · cases e
      rename_i hz
      obtain ⟨a, vs, rfl, ha, hr⟩ := rx.tup'
      obtain ⟨b, ws, rfl, hb, hr2⟩ := ry.tup'
      refine .inr (.inl ⟨a, b, vs, ws, rfl, rfl, sqT_mono gd_sub ha, sqT_mono gd_sub hb, by rw [hr.length, hr2.length]; exact hz, fun e => ?_, fun _ e => ?_, fun _ _ p hp => q.newT dm hp (hr.append hr2)⟩)
      · subst e
        cases hr
        exact q.tup hb (by simpa using hr2)
      · subst e
        cases hr2
        exact q.tup ha (by simpa using hr)
    · cases e
  · split at e
    · cases e
      rename_i hz
      obtain ⟨a, vs, rfl, ha, hr⟩ := rx.lst
      obtain ⟨b, ws, rfl, hb, hr2⟩ := ry.lst
      exact .inr (.inr ⟨a, b, vs, ws, rfl, rfl, ha, hb, by rw [hr.length, hr2.length]; exact hz, fun p hp => q.newL dm hp (hr.append hr2)⟩)
    · cases e
  · cases e; cases rx.int; cases ry.int
    exact ⟨_, _, rfl, rfl, q.int⟩
  · split at e
    · cases e; cases rx.int; cases ry.int
      exact .inl ⟨_, _, rfl, rfl, by assumption, q.int⟩
    · cases e
  · split at e
    · cases e; cases ry.int
      rename_i hz
      obtain ⟨a, vs, rfl, ha, hr⟩ := rx.lst
      exact .inr ⟨a, _, vs, rfl, rfl, ha, by omega, hz.2.1, by rw [hr.length]; exact hz.2.2, fun p hp => q.newL dm hp (rep_rs hr _)⟩
    · cases e
  · split at e
    · cases e; cases rx.int; cases ry.int
      exact ⟨_, _, rfl, rfl, by assumption, q.int⟩
    · cases e
  · split at e
    · cases e; cases rx.int; cases ry.int
      exact ⟨_, _, rfl, rfl, by assumption, q.int⟩
    · cases e
  · split at e
    · cases e; cases rx.int; cases ry.int
      exact ⟨_, _, rfl, rfl, by assumption, q.int⟩
    · cases e
  · cases e
/-! ### comparisons -/
def pyCmp : CO → CmpOp
  | .eq => .Eq
  | .ne => .NotEq
  | .lt => .Lt
  | .le => .LtE
  | .gt => .Gt
  | .ge => .GtE
  | .isin => .In
  | .notin => .NotIn
  | .is_ => .Is
  | .isnot => .IsNot
def rLtStr : R2 := fun x y H Q => ∃ i j, x = .str i ∧ y = .str j ∧ Q (.bl (decide (i.cps.toList < j.cps.toList))) H
def rInStr (n : Bool) : R2 := fun x y H Q => ∃ i j, x = .str i ∧ y = .str j ∧ Q (.bl (if n then !(!(Builtin.Str.occurrences j i 0 j.length 1).isEmpty) else !(Builtin.Str.occurrences j i 0 j.length 1).isEmpty)) H
def rInA (K : PySem.W.Frag) (n : Bool) : R2 := fun x y H Q => (rInStr n x y H Q ∨ rIn K n x y H Q) ∨ (if n then rNotInD K x y H Q else rInD K x y H Q)
def rC (K : PySem.W.Frag) : CO → R2
  | .eq => fun x y H Q => rEq x y H Q ∨ rEqM K x y H Q
  | .ne => fun x y H Q => rNe x y H Q ∨ rNeM K x y H Q
  | .lt => fun x y H Q => rI0 (fun i j => .bl (decide (i < j))) x y H Q ∨ rLtStr x y H Q
  | .le => rI0 fun i j => .bl (decide (i ≤ j))
  | .gt => rI0 fun i j => .bl (decide (j < i))
  | .ge => rI0 fun i j => .bl (decide (j ≤ i))
  | .isin => rInA K false
  | .notin => rInA K true
  | .is_ => fun x y H Q => rIsB x y H Q ∨ (y = .non ∧ Q (.bl (decide (x = .non))) H)
  | .isnot => fun x y H Q => y = .non ∧ Q (.bl (!decide (x = .non))) H
theorem opC (hu : X.A.units + 65 < cLine) : ∀ o : CO, OpR X (compareOp (pyCmp o)) (rC X.K o)
  | .eq => op_eq.or (op_eqM (by omega))
  | .ne => op_ne.or (op_neM (by omega))
  | .lt => op_lt.or op_lt_str
  | .le => op_le
  | .gt => op_gt
  | .ge => op_ge
  | .isin => (op_in_str.or op_in_seq).or (op_inD hu)
  | .notin => (op_notIn_str.or op_notIn_seq).or (op_notInD hu)
  | .is_ => op_isBl.or op_isN
  | .isnot => op_notN
theorem scal_ok (h : scalD x y = true) (rx : RA K FA S H v x) (ry : RA K FA S H u y) : scal v u = true ∧ decide (v = u) = eqF x y := by
  cases x <;> cases y <;> first
    | (cases h; done)
    | (first
        | (have e1 := rx.non; subst e1)
        | (have e1 := rx.bl; subst e1)
        | (have e1 := rx.int; subst e1)
        | (have e1 := rx.str; subst e1)
       first
        | (have e2 := ry.non; subst e2)
        | (have e2 := ry.bl; subst e2)
        | (have e2 := ry.int; subst e2)
        | (have e2 := ry.str; subst e2)
       refine ⟨rfl, ?_⟩
       first
        | rfl
        | exact dec_int
        | exact dec_bl
        | exact dec_str
        | exact decide_eq_false (fun z => by cases z))
theorem eq_ok {b : Bool} (e : eqD x y = some b) (rx : RA K FA S H v x) (ry : RA K FA S H u y) : (scal v u = true ∧ decide (v = u) = b) ∨ ∃ d e, Dp K H v d ∧ Dp K H u e ∧ d.canLay0 = true ∧ e.canLay0 = true ∧ min d.depth e.depth ≤ 64 ∧ PyData.eqv d e = b := by
  unfold eqD at e
  by_cases hs : scalD x y = true
  · rw [if_pos hs] at e
    cases e
    exact .inl (scal_ok hs rx ry)
  rw [if_neg hs] at e
  refine .inr ?_
  split at e
  · rename_i c
    obtain ⟨c1, c2⟩ := Bool.and_eq_true_iff.mp c
    obtain ⟨c3, c4⟩ := Bool.and_eq_true_iff.mp c1
    exact ⟨_, _, rx.all.dp c3, ry.all.dp c4, c3, c4, of_decide_eq_true c2, Option.some.inj e⟩
  · cases e
theorem flat_of {G : Hp} : ∀ {v : V} {d : D}, R K FA G v d → flatD d = true → flatV v = true
  | _, _, .non, _ => rfl
  | _, _, .bl _, _ => rfl
  | _, _, .int _, _ => rfl
  | _, _, .str _, _ => rfl
  | _, _, .tup _ _, h => by cases h
  | _, _, .lst _ _, h => by cases h
  | _, _, .fls _ _, h => by cases h
  | _, _, .fn _, h => by cases h
theorem flats_of {G : Hp} : ∀ {vs : List V} {ds : List D}, Rs K FA G vs ds → ds.all flatD = true → vs.all flatV = true
  | _, _, .nil, _ => rfl
  | _, _, .cons h r, c => by
    rw [List.all_cons] at c ⊢
    obtain ⟨c1, c2⟩ := Bool.and_eq_true_iff.mp c
    rw [flat_of h c1, flats_of r c2]
    rfl
theorem eqF_of {G : Hp} {v u : V} {x y : D} (r : R K FA G v x) (q : R K FA G u y) (hx : flatD x = true) (hy : flatD y = true) : eqV v u = eqF x y := by
  cases r <;> first | (cases hx; done) | (cases q <;> first | (cases hy; done) | rfl)
theorem any_eqF {G : Hp} {v : V} {x : D} (r : R K FA G v x) (hx : flatD x = true) : ∀ {vs : List V} {ds : List D}, Rs K FA G vs ds → ds.all flatD = true → inV v vs = ds.any fun y => eqF y x
  | _, _, .nil, _ => rfl
  | _, _, .cons h q, c => by
    rw [List.all_cons] at c
    obtain ⟨c1, c2⟩ := Bool.and_eq_true_iff.mp c
    unfold inV
    rw [List.any_cons, List.any_cons, eqF_of h r c1 hx]
    have := any_eqF r hx q c2
    unfold inV at this
    rw [this]
theorem pds_any (x : PyData) : ∀ ds : List D, ((D.pds ds).any fun z => PyData.eqv z x) = ds.any fun y => PyData.eqv y.pd x
  | [] => rfl
  | d :: ds => by
    rw [D.pds, List.any_cons, List.any_cons, pds_any x ds]
theorem shaped_lay {d : PyData} (h : SeqAt.shaped d = true) : d.canLay0 = true := SeqAt.canLay_of_shaped h
theorem in_ok {b n : Bool} (e : inD x y = some b) (rx : RA K FA S H v x) (ry : RA K FA S H u y) (q : Q (.bl (if n then !b else b)) H) : rInA K n v u H Q := by
  unfold inD at e
  split at e
  · cases e; cases rx.str; cases ry.str
    refine .inl (.inl ⟨_, _, rfl, rfl, ?_⟩)
    cases n <;> exact q
  · split at e
    · rename_i c
      cases e
      obtain ⟨c1, c2⟩ := Bool.and_eq_true_iff.mp c
      obtain ⟨a, vs, rfl, h, r⟩ := ry.tup
      have rx' := rx.all
      have r' := r.mono (K := K) (FA := FA) gd_sub
      refine .inl (.inr ⟨a, vs, rfl, .inr h, flat_of rx' c1, flats_of r' c2, ?_⟩)
      rw [any_eqF rx' c1 r' c2]
      cases n <;> exact q
    · cases e
  · rename_i ys
    obtain ⟨a, vs, rfl, h, r⟩ := ry.lst
    have rx' := rx.all
    have r' := r.mono (K := K) (FA := FA) gd_sub
    split at e
    · rename_i c
      cases e
      obtain ⟨c1, c2⟩ := Bool.and_eq_true_iff.mp c
      refine .inl (.inr ⟨a, vs, rfl, .inl (SqL.of h), flat_of rx' c1, flats_of r' c2, ?_⟩)
      rw [any_eqF rx' c1 r' c2]
      cases n <;> exact q
    · split at e
      · rename_i c
        cases e
        obtain ⟨c1, c2⟩ := Bool.and_eq_true_iff.mp c
        have z : ∃ d ds, Dp K H v d ∧ Dp K H (.ref a) (.list ds) ∧ SeqAt.shaped d = true ∧ SeqAt.shaped (.list ds) = true ∧ (ds.any fun z => PyData.eqv z d) = ys.any fun y => PyData.eqv y.pd x.pd :=
          ⟨_, _, rx'.dp (shaped_lay c1), (R.lst h r').dp (shaped_lay c2), c1, c2, pds_any _ _⟩
        obtain ⟨d, ds, z1, z2, z3, z4, z5⟩ := z
        refine .inr ?_
        cases n with
        | false => exact ⟨d, ds, z1, z2, z3, z4, by rw [z5]; exact q⟩
        | true => exact ⟨d, ds, z1, z2, z3, z4, by rw [z5]; exact q⟩
      · cases e
  · cases e
theorem non_iff (r : RA K FA S H v x) : (v = .non) ↔ x = .non := by
  constructor
  · intro e
    subst e
    rcases r with r | ⟨_, _, _, e, _⟩
    · cases r; rfl
    · cases e
  · intro e
    subst e
    exact r.non
theorem cmp_ok {o : CO} {b : Bool} (e : cmpD o x y = some b) (rx : RA K FA S H v x) (ry : RA K FA S H u y) (q : Q (.bl b) H) : rC K o v u H Q := by
  unfold cmpD at e
  split at e
  · rcases eq_ok e rx ry with ⟨h1, rfl⟩ | ⟨d, f, h1, h2, h3, h4, h5, rfl⟩
    · exact .inl ⟨h1, q⟩
    · exact .inr ⟨d, f, h1, h2, h3, h4, h5, q⟩
  · obtain ⟨c, e', rfl⟩ := Option.map_eq_some_iff.mp e
    rcases eq_ok e' rx ry with ⟨h1, rfl⟩ | ⟨d, f, h1, h2, h3, h4, h5, rfl⟩
    · exact .inl ⟨h1, q⟩
    · exact .inr ⟨d, f, h1, h2, h3, h4, h5, q⟩
  · cases e; cases rx.int; cases ry.int
    exact .inl ⟨_, _, rfl, rfl, q⟩
  · cases e; cases rx.str; cases ry.str
    exact .inr ⟨_, _, rfl, rfl, q⟩
  · cases e; cases rx.int; cases ry.int
    exact ⟨_, _, rfl, rfl, q⟩
  · cases e; cases rx.int; cases ry.int
    exact ⟨_, _, rfl, rfl, q⟩
  · cases e; cases rx.int; cases ry.int
    exact ⟨_, _, rfl, rfl, q⟩
  · exact in_ok (n := false) e rx ry q
  · obtain ⟨c, e', rfl⟩ := Option.map_eq_some_iff.mp e
    exact in_ok (n := true) e' rx ry q
  · cases e; cases rx.bl; cases ry.bl
    exact .inl ⟨_, _, rfl, rfl, by first | exact q | (rw [Bool.beq_eq_decide_eq] at q; exact q)⟩
  · cases e; cases rx.non; cases ry.non
    exact .inr ⟨rfl, q⟩
  · rename_i h
    cases e; cases ry.non
    refine .inr ⟨rfl, ?_⟩
    rw [decide_eq_false fun z => h ((non_iff rx).mp z)]
    exact q
  · cases e; cases rx.non; cases ry.non
    exact ⟨rfl, q⟩
  · rename_i h
    cases e; cases ry.non
    refine ⟨rfl, ?_⟩
    rw [decide_eq_false fun z => h ((non_iff rx).mp z)]
    exact q
  · cases e
/-! ### subscripts, slices -/
theorem atI_rs {G : Hp} {vs : List V} {ds : List D} {i : Int} (r : Rs K FA G vs ds) (e : atI ds i = some d) : ∃ v, atI vs i = some v ∧ R K FA G v d := by
  unfold atI at e ⊢
  rw [r.length]
  obtain ⟨j, e1, e2⟩ := Option.bind_eq_some_iff.mp e
  obtain ⟨v, h1, h2⟩ := r.get e2
  exact ⟨v, by rw [e1]; exact h1, h2⟩
/-- what an item is: it may be shared, it is no list of its own -/
theorem ix_ok (e : ixD x y = some d) (rx : RA K FA S H v x) (ry : RA K FA S H u y) (q : ∀ w, R K FA (gd S H) w d → Q w H) : rIx K v u H Q := by
  unfold ixD at e
  split at e
  · obtain ⟨a, vs, rfl, h, r⟩ := rx.tup
    cases ry.int
    obtain ⟨w, h1, h2⟩ := atI_rs r e
    exact .inr (.inl ⟨a, vs, _, w, rfl, rfl, h, h1, q w h2⟩)
  · obtain ⟨a, vs, rfl, h, r⟩ := rx.lst
    cases ry.int
    obtain ⟨w, h1, h2⟩ := atI_rs r e
    exact .inl ⟨a, vs, _, w, rfl, rfl, SqL.of h, h1, q w h2⟩
  · obtain ⟨a, vs, rfl, h, r⟩ := rx.fls
    cases ry.int
    obtain ⟨w, h1, h2⟩ := atI_rs r e
    exact .inl ⟨a, vs, _, w, rfl, rfl, h, h1, q w h2⟩
  · split at e
    · cases rx.str
      cases ry.int
      obtain ⟨c, e1, rfl⟩ := Option.map_eq_some_iff.mp e
      exact .inr (.inr ⟨_, _, c, rfl, rfl, by assumption, e1, q _ (.str _)⟩)
    · cases e
  · cases e
def rSl (K : PySem.W.Frag) : V → Option Int → Option Int → Hp → VK → Prop := fun x lo hi H Q => (rSlA K x lo hi H Q ∨ rSlL K x lo hi H Q) ∨ rSlS x lo hi H Q
theorem slR : SlR X (rSl X.K) := (sl_tupA.or sl_list).or sl_str
theorem cut_rs {G : Hp} {vs : List V} {ds : List D} (lo hi : Option Int) (r : Rs K FA G vs ds) : Rs K FA G (cutV vs lo hi) (cutL ds lo hi) := by
  unfold cutV cutL
  rw [r.length]
  exact (r.drop _).take _
theorem sl_ok {lo hi : Option Int} (e : slD x lo hi = some d) (rx : RA K FA S H v x) (dm : Dom S H) (q : Ok K FA S H d Q) : rSl K v lo hi H Q := by
  unfold slD at e
  split at e
  · rename_i xs
    cases e
    obtain ⟨a, vs, rfl, h, r⟩ := rx.tup'
    refine .inl (.inl ⟨a, vs, rfl, sqT_mono gd_sub h, fun e => ?_, fun _ p hp => q.newT dm hp (cut_rs lo hi r)⟩)
    refine q.tup h ?_
    have hc : cutL xs lo hi = xs := by
      unfold cutL
      rw [← r.length, e.1, e.2, Nat.sub_zero, List.drop_zero, r.length, List.take_length]
    rw [hc]
    exact r
  · cases e
    obtain ⟨a, vs, rfl, h, r⟩ := rx.lst
    exact .inl (.inr ⟨a, vs, rfl, SqL.of h, fun p hp => q.newL dm hp (cut_rs lo hi r)⟩)
  · split at e
    · cases e; cases rx.str
      exact .inr ⟨_, rfl, by assumption, q.str⟩
    · cases e
  · cases e
end
end PL

/-! PL3: built-in functions by values. -/
namespace PL
open PySem PySem.Spec PyProof.Rows L2
section
variable {X : Cx} {K : PySem.W.Frag} {FA : Nat → Addr} {S : Addr → Prop} {H : Hp} {v u : V} {x y d : D} {Q : VK} {vs : List V} {ds : List D}
/-- each value is one that is read -/
def RAs (K : PySem.W.Frag) (FA : Nat → Addr) (S : Addr → Prop) (H : Hp) : List V → List D → Prop
  | [], [] => True
  | v :: vs, d :: ds => RA K FA S H v d ∧ RAs K FA S H vs ds
  | _, _ => False
theorem RAs.mono {H' : Hp} (m : Same H H') : ∀ {vs : List V} {ds : List D}, RAs K FA S H vs ds → RAs K FA S H' vs ds
  | [], [], _ => trivial
  | _ :: _, _ :: _, h => ⟨h.1.mono m, RAs.mono m h.2⟩
  | [], _ :: _, h => h.elim
  | _ :: _, [], h => h.elim
theorem RAs.nil (h : RAs K FA S H vs []) : vs = [] := by
  cases vs with
  | nil => rfl
  | cons _ _ => exact h.elim
theorem RAs.cons {d : D} {ds : List D} (h : RAs K FA S H vs (d :: ds)) : ∃ v us, vs = v :: us ∧ RA K FA S H v d ∧ RAs K FA S H us ds := by
  cases vs with
  | nil => exact h.elim
  | cons v us => exact ⟨v, us, rfl, h.1, h.2⟩
theorem RAs.one {d : D} (h : RAs K FA S H vs [d]) : ∃ v, vs = [v] ∧ RA K FA S H v d := by
  obtain ⟨v, us, rfl, h1, h2⟩ := h.cons
  cases h2.nil
  exact ⟨v, rfl, h1⟩
theorem RAs.two {d e : D} (h : RAs K FA S H vs [d, e]) : ∃ v u, vs = [v, u] ∧ RA K FA S H v d ∧ RA K FA S H u e := by
  obtain ⟨v, us, rfl, h1, h2⟩ := h.cons
  obtain ⟨u, rfl, h3⟩ := h2.one
  exact ⟨v, u, rfl, h1, h3⟩
/-! ### which call -/
def biN : BI → Str
  | .len => "len"
  | .abs => "abs"
  | .int_ => "int"
  | .str_ => "str"
  | .tuple_ => "tuple"
  | .list_ => "list"
  | .all_ => "all"
  | .any_ => "any"
  | .sum_ => "sum"
  | .max_ => "max"
  | .min_ => "min"
  | .sorted_ => "sorted"
  | .isint => "isinstance"
  | .isstr => "isinstance"
  | .istuple => "isinstance"
  | .islist => "isinstance"
  | .isbool => "isinstance"
/-- a type's name stands behind isinstance's first argument -/
def biT : BI → Option String
  | .isint => some "int"
  | .isstr => some "str"
  | .istuple => some "tuple"
  | .islist => some "list"
  | .isbool => some "bool"
  | _ => none
/-- the built-in function of that name, or the type -/
def biV : BI → Value
  | .int_ => .type "int"
  | .str_ => .type "str"
  | .tuple_ => .type "tuple"
  | .list_ => .type "list"
  | .isint => .builtin "isinstance"
  | .isstr => .builtin "isinstance"
  | .istuple => .builtin "isinstance"
  | .islist => .builtin "isinstance"
  | .isbool => .builtin "isinstance"
  | .len => .builtin "len"
  | .abs => .builtin "abs"
  | .all_ => .builtin "all"
  | .any_ => .builtin "any"
  | .sum_ => .builtin "sum"
  | .max_ => .builtin "max"
  | .min_ => .builtin "min"
  | .sorted_ => .builtin "sorted"
theorem biV_boot : ∀ f : BI, bootBuiltins (biN f) = some (biV f) := by
  intro f
  cases f <;> decide +kernel
abbrev Rd1 := List V → Hp → VK → Prop
def biR (K : PySem.W.Frag) : BI → Rd1
  | .len => fun xs H Q => ∃ x n, xs = [x] ∧ LenV K x H n ∧ Q (.int n) H
  | .abs => fun xs H Q => ∃ i, xs = [.int i] ∧ Q (.int (if i < 0 then -i else i)) H
  | .int_ => fun xs H Q => ((∃ i, xs = [.int i] ∧ Q (.int i) H) ∨ ∃ k, xs = [.bl k] ∧ Q (.int (if k then 1 else 0)) H) ∨ ∃ a n, xs = [.str a] ∧ PySem.intText? a = some n ∧ a.length ≤ 640 ∧ Q (.int n) H
  | .str_ => fun xs H Q => ∃ i, xs = [.int i] ∧ i.natAbs.log2 < 1920 ∧ Q (.str (toString i)) H
  | .tuple_ => fun xs H Q => ∃ p ys, xs = [.ref p] ∧ ((SqL K H p ys ∧ ∀ l, H l = none → Q (.ref l) (upd H l (.tup ys))) ∨ (SqT K H p ys ∧ Q (.ref p) H))
  | .list_ => fun xs H Q => ∃ p ys, xs = [.ref p] ∧ (SqL K H p ys ∨ SqT K H p ys) ∧ ∀ l, H l = none → Q (.ref l) (upd H l (.lst ys))
  | .all_ => rAll K
  | .any_ => rAny K
  | .sum_ => rSum K
  | .max_ => fun xs H Q => ∃ i j, xs = [.int i, .int j] ∧ Q (.int (if j > i then j else i)) H
  | .min_ => fun xs H Q => ∃ i j, xs = [.int i, .int j] ∧ Q (.int (if j < i then j else i)) H
  | .sorted_ => fun _ _ _ => False
  | .isint => rIsi K
  | .isstr => rIsi K
  | .istuple => rIsi K
  | .islist => rIsi K
  | .isbool => rIsi K
theorem biC (hc : X.calm = true) : ∀ f : BI, CallR X (biV f) (biR X.K f)
  | .len => call_len
  | .abs => call_abs
  | .int_ => call_int1.or call_int_str
  | .str_ => call_str_int
  | .tuple_ => call_tuple_of
  | .list_ => call_list_of
  | .all_ => cr_all hc
  | .any_ => cr_any hc
  | .sum_ => cr_sum hc
  | .max_ => call_max2 hc
  | .min_ => call_min2 hc
  | .sorted_ => fun _ _ _ _ _ _ _ _ _ h => h.elim
  | .isint => call_isi
  | .isstr => call_isi
  | .istuple => call_isi
  | .islist => call_isi
  | .isbool => call_isi
/-- isinstance's second argument -/
def biX (f : BI) : List V := match biT f with
  | some t => [.ty t]
  | none => []
theorem kb_int (a b : String) : kitB a b = kitB a b := rfl
def tyD : D → Option String
  | .non => some "NoneType"
  | .bl _ => some "bool"
  | .int _ => some "int"
  | .str _ => some "str"
  | .tup _ => some "tuple"
  | .lst _ => some "list"
  | _ => none
theorem ty_ok {n : String} (r : RA K FA S H v d) (e : tyD d = some n) : TyX K H v (.type n) := by
  cases d with
  | non => cases e; cases r.non; exact .base .non
  | bl b => cases e; cases r.bl; exact .base (.bl b)
  | int i => cases e; cases r.int; exact .base (.int i)
  | str x => cases e; cases r.str; exact .base (.str x)
  | tup xs =>
    cases e
    obtain ⟨a, vs, rfl, h, _⟩ := r.tup
    rcases h with (h | ⟨o, h⟩) | ⟨o, its, n, h1, h2, _⟩
    · exact .base (.tup h)
    · exact .fTuple h
    · exact .kTuple h1 h2
  | lst xs =>
    cases e
    obtain ⟨a, vs, rfl, h, _⟩ := r.lst
    exact .base (.lst h)
  | fls xs => cases e
  | dct kvs => cases e
  | fn f => cases e
theorem isi_ok {n t : String} {b : Bool} (r : RA K FA S H v d) (e : tyD d = some n) (k : kitB n t = some b) (q : Q (.bl b) H) : rIsi K [v, .ty t] H Q :=
  ⟨v, .ty t, .type n, .type t, b, rfl, .ty t, ty_ok r e, kit_ty k, q⟩
theorem bools_rs {G : Hp} : ∀ {vs : List V} {ds : List D} {bs : List Bool}, Rs K FA G vs ds → boolsD ds = some bs → vs = bs.map V.bl
  | _, _, _, .nil, e => by cases e; rfl
  | _, _, _, .cons h r, e => by
    unfold boolsD at e
    split at e
    · rename_i q; cases q
    · rename_i q
      cases q
      obtain ⟨bs, e1, rfl⟩ := Option.map_eq_some_iff.mp e
      cases h
      rw [bools_rs r e1]
      rfl
    · cases e
theorem ints_rs {G : Hp} : ∀ {vs : List V} {ds : List D} {bs : List Int}, Rs K FA G vs ds → intsD ds = some bs → vs = bs.map V.int
  | _, _, _, .nil, e => by cases e; rfl
  | _, _, _, .cons h r, e => by
    unfold intsD at e
    split at e
    · rename_i q; cases q
    · rename_i q
      cases q
      obtain ⟨bs, e1, rfl⟩ := Option.map_eq_some_iff.mp e
      cases h
      rw [ints_rs r e1]
      rfl
    · cases e
theorem bi_ok {f : BI} (e : biD f ds = some d) (r : RAs K FA S H vs ds) (dm : Dom S H) (q : Ok K FA S H d Q) : biR K f (vs ++ biX f) H Q := by
  unfold biD at e
  split at e
  · cases e
    obtain ⟨v, rfl, r1⟩ := r.one
    obtain ⟨a, vs, rfl, h, r⟩ := r1.tup
    exact ⟨_, _, rfl, .inr ⟨vs, h, rfl⟩, by rw [r.length]; exact q.int⟩
  · cases e
    obtain ⟨v, rfl, r1⟩ := r.one
    obtain ⟨a, vs, rfl, h, r⟩ := r1.lst
    exact ⟨_, _, rfl, .inl ⟨vs, SqL.of h, rfl⟩, by rw [r.length]; exact q.int⟩
  · cases e
    obtain ⟨v, rfl, r1⟩ := r.one
    obtain ⟨a, vs, rfl, h, r⟩ := r1.fls
    exact ⟨_, _, rfl, .inl ⟨vs, h, rfl⟩, by rw [r.length]; exact q.int⟩
  · split at e
    · cases e
      obtain ⟨v, rfl, r1⟩ := r.one
      cases r1.str
      exact ⟨_, _, rfl, ⟨by assumption, rfl⟩, q.int⟩
    · cases e
  · cases e
    obtain ⟨v, rfl, r1⟩ := r.one
    cases r1.int
    exact ⟨_, rfl, q.int⟩
  · cases e
    obtain ⟨v, rfl, r1⟩ := r.one
    cases r1.int
    exact .inl (.inl ⟨_, rfl, q.int⟩)
  · cases e
    obtain ⟨v, rfl, r1⟩ := r.one
    cases r1.bl
    exact .inl (.inr ⟨_, rfl, q.int⟩)
  · split at e
    · obtain ⟨n, e1, rfl⟩ := Option.map_eq_some_iff.mp e
      obtain ⟨v, rfl, r1⟩ := r.one
      cases r1.str
      exact .inr ⟨_, n, rfl, e1, by assumption, q.int⟩
    · cases e
  · split at e
    · cases e
      obtain ⟨v, rfl, r1⟩ := r.one
      cases r1.int
      exact ⟨_, rfl, by assumption, q.str⟩
    · cases e
  · cases e
    obtain ⟨v, rfl, r1⟩ := r.one
    obtain ⟨a, vs, rfl, h, r⟩ := r1.lst
    exact ⟨a, vs, rfl, .inl ⟨SqL.of h, fun l hl => q.newT dm hl r⟩⟩
  · cases e
    obtain ⟨v, rfl, r1⟩ := r.one
    obtain ⟨a, vs, rfl, h, r⟩ := r1.tup'
    exact ⟨a, vs, rfl, .inr ⟨sqT_mono gd_sub h, q.tup h r⟩⟩
  · cases e
    obtain ⟨v, rfl, r1⟩ := r.one
    obtain ⟨a, vs, rfl, h, r⟩ := r1.lst
    exact ⟨a, vs, rfl, .inl (SqL.of h), fun l hl => q.newL dm hl r⟩
  · cases e
    obtain ⟨v, rfl, r1⟩ := r.one
    obtain ⟨a, vs, rfl, h, r⟩ := r1.tup
    exact ⟨a, vs, rfl, .inr h, fun l hl => q.newL dm hl r⟩
  · obtain ⟨bs, e1, rfl⟩ := Option.map_eq_some_iff.mp e
    obtain ⟨v, rfl, r1⟩ := r.one
    obtain ⟨a, vs, rfl, h, r⟩ := r1.lst
    exact ⟨a, bs, rfl, by rw [← bools_rs r e1]; exact SqL.of h, q.bl⟩
  · obtain ⟨bs, e1, rfl⟩ := Option.map_eq_some_iff.mp e
    obtain ⟨v, rfl, r1⟩ := r.one
    obtain ⟨a, vs, rfl, h, r⟩ := r1.lst
    exact ⟨a, bs, rfl, by rw [← bools_rs r e1]; exact SqL.of h, q.bl⟩
  · obtain ⟨bs, e1, rfl⟩ := Option.map_eq_some_iff.mp e
    obtain ⟨v, rfl, r1⟩ := r.one
    obtain ⟨a, vs, rfl, h, r⟩ := r1.lst
    exact ⟨a, bs, rfl, by rw [← ints_rs r e1]; exact SqL.of h, q.int⟩
  · cases e
    obtain ⟨v, u, rfl, r1, r2⟩ := r.two
    cases r1.int; cases r2.int
    exact ⟨_, _, rfl, q.int⟩
  · cases e
    obtain ⟨v, u, rfl, r1, r2⟩ := r.two
    cases r1.int; cases r2.int
    exact ⟨_, _, rfl, q.int⟩
  case h_24 => exact absurd e (by simp)
  all_goals (
    obtain ⟨v, rfl, r1⟩ := r.one
    rename_i d0
    cases d0 <;> first
      | (cases e; exact isi_ok r1 rfl (by decide +kernel) q.bl)
      | (cases e; done)
      | (rcases r1 with r1 | ⟨_, _, _, _, e2, _⟩
         · cases r1
         · cases e2))
end
end PL

/-! PL4: expressions: what is checked of the text, and that it does what the small language says. -/
namespace PL
open PySem PySem.Spec L2
/-- slots -/
structure SR (K : PySem.W.Frag) (FA : Nat → Addr) (S : Addr → Prop) (H : Hp) (σ : L2.St) (s : Env) : Prop where
  len : s.length = σ.length
  dom : Dom S H
  sh : ∀ (i : Nat) d, s[i]? = some (.sh d) → ∃ v, σ[i]? = some (some v) ∧ R K FA (gd S H) v d
  ow : ∀ (i : Nat) d, s[i]? = some (.ow d) → ∃ a vs ds, d = .lst ds ∧ σ[i]? = some (some (.ref a)) ∧ S a ∧ H a = some (.lst vs) ∧ Rs K FA (gd S H) vs ds
  ap : ∀ (i j : Nat) d e a, i ≠ j → s[i]? = some (.ow d) → s[j]? = some (.ow e) → σ[i]? = some (some (.ref a)) → σ[j]? ≠ some (some (.ref a))
theorem SR.mono {K : PySem.W.Frag} {FA : Nat → Addr} {S : Addr → Prop} {H H' : Hp} {σ : L2.St} {s : Env} (m : Same H H') (h : SR K FA S H σ s) : SR K FA S H' σ s :=
  ⟨h.len, h.dom.mono m, fun i d e => let ⟨v, h1, h2⟩ := h.sh i d e; ⟨v, h1, h2.mono (gd_mono m)⟩,
    fun i d e => let ⟨a, vs, ds, h1, h2, h3, h4, h5⟩ := h.ow i d e; ⟨a, vs, ds, h1, h2, h3, m _ _ h4, h5.mono (gd_mono m)⟩, h.ap⟩
/-- the defs, the constants -/
structure Tb where
  T : Tab
  G : Nat → Option D
  GN : Nat → Str
/-- the program, what stands behind its top -/
structure Pr where
  P : Program
  w : World
  K : PySem.W.Frag
  mg : Str → Option Value
  base : Heap
  FA : Nat → Addr
  t : Tb
abbrev Pr.T (p : Pr) : Tab := p.t.T
abbrev Pr.G (p : Pr) : Nat → Option D := p.t.G
/-! ### what is checked -/
def visB (sc : Scope) (x : Str) : Bool := (match sc.names.lookup x with
  | some .local => true
  | some .cell => true
  | some .free => true
  | _ => false) && (!(x == ("__debug__" : Str)) && !(x == ("__classdict__" : Str)))
def gloB (sc : Scope) (x : Str) : Bool := (match sc.names.lookup x with
  | some .globalImplicit => true
  | _ => false) && (!(x == ("__debug__" : Str)) && !(x == ("__name__" : Str)))
def chkC : D → Const → Bool
  | .non, .none => true
  | .bl b, .bool c => b == c
  | .int i, .int j => decide (i = j)
  | .str x, .str y => decide (x = y)
  | _, _ => false
def notStar : Expr → Bool
  | .Starred _ _ => false
  | _ => true
def notSet : Expr → Bool
  | .Set _ _ _ => false
  | _ => true
def notSlice : Expr → Bool
  | .Slice _ _ _ _ => false
  | _ => true
/-- a test by its value -/
def plainT : Expr → Bool
  | .UnaryOp _ _ _ => false
  | .BoolOp _ _ _ => false
  | .IfExp _ _ _ _ => false
  | .Compare _ _ _ _ => false
  | _ => true
/-- what may stand as a test -/
def tst : E → Bool
  | .nt a => tst a
  | .an a b => tst a && tst b
  | .orr a b => tst a && tst b
  | .ife _ _ _ => false
  | _ => true
def meN : MI → Str
  | .index => "index"
  | .find => "find"
  | .split => "split"
  | .join => "join"
  | .get => "get"
  | .values => "values"
def meOk : MI → Nat → Bool
  | .find, 2 => true
  | .split, 1 => true
  | .join, 1 => true
  | _, _ => false
/-- not a call without anything in it -/
def notCall0 : Expr → Bool
  | .Call _ [] [] _ => false
  | _ => true
/-- an own list, read -/
def al : E → Bool
  | .rd _ => true
  | _ => false
/-- hands on a list of its own, or no list -/
def fr (T : Tab) : E → Bool
  | .var _ => false
  | .rd _ => false
  | .gl _ => false
  | .ix _ _ => false
  | .an _ b => fr T b
  | .orr _ b => fr T b
  | .ife _ a b => fr T a && fr T b
  | .call f _ => match T f with
    | some fi => fi.fresh
    | none => false
  | .cloc _ _ => false
  | _ => true
def opEq : Operator → Operator → Bool
  | .Add, .Add => true
  | .Sub, .Sub => true
  | .Mult, .Mult => true
  | .FloorDiv, .FloorDiv => true
  | .Mod, .Mod => true
  | .Pow, .Pow => true
  | _, _ => false
theorem opEq_ok : ∀ {a b : Operator}, opEq a b = true → a = b := by
  intro a b h
  cases a <;> cases b <;> first | rfl | cases h
def cmpEq : CmpOp → CmpOp → Bool
  | .Eq, .Eq => true
  | .NotEq, .NotEq => true
  | .Lt, .Lt => true
  | .LtE, .LtE => true
  | .Gt, .Gt => true
  | .GtE, .GtE => true
  | .In, .In => true
  | .NotIn, .NotIn => true
  | .Is, .Is => true
  | .IsNot, .IsNot => true
  | _, _ => false
theorem cmpEq_ok : ∀ {a b : CmpOp}, cmpEq a b = true → a = b := by
  intro a b h
  cases a <;> cases b <;> first | rfl | cases h
/-- the names at a target's slots; sc the scope that binds them -/
def tgB (N : List Str) (sc : Scope) : List Nat → List Expr → Bool
  | [], [] => true
  | i :: is, .Name x _ :: xs => decide (N[i]? = some x) && ((match sc.names.lookup x with
    | some .local => true
    | some .cell => true
    | _ => false) && tgB N sc is xs)
  | _, _ => false
def chkTg (N : List Str) (sc : Scope) : List Nat → Expr → Bool
  | [i], .Name x p => tgB N sc [i] [.Name x p]
  | is, .Tuple xs _ _ => decide (2 ≤ is.length) && tgB N sc is xs
  | _, _ => false
def nmOf : Expr → Option Str
  | .Name x _ => some x
  | _ => none
def ownOf (N : List Str) (is : List Nat) : List (Str × Nat) := is.map fun i => (N.getD i (Str.ofString ""), i)
mutual
def chkE (p : Tb) (N : List Str) : Scope → E → Expr → Bool
  | sc, .c d, .Constant c _ _ => chkC d c
  | sc, .var i, .Name x _ => decide (N[i]? = some x) && visB sc x
  | sc, .rd i, .Name x _ => decide (N[i]? = some x) && visB sc x
  | sc, .gl g, .Name x _ => decide (p.GN g = x) && (gloB sc x && (p.G g).isSome)
  | sc, .tup es, .Tuple xs _ _ => chkEs p N sc es xs && es.all (!al ·)
  | sc, .lst es, .List xs _ => chkEs p N sc es xs && es.all (!al ·)
  | sc, .bin o a b, .BinOp x op y _ => opEq (pyOp o) op && (chkE p N sc a x && chkE p N sc b y)
  | sc, .neg a, .UnaryOp .USub x _ => chkE p N sc a x
  | sc, .nt a, .UnaryOp .Not x _ => chkE p N sc a x
  | sc, .cmp o a b, .Compare x [op] [y] _ => cmpEq (pyCmp o) op && (notSet y && (chkE p N sc a x && chkE p N sc b y))
  | sc, .chain o1 o2 a b c, .Compare x [op1, op2] [y, z] _ => cmpEq (pyCmp o1) op1 && (cmpEq (pyCmp o2) op2 && (notSet z && (chkE p N sc a x && (chkE p N sc b y && chkE p N sc c z))))
  | sc, .an a b, .BoolOp .And (x :: y :: r) pos => !al b && (chkE p N sc a x && (match r with
    | [] => chkE p N sc b y
    | _ => chkE p N sc b (.BoolOp .And (y :: r) pos)))
  | sc, .orr a b, .BoolOp .Or (x :: y :: r) pos => !al b && (chkE p N sc a x && (match r with
    | [] => chkE p N sc b y
    | _ => chkE p N sc b (.BoolOp .Or (y :: r) pos)))
  | sc, .ife c a b, .IfExp z x y _ => (!al a && !al b) && (tst c && (chkE p N sc c z && (chkE p N sc a x && chkE p N sc b y)))
  | sc, .ix a b, .Subscript x y _ => notSlice y && (chkE p N sc a x && chkE p N sc b y)
  | sc, .sl a lo hi, .Subscript x (.Slice l h none _) _ => chkE p N sc a x && ((match lo.isNo, l with
    | true, none => true
    | false, some l => chkE p N sc lo l
    | _, _ => false) && (match hi.isNo, h with
    | true, none => true
    | false, some h => chkE p N sc hi h
    | _, _ => false))
  | sc, .call f es, .Call (.Name x _) xs [] _ => gloB sc x && ((match p.T f with
    | some fi => decide (fi.name = x) && decide (xs.length + fi.dfl.length = fi.ps)
    | none => false) && (chkEs p N sc es xs && es.all (!al ·)))
  | sc, .callb f es, .Call (.Name x _) xs [] _ => gloB sc x && ((match p.T f with
    | some fi => decide (fi.name = x) && decide (xs.length + fi.dfl.length = fi.ps)
    | none => false) && (chkEs p N sc es xs && !xs.isEmpty))
  | sc, .bi f es, .Call (.Name x _) xs [] _ => decide (biN f = x) && (gloB sc x && (match biT f with
    | none => chkEs p N sc es xs && !xs.isEmpty
    | some t => (match xs with
      | [y, .Name z _] => decide (z = Str.ofString t) && (gloB sc z && (chkEs p N sc es [y]))
      | _ => false)))
  | sc, .me m o es, .Call (.Attribute y a apos) xs [] pos => decide (a = meN m) && ((meOk m xs.length && (notCall0 y && (apos.endLine == pos.line))) && (chkE p N sc o y && chkEs p N sc es xs))
  | sc, .lc is it c e, .ListComp el [⟨tg, iter, ifs, asy⟩] scope _ => decide (asy = 0) && ((notSet iter && chkE p N sc it iter) && (blkC N sc scope (ownOf N is) && (chkTg N scope is tg && ((tst c && (match ifs with
    | [] => (match c with | .c (.bl true) => true | _ => false)
    | [cx] => chkE p N (relS scope sc) c cx
    | _ => false)) && (chkE p N (relS scope sc) e el && !al e)))))
  | sc, .lcr i es c e, .ListComp el [⟨tg, .Call (.Name x _) xs [] _, ifs, asy⟩] scope _ => decide (asy = 0) && ((decide (x = Str.ofString "range") && (gloB sc x && (chkEs p N sc es xs && (decide (xs.length = 1) || decide (xs.length = 2))))) && (blkC N sc scope (ownOf N [i]) && (chkTg N scope [i] tg && ((tst c && (match ifs with
    | [] => (match c with | .c (.bl true) => true | _ => false)
    | [cx] => chkE p N (relS scope sc) c cx
    | _ => false)) && (chkE p N (relS scope sc) e el && !al e)))))
  | _, _, _ => false
def chkEs (p : Tb) (N : List Str) : Scope → List E → List Expr → Bool
  | _, [], [] => true
  | sc, e :: es, x :: xs => notStar x && (chkE p N sc e x && chkEs p N sc es xs)
  | _, _, _ => false
end
end PL

/-! PL5: the soundness of expressions. -/
namespace PL
open PySem PySem.Spec L2
/-- what stands under a name that is a def -/
def spF (p : Pr) (n : Nat) (fi : Fn) (f : Nat) : Sp := fun vs H Q _ => vs.length = fi.ps ∧ ∃ (S : Addr → Prop) (xs : List D) (d : D), Dom S H ∧ Rs p.K p.FA (gd S H) vs (xs ++ fi.dfl) ∧ call p.T p.G n f xs = some (d, []) ∧
  ∀ v H', Same H H' → R p.K p.FA (gd S H') v d → (fi.fresh = true → Fr p.K p.FA S H H' v d) → Q v H'
/-- the constants of the defaults -/
def dV : D → V
  | .bl b => .bl b
  | .int i => .int i
  | .str x => .str x
  | _ => .non
def isDfl : D → Bool
  | .non => true
  | .bl _ => true
  | .int _ => true
  | .str _ => true
  | _ => false
structure Facts (p : Pr) (n : Nat) : Prop where
  bi : ∀ f : BI, p.mg (biN f) = none
  rng : p.mg "range" = none
  bool : p.mg "bool" = none
  fn : ∀ f fi, p.T f = some fi → ∃ fd ds, p.mg fi.name = some (.ref (p.FA f)) ∧ PySem.W.keepIn p.K (.ref (p.FA f)) = true ∧ Binds p.K fd (fi.names.take fi.ps) ds ∧ Vals (fi.dfl.map dV) ds ∧ fi.dfl.all isDfl = true ∧
    FnOk p.P p.w p.K p.mg p.base CX0 n (p.FA f) fd (fi.names.take fi.ps) (spF p n fi f)
  gl : ∀ x d, p.G x = some d → ∃ u v, p.mg (p.t.GN x) = some u ∧ RelV v u ∧ ∀ H, R p.K p.FA H v d
structure XF (p : Pr) (n : Nat) (N : List Str) (sc : Scope) (X : Cx) : Prop where
  prog : X.prog = p.P
  w : X.w = p.w
  K : X.K = p.K
  mg : X.mg = p.mg
  base : X.base = p.base
  N : X.N = N
  sc : X.env.scope = sc
  calm : X.calm = true
  room : Room n X.A
  xe : X.xe = fun _ _ => False
section
variable (p : Pr) (n : Nat) (N : List Str)
def Post (a f : Bool) (S : Addr → Prop) (H : Hp) (d : D) (Q : VK) : Prop :=
  ∀ v H', Same H H' → RA p.K p.FA S H' v d → (a = false → R p.K p.FA (gd S H') v d) → (f = true → Fr p.K p.FA S H H' v d) → Q v H'
def Sat (t : TE) (e : E) : Prop := ∀ (s : Env) (d : D) (S : Addr → Prop) (H : Hp) (σ : L2.St) (Q : VK),
  ev (call p.T p.G n) p.G e s = some d → SR p.K p.FA S H σ s → Post p (al e) (fr p.T e) S H d Q → t σ H Q
def SatT (t : TT) (e : E) : Prop := ∀ (s : Env) (b : Bool) (S : Addr → Prop) (H : Hp) (σ : L2.St) (Q : Bool → Hp → Prop),
  ev (call p.T p.G n) p.G e s = some (.bl b) → SR p.K p.FA S H σ s → (∀ H', Same H H' → Q b H') → t σ H Q
def SatA (t : TA) (es : List E) : Prop := ∀ (s : Env) (ds : List D) (S : Addr → Prop) (H : Hp) (σ : L2.St) (Q : List V → Hp → Prop),
  evs (call p.T p.G n) p.G es s = some ds → SR p.K p.FA S H σ s → (∀ vs H', Same H H' → RAs p.K p.FA S H' vs ds → (es.all (!al ·) = true → Rs p.K p.FA (gd S H') vs ds) → Q vs H') → t σ H Q
def GoodE (sc : Scope) (e : E) (x : Expr) : Prop := ∃ t : TE, (∀ X, XF p n N sc X → PE X x t) ∧ Sat p n t e
def GoodT (sc : Scope) (e : E) (x : Expr) : Prop := ∃ t : TT, (∀ X, XF p n N sc X → PT X x t) ∧ SatT p n t e
def GoodA (sc : Scope) (es : List E) (xs : List Expr) : Prop := ∃ t : TA, (∀ X, XF p n N sc X → PA X xs t) ∧ SatA p n t es
end
section
variable {p : Pr} {n : Nat} {N : List Str} {sc : Scope} {S : Addr → Prop} {H H1 H2 : Hp} {d : D} {Q : VK} {a f : Bool}
theorem Post.ok (h : Post p a f S H d Q) (m : Same H H2) : Ok p.K p.FA S H2 d Q := fun v H' m' r q => h v H' (m.trans m') (.inl r) (fun _ => r) fun _ => q.back m
theorem hu65 {A : Around} {k : Nat} (h : Room k A) : A.units + 65 < cLine := by have := h.un; omega
theorem ba {a b : Bool} (h : (a && b) = true) : a = true ∧ b = true := Bool.and_eq_true_iff.mp h
theorem star_cons {x : Expr} {xs : List Expr} {env : PySem.Env} (h : notStar x = true) : starEach (x :: xs) env = (false, eval x env) :: starEach xs env := by
  cases x <;> first | rfl | cases h
theorem star_none {env : PySem.Env} {pos : Pos} : ∀ {xs : List Expr}, xs.all notStar = true → (backTo pos (starEach xs env)).any (·.1) = false
  | [], _ => rfl
  | x :: xs, h => by
    rw [List.all_cons] at h
    obtain ⟨h1, h2⟩ := ba h
    rw [star_cons h1]
    have ih := star_none (env := env) (pos := pos) h2
    unfold backTo at ih ⊢
    rw [List.map_cons, List.any_cons, ih]
    rfl
theorem vis_ok {x : Str} (h : visB sc x = true) : (sc.names.lookup x = some .local ∨ sc.names.lookup x = some .cell ∨ sc.names.lookup x = some .free) ∧ (x == ("__debug__" : Str)) = false ∧ (x == ("__classdict__" : Str)) = false := by
  unfold visB at h
  obtain ⟨h1, h2⟩ := ba h
  obtain ⟨h3, h4⟩ := ba h2
  refine ⟨?_, by simpa using h3, by simpa using h4⟩
  split at h1
  · exact .inl (by assumption)
  · exact .inr (.inl (by assumption))
  · exact .inr (.inr (by assumption))
  · cases h1
theorem glo_ok {x : Str} (h : gloB sc x = true) : sc.names.lookup x = some .globalImplicit ∧ (x == ("__debug__" : Str)) = false ∧ x ≠ "__name__" := by
  unfold gloB at h
  obtain ⟨h1, h2⟩ := ba h
  obtain ⟨h3, h4⟩ := ba h2
  refine ⟨?_, by simpa using h3, by simpa using h4⟩
  split at h1
  · assumption
  · cases h1
theorem XF.gl {X : Cx} (h : XF p n N sc X) {x : Str} (q : gloB sc x = true) : Gl X x := by
  show X.env.scope.names.lookup x = some .globalImplicit
  rw [h.sc]
  exact (glo_ok q).1
theorem xe_pass {X : Cx} (h : XF p n N sc X) : PassesOwn (model X.prog X.w) X.A X.env X.xe := by
  rw [h.xe]
  exact PassesOwn.never
/-! ### leaves -/
theorem chkC_ok {c : Const} (h : chkC d c = true) : (∀ X : Cx, ∀ j pos, PE X (.Constant c j pos) (tC (dV d))) ∧ isDfl d = true := by
  unfold chkC at h
  split at h
  · exact ⟨fun X j pos => pe_non, rfl⟩
  · cases eq_of_beq h
    exact ⟨fun X j pos => pe_bl, rfl⟩
  · cases of_decide_eq_true h
    exact ⟨fun X j pos => pe_int, rfl⟩
  · cases of_decide_eq_true h
    exact ⟨fun X j pos => pe_str, rfl⟩
  · cases h
theorem dV_ok {K : PySem.W.Frag} {FA : Nat → Addr} {G : Hp} (h : isDfl d = true) : R K FA G (dV d) d := by
  cases d <;> first | (cases h; done) | exact .non | exact .bl _ | exact .int _ | exact .str _
theorem dV_nl (h : isDfl d = true) : ∀ ds, d ≠ .lst ds := fun ds e => by subst e; cases h
theorem good_c {c : Const} {j : Nat} {pos : Pos} (h : chkC d c = true) : GoodE p n N sc (.c d) (.Constant c j pos) := by
  obtain ⟨h1, h2⟩ := chkC_ok h
  refine ⟨_, fun X _ => h1 X j pos, fun s d' S H σ Q e hs q => ?_⟩
  cases e
  exact q _ _ (Same.refl _) (.inl (dV_ok h2)) (fun _ => dV_ok h2) fun _ => Fr.no (dV_nl h2)
theorem good_name {i : Nat} {x : Str} {pos : Pos} (hN : N[i]? = some x) (h : visB sc x = true) : ∀ X, XF p n N sc X → PE X (.Name x pos) (tVar i) := fun X hx => by
  obtain ⟨h1, h2, h3⟩ := vis_ok h
  exact pe_var (by rw [hx.N]; exact hN) (by rw [hx.sc]; exact h1) h2 h3
theorem good_var {i : Nat} {x : Str} {pos : Pos} (hN : N[i]? = some x) (h : visB sc x = true) : GoodE p n N sc (.var i) (.Name x pos) := by
  refine ⟨_, good_name hN h, fun s d S H σ Q e hs q => ?_⟩
  unfold ev at e
  obtain ⟨sl, e1, e2⟩ := Option.bind_eq_some_iff.mp e
  cases sl <;> cases e2
  obtain ⟨v, h1, h2⟩ := hs.sh _ _ e1
  exact ⟨v, h1, q v H (Same.refl _) (.inl h2) (fun _ => h2) fun z => by cases z⟩
theorem good_rd {i : Nat} {x : Str} {pos : Pos} (hN : N[i]? = some x) (h : visB sc x = true) : GoodE p n N sc (.rd i) (.Name x pos) := by
  refine ⟨_, good_name hN h, fun s d S H σ Q e hs q => ?_⟩
  unfold ev at e
  obtain ⟨sl, e1, e2⟩ := Option.bind_eq_some_iff.mp e
  cases sl <;> cases e2
  obtain ⟨a, vs, ds, rfl, h1, h2, h3, h4⟩ := hs.ow _ _ e1
  exact ⟨_, h1, q _ H (Same.refl _) (.inr ⟨a, vs, ds, rfl, rfl, h3, h4⟩) (fun z => by cases z) fun z => by cases z⟩
theorem good_gl (fc : Facts p n) {x : Nat} {pos : Pos} (h : gloB sc (p.t.GN x) = true) (hg : (p.G x).isSome = true) : GoodE p n N sc (.gl x) (.Name (p.t.GN x) pos) := by
  obtain ⟨d0, e0⟩ := Option.isSome_iff_exists.mp hg
  obtain ⟨u, v, hm, rv, hr⟩ := fc.gl x d0 e0
  refine ⟨_, fun X hx => pe_glob (hx.gl h) (by rw [hx.mg]; exact hm) rv (glo_ok h).2.1, fun s d S H σ Q e hs q => ?_⟩
  unfold ev at e
  rw [e0] at e
  cases e
  exact q v H (Same.refl _) (.inl (hr _)) (fun _ => hr _) fun z => by cases z
/-! ### operators -/
theorem good_bin {o : B1} {op : Operator} {a b : E} {x y : Expr} {pos : Pos} (ho : opEq (pyOp o) op = true) (ha : GoodE p n N sc a x) (hb : GoodE p n N sc b y) : GoodE p n N sc (.bin o a b) (.BinOp x op y pos) := by
  obtain ⟨ta, pa, sa⟩ := ha
  obtain ⟨tb, pb, sb⟩ := hb
  cases opEq_ok ho
  refine ⟨tOp (rB p.K o) ta tb, fun X hx => pe_op (by rw [← hx.K]; exact opB o) (pa X hx) (pb X hx), fun s d S H σ Q e hs q => ?_⟩
  unfold ev at e
  obtain ⟨x', e1, e⟩ := Option.bind_eq_some_iff.mp e
  obtain ⟨y', e2, e3⟩ := Option.bind_eq_some_iff.mp e
  refine sa s x' S H σ _ e1 hs fun v H1 m1 ra _ _ => sb s y' S H1 σ _ e2 (hs.mono m1) fun u H2 m2 rb _ _ => ?_
  exact bin_ok e3 (ra.mono m2) rb (hs.dom.mono (m1.trans m2)) (q.ok (m1.trans m2))
theorem good_neg {a : E} {x : Expr} {pos : Pos} (ha : GoodE p n N sc a x) : GoodE p n N sc (.neg a) (.UnaryOp .USub x pos) := by
  obtain ⟨ta, pa, sa⟩ := ha
  refine ⟨_, fun X hx => pe_un un_neg (pa X hx), fun s d S H σ Q e hs q => ?_⟩
  unfold ev at e
  obtain ⟨x', e1, e⟩ := Option.bind_eq_some_iff.mp e
  refine sa s x' S H σ _ e1 hs fun v H1 m1 ra _ _ => ?_
  cases x' <;> cases e
  cases ra.int
  exact ⟨_, rfl, (q.ok m1).int⟩
theorem good_nt {a : E} {x : Expr} {pos : Pos} (ha : GoodE p n N sc a x) : GoodE p n N sc (.nt a) (.UnaryOp .Not x pos) := by
  obtain ⟨ta, pa, sa⟩ := ha
  refine ⟨_, fun X hx => pe_not (pa X hx), fun s d S H σ Q e hs q => ?_⟩
  unfold ev at e
  obtain ⟨x', e1, e⟩ := Option.bind_eq_some_iff.mp e
  refine sa s x' S H σ _ e1 hs fun v H1 m1 ra _ _ => ?_
  cases x' <;> cases e
  cases ra.bl
  exact ⟨_, rfl, (q.ok m1).bl⟩
theorem goodT_nt {a : E} {x : Expr} {pos : Pos} (ha : GoodT p n N sc a x) : GoodT p n N sc (.nt a) (.UnaryOp .Not x pos) := by
  obtain ⟨ta, pa, sa⟩ := ha
  refine ⟨_, fun X hx => pt_not (pa X hx), fun s b S H σ Q e hs q => ?_⟩
  unfold ev at e
  obtain ⟨x', e1, e⟩ := Option.bind_eq_some_iff.mp e
  cases x' <;> cases e
  exact sa s _ S H σ _ e1 hs fun H1 m1 => q H1 m1
theorem mark_ok {op : CmpOp} {y : Expr} (h : notSet y = true) : behindInMarks op y = false := by
  cases y <;> first | rfl | cases h
theorem cmp_sat {o : CO} {a b : E} {ta tb : TE} (sa : Sat p n ta a) (sb : Sat p n tb b) {s : Env} {S : Addr → Prop} {H : Hp} {σ : L2.St} {k : Bool} {Q : VK}
    (e : ev (call p.T p.G n) p.G (.cmp o a b) s = some (.bl k)) (hs : SR p.K p.FA S H σ s) (q : ∀ H', Same H H' → Q (.bl k) H') : tOp (rC p.K o) ta tb σ H Q := by
  unfold ev at e
  obtain ⟨x', e1, e⟩ := Option.bind_eq_some_iff.mp e
  obtain ⟨y', e2, e3⟩ := Option.bind_eq_some_iff.mp e
  obtain ⟨k', e4, e5⟩ := Option.map_eq_some_iff.mp e3
  cases e5
  refine sa s x' S H σ _ e1 hs fun v H1 m1 ra _ _ => sb s y' S H1 σ _ e2 (hs.mono m1) fun u H2 m2 rb _ _ => ?_
  exact cmp_ok e4 (ra.mono m2) rb (q H2 (m1.trans m2))
theorem good_cmp {o : CO} {op : CmpOp} {a b : E} {x y : Expr} {pos : Pos} (ho : cmpEq (pyCmp o) op = true) (hm : notSet y = true) (ha : GoodE p n N sc a x) (hb : GoodE p n N sc b y) :
    GoodE p n N sc (.cmp o a b) (.Compare x [op] [y] pos) ∧ GoodT p n N sc (.cmp o a b) (.Compare x [op] [y] pos) := by
  obtain ⟨ta, pa, sa⟩ := ha
  obtain ⟨tb, pb, sb⟩ := hb
  cases cmpEq_ok ho
  constructor
  · refine ⟨tOp (rC p.K o) ta tb, fun X hx => pe_cmpR (by rw [← hx.K]; exact opC (hu65 hx.room) o) (pa X hx) (pb X hx) (mark_ok hm), fun s d S H σ Q e hs q => ?_⟩
    have e' := e
    unfold ev at e'
    obtain ⟨x', e1, e'⟩ := Option.bind_eq_some_iff.mp e'
    obtain ⟨y', e2, e3⟩ := Option.bind_eq_some_iff.mp e'
    obtain ⟨k', e4, rfl⟩ := Option.map_eq_some_iff.mp e3
    exact cmp_sat sa sb e hs fun H' m => (q.ok m).bl
  · refine ⟨tTest (tOp (rC p.K o) ta tb), fun X hx => pt_cmpR (by rw [← hx.K]; exact opC (hu65 hx.room) o) (pa X hx) (pb X hx) (mark_ok hm), fun s k S H σ Q e hs q => ?_⟩
    exact cmp_sat sa sb e hs fun H' m => ⟨k, rfl, q H' m⟩
theorem lmark_ok {o1 o2 : CmpOp} {y z : Expr} (h : notSet z = true) : lastMarks [o1, o2] [y, z] = false := mark_ok h
theorem chain_sat {o1 o2 : CO} {a b c : E} {ta tb tc : TE} (sa : Sat p n ta a) (sb : Sat p n tb b) (sc' : Sat p n tc c) {s : Env} {S : Addr → Prop} {H : Hp} {σ : L2.St} {k : Bool} {Q : VK}
    (e : ev (call p.T p.G n) p.G (.chain o1 o2 a b c) s = some (.bl k)) (hs : SR p.K p.FA S H σ s) (q : ∀ H', Same H H' → Q (.bl k) H') : tChain (rC p.K o1) (rC p.K o2) ta tb tc σ H Q := by
  unfold ev at e
  obtain ⟨x', e1, e⟩ := Option.bind_eq_some_iff.mp e
  obtain ⟨y', e2, e⟩ := Option.bind_eq_some_iff.mp e
  obtain ⟨k1, e3, e⟩ := Option.bind_eq_some_iff.mp e
  refine sa s x' S H σ _ e1 hs fun v H1 m1 ra _ _ => sb s y' S H1 σ _ e2 (hs.mono m1) fun u H2 m2 rb _ _ => ?_
  refine cmp_ok e3 (ra.mono m2) rb ⟨k1, rfl, ?_⟩
  cases k1 with
  | false =>
    rw [if_neg Bool.false_ne_true] at e
    cases e
    rw [if_neg Bool.false_ne_true]
    exact q _ (m1.trans m2)
  | true =>
    rw [if_pos rfl] at e
    obtain ⟨z', e4, e⟩ := Option.bind_eq_some_iff.mp e
    obtain ⟨k', e5, e6⟩ := Option.map_eq_some_iff.mp e
    cases e6
    rw [if_pos rfl]
    refine sc' s z' S H2 σ _ e4 (hs.mono (m1.trans m2)) fun w H3 m3 rc _ _ => ?_
    exact cmp_ok e5 (rb.mono m3) rc (q _ ((m1.trans m2).trans m3))
theorem chain_bl {o1 o2 : CO} {a b c : E} {F : Fc} {G : Nat → Option D} {s : Env} (e : ev F G (.chain o1 o2 a b c) s = some d) : ∃ k, d = .bl k := by
  unfold ev at e
  obtain ⟨x', e1, e⟩ := Option.bind_eq_some_iff.mp e
  obtain ⟨y', e2, e⟩ := Option.bind_eq_some_iff.mp e
  obtain ⟨k1, e3, e⟩ := Option.bind_eq_some_iff.mp e
  split at e
  · obtain ⟨z', e4, e⟩ := Option.bind_eq_some_iff.mp e
    obtain ⟨k', e5, e6⟩ := Option.map_eq_some_iff.mp e
    exact ⟨_, e6.symm⟩
  · cases e
    exact ⟨_, rfl⟩
theorem good_chain {o1 o2 : CO} {p1 p2 : CmpOp} {a b c : E} {x y z : Expr} {pos : Pos} (h1 : cmpEq (pyCmp o1) p1 = true) (h2 : cmpEq (pyCmp o2) p2 = true) (hm : notSet z = true) (ha : GoodE p n N sc a x) (hb : GoodE p n N sc b y) (hc : GoodE p n N sc c z) :
    GoodE p n N sc (.chain o1 o2 a b c) (.Compare x [p1, p2] [y, z] pos) ∧ GoodT p n N sc (.chain o1 o2 a b c) (.Compare x [p1, p2] [y, z] pos) := by
  obtain ⟨ta, pa, sa⟩ := ha
  obtain ⟨tb, pb, sb⟩ := hb
  obtain ⟨tc, pc, sc'⟩ := hc
  cases cmpEq_ok h1
  cases cmpEq_ok h2
  constructor
  · refine ⟨tChain (rC p.K o1) (rC p.K o2) ta tb tc, fun X hx => pe_chain (by rw [← hx.K]; exact opC (hu65 hx.room) o1) (by rw [← hx.K]; exact opC (hu65 hx.room) o2) (pa X hx) (pb X hx) (pc X hx) (lmark_ok hm), fun s d S H σ Q e hs q => ?_⟩
    obtain ⟨k, rfl⟩ := chain_bl e
    exact chain_sat sa sb sc' e hs fun H' m => (q.ok m).bl
  · refine ⟨tTest (tChain (rC p.K o1) (rC p.K o2) ta tb tc), fun X hx => pt_chain (by rw [← hx.K]; exact opC (hu65 hx.room) o1) (by rw [← hx.K]; exact opC (hu65 hx.room) o2) (pa X hx) (pb X hx) (pc X hx) (lmark_ok hm), fun s k S H σ Q e hs q => ?_⟩
    exact chain_sat sa sb sc' e hs fun H' m => ⟨k, rfl, q H' m⟩
/-! ### and, or, if -/
theorem good_an {a b : E} {x y : Expr} {r : List Expr} {pos : Pos} (nb : al b = false) (ha : GoodE p n N sc a x) (hb : GoodE p n N sc b (.BoolOp .And (y :: r) pos)) : GoodE p n N sc (.an a b) (.BoolOp .And (x :: y :: r) pos) := by
  obtain ⟨ta, pa, sa⟩ := ha
  obtain ⟨tb, pb, sb⟩ := hb
  refine ⟨_, fun X hx => pe_and (pa X hx) (pb X hx), fun s d S H σ Q e hs q => ?_⟩
  unfold ev at e
  obtain ⟨x', e1, e⟩ := Option.bind_eq_some_iff.mp e
  refine sa s x' S H σ _ e1 hs fun v H1 m1 ra _ _ => ?_
  split at e
  · cases ra.bl
    refine ⟨true, rfl, ?_⟩
    rw [if_pos rfl]
    exact sb s d S H1 σ _ e (hs.mono m1) fun u H2 m2 rb qb fb => q u H2 (m1.trans m2) rb (fun _ => qb nb) fun z => (fb z).back m1
  · cases e
    cases ra.bl
    refine ⟨false, rfl, ?_⟩
    rw [if_neg Bool.false_ne_true]
    exact (q.ok m1).bl
  · cases e
theorem good_orr {a b : E} {x y : Expr} {r : List Expr} {pos : Pos} (nb : al b = false) (ha : GoodE p n N sc a x) (hb : GoodE p n N sc b (.BoolOp .Or (y :: r) pos)) : GoodE p n N sc (.orr a b) (.BoolOp .Or (x :: y :: r) pos) := by
  obtain ⟨ta, pa, sa⟩ := ha
  obtain ⟨tb, pb, sb⟩ := hb
  refine ⟨_, fun X hx => pe_or (pa X hx) (pb X hx), fun s d S H σ Q e hs q => ?_⟩
  unfold ev at e
  obtain ⟨x', e1, e⟩ := Option.bind_eq_some_iff.mp e
  refine sa s x' S H σ _ e1 hs fun v H1 m1 ra _ _ => ?_
  split at e
  · cases e
    cases ra.bl
    refine ⟨true, rfl, ?_⟩
    rw [if_pos rfl]
    exact (q.ok m1).bl
  · cases ra.bl
    refine ⟨false, rfl, ?_⟩
    rw [if_neg Bool.false_ne_true]
    exact sb s d S H1 σ _ e (hs.mono m1) fun u H2 m2 rb qb fb => q u H2 (m1.trans m2) rb (fun _ => qb nb) fun z => (fb z).back m1
  · cases e
theorem good_one {op : BoolOp} {b : E} {y : Expr} {pos : Pos} (hb : GoodE p n N sc b y) : GoodE p n N sc b (.BoolOp op [y] pos) := by
  obtain ⟨tb, pb, sb⟩ := hb
  exact ⟨tb, fun X hx => pe_one (pb X hx), sb⟩
theorem goodT_one {op : BoolOp} {b : E} {y : Expr} {pos : Pos} (hb : GoodT p n N sc b y) : GoodT p n N sc b (.BoolOp op [y] pos) := by
  obtain ⟨tb, pb, sb⟩ := hb
  refine ⟨tb, fun X hx => ?_, sb⟩
  cases op with
  | And => exact (pw_and1 (pb X hx)).pt
  | Or => exact (pw_or1 (pb X hx)).pt
theorem pw_of {X : Cx} {op : BoolOp} {vs : List Expr} {pos : Pos} {t : TT} (h : PT X (.BoolOp op vs pos) t) : PW X (.BoolOp op vs pos) t := ⟨fun _ => h.run⟩
theorem goodT_an {a b : E} {x y : Expr} {r : List Expr} {pos : Pos} (ha : GoodT p n N sc a x) (hb : GoodT p n N sc b (.BoolOp .And (y :: r) pos)) : GoodT p n N sc (.an a b) (.BoolOp .And (x :: y :: r) pos) := by
  obtain ⟨ta, pa, sa⟩ := ha
  obtain ⟨tb, pb, sb⟩ := hb
  refine ⟨_, fun X hx => (pw_and (pa X hx) (pw_of (pb X hx))).pt, fun s k S H σ Q e hs q => ?_⟩
  unfold ev at e
  obtain ⟨x', e1, e⟩ := Option.bind_eq_some_iff.mp e
  split at e
  · refine sa s _ S H σ _ e1 hs fun H1 m1 => ?_
    rw [if_pos rfl]
    exact sb s k S H1 σ _ e (hs.mono m1) fun H2 m2 => q H2 (m1.trans m2)
  · cases e
    refine sa s _ S H σ _ e1 hs fun H1 m1 => ?_
    rw [if_neg Bool.false_ne_true]
    exact q H1 m1
  · cases e
theorem goodT_orr {a b : E} {x y : Expr} {r : List Expr} {pos : Pos} (ha : GoodT p n N sc a x) (hb : GoodT p n N sc b (.BoolOp .Or (y :: r) pos)) : GoodT p n N sc (.orr a b) (.BoolOp .Or (x :: y :: r) pos) := by
  obtain ⟨ta, pa, sa⟩ := ha
  obtain ⟨tb, pb, sb⟩ := hb
  refine ⟨_, fun X hx => (pw_or (pa X hx) (pw_of (pb X hx))).pt, fun s k S H σ Q e hs q => ?_⟩
  unfold ev at e
  obtain ⟨x', e1, e⟩ := Option.bind_eq_some_iff.mp e
  split at e
  · cases e
    refine sa s _ S H σ _ e1 hs fun H1 m1 => ?_
    rw [if_pos rfl]
    exact q H1 m1
  · refine sa s _ S H σ _ e1 hs fun H1 m1 => ?_
    rw [if_neg Bool.false_ne_true]
    exact sb s k S H1 σ _ e (hs.mono m1) fun H2 m2 => q H2 (m1.trans m2)
  · cases e
theorem good_ife {c a b : E} {z x y : Expr} {pos : Pos} (na : al a = false) (nb : al b = false) (hc : GoodT p n N sc c z) (ha : GoodE p n N sc a x) (hb : GoodE p n N sc b y) : GoodE p n N sc (.ife c a b) (.IfExp z x y pos) := by
  obtain ⟨tc, pc, sc'⟩ := hc
  obtain ⟨ta, pa, sa⟩ := ha
  obtain ⟨tb, pb, sb⟩ := hb
  refine ⟨_, fun X hx => pe_ifExp (pc X hx) (pa X hx) (pb X hx), fun s d S H σ Q e hs q => ?_⟩
  unfold ev at e
  obtain ⟨x', e1, e⟩ := Option.bind_eq_some_iff.mp e
  split at e
  · refine sc' s _ S H σ _ e1 hs fun H1 m1 => ?_
    rw [if_pos rfl]
    exact sa s d S H1 σ _ e (hs.mono m1) fun u H2 m2 rb qb fb => q u H2 (m1.trans m2) rb (fun _ => qb na) fun w => (fb (ba w).1).back m1
  · refine sc' s _ S H σ _ e1 hs fun H1 m1 => ?_
    rw [if_neg Bool.false_ne_true]
    exact sb s d S H1 σ _ e (hs.mono m1) fun u H2 m2 rb qb fb => q u H2 (m1.trans m2) rb (fun _ => qb nb) fun w => (fb (ba w).2).back m1
  · cases e
/-- a test by its value -/
theorem isTrue_plain' {x : Expr} (h : plainT x = true) (env : PySem.Env) (whole : Sem Value) : isTrue x env whole = (do let v ← whole; standAt x.pos; holding [v] (truthy v)) := by
  cases x <;> first | rfl | cases h
theorem goodT_val {e : E} {x : Expr} (h : plainT x = true) (he : GoodE p n N sc e x) : GoodT p n N sc e x := by
  obtain ⟨t, pt, st⟩ := he
  refine ⟨_, fun X hx => pt_val (pt X hx) (isTrue_plain' h X.env), fun s k S H σ Q e hs q => ?_⟩
  exact st s _ S H σ _ e hs fun v H1 m1 ra _ _ => ⟨k, ra.bl, q H1 m1⟩
/-! ### lists of expressions, displays -/
theorem good_nil : GoodA p n N sc [] [] := ⟨tNil, fun X _ => pa_nil, fun s ds S H σ Q e hs q => by
  unfold evs at e
  cases e
  exact q [] H (Same.refl _) trivial fun _ => .nil⟩
theorem good_cons {e : E} {es : List E} {x : Expr} {xs : List Expr} (hn : notStar x = true) (h : GoodE p n N sc e x) (hs : GoodA p n N sc es xs) : GoodA p n N sc (e :: es) (x :: xs) := by
  obtain ⟨t, pt, st⟩ := h
  obtain ⟨ts, pts, sts⟩ := hs
  refine ⟨_, fun X hx => pa_cons (pt X hx) (pts X hx) (star_cons hn), fun s ds S H σ Q e' hs q => ?_⟩
  unfold evs at e'
  obtain ⟨d, e1, e'⟩ := Option.bind_eq_some_iff.mp e'
  obtain ⟨r, e2, rfl⟩ := Option.map_eq_some_iff.mp e'
  refine st s d S H σ _ e1 hs fun v H1 m1 ra qa _ => sts s r S H1 σ _ e2 (hs.mono m1) fun vs H2 m2 rs qs => ?_
  refine q (v :: vs) H2 (m1.trans m2) ⟨ra.mono m2, rs⟩ fun c => ?_
  rw [List.all_cons] at c
  obtain ⟨c1, c2⟩ := ba c
  exact .cons ((qa (by simpa using c1)).mono (gd_mono m2)) (qs c2)
theorem good_tup {es : List E} {xs : List Expr} {k : Nat} {pos : Pos} (c : es.all (!al ·) = true) (h : GoodA p n N sc es xs) : GoodE p n N sc (.tup es) (.Tuple xs k pos) := by
  obtain ⟨t, pt, st⟩ := h
  refine ⟨_, fun X hx => pe_tup (pt X hx), fun s d S H σ Q e hs q => ?_⟩
  unfold ev at e
  obtain ⟨ds, e1, e⟩ := Option.bind_eq_some_iff.mp e
  split at e
  · cases e
    rename_i hz
    refine st s ds S H σ _ e1 hs fun vs H1 m1 _ qs => ⟨by rw [(qs c).length]; exact hz, fun a ha => ?_⟩
    exact (q.ok m1).newT (hs.dom.mono m1) ha (qs c)
  · cases e
theorem good_lst {es : List E} {xs : List Expr} {pos : Pos} (c : es.all (!al ·) = true) (h : GoodA p n N sc es xs) : GoodE p n N sc (.lst es) (.List xs pos) := by
  obtain ⟨t, pt, st⟩ := h
  refine ⟨_, fun X hx => pe_lst (pt X hx), fun s d S H σ Q e hs q => ?_⟩
  unfold ev at e
  obtain ⟨ds, e1, e⟩ := Option.bind_eq_some_iff.mp e
  split at e
  · cases e
    rename_i hz
    refine st s ds S H σ _ e1 hs fun vs H1 m1 _ qs => ⟨by rw [(qs c).length]; exact hz, fun a ha => ?_⟩
    exact (q.ok m1).newL (hs.dom.mono m1) ha (qs c)
  · cases e
end
end PL

/-! PL6: subscripts, slices, calls, comprehensions; the whole of expressions. -/
namespace PL
open PySem PySem.Spec L2
section
variable {p : Pr} {n : Nat} {N : List Str} {sc : Scope} {S : Addr → Prop} {H H1 H2 : Hp} {d : D} {Q : VK} {a f : Bool}
/-! ### subscripts, slices -/
theorem plainIx {b : Expr} (h : notSlice b = true) : PlainIx b := by
  intro o i
  cases b <;> first | rfl | cases h
theorem good_ix {a b : E} {x y : Expr} {pos : Pos} (hn : notSlice y = true) (ha : GoodE p n N sc a x) (hb : GoodE p n N sc b y) : GoodE p n N sc (.ix a b) (.Subscript x y pos) := by
  obtain ⟨ta, pa, sa⟩ := ha
  obtain ⟨tb, pb, sb⟩ := hb
  refine ⟨tOp (rIx p.K) ta tb, fun X hx => pe_ix (by rw [← hx.K]; exact ix_seq) (pa X hx) (pb X hx) (plainIx hn), fun s d S H σ Q e hs q => ?_⟩
  unfold ev at e
  obtain ⟨x', e1, e⟩ := Option.bind_eq_some_iff.mp e
  obtain ⟨y', e2, e3⟩ := Option.bind_eq_some_iff.mp e
  refine sa s x' S H σ _ e1 hs fun v H1 m1 ra _ _ => sb s y' S H1 σ _ e2 (hs.mono m1) fun u H2 m2 rb _ _ => ?_
  exact ix_ok e3 (ra.mono m2) rb fun w r => q w H2 (m1.trans m2) (.inl r) (fun _ => r) fun z => by cases z
/-- a slice's end -/
def SatO (p : Pr) (n : Nat) (t : TO) (e : E) : Prop := ∀ (s : Env) (o : Option Int) (S : Addr → Prop) (H : Hp) (σ : L2.St) (Q : Option Int → Hp → Prop),
  (if e.isNo then some none else (ev (call p.T p.G n) p.G e s).bind endD) = some o → SR p.K p.FA S H σ s → (∀ H', Same H H' → Q o H') → t σ H Q
def GoodO (p : Pr) (n : Nat) (N : List Str) (sc : Scope) (e : E) (x : Option Expr) : Prop := ∃ t : TO, (∀ X, XF p n N sc X → PO X x t) ∧ SatO p n t e
theorem goodO_none {e : E} (h : e.isNo = true) : GoodO p n N sc e none := ⟨_, fun X _ => po_none, fun s o S H σ Q e hs q => by
  rw [h, if_pos rfl] at e
  cases e
  exact q H (Same.refl _)⟩
theorem goodO_some {e : E} {x : Expr} (h : e.isNo = false) (he : GoodE p n N sc e x) : GoodO p n N sc e (some x) := by
  obtain ⟨t, pt, st⟩ := he
  refine ⟨_, fun X hx => po_some (pt X hx), fun s o S H σ Q e hs q => ?_⟩
  rw [h, if_neg Bool.false_ne_true] at e
  obtain ⟨d, e1, e2⟩ := Option.bind_eq_some_iff.mp e
  refine st s d S H σ _ e1 hs fun v H1 m1 ra _ _ => ?_
  cases d <;> cases e2
  exact ⟨_, ra.int, q H1 m1⟩
theorem good_sl {a lo hi : E} {x : Expr} {l h : Option Expr} {p2 pos : Pos} (ha : GoodE p n N sc a x) (hl : GoodO p n N sc lo l) (hh : GoodO p n N sc hi h) : GoodE p n N sc (.sl a lo hi) (.Subscript x (.Slice l h none p2) pos) := by
  obtain ⟨ta, pa, sa⟩ := ha
  obtain ⟨tl, pl, sl⟩ := hl
  obtain ⟨th, ph, sh⟩ := hh
  refine ⟨tSl (rSl p.K) ta tl th, fun X hx => pe_slice (by rw [← hx.K]; exact slR) (pa X hx) (pl X hx) (ph X hx), fun s d S H σ Q e hs q => ?_⟩
  unfold ev at e
  obtain ⟨x', e1, e⟩ := Option.bind_eq_some_iff.mp e
  obtain ⟨l', e2, e⟩ := Option.bind_eq_some_iff.mp e
  obtain ⟨h', e3, e4⟩ := Option.bind_eq_some_iff.mp e
  refine sa s x' S H σ _ e1 hs fun v H1 m1 ra _ _ => sl s l' S H1 σ _ e2 (hs.mono m1) fun H2 m2 => sh s h' S H2 σ _ e3 (hs.mono (m1.trans m2)) fun H3 m3 => ?_
  exact sl_ok e4 (ra.mono (m2.trans m3)) (hs.dom.mono (m1.trans (m2.trans m3))) (q.ok (m1.trans (m2.trans m3)))
/-! ### calls -/
theorem call_len {T : Tab} {G : Nat → Option D} {n : Nat} {f : Nat} {fi : Fn} {xs : List D} {r : D × List D} (e : call T G n f xs = some r) (h : T f = some fi) : (xs ++ fi.dfl).length = fi.ps := by
  cases n with
  | zero => cases e
  | succ n =>
    unfold call at e
    rw [h, Option.bind_some] at e
    split at e
    · assumption
    · cases e
theorem dfl_rs {K : PySem.W.Frag} {FA : Nat → Addr} {G : Hp} : ∀ {ds : List D}, ds.all isDfl = true → Rs K FA G (ds.map dV) ds
  | [], _ => .nil
  | d :: ds, h => by
    rw [List.all_cons] at h
    obtain ⟨h1, h2⟩ := ba h
    exact .cons (dV_ok h1) (dfl_rs h2)
theorem call_sat {fi : Fn} {f : Nat} {es : List E} {ta : TA} (hT : p.T f = some fi) (hd : fi.dfl.all isDfl = true) (sa : SatA p n ta es) (c : es.all (!al ·) = true) : Sat p n (tCall (spF p n fi f) (fi.dfl.map dV) E0 ta) (.call f es) := by
  intro s d S H σ Q e hs q
  unfold ev at e
  obtain ⟨xs, e1, e⟩ := Option.bind_eq_some_iff.mp e
  obtain ⟨⟨d', io⟩, e2, e⟩ := Option.bind_eq_some_iff.mp e
  have hl := call_len e2 hT
  cases io with
  | cons _ _ => cases e
  | nil =>
    cases e
    refine sa s xs S H σ _ e1 hs fun vs H1 m1 _ qs => ?_
    have r := (qs c).append (dfl_rs (K := p.K) (FA := p.FA) (G := gd S H1) hd)
    refine ⟨by rw [r.length]; exact hl, S, xs, _, hs.dom.mono m1, r, e2, fun v H' m' rv fv => q v H' (m1.trans m') (.inl rv) (fun _ => rv) fun z => ?_⟩
    unfold fr at z
    rw [hT] at z
    exact (fv z).back m1
theorem good_call (fc : Facts p n) {f : Nat} {fi : Fn} {es : List E} {x : Expr} {xs : List Expr} {q1 pos : Pos} (hT : p.T f = some fi) (hg : gloB sc fi.name = true) (hst : (x :: xs).all notStar = true) (h : GoodA p n N sc es (x :: xs)) (c : es.all (!al ·) = true) :
    GoodE p n N sc (.call f es) (.Call (.Name fi.name q1) (x :: xs) [] pos) := by
  obtain ⟨ta, pa, sa⟩ := h
  obtain ⟨fd, ds, h1, h2, h3, h4, h5, h6⟩ := fc.fn f fi hT
  refine ⟨_, fun X hx => ?_, call_sat hT h5 sa c⟩
  have hst' := hst
  rw [List.all_cons] at hst'
  obtain ⟨c1, c2⟩ := ba hst'
  exact pe_call (CX := CX0) (k := n) (f := p.FA f) (fd := fd) (ps := fi.names.take fi.ps) (by rw [hx.prog, hx.w, hx.K, hx.mg, hx.base]; exact h6) hx.room (hx.gl hg) (by rw [hx.mg]; exact h1) (by rw [hx.K]; exact h2) (by rw [hx.K]; exact h3) h4 pass0 (pa X hx) (glo_ok hg).2.1 (star_cons c1) (star_none c2)
theorem good_call0 (fc : Facts p n) {f : Nat} {fi : Fn} {q1 pos : Pos} (hT : p.T f = some fi) (hg : gloB sc fi.name = true) : GoodE p n N sc (.call f []) (.Call (.Name fi.name q1) [] [] pos) := by
  obtain ⟨fd, ds, h1, h2, h3, h4, h5, h6⟩ := fc.fn f fi hT
  obtain ⟨ta, pa, sa⟩ := good_nil (p := p) (n := n) (N := N) (sc := sc)
  have sa0 : SatA p n tNil [] := fun s ds S H σ Q e hs q => by
    unfold evs at e
    cases e
    exact q [] H (Same.refl _) trivial fun _ => .nil
  refine ⟨_, fun X hx => ?_, call_sat hT h5 sa0 rfl⟩
  exact pe_call0 (CX := CX0) (k := n) (f := p.FA f) (fd := fd) (ps := fi.names.take fi.ps) (by rw [hx.prog, hx.w, hx.K, hx.mg, hx.base]; exact h6) hx.room (hx.gl hg) (by rw [hx.mg]; exact h1) (by rw [hx.K]; exact h2) (by rw [hx.K]; exact h3) h4 pass0 (glo_ok hg).2.1
mutual
theorem noL_R {K : PySem.W.Frag} {FA : Nat → Addr} {G G' : Hp} (m : ∀ a o, G a = some o → (∀ vs, o ≠ .lst vs) → G' a = some o) : ∀ {v : V} {d : D}, R K FA G v d → noL d = true → R K FA G' v d
  | _, _, .non, _ => .non
  | _, _, .bl b, _ => .bl b
  | _, _, .int i, _ => .int i
  | _, _, .str x, _ => .str x
  | _, _, .tup h r, c => .tup (h.elim (fun q => .inl (q.elim (fun q => .inl (m _ _ q fun _ e => by cases e)) fun ⟨o, q⟩ => .inr ⟨o, m _ _ q fun _ e => by cases e⟩)) .inr) (noLs_R m r (by simpa [noL] using c))
  | _, _, .lst _ _, c => by simp [noL] at c
  | _, _, .fls _ _, c => by simp [noL] at c
  | _, _, .fn f, _ => .fn f
theorem noLs_R {K : PySem.W.Frag} {FA : Nat → Addr} {G G' : Hp} (m : ∀ a o, G a = some o → (∀ vs, o ≠ .lst vs) → G' a = some o) : ∀ {vs : List V} {ds : List D}, Rs K FA G vs ds → noLs ds = true → Rs K FA G' vs ds
  | _, _, .nil, _ => .nil
  | _, _, .cons h r, c => by
    simp only [noLs] at c
    obtain ⟨c1, c2⟩ := ba c
    exact .cons (noL_R m h c1) (noLs_R m r c2)
end
theorem RAs.all : ∀ {vs : List V} {ds : List D}, RAs p.K p.FA S H vs ds → Rs p.K p.FA H vs ds
  | [], [], _ => .nil
  | _ :: _, _ :: _, h => .cons h.1.all (RAs.all h.2)
  | [], _ :: _, h => h.elim
  | _ :: _, [], h => h.elim
/-- a call that is handed lists of one's own: its answer has none -/
theorem callb_sat {fi : Fn} {f : Nat} {es : List E} {ta : TA} (hT : p.T f = some fi) (hd : fi.dfl.all isDfl = true) (sa : SatA p n ta es) : Sat p n (tCall (spF p n fi f) (fi.dfl.map dV) E0 ta) (.callb f es) := by
  intro s d S H σ Q e hs q
  unfold ev at e
  obtain ⟨xs, e1, e⟩ := Option.bind_eq_some_iff.mp e
  obtain ⟨⟨d', io⟩, e2, e⟩ := Option.bind_eq_some_iff.mp e
  have hl := call_len e2 hT
  cases io with
  | cons _ _ => cases e
  | nil =>
    have e' : (if noL d' = true then some d' else none) = some d := e
    by_cases hn : noL d' = true
    · rw [if_pos hn] at e'
      cases e'
      refine sa s xs S H σ _ e1 hs fun vs H1 m1 rs _ => ?_
      have same0 : ∀ H' : Hp, gd (fun _ => False) H' = H' := fun H' => by
        funext a
        unfold gd
        rw [if_neg fun z => z]
      have r := (RAs.all rs).append (dfl_rs (K := p.K) (FA := p.FA) (G := H1) hd)
      refine ⟨by rw [r.length]; exact hl, fun _ => False, xs, _, fun a z => z.elim, by rw [same0]; exact r, e2, fun v H' m' rv fv => ?_⟩
      rw [same0] at rv
      have dm := hs.dom.mono (m1.trans m')
      have rv' : R p.K p.FA (gd S H') v d := noL_R (fun a o e hne => by
        refine gd_of (fun z => ?_) e
        obtain ⟨vs, q⟩ := dm a z
        rw [q] at e
        exact hne vs (Option.some.inj e).symm) rv hn
      exact q v H' (m1.trans m') (.inl rv') (fun _ => rv') fun _ => Fr.no fun ds e => by rw [e] at hn; cases hn
    · rw [if_neg hn] at e'
      cases e'
theorem good_callb (fc : Facts p n) {f : Nat} {fi : Fn} {es : List E} {x : Expr} {xs : List Expr} {q1 pos : Pos} (hT : p.T f = some fi) (hg : gloB sc fi.name = true) (hst : (x :: xs).all notStar = true) (h : GoodA p n N sc es (x :: xs)) :
    GoodE p n N sc (.callb f es) (.Call (.Name fi.name q1) (x :: xs) [] pos) := by
  obtain ⟨ta, pa, sa⟩ := h
  obtain ⟨fd, ds, h1, h2, h3, h4, h5, h6⟩ := fc.fn f fi hT
  refine ⟨_, fun X hx => ?_, callb_sat hT h5 sa⟩
  have hst' := hst
  rw [List.all_cons] at hst'
  obtain ⟨c1, c2⟩ := ba hst'
  exact pe_call (CX := CX0) (k := n) (f := p.FA f) (fd := fd) (ps := fi.names.take fi.ps) (by rw [hx.prog, hx.w, hx.K, hx.mg, hx.base]; exact h6) hx.room (hx.gl hg) (by rw [hx.mg]; exact h1) (by rw [hx.K]; exact h2) (by rw [hx.K]; exact h3) h4 pass0 (pa X hx) (glo_ok hg).2.1 (star_cons c1) (star_none c2)
/-! ### built-ins -/
theorem biPE {X : Cx} {f : BI} {x : Expr} {xs : List Expr} {q1 pos : Pos} {t : TA} (hc : X.calm = true) (hg : Gl X (biN f)) (hm : X.mg (biN f) = none) (ha : PA X (x :: xs) t) (hn : biN f ≠ "__name__") (hdb : (biN f == ("__debug__" : Str)) = false) (hst : (x :: xs).all notStar = true) :
    PE X (.Call (.Name (biN f) q1) (x :: xs) [] pos) (tCB (biR X.K f) t) := by
  rw [List.all_cons] at hst
  obtain ⟨c1, c2⟩ := ba hst
  have hv := biV_boot f
  have hcall := biC (X := X) hc f
  cases f <;> first
    | exact pe_callB hcall hg hm hv ha hn hdb (star_cons c1) (star_none c2)
    | exact pe_callTy hcall hg hm hv ha hn hdb (star_cons c1) (star_none c2)
theorem good_bi (fc : Facts p n) {f : BI} {es : List E} {x : Expr} {xs : List Expr} {q1 pos : Pos} (hb : biT f = none) (hg : gloB sc (biN f) = true) (hst : (x :: xs).all notStar = true) (h : GoodA p n N sc es (x :: xs)) :
    GoodE p n N sc (.bi f es) (.Call (.Name (biN f) q1) (x :: xs) [] pos) := by
  obtain ⟨ta, pa, sa⟩ := h
  refine ⟨tCB (biR p.K f) ta, fun X hx => ?_, fun s d S H σ Q e hs q => ?_⟩
  · rw [← hx.K]
    exact biPE hx.calm (hx.gl hg) (by rw [hx.mg]; exact fc.bi f) (pa X hx) (glo_ok hg).2.2 (glo_ok hg).2.1 hst
  · unfold ev at e
    obtain ⟨ds, e1, e2⟩ := Option.bind_eq_some_iff.mp e
    refine sa s ds S H σ _ e1 hs fun vs H1 m1 rs _ => ?_
    have z := bi_ok e2 rs (hs.dom.mono m1) (q.ok m1)
    unfold biX at z
    rw [hb, List.append_nil] at z
    exact z
theorem tyPE {X : Cx} {t : String} {x : Str} {pos : Pos} (hx : x = Str.ofString t) (ht : t = "int" ∨ t = "str" ∨ t = "tuple" ∨ t = "list" ∨ t = "bool") (hg : Gl X x) (hm : X.mg x = none) (hn : x ≠ "__name__") (hdb : (x == ("__debug__" : Str)) = false) : PE X (.Name x pos) (tC (.ty t)) := by
  refine pe_bltn (u := .type t) hg hm ?_ rfl hn hdb
  subst hx
  rcases ht with rfl | rfl | rfl | rfl | rfl <;> decide +kernel
theorem biT_in {f : BI} {t : String} (h : biT f = some t) : t = "int" ∨ t = "str" ∨ t = "tuple" ∨ t = "list" ∨ t = "bool" := by
  cases f <;> first | (cases h; done) | (cases h; simp)
theorem ty_mg (fc : Facts p n) {t : String} (ht : t = "int" ∨ t = "str" ∨ t = "tuple" ∨ t = "list" ∨ t = "bool") : p.mg (Str.ofString t) = none := by
  rcases ht with rfl | rfl | rfl | rfl | rfl
  · exact fc.bi .int_
  · exact fc.bi .str_
  · exact fc.bi .tuple_
  · exact fc.bi .list_
  · exact fc.bool
theorem good_isi (fc : Facts p n) {f : BI} {t : String} {e1 : E} {x : Expr} {z : Str} {q1 q2 pos : Pos} (hb : biT f = some t) (hg : gloB sc (biN f) = true) (hz : z = Str.ofString t) (hgz : gloB sc z = true) (hst : notStar x = true) (h : GoodE p n N sc e1 x) :
    GoodE p n N sc (.bi f [e1]) (.Call (.Name (biN f) q1) [x, .Name z q2] [] pos) := by
  obtain ⟨te, pe, se⟩ := h
  refine ⟨tCB (biR p.K f) (tCons te (tCons (tC (.ty t)) tNil)), fun X hx => ?_, fun s d S H σ Q e hs q => ?_⟩
  · rw [← hx.K]
    refine biPE hx.calm (hx.gl hg) (by rw [hx.mg]; exact fc.bi f) (pa_cons (pe X hx) (pa_cons (tyPE hz (biT_in hb) (hx.gl hgz) ?_ (glo_ok hgz).2.2 (glo_ok hgz).2.1) pa_nil) (star_cons hst)) (glo_ok hg).2.2 (glo_ok hg).2.1 (by rw [List.all_cons, hst]; rfl)
    rw [hx.mg, hz]
    exact ty_mg fc (biT_in hb)
  · unfold ev at e
    obtain ⟨ds, e1', e2⟩ := Option.bind_eq_some_iff.mp e
    unfold evs at e1'
    obtain ⟨d1, e3, e4⟩ := Option.bind_eq_some_iff.mp e1'
    unfold evs at e4
    cases e4
    refine se s d1 S H σ _ e3 hs fun v H1 m1 ra _ _ => ?_
    have z := bi_ok (vs := [v]) e2 ⟨ra, trivial⟩ (hs.dom.mono m1) (q.ok m1)
    unfold biX at z
    rw [hb] at z
    exact z
/-! ### methods of texts -/
theorem strs_rs {K : PySem.W.Frag} {FA : Nat → Addr} {G : Hp} : ∀ {vs : List V} {ds : List D} {bs : List Str}, Rs K FA G vs ds → strsD ds = some bs → vs = bs.map V.str
  | _, _, _, .nil, e => by cases e; rfl
  | _, _, _, .cons h r, e => by
    unfold strsD at e
    split at e
    · rename_i q; cases q
    · rename_i q
      cases q
      obtain ⟨bs, e1, rfl⟩ := Option.map_eq_some_iff.mp e
      cases h
      rw [strs_rs r e1]
      rfl
    · cases e
theorem rs_strs {K : PySem.W.Frag} {FA : Nat → Addr} {G : Hp} : ∀ {ys : List Str}, Rs K FA G (ys.map V.str) (ys.map D.str)
  | [] => .nil
  | y :: _ => .cons (.str y) rs_strs
def meI : MI → String
  | .index => "list.index"
  | .find => "str.find"
  | .split => "str.split"
  | .join => "str.join"
  | .get => "dict.get"
  | .values => "dict.values"
def meR (K : PySem.W.Frag) : MI → V → List V → Hp → VK → Prop
  | .find => fun x xs H Q => ∃ (a b : Str) (i : Int), x = .str a ∧ xs = [.str b, .int i] ∧ Q (.int (Txt.find3 a b i)) H
  | .split => fun x xs H Q => ∃ a b, x = .str a ∧ xs = [.str b] ∧ (b.length == 0) = false ∧ a.length + 2 ≤ sizeLine ∧ rNewStrs (Txt.split a b) H Q
  | .join => fun x xs H Q => ∃ a p, ∃ ys : List Str, x = .str a ∧ xs = [.ref p] ∧ (SqL K H p (ys.map V.str) ∨ SqT K H p (ys.map V.str)) ∧ (ys.map (·.length)).sum + ys.length * a.length ≤ 16777216 ∧ Q (.str (Txt.join a ys)) H
  | _ => fun _ _ _ _ => False
theorem meM {X : Cx} : ∀ m : MI, MtR X (meI m) (meR X.K m)
  | .find => mt_find3
  | .split => mt_split
  | .join => mt_join
  | .index => fun _ _ _ _ _ _ _ _ _ _ _ _ h => h.elim
  | .get => fun _ _ _ _ _ _ _ _ _ _ _ _ h => h.elim
  | .values => fun _ _ _ _ _ _ _ _ _ _ _ _ h => h.elim
theorem meS {k : Nat} : ∀ {m : MI}, meOk m k = true → Slot "str" (meN m) (meI m) ∧ typeOf (.builtin (meI m)) = pure (.type "method_descriptor")
  | .find, _ => ⟨PySem.F.slot_str_find, PySem.F.type_str_find⟩
  | .split, _ => ⟨PySem.F.slot_str_split, PySem.F.type_str_split⟩
  | .join, _ => ⟨PySem.F.slot_str_join, PySem.F.type_str_join⟩
  | .index, h => by unfold meOk at h; cases h
  | .get, h => by unfold meOk at h; cases h
  | .values, h => by unfold meOk at h; cases h
theorem base_ok {y : Expr} {a : Str} {env : PySem.Env} {u : Sem Value} (h : notCall0 y = true) : attributeBase y a env u = u := by
  cases y with
  | Call g xs ks pos =>
    cases xs <;> cases ks <;> first | (unfold notCall0 at h; cases h; done) | (cases g <;> rfl)
  | _ => rfl
theorem meOk_len {k : Nat} : ∀ {m : MI}, meOk m k = true → k = 1 ∨ k = 2 := by
  intro m h
  unfold meOk at h
  split at h <;> first | exact .inl rfl | exact .inr rfl | cases h
theorem mePE {X : Cx} {m : MI} {y : Expr} {xs : List Expr} {to : TE} {t : TA} {apos pos : Pos} (hk : meOk m xs.length = true) (hb : notCall0 y = true) (hl : (apos.endLine == pos.line) = true) (hst : xs.all notStar = true) (ho : PE X y to) (ha : PA X xs t) :
    PE X (.Call (.Attribute y (meN m) apos) xs [] pos) (tBM X.K "str" (meR X.K m) to t) := by
  match xs, meOk_len hk with
  | [x], _ =>
    rw [List.all_cons] at hst
    have c1 := (ba hst).1
    exact pe_bm PySem.F.plainAttrs_str (meS hk).1 (meS hk).2 (meM m) ho ha (base_ok hb) (by rw [star_cons c1]; rfl) hl (star_cons c1) rfl
  | [x, z], _ =>
    rw [List.all_cons, List.all_cons] at hst
    have c1 := (ba hst).1
    have c2 := (ba (ba hst).2).1
    exact pe_bm PySem.F.plainAttrs_str (meS hk).1 (meS hk).2 (meM m) ho ha (base_ok hb) (by rw [star_cons c1, star_cons c2]; rfl) hl (star_cons c1) (by rw [star_cons c2]; rfl)
  | [], h => exact absurd h (by decide)
  | _ :: _ :: _ :: _, h => exact absurd h (by simp only [List.length_cons]; omega)
theorem me_ty {K : PySem.W.Frag} {FA : Nat → Addr} {m : MI} {x : D} {ds : List D} {v : V} (e : meD m x ds = some d) (r : RA K FA S H v x) : tyV K "str" v H := by
  unfold meD at e
  split at e <;> first | (cases r.str; rfl) | cases e
theorem me_ok {K : PySem.W.Frag} {FA : Nat → Addr} {m : MI} {x : D} {ds : List D} {v : V} {vs : List V} (e : meD m x ds = some d) (r : RA K FA S H v x) (rs : RAs K FA S H vs ds) (dm : Dom S H) (q : Ok K FA S H d Q) : meR K m v vs H Q := by
  unfold meD at e
  split at e
  · split at e
    · rename_i c
      cases e
      cases r.str
      obtain ⟨u, rfl, r1⟩ := rs.one
      cases r1.str
      exact ⟨_, _, rfl, rfl, c.1, c.2, fun p hp => q.newL dm hp rs_strs⟩
    · cases e
  · cases e
    cases r.str
    obtain ⟨u, w, rfl, r1, r2⟩ := rs.two
    cases r1.str
    cases r2.int
    exact ⟨_, _, _, rfl, rfl, q.int⟩
  · obtain ⟨ys, e1, e2⟩ := Option.bind_eq_some_iff.mp e
    split at e2
    · rename_i c
      cases e2
      cases r.str
      obtain ⟨u, rfl, r1⟩ := rs.one
      obtain ⟨a, us, rfl, h, r⟩ := r1.lst
      exact ⟨_, a, ys, rfl, rfl, .inl (by rw [← strs_rs r e1]; exact SqL.of h), c, q.str⟩
    · cases e2
  · obtain ⟨ys, e1, e2⟩ := Option.bind_eq_some_iff.mp e
    split at e2
    · rename_i c
      cases e2
      cases r.str
      obtain ⟨u, rfl, r1⟩ := rs.one
      obtain ⟨a, us, rfl, h, r⟩ := r1.tup
      exact ⟨_, a, ys, rfl, rfl, .inr (by rw [← strs_rs r e1]; exact h), c, q.str⟩
    · cases e2
  · cases e
theorem good_me {m : MI} {o : E} {es : List E} {y : Expr} {xs : List Expr} {apos pos : Pos} (hk : meOk m xs.length = true) (hb : notCall0 y = true) (hl : (apos.endLine == pos.line) = true) (hst : xs.all notStar = true) (ho : GoodE p n N sc o y) (ha : GoodA p n N sc es xs) :
    GoodE p n N sc (.me m o es) (.Call (.Attribute y (meN m) apos) xs [] pos) := by
  obtain ⟨to, po, so⟩ := ho
  obtain ⟨ta, pa, sa⟩ := ha
  refine ⟨tBM p.K "str" (meR p.K m) to ta, fun X hx => by rw [← hx.K]; exact mePE hk hb hl hst (po X hx) (pa X hx), fun s d S H σ Q e hs q => ?_⟩
  unfold ev at e
  obtain ⟨x', e1, e⟩ := Option.bind_eq_some_iff.mp e
  obtain ⟨ds, e2, e3⟩ := Option.bind_eq_some_iff.mp e
  refine so s x' S H σ _ e1 hs fun v H1 m1 ra _ _ => ⟨me_ty e3 ra, ?_⟩
  refine sa s ds S H1 σ _ e2 (hs.mono m1) fun vs H2 m2 rs _ => ?_
  exact me_ok e3 (ra.mono m2) rs ((hs.dom.mono m1).mono m2) (q.ok (m1.trans m2))
/-! ### targets -/
def gList : List Nat → TGs
  | [] => gNil
  | i :: is => gCons (gName i) (gList is)
def gOf (K : PySem.W.Frag) : List Nat → TG
  | [i] => gName i
  | is => gTup K is.length (gList is)
theorem assign_each {xs : List Expr} {env : PySem.Env} : ∀ {is : List Nat}, tgB N sc is xs = true → (assignEach xs env).length = is.length ∧ (assignEach xs env).findIdx? (·.1) = none := by
  induction xs with
  | nil =>
    intro is h
    cases is with
    | nil => exact ⟨rfl, rfl⟩
    | cons => cases h
  | cons x xs ih =>
    intro is h
    cases is with
    | nil => cases h
    | cons i is =>
      cases x <;> first | (cases h; done) | skip
      rename_i nm ps
      unfold tgB at h
      obtain ⟨h1, h2⟩ := ih (ba (ba h).2).2
      have e : assignEach (Expr.Name nm ps :: xs) env = (false, assign (.Name nm ps) env) :: assignEach xs env := rfl
      rw [e, List.length_cons, List.length_cons, h1, List.findIdx?_cons, h2]
      exact ⟨rfl, rfl⟩
theorem loc_ok {x : Str} (h : (match sc.names.lookup x with
    | some .local => true
    | some .cell => true
    | _ => false) = true) : sc.names.lookup x = some .local ∨ sc.names.lookup x = some .cell := by
  split at h
  · exact .inl (by assumption)
  · exact .inr (by assumption)
  · cases h
theorem pgs_ok {X : Cx} (hN : X.N = N) (nd : N.Nodup) (hl : ∀ x, (sc.names.lookup x = some .local ∨ sc.names.lookup x = some .cell) → Loc X.env.scope x ∧ (X.fn x = true ∨ X.env.scope.names.lookup x = some .local)) :
    ∀ {is : List Nat} {xs : List Expr}, tgB N sc is xs = true → PGs X xs (gList is)
  | [], [], _ => pgs_nil
  | i :: is, .Name x ps :: xs, h => by
    unfold tgB at h
    obtain ⟨h1, h2⟩ := ba h
    obtain ⟨h3, h4⟩ := ba h2
    obtain ⟨k1, k2⟩ := hl x (loc_ok h3)
    exact pgs_cons (pg_name (i := i) (by rw [hN]; exact nd) (by rw [hN]; exact of_decide_eq_true h1) k1 k2) (pgs_ok hN nd hl h4)
  | [], _ :: _, h => by cases h
  | _ :: _, [], h => by cases h
theorem pg_ok {X : Cx} (hK : X.K = p.K) (hc : X.calm = true) (hN : X.N = N) (nd : N.Nodup) (hl : ∀ x, (sc.names.lookup x = some .local ∨ sc.names.lookup x = some .cell) → Loc X.env.scope x ∧ (X.fn x = true ∨ X.env.scope.names.lookup x = some .local))
    {is : List Nat} {tg : Expr} (h : chkTg N sc is tg = true) : PG X tg (gOf p.K is) := by
  unfold chkTg at h
  split at h
  · rename_i i x ps
    unfold tgB at h
    obtain ⟨h1, h2⟩ := ba h
    obtain ⟨h3, h4⟩ := ba h2
    obtain ⟨k1, k2⟩ := hl x (loc_ok h3)
    exact pg_name (i := i) (by rw [hN]; exact nd) (by rw [hN]; exact of_decide_eq_true h1) k1 k2
  · rename_i xs k ps _
    obtain ⟨h1, h2⟩ := ba h
    have hlen : 2 ≤ is.length := of_decide_eq_true h1
    have e : gOf p.K is = gTup X.K is.length (gList is) := by
      rw [hK]
      match is, hlen with
      | a :: b :: r, _ => rfl
    rw [e]
    obtain ⟨q1, q2⟩ := assign_each (env := X.env) h2
    exact pg_tup hc (pgs_ok hN nd hl h2) q1 q2
  · cases h
theorem SR.set {K : PySem.W.Frag} {FA : Nat → Addr} {σ : L2.St} {s : Env} {i : Nat} {v : V} (h : SR K FA S H σ s) (r : R K FA (gd S H) v d) : SR K FA S H (σ.set i (some v)) (s.set i (.sh d)) := by
  refine ⟨by rw [List.length_set, List.length_set]; exact h.len, h.dom, fun j e hj => ?_, fun j e hj => ?_, fun j k e e' a hjk hj hk => ?_⟩
  · rw [List.getElem?_set] at hj ⊢
    by_cases q : i = j
    · rw [if_pos q] at hj ⊢
      rw [← h.len]
      split at hj
      · rename_i hlt
        cases hj
        rw [if_pos hlt]
        exact ⟨v, rfl, r⟩
      · cases hj
    · rw [if_neg q] at hj ⊢
      exact h.sh j e hj
  · rw [List.getElem?_set] at hj ⊢
    by_cases q : i = j
    · rw [if_pos q] at hj
      split at hj <;> cases hj
    · rw [if_neg q] at hj ⊢
      exact h.ow j e hj
  · rw [List.getElem?_set] at hj hk ⊢
    by_cases q : i = j
    · rw [if_pos q] at hj
      split at hj <;> cases hj
    · by_cases q2 : i = k
      · rw [if_pos q2] at hk
        split at hk <;> cases hk
      · rw [if_neg q] at hj ⊢
        rw [if_neg q2] at hk
        rw [List.getElem?_set_ne q2]
        exact h.ap j k e e' a hjk hj hk
theorem tgs_sat {K : PySem.W.Frag} {FA : Nat → Addr} {s2 : Env} {Qs : L2.St → Hp → Prop} : ∀ {is : List Nat} {ds : List D} {vs : List V} {s : Env} {σ : L2.St}, tgs is ds s = some s2 → Rs K FA (gd S H) vs ds → SR K FA S H σ s →
    (∀ σ2, SR K FA S H σ2 s2 → (∀ us : List Nat, (∀ i ∈ is, i ∈ us) → wipe σ2 us = wipe σ us) → Qs σ2 H) → gList is vs σ H Qs
  | [], [], _, s, σ, e, r, hs, q => by
    cases e
    cases r
    exact ⟨rfl, q σ hs fun _ _ => rfl⟩
  | i :: is, d :: ds, _, s, σ, e, r, hs, q => by
    cases r with
    | cons r1 r2 =>
      refine ⟨_, _, rfl, ?_⟩
      refine tgs_sat (is := is) e r2 (hs.set (i := i) r1) fun σ2 h2 w => q σ2 h2 fun us hus => ?_
      rw [w us fun j hj => hus j (List.mem_cons_of_mem _ hj)]
      exact wipe_set (hus i List.mem_cons_self)
  | [], _ :: _, _, _, _, e, _, _, _ => by cases e
  | _ :: _, [], _, _, _, e, _, _, _ => by cases e
where
  wipe_set {σ : L2.St} {i : Nat} {v : Option V} : ∀ {us : List Nat}, i ∈ us → wipe (σ.set i v) us = wipe σ us := by
    have comm : ∀ (us : List Nat) (σ : L2.St) (i : Nat) (v : Option V), i ∉ us → wipe (σ.set i v) us = (wipe σ us).set i v := by
      intro us
      induction us with
      | nil => intro σ i v _; rfl
      | cons u us ih =>
        intro σ i v h
        unfold wipe
        rw [ih σ i v fun z => h (List.mem_cons_of_mem _ z)]
        rw [List.set_comm]
        intro z
        exact h (z ▸ List.mem_cons_self)
    intro us
    induction us with
    | nil => intro h; cases h
    | cons u us ih =>
      intro h
      unfold wipe
      by_cases c : i ∈ us
      · rw [ih c]
      · have eu : i = u := (List.mem_cons.mp h).resolve_right c
        subst eu
        rw [comm us σ i v c, List.set_set]
theorem tg_sat {K : PySem.W.Frag} {FA : Nat → Addr} {s s2 : Env} {σ : L2.St} {v : V} {is : List Nat} {Qs : L2.St → Hp → Prop} (e : tgD is d s = some s2) (r : R K FA (gd S H) v d) (hs : SR K FA S H σ s)
    (q : ∀ σ2, SR K FA S H σ2 s2 → (∀ us : List Nat, (∀ i ∈ is, i ∈ us) → wipe σ2 us = wipe σ us) → Qs σ2 H) : gOf K is v σ H Qs := by
  unfold tgD at e
  split at e
  · cases e
    exact q _ (hs.set r) fun us h => tgs_sat.wipe_set (h _ List.mem_cons_self)
  · rename_i xs hne
    cases r with
    | tup h r =>
      have e2 : gOf K is = gTup K is.length (gList is) := by
        match is, hne with
        | [], _ => rfl
        | [i], hne => exact absurd rfl (hne i)
        | a :: b :: t, _ => rfl
      rw [e2]
      have hl : xs.length = is.length := by
        have : ∀ (is : List Nat) (xs : List D) (s : Env), tgs is xs s = some s2 → xs.length = is.length := by
          intro is
          induction is with
          | nil => intro xs s e; cases xs with
            | nil => rfl
            | cons => cases e
          | cons i is ih => intro xs s e; cases xs with
            | nil => cases e
            | cons x xs => rw [List.length_cons, List.length_cons, ih xs _ e]
        exact this is xs s e
      exact ⟨_, _, rfl, sqT_mono gd_sub h, by rw [r.length]; exact hl, tgs_sat e r hs q⟩
  · cases e
end
end PL

/-! PL7: comprehensions; expressions as a whole. -/
namespace PL
open PySem PySem.Spec L2
/-! ### what is walked -/
/-- a walk over the values vs, as long as P holds of the heap -/
structure Wk (J : It) (vs : List V) (P : Hp → Prop) : Prop where
  go : ∀ (i : Nat) H, P H → i < vs.length → J.go i H
  stop : ∀ H, P H → J.stop vs.length H
  yld : ∀ (i : Nat) H x H', P H → i < vs.length → J.yld i H x H' → H' = H ∧ vs[i]? = some x
theorem wk_list {K : PySem.W.Frag} {a : Addr} {vs : List V} : Wk (Itl K a) vs fun H => SqL K H a vs where
  go := fun i H h l => ⟨vs, vs[i], h, by simp [l]⟩
  stop := fun H h => ⟨vs, h, Nat.le_refl _⟩
  yld := fun i H x H' h l y => ⟨y.1, y.2 vs h⟩
theorem wk_tup {K : PySem.W.Frag} {a : Addr} {vs : List V} : Wk (Itt K a) vs fun H => SqT K H a vs where
  go := fun i H h l => ⟨vs, vs[i], h, by simp [l]⟩
  stop := fun H h => ⟨vs, h, Nat.le_refl _⟩
  yld := fun i H x H' h l y => ⟨y.1, y.2 vs h⟩
def rngV (lo : Int) (n : Nat) : List V := (List.range n).map fun (k : Nat) => V.int (lo + (k : Int))
theorem wk_rng {lo : Int} {n : Nat} : Wk (Itr lo n) (rngV lo n) fun _ => True where
  go := fun i H _ l => by
    unfold rngV at l
    rw [List.length_map, List.length_range] at l
    exact l
  stop := fun H _ => by
    unfold rngV
    rw [List.length_map, List.length_range]
    exact Nat.le_refl _
  yld := fun i H x H' _ l y => by
    unfold rngV at l ⊢
    rw [List.length_map, List.length_range] at l
    obtain ⟨y1, y2⟩ := y
    refine ⟨y1, ?_⟩
    rw [y2, List.getElem?_map, List.getElem?_range l]
    rfl
/-- a list or a tuple -/
def iSeq (K : PySem.W.Frag) (tl : TE) : TI := fun σ H R => tl σ H fun x H1 => (∃ z, x = .str z ∧ R (Its z) H1) ∨ ∃ a, x = .ref a ∧ (((∃ xs, SqL K H1 a xs) ∧ R (Itl K a) H1) ∨ ((∃ xs, SqT K H1 a xs) ∧ R (Itt K a) H1))
theorem pi_seq {X : Cx} {tg l : Expr} {tl : TE} (hl : PE X l tl) : PI X tg l (iSeq X.K tl) := by
  refine ⟨fun pins s σ H R I h => ?_⟩
  refine thn (hl.run pins s σ H _ I h) fun v s1 ⟨x, H1, I1, r1, q1⟩ => ?_
  rcases q1 with ⟨z, e, q⟩ | ⟨a, e, q⟩
  · subst e
    obtain ⟨t, rfl⟩ := r1
    cases ha : z.cps.all (· < 128)
    · exact wpAny_pyIter_wide ha (pi_one (tk := s1.toks) I1 _ (turn_str _ z t "str_iterator" (.inr rfl)) ⟨_, Heap.get?_push_size _ rfl, rfl, rfl⟩ q)
    · exact wpAny_pyIter_ascii ha (pi_one (tk := s1.toks) I1 _ (turn_str _ z t "str_ascii_iterator" (.inl rfl)) ⟨_, Heap.get?_push_size _ rfl, rfl, rfl⟩ q)
  subst e
  cases r1
  rcases q with ⟨⟨xs, hq⟩, q⟩ | ⟨⟨xs, hq⟩, q⟩
  · obtain ⟨its, rv, pp, hz⟩ := I1.list hq
    refine wpAny_pyIter_list pp.isList ?_
    refine ⟨s1.heap.objs.size, [s1.heap.objs.size], _, _, H1, rfl, I1.kept (t' := s1.toks) fun b o e => Heap.get?_push_of_some _ e, turn_list a _, ⟨_, Heap.get?_push_size _ rfl, rfl, rfl⟩, fun b hb => ?_, q⟩
    have e : b = s1.heap.objs.size := by simpa using hb
    subst e
    exact I1.fpOk (Nat.le_refl _) (I1.hok.fresh (Nat.le_refl _))
  · obtain ⟨its, rv, pp, hz⟩ := I1.tuple hq
    refine wpAny_pyIter_tuple (show s1.heap.IsTuple a its.toArray from pp) ?_
    refine ⟨s1.heap.objs.size, [s1.heap.objs.size], _, _, H1, rfl, I1.kept (t' := s1.toks) fun b o e => Heap.get?_push_of_some _ e, turn_tuple a _, ⟨_, Heap.get?_push_size _ rfl, rfl, rfl⟩, fun b hb => ?_, q⟩
    have e : b = s1.heap.objs.size := by simpa using hb
    subst e
    exact I1.fpOk (Nat.le_refl _) (I1.hok.fresh (Nat.le_refl _))
theorem wk_str {z : Str} : Wk (Its z) (z.cps.toList.map fun c => V.str ⟨#[c]⟩) fun _ => True where
  go := fun i H _ l => by
    rw [List.length_map, Array.length_toList] at l
    exact l
  stop := fun H _ => by
    show z.cps.size ≤ _
    rw [List.length_map, Array.length_toList]
    exact Nat.le_refl _
  yld := fun i H x H' _ l y => by
    obtain ⟨y1, c, y2, y3⟩ := y
    refine ⟨y1, ?_⟩
    rw [y3, List.getElem?_map, Array.getElem?_toList, y2]
    rfl
/-- range of one or two ints -/
def iRngA (ta : TA) : TI := fun σ H R => ta σ H fun vs H1 => (∃ j : Int, vs = [.int j] ∧ -(2 ^ 62) ≤ j ∧ j < 2 ^ 62 ∧ R (Itr 0 j.toNat) H1) ∨ ∃ i j : Int, vs = [.int i, .int j] ∧ (-(2 ^ 62) ≤ i ∧ i < 2 ^ 62 ∧ -(2 ^ 62) ≤ j ∧ j < 2 ^ 62) ∧ R (Itr i (j - i).toNat) H1
section
variable {p : Pr} {n : Nat} {N : List Str} {sc : Scope} {S : Addr → Prop} {H H1 H2 : Hp} {d : D} {Q : VK}
/-- the walk over an expression's value -/
def SatI (p : Pr) (n : Nat) (t : TI) (al : Bool) (f : Env → Option (List D)) : Prop := ∀ (s : Env) (ds : List D) (S : Addr → Prop) (H : Hp) (σ : L2.St) (R' : It → Hp → Prop),
  f s = some ds → SR p.K p.FA S H σ s → (∀ J vs P H1, Same H H1 → Wk J vs P → (∀ H', Same H1 H' → P H') → (al = false → ∀ S' H', Same (gd S H1) (gd S' H') → P H') → Rs p.K p.FA (gd S H1) vs ds → R' J H1) → t σ H R'
theorem goodI_e {e : E} {x tg : Expr} (he : GoodE p n N sc e x) : ∃ t : TI, (∀ X, XF p n N sc X → PI X tg x t) ∧ SatI p n t (al e) fun s => (ev (call p.T p.G n) p.G e s).bind itD := by
  obtain ⟨t, pt, st⟩ := he
  refine ⟨iSeq p.K t, fun X hx => by rw [← hx.K]; exact pi_seq (pt X hx), fun s ds S H σ R' e hs q => ?_⟩
  obtain ⟨d, e1, e2⟩ := Option.bind_eq_some_iff.mp e
  refine st s d S H σ _ e1 hs fun v H1 m1 ra qa _ => ?_
  unfold itD at e2
  split at e2
  · cases e2
    obtain ⟨a, vs, rfl, h, r⟩ := ra.tup'
    exact .inr ⟨a, rfl, .inr ⟨⟨vs, sqT_mono gd_sub h⟩, q _ vs _ H1 m1 wk_tup (fun H' m => sqT_mono m (sqT_mono gd_sub h)) (fun _ S' H' m => sqT_mono gd_sub (sqT_mono m h)) r⟩⟩
  · cases e2
    obtain ⟨a, vs, rfl, h, r⟩ := ra.lst
    refine .inr ⟨a, rfl, .inl ⟨⟨vs, SqL.of h⟩, q _ vs _ H1 m1 wk_list (fun H' m => SqL.of (m _ _ h)) (fun z S' H' m => ?_) r⟩⟩
    have r2 := qa z
    cases r2 with
    | lst h2 _ =>
      have e3 := gd_sub _ _ h2
      rw [h] at e3
      cases e3
      exact SqL.of (gd_sub _ _ (m _ _ h2))
  · cases e2
    obtain ⟨a, vs, rfl, h, r⟩ := ra.fls'
    exact .inr ⟨a, rfl, .inl ⟨⟨vs, sqL_mono gd_sub h⟩, q _ vs _ H1 m1 wk_list (fun H' m => sqL_mono m (sqL_mono gd_sub h)) (fun _ S' H' m => sqL_mono gd_sub (sqL_mono m h)) r⟩⟩
  · cases e2
    have ev := ra.str
    subst ev
    refine .inl ⟨_, rfl, q _ _ _ H1 m1 wk_str (fun _ _ => trivial) (fun _ _ _ _ => trivial) ?_⟩
    generalize Array.toList _ = l
    induction l with
    | nil => exact .nil
    | cons a l ih => exact .cons (.str _) ih
  · cases e2
theorem evs_len {F : Fc} {G : Nat → Option D} {s : Env} : ∀ {es : List E} {ds : List D}, evs F G es s = some ds → ds.length = es.length
  | [], ds, e => by
    unfold evs at e
    cases e
    rfl
  | e :: es, ds, h => by
    unfold evs at h
    obtain ⟨d, e1, h⟩ := Option.bind_eq_some_iff.mp h
    obtain ⟨r, e2, rfl⟩ := Option.map_eq_some_iff.mp h
    rw [List.length_cons, List.length_cons, evs_len e2]
theorem rng_rs {K : PySem.W.Frag} {FA : Nat → Addr} {G : Hp} {k : Nat} {lo : Int} : Rs K FA G (rngV lo k) ((List.range k).map fun (j : Nat) => D.int (lo + (j : Int))) := by
  unfold rngV
  generalize List.range k = l
  induction l with
  | nil => exact .nil
  | cons a l ih => exact .cons (.int _) ih
theorem rng_rs0 {K : PySem.W.Frag} {FA : Nat → Addr} {G : Hp} {k : Nat} : Rs K FA G (rngV 0 k) ((List.range k).map fun (j : Nat) => D.int (j : Int)) := by
  have z := rng_rs (K := K) (FA := FA) (G := G) (k := k) (lo := 0)
  simp only [Int.zero_add] at z
  exact z
theorem goodI_r (fc : Facts p n) {es : List E} {xs : List Expr} {q1 pos : Pos} {tg : Expr} (hg : gloB sc (Str.ofString "range") = true) (hl : xs.length = 1 ∨ xs.length = 2) (hle : es.length = xs.length) (hst : xs.all notStar = true) (h : GoodA p n N sc es xs) :
    ∃ t : TI, (∀ X, XF p n N sc X → PI X tg (.Call (.Name (Str.ofString "range") q1) xs [] pos) t) ∧ SatI p n t false fun s => (evs (call p.T p.G n) p.G es s).bind rngD := by
  obtain ⟨ta, pa, sa⟩ := h
  match xs, hl with
  | [x], _ =>
    have hst' := hst
    rw [List.all_cons] at hst'
    refine ⟨iRng1 ta, fun X hx => pi_range1 (hx.gl hg) (by rw [hx.mg]; exact fc.rng) (pa X hx) (star_cons (ba hst').1), fun s ds S H σ R' e hs q => ?_⟩
    obtain ⟨xs', e1, e2⟩ := Option.bind_eq_some_iff.mp e
    have hx := (evs_len e1).trans hle
    refine sa s xs' S H σ _ e1 hs fun vs H1 m1 rs _ => ?_
    unfold rngD at e2
    split at e2
    · rename_i j
      split at e2
      · rename_i hz
        cases e2
        obtain ⟨v, rfl, r1⟩ := rs.one
        cases r1.int
        exact ⟨_, rfl, hz.1, hz.2, q _ _ _ H1 m1 wk_rng (fun _ _ => trivial) (fun _ _ _ _ => trivial) rng_rs0⟩
      · cases e2
    · cases hx
    · cases e2
  | [x, y], _ =>
    have hst' := hst
    rw [List.all_cons, List.all_cons] at hst'
    refine ⟨iRng2 ta, fun X hx => pi_range2 (hx.gl hg) (by rw [hx.mg]; exact fc.rng) (pa X hx) (by rw [star_cons (ba hst').1, star_cons (ba (ba hst').2).1]; rfl) (by rw [star_cons (ba (ba hst').2).1]; rfl), fun s ds S H σ R' e hs q => ?_⟩
    obtain ⟨xs', e1, e2⟩ := Option.bind_eq_some_iff.mp e
    have hx := (evs_len e1).trans hle
    refine sa s xs' S H σ _ e1 hs fun vs H1 m1 rs _ => ?_
    unfold rngD at e2
    split at e2
    · cases hx
    · split at e2
      · cases e2
        rename_i hz
        obtain ⟨v, u, rfl, r1, r2⟩ := rs.two
        cases r1.int
        cases r2.int
        exact ⟨_, _, rfl, hz, q _ _ _ H1 m1 wk_rng (fun _ _ => trivial) (fun _ _ _ _ => trivial) rng_rs⟩
      · cases e2
    · cases e2
/-! ### comprehensions -/
theorem lc_wk {J : It} {vs : List V} {P : Hp → Prop} (W : Wk J vs P) {g : TG} {tt : TT} {te : TE} {us : List Nat} {σ : L2.St} {H1 : Hp} {D : Addr} {Qd : Hp → Prop} (Pv : Nat → Hp → Prop) (h0 : Pv 0 (upd H1 D (.lst []))) (hP : ∀ i H, Pv i H → P H)
    (hs : ∀ i x H, vs[i]? = some x → Pv i H → g x (wipe σ us) H fun σ2 H2 => wipe σ2 us = wipe σ us ∧ tt σ2 H2 fun b H3 =>
      if b = true then te σ2 H3 fun y H4 => ∃ acc, H4 D = some (.lst acc) ∧ acc.length < sizeLine ∧ Pv (i + 1) (upd H4 D (.lst (acc ++ [y]))) else Pv (i + 1) H3) (hd : ∀ H, Pv vs.length H → Qd H) :
    ∃ W : Nat → Nat → Hp → Prop, (∃ m, W 0 m (upd H1 D (.lst []))) ∧ ∀ i m H, W i m H →
      (J.stop i H ∧ Qd H) ∨ (J.go i H ∧ ∃ Nx : Hp → Prop, (∀ H', Nx H' → ∃ m', m' < m ∧ W (i + 1) m' H') ∧ ∀ x H', J.yld i H x H' → g x (wipe σ us) H' fun σ2 H2 => wipe σ2 us = wipe σ us ∧ tt σ2 H2 fun b H3 =>
        if b = true then te σ2 H3 fun y H4 => ∃ acc, H4 D = some (.lst acc) ∧ acc.length < sizeLine ∧ Nx (upd H4 D (.lst (acc ++ [y]))) else Nx H3) := by
  refine ⟨fun i m H => m = vs.length - i ∧ i ≤ vs.length ∧ Pv i H, ⟨vs.length, by simp, Nat.zero_le _, h0⟩, ?_⟩
  rintro i m H ⟨rfl, hi, q⟩
  by_cases hlt : i < vs.length
  · refine .inr ⟨W.go i H (hP i H q) hlt, Pv (i + 1), fun H' p' => ⟨vs.length - (i + 1), by omega, rfl, hlt, p'⟩, fun x H' y => ?_⟩
    obtain ⟨e, y2⟩ := W.yld i H x H' (hP i H q) hlt y
    subst e
    exact hs i x _ y2 q
  · have e : i = vs.length := by omega
    subst e
    exact .inl ⟨W.stop H (hP _ H q), hd H q⟩
theorem SR.ext {K : PySem.W.Frag} {FA : Nat → Addr} {S' : Addr → Prop} {σ : L2.St} {s : Env} (m : Same H H1) (mg : Same (gd S H) (gd S' H1)) (dm : Dom S' H1) (hS : ∀ a, S a → S' a) (h : SR K FA S H σ s) : SR K FA S' H1 σ s :=
  ⟨h.len, dm, fun i d e => let ⟨v, h1, h2⟩ := h.sh i d e; ⟨v, h1, h2.mono mg⟩, fun i d e => let ⟨a, vs, ds, h1, h2, h3, h4, h5⟩ := h.ow i d e; ⟨a, vs, ds, h1, h2, hS a h3, m _ _ h4, h5.mono mg⟩, h.ap⟩
theorem wipe_get {σ : L2.St} {s : Env} (hl : s.length = σ.length) : ∀ (us : List Nat) (i : Nat), (wipeE s us)[i]? = s[i]? ∧ (wipe σ us)[i]? = σ[i]? ∨ ((wipeE s us)[i]? = some .un ∧ (wipe σ us)[i]? = some none) ∨ ((wipeE s us)[i]? = none ∧ (wipe σ us)[i]? = none)
  | [], i => .inl ⟨rfl, rfl⟩
  | u :: us, i => by
    have l1 : ∀ us : List Nat, (wipeE s us).length = s.length := by
      intro us
      induction us with
      | nil => rfl
      | cons u us ih => unfold wipeE; rw [List.length_set, ih]
    unfold wipeE wipe
    rw [List.getElem?_set, List.getElem?_set, l1, wipe_length, hl]
    by_cases q : u = i
    · rw [if_pos q, if_pos q]
      split
      · exact .inr (.inl ⟨rfl, rfl⟩)
      · exact .inr (.inr ⟨rfl, rfl⟩)
    · rw [if_neg q, if_neg q]
      exact wipe_get hl us i
theorem wipeE_len {s : Env} : ∀ us : List Nat, (wipeE s us).length = s.length := by
  intro us
  induction us with
  | nil => rfl
  | cons u us ih => unfold wipeE; rw [List.length_set, ih]
theorem SR.wipe {K : PySem.W.Frag} {FA : Nat → Addr} {σ : L2.St} {s : Env} (h : SR K FA S H σ s) (us : List Nat) : SR K FA S H (L2.wipe σ us) (wipeE s us) := by
  have hg := wipe_get h.len us
  refine ⟨by rw [wipeE_len, wipe_length]; exact h.len, h.dom, fun i d e => ?_, fun i d e => ?_, fun i j d e a hij hi hj => ?_⟩
  · rcases hg i with ⟨h1, h2⟩ | ⟨h1, h2⟩ | ⟨h1, h2⟩
    · rw [h1] at e
      rw [h2]
      exact h.sh i d e
    · rw [h1] at e; cases e
    · rw [h1] at e; cases e
  · rcases hg i with ⟨h1, h2⟩ | ⟨h1, h2⟩ | ⟨h1, h2⟩
    · rw [h1] at e
      rw [h2]
      exact h.ow i d e
    · rw [h1] at e; cases e
    · rw [h1] at e; cases e
  · rcases hg i with ⟨h1, h2⟩ | ⟨h1, h2⟩ | ⟨h1, h2⟩
    · rcases hg j with ⟨h3, h4⟩ | ⟨h3, h4⟩ | ⟨h3, h4⟩
      · rw [h1] at hi
        rw [h3] at hj
        rw [h2, h4]
        exact h.ap i j d e a hij hi hj
      · rw [h3] at hj; cases hj
      · rw [h3] at hj; cases hj
    · rw [h1] at hi; cases hi
    · rw [h1] at hi; cases hi
theorem gd_upd {a : Addr} {o : HO} (h : S a) : Same (gd S H) (gd S (upd H a o)) := fun b u e => by
  unfold gd at *
  split at e
  · cases e
  · rename_i nb
    rw [if_neg nb, upd_ne fun z => nb (by rw [z]; exact h)]
    exact e
/-- the turn of a comprehension, as the small language has it -/
def lcF (p : Pr) (n : Nat) (is : List Nat) (c e : E) (s : Env) (x : D) : Option (Option D) := (tgD is x (wipeE s is)).bind fun s2 => (ev (call p.T p.G n) p.G c s2).bind fun k => match k with
  | .bl true => (ev (call p.T p.G n) p.G e s2).map some
  | .bl false => some none
  | _ => none
theorem lc_sat {wi : TI} {tt : TT} {te : TE} {is : List Nat} {c e : E} {b : Bool} {f : Env → Option (List D)} (si : SatI p n wi b f) (st : SatT p n tt c) (se : Sat p n te e) (ne : al e = false) {s : Env} {ds r : List D} {σ : L2.St}
    (e1 : f s = some ds) (e2 : lcD (lcF p n is c e s) ds = some r) (hz : r.length ≤ sizeLine) (hs : SR p.K p.FA S H σ s) (q : Ok p.K p.FA S H (.lst r) Q) : tLc wi (gOf p.K is) tt te is σ H Q := by
  refine si s ds S H σ _ e1 hs fun J vs P H1 m1 W hp _ rs => ?_
  intro D hD
  have dm1 := hs.dom.mono m1
  have nD : ¬ S D := fun z => dm1.nn z hD
  let S2 : Addr → Prop := fun a => S a ∨ a = D
  have hS2 : S2 D := .inr rfl
  have same1 : ∀ {H' : Hp}, Same H1 H' → Same (gd S H1) (gd S2 H') := fun {H'} m b u e => by
    have hb : H1 b = some u := gd_sub b u e
    have nb : b ≠ D := ne_of_none hb hD
    have ns : ¬ S b := fun z => by
      unfold gd at e
      rw [if_pos z] at e
      cases e
    exact gd_of (fun z => z.elim ns nb) (m b u hb)
  have hs1 := hs.mono m1
  refine lc_wk W (fun i H' => Same H1 H' ∧ Dom S2 H' ∧ ∃ acc done rest, H' D = some (.lst acc) ∧ Rs p.K p.FA (gd S2 H') acc done ∧ lcD (lcF p n is c e s) (ds.drop i) = some rest ∧ done ++ rest = r) ⟨same_new hD, ?_, [], [], r, upd_same, .nil, by simpa using e2, rfl⟩
    (fun i H' h => hp H' h.1) ?_ ?_
  · intro a ha
    rcases ha with ha | rfl
    · rw [upd_ne fun z => nD (by rw [← z]; exact ha)]
      exact dm1 a ha
    · exact ⟨_, upd_same⟩
  · rintro i x H' hi ⟨m, dm, acc, done, rest, hacc, ra, hr, hf⟩
    obtain ⟨dx, hdx, rx⟩ := rs.get' hi
    have hdrop : ds.drop i = dx :: ds.drop (i + 1) := by
      obtain ⟨h1, h2⟩ := List.getElem?_eq_some_iff.mp hdx
      rw [← h2]
      exact List.drop_eq_getElem_cons h1
    rw [hdrop] at hr
    unfold lcD at hr
    obtain ⟨y, hy, hr⟩ := Option.bind_eq_some_iff.mp hr
    obtain ⟨rest', hr', hr⟩ := Option.map_eq_some_iff.mp hr
    unfold lcF at hy
    obtain ⟨s2, ht, hy⟩ := Option.bind_eq_some_iff.mp hy
    obtain ⟨k, hk, hy⟩ := Option.bind_eq_some_iff.mp hy
    have hsw : SR p.K p.FA S2 H' (L2.wipe σ is) (wipeE s is) := (hs1.wipe is).ext m (same1 m) dm fun a ha => .inl ha
    refine tg_sat ht (rx.mono (same1 m)) hsw fun σ2 h2 hw => ⟨?_, ?_⟩
    · have q := hw is fun i h => h
      have ww : ∀ us : List Nat, (∀ i ∈ us, i ∈ is) → L2.wipe (L2.wipe σ is) us = L2.wipe σ is := by
        intro us
        induction us with
        | nil => intro _; rfl
        | cons u us ih =>
          intro hu
          show (L2.wipe (L2.wipe σ is) us).set u none = L2.wipe σ is
          rw [ih fun j hj => hu j (List.mem_cons_of_mem _ hj)]
          have hm := hu u List.mem_cons_self
          apply List.ext_getElem?
          intro j
          rw [List.getElem?_set]
          by_cases qj : u = j
          · rw [if_pos qj]
            subst qj
            have key : ∀ (us : List Nat), u ∈ us → (L2.wipe σ us)[u]? = if u < (L2.wipe σ us).length then some none else none := by
              intro us
              induction us with
              | nil => intro h; cases h
              | cons w us ih2 =>
                intro h
                unfold L2.wipe
                rw [List.getElem?_set, List.length_set]
                by_cases qw : w = u
                · subst qw
                  rw [if_pos rfl]
                · rw [if_neg qw]
                  exact ih2 ((List.mem_cons.mp h).resolve_left fun z => qw z.symm)
            rw [key is hm]
          · rw [if_neg qj]
      rw [q]
      exact ww is fun i h => h
    · split at hy
      · obtain ⟨w, hw2, hy⟩ := Option.map_eq_some_iff.mp hy
        cases hy
        refine st s2 true S2 H' σ2 _ hk h2 fun H3 m3 => ?_
        rw [if_pos rfl]
        refine se s2 w S2 H3 σ2 _ hw2 (h2.mono m3) fun yv H4 m4 _ ry _ => ?_
        have hlen : acc.length = done.length := ra.length
        subst hr
        have hfl : (done ++ w :: rest').length ≤ sizeLine := by rw [hf]; exact hz
        rw [List.length_append, List.length_cons] at hfl
        refine ⟨acc, m4 _ _ (m3 _ _ hacc), by omega, ?_, ?_, acc ++ [yv], done ++ [w], rest', upd_same, ?_, hr', ?_⟩
        · intro b u hb
          rw [upd_ne (ne_of_none hb hD)]
          exact m4 _ _ (m3 _ _ (m b u hb))
        · intro b hb
          by_cases z : b = D
          · exact ⟨_, by rw [z, upd_same]⟩
          · rw [upd_ne z]
            exact (dm.mono (m3.trans m4)) b hb
        · refine Rs.mono (gd_upd hS2) (Rs.append (ra.mono (gd_mono (m3.trans m4))) (.cons (ry ne) .nil))
        · rw [List.append_assoc]
          exact hf
      · cases hy
        subst hr
        refine st s2 false S2 H' σ2 _ hk h2 fun H3 m3 => ?_
        rw [if_neg Bool.false_ne_true]
        exact ⟨m.trans m3, dm.mono m3, acc, done, rest', m3 _ _ hacc, ra.mono (gd_mono m3), hr', hf⟩
      · cases hy
  · rintro H' ⟨m, dm, acc, done, rest, hacc, ra, hr, hf⟩
    have hz2 : ds.drop vs.length = [] := by rw [rs.length]; exact List.drop_length
    rw [hz2] at hr
    cases hr
    rw [List.append_nil] at hf
    subst hf
    refine q _ H' (m1.trans m) (.lst (gd_of nD hacc) (ra.mono (gd_anti fun a ha => .inl ha))) ?_
    intro ds' e'
    cases e'
    exact ⟨D, acc, rfl, m1.free hD, hacc, ra⟩
theorem folded_ok {x : Expr} {env : PySem.Env} (h : notSet x = true) : ∀ v, foldedSetIterable x env v = pure v := by
  intro v
  cases x <;> first | rfl | cases h
theorem xf_blk {X : Cx} (h : XF p n N sc X) (s : Shared) (H : Hp) (scope : Scope) (cl : List (Str × Addr)) (C : Addr) (fp : List Addr) : XF p n N (relS scope sc) (X.blk s H scope (compEnvC scope cl C X.env) fp) :=
  ⟨h.prog, h.w, h.K, h.mg, h.base, h.N, by
    show relS scope X.env.scope = relS scope sc
    rw [h.sc], h.calm, h.room, rfl⟩
theorem lc_if {F : Fc} {G : Nat → Option D} {is : List Nat} {c e : E} {xs : List D} {s : Env} {d : D} (h : ((lcD (fun x => (tgD is x (wipeE s is)).bind fun s2 => (ev F G c s2).bind fun k => match k with
        | .bl true => (ev F G e s2).map some
        | .bl false => some none
        | _ => none) xs).bind fun r => if r.length ≤ sizeLine then some (.lst r) else none) = some d) : ∃ r, d = .lst r ∧ r.length ≤ sizeLine ∧ lcD (fun x => (tgD is x (wipeE s is)).bind fun s2 => (ev F G c s2).bind fun k => match k with
        | .bl true => (ev F G e s2).map some
        | .bl false => some none
        | _ => none) xs = some r := by
  obtain ⟨r, h1, h2⟩ := Option.bind_eq_some_iff.mp h
  split at h2
  · cases h2
    exact ⟨r, rfl, by assumption, h1⟩
  · cases h2
/-- a comprehension's parts over a block -/
structure LcOk (p : Pr) (n : Nat) (N : List Str) (sc scope : Scope) (is : List Nat) (tg : Expr) (ifs : List Expr) (c e : E) (el : Expr) : Prop where
  blk : blkC N sc scope (ownOf N is) = true
  tg : chkTg N scope is tg = true
  tt : ∃ t : TT, (∀ X, XF p n N (relS scope sc) X → PTs X ifs t) ∧ SatT p n t c
  el : GoodE p n N (relS scope sc) e el
  ne : al e = false
theorem own_snd {is : List Nat} : (ownOf N is).map (·.2) = is := by
  unfold ownOf
  rw [List.map_map]
  exact List.map_id is
theorem tg_blk {X : Cx} (h : XF p n N sc X) (nd : N.Nodup) {scope : Scope} {is : List Nat} {tg : Expr} (ht : chkTg N scope is tg = true) (s : Shared) (H : Hp) (C : Addr) (cl : List (Str × Addr)) (fp : List Addr) : PG (X.blk s H scope (compEnvC scope cl C X.env) fp) tg (gOf p.K is) := by
  refine pg_ok (X := X.blk s H scope (compEnvC scope cl C X.env) fp) h.K h.calm h.N nd (fun x hx => ?_) ht
  have key : ∀ k, k ≠ NameKind.free → scope.names.lookup x = some k → (relS scope X.env.scope).names.lookup x = some k := fun k hk e => lookup_relS_keep hk e
  rcases hx with e | e
  · exact ⟨.inl (key _ (by decide) e), .inr (key _ (by decide) e)⟩
  · refine ⟨.inr (key _ (by decide) e), .inl ?_⟩
    show (scope.names.lookup x == some .cell) = true
    rw [e]
    rfl
theorem good_lcAny {scope : Scope} {is : List Nat} {tg iter : Expr} {ifs : List Expr} {c e l : E} {el : Expr} {pos : Pos} {b : Bool} {f : Env → Option (List D)} (nd : N.Nodup) (k : LcOk p n N sc scope is tg ifs c e el) (hs : notSet iter = true)
    (hi : ∃ t : TI, (∀ X, XF p n N sc X → PI X tg iter t) ∧ SatI p n t b f) (hl : fr p.T l = true)
    (hev : ∀ s d, ev (call p.T p.G n) p.G l s = some d → ∃ ds r, f s = some ds ∧ lcD (lcF p n is c e s) ds = some r ∧ r.length ≤ sizeLine ∧ d = .lst r) : GoodE p n N sc l (.ListComp el [⟨tg, iter, ifs, 0⟩] scope pos) := by
  obtain ⟨wi, pi, si⟩ := hi
  obtain ⟨tt, pt, st⟩ := k.tt
  obtain ⟨te, pe, se⟩ := k.el
  refine ⟨tLc wi (gOf p.K is) tt te is, fun X hx => ?_, fun s d S H σ Q e hs q => ?_⟩
  · have z := pe_lc (own := ownOf N is) (pos := pos) hx.calm (by rw [hx.N]; exact nd) (pi X hx) (by rw [hx.N, hx.sc]; exact blkOk_by k.blk) (fun s H C cl fp => tg_blk hx nd k.tg s H C cl fp) (fun s H C cl fp => pt _ (xf_blk hx s H scope cl C fp)) (fun s H C cl fp => pe _ (xf_blk hx s H scope cl C fp)) (folded_ok hs)
    rw [own_snd] at z
    exact z
  · obtain ⟨ds, r, e1, e2, e3, rfl⟩ := hev s d e
    exact lc_sat si st se k.ne e1 e2 e3 hs (q.ok (Same.refl _))
theorem notStars : ∀ {es : List E} {xs : List Expr}, chkEs p.t N sc es xs = true → xs.all notStar = true ∧ es.length = xs.length
  | [], [], _ => ⟨rfl, rfl⟩
  | e :: es, x :: xs, h => by
    unfold chkEs at h
    obtain ⟨h1, h2⟩ := ba h
    obtain ⟨q1, q2⟩ := notStars (ba h2).2
    refine ⟨?_, by rw [List.length_cons, List.length_cons, q2]⟩
    rw [List.all_cons, h1, q1]
    rfl
  | [], _ :: _, h => by unfold chkEs at h; cases h
  | _ :: _, [], h => by unfold chkEs at h; cases h
end
end PL

/-! PL8: expressions as a whole. -/
namespace PL
open PySem PySem.Spec L2
section
variable {p : Pr} {n : Nat} {N : List Str} {sc : Scope} {x : Expr}
theorem chk_c {d : D} (h : chkE p.t N sc (.c d) x = true) : ∃ c j pos, x = .Constant c j pos ∧ chkC d c = true := by
  cases x <;> first | exact ⟨_, _, _, rfl, h⟩ | (unfold chkE at h; cases h)
theorem chk_var {i : Nat} (h : chkE p.t N sc (.var i) x = true) : ∃ y pos, x = .Name y pos ∧ N[i]? = some y ∧ visB sc y = true := by
  cases x <;> first | (unfold chkE at h; cases h; done) | (unfold chkE at h; exact ⟨_, _, rfl, of_decide_eq_true (ba h).1, (ba h).2⟩)
theorem chk_rd {i : Nat} (h : chkE p.t N sc (.rd i) x = true) : ∃ y pos, x = .Name y pos ∧ N[i]? = some y ∧ visB sc y = true := by
  cases x <;> first | (unfold chkE at h; cases h; done) | (unfold chkE at h; exact ⟨_, _, rfl, of_decide_eq_true (ba h).1, (ba h).2⟩)
theorem chk_gl {g : Nat} (h : chkE p.t N sc (.gl g) x = true) : ∃ pos, x = .Name (p.t.GN g) pos ∧ gloB sc (p.t.GN g) = true ∧ (p.G g).isSome = true := by
  cases x <;> first | (unfold chkE at h; cases h; done) | (unfold chkE at h; obtain ⟨h1, h2⟩ := ba h; cases of_decide_eq_true h1; exact ⟨_, rfl, ba h2⟩)
theorem chk_tup {es : List E} (h : chkE p.t N sc (.tup es) x = true) : ∃ xs k pos, x = .Tuple xs k pos ∧ chkEs p.t N sc es xs = true ∧ es.all (!al ·) = true := by
  cases x <;> first | (unfold chkE at h; cases h; done) | (unfold chkE at h; exact ⟨_, _, _, rfl, ba h⟩)
theorem chk_lst {es : List E} (h : chkE p.t N sc (.lst es) x = true) : ∃ xs pos, x = .List xs pos ∧ chkEs p.t N sc es xs = true ∧ es.all (!al ·) = true := by
  cases x <;> first | (unfold chkE at h; cases h; done) | (unfold chkE at h; exact ⟨_, _, rfl, ba h⟩)
theorem chk_bin {o : B1} {a b : E} (h : chkE p.t N sc (.bin o a b) x = true) : ∃ y op z pos, x = .BinOp y op z pos ∧ opEq (pyOp o) op = true ∧ chkE p.t N sc a y = true ∧ chkE p.t N sc b z = true := by
  cases x <;> first | (unfold chkE at h; cases h; done) | (unfold chkE at h; exact ⟨_, _, _, _, rfl, (ba h).1, (ba (ba h).2).1, (ba (ba h).2).2⟩)
theorem chk_neg {a : E} (h : chkE p.t N sc (.neg a) x = true) : ∃ y pos, x = .UnaryOp .USub y pos ∧ chkE p.t N sc a y = true := by
  cases x <;> first | (unfold chkE at h; cases h; done) | skip
  rename_i op y pos
  cases op <;> first | (unfold chkE at h; cases h; done) | (unfold chkE at h; exact ⟨_, _, rfl, h⟩)
theorem chk_nt {a : E} (h : chkE p.t N sc (.nt a) x = true) : ∃ y pos, x = .UnaryOp .Not y pos ∧ chkE p.t N sc a y = true := by
  cases x <;> first | (unfold chkE at h; cases h; done) | skip
  rename_i op y pos
  cases op <;> first | (unfold chkE at h; cases h; done) | (unfold chkE at h; exact ⟨_, _, rfl, h⟩)
theorem chk_cmp {o : CO} {a b : E} (h : chkE p.t N sc (.cmp o a b) x = true) : ∃ y op z pos, x = .Compare y [op] [z] pos ∧ cmpEq (pyCmp o) op = true ∧ notSet z = true ∧ chkE p.t N sc a y = true ∧ chkE p.t N sc b z = true := by
  cases x <;> first | (unfold chkE at h; cases h; done) | skip
  rename_i y ops cs pos
  rcases ops with _ | ⟨op, _ | ⟨op2, ops⟩⟩ <;> rcases cs with _ | ⟨z, _ | ⟨z2, cs⟩⟩ <;> first
    | (unfold chkE at h; cases h; done)
    | (unfold chkE at h; exact ⟨_, _, _, _, rfl, (ba h).1, (ba (ba h).2).1, (ba (ba (ba h).2).2).1, (ba (ba (ba h).2).2).2⟩)
theorem chk_chain {o1 o2 : CO} {a b c : E} (h : chkE p.t N sc (.chain o1 o2 a b c) x = true) : ∃ y p1 p2 z w pos, x = .Compare y [p1, p2] [z, w] pos ∧ cmpEq (pyCmp o1) p1 = true ∧ cmpEq (pyCmp o2) p2 = true ∧ notSet w = true ∧ chkE p.t N sc a y = true ∧ chkE p.t N sc b z = true ∧ chkE p.t N sc c w = true := by
  cases x <;> first | (unfold chkE at h; cases h; done) | skip
  rename_i y ops cs pos
  rcases ops with _ | ⟨op, _ | ⟨op2, _ | ⟨op3, ops⟩⟩⟩ <;> rcases cs with _ | ⟨z, _ | ⟨z2, _ | ⟨z3, cs⟩⟩⟩ <;> first
    | (unfold chkE at h; cases h; done)
    | (unfold chkE at h
       obtain ⟨h1, h⟩ := ba h
       obtain ⟨h2, h⟩ := ba h
       obtain ⟨h3, h⟩ := ba h
       obtain ⟨h4, h⟩ := ba h
       obtain ⟨h5, h6⟩ := ba h
       exact ⟨_, _, _, _, _, _, rfl, h1, h2, h3, h4, h5, h6⟩)
theorem chk_an {a b : E} (h : chkE p.t N sc (.an a b) x = true) : ∃ y z r pos, x = .BoolOp .And (y :: z :: r) pos ∧ al b = false ∧ chkE p.t N sc a y = true ∧ ((r = [] ∧ chkE p.t N sc b z = true) ∨ (r ≠ [] ∧ chkE p.t N sc b (.BoolOp .And (z :: r) pos) = true)) := by
  cases x <;> first | (unfold chkE at h; cases h; done) | skip
  rename_i op vs pos
  cases op <;> first | (unfold chkE at h; cases h; done) | skip
  rcases vs with _ | ⟨y, _ | ⟨z, r⟩⟩ <;> first | (unfold chkE at h; cases h; done) | skip
  unfold chkE at h
  obtain ⟨h1, h⟩ := ba h
  obtain ⟨h2, h3⟩ := ba h
  refine ⟨y, z, r, pos, rfl, by simpa using h1, h2, ?_⟩
  cases r with
  | nil => exact .inl ⟨rfl, h3⟩
  | cons r1 r2 => exact .inr ⟨List.cons_ne_nil _ _, h3⟩
theorem chk_orr {a b : E} (h : chkE p.t N sc (.orr a b) x = true) : ∃ y z r pos, x = .BoolOp .Or (y :: z :: r) pos ∧ al b = false ∧ chkE p.t N sc a y = true ∧ ((r = [] ∧ chkE p.t N sc b z = true) ∨ (r ≠ [] ∧ chkE p.t N sc b (.BoolOp .Or (z :: r) pos) = true)) := by
  cases x <;> first | (unfold chkE at h; cases h; done) | skip
  rename_i op vs pos
  cases op <;> first | (unfold chkE at h; cases h; done) | skip
  rcases vs with _ | ⟨y, _ | ⟨z, r⟩⟩ <;> first | (unfold chkE at h; cases h; done) | skip
  unfold chkE at h
  obtain ⟨h1, h⟩ := ba h
  obtain ⟨h2, h3⟩ := ba h
  refine ⟨y, z, r, pos, rfl, by simpa using h1, h2, ?_⟩
  cases r with
  | nil => exact .inl ⟨rfl, h3⟩
  | cons r1 r2 => exact .inr ⟨List.cons_ne_nil _ _, h3⟩
theorem chk_ife {c a b : E} (h : chkE p.t N sc (.ife c a b) x = true) : ∃ z y w pos, x = .IfExp z y w pos ∧ al a = false ∧ al b = false ∧ tst c = true ∧ chkE p.t N sc c z = true ∧ chkE p.t N sc a y = true ∧ chkE p.t N sc b w = true := by
  cases x <;> first | (unfold chkE at h; cases h; done) | skip
  unfold chkE at h
  obtain ⟨h1, h⟩ := ba h
  obtain ⟨h2, h⟩ := ba h
  obtain ⟨h3, h⟩ := ba h
  exact ⟨_, _, _, _, rfl, by simpa using (ba h1).1, by simpa using (ba h1).2, h2, h3, ba h⟩
theorem chk_ix {a b : E} (h : chkE p.t N sc (.ix a b) x = true) : ∃ y z pos, x = .Subscript y z pos ∧ notSlice z = true ∧ chkE p.t N sc a y = true ∧ chkE p.t N sc b z = true := by
  cases x <;> first | (unfold chkE at h; cases h; done) | skip
  unfold chkE at h
  exact ⟨_, _, _, rfl, (ba h).1, ba (ba h).2⟩
/-- a slice's end, checked -/
def chkO (p : Pr) (N : List Str) (sc : Scope) (e : E) (x : Option Expr) : Prop := (e.isNo = true ∧ x = none) ∨ ∃ y, e.isNo = false ∧ x = some y ∧ chkE p.t N sc e y = true
theorem chkO_of {e : E} {o : Option Expr} (h : (match e.isNo, o with
    | true, none => true
    | false, some l => chkE p.t N sc e l
    | _, _ => false) = true) : chkO p N sc e o := by
  split at h
  · exact .inl ⟨by assumption, rfl⟩
  · exact .inr ⟨_, by assumption, rfl, h⟩
  · cases h
theorem chk_sl {a lo hi : E} (h : chkE p.t N sc (.sl a lo hi) x = true) : ∃ y l u p2 pos, x = .Subscript y (.Slice l u none p2) pos ∧ chkE p.t N sc a y = true ∧ chkO p N sc lo l ∧ chkO p N sc hi u := by
  cases x <;> first | (unfold chkE at h; cases h; done) | skip
  rename_i y sl pos
  cases sl <;> first | (unfold chkE at h; cases h; done) | skip
  rename_i l u st p2
  cases st <;> first | (unfold chkE at h; cases h; done) | skip
  unfold chkE at h
  obtain ⟨h1, h⟩ := ba h
  obtain ⟨h2, h3⟩ := ba h
  exact ⟨_, _, _, _, _, rfl, h1, chkO_of h2, chkO_of h3⟩
theorem chk_call {f : Nat} {es : List E} (h : chkE p.t N sc (.call f es) x = true) : ∃ q xs pos fi, x = .Call (.Name fi.name q) xs [] pos ∧ gloB sc fi.name = true ∧ p.T f = some fi ∧ chkEs p.t N sc es xs = true ∧ es.all (!al ·) = true := by
  cases x <;> first | (unfold chkE at h; cases h; done) | skip
  rename_i g xs ks pos
  cases g <;> first | (unfold chkE at h; cases h; done) | skip
  cases ks <;> first | (unfold chkE at h; cases h; done) | skip
  unfold chkE at h
  obtain ⟨h2, k2⟩ := ba h
  obtain ⟨h3, k3⟩ := ba k2
  clear h k2
  split at h3
  · have e := of_decide_eq_true (ba h3).1
    clear h3
    subst e
    exact ⟨_, _, _, _, rfl, h2, by assumption, ba k3⟩
  · cases h3
theorem chk_callb {f : Nat} {es : List E} (h : chkE p.t N sc (.callb f es) x = true) : ∃ q y ys pos fi, x = .Call (.Name fi.name q) (y :: ys) [] pos ∧ gloB sc fi.name = true ∧ p.T f = some fi ∧ chkEs p.t N sc es (y :: ys) = true := by
  cases x <;> first | (unfold chkE at h; cases h; done) | skip
  rename_i g xs ks pos
  cases g <;> first | (unfold chkE at h; cases h; done) | skip
  cases ks <;> first | (unfold chkE at h; cases h; done) | skip
  unfold chkE at h
  obtain ⟨h2, k2⟩ := ba h
  obtain ⟨h3, k3⟩ := ba k2
  obtain ⟨h4, h5⟩ := ba k3
  clear h k2 k3
  cases xs with
  | nil => cases h5
  | cons y ys =>
    split at h3
    · have e := of_decide_eq_true (ba h3).1
      clear h3
      subst e
      exact ⟨_, _, _, _, _, rfl, h2, by assumption, h4⟩
    · cases h3
theorem chk_bi {f : BI} {es : List E} (h : chkE p.t N sc (.bi f es) x = true) : ∃ q xs pos, x = .Call (.Name (biN f) q) xs [] pos ∧ gloB sc (biN f) = true ∧ ((biT f = none ∧ chkEs p.t N sc es xs = true ∧ xs ≠ []) ∨ ∃ t y z q2, biT f = some t ∧ xs = [y, .Name z q2] ∧ z = Str.ofString t ∧ gloB sc z = true ∧ chkEs p.t N sc es [y] = true) := by
  cases x <;> first | (unfold chkE at h; cases h; done) | skip
  rename_i g xs ks pos
  cases g <;> first | (unfold chkE at h; cases h; done) | skip
  cases ks <;> first | (unfold chkE at h; cases h; done) | skip
  unfold chkE at h
  obtain ⟨h1, g1⟩ := ba h
  obtain ⟨h2, g2⟩ := ba g1
  have e := of_decide_eq_true h1
  clear h g1 h1
  subst e
  refine ⟨_, _, _, rfl, h2, ?_⟩
  split at g2
  · rename_i hb
    refine .inl ⟨hb, (ba g2).1, fun e => ?_⟩
    have := (ba g2).2
    rw [e] at this
    cases this
  · rename_i t hb
    split at g2
    · obtain ⟨k1, g3⟩ := ba g2
      obtain ⟨k2, g4⟩ := ba g3
      exact .inr ⟨t, _, _, _, hb, rfl, of_decide_eq_true k1, k2, g4⟩
    · cases g2
theorem chk_me {m : MI} {o : E} {es : List E} (h : chkE p.t N sc (.me m o es) x = true) : ∃ y apos xs pos, x = .Call (.Attribute y (meN m) apos) xs [] pos ∧ meOk m xs.length = true ∧ notCall0 y = true ∧ (apos.endLine == pos.line) = true ∧ chkE p.t N sc o y = true ∧ chkEs p.t N sc es xs = true := by
  cases x <;> first | (unfold chkE at h; cases h; done) | skip
  rename_i g xs ks pos
  cases g <;> first | (unfold chkE at h; cases h; done) | skip
  cases ks <;> first | (unfold chkE at h; cases h; done) | skip
  unfold chkE at h
  obtain ⟨h1, g1⟩ := ba h
  obtain ⟨h2, g2⟩ := ba g1
  cases of_decide_eq_true h1
  exact ⟨_, _, _, _, rfl, (ba h2).1, (ba (ba h2).2).1, (ba (ba h2).2).2, (ba g2).1, (ba g2).2⟩
/-- a comprehension's tests, checked -/
def chkIf (p : Pr) (N : List Str) (sc : Scope) (c : E) (ifs : List Expr) : Prop := (ifs = [] ∧ c = .c (.bl true)) ∨ ∃ cx, ifs = [cx] ∧ chkE p.t N sc c cx = true
theorem chkIf_of {c : E} {ifs : List Expr} (h : (match ifs with
    | [] => (match c with | .c (.bl true) => true | _ => false)
    | [cx] => chkE p.t N sc c cx
    | _ => false) = true) : chkIf p N sc c ifs := by
  split at h
  · split at h
    · exact .inl ⟨rfl, rfl⟩
    · cases h
  · exact .inr ⟨_, rfl, h⟩
  · cases h
theorem chk_lc {is : List Nat} {it c e : E} (h : chkE p.t N sc (.lc is it c e) x = true) : ∃ el tg iter ifs scope pos, x = .ListComp el [⟨tg, iter, ifs, 0⟩] scope pos ∧ notSet iter = true ∧ chkE p.t N sc it iter = true ∧ blkC N sc scope (ownOf N is) = true ∧ chkTg N scope is tg = true ∧ tst c = true ∧ chkIf p N (relS scope sc) c ifs ∧ chkE p.t N (relS scope sc) e el = true ∧ al e = false := by
  cases x <;> first | (unfold chkE at h; cases h; done) | skip
  rename_i el gs scope pos
  rcases gs with _ | ⟨⟨tg, iter, ifs, asy⟩, _ | ⟨g2, gs⟩⟩ <;> first | (unfold chkE at h; cases h; done) | skip
  unfold chkE at h
  obtain ⟨h1, h⟩ := ba h
  obtain ⟨h2, h⟩ := ba h
  obtain ⟨h3, h⟩ := ba h
  obtain ⟨h4, h⟩ := ba h
  obtain ⟨h5, h6⟩ := ba h
  cases of_decide_eq_true h1
  exact ⟨_, _, _, _, _, _, rfl, (ba h2).1, (ba h2).2, h3, h4, (ba h5).1, chkIf_of (ba h5).2, (ba h6).1, by simpa using (ba h6).2⟩
theorem chk_lcr {i : Nat} {es : List E} {c e : E} (h : chkE p.t N sc (.lcr i es c e) x = true) : ∃ el tg q xs p2 ifs scope pos, x = .ListComp el [⟨tg, .Call (.Name (Str.ofString "range") q) xs [] p2, ifs, 0⟩] scope pos ∧ gloB sc (Str.ofString "range") = true ∧ chkEs p.t N sc es xs = true ∧ (xs.length = 1 ∨ xs.length = 2) ∧ blkC N sc scope (ownOf N [i]) = true ∧ chkTg N scope [i] tg = true ∧ tst c = true ∧ chkIf p N (relS scope sc) c ifs ∧ chkE p.t N (relS scope sc) e el = true ∧ al e = false := by
  cases x <;> first | (unfold chkE at h; cases h; done) | skip
  rename_i el gs scope pos
  rcases gs with _ | ⟨⟨tg, iter, ifs, asy⟩, _ | ⟨g2, gs⟩⟩ <;> first
    | (unfold chkE at h; cases h; done)
    | skip
  case cons.cons => (cases iter <;> first
    | (unfold chkE at h; cases h; done)
    | (rename_i g xs ks p2; cases g <;> first | (unfold chkE at h; cases h; done) | (cases ks <;> (unfold chkE at h; cases h; done))))
  cases iter <;> first | (unfold chkE at h; cases h; done) | skip
  rename_i g xs ks p2
  cases g <;> first | (unfold chkE at h; cases h; done) | skip
  cases ks <;> first | (unfold chkE at h; cases h; done) | skip
  unfold chkE at h
  obtain ⟨h1, h⟩ := ba h
  obtain ⟨h2, h⟩ := ba h
  obtain ⟨h3, h⟩ := ba h
  obtain ⟨h4, h⟩ := ba h
  obtain ⟨h5, h6⟩ := ba h
  obtain ⟨k1, h2⟩ := ba h2
  obtain ⟨k2, h2⟩ := ba h2
  obtain ⟨k3, k4⟩ := ba h2
  cases of_decide_eq_true h1
  have ek := of_decide_eq_true k1
  subst ek
  refine ⟨_, _, _, _, _, _, _, _, rfl, k2, k3, ?_, h3, h4, (ba h5).1, chkIf_of (ba h5).2, (ba h6).1, by simpa using (ba h6).2⟩
  rcases Bool.or_eq_true_iff.mp k4 with z | z
  · exact .inl (of_decide_eq_true z)
  · exact .inr (of_decide_eq_true z)
end
section
variable {p : Pr} {n : Nat} {N : List Str}
theorem ifs_ok {sc : Scope} {c : E} {ifs : List Expr} (h : chkIf p N sc c ifs) (ht : tst c = true) (q : ∀ cx, chkE p.t N sc c cx = true → GoodT p n N sc c cx) : ∃ t : TT, (∀ X, XF p n N sc X → PTs X ifs t) ∧ SatT p n t c := by
  rcases h with ⟨rfl, rfl⟩ | ⟨cx, rfl, h⟩
  · refine ⟨tYes, fun X _ => pts_nil, fun s b S H σ Q e hs q => ?_⟩
    cases e
    exact q H (Same.refl _)
  · obtain ⟨t, pt, st⟩ := q cx h
    exact ⟨t, fun X hx => pts_one (pt X hx), st⟩
mutual
theorem ev_ok (fc : Facts p n) (nd : N.Nodup) : ∀ (e : E) (sc : Scope) (x : Expr), chkE p.t N sc e x = true → GoodE p n N sc e x ∧ (tst e = true → GoodT p n N sc e x)
  | .c d, sc, x, h => by
    obtain ⟨c, j, pos, rfl, h⟩ := chk_c h
    exact ⟨good_c h, fun _ => goodT_val rfl (good_c h)⟩
  | .var i, sc, x, h => by
    obtain ⟨y, pos, rfl, h1, h2⟩ := chk_var h
    exact ⟨good_var h1 h2, fun _ => goodT_val rfl (good_var h1 h2)⟩
  | .rd i, sc, x, h => by
    obtain ⟨y, pos, rfl, h1, h2⟩ := chk_rd h
    exact ⟨good_rd h1 h2, fun _ => goodT_val rfl (good_rd h1 h2)⟩
  | .gl g, sc, x, h => by
    obtain ⟨pos, rfl, h1, h2⟩ := chk_gl h
    exact ⟨good_gl fc h1 h2, fun _ => goodT_val rfl (good_gl fc h1 h2)⟩
  | .tup es, sc, x, h => by
    obtain ⟨xs, k, pos, rfl, h1, h2⟩ := chk_tup h
    have g := good_tup (k := k) (pos := pos) h2 (evs_ok fc nd es sc xs h1)
    exact ⟨g, fun _ => goodT_val rfl g⟩
  | .lst es, sc, x, h => by
    obtain ⟨xs, pos, rfl, h1, h2⟩ := chk_lst h
    have g := good_lst (pos := pos) h2 (evs_ok fc nd es sc xs h1)
    exact ⟨g, fun _ => goodT_val rfl g⟩
  | .bin o a b, sc, x, h => by
    obtain ⟨y, op, z, pos, rfl, h1, h2, h3⟩ := chk_bin h
    have g := good_bin (pos := pos) h1 (ev_ok fc nd a sc y h2).1 (ev_ok fc nd b sc z h3).1
    exact ⟨g, fun _ => goodT_val rfl g⟩
  | .neg a, sc, x, h => by
    obtain ⟨y, pos, rfl, h1⟩ := chk_neg h
    have g := good_neg (pos := pos) (ev_ok fc nd a sc y h1).1
    refine ⟨g, fun _ => ?_⟩
    obtain ⟨t, pt, st⟩ := g
    exact ⟨_, fun X hx => pt_val (pt X hx) fun _ => rfl, fun s k S H σ Q e hs q => st s _ S H σ _ e hs fun v H1 m1 ra _ _ => ⟨k, ra.bl, q H1 m1⟩⟩
  | .nt a, sc, x, h => by
    obtain ⟨y, pos, rfl, h1⟩ := chk_nt h
    have g := ev_ok fc nd a sc y h1
    exact ⟨good_nt g.1, fun ht => goodT_nt (g.2 ht)⟩
  | .cmp o a b, sc, x, h => by
    obtain ⟨y, op, z, pos, rfl, h1, h2, h3, h4⟩ := chk_cmp h
    have g := good_cmp (pos := pos) h1 h2 (ev_ok fc nd a sc y h3).1 (ev_ok fc nd b sc z h4).1
    exact ⟨g.1, fun _ => g.2⟩
  | .chain o1 o2 a b c, sc, x, h => by
    obtain ⟨y, p1, p2, z, w, pos, rfl, h1, h2, h3, h4, h5, h6⟩ := chk_chain h
    have g := good_chain (pos := pos) h1 h2 h3 (ev_ok fc nd a sc y h4).1 (ev_ok fc nd b sc z h5).1 (ev_ok fc nd c sc w h6).1
    exact ⟨g.1, fun _ => g.2⟩
  | .an a b, sc, x, h => by
    obtain ⟨y, z, r, pos, rfl, h1, h2, h3⟩ := chk_an h
    have ga := ev_ok fc nd a sc y h2
    rcases h3 with ⟨rfl, h3⟩ | ⟨_, h3⟩
    · have gb := ev_ok fc nd b sc z h3
      exact ⟨good_an h1 ga.1 (good_one gb.1), fun ht => goodT_an (ga.2 (ba ht).1) (goodT_one (gb.2 (ba ht).2))⟩
    · have gb := ev_ok fc nd b sc _ h3
      exact ⟨good_an h1 ga.1 gb.1, fun ht => goodT_an (ga.2 (ba ht).1) (gb.2 (ba ht).2)⟩
  | .orr a b, sc, x, h => by
    obtain ⟨y, z, r, pos, rfl, h1, h2, h3⟩ := chk_orr h
    have ga := ev_ok fc nd a sc y h2
    rcases h3 with ⟨rfl, h3⟩ | ⟨_, h3⟩
    · have gb := ev_ok fc nd b sc z h3
      exact ⟨good_orr h1 ga.1 (good_one gb.1), fun ht => goodT_orr (ga.2 (ba ht).1) (goodT_one (gb.2 (ba ht).2))⟩
    · have gb := ev_ok fc nd b sc _ h3
      exact ⟨good_orr h1 ga.1 gb.1, fun ht => goodT_orr (ga.2 (ba ht).1) (gb.2 (ba ht).2)⟩
  | .ife c a b, sc, x, h => by
    obtain ⟨z, y, w, pos, rfl, h1, h2, h3, h4, h5, h6⟩ := chk_ife h
    exact ⟨good_ife h1 h2 ((ev_ok fc nd c sc z h4).2 h3) (ev_ok fc nd a sc y h5).1 (ev_ok fc nd b sc w h6).1, fun ht => by cases ht⟩
  | .ix a b, sc, x, h => by
    obtain ⟨y, z, pos, rfl, h1, h2, h3⟩ := chk_ix h
    have g := good_ix (pos := pos) h1 (ev_ok fc nd a sc y h2).1 (ev_ok fc nd b sc z h3).1
    exact ⟨g, fun _ => goodT_val rfl g⟩
  | .sl a lo hi, sc, x, h => by
    obtain ⟨y, l, u, p2, pos, rfl, h1, h2, h3⟩ := chk_sl h
    have gl : GoodO p n N sc lo l := by
      rcases h2 with ⟨e, rfl⟩ | ⟨z, e, rfl, h2⟩
      · exact goodO_none e
      · exact goodO_some e (ev_ok fc nd lo sc z h2).1
    have gu : GoodO p n N sc hi u := by
      rcases h3 with ⟨e, rfl⟩ | ⟨z, e, rfl, h3⟩
      · exact goodO_none e
      · exact goodO_some e (ev_ok fc nd hi sc z h3).1
    have g := good_sl (p2 := p2) (pos := pos) (ev_ok fc nd a sc y h1).1 gl gu
    exact ⟨g, fun _ => goodT_val rfl g⟩
  | .nohi, sc, x, h => by
    unfold chkE at h
    cases h
  | .call f es, sc, x, h => by
    obtain ⟨q, xs, pos, fi, rfl, h1, h2, h3, h4⟩ := chk_call h
    have g : GoodE p n N sc (.call f es) (.Call (.Name fi.name q) xs [] pos) := by
      have ga := evs_ok fc nd es sc xs h3
      have hst := (notStars h3).1
      have hl := (notStars h3).2
      cases xs with
      | nil =>
        cases es with
        | nil => exact good_call0 fc h2 h1
        | cons _ _ => cases hl
      | cons y ys => exact good_call fc h2 h1 hst ga h4
    exact ⟨g, fun _ => goodT_val rfl g⟩
  | .callb f es, sc, x, h => by
    obtain ⟨q, y, ys, pos, fi, rfl, h1, h2, h3⟩ := chk_callb h
    have g := good_callb (q1 := q) (pos := pos) fc h2 h1 (notStars h3).1 (evs_ok fc nd es sc _ h3)
    exact ⟨g, fun _ => goodT_val rfl g⟩
  | .cloc i es, sc, x, h => by
    unfold chkE at h
    cases h
  | .bi f es, sc, x, h => by
    obtain ⟨q, xs, pos, rfl, h1, h2⟩ := chk_bi h
    have g : GoodE p n N sc (.bi f es) (.Call (.Name (biN f) q) xs [] pos) := by
      rcases h2 with ⟨h2, h3, h4⟩ | ⟨t, y, z, q2, h2, rfl, h3, h4, h5⟩
      · have ga := evs_ok fc nd es sc xs h3
        have hst := (notStars h3).1
        cases xs with
        | nil => exact absurd rfl h4
        | cons y ys => exact good_bi fc h2 h1 hst ga
      · have hl := (notStars h5).2
        match es, hl with
        | [e1], _ =>
          have k := h5
          unfold chkEs at k
          exact good_isi fc h2 h1 h3 h4 (ba k).1 (ev_ok fc nd e1 sc y (ba (ba k).2).1).1
    exact ⟨g, fun _ => goodT_val rfl g⟩
  | .me m o es, sc, x, h => by
    obtain ⟨y, apos, xs, pos, rfl, h1, h2, h3, h4, h5⟩ := chk_me h
    have g := good_me (pos := pos) h1 h2 h3 (notStars h5).1 (ev_ok fc nd o sc y h4).1 (evs_ok fc nd es sc xs h5)
    exact ⟨g, fun _ => goodT_val rfl g⟩
  | .lc is it c e, sc, x, h => by
    obtain ⟨el, tg, iter, ifs, scope, pos, rfl, h1, h2, h3, h4, h5, h6, h7, h8⟩ := chk_lc h
    have g : GoodE p n N sc (.lc is it c e) (.ListComp el [⟨tg, iter, ifs, 0⟩] scope pos) := by
      refine good_lcAny nd ⟨h3, h4, ifs_ok h6 h5 fun cx hc => (ev_ok fc nd c _ cx hc).2 h5, (ev_ok fc nd e _ el h7).1, h8⟩ h1 (goodI_e (ev_ok fc nd it sc iter h2).1) rfl fun s d e' => ?_
      unfold ev at e'
      obtain ⟨l, e1, e'⟩ := Option.bind_eq_some_iff.mp e'
      obtain ⟨ds, e2, e'⟩ := Option.bind_eq_some_iff.mp e'
      obtain ⟨r, rfl, e3, e4⟩ := lc_if e'
      exact ⟨ds, r, by rw [e1]; exact e2, e4, e3, rfl⟩
    exact ⟨g, fun _ => goodT_val rfl g⟩
  | .lcr i es c e, sc, x, h => by
    obtain ⟨el, tg, q, xs, p2, ifs, scope, pos, rfl, h1, h2, h2', h3, h4, h5, h6, h7, h8⟩ := chk_lcr h
    have g : GoodE p n N sc (.lcr i es c e) (.ListComp el [⟨tg, .Call (.Name (Str.ofString "range") q) xs [] p2, ifs, 0⟩] scope pos) := by
      refine good_lcAny nd ⟨h3, h4, ifs_ok h6 h5 fun cx hc => (ev_ok fc nd c _ cx hc).2 h5, (ev_ok fc nd e _ el h7).1, h8⟩ rfl (goodI_r fc h1 h2' (notStars h2).2 (notStars h2).1 (evs_ok fc nd es sc xs h2)) rfl fun s d e' => ?_
      unfold ev at e'
      obtain ⟨l, e1, e'⟩ := Option.bind_eq_some_iff.mp e'
      obtain ⟨ds, e2, e'⟩ := Option.bind_eq_some_iff.mp e'
      obtain ⟨r, rfl, e3, e4⟩ := lc_if e'
      exact ⟨ds, r, by rw [e1]; exact e2, e4, e3, rfl⟩
    exact ⟨g, fun _ => goodT_val rfl g⟩
  | .no, sc, x, h => by
    unfold chkE at h
    cases h
theorem evs_ok (fc : Facts p n) (nd : N.Nodup) : ∀ (es : List E) (sc : Scope) (xs : List Expr), chkEs p.t N sc es xs = true → GoodA p n N sc es xs
  | [], sc, [], h => good_nil
  | e :: es, sc, x :: xs, h => by
    unfold chkEs at h
    obtain ⟨h1, h⟩ := ba h
    obtain ⟨h2, h3⟩ := ba h
    exact good_cons h1 (ev_ok fc nd e sc x h2).1 (evs_ok fc nd es sc xs h3)
  | [], _, _ :: _, h => by unfold chkEs at h; cases h
  | _ :: _, _, [], h => by unfold chkEs at h; cases h
end
end
end PL

/-! PL9: statements, defs. -/
namespace PL
open PySem PySem.Spec L2
/-! ### what is checked -/
def isComp : Expr → Bool
  | .ListComp _ _ _ _ => true
  | .SetComp _ _ _ _ => true
  | .DictComp _ _ _ _ _ => true
  | _ => false
def isTup : Expr → Bool
  | .Tuple _ _ _ => true
  | _ => false
def locB (sc : Scope) (x : Str) : Bool := match sc.names.lookup x with
  | some .local => true
  | some .cell => true
  | _ => false
def nmB (N : List Str) (sc : Scope) (i : Nat) (y : Str) : Bool := decide (N[i]? = some y) && locB sc y
def swB (sc : Scope) (y : Str) (py : Pos) : Expr → Bool
  | .ListComp _ _ scope pos => (py.line == pos.line) && ((match sc.names.lookup y with
    | some .local => true
    | _ => false) && !(scope.names.any fun (n, k) => n == y && (k == .local || k == .cell)))
  | _ => false
def isLc : E → Bool
  | .lc _ _ _ _ => true
  | .lcr _ _ _ _ => true
  | _ => false
def omN : OM → Str
  | .clear => "clear"
  | .pop => "pop"
  | .popat => "pop"
  | .insert => "insert"
  | .extend => "extend"
  | .reverse => "reverse"
def omOk : OM → Nat → Bool
  | .clear, 0 => true
  | .pop, 0 => true
  | .popat, 1 => true
  | .insert, 2 => true
  | .extend, 1 => true
  | .reverse, 0 => true
  | _, _ => false
/-- a method of a named list -/
def mthB (p : Tb) (N : List Str) (sc : Scope) (i : Nat) (m : OM) (es : List E) : Expr → Bool
  | .Call (.Attribute (.Name y _) a apos) xs [] cpos => decide (N[i]? = some y) && (visB sc y && (decide (a = omN m) && (omOk m xs.length && (chkEs p N sc es xs && (es.all (!al ·) && (apos.endLine == cpos.line))))))
  | _ => false
def augB : B1 → Bool
  | .add => true
  | .sub => true
  | _ => false
mutual
def chkS (p : Tb) (N : List Str) (sc : Scope) (fresh : Bool) : S → Stmt → Bool
  | .set i e, .Assign [.Name y py] x _ => nmB N sc i y && (chkE p N sc e x && (!al e && ((!isComp x && !isLc e) || (isLc e && swB sc y py x))))
  | .seto i e, .Assign [.Name y py] x _ => nmB N sc i y && (chkE p N sc e x && (fr p.T e && (!al e && ((!isComp x && !isLc e) || (isLc e && swB sc y py x)))))
  | .unp is e, .Assign [tg] x _ => decide (2 ≤ is.length) && (chkTg N sc is tg && (!isComp x && (!isTup x && (chkE p N sc e x && !al e))))
  | .aug i o e, .AugAssign (.Name y _) op x _ => nmB N sc i y && (augB o && (opEq (pyOp o) op && chkE p N sc e x))
  | .expr e, .Expr x _ => chkE p N sc e x && !isComp x
  | .app i e, .Expr (.Call (.Attribute (.Name y _) m apos) [x] [] cpos) _ => decide (N[i]? = some y) && (visB sc y && (decide (m = Str.ofString "append") && (notStar x && (chkE p N sc e x && (!al e && (apos.endLine == cpos.line))))))
  | .mth i m es, .Expr x _ => mthB p N sc i m es x
  | .mthx j i m es, .Assign [.Name z _] x _ => nmB N sc j z && (decide (i ≠ j) && mthB p N sc i m es x)
  | .sets i k e, .Assign [.Subscript (.Name y _) kx _] x _ => decide (N[i]? = some y) && (visB sc y && (notSlice kx && (chkE p N sc k kx && (chkE p N sc e x && (!al e && !isComp x)))))
  | .ret e, .Return (some x) _ => chkE p N sc e x && (!al e && (!fresh || fr p.T e))
  | .reto i, .Return (some (.Name y _)) _ => decide (N[i]? = some y) && visB sc y
  | .retn, .Return none _ => true
  | .iff c a b, .If x xs ys _ => tst c && (chkE p N sc c x && (chkSs p N sc fresh a xs && chkSs p N sc fresh b ys))
  | .whl c b, .While x xs [] _ => tst c && (chkE p N sc c x && chkSs p N sc fresh b xs)
  | .for_ is it b, .For tg x xs [] _ => chkTg N sc is tg && (notSet x && (chkE p N sc it x && (!al it && chkSs p N sc fresh b xs)))
  | .forr i es b, .For tg (.Call (.Name r _) ys [] _) xs [] _ => chkTg N sc [i] tg && (decide (r = Str.ofString "range") && (gloB sc r && (chkEs p N sc es ys && ((decide (ys.length = 1) || decide (ys.length = 2)) && chkSs p N sc fresh b xs))))
  | .brk, .Break _ => true
  | .cnt, .Continue _ => true
  | .pass, .Pass _ => true
  | .never, _ => true
  | _, _ => false
def chkSs (p : Tb) (N : List Str) (sc : Scope) (fresh : Bool) : List S → List Stmt → Bool
  | [], [] => true
  | s :: ss, xs => match s with
    | .share _ => chkSs p N sc fresh ss xs
    | s => match xs with
      | [] => false
      | x :: xs => chkS p N sc fresh s x && chkSs p N sc fresh ss xs
  | [], _ :: _ => false
end
/-! ### the state of a body -/
structure SS (p : Pr) (H0 : Hp) (S0 S : Addr → Prop) (H : Hp) (σ : L2.St) (s : Env) : Prop where
  sr : SR p.K p.FA S H σ s
  same : Same H0 H
  sub : ∀ a, S0 a → S a
  new : ∀ (i : Nat) d a, s[i]? = some (.ow d) → σ[i]? = some (some (.ref a)) → H0 a = none
def PostS (p : Pr) (fresh : Bool) (H0 : Hp) (S0 S : Addr → Prop) (H : Hp) (D : Ends) : Out → Prop
  | .nx s => ∀ S' σ' H', SS p H0 S0 S' H' σ' s → Same (gd S H) (gd S' H') → D.nx σ' H'
  | .bk s => ∀ S' σ' H', SS p H0 S0 S' H' σ' s → Same (gd S H) (gd S' H') → D.bk σ' H'
  | .ct s => ∀ S' σ' H', SS p H0 S0 S' H' σ' s → Same (gd S H) (gd S' H') → D.ct σ' H'
  | .rt d _ => ∀ v H', Same H0 H' → R p.K p.FA (gd S0 H') v d → (fresh = true → Fr p.K p.FA S0 H0 H' v d) → D.rt v H'
structure XS (p : Pr) (n : Nat) (N : List Str) (sc : Scope) (X : Cx) : Prop where
  xf : XF p n N sc X
  fn : ∀ x, X.fn x = true
  kind : sc.kind = .function
def SatS (p : Pr) (n : Nat) (fresh : Bool) (t : TS) (f : Env → Option Out) : Prop := ∀ (s : Env) (o : Out) (H0 : Hp) (S0 S : Addr → Prop) (H : Hp) (σ : L2.St) (D : Ends),
  f s = some o → Dom S0 H0 → SS p H0 S0 S H σ s → PostS p fresh H0 S0 S H D o → t D σ H
def GoodS (p : Pr) (n : Nat) (N : List Str) (sc : Scope) (fresh : Bool) (s : S) (x : Stmt) : Prop := ∃ t : TS, (∀ X, XS p n N sc X → PS X x t) ∧ SatS p n fresh t (ex (call p.T p.G n) p.G s)
def GoodSs (p : Pr) (n : Nat) (N : List Str) (sc : Scope) (fresh : Bool) (s : List S) (x : List Stmt) : Prop := ∃ t : TS, (∀ X, XS p n N sc X → PSs X x t) ∧ SatS p n fresh t (exs (call p.T p.G n) p.G s)
section
variable {p : Pr} {n : Nat} {N : List Str} {sc : Scope} {fresh : Bool} {H0 H H1 H2 : Hp} {S0 S S' : Addr → Prop} {σ : L2.St} {s : Env} {D : Ends} {o : Out} {d : PL.D}
theorem PostS.move (m : Same (gd S H) (gd S' H1)) (q : PostS p fresh H0 S0 S H D o) : PostS p fresh H0 S0 S' H1 D o := by
  cases o with
  | nx s => exact fun S2 σ2 H2 h m2 => q S2 σ2 H2 h (m.trans m2)
  | bk s => exact fun S2 σ2 H2 h m2 => q S2 σ2 H2 h (m.trans m2)
  | ct s => exact fun S2 σ2 H2 h m2 => q S2 σ2 H2 h (m.trans m2)
  | rt d s => exact q
theorem SS.mono (m : Same H H1) (h : SS p H0 S0 S H σ s) : SS p H0 S0 S H1 σ s := ⟨h.sr.mono m, h.same.trans m, h.sub, h.new⟩
theorem SS.set {i : Nat} {v : V} (h : SS p H0 S0 S H σ s) (r : R p.K p.FA (gd S H) v d) : SS p H0 S0 S H (σ.set i (some v)) (s.set i (.sh d)) := by
  refine ⟨h.sr.set r, h.same, h.sub, fun j e a hj ha => ?_⟩
  rw [List.getElem?_set] at hj
  by_cases q : i = j
  · rw [if_pos q] at hj
    split at hj <;> cases hj
  · rw [if_neg q] at hj
    rw [List.getElem?_set_ne q] at ha
    exact h.new j e a hj ha
theorem loc_of {y : Str} (h : locB sc y = true) : Loc sc y := loc_ok h
theorem swaps_no {x : Expr} {t : Option Expr} {l : Nat} {env : PySem.Env} (h : isComp x = false) : swapsWith x t l env = pure false := by
  cases x <;> first | rfl | cases h
/-- a pack of a comprehension's parts -/
def LcPack (p : Pr) (n : Nat) (N : List Str) (sc : Scope) (l : E) (x : Expr) : Prop := ∃ (el tg iter : Expr) (ifs : List Expr) (scope : Scope) (pos : Pos) (is : List Nat) (c e : E) (b : Bool) (f : Env → Option (List PL.D)),
  x = .ListComp el [⟨tg, iter, ifs, 0⟩] scope pos ∧ LcOk p n N sc scope is tg ifs c e el ∧ notSet iter = true ∧ (∃ t : TI, (∀ X, XF p n N sc X → PI X tg iter t) ∧ SatI p n t b f) ∧
  (∀ s d, ev (call p.T p.G n) p.G l s = some d → ∃ ds r, f s = some ds ∧ lcD (lcF p n is c e s) ds = some r ∧ r.length ≤ sizeLine ∧ d = .lst r)
theorem lc_pack (fc : Facts p n) (nd : N.Nodup) {l : E} {x : Expr} (hl : isLc l = true) (h : chkE p.t N sc l x = true) : LcPack p n N sc l x := by
  cases l <;> first | (cases hl; done) | skip
  · rename_i is it c e
    obtain ⟨el, tg, iter, ifs, scope, pos, rfl, h1, h2, h3, h4, h5, h6, h7, h8⟩ := chk_lc h
    refine ⟨el, tg, iter, ifs, scope, pos, is, c, e, _, _, rfl, ⟨h3, h4, ifs_ok h6 h5 fun cx hc => (ev_ok fc nd c _ cx hc).2 h5, (ev_ok fc nd e _ el h7).1, h8⟩, h1, goodI_e (ev_ok fc nd it sc iter h2).1, fun s d e' => ?_⟩
    unfold ev at e'
    obtain ⟨l, e1, e'⟩ := Option.bind_eq_some_iff.mp e'
    obtain ⟨ds, e2, e'⟩ := Option.bind_eq_some_iff.mp e'
    obtain ⟨r, rfl, e3, e4⟩ := lc_if e'
    exact ⟨ds, r, by rw [e1]; exact e2, e4, e3, rfl⟩
  · rename_i i es c e
    obtain ⟨el, tg, q, xs, p2, ifs, scope, pos, rfl, h1, h2, h2', h3, h4, h5, h6, h7, h8⟩ := chk_lcr h
    refine ⟨el, tg, _, ifs, scope, pos, [i], c, e, _, _, rfl, ⟨h3, h4, ifs_ok h6 h5 fun cx hc => (ev_ok fc nd c _ cx hc).2 h5, (ev_ok fc nd e _ el h7).1, h8⟩, rfl, goodI_r fc h1 h2' (notStars h2).2 (notStars h2).1 (evs_ok fc nd es sc xs h2), fun s d e' => ?_⟩
    unfold ev at e'
    obtain ⟨l, e1, e'⟩ := Option.bind_eq_some_iff.mp e'
    obtain ⟨ds, e2, e'⟩ := Option.bind_eq_some_iff.mp e'
    obtain ⟨r, rfl, e3, e4⟩ := lc_if e'
    exact ⟨ds, r, by rw [e1]; exact e2, e4, e3, rfl⟩
/-- a value is stored under a name: one rule for all -/
def GoodV (p : Pr) (n : Nat) (N : List Str) (sc : Scope) (i : Nat) (e : E) (st : Stmt) : Prop := ∃ te : TE, (∀ X, XS p n N sc X → PS X st (tAsg te (gName i))) ∧
  ∀ (s : Env) (d : PL.D) (S : Addr → Prop) (H : Hp) (σ : L2.St) (Q : VK), ev (call p.T p.G n) p.G e s = some d → SR p.K p.FA S H σ s → Post p false (fr p.T e) S H d Q → te σ H Q
theorem good_v (fc : Facts p n) (nd : N.Nodup) {i : Nat} {e : E} {y : Str} {py pos : Pos} {x : Expr} (h1 : nmB N sc i y = true) (h2 : chkE p.t N sc e x = true) (h3 : al e = false) (h4 : ((!isComp x && !isLc e) || (isLc e && swB sc y py x)) = true) : GoodV p n N sc i e (.Assign [.Name y py] x pos) := by
  obtain ⟨hN, hl⟩ := ba h1
  have hN := of_decide_eq_true hN
  rcases Bool.or_eq_true_iff.mp h4 with h4 | h4
  · obtain ⟨c1, c2⟩ := ba h4
    obtain ⟨te, pe, se⟩ := (ev_ok fc nd e sc x h2).1
    refine ⟨te, fun X hx => ps_set (by rw [hx.xf.N]; exact nd) (by rw [hx.xf.N]; exact hN) (by rw [hx.xf.sc]; exact loc_of hl) (pe X hx.xf) (swaps_no (by simpa using c1)) (.inl (hx.fn _)), fun s d S H σ Q e' hs q => se s d S H σ Q e' hs ?_⟩
    rw [h3]
    exact q
  · obtain ⟨c1, c2⟩ := ba h4
    obtain ⟨el, tg, iter, ifs, scope, pos2, is, c, e2, b, f, rfl, k, hs, ⟨wi, pi, si⟩, hev⟩ := lc_pack fc nd c1 h2
    obtain ⟨tt, pt, st⟩ := k.tt
    obtain ⟨te, pe, se⟩ := k.el
    unfold swB at c2
    obtain ⟨d1, d2⟩ := ba c2
    obtain ⟨d3, d4⟩ := ba d2
    have hyl : sc.names.lookup y = some .local := by
      split at d3
      · assumption
      · cases d3
    refine ⟨tLc wi (gOf p.K is) tt te is, fun X hx => ?_, fun s d S H σ Q e' hs q => ?_⟩
    · have hx' := hx.xf
      have z := ps_setLc (i := i) (own := ownOf N is) (pos := pos2) (spos := pos) (y := y) (py := py) hx'.calm (by rw [hx'.N]; exact nd) (by rw [hx'.N]; exact hN) (by rw [hx'.sc]; exact hyl) (sw_true (by rw [hx'.sc]; exact hx.kind) (by rw [hx'.sc]; exact hyl) d1 (by simpa using d4)) (pi X hx') (by rw [hx'.N, hx'.sc]; exact blkOk_by k.blk)
        (fun s H C cl fp => tg_blk hx' nd k.tg s H C cl fp) (fun s H C cl fp => pt _ (xf_blk hx' s H scope cl C fp)) (fun s H C cl fp => pe _ (xf_blk hx' s H scope cl C fp)) (folded_ok hs)
      rw [own_snd] at z
      exact z
    · obtain ⟨ds, r, e1, e2, e3, rfl⟩ := hev s d e'
      exact lc_sat si st se k.ne e1 e2 e3 hs (q.ok (Same.refl _))
theorem good_set {i : Nat} {e : E} {x : Stmt} (h : GoodV p n N sc i e x) : GoodS p n N sc fresh (.set i e) x := by
  obtain ⟨te, pt, st⟩ := h
  refine ⟨_, pt, fun s o H0 S0 S H σ D e' d0 hs q => ?_⟩
  unfold ex at e'
  obtain ⟨d, e1, rfl⟩ := Option.map_eq_some_iff.mp e'
  exact st s d S H σ _ e1 hs.sr fun v H1 m1 _ r _ => q S _ H1 ((hs.mono m1).set (r rfl)) (gd_mono m1)
theorem good_seto {i : Nat} {e : E} {x : Stmt} (hf : fr p.T e = true) (h : GoodV p n N sc i e x) : GoodS p n N sc fresh (.seto i e) x := by
  obtain ⟨te, pt, st⟩ := h
  refine ⟨_, pt, fun s o H0 S0 S H σ D e' d0 hs q => ?_⟩
  unfold ex at e'
  obtain ⟨d, e1, e2⟩ := Option.bind_eq_some_iff.mp e'
  cases d <;> first | (cases e2; done) | skip
  rename_i ds
  cases e2
  refine st s _ S H σ _ e1 hs.sr fun v H1 m1 _ _ fv => ?_
  obtain ⟨a, vs, rfl, hn, ha, hr⟩ := fv hf ds rfl
  have hs1 := hs.mono m1
  have na : ∀ b, S b → b ≠ a := fun b hb z => hs.sr.dom.nn hb (by rw [z]; exact hn)
  have mg : Same (gd S H) (gd (fun b => S b ∨ b = a) H1) := fun b u e => by
    have hb : H b = some u := gd_sub b u e
    have ns : ¬ S b := fun z => by
      unfold gd at e
      rw [if_pos z] at e
      cases e
    exact gd_of (fun z => z.elim ns (ne_of_none hb hn)) (m1 b u hb)
  have dm : Dom (fun b => S b ∨ b = a) H1 := fun b hb => hb.elim (fun z => hs1.sr.dom b z) fun z => ⟨vs, by rw [z, ha]⟩
  refine q (fun b => S b ∨ b = a) _ H1 ⟨⟨by rw [List.length_set, List.length_set]; exact hs.sr.len, dm, fun j e hj => ?_, fun j e hj => ?_, fun j k e e' b hjk hj hk hb hc => ?_⟩, hs.same.trans m1, fun b hb => .inl (hs.sub b hb), fun j e b hj hb => ?_⟩ mg
  · rw [List.getElem?_set] at hj ⊢
    by_cases w : i = j
    · rw [if_pos w] at hj
      split at hj <;> cases hj
    · rw [if_neg w] at hj ⊢
      obtain ⟨v, h1, h2⟩ := hs.sr.sh j e hj
      exact ⟨v, h1, h2.mono mg⟩
  · rw [List.getElem?_set] at hj ⊢
    by_cases w : i = j
    · rw [if_pos w] at hj ⊢
      rw [← hs.sr.len]
      split at hj
      · rename_i hlt
        cases hj
        rw [if_pos hlt]
        exact ⟨a, vs, ds, rfl, rfl, .inr rfl, ha, hr⟩
      · cases hj
    · rw [if_neg w] at hj ⊢
      obtain ⟨b, ws, es, h1, h2, h3, h4, h5⟩ := hs.sr.ow j e hj
      exact ⟨b, ws, es, h1, h2, .inl h3, m1 _ _ h4, h5.mono mg⟩
  · rw [List.getElem?_set] at hj hk hb hc
    by_cases w : i = j
    · rw [if_pos w] at hj hb
      by_cases w2 : i = k
      · exact hjk (w.symm.trans w2)
      · rw [if_neg w2] at hk hc
        split at hb
        · cases hb
          obtain ⟨b, ws, es, h1, h2, h3, h4, h5⟩ := hs.sr.ow k e' hk
          rw [hc] at h2
          cases h2
          exact na _ h3 rfl
        · cases hb
    · rw [if_neg w] at hj hb
      by_cases w2 : i = k
      · rw [if_pos w2] at hk hc
        split at hc
        · cases hc
          obtain ⟨b, ws, es, h1, h2, h3, h4, h5⟩ := hs.sr.ow j e hj
          rw [hb] at h2
          cases h2
          exact na _ h3 rfl
        · cases hc
      · rw [if_neg w2] at hk hc
        exact hs.sr.ap j k e e' b hjk hj hk hb hc
  · rw [List.getElem?_set] at hj hb
    by_cases w : i = j
    · rw [if_pos w] at hb
      split at hb
      · cases hb
        exact hs.same.free hn
      · cases hb
    · rw [if_neg w] at hj hb
      exact hs.new j e b hj hb
end
end PL

/-! PL10: statements, defs, the rest. -/
namespace PL
open PySem PySem.Spec L2
section
variable {p : Pr} {n : Nat} {N : List Str} {sc : Scope} {fresh : Bool} {H0 H H1 H2 : Hp} {S0 S S' : Addr → Prop} {σ : L2.St} {s : Env} {D : Ends} {o : Out} {d : PL.D}
theorem GoodE.get {e : E} {x : Expr} (h : GoodE p n N sc e x) (ha : al e = false) : ∃ te : TE, (∀ X, XF p n N sc X → PE X x te) ∧ ∀ (s : Env) (d : PL.D) (S : Addr → Prop) (H : Hp) (σ : L2.St) (Q : VK),
    ev (call p.T p.G n) p.G e s = some d → SR p.K p.FA S H σ s → (∀ v H', Same H H' → R p.K p.FA (gd S H') v d → (fr p.T e = true → Fr p.K p.FA S H H' v d) → Q v H') → te σ H Q := by
  obtain ⟨t, pt, st⟩ := h
  exact ⟨t, pt, fun s d S H σ Q e' hs q => st s d S H σ Q e' hs fun v H' m _ r f => q v H' m (r ha) f⟩
theorem gList_out {is : List Nat} {j : Nat} {σ2 : L2.St} (hw : ∀ us : List Nat, (∀ i ∈ is, i ∈ us) → wipe σ2 us = wipe σ us) (h : j ∉ is) : σ2[j]? = σ[j]? := by
  have out : ∀ (us : List Nat) (τ : L2.St), j ∉ us → (wipe τ us)[j]? = τ[j]? := by
    intro us
    induction us with
    | nil => intro τ _; rfl
    | cons u us ih =>
      intro τ h
      unfold wipe
      rw [List.getElem?_set_ne fun z => h (by rw [z]; exact List.mem_cons_self)]
      exact ih τ fun z => h (List.mem_cons_of_mem _ z)
  rw [← out is σ2 h, ← out is σ h, hw is fun i q => q]
theorem tgs_own {is : List Nat} : ∀ {xs : List PL.D} {s s2 : Env} {j : Nat} {d : PL.D}, tgs is xs s = some s2 → s2[j]? = some (.ow d) → s[j]? = some (.ow d) ∧ j ∉ is := by
  induction is with
  | nil =>
    intro xs s s2 j d e h
    cases xs with
    | nil => cases e; exact ⟨h, by simp⟩
    | cons => cases e
  | cons i is ih =>
    intro xs s s2 j d e h
    cases xs with
    | nil => cases e
    | cons x xs =>
      obtain ⟨h1, h2⟩ := ih (xs := xs) (s := s.set i (.sh x)) e h
      rw [List.getElem?_set] at h1
      by_cases q : i = j
      · rw [if_pos q] at h1
        split at h1 <;> cases h1
      · rw [if_neg q] at h1
        exact ⟨h1, fun z => (List.mem_cons.mp z).elim (fun z => q z.symm) h2⟩
theorem tgD_own {is : List Nat} {x : PL.D} {s s2 : Env} {j : Nat} (e : tgD is x s = some s2) (h : s2[j]? = some (.ow d)) : s[j]? = some (.ow d) ∧ j ∉ is := by
  unfold tgD at e
  split at e
  · cases e
    rw [List.getElem?_set] at h
    rename_i i
    by_cases q : i = j
    · rw [if_pos q] at h
      split at h <;> cases h
    · rw [if_neg q] at h
      exact ⟨h, fun z => q (List.mem_singleton.mp z).symm⟩
  · exact tgs_own e h
  · cases e
theorem tg_ss {is : List Nat} {x : PL.D} {v : V} {s2 : Env} {Qs : L2.St → Hp → Prop} (e : tgD is x s = some s2) (r : R p.K p.FA (gd S H) v x) (hs : SS p H0 S0 S H σ s) (q : ∀ σ2, SS p H0 S0 S H σ2 s2 → Qs σ2 H) : gOf p.K is v σ H Qs :=
  tg_sat e r hs.sr fun σ2 h hw => q σ2 ⟨h, hs.same, hs.sub, fun j d a hj ha => by
    obtain ⟨h1, h2⟩ := tgD_own e hj
    rw [gList_out hw h2] at ha
    exact hs.new j d a h1 ha⟩
theorem XS.loc {X : Cx} (hx : XS p n N sc X) (x : Str) (h : sc.names.lookup x = some .local ∨ sc.names.lookup x = some .cell) : Loc X.env.scope x ∧ (X.fn x = true ∨ X.env.scope.names.lookup x = some .local) := ⟨by rw [hx.xf.sc]; exact h, .inl (hx.fn x)⟩
theorem XS.pg {X : Cx} (hx : XS p n N sc X) (nd : N.Nodup) {is : List Nat} {tg : Expr} (h : chkTg N sc is tg = true) : PG X tg (gOf p.K is) := pg_ok hx.xf.K hx.xf.calm hx.xf.N nd (fun x q => hx.loc x q) h
theorem swSole {tg x : Expr} {l : Nat} {env : PySem.Env} (h : isComp x = false) : swapsWithSole [tg] x l env = pure false := swaps_no h
theorem swStores {tg x : Expr} {env : PySem.Env} (h : isTup x = false) : swappedStores [tg] x env = pure none := by
  cases x <;> first | (cases h; done) | (cases tg <;> rfl)
theorem swStores2 {o i x : Expr} {q : Pos} {env : PySem.Env} : swappedStores [.Subscript o i q] x env = pure none := by
  cases x <;> rfl
theorem good_unp (nd : N.Nodup) {is : List Nat} {e : E} {tg x : Expr} {pos : Pos} (h1 : chkTg N sc is tg = true) (h2 : isComp x = false) (h3 : isTup x = false) (he : GoodE p n N sc e x) (ha : al e = false) (h2' : (∀ env : PySem.Env, (assignEach [tg] env).map (·.2) = [assign tg env])) : GoodS p n N sc fresh (.unp is e) (.Assign [tg] x pos) := by
  obtain ⟨te, pe, se⟩ := he.get ha
  refine ⟨_, fun X hx => ps_asg (pe X hx.xf) (hx.pg nd h1) (swSole h2) (swStores h3) (h2' _), fun s o H0 S0 S H σ D e' d0 hs q => ?_⟩
  unfold ex at e'
  obtain ⟨d, e1, e2⟩ := Option.bind_eq_some_iff.mp e'
  obtain ⟨s2, e3, rfl⟩ := Option.map_eq_some_iff.mp e2
  exact se s d S H σ _ e1 hs.sr fun v H1 m1 r _ => tg_ss e3 r (hs.mono m1) fun σ2 h => q S σ2 H1 h (gd_mono m1)
def ipB : B1 → TIp
  | .add => ipI fun i j => i + j
  | _ => ipI fun i j => i - j
theorem good_aug (nd : N.Nodup) {i : Nat} {o1 : B1} {op : Operator} {e : E} {y : Str} {py pos : Pos} {x : Expr} (h1 : nmB N sc i y = true) (h2 : augB o1 = true) (h3 : opEq (pyOp o1) op = true) (he : GoodE p n N sc e x) : GoodS p n N sc fresh (.aug i o1 e) (.AugAssign (.Name y py) op x pos) := by
  obtain ⟨te, pe, se⟩ := he
  obtain ⟨hN, hl⟩ := ba h1
  have hN := of_decide_eq_true hN
  cases opEq_ok h3
  refine ⟨tAug i te (ipB o1), fun X hx => ?_, fun s o H0 S0 S H σ D e' d0 hs q => ?_⟩
  · have := hx.xf
    have hN' : X.N[i]? = some y := by rw [this.N]; exact hN
    have nd' : X.N.Nodup := by rw [this.N]; exact nd
    have hl' : Loc X.env.scope y := by rw [this.sc]; exact loc_of hl
    cases o1 <;> first | (cases h2; done) | skip
    · exact ps_aug nd' hN' hl' (pe X this) ip_add (.inl (hx.fn _))
    · exact ps_aug nd' hN' hl' (pe X this) ip_sub (.inl (hx.fn _))
  · unfold ex at e'
    obtain ⟨x0, e1, e'⟩ := Option.bind_eq_some_iff.mp e'
    obtain ⟨sl, e0, e1⟩ := Option.bind_eq_some_iff.mp e1
    obtain ⟨y0, e2, e'⟩ := Option.bind_eq_some_iff.mp e'
    cases sl <;> cases e1
    obtain ⟨v, h4, h5⟩ := hs.sr.sh i _ e0
    split at e'
    · obtain ⟨z, e3, rfl⟩ := Option.map_eq_some_iff.mp e'
      refine ⟨v, h4, se s _ S H σ _ e2 hs.sr fun u H1 m1 ra _ _ => ?_⟩
      cases h5
      have eu := ra.int
      subst eu
      cases o1 <;> first | (cases h2; done) | skip
      · cases e3
        exact ⟨_, _, rfl, rfl, q S _ H1 ((hs.mono m1).set (.int _)) (gd_mono m1)⟩
      · cases e3
        exact ⟨_, _, rfl, rfl, q S _ H1 ((hs.mono m1).set (.int _)) (gd_mono m1)⟩
    · cases e'
theorem good_expr {e : E} {x : Expr} {pos : Pos} (h : isComp x = false) (he : GoodE p n N sc e x) : GoodS p n N sc fresh (.expr e) (.Expr x pos) := by
  obtain ⟨te, pe, se⟩ := he
  refine ⟨_, fun X hx => ps_expr (pe X hx.xf) (swaps_no h), fun s o H0 S0 S H σ D e' d0 hs q => ?_⟩
  unfold ex at e'
  obtain ⟨d, e1, rfl⟩ := Option.map_eq_some_iff.mp e'
  exact se s d S H σ _ e1 hs.sr fun v H1 m1 _ _ _ => q S σ H1 (hs.mono m1) (gd_mono m1)
/-- an own list is changed -/
theorem SS.upd {i : Nat} {a : Addr} {vs : List V} {xs ds : List PL.D} (h : SS p H0 S0 S H σ s) (h0 : s[i]? = some (.ow (.lst xs))) (h1 : σ[i]? = some (some (.ref a))) (r : Rs p.K p.FA (gd S H) vs ds) : SS p H0 S0 S (L2.upd H a (.lst vs)) σ (s.set i (.ow (.lst ds))) ∧ Same (gd S H) (gd S (L2.upd H a (.lst vs))) := by
  obtain ⟨b, ws, es, e1, e2, e3, e4, e5⟩ := h.sr.ow i _ h0
  rw [h1] at e2
  cases e2
  have mg : Same (gd S H) (gd S (L2.upd H a (.lst vs))) := gd_upd e3
  have hi : i < s.length := (List.getElem?_eq_some_iff.mp h0).1
  have hn := h.new i _ a h0 h1
  refine ⟨⟨⟨by rw [List.length_set]; exact h.sr.len, fun b hb => ?_, fun j e hj => ?_, fun j e hj => ?_, fun j k e e' b hjk hj hk hb => ?_⟩, fun b u hb => ?_, h.sub, fun j e b hj hb => ?_⟩, mg⟩
  · by_cases z : b = a
    · exact ⟨_, by rw [z, upd_same]⟩
    · rw [upd_ne z]
      exact h.sr.dom b hb
  · rw [List.getElem?_set] at hj
    by_cases w : i = j
    · rw [if_pos w] at hj
      split at hj <;> cases hj
    · rw [if_neg w] at hj
      obtain ⟨v, h1, h2⟩ := h.sr.sh j e hj
      exact ⟨v, h1, h2.mono mg⟩
  · rw [List.getElem?_set] at hj
    by_cases w : i = j
    · rw [if_pos w, if_pos hi] at hj
      cases hj
      subst w
      exact ⟨a, vs, ds, rfl, h1, e3, upd_same, r.mono mg⟩
    · rw [if_neg w] at hj
      obtain ⟨b, ws', es', q1, q2, q3, q4, q5⟩ := h.sr.ow j e hj
      have nb : b ≠ a := fun z => h.sr.ap i j _ _ a w h0 hj h1 (by rw [q2, z])
      exact ⟨b, ws', es', q1, q2, q3, by rw [upd_ne nb]; exact q4, q5.mono mg⟩
  · rw [List.getElem?_set] at hj hk
    have old : ∀ {l : Nat} {e : PL.D}, (if i = l then if i < s.length then some (Sl.ow (.lst ds)) else none else s[l]?) = some (.ow e) → ∃ e', s[l]? = some (.ow e') := by
      intro l e q
      by_cases w : i = l
      · subst w
        exact ⟨_, h0⟩
      · rw [if_neg w] at q
        exact ⟨_, q⟩
    obtain ⟨f1, g1⟩ := old hj
    obtain ⟨f2, g2⟩ := old hk
    exact h.sr.ap j k _ _ b hjk g1 g2 hb
  · have nb : b ≠ a := fun z => by
      rw [z, hn] at hb
      cases hb
    rw [upd_ne nb]
    exact h.same b u hb
  · rw [List.getElem?_set] at hj
    by_cases w : i = j
    · subst w
      exact h.new i _ b h0 hb
    · rw [if_neg w] at hj
      exact h.new j e b hj hb
theorem good_app {i : Nat} {e : E} {y : Str} {py apos cpos pos : Pos} {x : Expr} (hN : N[i]? = some y) (hv : visB sc y = true) (hst : notStar x = true) (he : GoodE p n N sc e x) (ha : al e = false) (hl : (apos.endLine == cpos.line) = true) :
    GoodS p n N sc fresh (.app i e) (.Expr (.Call (.Attribute (.Name y py) (Str.ofString "append") apos) [x] [] cpos) pos) := by
  obtain ⟨te, pe, se⟩ := he.get ha
  refine ⟨tDrop (tBM p.K "list" rAppend (tVar i) (tCons te tNil)), fun X hx => ?_, fun s o H0 S0 S H σ D e' d0 hs q => ?_⟩
  · refine ps_expr ?_
    rw [← hx.xf.K]
    exact pe_bm PySem.F.plainAttrs_list PySem.F.slot_list_append PySem.F.type_list_append mt_append (good_name hN hv X hx.xf) (pa_cons (pe X hx.xf) pa_nil (star_cons hst)) rfl (by rw [star_cons hst]; rfl) hl (star_cons hst) rfl
  · unfold ex at e'
    obtain ⟨x0, e1, e'⟩ := Option.bind_eq_some_iff.mp e'
    obtain ⟨sl, e0, e1⟩ := Option.bind_eq_some_iff.mp e1
    obtain ⟨d, e2, e'⟩ := Option.bind_eq_some_iff.mp e'
    cases sl <;> cases e1
    obtain ⟨a, vs, xs, rfl, h1, h2, h3, h4⟩ := hs.sr.ow i _ e0
    have e4 : (if xs.length < sizeLine then some (Out.nx (s.set i (.ow (.lst (xs ++ [d]))))) else none) = some o := e'
    by_cases hz : xs.length < sizeLine
    · rw [if_pos hz] at e4
      cases e4
      refine ⟨_, h1, Or.inl ⟨rfl, _, Or.inl (Or.inl h3)⟩, se s d S H σ _ e2 hs.sr fun v H1 m1 r _ => ?_⟩
      refine ⟨a, vs, v, rfl, rfl, m1 _ _ h3, by rw [h4.length]; exact hz, ?_⟩
      obtain ⟨k1, k2⟩ := (hs.mono m1).upd e0 h1 ((h4.mono (gd_mono m1)).append (.cons r .nil))
      exact q S σ _ k1 ((gd_mono m1).trans k2)
    · rw [if_neg hz] at e4
      cases e4
/-! methods of own lists -/
def omI : OM → String
  | .clear => "list.clear"
  | .pop => "list.pop"
  | .popat => "list.pop"
  | .insert => "list.insert"
  | .extend => "list.extend"
  | .reverse => "list.reverse"
def rIns : V → List V → Hp → VK → Prop := fun x vs H Q => ∃ (l : Addr) (xs : List V) (i : Int) (y : V), x = .ref l ∧ vs = [.int i, y] ∧ H l = some (.lst xs) ∧ xs.length < sizeLine ∧ 0 ≤ i ∧ i < 2 ^ 63 ∧
    Q .non (L2.upd H l (.lst (xs.take i.toNat ++ [y] ++ xs.drop i.toNat)))
def omR : OM → V → List V → Hp → VK → Prop
  | .clear => rClear
  | .pop => rPop
  | .popat => rPopAt
  | .insert => rIns
  | .extend => rExtend
  | .reverse => rReverse
theorem omM {X : Cx} : ∀ m : OM, MtR X (omI m) (omR m)
  | .clear => mt_clear
  | .pop => mt_pop
  | .popat => mt_popAt
  | .insert => mt_insert
  | .extend => mt_extend
  | .reverse => mt_reverse
theorem omS : ∀ m : OM, Slot "list" (omN m) (omI m) ∧ typeOf (.builtin (omI m)) = pure (.type "method_descriptor")
  | .clear => ⟨PySem.F.slot_list_clear, PySem.F.type_list_clear⟩
  | .pop => ⟨PySem.F.slot_list_pop, PySem.F.type_list_pop⟩
  | .popat => ⟨PySem.F.slot_list_pop, PySem.F.type_list_pop⟩
  | .insert => ⟨PySem.F.slot_list_insert, PySem.F.type_list_insert⟩
  | .extend => ⟨PySem.F.slot_list_extend, PySem.F.type_list_extend⟩
  | .reverse => ⟨PySem.F.slot_list_reverse, PySem.F.type_list_reverse⟩
theorem omOk_len {k : Nat} : ∀ {m : OM}, omOk m k = true → k = 0 ∨ k = 1 ∨ k = 2 := by
  intro m h
  unfold omOk at h
  split at h <;> first | exact .inl rfl | exact .inr (.inl rfl) | exact .inr (.inr rfl) | cases h
theorem omPE {X : Cx} {m : OM} {y : Str} {py apos cpos : Pos} {xs : List Expr} {to : TE} {t : TA} (hk : omOk m xs.length = true) (hl : (apos.endLine == cpos.line) = true) (hst : xs.all notStar = true) (ho : PE X (.Name y py) to) (ha : PA X xs t) (h0 : xs = [] → t = tNil) :
    PE X (.Call (.Attribute (.Name y py) (omN m) apos) xs [] cpos) (tBM X.K "list" (omR m) to t) := by
  match xs, omOk_len hk with
  | [], _ =>
    cases h0 rfl
    exact pe_bm0 PySem.F.plainAttrs_list (omS m).1 (omS m).2 (omM m) ho rfl hl
  | [x], _ =>
    rw [List.all_cons] at hst
    have c1 := (ba hst).1
    exact pe_bm PySem.F.plainAttrs_list (omS m).1 (omS m).2 (omM m) ho ha rfl (by rw [star_cons c1]; rfl) hl (star_cons c1) rfl
  | [x, z], _ =>
    rw [List.all_cons, List.all_cons] at hst
    have c1 := (ba hst).1
    have c2 := (ba (ba hst).2).1
    exact pe_bm PySem.F.plainAttrs_list (omS m).1 (omS m).2 (omM m) ho ha rfl (by rw [star_cons c1, star_cons c2]; rfl) hl (star_cons c1) (by rw [star_cons c2]; rfl)
  | _ :: _ :: _ :: _, h => exact absurd h (by simp only [List.length_cons]; omega)
theorem Rs.eraseIdx {K : PySem.W.Frag} {FA : Nat → Addr} {G : Hp} : ∀ (n : Nat) {vs : List V} {ds : List PL.D}, Rs K FA G vs ds → Rs K FA G (vs.eraseIdx n) (ds.eraseIdx n)
  | _, _, _, .nil => by simp; exact .nil
  | 0, _, _, .cons _ r => by simp; exact r
  | n + 1, _, _, .cons h r => by simp; exact .cons h (Rs.eraseIdx n r)
theorem Rs.dropLast {K : PySem.W.Frag} {FA : Nat → Addr} {G : Hp} {vs : List V} {ds : List PL.D} (r : Rs K FA G vs ds) : Rs K FA G vs.dropLast ds.dropLast := by
  rw [List.dropLast_eq_take, List.dropLast_eq_take, r.length]
  exact r.take _
theorem Rs.reverse {K : PySem.W.Frag} {FA : Nat → Addr} {G : Hp} : ∀ {vs : List V} {ds : List PL.D}, Rs K FA G vs ds → Rs K FA G vs.reverse ds.reverse
  | _, _, .nil => .nil
  | _, _, .cons h r => by
    rw [List.reverse_cons, List.reverse_cons]
    exact (Rs.reverse r).append (.cons h .nil)
theorem om_ok {K : PySem.W.Frag} {FA : Nat → Addr} {G : Hp} {m : OM} {ds ds' xs : List PL.D} {d : PL.D} {vs us : List V} {a : Addr} {Q : VK} (e : omD m ds xs = some (ds', d)) (ha : H a = some (.lst vs)) (hG : Same G H) (r : Rs K FA G vs ds) (ra : Rs K FA G us xs)
    (q : ∀ vs' v, Rs K FA G vs' ds' → R K FA G v d → Q v (L2.upd H a (.lst vs'))) : omR m (.ref a) us H Q := by
  unfold omD at e
  split at e
  · cases e
    cases ra
    exact ⟨a, vs, rfl, rfl, ha, q _ _ .nil .non⟩
  · obtain ⟨z, e1, e2⟩ := Option.map_eq_some_iff.mp e
    cases e2
    cases ra
    obtain ⟨v, h1, h2⟩ := r.get e1
    exact ⟨a, vs, v, rfl, rfl, ha, by rw [r.length]; exact h1, q _ _ r.dropLast h2⟩
  · split at e
    · rename_i i c
      obtain ⟨k, e1, e2⟩ := Option.bind_eq_some_iff.mp e
      obtain ⟨z, e3, e4⟩ := Option.map_eq_some_iff.mp e2
      cases e4
      cases ra with
      | cons h1 h2 =>
        cases h1
        cases h2
        obtain ⟨v, h3, h4⟩ := r.get e3
        exact ⟨a, vs, _, k, v, rfl, rfl, ha, by omega, by omega, by rw [r.length]; exact e1, h3, q _ _ (r.eraseIdx k) h4⟩
    · cases e
  · split at e
    · rename_i i z c
      cases e
      cases ra with
      | cons h1 h2 =>
        cases h1
        cases h2 with
        | cons h2 h3 =>
          cases h3
          exact ⟨a, vs, _, _, rfl, rfl, ha, by rw [r.length]; exact c.1, c.2.1, by omega, q _ _ (((r.take _).append (.cons h2 .nil)).append (r.drop _)) .non⟩
    · cases e
  · split at e
    · rename_i es c
      cases e
      cases ra with
      | cons h1 h2 =>
        cases h2
        cases h1 with
        | lst h3 h4 => exact ⟨a, _, vs, _, rfl, rfl, ha, hG _ _ h3, by rw [r.length, h4.length]; exact c, q _ _ (r.append h4) .non⟩
    · cases e
  · cases e
    cases ra
    exact ⟨a, vs, rfl, rfl, ha, q _ _ r.reverse .non⟩
  · cases e
theorem mth_nil {es : List E} {xs : List Expr} (h : chkEs p.t N sc es xs = true) (h0 : xs = []) : es = [] := by
  subst h0
  cases es with
  | nil => rfl
  | cons => unfold chkEs at h; cases h
/-- the arguments of a method, none of them written otherwise -/
theorem goodA_nil {es : List E} {xs : List Expr} (h : GoodA p n N sc es xs) (he : xs = [] → es = []) : ∃ t : TA, (∀ X, XF p n N sc X → PA X xs t) ∧ SatA p n t es ∧ (xs = [] → t = tNil) := by
  cases xs with
  | nil =>
    cases he rfl
    obtain ⟨t, pt, st⟩ := (good_nil : GoodA p n N sc [] [])
    exact ⟨tNil, fun X _ => pa_nil, fun s ds S H σ Q e hs q => by
      unfold evs at e
      cases e
      exact q [] H (Same.refl _) trivial fun _ => .nil, fun _ => rfl⟩
  | cons x xs =>
    obtain ⟨t, pt, st⟩ := h
    exact ⟨t, pt, st, fun e => by cases e⟩
theorem om_sat {i : Nat} {m : OM} {es : List E} {t : TA} (st : SatA p n t es) (hal : es.all (!al ·) = true) {x0 : PL.D} {xs ds ds' : List PL.D} {d : PL.D} {Q : VK} (hs : SS p H0 S0 S H σ s) (e0 : s[i]? = some (.ow x0)) (ex : x0 = .lst ds) (e2 : evs (call p.T p.G n) p.G es s = some xs) (e3 : omD m ds xs = some (ds', d))
    (q : ∀ v H1 a vs', Same H H1 → σ[i]? = some (some (.ref a)) → Rs p.K p.FA (gd S H1) vs' ds' → R p.K p.FA (gd S H1) v d → Q v (L2.upd H1 a (.lst vs'))) : tBM p.K "list" (omR m) (tVar i) t σ H Q := by
  subst ex
  obtain ⟨a, vs, es', e4, h1, h2, h3, h4⟩ := hs.sr.ow i _ e0
  cases e4
  refine ⟨_, h1, Or.inl ⟨rfl, _, Or.inl (Or.inl h3)⟩, ?_⟩
  refine st s xs S H σ _ e2 hs.sr fun us H1 m1 _ rs => ?_
  exact om_ok e3 (m1 _ _ h3) gd_sub (h4.mono (gd_mono m1)) (rs hal) fun vs' v r1 r2 => q v H1 a vs' m1 h1 r1 r2
theorem good_mth {i : Nat} {m : OM} {es : List E} {y : Str} {py apos cpos pos : Pos} {xs : List Expr} (hN : N[i]? = some y) (hv : visB sc y = true) (hk : omOk m xs.length = true) (hst : xs.all notStar = true) (ha : GoodA p n N sc es xs) (he : xs = [] → es = []) (hal : es.all (!al ·) = true) (hl : (apos.endLine == cpos.line) = true) :
    GoodS p n N sc fresh (.mth i m es) (.Expr (.Call (.Attribute (.Name y py) (omN m) apos) xs [] cpos) pos) := by
  obtain ⟨t, pt, st, h0⟩ := goodA_nil ha he
  refine ⟨tDrop (tBM p.K "list" (omR m) (tVar i) t), fun X hx => ?_, fun s o H0 S0 S H σ D e' d0 hs q => ?_⟩
  · refine ps_expr ?_
    rw [← hx.xf.K]
    exact omPE hk hl hst (good_name hN hv X hx.xf) (pt X hx.xf) h0
  · unfold ex at e'
    obtain ⟨x0, e1, e'⟩ := Option.bind_eq_some_iff.mp e'
    obtain ⟨sl, e0, e1⟩ := Option.bind_eq_some_iff.mp e1
    obtain ⟨ds, e2, e'⟩ := Option.bind_eq_some_iff.mp e'
    cases sl <;> cases e1
    split at e'
    · obtain ⟨⟨ds', d⟩, e3, rfl⟩ := Option.map_eq_some_iff.mp e'
      refine om_sat st hal hs e0 rfl e2 e3 fun v H1 a vs' m1 h1 r1 r2 => ?_
      obtain ⟨k1, k2⟩ := (hs.mono m1).upd e0 h1 r1
      exact q S σ _ k1 ((gd_mono m1).trans k2)
    · cases e'
theorem good_mthx (nd : N.Nodup) {j i : Nat} {m : OM} {es : List E} {y z : Str} {py pz apos cpos pos : Pos} {xs : List Expr} (hz : nmB N sc j z = true) (hij : i ≠ j) (hN : N[i]? = some y) (hv : visB sc y = true) (hk : omOk m xs.length = true) (hst : xs.all notStar = true) (ha : GoodA p n N sc es xs) (he : xs = [] → es = []) (hal : es.all (!al ·) = true) (hl : (apos.endLine == cpos.line) = true) :
    GoodS p n N sc fresh (.mthx j i m es) (.Assign [.Name z pz] (.Call (.Attribute (.Name y py) (omN m) apos) xs [] cpos) pos) := by
  obtain ⟨t, pt, st, h0⟩ := goodA_nil ha he
  obtain ⟨hN', hl'⟩ := ba hz
  have hN' := of_decide_eq_true hN'
  refine ⟨tAsg (tBM p.K "list" (omR m) (tVar i) t) (gName j), fun X hx => ?_, fun s o H0 S0 S H σ D e' d0 hs q => ?_⟩
  · refine ps_set (by rw [hx.xf.N]; exact nd) (by rw [hx.xf.N]; exact hN') (by rw [hx.xf.sc]; exact loc_of hl') ?_ (swaps_no rfl) (.inl (hx.fn _))
    rw [← hx.xf.K]
    exact omPE hk hl hst (good_name hN hv X hx.xf) (pt X hx.xf) h0
  · unfold ex at e'
    obtain ⟨x0, e1, e'⟩ := Option.bind_eq_some_iff.mp e'
    obtain ⟨sl, e0, e1⟩ := Option.bind_eq_some_iff.mp e1
    obtain ⟨ds, e2, e'⟩ := Option.bind_eq_some_iff.mp e'
    cases sl <;> cases e1
    split at e'
    · obtain ⟨⟨ds', d⟩, e3, rfl⟩ := Option.map_eq_some_iff.mp e'
      refine om_sat st hal hs e0 rfl e2 e3 fun v H1 a vs' m1 h1 r1 r2 => ?_
      obtain ⟨k1, k2⟩ := (hs.mono m1).upd e0 h1 r1
      exact q S _ _ (k1.set (r2.mono k2)) ((gd_mono m1).trans k2)
    · cases e'
theorem asg_sub {ox ix : Expr} {env : PySem.Env} {pos : Pos} (h : notSlice ix = true) (v : Value) : assign (.Subscript ox ix pos) env v = (do
      let ov ← holding [v] (eval ox env)
      let iv ← holding [v, ov] (eval ix env)
      standAt pos
      holding [v, ov, iv] (setItem ov iv v)
      release [v, ov, iv] []) := by
  cases ix <;> first | (cases h; done) | rfl
theorem good_sets {i : Nat} {k e : E} {y : Str} {py q1 pos : Pos} {kx x : Expr} (hN : N[i]? = some y) (hv : visB sc y = true) (hsl : notSlice kx = true) (hk : GoodE p n N sc k kx) (he : GoodE p n N sc e x) (ha : al e = false) (hc : isComp x = false) :
    GoodS p n N sc fresh (.sets i k e) (.Assign [.Subscript (.Name y py) kx q1] x pos) := by
  obtain ⟨te, pe, se⟩ := he.get ha
  obtain ⟨tk, pk, sk⟩ := hk
  refine ⟨tAsg te (gSub (tVar i) tk rSetL), fun X hx => ps_asg (pe X hx.xf) (pg_sub (good_name hN hv X hx.xf) (pk X hx.xf) set_list (asg_sub hsl)) (swSole hc) swStores2, fun s o H0 S0 S H σ D e' d0 hs q => ?_⟩
  unfold ex at e'
  obtain ⟨x0, e1, e'⟩ := Option.bind_eq_some_iff.mp e'
  obtain ⟨sl, e0, e1⟩ := Option.bind_eq_some_iff.mp e1
  obtain ⟨d, e2, e'⟩ := Option.bind_eq_some_iff.mp e'
  obtain ⟨kd, e3, e'⟩ := Option.bind_eq_some_iff.mp e'
  cases sl <;> cases e1
  obtain ⟨a, vs, xs, rfl, h1, h2, h3, h4⟩ := hs.sr.ow i _ e0
  split at e'
  · rename_i q0
    cases q0
    obtain ⟨j, e4, rfl⟩ := Option.map_eq_some_iff.mp e'
    refine se s d S H σ _ e2 hs.sr fun v H1 m1 r _ => ⟨_, h1, ?_⟩
    refine sk s _ S H1 σ _ e3 (hs.sr.mono m1) fun u H2 m2 ru _ _ => ?_
    refine ⟨a, vs, _, j, rfl, ru.int, (m1.trans m2) _ _ h3, by rw [h4.length]; exact e4, ?_⟩
    obtain ⟨k1, k2⟩ := (hs.mono (m1.trans m2)).upd e0 h1 ((h4.mono (gd_mono (m1.trans m2))).set j (r.mono (gd_mono m2)))
    exact q S σ _ k1 ((gd_mono (m1.trans m2)).trans k2)
  · cases e'
theorem good_ret {e : E} {x : Expr} {pos : Pos} (he : GoodE p n N sc e x) (ha : al e = false) (hf : (!fresh || fr p.T e) = true) : GoodS p n N sc fresh (.ret e) (.Return (some x) pos) := by
  obtain ⟨te, pe, se⟩ := he.get ha
  refine ⟨_, fun X hx => ps_ret (pe X hx.xf), fun s o H0 S0 S H σ D e' d0 hs q => ?_⟩
  unfold ex at e'
  obtain ⟨d, e1, rfl⟩ := Option.map_eq_some_iff.mp e'
  refine se s d S H σ _ e1 hs.sr fun v H1 m1 r f => q v H1 (hs.same.trans m1) (r.mono (gd_anti hs.sub)) fun z => ?_
  rw [z] at hf
  intro ds e2
  obtain ⟨a, vs, k1, k2, k3, k4⟩ := f (by simpa using hf) ds e2
  exact ⟨a, vs, k1, hs.same.free k2, k3, k4.mono (gd_anti fun b hb => hb.elim (fun z => .inl (hs.sub b z)) .inr)⟩
theorem good_reto {i : Nat} {y : Str} {py pos : Pos} (hN : N[i]? = some y) (hv : visB sc y = true) : GoodS p n N sc fresh (.reto i) (.Return (some (.Name y py)) pos) := by
  refine ⟨_, fun X hx => ps_ret (good_name hN hv X hx.xf), fun s o H0 S0 S H σ D e' d0 hs q => ?_⟩
  unfold ex at e'
  obtain ⟨x0, e1, rfl⟩ := Option.map_eq_some_iff.mp e'
  obtain ⟨sl, e0, e1⟩ := Option.bind_eq_some_iff.mp e1
  cases sl <;> cases e1
  obtain ⟨a, vs, xs, rfl, h1, h2, h3, h4⟩ := hs.sr.ow i _ e0
  have hn := hs.new i _ a e0 h1
  have ns : ¬ S0 a := fun z => d0.nn z hn
  refine ⟨_, h1, q _ H hs.same (.lst (gd_of ns h3) (h4.mono (gd_anti hs.sub))) fun _ ds e2 => ?_⟩
  cases e2
  exact ⟨a, vs, rfl, hn, h3, h4.mono (gd_anti fun b hb => hb.elim (hs.sub b) fun z => by rw [z]; exact h2)⟩
theorem good_retn {pos : Pos} : GoodS p n N sc fresh .retn (.Return none pos) :=
  ⟨_, fun X hx => ps_retN, fun s o H0 S0 S H σ D e' d0 hs q => by
    unfold ex at e'
    cases e'
    exact q _ H hs.same .non fun _ => Fr.no fun _ e => by cases e⟩
theorem good_iff {c : E} {a b : List PL.S} {x : Expr} {xs ys : List Stmt} {pos : Pos} (hc : GoodT p n N sc c x) (ha : GoodSs p n N sc fresh a xs) (hb : GoodSs p n N sc fresh b ys) : GoodS p n N sc fresh (.iff c a b) (.If x xs ys pos) := by
  obtain ⟨tc, pc, sc'⟩ := hc
  obtain ⟨ta, pa, sa⟩ := ha
  obtain ⟨tb, pb, sb⟩ := hb
  refine ⟨_, fun X hx => ps_if (pc X hx.xf) (pa X hx) (pb X hx), fun s o H0 S0 S H σ D e' d0 hs q => ?_⟩
  unfold ex at e'
  obtain ⟨k, e1, e'⟩ := Option.bind_eq_some_iff.mp e'
  split at e'
  · refine sc' s _ S H σ _ e1 hs.sr fun H1 m1 => ?_
    rw [if_pos rfl]
    exact sa s o H0 S0 S H1 σ D e' d0 (hs.mono m1) (q.move (gd_mono m1))
  · refine sc' s _ S H σ _ e1 hs.sr fun H1 m1 => ?_
    rw [if_neg Bool.false_ne_true]
    exact sb s o H0 S0 S H1 σ D e' d0 (hs.mono m1) (q.move (gd_mono m1))
  · cases e'
theorem good_whl {c : E} {b : List PL.S} {x : Expr} {xs : List Stmt} {pos : Pos} (hc : GoodT p n N sc c x) (hb : GoodSs p n N sc fresh b xs) : GoodS p n N sc fresh (.whl c b) (.While x xs [] pos) := by
  obtain ⟨tc, pc, sc'⟩ := hc
  obtain ⟨tb, pb, sb⟩ := hb
  refine ⟨_, fun X hx => ps_while (xe_pass hx.xf) (pc X hx.xf) (pb X hx), fun s o H0 S0 S H σ D e' d0 hs q => ?_⟩
  unfold ex at e'
  refine ⟨fun m σ' H' => ∃ S' s', SS p H0 S0 S' H' σ' s' ∧ Same (gd S H) (gd S' H') ∧ whlD (ev (call p.T p.G n) p.G c) (exs (call p.T p.G n) p.G b) m s' = some o, ⟨fuel, S, s, hs, Same.refl _, e'⟩, ?_⟩
  rintro m σ' H' ⟨S', s', hs', mg, e⟩
  cases m with
  | zero => cases e
  | succ m =>
    unfold whlD at e
    obtain ⟨k, e1, e⟩ := Option.bind_eq_some_iff.mp e
    split at e
    · obtain ⟨o2, e2, e⟩ := Option.bind_eq_some_iff.mp e
      refine sc' s' _ S' H' σ' _ e1 hs'.sr fun H1 m1 => ?_
      rw [if_pos rfl]
      have hg1 : Same (gd S H) (gd S' H1) := mg.trans (gd_mono m1)
      refine ⟨fun σ2 H2 => ∃ S2 s2, SS p H0 S0 S2 H2 σ2 s2 ∧ Same (gd S H) (gd S2 H2) ∧ whlD (ev (call p.T p.G n) p.G c) (exs (call p.T p.G n) p.G b) m s2 = some o, fun σ2 H2 h => ⟨m, Nat.lt_succ_self _, h⟩, ?_⟩
      refine sb s' o2 H0 S0 S' H1 σ' _ e2 d0 (hs'.mono m1) ?_
      cases o2 with
      | nx s2 => exact fun S2 σ2 H2 h2 m2 => ⟨S2, s2, h2, hg1.trans m2, e⟩
      | ct s2 => exact fun S2 σ2 H2 h2 m2 => ⟨S2, s2, h2, hg1.trans m2, e⟩
      | bk s2 =>
        cases e
        exact fun S2 σ2 H2 h2 m2 => q S2 σ2 H2 h2 (hg1.trans m2)
      | rt d s2 =>
        cases e
        exact q
    · cases e
      refine sc' s' _ S' H' σ' _ e1 hs'.sr fun H1 m1 => ?_
      rw [if_neg Bool.false_ne_true]
      exact q S' σ' H1 (hs'.mono m1) (mg.trans (gd_mono m1))
    · cases e
theorem for_wk {J : It} {vs : List V} {P : Hp → Prop} (W : Wk J vs P) {g : TG} {tb : TS} {D : Ends} {σ : L2.St} {H : Hp} (Pv : Nat → L2.St → Hp → Prop) (h0 : Pv 0 σ H) (hP : ∀ i σ H, Pv i σ H → P H)
    (hs : ∀ i x σ H, vs[i]? = some x → Pv i σ H → g x σ H fun σ2 H2 => tb { D with nx := Pv (i + 1), ct := Pv (i + 1), bk := D.nx } σ2 H2) (hd : ∀ σ H, Pv vs.length σ H → D.nx σ H) :
    ∃ W : Nat → Nat → L2.St → Hp → Prop, (∃ m, W 0 m σ H) ∧ ∀ i m σ H, W i m σ H →
      (J.stop i H ∧ D.nx σ H) ∨ (J.go i H ∧ ∃ N : L2.St → Hp → Prop, (∀ σ' H', N σ' H' → ∃ m', m' < m ∧ W (i + 1) m' σ' H') ∧ ∀ x H', J.yld i H x H' → g x σ H' fun σ2 H2 => tb { D with nx := N, ct := N, bk := D.nx } σ2 H2) := by
  refine ⟨fun i m σ H => m = vs.length - i ∧ i ≤ vs.length ∧ Pv i σ H, ⟨vs.length, by simp, Nat.zero_le _, h0⟩, ?_⟩
  rintro i m σ H ⟨rfl, hi, q⟩
  by_cases hlt : i < vs.length
  · refine .inr ⟨W.go i H (hP i σ H q) hlt, Pv (i + 1), fun σ' H' p' => ⟨vs.length - (i + 1), by omega, rfl, hlt, p'⟩, fun x H' y => ?_⟩
    obtain ⟨e, y2⟩ := W.yld i H x H' (hP i σ H q) hlt y
    subst e
    exact hs i x σ _ y2 q
  · have e : i = vs.length := by omega
    subst e
    exact .inl ⟨W.stop H (hP _ σ H q), hd σ H q⟩
theorem good_forAny (nd : N.Nodup) {is : List Nat} {l : PL.S} {b : List PL.S} {tg iter : Expr} {xs : List Stmt} {pos : Pos} {f : Env → Option (List PL.D)} (h1 : chkTg N sc is tg = true) (hn : notSet iter = true)
    (hi : ∃ t : TI, (∀ X, XF p n N sc X → PI X tg iter t) ∧ SatI p n t false f) (hb : GoodSs p n N sc fresh b xs)
    (hev : ∀ s o, ex (call p.T p.G n) p.G l s = some o → ∃ ds, f s = some ds ∧ forD (tgD is) (exs (call p.T p.G n) p.G b) ds s = some o) : GoodS p n N sc fresh l (.For tg iter xs [] pos) := by
  obtain ⟨wi, pi, si⟩ := hi
  obtain ⟨tb, pb, sb⟩ := hb
  refine ⟨tFor wi (gOf p.K is) tb, fun X hx => ps_for (xe_pass hx.xf) hx.xf.calm (pi X hx.xf) (hx.pg nd h1) (pb X hx) (folded_ok hn), fun s o H0 S0 S H σ D e' d0 hs q => ?_⟩
  obtain ⟨ds, e1, e2⟩ := hev s o e'
  refine si s ds S H σ _ e1 hs.sr fun J vs P H1 m1 W _ hp rs => ?_
  have mg1 : Same (gd S H) (gd S H1) := gd_mono m1
  refine for_wk W (fun i σ' H' => ∃ S' s', SS p H0 S0 S' H' σ' s' ∧ Same (gd S H1) (gd S' H') ∧ forD (tgD is) (exs (call p.T p.G n) p.G b) (ds.drop i) s' = some o) ⟨S, s, hs.mono m1, Same.refl _, by simpa using e2⟩ (fun i σ' H' ⟨S', s', _, m, _⟩ => hp rfl S' H' m) ?_ ?_
  · rintro i x σ' H' hi ⟨S', s', hs', m, e⟩
    obtain ⟨dx, hdx, rx⟩ := rs.get' hi
    have hdrop : ds.drop i = dx :: ds.drop (i + 1) := by
      obtain ⟨h1, h2⟩ := List.getElem?_eq_some_iff.mp hdx
      rw [← h2]
      exact List.drop_eq_getElem_cons h1
    rw [hdrop] at e
    unfold forD at e
    obtain ⟨s1, e3, e⟩ := Option.bind_eq_some_iff.mp e
    obtain ⟨o2, e4, e⟩ := Option.bind_eq_some_iff.mp e
    refine tg_ss e3 (rx.mono m) hs' fun σ2 h2 => ?_
    refine sb s1 o2 H0 S0 S' H' σ2 _ e4 d0 h2 ?_
    cases o2 with
    | nx s2 => exact fun S2 σ3 H3 h3 m3 => ⟨S2, s2, h3, m.trans m3, e⟩
    | ct s2 => exact fun S2 σ3 H3 h3 m3 => ⟨S2, s2, h3, m.trans m3, e⟩
    | bk s2 =>
      cases e
      exact fun S2 σ3 H3 h3 m3 => q S2 σ3 H3 h3 (mg1.trans (m.trans m3))
    | rt d s2 =>
      cases e
      exact q
  · rintro σ' H' ⟨S', s', hs', m, e⟩
    have hz2 : ds.drop vs.length = [] := by rw [rs.length]; exact List.drop_length
    rw [hz2] at e
    cases e
    exact q S' σ' H' hs' (mg1.trans m)
theorem good_seq {a : PL.S} {r : List PL.S} {x : Stmt} {xs : List Stmt} (ha : GoodS p n N sc fresh a x) (hr : GoodSs p n N sc fresh r xs) : GoodSs p n N sc fresh (a :: r) (x :: xs) := by
  obtain ⟨ta, pa, sa⟩ := ha
  obtain ⟨tr, pr, sr⟩ := hr
  refine ⟨_, fun X hx => pss_cons (pa X hx) (pr X hx), fun s o H0 S0 S H σ D e' d0 hs q => ?_⟩
  unfold exs at e'
  obtain ⟨o1, e1, e'⟩ := Option.bind_eq_some_iff.mp e'
  refine sa s o1 H0 S0 S H σ _ e1 d0 hs ?_
  cases o1 with
  | nx s2 => exact fun S2 σ2 H2 h2 m2 => sr s2 o H0 S0 S2 H2 σ2 D e' d0 h2 (q.move m2)
  | bk s2 => cases e'; exact q
  | ct s2 => cases e'; exact q
  | rt d s2 => cases e'; exact q
theorem good_share {i : Nat} {r : List PL.S} {xs : List Stmt} (hr : GoodSs p n N sc fresh r xs) : GoodSs p n N sc fresh (.share i :: r) xs := by
  obtain ⟨tr, pr, sr⟩ := hr
  refine ⟨tr, pr, fun s o H0 S0 S H σ D e' d0 hs q => ?_⟩
  unfold exs at e'
  obtain ⟨o1, e1, e'⟩ := Option.bind_eq_some_iff.mp e'
  unfold ex at e1
  obtain ⟨x0, e2, rfl⟩ := Option.map_eq_some_iff.mp e1
  obtain ⟨sl, e0, e3⟩ := Option.bind_eq_some_iff.mp e2
  clear e1 e2
  cases sl <;> cases e3
  obtain ⟨a, vs, ds, rfl, h1, h2, h3, h4⟩ := hs.sr.ow i _ e0
  have hn := hs.new i _ a e0 h1
  have mg : Same (gd S H) (gd (fun b => S b ∧ b ≠ a) H) := gd_anti fun b hb => hb.1
  have hi : i < s.length := (List.getElem?_eq_some_iff.mp e0).1
  refine sr _ o H0 S0 (fun b => S b ∧ b ≠ a) H σ D e' d0 ⟨⟨by rw [List.length_set]; exact hs.sr.len, fun b hb => hs.sr.dom b hb.1, fun j e hj => ?_, fun j e hj => ?_, fun j k e e' b hjk hj hk hb => ?_⟩, hs.same, fun b hb => ⟨hs.sub b hb, fun z => d0.nn hb (by rw [z]; exact hn)⟩, fun j e b hj hb => ?_⟩ (q.move mg)
  · rw [List.getElem?_set] at hj
    by_cases w : i = j
    · rw [if_pos w, if_pos hi] at hj
      cases hj
      subst w
      exact ⟨_, h1, .lst (gd_of (fun z => z.2 rfl) h3) (h4.mono mg)⟩
    · rw [if_neg w] at hj
      obtain ⟨v, h1, h2⟩ := hs.sr.sh j e hj
      exact ⟨v, h1, h2.mono mg⟩
  · rw [List.getElem?_set] at hj
    by_cases w : i = j
    · rw [if_pos w] at hj
      split at hj <;> cases hj
    · rw [if_neg w] at hj
      obtain ⟨b, ws', es', q1, q2, q3, q4, q5⟩ := hs.sr.ow j e hj
      exact ⟨b, ws', es', q1, q2, ⟨q3, fun z => hs.sr.ap i j _ _ a w e0 hj h1 (by rw [q2, z])⟩, q4, q5.mono mg⟩
  · rw [List.getElem?_set] at hj hk
    by_cases w : i = j
    · rw [if_pos w] at hj
      split at hj <;> cases hj
    · rw [if_neg w] at hj
      by_cases w2 : i = k
      · rw [if_pos w2] at hk
        split at hk <;> cases hk
      · rw [if_neg w2] at hk
        exact hs.sr.ap j k _ _ b hjk hj hk hb
  · rw [List.getElem?_set] at hj
    by_cases w : i = j
    · rw [if_pos w] at hj
      split at hj <;> cases hj
    · rw [if_neg w] at hj
      exact hs.new j e b hj hb
theorem good_snil : GoodSs p n N sc fresh [] [] := ⟨_, fun X _ => pss_nil, fun s o H0 S0 S H σ D e' d0 hs q => by
  unfold exs at e'
  cases e'
  exact q S σ H hs (Same.refl _)⟩
end
end PL

/-! PL11: statements as a whole; defs; the program. -/
namespace PL
open PySem PySem.Spec L2
section
variable {p : Pr} {n : Nat} {N : List Str} {sc : Scope} {fresh : Bool} {x : Stmt}
theorem bnot {b : Bool} (h : (!b) = true) : b = false := by simpa using h
def isStar : Expr → Bool
  | .Starred _ _ => true
  | _ => false
theorem assign1 {e : Expr} (h : isStar e = false) (env : PySem.Env) : (assignEach [e] env).map (·.2) = [assign e env] := by
  cases e <;> first | rfl | cases h
theorem tgSt {is : List Nat} {tg : Expr} (h : chkTg N sc is tg = true) : isStar tg = false := by
  cases tg <;> first | rfl | skip
  rcases is with _ | ⟨i, _ | ⟨j, is⟩⟩ <;> (unfold chkTg at h; cases h)
theorem chk_set {i : Nat} {e : E} (h : chkS p.t N sc fresh (.set i e) x = true) : ∃ y py v pos, x = .Assign [.Name y py] v pos ∧ nmB N sc i y = true ∧ chkE p.t N sc e v = true ∧ al e = false ∧ ((!isComp v && !isLc e) || (isLc e && swB sc y py v)) = true := by
  cases x <;> first | (unfold chkS at h; cases h; done) | skip
  rename_i ts v pos
  rcases ts with _ | ⟨t, _ | ⟨t2, ts⟩⟩ <;> first
    | (unfold chkS at h; cases h; done)
    | (cases t <;> first | (unfold chkS at h; cases h; done) | skip)
  unfold chkS at h
  obtain ⟨h1, h⟩ := ba h
  obtain ⟨h2, h⟩ := ba h
  obtain ⟨h3, h4⟩ := ba h
  exact ⟨_, _, _, _, rfl, h1, h2, bnot h3, h4⟩
theorem chk_seto {i : Nat} {e : E} (h : chkS p.t N sc fresh (.seto i e) x = true) : ∃ y py v pos, x = .Assign [.Name y py] v pos ∧ nmB N sc i y = true ∧ chkE p.t N sc e v = true ∧ fr p.T e = true ∧ al e = false ∧ ((!isComp v && !isLc e) || (isLc e && swB sc y py v)) = true := by
  cases x <;> first | (unfold chkS at h; cases h; done) | skip
  rename_i ts v pos
  rcases ts with _ | ⟨t, _ | ⟨t2, ts⟩⟩ <;> first
    | (unfold chkS at h; cases h; done)
    | (cases t <;> first | (unfold chkS at h; cases h; done) | skip)
  unfold chkS at h
  obtain ⟨h1, h⟩ := ba h
  obtain ⟨h2, h⟩ := ba h
  obtain ⟨h3, h⟩ := ba h
  obtain ⟨h4, h5⟩ := ba h
  exact ⟨_, _, _, _, rfl, h1, h2, h3, bnot h4, h5⟩
theorem chk_unp {is : List Nat} {e : E} (h : chkS p.t N sc fresh (.unp is e) x = true) : ∃ tg v pos, x = .Assign [tg] v pos ∧ chkTg N sc is tg = true ∧ isComp v = false ∧ isTup v = false ∧ chkE p.t N sc e v = true ∧ al e = false := by
  cases x <;> first | (unfold chkS at h; cases h; done) | skip
  rename_i ts v pos
  rcases ts with _ | ⟨t, _ | ⟨t2, ts⟩⟩ <;> first
    | (unfold chkS at h; cases h; done)
    | skip
  · unfold chkS at h
    obtain ⟨h0, h⟩ := ba h
    obtain ⟨h1, h⟩ := ba h
    obtain ⟨h2, h⟩ := ba h
    obtain ⟨h3, h⟩ := ba h
    obtain ⟨h4, h5⟩ := ba h
    exact ⟨_, _, _, rfl, h1, bnot h2, bnot h3, h4, bnot h5⟩
theorem chk_aug {i : Nat} {o : B1} {e : E} (h : chkS p.t N sc fresh (.aug i o e) x = true) : ∃ y py op v pos, x = .AugAssign (.Name y py) op v pos ∧ nmB N sc i y = true ∧ augB o = true ∧ opEq (pyOp o) op = true ∧ chkE p.t N sc e v = true := by
  cases x <;> first | (unfold chkS at h; cases h; done) | skip
  rename_i t op v pos
  cases t <;> first | (unfold chkS at h; cases h; done) | skip
  unfold chkS at h
  obtain ⟨h1, h⟩ := ba h
  obtain ⟨h2, h⟩ := ba h
  obtain ⟨h3, h4⟩ := ba h
  exact ⟨_, _, _, _, _, rfl, h1, h2, h3, h4⟩
theorem chk_expr {e : E} (h : chkS p.t N sc fresh (.expr e) x = true) : ∃ v pos, x = .Expr v pos ∧ chkE p.t N sc e v = true ∧ isComp v = false := by
  cases x <;> first | (unfold chkS at h; cases h; done) | skip
  unfold chkS at h
  exact ⟨_, _, rfl, (ba h).1, bnot (ba h).2⟩
theorem chk_app {i : Nat} {e : E} (h : chkS p.t N sc fresh (.app i e) x = true) : ∃ y py apos v cpos pos, x = .Expr (.Call (.Attribute (.Name y py) (Str.ofString "append") apos) [v] [] cpos) pos ∧ N[i]? = some y ∧ visB sc y = true ∧ notStar v = true ∧ chkE p.t N sc e v = true ∧ al e = false ∧ (apos.endLine == cpos.line) = true := by
  cases x <;> first | (unfold chkS at h; cases h; done) | skip
  rename_i c pos
  cases c <;> first | (unfold chkS at h; cases h; done) | skip
  rename_i f as ks cpos
  cases f <;> first | (unfold chkS at h; cases h; done) | skip
  rename_i o m apos
  cases o <;> first | (unfold chkS at h; cases h; done) | skip
  rcases as with _ | ⟨v, _ | ⟨v2, as⟩⟩ <;> first | (unfold chkS at h; cases h; done) | skip
  cases ks <;> first | (unfold chkS at h; cases h; done) | skip
  unfold chkS at h
  obtain ⟨h1, k1⟩ := ba h
  obtain ⟨h2, k2⟩ := ba k1
  obtain ⟨h3, k3⟩ := ba k2
  obtain ⟨h4, k4⟩ := ba k3
  obtain ⟨h5, k5⟩ := ba k4
  obtain ⟨h6, h7⟩ := ba k5
  have e := of_decide_eq_true h3
  clear h k1 k2 h3
  subst e
  exact ⟨_, _, _, _, _, _, rfl, of_decide_eq_true h1, h2, h4, h5, bnot h6, h7⟩
theorem chk_mthB {i : Nat} {m : OM} {es : List E} {v : Expr} (h : mthB p.t N sc i m es v = true) : ∃ y py apos xs cpos, v = .Call (.Attribute (.Name y py) (omN m) apos) xs [] cpos ∧ N[i]? = some y ∧ visB sc y = true ∧ omOk m xs.length = true ∧ chkEs p.t N sc es xs = true ∧ es.all (!al ·) = true ∧ (apos.endLine == cpos.line) = true := by
  unfold mthB at h
  split at h
  · obtain ⟨h1, k1⟩ := ba h
    obtain ⟨h2, k2⟩ := ba k1
    obtain ⟨h3, k3⟩ := ba k2
    obtain ⟨h4, k4⟩ := ba k3
    obtain ⟨h5, k5⟩ := ba k4
    obtain ⟨h6, h7⟩ := ba k5
    cases of_decide_eq_true h3
    exact ⟨_, _, _, _, _, rfl, of_decide_eq_true h1, h2, h4, h5, h6, h7⟩
  · cases h
theorem chk_mth {i : Nat} {m : OM} {es : List E} (h : chkS p.t N sc fresh (.mth i m es) x = true) : ∃ v pos, x = .Expr v pos ∧ mthB p.t N sc i m es v = true := by
  cases x <;> first | (unfold chkS at h; cases h; done) | skip
  unfold chkS at h
  exact ⟨_, _, rfl, h⟩
theorem chk_mthx {j i : Nat} {m : OM} {es : List E} (h : chkS p.t N sc fresh (.mthx j i m es) x = true) : ∃ z pz v pos, x = .Assign [.Name z pz] v pos ∧ nmB N sc j z = true ∧ i ≠ j ∧ mthB p.t N sc i m es v = true := by
  cases x <;> first | (unfold chkS at h; cases h; done) | skip
  rename_i ts v pos
  rcases ts with _ | ⟨t, _ | ⟨t2, ts⟩⟩ <;> first
    | (unfold chkS at h; cases h; done)
    | (cases t <;> first | (unfold chkS at h; cases h; done) | skip)
  unfold chkS at h
  obtain ⟨h1, h⟩ := ba h
  obtain ⟨h2, h3⟩ := ba h
  exact ⟨_, _, _, _, rfl, h1, of_decide_eq_true h2, h3⟩
theorem chk_sets {i : Nat} {k e : E} (h : chkS p.t N sc fresh (.sets i k e) x = true) : ∃ y py kx q v pos, x = .Assign [.Subscript (.Name y py) kx q] v pos ∧ N[i]? = some y ∧ visB sc y = true ∧ notSlice kx = true ∧ chkE p.t N sc k kx = true ∧ chkE p.t N sc e v = true ∧ al e = false ∧ isComp v = false := by
  cases x <;> first | (unfold chkS at h; cases h; done) | skip
  rename_i ts v pos
  rcases ts with _ | ⟨t, _ | ⟨t2, ts⟩⟩ <;> first
    | (unfold chkS at h; cases h; done)
    | (cases t <;> first | (unfold chkS at h; cases h; done) | skip)
  · rename_i o kx q
    cases o <;> first | (unfold chkS at h; cases h; done) | skip
    unfold chkS at h
    obtain ⟨h1, h⟩ := ba h
    obtain ⟨h2, h⟩ := ba h
    obtain ⟨h3, h⟩ := ba h
    obtain ⟨h4, h⟩ := ba h
    obtain ⟨h5, h⟩ := ba h
    obtain ⟨h6, h7⟩ := ba h
    exact ⟨_, _, _, _, _, _, rfl, of_decide_eq_true h1, h2, h3, h4, h5, bnot h6, bnot h7⟩
  all_goals (rename_i o kx q; cases o <;> (unfold chkS at h; cases h))
theorem chk_ret {e : E} (h : chkS p.t N sc fresh (.ret e) x = true) : ∃ v pos, x = .Return (some v) pos ∧ chkE p.t N sc e v = true ∧ al e = false ∧ (!fresh || fr p.T e) = true := by
  cases x <;> first | (unfold chkS at h; cases h; done) | skip
  rename_i v pos
  cases v <;> first | (unfold chkS at h; cases h; done) | skip
  unfold chkS at h
  exact ⟨_, _, rfl, (ba h).1, bnot (ba (ba h).2).1, (ba (ba h).2).2⟩
theorem chk_reto {i : Nat} (h : chkS p.t N sc fresh (.reto i) x = true) : ∃ y py pos, x = .Return (some (.Name y py)) pos ∧ N[i]? = some y ∧ visB sc y = true := by
  cases x <;> first | (unfold chkS at h; cases h; done) | skip
  rename_i v pos
  cases v <;> first | (unfold chkS at h; cases h; done) | skip
  rename_i v
  cases v <;> first | (unfold chkS at h; cases h; done) | skip
  unfold chkS at h
  exact ⟨_, _, _, rfl, of_decide_eq_true (ba h).1, (ba h).2⟩
theorem chk_retn (h : chkS p.t N sc fresh .retn x = true) : ∃ pos, x = .Return none pos := by
  cases x <;> first | (unfold chkS at h; cases h; done) | skip
  rename_i v pos
  cases v <;> first | (unfold chkS at h; cases h; done) | skip
  exact ⟨_, rfl⟩
theorem chk_iff {c : E} {a b : List PL.S} (h : chkS p.t N sc fresh (.iff c a b) x = true) : ∃ v xs ys pos, x = .If v xs ys pos ∧ tst c = true ∧ chkE p.t N sc c v = true ∧ chkSs p.t N sc fresh a xs = true ∧ chkSs p.t N sc fresh b ys = true := by
  cases x <;> first | (unfold chkS at h; cases h; done) | skip
  unfold chkS at h
  exact ⟨_, _, _, _, rfl, (ba h).1, (ba (ba h).2).1, ba (ba (ba h).2).2⟩
theorem chk_whl {c : E} {b : List PL.S} (h : chkS p.t N sc fresh (.whl c b) x = true) : ∃ v xs pos, x = .While v xs [] pos ∧ tst c = true ∧ chkE p.t N sc c v = true ∧ chkSs p.t N sc fresh b xs = true := by
  cases x <;> first | (unfold chkS at h; cases h; done) | skip
  rename_i v xs ys pos
  cases ys <;> first | (unfold chkS at h; cases h; done) | skip
  unfold chkS at h
  exact ⟨_, _, _, rfl, (ba h).1, ba (ba h).2⟩
theorem chk_for {is : List Nat} {it : E} {b : List PL.S} (h : chkS p.t N sc fresh (.for_ is it b) x = true) : ∃ tg v xs pos, x = .For tg v xs [] pos ∧ chkTg N sc is tg = true ∧ notSet v = true ∧ chkE p.t N sc it v = true ∧ al it = false ∧ chkSs p.t N sc fresh b xs = true := by
  cases x <;> first | (unfold chkS at h; cases h; done) | skip
  rename_i tg v xs ys pos
  cases ys <;> first | (unfold chkS at h; cases h; done) | skip
  unfold chkS at h
  obtain ⟨h1, h⟩ := ba h
  obtain ⟨h2, h⟩ := ba h
  obtain ⟨h3, h⟩ := ba h
  obtain ⟨h4, h5⟩ := ba h
  exact ⟨_, _, _, _, rfl, h1, h2, h3, bnot h4, h5⟩
theorem chk_forr {i : Nat} {es : List E} {b : List PL.S} (h : chkS p.t N sc fresh (.forr i es b) x = true) : ∃ tg q ys q2 xs pos, x = .For tg (.Call (.Name (Str.ofString "range") q) ys [] q2) xs [] pos ∧ chkTg N sc [i] tg = true ∧ gloB sc (Str.ofString "range") = true ∧ chkEs p.t N sc es ys = true ∧ (ys.length = 1 ∨ ys.length = 2) ∧ chkSs p.t N sc fresh b xs = true := by
  cases x <;> first | (unfold chkS at h; cases h; done) | skip
  rename_i tg v xs zs pos
  cases v <;> first | (unfold chkS at h; cases h; done) | skip
  rename_i f ys ks q2
  cases f <;> first | (unfold chkS at h; cases h; done) | skip
  cases ks <;> first | (unfold chkS at h; cases h; done) | skip
  cases zs <;> first | (unfold chkS at h; cases h; done) | skip
  unfold chkS at h
  obtain ⟨h1, k1⟩ := ba h
  obtain ⟨h2, k2⟩ := ba k1
  obtain ⟨h3, k3⟩ := ba k2
  obtain ⟨h4, k4⟩ := ba k3
  obtain ⟨h5, h6⟩ := ba k4
  have e := of_decide_eq_true h2
  clear h k1 h2
  subst e
  refine ⟨_, _, _, _, _, _, rfl, h1, h3, h4, ?_, h6⟩
  rcases Bool.or_eq_true_iff.mp h5 with z | z
  · exact .inl (of_decide_eq_true z)
  · exact .inr (of_decide_eq_true z)
theorem good_brk {pos : Pos} : GoodS p n N sc fresh .brk (.Break pos) := ⟨_, fun X _ => ps_break, fun s o H0 S0 S H σ D e' d0 hs q => by
  unfold ex at e'
  cases e'
  exact q S σ H hs (Same.refl _)⟩
theorem good_cnt {pos : Pos} : GoodS p n N sc fresh .cnt (.Continue pos) := ⟨_, fun X _ => ps_continue, fun s o H0 S0 S H σ D e' d0 hs q => by
  unfold ex at e'
  cases e'
  exact q S σ H hs (Same.refl _)⟩
theorem good_pass {pos : Pos} : GoodS p n N sc fresh .pass (.Pass pos) := ⟨_, fun X _ => ps_pass, fun s o H0 S0 S H σ D e' d0 hs q => by
  unfold ex at e'
  cases e'
  exact q S σ H hs (Same.refl _)⟩
theorem good_never : GoodS p n N sc fresh .never x := ⟨_, fun X _ => ps_never, fun s o H0 S0 S H σ D e' d0 hs q => by
  unfold ex at e'
  cases e'⟩
theorem chkSs_nil {xs : List Stmt} (h : chkSs p.t N sc fresh [] xs = true) : xs = [] := by
  cases xs with
  | nil => rfl
  | cons => unfold chkSs at h; cases h
theorem chkSs_cons {s : PL.S} {ss : List PL.S} {xs : List Stmt} (hs : ∀ i, s ≠ .share i) (h : chkSs p.t N sc fresh (s :: ss) xs = true) : ∃ y ys, xs = y :: ys ∧ chkS p.t N sc fresh s y = true ∧ chkSs p.t N sc fresh ss ys = true := by
  unfold chkSs at h
  split at h
  · exact absurd rfl (hs _)
  · cases xs with
    | nil => cases h
    | cons y ys => exact ⟨y, ys, rfl, ba h⟩
mutual
theorem ex_ok (fc : Facts p n) (nd : N.Nodup) : ∀ (s : PL.S) (x : Stmt), (∀ i, s ≠ .share i) → chkS p.t N sc fresh s x = true → GoodS p n N sc fresh s x
  | .set i e, x, _, h => by
    obtain ⟨y, py, v, pos, rfl, h1, h2, h3, h4⟩ := chk_set h
    exact good_set (good_v fc nd h1 h2 h3 h4)
  | .seto i e, x, _, h => by
    obtain ⟨y, py, v, pos, rfl, h1, h2, h3, h4, h5⟩ := chk_seto h
    exact good_seto h3 (good_v fc nd h1 h2 h4 h5)
  | .unp is e, x, _, h => by
    obtain ⟨tg, v, pos, rfl, h1, h2, h3, h4, h5⟩ := chk_unp h
    exact good_unp nd h1 h2 h3 (ev_ok fc nd e sc v h4).1 h5 (assign1 (tgSt h1))
  | .par i j a b, x, _, h => by
    unfold chkS at h
    cases h
  | .aug i o e, x, _, h => by
    obtain ⟨y, py, op, v, pos, rfl, h1, h2, h3, h4⟩ := chk_aug h
    exact good_aug nd h1 h2 h3 (ev_ok fc nd e sc v h4).1
  | .expr e, x, _, h => by
    obtain ⟨v, pos, rfl, h1, h2⟩ := chk_expr h
    exact good_expr h2 (ev_ok fc nd e sc v h1).1
  | .app i e, x, _, h => by
    obtain ⟨y, py, apos, v, cpos, pos, rfl, h1, h2, h3, h4, h5, h6⟩ := chk_app h
    exact good_app h1 h2 h3 (ev_ok fc nd e sc v h4).1 h5 h6
  | .mth i m es, x, _, h => by
    obtain ⟨v, pos, rfl, h⟩ := chk_mth h
    obtain ⟨y, py, apos, xs, cpos, rfl, h1, h2, h3, h4, h5, h6⟩ := chk_mthB h
    exact good_mth h1 h2 h3 (notStars h4).1 (evs_ok fc nd es sc xs h4) (mth_nil h4) h5 h6
  | .mthx j i m es, x, _, h => by
    obtain ⟨z, pz, v, pos, rfl, h0, h0', h⟩ := chk_mthx h
    obtain ⟨y, py, apos, xs, cpos, rfl, h1, h2, h3, h4, h5, h6⟩ := chk_mthB h
    exact good_mthx nd h0 h0' h1 h2 h3 (notStars h4).1 (evs_ok fc nd es sc xs h4) (mth_nil h4) h5 h6
  | .sets i k e, x, _, h => by
    obtain ⟨y, py, kx, q, v, pos, rfl, h1, h2, h3, h4, h5, h6, h7⟩ := chk_sets h
    exact good_sets h1 h2 h3 (ev_ok fc nd k sc kx h4).1 (ev_ok fc nd e sc v h5).1 h6 h7
  | .ret e, x, _, h => by
    obtain ⟨v, pos, rfl, h1, h2, h3⟩ := chk_ret h
    exact good_ret (ev_ok fc nd e sc v h1).1 h2 h3
  | .reto i, x, _, h => by
    obtain ⟨y, py, pos, rfl, h1, h2⟩ := chk_reto h
    exact good_reto h1 h2
  | .retn, x, _, h => by
    obtain ⟨pos, rfl⟩ := chk_retn h
    exact good_retn
  | .iff c a b, x, _, h => by
    obtain ⟨v, xs, ys, pos, rfl, h1, h2, h3, h4⟩ := chk_iff h
    exact good_iff ((ev_ok fc nd c sc v h2).2 h1) (exs_ok fc nd a xs h3) (exs_ok fc nd b ys h4)
  | .whl c b, x, _, h => by
    obtain ⟨v, xs, pos, rfl, h1, h2, h3⟩ := chk_whl h
    exact good_whl ((ev_ok fc nd c sc v h2).2 h1) (exs_ok fc nd b xs h3)
  | .for_ is it b, x, _, h => by
    obtain ⟨tg, v, xs, pos, rfl, h1, h2, h3, h4, h5⟩ := chk_for h
    have gi := goodI_e (tg := tg) (ev_ok fc nd it sc v h3).1
    rw [h4] at gi
    refine good_forAny nd h1 h2 gi (exs_ok fc nd b xs h5) fun s o e => ?_
    unfold ex at e
    obtain ⟨l, e1, e⟩ := Option.bind_eq_some_iff.mp e
    obtain ⟨ds, e2, e3⟩ := Option.bind_eq_some_iff.mp e
    exact ⟨ds, by rw [e1]; exact e2, e3⟩
  | .forr i es b, x, _, h => by
    obtain ⟨tg, q, ys, q2, xs, pos, rfl, h1, h2, h3, h4, h5⟩ := chk_forr h
    refine good_forAny nd h1 rfl (goodI_r fc h2 h4 (notStars h3).2 (notStars h3).1 (evs_ok fc nd es sc ys h3)) (exs_ok fc nd b xs h5) fun s o e => ?_
    unfold ex at e
    obtain ⟨l, e1, e⟩ := Option.bind_eq_some_iff.mp e
    obtain ⟨ds, e2, e3⟩ := Option.bind_eq_some_iff.mp e
    exact ⟨ds, by rw [e1]; exact e2, e3⟩
  | .brk, x, _, h => by
    cases x <;> first | (unfold chkS at h; cases h; done) | exact good_brk
  | .cnt, x, _, h => by
    cases x <;> first | (unfold chkS at h; cases h; done) | exact good_cnt
  | .pass, x, _, h => by
    cases x <;> first | (unfold chkS at h; cases h; done) | exact good_pass
  | .share i, x, hs, _ => absurd rfl (hs i)
  | .never, x, _, _ => good_never
theorem exs_ok (fc : Facts p n) (nd : N.Nodup) : ∀ (ss : List PL.S) (xs : List Stmt), chkSs p.t N sc fresh ss xs = true → GoodSs p n N sc fresh ss xs
  | [], xs, h => by
    cases chkSs_nil h
    exact good_snil
  | s :: ss, xs, h => by
    by_cases hs : ∃ i, s = .share i
    · obtain ⟨i, rfl⟩ := hs
      refine good_share (exs_ok fc nd ss xs ?_)
      unfold chkSs at h
      exact h
    · obtain ⟨y, ys, rfl, h1, h2⟩ := chkSs_cons (fun i z => hs ⟨i, z⟩) h
      exact good_seq (ex_ok fc nd s y (fun i z => hs ⟨i, z⟩) h1) (exs_ok fc nd ss ys h2)
end
end
end PL

/-! PL12: defs, the program, the head. -/
namespace PL
open PySem PySem.Spec L2
/-! ### how arguments bind -/
theorem lookup_zip {x : Str} : ∀ {ps : List Str} {us : List Value}, us.length = ps.length → x ∈ ps → ∃ v, (ps.zip us).lookup x = some v
  | p :: ps, u :: us, hl, hx => by
    rw [List.zip_cons_cons, List.lookup_cons]
    by_cases e : x = p
    · subst e
      exact ⟨u, by simp⟩
    · have e' : (x == p) = false := by simpa using e
      rw [e']
      exact lookup_zip (by simpa using hl) ((List.mem_cons.mp hx).resolve_left e)
  | [], _, _, hx => by cases hx
  | _ :: _, [], hl, _ => by cases hl
theorem fm_zip : ∀ {ps : List Str} {us : List Value} {qs : List (Str × Value)}, us.length = ps.length → ps.Nodup → (∀ q ∈ qs, q.1 ∉ ps) → (ps.filterMap fun n => ((qs ++ ps.zip us).lookup n).map (n, ·)) = ps.zip us
  | [], us, qs, _, _, _ => rfl
  | p :: ps, u :: us, qs, hl, nd, hq => by
    have nl : ∀ (qs : List (Str × Value)) (r : List (Str × Value)), (∀ q ∈ qs, q.1 ≠ p) → (qs ++ (p, u) :: r).lookup p = some u := by
      intro qs
      induction qs with
      | nil => intro r _; simp
      | cons q qs ih =>
        intro r h
        have hne : p ≠ q.1 := (h q List.mem_cons_self).symm
        obtain ⟨q1, q2⟩ := q
        rw [List.cons_append, List.lookup_cons, show (p == q1) = false by simpa using hne]
        exact ih r fun z hz => h z (List.mem_cons_of_mem _ hz)
    rw [List.zip_cons_cons, List.filterMap_cons, nl qs _ fun q hz e => hq q hz (by rw [e]; exact List.mem_cons_self)]
    have ih := fm_zip (ps := ps) (us := us) (qs := qs ++ [(p, u)]) (by simpa using hl) (List.nodup_cons.mp nd).2 fun q hz => by
      rcases List.mem_append.mp hz with hz | hz
      · exact fun z => hq q hz (List.mem_cons_of_mem _ z)
      · have := List.mem_singleton.mp hz
        subst this
        exact (List.nodup_cons.mp nd).1
    rw [List.append_assoc] at ih
    exact congrArg ((p, u) :: ·) ih
  | _ :: _, [], _, hl, _, _ => by cases hl
def plainArgs (as : List Arg) : Arguments := { posonlyargs := [], args := as, vararg := none, kwonlyargs := [], kw_defaults := [], kwarg := none, defaults := [] }
theorem bind_plain {x qual : Str} {as : List Arg} {body : List Stmt} {scope : Scope} {kV doc pm : Value} {an : Option Addr} {cdv ct : Value} {us : List Value} (nd : (as.map (·.arg)).Nodup) (hl : us.length = (as.map (·.arg)).length) :
    bindArgs (PySem.W.fnOf x qual (plainArgs as) body scope .none kV doc pm an cdv ct) ⟨us, []⟩ = pure ((as.map (·.arg)).zip us) := by
  have h1 := fm_zip (qs := []) hl nd (by simp)
  have hm : (List.filter (fun n => (List.lookup n ((as.map (·.arg)).zip us)).isNone) (as.map (·.arg))) = [] := by
    rw [List.filter_eq_nil_iff]
    intro n hn
    obtain ⟨v, e⟩ := lookup_zip hl hn
    rw [e]
    simp
  have pb : ∀ {α β : Type} (a : α) (f : α → Sem β), (pure a >>= f) = f a := fun a f => rfl
  have si : seqItems? (.none : Value) = pure none := rfl
  have h1' : (as.map (·.arg)).filterMap (fun n => ((((as.map (·.arg)).zip us).lookup n).map fun x => (n, x))) = (as.map (·.arg)).zip us := h1
  have hng : ¬ (us.length > (as.map (·.arg)).length) := by omega
  unfold bindArgs
  simp only [PySem.W.fnOf, plainArgs, List.forIn_nil, pb, si, List.map_nil, List.nil_append, List.append_nil, Option.getD_none, List.length_nil, Nat.zero_sub, List.drop_nil, Nat.sub_zero, List.take_length, hm, List.isEmpty_nil, List.zip_nil_right, h1', Bool.not_true, Bool.false_eq_true, if_false, Option.isNone_none, Bool.and_true, decide_eq_true_eq, hng]
/-! one keyword-only parameter with a default -/
def kwArgs1 (a k : Arg) (kd : Option Expr) : Arguments := { posonlyargs := [], args := [a], vararg := none, kwonlyargs := [k], kw_defaults := [kd], kwarg := none, defaults := [] }
theorem bind_kw1 {x qual : Str} {a k : Arg} {kd : Option Expr} {body : List Stmt} {scope : Scope} {doc pm : Value} {an : Option Addr} {cdv ct u v : Value} {D : Addr} (ne : k.arg ≠ a.arg) :
    KwChain D [(k.arg, v)] (bindArgs (PySem.W.fnOf x qual (kwArgs1 a k kd) body scope .none (.ref D) doc pm an cdv ct) ⟨[u], []⟩) [(a.arg, u), (k.arg, v)] := by
  have h1 : (k.arg == a.arg) = false := by simpa using ne
  have h2 : (a.arg == a.arg) = true := by simp
  have h3 : (k.arg == k.arg) = true := by simp
  have h4 : (a.arg == k.arg) = false := by simpa using fun e => ne e.symm
  have pb : ∀ {α β : Type} (a : α) (f : α → Sem β), (pure a >>= f) = f a := fun a f => rfl
  have si : seqItems? (.none : Value) = pure none := rfl
  unfold bindArgs
  simp only [PySem.W.fnOf, kwArgs1, List.forIn_nil, List.forIn_cons, pb, si, List.map_nil, List.map_cons, List.nil_append, List.append_nil, List.cons_append, Option.getD_none, List.length_nil, List.length_cons, Nat.zero_add, Nat.sub_zero, Nat.sub_self, List.drop_nil, List.take_length, List.zip_cons_cons, List.zip_nil_right, List.lookup_cons, List.lookup_nil, h1, h2, h3, h4, Option.isNone_none, Option.isNone_some, if_true, if_false, Bool.false_eq_true, gt_iff_lt, Nat.lt_irrefl, decide_false, Bool.false_and, List.take_succ_cons, List.take_zero, List.filter_cons, List.filter_nil, List.isEmpty_nil, Bool.not_true]
  refine ⟨_, _, _, _, _, _, rfl, rfl, ?_⟩
  show (pure _ >>= _) = pure _
  simp only [pb, List.isEmpty_nil, Bool.not_true, Bool.false_eq_true, if_false, List.filterMap_cons, List.filterMap_nil, List.lookup_cons, h1, h2, h3, h4, Option.map_some]
/-! ### a def -/
/-- the names of a def at their slots -/
def scB (fi : Fn) (sc : Scope) : Bool := (match sc.kind with
  | .function => true
  | _ => false) && (!sc.isCoroutine && (!sc.isGenerator && (decide fi.names.Nodup && (decide (fi.ps ≤ fi.names.length) && ((fi.names.take fi.ps).all (locB sc) && sc.names.all fun y => match y.2 with
    | .free => false
    | _ => true)))))
theorem scB_ok {fi : Fn} {sc : Scope} (h : scB fi sc = true) : FnScope fi.names (fi.names.take fi.ps) sc ∧ fi.ps ≤ fi.names.length := by
  unfold scB at h
  obtain ⟨h1, h⟩ := ba h
  obtain ⟨h2, h⟩ := ba h
  obtain ⟨h3, h⟩ := ba h
  obtain ⟨h4, h⟩ := ba h
  obtain ⟨h5, h⟩ := ba h
  obtain ⟨h6, h7⟩ := ba h
  have hp := of_decide_eq_true h5
  refine ⟨⟨?_, bnot h2, bnot h3, of_decide_eq_true h4, by rw [List.length_take, Nat.min_eq_left hp], fun x hx => ?_, fun y hy e => ?_⟩, hp⟩
  · split at h1
    · assumption
    · cases h1
  · exact loc_of (List.all_eq_true.mp h6 x hx)
  · have := List.all_eq_true.mp h7 y hy
    rw [e] at this
    cases this
theorem start_len {N : List Str} {vs : List V} (h : vs.length ≤ N.length) : (L2.start N vs).length = N.length := by
  unfold L2.start
  rw [List.length_append, List.length_map, List.length_replicate]
  omega
theorem fn_ok {p : Pr} {n : Nat} {f : Nat} {fi : Fn} {qual : Str} {params : Arguments} {body : List Stmt} {sc : Scope} {dvs : List V} {kws : List (Str × V)} {fd : FuncData} (fc : Facts p n) (hT : p.T f = some fi)
    (F : FunD p.K fi.name qual params body sc dvs kws (p.FA f) fd) (hs : scB fi sc = true) (c : chkSs p.t fi.names sc fi.fresh fi.body body = true) :
    FnOk p.P p.w p.K p.mg p.base CX0 (n + 1) (p.FA f) fd (fi.names.take fi.ps) (spF p (n + 1) fi f) := by
  obtain ⟨hsc, hps⟩ := scB_ok hs
  have hpl : (fi.names.take fi.ps).length = fi.ps := by rw [List.length_take, Nat.min_eq_left hps]
  refine F.ok hsc (fun vs H Q E h => by rw [hpl]; exact h.1) fun cdv A outer s H vs Q E hr h => ?_
  obtain ⟨t, pt, st⟩ := exs_ok (sc := sc) (fresh := fi.fresh) fc hsc.nd fi.body body c
  obtain ⟨hl, S, xs, d, dm, rs, hc, hQ⟩ := h
  have hcl := call_len hc hT
  refine ⟨t, PSs.nox (pt _ ⟨⟨rfl, rfl, rfl, rfl, rfl, rfl, rfl, rfl, hr, rfl⟩, fun _ => rfl, hsc.kind⟩), ?_⟩
  unfold call at hc
  rw [hT, Option.bind_some, if_pos hcl] at hc
  have hle : vs.length ≤ fi.names.length := by rw [hl]; exact hps
  have h0 : SS p H S S H (L2.start fi.names vs) (fi.start (xs ++ fi.dfl)) := by
    have el : (fi.start (xs ++ fi.dfl)).length = fi.names.length := by
      unfold Fn.start
      rw [List.length_append, List.length_map, List.length_replicate, hcl]
      omega
    have noow : ∀ (i : Nat) d, (fi.start (xs ++ fi.dfl))[i]? ≠ some (.ow d) := fun i d e => by
      unfold Fn.start at e
      by_cases hi : i < ((xs ++ fi.dfl).map Sl.sh).length
      · rw [List.getElem?_append_left hi, List.getElem?_map] at e
        cases q : (xs ++ fi.dfl)[i]? with
        | none => rw [q] at e; cases e
        | some z => rw [q] at e; cases e
      · rw [List.getElem?_append_right (by omega), List.getElem?_replicate] at e
        split at e <;> cases e
    refine ⟨⟨by rw [el, start_len hle], dm, fun i d e => ?_, fun i d e => absurd e (noow i d), fun i j d e a _ q _ _ => absurd q (noow i d)⟩, Same.refl _, fun _ h => h, fun i d a e _ => absurd e (noow i d)⟩
    unfold Fn.start at e
    by_cases hi : i < ((xs ++ fi.dfl).map Sl.sh).length
    · rw [List.getElem?_append_left hi, List.getElem?_map] at e
      cases q : (xs ++ fi.dfl)[i]? with
      | none => rw [q] at e; cases e
      | some z =>
        rw [q] at e
        cases e
        obtain ⟨v, h1, h2⟩ := rs.get q
        refine ⟨v, ?_, h2⟩
        unfold L2.start
        have hv : i < (vs.map some).length := by
          rw [List.length_map]
          exact (List.getElem?_eq_some_iff.mp h1).1
        rw [List.getElem?_append_left hv, List.getElem?_map, h1]
        rfl
    · rw [List.getElem?_append_right (by omega), List.getElem?_replicate] at e
      split at e <;> cases e
  cases ho : exs (call p.T p.G n) p.G fi.body (fi.start (xs ++ fi.dfl)) with
  | none => rw [ho] at hc; cases hc
  | some o =>
    rw [ho] at hc
    refine st _ o H S S H _ _ ho dm h0 ?_
    cases o with
    | nx s' =>
      cases hc
      exact fun S' σ' H' h m => hQ .non H' h.same .non fun _ => Fr.no fun _ e => by cases e
    | rt d' s' =>
      cases hc
      exact fun v H' m r fv => hQ v H' m r fv
    | bk s' => cases hc
    | ct s' => cases hc
/-! ### the program -/
/-- a def as it stands behind the top, with what is checked of it -/
structure DefOk (p : Pr) (f : Nat) (fi : Fn) : Prop where
  ex : ∃ (qual : Str) (params : Arguments) (body : List Stmt) (sc : Scope) (dvs : List V) (kws : List (Str × V)) (fd : FuncData) (ds : List Value), p.mg fi.name = some (.ref (p.FA f)) ∧ FunD p.K fi.name qual params body sc dvs kws (p.FA f) fd ∧ scB fi sc = true ∧
    chkSs p.t fi.names sc fi.fresh fi.body body = true ∧ Binds p.K fd (fi.names.take fi.ps) ds ∧ Vals (fi.dfl.map dV) ds ∧ fi.dfl.all isDfl = true ∧
    (fi.dfl = [] → ∀ (s : Shared) (us : List Value), us.length = (fi.names.take fi.ps).length → BindsTo s fd ⟨us, []⟩ ((fi.names.take fi.ps).zip us))
structure Base (p : Pr) : Prop where
  bi : ∀ f : BI, p.mg (biN f) = none
  rng : p.mg "range" = none
  bool : p.mg "bool" = none
  gl : ∀ x d, p.G x = some d → ∃ u v, p.mg (p.t.GN x) = some u ∧ RelV v u ∧ ∀ H, R p.K p.FA H v d
  fn : ∀ f fi, p.T f = some fi → DefOk p f fi
theorem facts0 {p : Pr} (b : Base p) : ∀ f fi, p.T f = some fi → ∃ fd ds, p.mg fi.name = some (.ref (p.FA f)) ∧ PySem.W.keepIn p.K (.ref (p.FA f)) = true ∧ Binds p.K fd (fi.names.take fi.ps) ds ∧ Vals (fi.dfl.map dV) ds ∧ fi.dfl.all isDfl = true ∧
    FnOk p.P p.w p.K p.mg p.base CX0 0 (p.FA f) fd (fi.names.take fi.ps) (spF p 0 fi f) := fun f fi h => by
  obtain ⟨qual, params, body, sc, dvs, kws, fd, ds, h1, F, h3, h4, h5, h6, h7, _⟩ := (b.fn f fi h).ex
  obtain ⟨hsc, hps⟩ := scB_ok h3
  refine ⟨fd, ds, h1, F.kp, h5, h6, h7, ⟨fun vs H Q E h => ?_, fun A outer s H args us vs Q E hr he hb hv h => ?_⟩⟩
  · rw [List.length_take, Nat.min_eq_left hps]
    exact h.1
  · obtain ⟨_, S, xs, d, _, _, hc, _⟩ := h
    unfold call at hc
    cases hc
theorem facts {p : Pr} (b : Base p) (n : Nat) : Facts p n := by
  induction n with
  | zero => exact ⟨b.bi, b.rng, b.bool, facts0 b, b.gl⟩
  | succ n ih =>
    refine ⟨b.bi, b.rng, b.bool, fun f fi h => ?_, b.gl⟩
    obtain ⟨qual, params, body, sc, dvs, kws, fd, ds, h1, F, h3, h4, h5, h6, h7, _⟩ := (b.fn f fi h).ex
    exact ⟨fd, ds, h1, F.kp, h5, h6, h7, fn_ok ih h F h3 h4⟩
/-! ### the head -/
/-- a constant of the module, read -/
def rdB (K : PySem.W.Frag) (FA : Nat → Addr) : Nat → Value → D → Bool
  | 0, _, _ => false
  | _ + 1, .none, .non => true
  | _ + 1, .bool b, .bl c => b == c
  | _ + 1, .int i _, .int j => decide (i = j)
  | _ + 1, .str x _, .str y => decide (x = y)
  | n + 1, .ref a, .tup ds => (match K.lookup a with
    | some ⟨.type c, _, .seq its _, _⟩ => decide (c = "tuple") && (decide (its.size ≤ sizeLine) && (decide (its.toList.length = ds.length) && ((its.toList.zip ds).all fun q => rdB K FA n q.1 q.2)))
    | _ => false)
  | _ + 1, .ref a, .fn f => decide (a = FA f)
  | _, _, _ => false
theorem rdB_ok {K : PySem.W.Frag} {FA : Nat → Addr} : ∀ {n : Nat} {u : Value} {d : D}, rdB K FA n u d = true → ∃ v, RelV v u ∧ ∀ H, R K FA H v d
  | 0, _, _, h => by unfold rdB at h; cases h
  | n + 1, u, d, h => by
    unfold rdB at h
    split at h
    · rename_i q; cases q
    · exact ⟨.non, rfl, fun _ => .non⟩
    · cases eq_of_beq h
      exact ⟨.bl _, rfl, fun _ => .bl _⟩
    · cases of_decide_eq_true h
      exact ⟨.int _, ⟨_, rfl⟩, fun _ => .int _⟩
    · cases of_decide_eq_true h
      exact ⟨.str _, ⟨_, rfl⟩, fun _ => .str _⟩
    · rename_i m a ds hm
      cases hm
      split at h
      · rename_i o c dd its k sl hk
        obtain ⟨h1, h⟩ := ba h
        obtain ⟨h2, h⟩ := ba h
        obtain ⟨h3, h4⟩ := ba h
        cases of_decide_eq_true h1
        have key : ∀ (us : List Value) (ds : List D), us.length = ds.length → ((us.zip ds).all fun q => rdB K FA n q.1 q.2) = true → ∃ vs, Vals vs us ∧ ∀ H, Rs K FA H vs ds := by
          intro us
          induction us with
          | nil =>
            intro ds hl _
            cases ds with
            | nil => exact ⟨[], .nil, fun _ => .nil⟩
            | cons => cases hl
          | cons u us ih =>
            intro ds hl h
            cases ds with
            | nil => cases hl
            | cons d ds =>
              rw [List.zip_cons_cons, List.all_cons] at h
              obtain ⟨q1, q2⟩ := ba h
              obtain ⟨v, r1, r2⟩ := rdB_ok q1
              obtain ⟨vs, r3, r4⟩ := ih ds (by simpa using hl) q2
              exact ⟨v :: vs, .cons r1 r3, fun H => .cons (r2 H) (r4 H)⟩
        obtain ⟨vs, r1, r2⟩ := key _ _ (of_decide_eq_true h3) h4
        exact ⟨.ref a, rfl, fun H => .tup (.inr ⟨_, its, k, hk, rfl, rfl, of_decide_eq_true h2, r1⟩) (r2 H)⟩
      · cases h
    · cases of_decide_eq_true h
      exact ⟨.ref _, rfl, fun _ => .fn _⟩
    · cases h
end PL

/-! PL13: the head's facts, the law. -/
namespace PL
open PySem PySem.Spec L2
/-- a law's program: its defs with their statements, its constants -/
structure Src where
  fns : List Fn
  sts : List Stmt
  gls : List (Str × D)
def Src.tb (s : Src) : Tb := ⟨fun i => s.fns[i]?, fun i => (s.gls[i]?).map (·.2), fun i => match s.gls[i]? with
  | some q => q.1
  | none => Str.ofString ""⟩
def Src.FA (s : Src) (K : PySem.W.Frag) (i : Nat) : Addr := match s.fns[i]? with
  | some fi => He.ga K fi.name
  | none => 0
def Src.cst (s : Src) (K : PySem.W.Frag) : Bool := s.gls.all fun q => match PySem.W.nsIn K mainGlobals q.1 with
  | some (some u) => rdB K (s.FA K) 8 u q.2
  | _ => false
def dfV : D → He.Dv
  | .bl b => .bl b
  | .int i => .int i
  | .str x => .str x
  | _ => .non
/-- how the defaults stand: keyword-only ones, in their order -/
def kwOf (fi : Fn) (st : Stmt) : List (Str × He.Dv) := ((defArgs st).kwonlyargs.map (·.arg)).zip (fi.dfl.map dfV)
def defD (fi : Fn) (st : Stmt) : He.DefD := ⟨(fi.name, none), fi.name, fi.name, defArgs st, defBody st, defScope st, [], kwOf fi st⟩
def Src.fn (s : Src) : List He.DefD := (s.fns.zip s.sts).map fun q => defD q.1 q.2
def freeNames : List Str := ["len", "abs", "int", "str", "tuple", "list", "all", "any", "sum", "max", "min", "sorted", "isinstance", "range", "bool"]
def Src.fa (s : Src) : List He.Fa := freeNames.map He.Fa.free ++ s.fns.map fun f => He.Fa.glo f.name
/-- the arguments are plain, or keyword-only ones stand behind that have defaults -/
def argB (fi : Fn) (a : Arguments) : Bool := match a with
  | ⟨[], as, none, [], [], none, []⟩ => decide (as.map (·.arg) = fi.names.take fi.ps) && fi.dfl.isEmpty
  | ⟨[], [a], none, [k], [_], none, []⟩ => decide ([a.arg, k.arg] = fi.names.take fi.ps) && decide (fi.dfl.length = 1)
  | _ => false
def fnB (t : Tb) (fi : Fn) (st : Stmt) : Bool := scB fi (defScope st) && (chkSs t fi.names (defScope st) fi.fresh fi.body (defBody st) && (fi.dfl.all isDfl && argB fi (defArgs st)))
def Src.ok (s : Src) : Bool := decide (s.fns.length = s.sts.length) && (s.fns.zip s.sts).all fun q => fnB s.tb q.1 q.2
abbrev AlP : Type := He.AlD × Bool
def Src.obsG (s : Src) (n : Nat) (g : Addr → Option Obj) : AlP := (He.obsDG n s.fa s.fn g, s.cst (He.frG g (He.asD g n)))
def Src.hook (s : Src) (n : Nat) : PySem.W.Hook where
  α := AlP
  obs := fun x => s.obsG n x.heap.get?
  val := fun _ => (He.valD s.fn, true)
  says := fun _ h => ∃ K : PySem.W.Frag, K.In h ∧ He.SaysD s.fa s.fn K ∧ s.cst K = true
  of := fun _ _ e => ⟨_, He.frG_in, congrArg (fun z : AlP => z.1) e, congrArg (fun z : AlP => z.2) e⟩
  keeps := fun _ _ _ ⟨K, hK, c⟩ k => ⟨K, PySem.W.Frag.In.keeps hK k, c⟩
def Src.ob (s : Src) (n : Nat) (x : PySem.W.SharedT) : AlP := s.obsG n (HandSHeadRun.getT x)
theorem Src.ob_eq (s : Src) (n : Nat) (x : PySem.W.SharedT) : s.ob n x = (s.hook n).obs x.abs := by
  have e : HandSHeadRun.getT x = x.abs.heap.get? := funext (HandSHeadRun.getT_eq x)
  unfold Src.ob
  rw [e]
  rfl
theorem argB_ok {fi : Fn} {a : Arguments} (h : argB fi a = true) : (∃ as, a = plainArgs as ∧ as.map (·.arg) = fi.names.take fi.ps ∧ fi.dfl = []) ∨ ∃ p k kd, a = kwArgs1 p k kd ∧ [p.arg, k.arg] = fi.names.take fi.ps ∧ fi.dfl.length = 1 := by
  unfold argB at h
  split at h
  · obtain ⟨h1, h2⟩ := ba h
    exact .inl ⟨_, rfl, of_decide_eq_true h1, by simpa using h2⟩
  · obtain ⟨h1, h2⟩ := ba h
    exact .inr ⟨_, _, _, rfl, of_decide_eq_true h1, of_decide_eq_true h2⟩
  · cases h
theorem dfV_v {K : PySem.W.Frag} {d : D} (h : isDfl d = true) : (dfV d).v K = dV d := by
  cases d <;> first | rfl | cases h
theorem fa_free {s : Src} {K : PySem.W.Frag} {h : Heap} {mg : Str → Option Value} (X : K.In h) (G : h.Ns mainGlobals mg) (c : He.SaysD s.fa s.fn K) {x : Str} (hx : x ∈ freeNames) : mg x = none := by
  obtain ⟨i, hi, e⟩ := List.getElem_of_mem hx
  have e2 : s.fa[i]? = some (.free x) := by
    unfold Src.fa
    rw [List.getElem?_append_left (by rw [List.length_map]; exact hi), List.getElem?_map, List.getElem?_eq_getElem hi, e]
    rfl
  exact He.free_ok X G (c.fact i e2)
theorem src_base {s : Src} {P : Program} {w : World} {K : PySem.W.Frag} {h base : Heap} {mg : Str → Option Value} (X : K.In h) (G : h.Ns mainGlobals mg) (c : He.SaysD s.fa s.fn K) (cc : s.cst K = true) (ok : s.ok = true) : Base ⟨P, w, K, mg, base, s.FA K, s.tb⟩ := by
  obtain ⟨o1, o2⟩ := ba ok
  have hl := of_decide_eq_true o1
  refine ⟨fun f => ?_, fa_free X G c (by decide +kernel), fa_free X G c (by decide +kernel), fun x d e => ?_, fun f fi e => ?_⟩
  · refine fa_free X G c ?_
    cases f <;> decide +kernel
  · have e' : (s.gls[x]?).map (·.2) = some d := e
    obtain ⟨q, e1, rfl⟩ := Option.map_eq_some_iff.mp e'
    have h1 := List.all_eq_true.mp cc q (List.mem_of_getElem? e1)
    have en : s.tb.GN x = q.1 := by
      show (match s.gls[x]? with
        | some q => q.1
        | none => Str.ofString "") = q.1
      rw [e1]
    show ∃ u v, mg (s.tb.GN x) = some u ∧ _
    rw [en]
    split at h1
    · rename_i u hu
      obtain ⟨v, r1, r2⟩ := rdB_ok h1
      exact ⟨u, v, PySem.W.mg_of X G hu, r1, r2⟩
    · cases h1
  · have e' : s.fns[f]? = some fi := e
    obtain ⟨hf, ef⟩ := List.getElem?_eq_some_iff.mp e'
    have hs : f < s.sts.length := by rw [← hl]; exact hf
    have hz : (s.fns.zip s.sts)[f]? = some (fi, s.sts[f]) := by
      rw [List.getElem?_zip_eq_some]
      exact ⟨e', List.getElem?_eq_getElem hs⟩
    have hb : fnB s.tb fi s.sts[f] = true := List.all_eq_true.mp o2 _ (List.mem_of_getElem? hz)
    obtain ⟨b1, b⟩ := ba hb
    obtain ⟨b2, b⟩ := ba b
    obtain ⟨b3, b4⟩ := ba b
    obtain ⟨fd, F⟩ := c.def_ f (d := defD fi s.sts[f]) (by
      unfold Src.fn
      rw [List.getElem?_map, hz]
      rfl)
    have hga : s.FA K f = He.ga K fi.name := by
      show (match s.fns[f]? with
        | some fi => He.ga K fi.name
        | none => 0) = _
      rw [e']
    have hmg : mg fi.name = some (.ref (s.FA K f)) := by
      rw [hga]
      refine He.glo_ok X G (c.fact (freeNames.length + f) ?_)
      unfold Src.fa
      rw [List.getElem?_append_right (by rw [List.length_map]; omega), List.length_map, Nat.add_sub_cancel_left, List.getElem?_map, e']
      rfl
    have F' : FunD K fi.name fi.name (defArgs s.sts[f]) (defBody s.sts[f]) (defScope s.sts[f]) [] ((kwOf fi s.sts[f]).map fun q => (q.1, q.2.v K)) (He.ga K fi.name) fd := F
    rcases argB_ok b4 with ⟨as, a1, a2, a3⟩ | ⟨a, k, kd, a1, a2, a3⟩
    · have hkw : kwOf fi s.sts[f] = [] := by
        unfold kwOf
        rw [a3]
        simp
      have F2 : FunD K fi.name fi.name (defArgs s.sts[f]) (defBody s.sts[f]) (defScope s.sts[f]) [] [] (s.FA K f) fd := by
        rw [hkw] at F'
        rw [hga]
        exact F'
      refine ⟨⟨fi.name, defArgs s.sts[f], defBody s.sts[f], defScope s.sts[f], [], [], fd, [], hmg, F2, b1, b2, ?_, ?_, b3, ?_⟩⟩
      · have nd : (as.map (·.arg)).Nodup := by
          rw [a2]
          exact (scB_ok b1).1.nd.sublist (List.take_sublist _ _)
        have F3 := F2
        rw [a1] at F3
        show Binds K fd (fi.names.take fi.ps) []
        rw [← a2]
        exact F3.bindsN fun kV doc pm an cdv ct us hl => bind_plain nd hl
      · rw [a3]
        exact .nil
      · intro _ s0 us hus
        have nd : (as.map (·.arg)).Nodup := by
          rw [a2]
          exact (scB_ok b1).1.nd.sublist (List.take_sublist _ _)
        have F3 := F2
        rw [a1] at F3
        rw [← a2] at hus ⊢
        exact F3.bindsA (fun kV doc pm an cdv ct us hl => bind_plain nd hl) s0 us hus
    · have hd : ∃ d, fi.dfl = [d] := by
        match hq : fi.dfl, a3 with
        | [d], _ => exact ⟨d, rfl⟩
      obtain ⟨d, hd⟩ := hd
      have hkw : kwOf fi s.sts[f] = [(k.arg, dfV d)] := by
        unfold kwOf
        rw [hd, a1]
        rfl
      have F2 : FunD K fi.name fi.name (defArgs s.sts[f]) (defBody s.sts[f]) (defScope s.sts[f]) [] [(k.arg, (dfV d).v K)] (s.FA K f) fd := by
        rw [hkw] at F'
        rw [hga]
        exact F'
      have nd : [a.arg, k.arg].Nodup := by
        rw [a2]
        exact (scB_ok b1).1.nd.sublist (List.take_sublist _ _)
      have ne : k.arg ≠ a.arg := fun e => by
        rw [e] at nd
        simp at nd
      have F3 := F2
      rw [a1] at F3
      obtain ⟨ds, r1, r2⟩ := F3.binds0 (ps := fi.names.take fi.ps) 1 (by simp) (by rw [← a2]; rfl) (fun D doc pm an cdv ct us ks l1 l2 => by
        match us, ks, l1, l2 with
        | [u], [v], _, _ =>
          rw [← a2]
          exact bind_kw1 ne)
      have b3' := b3
      rw [hd, List.all_cons] at b3'
      refine ⟨⟨fi.name, defArgs s.sts[f], defBody s.sts[f], defScope s.sts[f], [], _, fd, ds, hmg, F2, b1, b2, r2, ?_, b3, fun e => ?_⟩⟩
      · rw [hd]
        have e1 := dfV_v (K := K) (ba b3').1
        show Vals [dV d] ds
        rw [← e1]
        exact r1
      · rw [hd] at e
        cases e
/-- the law's walk: what is left is the law as the small language computes it -/
theorem src_walk {s : Src} {l : PySem.W.OpenLaw} {n k i d : Nat} {q : Program} {loose : List Str} {XP : (Str → Option Value) → Heap → Prop} {dr : DefRec} {fi : Fn} {x : Str} (ok : s.ok = true) (hn : l.most = some n) (hn2 : n ≤ sizeLine) (hdf : dr.params.defaults = []) (hr : Room k callerA)
    (hf : s.fns[i]? = some fi) (hname : dr.name = fi.name) (hps : fi.ps = 1) (hnm : fi.names.take 1 = [x]) (hdl : fi.dfl = []) (main : ∀ ns : List Int, ns.length ≤ n → call s.tb.T s.tb.G k i [.fls (ns.map D.int)] = some (.bl true, [])) :
    PySem.W.WalkO q loose XP (s.hook d).says l.row.toRowW dr [] (fun f vs => PySem.call f vs) := by
  refine L2.walk_ofE (l := l) (n := n) (k := k) (x := x) (CX := L2.CX0) hn hn2 hdf hr ?_ (fun _ _ _ _ z => z)
  intro w mg fa h Y G hmg
  obtain ⟨K, KX, c, cc⟩ := Y
  have B : ∀ base, Base ⟨l.prog, w, K, mg, base, s.FA K, s.tb⟩ := fun base => src_base (P := l.prog) (w := w) (base := base) KX G c cc ok
  obtain ⟨qual, params, body, sc, dvs, kws, fd, ds, h1, F, h3, h4, h5, h6, h7, hA⟩ := ((B h).fn i fi hf).ex
  have efa : fa = s.FA K i := by
    have e := hmg.symm.trans ((congrArg mg hname).trans h1)
    cases e
    rfl
  subst efa
  have hpl : fi.names.take fi.ps = [x] := by rw [hps]; exact hnm
  cases k with
  | zero =>
    have := main [] (Nat.zero_le _)
    unfold call at this
    cases this
  | succ k =>
    refine ⟨K, fd, spF ⟨l.prog, w, K, mg, h, s.FA K, s.tb⟩ (k + 1) fi i, KX, fun s0 u => ?_, fun H a ns hlen hO hS => ?_, fun base hK hG => ?_⟩
    · have z := hA hdl s0 [u] (by rw [hpl]; rfl)
      rw [hpl] at z
      exact z
    · refine ⟨hps.symm, fun _ => False, [.fls (ns.map D.int)], .bl true, fun a z => z.elim, ?_, main ns hlen, fun v H' _ r _ => ?_⟩
      · rw [hdl, List.append_nil]
        refine .cons (.fls (sqL_mono (fun b o e => gd_of (fun z => z) e) hS) ?_) .nil
        clear hlen hS
        induction ns with
        | nil => exact .nil
        | cons a ns ih => exact .cons (.int _) ih
      · cases r
        rfl
    · have z := fn_ok (p := ⟨l.prog, w, K, mg, base, s.FA K, s.tb⟩) (f := i) (facts (B base) k) hf F h3 h4
      rw [hpl] at z
      exact z
end PL

/-! PM: rewriting the small language's meaning (plain Lean). -/
namespace PL
open PySem
variable {F : Fc} {G : Nat → Option D} {s : Env} {α β : Type}
/-- the kernel is to use these by their proofs, not by unfolding -/
@[simp high] theorem bindS (a : α) (f : α → Option β) : (some a).bind f = f a := by rw [Option.bind_some]
@[simp high] theorem mapS (a : α) (f : α → β) : (some a).map f = some (f a) := by rw [Option.map_some]
@[simp high] theorem bindN (f : α → Option β) : (none : Option α).bind f = none := by rw [Option.bind_none]
@[simp high] theorem mapN (f : α → β) : (none : Option α).map f = none := by rw [Option.map_none]
def ifD (d : D) (x y : Option α) : Option α := match d with
  | .bl true => x
  | .bl false => y
  | _ => none
@[simp] theorem ifD_bl (k : Bool) (x y : Option α) : ifD (.bl k) x y = if k = true then x else y := by cases k <;> rfl
@[simp] theorem bind_ite' (c : Prop) [Decidable c] (x y : Option α) (f : α → Option β) : (if c then x else y).bind f = if c then x.bind f else y.bind f := by split <;> rfl
@[simp] theorem map_ite' (c : Prop) [Decidable c] (x y : Option α) (f : α → β) : (if c then x else y).map f = if c then x.map f else y.map f := by split <;> rfl
/-! expressions -/
@[simp] theorem ev_c (d : D) : ev F G (.c d) s = some d := by simp only [ev]
@[simp] theorem ev_var (i : Nat) : ev F G (.var i) s = (s[i]?).bind Sl.shd := by simp only [ev]
@[simp] theorem ev_rd (i : Nat) : ev F G (.rd i) s = (s[i]?).bind Sl.own := by simp only [ev]
@[simp] theorem ev_gl (i : Nat) : ev F G (.gl i) s = G i := by simp only [ev]
@[simp] theorem ev_tup (es : List E) : ev F G (.tup es) s = (evs F G es s).bind fun xs => if xs.length ≤ sizeLine then some (.tup xs) else none := by simp only [ev]
@[simp] theorem ev_lst (es : List E) : ev F G (.lst es) s = (evs F G es s).bind fun xs => if xs.length ≤ sizeLine then some (.lst xs) else none := by simp only [ev]
@[simp] theorem ev_bin (o : B1) (a b : E) : ev F G (.bin o a b) s = (ev F G a s).bind fun x => (ev F G b s).bind fun y => binD o x y := by simp only [ev]
def negD : D → Option D
  | .int i => some (.int (-i))
  | _ => none
@[simp] theorem negD_int (i : Int) : negD (.int i) = some (.int (-i)) := rfl
@[simp] theorem ev_neg (a : E) : ev F G (.neg a) s = (ev F G a s).bind negD := by
  simp only [ev]
  rfl
def notD : D → Option D
  | .bl b => some (.bl (!b))
  | _ => none
@[simp] theorem notD_bl (b : Bool) : notD (.bl b) = some (.bl (!b)) := rfl
@[simp] theorem ev_nt (a : E) : ev F G (.nt a) s = (ev F G a s).bind notD := by
  simp only [ev]
  rfl
@[simp] theorem ev_cmp (o : CO) (a b : E) : ev F G (.cmp o a b) s = (ev F G a s).bind fun x => (ev F G b s).bind fun y => (cmpD o x y).map .bl := by simp only [ev]
@[simp] theorem ev_chain (o1 o2 : CO) (a b c : E) : ev F G (.chain o1 o2 a b c) s = (ev F G a s).bind fun x => (ev F G b s).bind fun y => (cmpD o1 x y).bind fun k =>
      if k = true then (ev F G c s).bind fun z => (cmpD o2 y z).map .bl else some (.bl false) := by simp only [ev]
@[simp] theorem ev_an (a b : E) : ev F G (.an a b) s = (ev F G a s).bind fun k => ifD k (ev F G b s) (some (.bl false)) := by
  simp only [ev]
  rfl
@[simp] theorem ev_orr (a b : E) : ev F G (.orr a b) s = (ev F G a s).bind fun k => ifD k (some (.bl true)) (ev F G b s) := by
  simp only [ev]
  rfl
@[simp] theorem ev_ife (c a b : E) : ev F G (.ife c a b) s = (ev F G c s).bind fun k => ifD k (ev F G a s) (ev F G b s) := by
  simp only [ev]
  rfl
@[simp] theorem ev_ix (a b : E) : ev F G (.ix a b) s = (ev F G a s).bind fun x => (ev F G b s).bind fun y => ixD x y := by simp only [ev]
@[simp] theorem ev_sl (a lo hi : E) : ev F G (.sl a lo hi) s = (ev F G a s).bind fun x => (if lo.isNo then some none else (ev F G lo s).bind endD).bind fun l => (if hi.isNo then some none else (ev F G hi s).bind endD).bind fun h => slD x l h := by simp only [ev]
@[simp] theorem isNo_nohi : E.nohi.isNo = true := rfl
@[simp] theorem isNo_c (d : D) : (E.c d).isNo = false := rfl
@[simp] theorem isNo_var (i : Nat) : (E.var i).isNo = false := rfl
@[simp] theorem isNo_bin (o : B1) (a b : E) : (E.bin o a b).isNo = false := rfl
@[simp] theorem isNo_neg (a : E) : (E.neg a).isNo = false := rfl
@[simp] theorem isNo_bi (f : BI) (es : List E) : (E.bi f es).isNo = false := rfl
@[simp] theorem isNo_ix (a b : E) : (E.ix a b).isNo = false := rfl
@[simp] theorem isNo_call (f : Nat) (es : List E) : (E.call f es).isNo = false := rfl
@[simp] theorem isNo_me (m : MI) (o : E) (es : List E) : (E.me m o es).isNo = false := rfl
@[simp] theorem endD_int (i : Int) : endD (.int i) = some (some i) := rfl
/-- a call's answer, with no list handed back -/
def noIo (r : D × List D) : Option D := match r.2 with
  | [] => some r.1
  | _ => none
@[simp] theorem noIo_nil (d : D) : noIo (d, []) = some d := rfl
@[simp] theorem ev_call (f : Nat) (es : List E) : ev F G (.call f es) s = (evs F G es s).bind fun xs => (F f xs).bind noIo := by
  simp only [ev]
  rfl
def noIoL (r : D × List D) : Option D := match r.2 with
  | [] => if noL r.1 then some r.1 else none
  | _ => none
@[simp] theorem noIoL_nil (d : D) : noIoL (d, []) = if noL d = true then some d else none := rfl
@[simp] theorem ev_callb (f : Nat) (es : List E) : ev F G (.callb f es) s = (evs F G es s).bind fun xs => (F f xs).bind noIoL := by
  simp only [ev]
  rfl
@[simp] theorem ev_bi (f : BI) (es : List E) : ev F G (.bi f es) s = (evs F G es s).bind fun xs => biD f xs := by simp only [ev]
/-- a comprehension's turn -/
def lcT (F : Fc) (G : Nat → Option D) (is : List Nat) (c e : E) (s : Env) (x : D) : Option (Option D) := (tgD is x (wipeE s is)).bind fun s2 => (ev F G c s2).bind fun k => ifD k ((ev F G e s2).map some) (some none)
theorem lcT_eq (is : List Nat) (c e : E) (s : Env) : (fun x => (tgD is x (wipeE s is)).bind fun s2 => (ev F G c s2).bind fun k => match k with
        | .bl true => (ev F G e s2).map some
        | .bl false => some none
        | _ => none) = lcT F G is c e s := by
  rfl
@[simp] theorem ev_lc (is : List Nat) (it c e : E) : ev F G (.lc is it c e) s = (ev F G it s).bind fun l => (itD l).bind fun xs => (lcD (lcT F G is c e s) xs).bind fun r => if r.length ≤ sizeLine then some (.lst r) else none := by
  simp only [ev]
  rfl
@[simp] theorem ev_lcr (i : Nat) (es : List E) (c e : E) : ev F G (.lcr i es c e) s = (evs F G es s).bind fun l => (rngD l).bind fun xs => (lcD (lcT F G [i] c e s) xs).bind fun r => if r.length ≤ sizeLine then some (.lst r) else none := by
  simp only [ev]
  rfl
@[simp] theorem evs_nil : evs F G [] s = some [] := by simp only [evs]
@[simp] theorem evs_cons (e : E) (es : List E) : evs F G (e :: es) s = (ev F G e s).bind fun x => (evs F G es s).map (x :: ·) := by simp only [evs]
/-! values -/
@[simp] theorem shd_sh (d : D) : Sl.shd (.sh d) = some d := rfl
@[simp] theorem own_ow (d : D) : Sl.own (.ow d) = some d := rfl
@[simp] theorem add_int (a b : Int) : binD .add (.int a) (.int b) = some (.int (a + b)) := rfl
@[simp] theorem sub_int (a b : Int) : binD .sub (.int a) (.int b) = some (.int (a - b)) := rfl
theorem mul_r (a b : Int) (h1 : -18446744073709551616 < b) (h2 : b < 18446744073709551616) : binD .mul (.int a) (.int b) = some (.int (a * b)) := by
  show (if (-(2 ^ 64) < a ∧ a < 2 ^ 64) ∨ (-(2 ^ 64) < b ∧ b < 2 ^ 64) then some (D.int (a * b)) else none) = _
  rw [if_pos (Or.inr (by omega))]
theorem mul_l (a b : Int) (h1 : -18446744073709551616 < a) (h2 : a < 18446744073709551616) : binD .mul (.int a) (.int b) = some (.int (a * b)) := by
  show (if (-(2 ^ 64) < a ∧ a < 2 ^ 64) ∨ (-(2 ^ 64) < b ∧ b < 2 ^ 64) then some (D.int (a * b)) else none) = _
  rw [if_pos (Or.inl (by omega))]
@[simp] theorem mod_pos (a b : Int) (h : 0 < b) : binD .mod (.int a) (.int b) = some (.int (a % b)) := by
  show (if b ≠ 0 then some (D.int (a.fmod b)) else none) = _
  rw [if_pos (by omega), Int.fmod_eq_emod_of_nonneg a (by omega)]
@[simp] theorem fdiv_pos (a b : Int) (h : 0 < b) (h2 : b < 1073741824) : binD .fdiv (.int a) (.int b) = some (.int (a / b)) := by
  show (if b ≠ 0 ∧ b.natAbs < 1073741824 then some (D.int (a.fdiv b)) else none) = _
  rw [if_pos (by omega), Int.fdiv_eq_ediv_of_nonneg a (by omega)]
theorem fdiv_ne (a b : Int) (h : b ≠ 0) (h1 : -1073741824 < b) (h2 : b < 1073741824) : binD .fdiv (.int a) (.int b) = some (.int (a.fdiv b)) := by
  show (if b ≠ 0 ∧ b.natAbs < 1073741824 then some (D.int (a.fdiv b)) else none) = _
  rw [if_pos (by omega)]
theorem add_str (a b : Str) (h : a.length + b.length ≤ sizeLine) : binD .add (.str a) (.str b) = some (.str (a ++ b)) := by
  show (if a.length + b.length ≤ sizeLine then some (D.str (a ++ b)) else none) = _
  rw [if_pos h]
@[simp] theorem lt_int (a b : Int) : cmpD .lt (.int a) (.int b) = some (decide (a < b)) := rfl
@[simp] theorem le_int (a b : Int) : cmpD .le (.int a) (.int b) = some (decide (a ≤ b)) := rfl
@[simp] theorem gt_int (a b : Int) : cmpD .gt (.int a) (.int b) = some (decide (b < a)) := rfl
@[simp] theorem ge_int (a b : Int) : cmpD .ge (.int a) (.int b) = some (decide (b ≤ a)) := rfl
@[simp] theorem is_non_non : cmpD .is_ .non .non = some true := rfl
@[simp] theorem is_bl_bl (a b : Bool) : cmpD .is_ (.bl a) (.bl b) = some (a == b) := rfl
@[simp] theorem is_int_non (i : Int) : cmpD .is_ (.int i) .non = some false := rfl
@[simp] theorem is_str_non (i : Str) : cmpD .is_ (.str i) .non = some false := rfl
@[simp] theorem is_tup_non (i : List D) : cmpD .is_ (.tup i) .non = some false := rfl
@[simp] theorem is_lst_non (i : List D) : cmpD .is_ (.lst i) .non = some false := rfl
@[simp] theorem is_bl_non (i : Bool) : cmpD .is_ (.bl i) .non = some false := rfl
@[simp] theorem isnot_non_non : cmpD .isnot .non .non = some false := rfl
@[simp] theorem isnot_int_non (i : Int) : cmpD .isnot (.int i) .non = some true := rfl
@[simp] theorem isnot_str_non (i : Str) : cmpD .isnot (.str i) .non = some true := rfl
@[simp] theorem isnot_tup_non (i : List D) : cmpD .isnot (.tup i) .non = some true := rfl
@[simp] theorem isnot_lst_non (i : List D) : cmpD .isnot (.lst i) .non = some true := rfl
@[simp] theorem isnot_bl_non (i : Bool) : cmpD .isnot (.bl i) .non = some true := rfl
@[simp] theorem cmp_eq (a b : D) : cmpD .eq a b = eqD a b := by cases a <;> rfl
@[simp] theorem cmp_ne (a b : D) : cmpD .ne a b = (eqD a b).map (!·) := by cases a <;> rfl
/-- flat data are compared -/
@[simp] theorem eq_int (a b : Int) : eqD (.int a) (.int b) = some (decide (a = b)) := by
  show some (a == b) = _
  rw [Bool.beq_eq_decide_eq]
@[simp] theorem eq_str (a b : Str) : eqD (.str a) (.str b) = some (decide (a = b)) := by
  show some (a == b) = _
  rw [Bool.beq_eq_decide_eq]
@[simp] theorem eq_bl (a b : Bool) : eqD (.bl a) (.bl b) = some (a == b) := rfl
@[simp] theorem eq_non : eqD .non .non = some true := rfl
@[simp] theorem eq_int_str (a : Int) (b : Str) : eqD (.int a) (.str b) = some false := rfl
@[simp] theorem eq_str_int (a : Int) (b : Str) : eqD (.str b) (.int a) = some false := rfl
@[simp] theorem eq_non_str (b : Str) : eqD .non (.str b) = some false := rfl
@[simp] theorem eq_str_non (b : Str) : eqD (.str b) .non = some false := rfl
@[simp] theorem eq_non_int (b : Int) : eqD .non (.int b) = some false := rfl
@[simp] theorem eq_int_non (b : Int) : eqD (.int b) .non = some false := rfl
@[simp] theorem len_tup (xs : List D) : biD .len [.tup xs] = some (.int xs.length) := rfl
@[simp] theorem len_lst (xs : List D) : biD .len [.lst xs] = some (.int xs.length) := rfl
@[simp] theorem len_fls (xs : List D) : biD .len [.fls xs] = some (.int xs.length) := rfl
theorem len_str (z : Str) (h : z.length ≤ sizeLine) : biD .len [.str z] = some (.int z.length) := if_pos h
@[simp] theorem abs_int (i : Int) : biD .abs [.int i] = some (.int i.natAbs) := by
  show some (D.int (if i < 0 then -i else i)) = _
  congr 2
  split <;> omega
@[simp] theorem int_int (i : Int) : biD .int_ [.int i] = some (.int i) := rfl
@[simp] theorem int_bl (k : Bool) : biD .int_ [.bl k] = some (.int (if k then 1 else 0)) := rfl
@[simp] theorem tuple_lst (xs : List D) : biD .tuple_ [.lst xs] = some (.tup xs) := rfl
@[simp] theorem tuple_tup (xs : List D) : biD .tuple_ [.tup xs] = some (.tup xs) := rfl
@[simp] theorem list_lst (xs : List D) : biD .list_ [.lst xs] = some (.lst xs) := rfl
@[simp] theorem list_tup (xs : List D) : biD .list_ [.tup xs] = some (.lst xs) := rfl
@[simp] theorem max_int (i j : Int) : biD .max_ [.int i, .int j] = some (.int (max i j)) := by
  show some (D.int (if j > i then j else i)) = _
  congr 2
  split <;> omega
@[simp] theorem min_int (i j : Int) : biD .min_ [.int i, .int j] = some (.int (min i j)) := by
  show some (D.int (if j < i then j else i)) = _
  congr 2
  split <;> omega
@[simp] theorem isint_int (i : Int) : biD .isint [.int i] = some (.bl true) := rfl
@[simp] theorem isint_bl (i : Bool) : biD .isint [.bl i] = some (.bl true) := rfl
@[simp] theorem isint_str (i : Str) : biD .isint [.str i] = some (.bl false) := rfl
@[simp] theorem isint_tup (i : List D) : biD .isint [.tup i] = some (.bl false) := rfl
@[simp] theorem isint_lst (i : List D) : biD .isint [.lst i] = some (.bl false) := rfl
@[simp] theorem isint_non : biD .isint [.non] = some (.bl false) := rfl
@[simp] theorem isbool_int (i : Int) : biD .isbool [.int i] = some (.bl false) := rfl
@[simp] theorem isbool_bl (i : Bool) : biD .isbool [.bl i] = some (.bl true) := rfl
@[simp] theorem isbool_str (i : Str) : biD .isbool [.str i] = some (.bl false) := rfl
@[simp] theorem isbool_tup (i : List D) : biD .isbool [.tup i] = some (.bl false) := rfl
@[simp] theorem isbool_lst (i : List D) : biD .isbool [.lst i] = some (.bl false) := rfl
@[simp] theorem isbool_non : biD .isbool [.non] = some (.bl false) := rfl
@[simp] theorem isstr_int (i : Int) : biD .isstr [.int i] = some (.bl false) := rfl
@[simp] theorem isstr_bl (i : Bool) : biD .isstr [.bl i] = some (.bl false) := rfl
@[simp] theorem isstr_str (i : Str) : biD .isstr [.str i] = some (.bl true) := rfl
@[simp] theorem isstr_tup (i : List D) : biD .isstr [.tup i] = some (.bl false) := rfl
@[simp] theorem isstr_lst (i : List D) : biD .isstr [.lst i] = some (.bl false) := rfl
@[simp] theorem isstr_non : biD .isstr [.non] = some (.bl false) := rfl
@[simp] theorem istuple_int (i : Int) : biD .istuple [.int i] = some (.bl false) := rfl
@[simp] theorem istuple_bl (i : Bool) : biD .istuple [.bl i] = some (.bl false) := rfl
@[simp] theorem istuple_str (i : Str) : biD .istuple [.str i] = some (.bl false) := rfl
@[simp] theorem istuple_tup (i : List D) : biD .istuple [.tup i] = some (.bl true) := rfl
@[simp] theorem istuple_lst (i : List D) : biD .istuple [.lst i] = some (.bl false) := rfl
@[simp] theorem istuple_non : biD .istuple [.non] = some (.bl false) := rfl
@[simp] theorem islist_int (i : Int) : biD .islist [.int i] = some (.bl false) := rfl
@[simp] theorem islist_bl (i : Bool) : biD .islist [.bl i] = some (.bl false) := rfl
@[simp] theorem islist_str (i : Str) : biD .islist [.str i] = some (.bl false) := rfl
@[simp] theorem islist_tup (i : List D) : biD .islist [.tup i] = some (.bl false) := rfl
@[simp] theorem islist_lst (i : List D) : biD .islist [.lst i] = some (.bl true) := rfl
@[simp] theorem islist_non : biD .islist [.non] = some (.bl false) := rfl
theorem str_int (i : Int) (h : i.natAbs.log2 < 1920) : biD .str_ [.int i] = some (.str (toString i)) := if_pos h
/-! subscripts -/
theorem atI_nat' {α : Type} (xs : List α) (j : Nat) : L2.atI xs (j : Int) = xs[j]? := by
  unfold L2.atI L2.ixN
  rw [if_pos (by omega)]
  by_cases h : j < xs.length
  · rw [if_pos (by omega)]
    simp
  · rw [if_neg (by omega)]
    simp [Nat.le_of_not_lt h]
@[simp] theorem ix_tup (xs : List D) (i : Int) : ixD (.tup xs) (.int i) = L2.atI xs i := rfl
theorem ix_lst (xs : List D) (i : Int) : ixD (.lst xs) (.int i) = L2.atI xs i := rfl
@[simp] theorem ix_lsts (x : D) (xs : List D) (i : Int) : ixD (.lst (x :: xs)) (.int i) = L2.atI (x :: xs) i := rfl
@[simp] theorem atI_0 {α : Type} (xs : List α) : L2.atI xs 0 = xs[0]? := atI_nat' xs 0
@[simp] theorem atI_1 {α : Type} (xs : List α) : L2.atI xs 1 = xs[1]? := atI_nat' xs 1
@[simp] theorem atI_2 {α : Type} (xs : List α) : L2.atI xs 2 = xs[2]? := atI_nat' xs 2
@[simp] theorem atI_3 {α : Type} (xs : List α) : L2.atI xs 3 = xs[3]? := atI_nat' xs 3
@[simp] theorem atI_4 {α : Type} (xs : List α) : L2.atI xs 4 = xs[4]? := atI_nat' xs 4
@[simp] theorem atI_5 {α : Type} (xs : List α) : L2.atI xs 5 = xs[5]? := atI_nat' xs 5
@[simp] theorem atI_6 {α : Type} (xs : List α) : L2.atI xs 6 = xs[6]? := atI_nat' xs 6
@[simp] theorem atI_7 {α : Type} (xs : List α) : L2.atI xs 7 = xs[7]? := atI_nat' xs 7
@[simp] theorem atI_8 {α : Type} (xs : List α) : L2.atI xs 8 = xs[8]? := atI_nat' xs 8
@[simp] theorem atI_9 {α : Type} (xs : List α) : L2.atI xs 9 = xs[9]? := atI_nat' xs 9
@[simp] theorem atI_10 {α : Type} (xs : List α) : L2.atI xs 10 = xs[10]? := atI_nat' xs 10
@[simp] theorem atI_11 {α : Type} (xs : List α) : L2.atI xs 11 = xs[11]? := atI_nat' xs 11
@[simp] theorem atI_12 {α : Type} (xs : List α) : L2.atI xs 12 = xs[12]? := atI_nat' xs 12
theorem atI_in {α : Type} (xs : List α) (j : Int) (h : 0 ≤ j) (h2 : j < xs.length) : ∃ x ∈ xs, L2.atI xs j = some x := by
  obtain ⟨k, rfl⟩ := Int.eq_ofNat_of_zero_le h
  have hk : k < xs.length := by omega
  rw [atI_nat', List.getElem?_eq_getElem hk]
  exact ⟨_, List.getElem_mem hk, rfl⟩
@[simp] theorem ix_fls (xs : List D) (i : Int) : ixD (.fls xs) (.int i) = L2.atI xs i := rfl
theorem ix_str (z : Str) (i : Int) (h : z.length ≤ sizeLine) : ixD (.str z) (.int i) = (L2.atI z.cps.toList i).map fun c => .str ⟨#[c]⟩ := by
  exact if_pos h
/-- whole numbers in a list -/
theorem ix_ints (xs : List Int) (j : Int) (h : 0 ≤ j) (h2 : j < xs.length) : ixD (.lst (xs.map .int)) (.int j) = some (.int (xs.getD j.toNat 0)) := by
  obtain ⟨k, rfl⟩ := Int.eq_ofNat_of_zero_le h
  have hk : k < xs.length := by omega
  rw [ix_lst, atI_nat', List.getElem?_map, Int.toNat_natCast, List.getD_eq_getElem?_getD, List.getElem?_eq_getElem hk]
  rfl
theorem ix_sign (z : Str) (j : Int) (h : 0 ≤ j) (h2 : j < z.length) (hz : z.length ≤ sizeLine) : ∃ c : Str, ixD (.str z) (.int j) = some (.str c) ∧ c.length = 1 := by
  obtain ⟨k, rfl⟩ := Int.eq_ofNat_of_zero_le h
  have hk : k < z.cps.toList.length := by
    have : k < z.length := by omega
    rwa [Array.length_toList]
  rw [ix_str z _ hz, atI_nat', List.getElem?_eq_getElem hk]
  exact ⟨_, rfl, rfl⟩
@[simp] theorem ev_me (m : MI) (o : E) (es : List E) : ev F G (.me m o es) s = (ev F G o s).bind fun x => (evs F G es s).bind fun xs => meD m x xs := by simp only [ev]
theorem sl_str (z : Str) (lo hi : Option Int) (h : z.length ≤ sizeLine) : slD (.str z) lo hi = some (.str (L2.cutS z lo hi)) := by
  exact if_pos h
@[simp] theorem sl_lst (z : List D) (lo hi : Option Int) : slD (.lst z) lo hi = some (.lst (cutL z lo hi)) := rfl
@[simp] theorem sl_tup (z : List D) (lo hi : Option Int) : slD (.tup z) lo hi = some (.tup (cutL z lo hi)) := rfl
@[simp] theorem cmp_isin (a b : D) : cmpD .isin a b = inD a b := by cases a <;> cases b <;> rfl
@[simp] theorem cmp_notin (a b : D) : cmpD .notin a b = (inD a b).map (!·) := by cases a <;> cases b <;> rfl
@[simp] theorem flat_str (z : Str) : flatD (.str z) = true := rfl
@[simp] theorem flat_int (z : Int) : flatD (.int z) = true := rfl
@[simp] theorem flat_bl (z : Bool) : flatD (.bl z) = true := rfl
@[simp] theorem flat_non : flatD .non = true := rfl
@[simp] theorem eqF_str (a b : Str) : eqF (.str a) (.str b) = decide (a = b) := by
  show (a == b) = _
  rw [Bool.beq_eq_decide_eq]
@[simp] theorem in_tup (x : D) (ys : List D) : inD x (.tup ys) = if (flatD x && ys.all flatD) = true then some (ys.any fun y => eqF y x) else none := by cases x <;> rfl
theorem q_eq (s t : String) : (Str.ofString s = Str.ofString t) = (s = t) := by
  refine propext ⟨fun h => ?_, fun h => by rw [h]⟩
  have e := congrArg (fun z : Str => z.cps.toList) h
  rw [show (Str.ofString s).cps.toList = s.toList.map Char.toNat from TL.tl_ofString s, show (Str.ofString t).cps.toList = t.toList.map Char.toNat from TL.tl_ofString t] at e
  have inj : ∀ (a b : List Char), a.map Char.toNat = b.map Char.toNat → a = b := by
    intro a
    induction a with
    | nil => intro b h; cases b with
      | nil => rfl
      | cons c r => cases h
    | cons c r ih => intro b h; cases b with
      | nil => cases h
      | cons d r2 =>
        rw [List.map_cons, List.map_cons] at h
        injection h with h1 h2
        rw [ih r2 h2, Char.ext (UInt32.toNat_inj.mp h1)]
  exact String.toList_inj.mp (inj _ _ e)
/-! statements -/
def seqO (r : Env → Option Out) : Out → Option Out
  | .nx s => r s
  | o => some o
@[simp] theorem seqO_nx (r : Env → Option Out) (s : Env) : seqO r (.nx s) = r s := rfl
@[simp] theorem seqO_rt (r : Env → Option Out) (d : D) (s : Env) : seqO r (.rt d s) = some (.rt d s) := rfl
@[simp] theorem seqO_bk (r : Env → Option Out) (s : Env) : seqO r (.bk s) = some (.bk s) := rfl
@[simp] theorem seqO_ct (r : Env → Option Out) (s : Env) : seqO r (.ct s) = some (.ct s) := rfl
@[simp] theorem exs_nil : exs F G [] s = some (.nx s) := by simp only [exs]
@[simp] theorem exs_cons (a : S) (r : List S) : exs F G (a :: r) s = (ex F G a s).bind (seqO (exs F G r)) := by
  simp only [exs]
  rfl
@[simp] theorem ex_set (i : Nat) (e : E) : ex F G (.set i e) s = (ev F G e s).map fun d => .nx (s.set i (.sh d)) := by simp only [ex]
def setoD (i : Nat) (s : Env) : D → Option Out
  | .lst xs => some (.nx (s.set i (.ow (.lst xs))))
  | _ => none
@[simp] theorem setoD_lst (i : Nat) (xs : List D) : setoD i s (.lst xs) = some (.nx (s.set i (.ow (.lst xs)))) := rfl
@[simp] theorem ex_seto (i : Nat) (e : E) : ex F G (.seto i e) s = (ev F G e s).bind (setoD i s) := by
  simp only [ex]
  rfl
@[simp] theorem ex_unp (is : List Nat) (e : E) : ex F G (.unp is e) s = (ev F G e s).bind fun d => (tgD is d s).map .nx := by simp only [ex]
def augD (i : Nat) (o : B1) (s : Env) : D → D → Option Out
  | .int a, .int b => (binD o (.int a) (.int b)).map fun z => .nx (s.set i (.sh z))
  | _, _ => none
@[simp] theorem augD_int (i : Nat) (o : B1) (a b : Int) : augD i o s (.int a) (.int b) = (binD o (.int a) (.int b)).map fun z => .nx (s.set i (.sh z)) := rfl
@[simp] theorem ex_aug (i : Nat) (o : B1) (e : E) : ex F G (.aug i o e) s = ((s[i]?).bind Sl.shd).bind fun x => (ev F G e s).bind fun y => augD i o s x y := by
  simp only [ex]
  rfl
@[simp] theorem ex_expr (e : E) : ex F G (.expr e) s = (ev F G e s).map fun _ => .nx s := by simp only [ex]
def appD (i : Nat) (s : Env) : D → D → Option Out
  | .lst xs, d => if xs.length < sizeLine then some (.nx (s.set i (.ow (.lst (xs ++ [d]))))) else none
  | _, _ => none
@[simp] theorem appD_lst (i : Nat) (xs : List D) (d : D) : appD i s (.lst xs) d = if xs.length < sizeLine then some (.nx (s.set i (.ow (.lst (xs ++ [d]))))) else none := rfl
@[simp] theorem ex_app (i : Nat) (e : E) : ex F G (.app i e) s = ((s[i]?).bind Sl.own).bind fun x => (ev F G e s).bind fun d => appD i s x d := by
  simp only [ex]
  congr 1
  funext x
  cases x <;> rfl
def mthD (i : Nat) (s : Env) (m : OM) (xs : List D) : D → Option Out
  | .lst ds => (omD m ds xs).map fun r => .nx (s.set i (.ow (.lst r.1)))
  | _ => none
@[simp] theorem mthD_lst (i : Nat) (m : OM) (xs ds : List D) : mthD i s m xs (.lst ds) = (omD m ds xs).map fun r => .nx (s.set i (.ow (.lst r.1))) := rfl
@[simp] theorem ex_mth (i : Nat) (m : OM) (es : List E) : ex F G (.mth i m es) s = ((s[i]?).bind Sl.own).bind fun x => (evs F G es s).bind fun xs => mthD i s m xs x := by
  simp only [ex]
  rfl
def mthxD (j i : Nat) (s : Env) (m : OM) (xs : List D) : D → Option Out
  | .lst ds => (omD m ds xs).map fun r => .nx ((s.set i (.ow (.lst r.1))).set j (.sh r.2))
  | _ => none
@[simp] theorem mthxD_lst (j i : Nat) (m : OM) (xs ds : List D) : mthxD j i s m xs (.lst ds) = (omD m ds xs).map fun r => .nx ((s.set i (.ow (.lst r.1))).set j (.sh r.2)) := rfl
@[simp] theorem ex_mthx (j i : Nat) (m : OM) (es : List E) : ex F G (.mthx j i m es) s = ((s[i]?).bind Sl.own).bind fun x => (evs F G es s).bind fun xs => mthxD j i s m xs x := by
  simp only [ex]
  rfl
@[simp] theorem om_clear (ds : List D) : omD .clear ds [] = some ([], .non) := rfl
@[simp] theorem om_pop (ds : List D) : omD .pop ds [] = (ds[ds.length - 1]?).map fun d => (ds.dropLast, d) := rfl
@[simp] theorem om_reverse (ds : List D) : omD .reverse ds [] = some (ds.reverse, .non) := rfl
theorem om_insert (ds : List D) (i : Int) (d : D) (h : ds.length < 16777216) (h0 : 0 ≤ i) (h1 : i < 4611686018427387904) : omD .insert ds [.int i, d] = some (ds.take i.toNat ++ [d] ++ ds.drop i.toNat, .non) := if_pos ⟨h, h0, h1⟩
theorem om_extend (ds es : List D) (h : ds.length + es.length ≤ 16777216) : omD .extend ds [.lst es] = some (ds ++ es, .non) := if_pos h
def setsD (i : Nat) (s : Env) : D → D → D → Option Out
  | .lst xs, d, .int k => (L2.ixN xs.length k).map fun j => .nx (s.set i (.ow (.lst (xs.set j d))))
  | _, _, _ => none
@[simp] theorem setsD_lst (i : Nat) (xs : List D) (d : D) (k : Int) : setsD i s (.lst xs) d (.int k) = (L2.ixN xs.length k).map fun j => .nx (s.set i (.ow (.lst (xs.set j d)))) := rfl
@[simp] theorem ex_sets (i : Nat) (k e : E) : ex F G (.sets i k e) s = ((s[i]?).bind Sl.own).bind fun x => (ev F G e s).bind fun d => (ev F G k s).bind fun k => setsD i s x d k := by
  simp only [ex]
  congr 1
  funext x
  congr 1
  funext d
  congr 1
  funext z
  cases x <;> cases z <;> rfl
@[simp] theorem ex_ret (e : E) : ex F G (.ret e) s = (ev F G e s).map fun d => .rt d s := by simp only [ex]
@[simp] theorem ex_reto (i : Nat) : ex F G (.reto i) s = ((s[i]?).bind Sl.own).map fun d => .rt d s := by simp only [ex]
@[simp] theorem ex_retn : ex F G .retn s = some (.rt .non s) := by simp only [ex]
@[simp] theorem ex_iff (c : E) (a b : List S) : ex F G (.iff c a b) s = (ev F G c s).bind fun k => ifD k (exs F G a s) (exs F G b s) := by
  simp only [ex]
  rfl
@[simp] theorem ex_whl (c : E) (b : List S) : ex F G (.whl c b) s = whlD (ev F G c) (exs F G b) fuel s := by simp only [ex]
@[simp] theorem ex_for (is : List Nat) (it : E) (b : List S) : ex F G (.for_ is it b) s = (ev F G it s).bind fun l => (itD l).bind fun xs => forD (tgD is) (exs F G b) xs s := by simp only [ex]
@[simp] theorem ex_forr (i : Nat) (es : List E) (b : List S) : ex F G (.forr i es b) s = (evs F G es s).bind fun l => (rngD l).bind fun xs => forD (tgD [i]) (exs F G b) xs s := by simp only [ex]
@[simp] theorem ex_brk : ex F G .brk s = some (.bk s) := by simp only [ex]
@[simp] theorem ex_cnt : ex F G .cnt s = some (.ct s) := by simp only [ex]
@[simp] theorem ex_pass : ex F G .pass s = some (.nx s) := by simp only [ex]
@[simp] theorem ex_share (i : Nat) : ex F G (.share i) s = ((s[i]?).bind Sl.own).map fun d => .nx (s.set i (.sh d)) := by simp only [ex]
@[simp] theorem it_tup (xs : List D) : itD (.tup xs) = some xs := rfl
@[simp] theorem it_lst (xs : List D) : itD (.lst xs) = some xs := rfl
@[simp] theorem it_str (z : Str) : itD (.str z) = some (z.cps.toList.map fun c => .str ⟨#[c]⟩) := rfl
@[simp] theorem it_fls (xs : List D) : itD (.fls xs) = some xs := rfl
@[simp] theorem tg_one (i : Nat) (d : D) : tgD [i] d s = some (s.set i (.sh d)) := rfl
@[simp] theorem wipe_one (i : Nat) : wipeE s [i] = s.set i .un := rfl
/-! loops -/
def nxO (k : Env → Option Out) : Out → Option Out
  | .nx s => k s
  | .ct s => k s
  | .bk s => some (.nx s)
  | .rt d s => some (.rt d s)
@[simp] theorem nxO_nx (k : Env → Option Out) (s : Env) : nxO k (.nx s) = k s := rfl
@[simp] theorem nxO_ct (k : Env → Option Out) (s : Env) : nxO k (.ct s) = k s := rfl
@[simp] theorem nxO_bk (k : Env → Option Out) (s : Env) : nxO k (.bk s) = some (.nx s) := rfl
@[simp] theorem nxO_rt (k : Env → Option Out) (d : D) (s : Env) : nxO k (.rt d s) = some (.rt d s) := rfl
@[simp] theorem forD_nil (t : D → Env → Option Env) (b : Env → Option Out) : forD t b [] s = some (.nx s) := rfl
theorem forD_cons (t : D → Env → Option Env) (b : Env → Option Out) (x : D) (xs : List D) : forD t b (x :: xs) s = (t x s).bind fun s1 => (b s1).bind (nxO (forD t b xs)) := by
  rfl
@[simp] theorem lcD_nil (f : D → Option (Option D)) : lcD f [] = some [] := rfl
def consO : Option D → List D → List D
  | some y, r => y :: r
  | none, r => r
@[simp] theorem lcD_cons (f : D → Option (Option D)) (x : D) (xs : List D) : lcD f (x :: xs) = (f x).bind fun y => (lcD f xs).map (consO y) := by
  rfl
@[simp] theorem consO_some (d : D) (r : List D) : consO (some d) r = d :: r := rfl
@[simp] theorem consO_none (r : List D) : consO none r = r := rfl
/-! calls -/
def ansO : Option Out → Option (D × List D)
  | some (.nx _) => some (.non, [])
  | some (.rt d _) => some (d, [])
  | _ => none
@[simp] theorem ansO_nx (s : Env) : ansO (some (.nx s)) = some (.non, []) := rfl
@[simp] theorem ansO_rt (d : D) (s : Env) : ansO (some (.rt d s)) = some (d, []) := rfl
@[simp] theorem ansO_ite (c : Prop) [Decidable c] (x y : Option Out) : ansO (if c then x else y) = if c then ansO x else ansO y := by split <;> rfl
theorem call_of {T : Tab} {n f : Nat} {fi : Fn} {xs : List D} (h : T f = some fi) (hl : (xs ++ fi.dfl).length = fi.ps) : call T G (n + 1) f xs = ansO (exs (call T G n) G fi.body (fi.start (xs ++ fi.dfl))) := by
  show (T f).bind _ = _
  rw [h, Option.bind_some, if_pos hl]
  cases exs (call T G n) G fi.body (fi.start (xs ++ fi.dfl)) with
  | none => rfl
  | some o => cases o <;> rfl
@[simp] theorem sizeLine_lit : sizeLine = 16777216 := by decide
@[simp] theorem pow_lit (a b : Int) (h1 : 0 ≤ b) (h2 : b ≤ 1000000) (h3 : -18446744073709551616 < a) (h4 : a < 18446744073709551616) : binD .pow (.int a) (.int b) = some (.int (a ^ b.toNat)) := by
  simp only [binD]
  split
  · rfl
  · rename_i h
    omega
theorem rng_lit (m : Int) (h : 0 ≤ m) (h2 : m < 1000000) : rngD [.int m] = some ((List.range m.toNat).map fun (k : Nat) => D.int (k : Int)) := by
  simp only [rngD]
  split
  · rfl
  · rename_i h
    omega
theorem rng_nat (m : Nat) (h : m < 1000000) : rngD [.int (m : Int)] = some ((List.range m).map fun (k : Nat) => D.int (k : Int)) := by
  rw [rng_lit _ (by omega) (by omega), Int.toNat_natCast]
theorem forD_inv {t : D → PL.Env → Option PL.Env} {b : PL.Env → Option Out} (P : Nat → PL.Env → Prop) : ∀ (xs : List D) (k : Nat) (s : PL.Env), P k s →
    (∀ i s x, i < xs.length → xs[i]? = some x → P (k + i) s → ∃ s1 s2, t x s = some s1 ∧ (b s1 = some (.nx s2) ∨ b s1 = some (.ct s2)) ∧ P (k + i + 1) s2) → ∃ s', forD t b xs s = some (.nx s') ∧ P (k + xs.length) s'
  | [], k, s, h, _ => ⟨s, rfl, h⟩
  | x :: xs, k, s, h, hs => by
    obtain ⟨s1, s2, h1, h2, h3⟩ := hs 0 s x (Nat.succ_pos _) rfl h
    obtain ⟨s', e, p⟩ := forD_inv P xs (k + 1) s2 h3 fun i s y hi hy q => by
      have := hs (i + 1) s y (Nat.succ_lt_succ hi) (by simpa using hy) (by rw [← Nat.add_assoc, Nat.add_right_comm]; exact q)
      rw [show k + 1 + i + 1 = k + (i + 1) + 1 by omega]
      exact this
    refine ⟨s', ?_, by rw [List.length_cons, show k + (xs.length + 1) = k + 1 + xs.length by omega]; exact p⟩
    rw [forD_cons, h1]
    rcases h2 with h2 | h2 <;> simp [h2, e]
/-- going on -/
def toNx (P : Env → Prop) : Option Out → Prop
  | some (.nx s) => P s
  | some (.ct s) => P s
  | _ => False
@[simp] theorem toNx_nx (P : Env → Prop) (s : Env) : toNx P (some (.nx s)) = P s := rfl
@[simp] theorem toNx_ct (P : Env → Prop) (s : Env) : toNx P (some (.ct s)) = P s := rfl
@[simp] theorem toNx_ite (P : Env → Prop) (c : Prop) [Decidable c] (x y : Option Out) : toNx P (if c then x else y) = if c then toNx P x else toNx P y := by split <;> rfl
theorem for_inv {t : D → PL.Env → Option PL.Env} {b : PL.Env → Option Out} (P : Nat → PL.Env → Prop) (xs : List D) (s : PL.Env) (h : P 0 s)
    (hs : ∀ i s x, i < xs.length → xs[i]? = some x → P i s → toNx (P (i + 1)) ((t x s).bind b)) : ∃ s', forD t b xs s = some (.nx s') ∧ P xs.length s' := by
  have := forD_inv (t := t) (b := b) P xs 0 s h fun i s x hi hx hp => by
    rw [Nat.zero_add] at *
    have r := hs i s x hi hx hp
    cases ht : t x s with
    | none =>
      rw [ht] at r
      exact r.elim
    | some s1 =>
      rw [ht, Option.bind_some] at r
      cases hb : b s1 with
      | none =>
        rw [hb] at r
        exact r.elim
      | some o =>
        rw [hb] at r
        cases o with
        | nx s2 => exact ⟨s1, s2, rfl, Or.inl hb, r⟩
        | ct s2 => exact ⟨s1, s2, rfl, Or.inr hb, r⟩
        | bk s2 => exact r.elim
        | rt d s2 => exact r.elim
  rwa [Nat.zero_add] at this
/-- a loop of numbers -/
theorem for_rng {t : D → PL.Env → Option PL.Env} {b : PL.Env → Option Out} (P : Nat → PL.Env → Prop) (m : Nat) (s : PL.Env) (h : P 0 s)
    (hs : ∀ i s, i < m → P i s → toNx (P (i + 1)) ((t (.int (i : Int)) s).bind b)) : ∃ s', forD t b ((List.range m).map fun (k : Nat) => D.int (k : Int)) s = some (.nx s') ∧ P m s' := by
  have := for_inv (t := t) (b := b) P ((List.range m).map fun (k : Nat) => D.int (k : Int)) s h fun i s x hi hx hp => by
    rw [List.length_map, List.length_range] at hi
    rw [List.getElem?_map, List.getElem?_range hi] at hx
    have hx := Option.some.inj hx
    subst hx
    exact hs i s hi hp
  rwa [List.length_map, List.length_range] at this
/-- a loop over written data -/
theorem for_all {t : D → PL.Env → Option PL.Env} {b : PL.Env → Option Out} (P : PL.Env → Prop) (xs : List D) (s : PL.Env) (h : P s)
    (hs : ∀ s x, x ∈ xs → P s → toNx P ((t x s).bind b)) : ∃ s', forD t b xs s = some (.nx s') ∧ P s' :=
  for_inv (fun _ => P) xs s h fun _ s x _ hx hp => hs s x (List.mem_of_getElem? hx) hp
/-- a call answers -/
def toA (P : D → Prop) : Option (D × List D) → Prop
  | some (d, []) => P d
  | _ => False
@[simp] theorem toA_some (P : D → Prop) (d : D) : toA P (some (d, [])) = P d := rfl
@[simp] theorem toA_ite (P : D → Prop) (c : Prop) [Decidable c] (x y : Option (D × List D)) : toA P (if c then x else y) = if c then toA P x else toA P y := by split <;> rfl
theorem toA_get {P : D → Prop} {r : Option (D × List D)} (h : toA P r) : ∃ d, r = some (d, []) ∧ P d := by
  unfold toA at h
  split at h
  · exact ⟨_, rfl, h⟩
  · exact h.elim
end PL

namespace LW
open PySem PL
abbrev q (s : String) : Str := Str.ofString s
abbrev k_number_of : Nat := 0
abbrev k_run_at : Nat := 1
abbrev k_kind_of : Nat := 2
abbrev k_token_at : Nat := 3
abbrev k_row_end : Nat := 4
abbrev k_token_list : Nat := 5
abbrev k_law_cell : Nat := 6
abbrev k_law_draws : Nat := 7
abbrev k_law_is_integer : Nat := 8
abbrev k_law_names : Nat := 9
abbrev k_law_keywords : Nat := 10
abbrev k_law_signs : Nat := 11
abbrev k_law_number : Nat := 12
abbrev k_law_long : Nat := 13
abbrev k_law_token : Nat := 14
abbrev k_law_remark : Nat := 15
abbrev k_law_gap : Nat := 16
abbrev k_law_joined : Nat := 17
abbrev k_law_moved : Nat := 18
abbrev k_law_same : Nat := 19
abbrev k_law_bad : Nat := 20
abbrev k_law_tokens : Nat := 21
abbrev k_law : Nat := 22
def b_number_of_0 : List S := [.iff (.cmp .notin (.var 3) (.gl 1)) [.ret (.c (.non))] []]
/-- number_of -/
def f_number_of : Fn := ⟨(q "number_of"), [(q "word"), (q "signed"), (q "digits"), (q "char")], 2, [.bl false], true, [
    .set 2 (.var 0),
    .iff (.an (.var 1) (.an (.cmp .eq (.sl (.var 0) .nohi (.c (.int 1))) (.c (.str (q "-")))) (.cmp .ne (.var 0) (.c (.str (q "-0")))))) [.set 2 (.sl (.var 0) (.c (.int 1)) .nohi)] [],
    .iff (.orr (.cmp .eq (.var 2) (.c (.str (q "")))) (.cmp .gt (.bi .len [(.var 2)]) (.c (.int 9)))) [.ret (.c (.non))] [],
    .for_ [3] (.var 2) b_number_of_0,
    .iff (.an (.cmp .eq (.ix (.var 2) (.c (.int 0))) (.c (.str (q "0")))) (.cmp .gt (.bi .len [(.var 2)]) (.c (.int 1)))) [.ret (.c (.non))] [],
    .iff (.cmp .ne (.var 2) (.var 0)) [.ret (.neg (.bi .int_ [(.var 2)]))] [],
    .ret (.bi .int_ [(.var 2)])]⟩
def b_run_at_0 : List S := [.aug 2 .add (.c (.int 1))]
/-- run_at -/
def f_run_at : Fn := ⟨(q "run_at"), [(q "text"), (q "at"), (q "behind")], 2, [], true, [
    .set 2 (.var 1),
    .whl (.an (.cmp .lt (.var 2) (.bi .len [(.var 0)])) (.orr (.cmp .isin (.ix (.var 0) (.var 2)) (.gl 0)) (.cmp .isin (.ix (.var 0) (.var 2)) (.gl 1)))) b_run_at_0,
    .ret (.sl (.var 0) (.var 1) (.var 2))]⟩
/-- kind_of -/
def f_kind_of : Fn := ⟨(q "kind_of"), [(q "run")], 1, [], true, [
    .iff (.cmp .isin (.ix (.var 0) (.c (.int 0))) (.gl 1)) [.iff (.cmp .is_ (.call k_number_of [(.var 0)]) (.c (.non))) [.ret (.c (.str (q "bad")))] [], .ret (.c (.str (q "number")))] [],
    .iff (.cmp .isin (.var 0) (.gl 2)) [.ret (.c (.str (q "keyword")))] [],
    .iff (.cmp .gt (.bi .len [(.var 0)]) (.gl 5)) [.ret (.c (.str (q "bad")))] [],
    .ret (.c (.str (q "name")))]⟩
/-- token_at -/
def f_token_at : Fn := ⟨(q "token_at"), [(q "text"), (q "at"), (q "run")], 2, [], true, [
    .set 2 (.call k_run_at [(.var 0), (.var 1)]),
    .iff (.cmp .ne (.var 2) (.c (.str (q "")))) [.ret (.tup [(.call k_kind_of [(.var 2)]), (.var 2)])] [],
    .iff (.cmp .isin (.sl (.var 0) (.var 1) (.bin .add (.var 1) (.c (.int 2)))) (.gl 3)) [.ret (.tup [(.c (.str (q "sign"))), (.sl (.var 0) (.var 1) (.bin .add (.var 1) (.c (.int 2))))])] [],
    .iff (.cmp .isin (.ix (.var 0) (.var 1)) (.gl 4)) [.ret (.tup [(.c (.str (q "sign"))), (.ix (.var 0) (.var 1))])] [],
    .ret (.tup [(.c (.str (q "bad"))), (.ix (.var 0) (.var 1))])]⟩
/-- row_end -/
def f_row_end : Fn := ⟨(q "row_end"), [(q "text"), (q "at"), (q "found")], 2, [], false, [
    .set 2 (.me .find (.var 0) [(.c (.str (q "\n"))), (.var 1)]),
    .iff (.cmp .lt (.var 2) (.c (.int 0))) [.ret (.bi .len [(.var 0)])] [],
    .ret (.var 2)]⟩
def b_token_list_0 : List S := [.iff (.cmp .eq (.ix (.var 0) (.var 4)) (.c (.str (q "\n")))) [.aug 2 .add (.c (.int 1)), .aug 4 .add (.c (.int 1)), .set 3 (.var 4)] [.iff (.cmp .eq (.ix (.var 0) (.var 4)) (.c (.str (q " ")))) [.aug 4 .add (.c (.int 1))] [.iff (.cmp .eq (.ix (.var 0) (.var 4)) (.c (.str (q "#")))) [.set 4 (.call k_row_end [(.var 0), (.var 4)])] [.unp [5, 6] (.call k_token_at [(.var 0), (.var 4)]), .app 1 (.tup [(.var 5), (.var 6), (.var 2), (.bin .add (.bin .sub (.var 4) (.var 3)) (.c (.int 1)))]), .iff (.cmp .eq (.var 5) (.c (.str (q "bad")))) [.reto 1] [], .aug 4 .add (.bi .len [(.var 6)])]]]]
/-- token_list -/
def f_token_list : Fn := ⟨(q "token_list"), [(q "text"), (q "tokens"), (q "row"), (q "row_begin"), (q "at"), (q "kind"), (q "word")], 1, [], true, [
    .seto 1 (.lst []),
    .set 2 (.c (.int 1)),
    .set 3 (.c (.int 0)),
    .set 4 (.c (.int 0)),
    .whl (.cmp .lt (.var 4) (.bi .len [(.var 0)])) b_token_list_0,
    .app 1 (.tup [(.c (.str (q "end"))), (.c (.str (q ""))), (.var 2), (.bin .add (.bin .sub (.var 4) (.var 3)) (.c (.int 1)))]),
    .reto 1]⟩
/-- _law_cell -/
def f_law_cell : Fn := ⟨(q "_law_cell"), [(q "_law_script"), (q "_law_k")], 2, [], false, [
    .iff (.cmp .lt (.var 1) (.bi .len [(.var 0)])) [.ret (.ix (.var 0) (.var 1))] [],
    .ret (.c (.int 0))]⟩
def b_law_draws_0 : List S := [.iff (.an (.var 4) (.cmp .gt (.var 3) (.c (.int 0)))) [.app 2 (.bin .mod (.bi .int_ [(.var 3)]) (.c (.int 1000))), .set 3 (.bin .fdiv (.var 3) (.c (.int 1000)))] [.set 6 (.bin .mod (.bi .int_ [(.bin .add (.bin .add (.bi .abs [(.var 0)]) (.bin .mul (.c (.int 7919)) (.var 5))) (.c (.int 13)))]) (.c (.int 2147483647))), .set 6 (.bin .mod (.bi .int_ [(.bin .mul (.var 6) (.bin .add (.var 6) (.c (.int 48271))))]) (.c (.int 2147483629))), .set 6 (.bin .mod (.bi .int_ [(.bin .add (.bin .mul (.var 6) (.bin .add (.var 6) (.c (.int 69621)))) (.bin .mul (.c (.int 31)) (.var 5)))]) (.c (.int 2147483647))), .app 2 (.bin .mod (.bi .int_ [(.bin .fdiv (.var 6) (.c (.int 9)))]) (.c (.int 1000)))]]
/-- _law_draws -/
def f_law_draws : Fn := ⟨(q "_law_draws"), [(q "_law_cell_here"), (q "_law_many"), (q "_law_drawn"), (q "_law_rest"), (q "_law_digits"), (q "_law_k"), (q "_law_mixed")], 2, [], true, [
    .seto 2 (.lst []),
    .set 3 (.bi .abs [(.var 0)]),
    .set 4 (.cmp .ge (.var 3) (.bin .pow (.c (.int 10)) (.c (.int 18)))),
    .forr 5 [(.var 1)] b_law_draws_0,
    .reto 2]⟩
/-- _law_is_integer -/
def f_law_is_integer : Fn := ⟨(q "_law_is_integer"), [(q "_law_value")], 1, [], true, [
    .ret (.an (.bi .isint [(.var 0)]) (.nt (.bi .isbool [(.var 0)])))]⟩
/-- _law_names -/
def f_law_names : Fn := ⟨(q "_law_names"), [(q "_law_draw"), (q "_law_other"), (q "_law_pool"), (q "_law_steps"), (q "_law_step"), (q "_law_k")], 2, [], true, [
    .set 2 (.lst [(.c (.str (q "a"))), (.c (.str (q "a1"))), (.c (.str (q "b2"))), (.c (.str (q "bob"))), (.c (.str (q "a10"))), (.c (.str (q "a9"))), (.c (.str (q "door"))), (.c (.str (q "e"))), (.c (.str (q "fox"))), (.c (.str (q "g7"))), (.c (.str (q "hill"))), (.c (.str (q "ivy"))), (.c (.str (q "jam"))), (.c (.str (q "key"))), (.c (.str (q "lake"))), (.c (.str (q "moon"))), (.c (.str (q "nut"))), (.c (.str (q "oak"))), (.c (.str (q "pear"))), (.c (.str (q "quay"))), (.c (.str (q "rose"))), (.c (.str (q "sun"))), (.c (.str (q "tree"))), (.c (.str (q "urn"))), (.c (.str (q "vine"))), (.c (.str (q "well"))), (.c (.str (q "x"))), (.c (.str (q "yew"))), (.c (.str (q "zoe"))), (.c (.str (q "twelvesigns1")))]),
    .set 3 (.lst [(.c (.int 1)), (.c (.int 7)), (.c (.int 11)), (.c (.int 13)), (.c (.int 17)), (.c (.int 19)), (.c (.int 23)), (.c (.int 29))]),
    .set 4 (.ix (.var 3) (.bin .mod (.bi .int_ [(.var 1)]) (.c (.int 8)))),
    .ret (.lcr 5 [(.c (.int 30))] (.c (.bl true)) (.ix (.var 2) (.bin .mod (.bi .int_ [(.bin .add (.var 0) (.bin .mul (.var 4) (.var 5)))]) (.c (.int 30)))))]⟩
/-- _law_keywords -/
def f_law_keywords : Fn := ⟨(q "_law_keywords"), [], 0, [], true, [
    .ret (.lst [(.c (.str (q "cell"))), (.c (.str (q "line"))), (.c (.str (q "store"))), (.c (.str (q "gate"))), (.c (.str (q "wheel"))), (.c (.str (q "mark"))), (.c (.str (q "class"))), (.c (.str (q "within"))), (.c (.str (q "var"))), (.c (.str (q "deed"))), (.c (.str (q "life"))), (.c (.str (q "start"))), (.c (.str (q "at"))), (.c (.str (q "asleep"))), (.c (.str (q "open"))), (.c (.str (q "shut"))), (.c (.str (q "set"))), (.c (.str (q "tell"))), (.c (.str (q "if"))), (.c (.str (q "else"))), (.c (.str (q "while"))), (.c (.str (q "do"))), (.c (.str (q "inner"))), (.c (.str (q "hold"))), (.c (.str (q "sleep"))), (.c (.str (q "wake"))), (.c (.str (q "after"))), (.c (.str (q "stop"))), (.c (.str (q "seize"))), (.c (.str (q "of"))), (.c (.str (q "free"))), (.c (.str (q "wait"))), (.c (.str (q "put"))), (.c (.str (q "into"))), (.c (.str (q "take"))), (.c (.str (q "from"))), (.c (.str (q "make"))), (.c (.str (q "leave"))), (.c (.str (q "or"))), (.c (.str (q "and"))), (.c (.str (q "not"))), (.c (.str (q "mod"))), (.c (.str (q "none"))), (.c (.str (q "me"))), (.c (.str (q "now"))), (.c (.str (q "length"))), (.c (.str (q "first"))), (.c (.str (q "spare"))), (.c (.str (q "waiting"))), (.c (.str (q "isopen"))), (.c (.str (q "stand")))])]⟩
/-- _law_signs -/
def f_law_signs : Fn := ⟨(q "_law_signs"), [], 0, [], true, [
    .ret (.lst [(.c (.str (q "{"))), (.c (.str (q "}"))), (.c (.str (q "("))), (.c (.str (q ")"))), (.c (.str (q ","))), (.c (.str (q ";"))), (.c (.str (q "."))), (.c (.str (q "+"))), (.c (.str (q "-"))), (.c (.str (q "*"))), (.c (.str (q "/"))), (.c (.str (q "="))), (.c (.str (q "=="))), (.c (.str (q "!="))), (.c (.str (q "<"))), (.c (.str (q "<="))), (.c (.str (q ">"))), (.c (.str (q ">=")))])]⟩
/-- _law_number -/
def f_law_number : Fn := ⟨(q "_law_number"), [(q "_law_cell_here"), (q "_law_draw"), (q "_law_powers"), (q "_law_mixed")], 2, [], false, [
    .set 2 (.lst [(.c (.int 1)), (.c (.int 10)), (.c (.int 100)), (.c (.int 1000)), (.c (.int 10000)), (.c (.int 100000)), (.c (.int 1000000)), (.c (.int 10000000)), (.c (.int 100000000))]),
    .iff (.cmp .lt (.bin .mod (.bi .int_ [(.var 1)]) (.c (.int 12))) (.c (.int 3))) [.ret (.ix (.lst [(.c (.int 0)), (.c (.int 999999999)), (.c (.int 100000000))]) (.bin .mod (.bi .int_ [(.var 1)]) (.c (.int 12))))] [],
    .set 3 (.bin .mod (.bi .int_ [(.bin .mul (.bin .add (.bin .add (.bi .abs [(.var 0)]) (.var 1)) (.c (.int 1))) (.c (.int 387420489)))]) (.c (.int 1000000000))),
    .ret (.bin .fdiv (.var 3) (.ix (.var 2) (.bin .mod (.bi .int_ [(.bin .fdiv (.var 1) (.c (.int 12)))]) (.c (.int 9)))))]⟩
/-- _law_long -/
def f_law_long : Fn := ⟨(q "_law_long"), [(q "_law_names_here"), (q "_law_draw"), (q "_law_kept")], 2, [], true, [
    .set 2 (.call k_law_keywords []),
    .ret (.bin .add (.bin .add (.ix (.var 2) (.bin .mod (.bi .int_ [(.var 1)]) (.c (.int 51)))) (.ix (.var 0) (.bin .mod (.bi .int_ [(.bin .fdiv (.var 1) (.c (.int 7)))]) (.c (.int 30))))) (.c (.str (q "zq7xw0bk3rm9v5jhtpd"))))]⟩
/-- _law_token -/
def f_law_token : Fn := ⟨(q "_law_token"), [(q "_law_names_here"), (q "_law_draw"), (q "_law_cell_here"), (q "_law_pick"), (q "_law_kind")], 3, [], true, [
    .set 3 (.bi .int_ [(.bin .fdiv (.var 1) (.c (.int 5)))]),
    .set 4 (.bin .mod (.bi .int_ [(.var 1)]) (.c (.int 5))),
    .iff (.cmp .eq (.var 4) (.c (.int 0))) [.ret (.lst [(.c (.str (q "name"))), (.ix (.var 0) (.bin .mod (.bi .int_ [(.var 3)]) (.c (.int 30))))])] [],
    .iff (.cmp .eq (.var 4) (.c (.int 1))) [.ret (.lst [(.c (.str (q "keyword"))), (.ix (.call k_law_keywords []) (.bin .mod (.bi .int_ [(.var 3)]) (.c (.int 51))))])] [],
    .iff (.cmp .eq (.var 4) (.c (.int 2))) [.ret (.lst [(.c (.str (q "number"))), (.bi .str_ [(.call k_law_number [(.var 2), (.var 3)])])])] [],
    .iff (.cmp .eq (.var 4) (.c (.int 3))) [.ret (.lst [(.c (.str (q "sign"))), (.ix (.call k_law_signs []) (.bin .mod (.bi .int_ [(.var 3)]) (.c (.int 18))))])] [],
    .ret (.lst [(.c (.str (q "name"))), (.sl (.call k_law_long [(.var 0), (.var 3)]) .nohi (.c (.int 12)))])]⟩
/-- _law_remark -/
def f_law_remark : Fn := ⟨(q "_law_remark"), [(q "_law_draw"), (q "_law_chars"), (q "_law_first")], 1, [], true, [
    .set 1 (.c (.str (q " !\"#$&'()*+,-./0123456789:;<=>?@ABCDEFGHIJKLMNOPQRSTUVWXYZ[\\]^_`abcdefghijklmnopqrstuvwxyz{|}~\t"))),
    .set 2 (.bin .mod (.bi .int_ [(.var 0)]) (.c (.int 95))),
    .ret (.bin .add (.c (.str (q "#"))) (.sl (.var 1) (.var 2) (.bin .add (.var 2) (.bin .mod (.bi .int_ [(.bin .fdiv (.var 0) (.c (.int 95)))]) (.c (.int 8))))))]⟩
/-- _law_gap -/
def f_law_gap : Fn := ⟨(q "_law_gap"), [(q "_law_pick"), (q "_law_draw"), (q "_law_gaps")], 2, [], false, [
    .set 2 (.lst [(.c (.str (q ""))), (.c (.str (q " "))), (.c (.str (q "  "))), (.c (.str (q "\n"))), (.c (.str (q " # a;= !\n"))), (.c (.str (q "#\n"))), (.c (.str (q "\n\n"))), (.bin .add (.call k_law_remark [(.var 1)]) (.c (.str (q "\n")))), (.bin .add (.call k_law_remark [(.var 1)]) (.c (.str (q "\n  "))))]),
    .ret (.ix (.var 2) (.bin .mod (.bi .int_ [(.var 0)]) (.c (.int 9))))]⟩
/-- _law_joined -/
def f_law_joined : Fn := ⟨(q "_law_joined"), [(q "_law_before"), (q "_law_word"), (q "_law_runs")], 2, [], true, [
    .set 2 (.c (.str (q "abcdefghijklmnopqrstuvwxyz0123456789"))),
    .iff (.orr (.cmp .eq (.var 0) (.c (.str (q "")))) (.cmp .eq (.var 1) (.c (.str (q ""))))) [.ret (.c (.bl false))] [],
    .iff (.an (.cmp .isin (.ix (.var 0) (.bin .sub (.bi .len [(.var 0)]) (.c (.int 1)))) (.var 2)) (.cmp .isin (.ix (.var 1) (.c (.int 0))) (.var 2))) [.ret (.c (.bl true))] [],
    .ret (.an (.cmp .isin (.var 0) (.lst [(.c (.str (q "="))), (.c (.str (q "<"))), (.c (.str (q ">"))), (.c (.str (q "!")))])) (.cmp .eq (.ix (.var 1) (.c (.int 0))) (.c (.str (q "=")))))]⟩
def b_law_moved_0 : List S := [.set 3 (.bin .add (.var 3) (.c (.int 1))), .iff (.cmp .eq (.var 4) (.c (.str (q "\n")))) [.set 2 (.bin .add (.var 2) (.c (.int 1))), .set 3 (.c (.int 1))] []]
/-- _law_moved -/
def f_law_moved : Fn := ⟨(q "_law_moved"), [(q "_law_place"), (q "_law_text"), (q "_law_row"), (q "_law_column"), (q "_law_char")], 2, [], true, [
    .set 2 (.ix (.var 0) (.c (.int 0))),
    .set 3 (.ix (.var 0) (.c (.int 1))),
    .for_ [4] (.var 1) b_law_moved_0,
    .ret (.lst [(.var 2), (.var 3)])]⟩
def b_law_same_0 : List S := [.set 3 (.ix (.var 0) (.var 2)), .iff (.orr (.nt (.bi .istuple [(.var 3)])) (.cmp .ne (.bi .len [(.var 3)]) (.c (.int 4)))) [.ret (.c (.bl false))] [], .iff (.orr (.nt (.bi .isstr [(.ix (.var 3) (.c (.int 0)))])) (.nt (.bi .isstr [(.ix (.var 3) (.c (.int 1)))]))) [.ret (.c (.bl false))] [], .iff (.orr (.nt (.call k_law_is_integer [(.ix (.var 3) (.c (.int 2)))])) (.orr (.nt (.call k_law_is_integer [(.ix (.var 3) (.c (.int 3)))])) (.cmp .ne (.var 3) (.ix (.var 1) (.var 2))))) [.ret (.c (.bl false))] []]
/-- _law_same -/
def f_law_same : Fn := ⟨(q "_law_same"), [(q "_law_actual"), (q "_law_expected"), (q "_law_k"), (q "_law_token_here")], 2, [], true, [
    .iff (.orr (.nt (.bi .islist [(.var 0)])) (.cmp .ne (.bi .len [(.var 0)]) (.bi .len [(.var 1)]))) [.ret (.c (.bl false))] [],
    .forr 2 [(.bi .len [(.var 1)])] b_law_same_0,
    .ret (.c (.bl true))]⟩
/-- _law_bad -/
def f_law_bad : Fn := ⟨(q "_law_bad"), [(q "_law_names_here"), (q "_law_draw"), (q "_law_cell_here"), (q "_law_others"), (q "_law_pick"), (q "_law_kind"), (q "_law_number_here")], 3, [], false, [
    .set 3 (.c (.str (q "!\"$&':?@ABCDEFGHIJKLMNOPQRSTUVWXYZ[\\]^_`|~\t"))),
    .set 4 (.bi .int_ [(.bin .fdiv (.var 1) (.c (.int 6)))]),
    .set 5 (.bin .mod (.bi .int_ [(.var 1)]) (.c (.int 6))),
    .set 6 (.call k_law_number [(.var 2), (.var 4)]),
    .iff (.cmp .eq (.var 5) (.c (.int 0))) [.ret (.ix (.var 3) (.bin .mod (.bi .int_ [(.bin .add (.bin .fdiv (.var 2) (.c (.int 7))) (.var 4))]) (.c (.int 43))))] [],
    .iff (.cmp .eq (.var 5) (.c (.int 1))) [.ret (.sl (.call k_law_long [(.var 0), (.var 4)]) .nohi (.bin .add (.c (.int 13)) (.bin .mod (.bi .int_ [(.var 4)]) (.c (.int 8)))))] [],
    .iff (.cmp .eq (.var 5) (.c (.int 2))) [.ret (.bin .add (.c (.str (q "0"))) (.bi .str_ [(.var 6)]))] [],
    .iff (.cmp .eq (.var 5) (.c (.int 3))) [.ret (.bin .add (.bi .str_ [(.bin .add (.c (.int 1000000000)) (.var 6))]) (.sl (.c (.str (q "90876"))) .nohi (.bin .mod (.bi .int_ [(.var 4)]) (.c (.int 5)))))] [],
    .iff (.cmp .eq (.var 5) (.c (.int 4))) [.ret (.bin .add (.bi .str_ [(.var 6)]) (.ix (.var 0) (.bin .mod (.bi .int_ [(.var 4)]) (.c (.int 30)))))] [],
    .ret (.ix (.var 3) (.bin .mod (.bi .int_ [(.var 4)]) (.c (.int 43))))]⟩
def b_law_tokens_0 : List S := [.set 11 (.call k_law_token [(.var 0), (.ix (.var 2) (.var 10)), (.var 3)]), .set 12 (.call k_law_gap [(.ix (.var 4) (.var 10)), (.ix (.var 5) (.var 10))]), .iff (.an (.cmp .eq (.var 12) (.c (.str (q "")))) (.call k_law_joined [(.var 8), (.ix (.var 11) (.c (.int 1)))])) [.set 12 (.c (.str (q " ")))] [], .set 7 (.call k_law_moved [(.var 7), (.var 12)]), .app 9 (.tup [(.ix (.var 11) (.c (.int 0))), (.ix (.var 11) (.c (.int 1))), (.ix (.var 7) (.c (.int 0))), (.ix (.var 7) (.c (.int 1)))]), .set 6 (.bin .add (.bin .add (.var 6) (.var 12)) (.ix (.var 11) (.c (.int 1)))), .set 7 (.call k_law_moved [(.var 7), (.ix (.var 11) (.c (.int 1)))]), .set 8 (.ix (.var 11) (.c (.int 1)))]
/-- _law_tokens -/
def f_law_tokens : Fn := ⟨(q "_law_tokens"), [(q "_law_names_here"), (q "_law_many"), (q "_law_picks"), (q "_law_cell_here"), (q "_law_gaps"), (q "_law_remarks"), (q "_law_text"), (q "_law_place"), (q "_law_before"), (q "_law_expected"), (q "_law_k"), (q "_law_token_here"), (q "_law_gap_here")], 6, [], true, [
    .set 6 (.c (.str (q ""))),
    .set 7 (.lst [(.c (.int 1)), (.c (.int 1))]),
    .set 8 (.c (.str (q ""))),
    .seto 9 (.lst []),
    .forr 10 [(.var 1)] b_law_tokens_0,
    .share 9,
    .ret (.lst [(.var 6), (.var 7), (.var 8), (.var 9)])]⟩
/-- law -/
def f_law : Fn := ⟨(q "law"), [(q "_law_script"), (q "_law_heads"), (q "_law_names_here"), (q "_law_many"), (q "_law_gaps"), (q "_law_remarks"), (q "_law_number_here"), (q "_law_made"), (q "_law_before"), (q "_law_expected"), (q "_law_bad_here"), (q "_law_gap_here"), (q "_law_good"), (q "_law_place"), (q "_law_tail"), (q "_law_behind"), (q "_law_found"), (q "_law_actual")], 1, [], true, [
    .set 1 (.call k_law_draws [(.call k_law_cell [(.var 0), (.c (.int 0))]), (.c (.int 6))]),
    .set 2 (.call k_law_names [(.ix (.var 1) (.c (.int 0))), (.ix (.var 1) (.c (.int 1)))]),
    .set 3 (.bin .mod (.bi .int_ [(.ix (.var 1) (.c (.int 2)))]) (.c (.int 6))),
    .set 4 (.call k_law_draws [(.call k_law_cell [(.var 0), (.c (.int 2))]), (.c (.int 11))]),
    .set 5 (.call k_law_draws [(.call k_law_cell [(.var 0), (.c (.int 4))]), (.c (.int 11))]),
    .set 6 (.call k_law_cell [(.var 0), (.c (.int 3))]),
    .set 7 (.call k_law_tokens [(.var 2), (.var 3), (.call k_law_draws [(.call k_law_cell [(.var 0), (.c (.int 1))]), (.c (.int 5))]), (.var 6), (.var 4), (.var 5)]),
    .set 8 (.ix (.var 7) (.c (.int 2))),
    .set 9 (.ix (.var 7) (.c (.int 3))),
    .set 10 (.call k_law_bad [(.var 2), (.ix (.var 1) (.c (.int 3))), (.call k_law_cell [(.var 0), (.c (.int 5))])]),
    .set 11 (.call k_law_gap [(.ix (.var 4) (.c (.int 5))), (.ix (.var 5) (.c (.int 5)))]),
    .iff (.an (.cmp .eq (.var 11) (.c (.str (q "")))) (.call k_law_joined [(.var 8), (.var 10)])) [.set 11 (.c (.str (q " ")))] [],
    .set 12 (.bin .add (.ix (.var 7) (.c (.int 0))) (.var 11)),
    .set 13 (.call k_law_moved [(.ix (.var 7) (.c (.int 1))), (.var 11)]),
    .set 14 (.call k_law_tokens [(.var 2), (.bin .mod (.bi .int_ [(.ix (.var 1) (.c (.int 4)))]) (.c (.int 4))), (.call k_law_draws [(.call k_law_cell [(.var 0), (.c (.int 6))]), (.c (.int 3))]), (.var 6), (.sl (.var 4) (.c (.int 6)) .nohi), (.sl (.var 5) (.c (.int 6)) .nohi)]),
    .set 15 (.ix (.lst [(.ix (.var 14) (.c (.int 0))), (.ix (.var 14) (.c (.int 0))), (.bin .add (.c (.str (q "~"))) (.ix (.var 14) (.c (.int 0))))]) (.bin .mod (.bi .int_ [(.ix (.var 1) (.c (.int 5)))]) (.c (.int 3)))),
    .iff (.an (.cmp .ne (.var 15) (.c (.str (q "")))) (.call k_law_joined [(.var 10), (.var 15)])) [.set 15 (.bin .add (.c (.str (q " "))) (.var 15))] [],
    .set 16 (.bin .add (.var 9) (.lst [(.tup [(.c (.str (q "bad"))), (.var 10), (.ix (.var 13) (.c (.int 0))), (.ix (.var 13) (.c (.int 1)))])])),
    .seto 17 (.call k_token_list [(.bin .add (.bin .add (.var 12) (.var 10)) (.var 15))]),
    .iff (.nt (.callb k_law_same [(.rd 17), (.var 16)])) [.ret (.c (.bl false))] [],
    .mth 17 .clear [],
    .iff (.nt (.call k_law_same [(.call k_token_list [(.var 12)]), (.bin .add (.var 9) (.lst [(.tup [(.c (.str (q "end"))), (.c (.str (q ""))), (.ix (.var 13) (.c (.int 0))), (.ix (.var 13) (.c (.int 1)))])]))])) [.ret (.c (.bl false))] [],
    .ret (.an (.call k_law_same [(.call k_token_list [(.bin .add (.bin .add (.var 12) (.var 10)) (.var 15))]), (.var 16)]) (.call k_law_same [(.call k_token_list [(.bin .add (.var 12) (.var 10))]), (.var 16)]))]⟩
def fns : List Fn := [f_number_of, f_run_at, f_kind_of, f_token_at, f_row_end, f_token_list, f_law_cell, f_law_draws, f_law_is_integer, f_law_names, f_law_keywords, f_law_signs, f_law_number, f_law_long, f_law_token, f_law_remark, f_law_gap, f_law_joined, f_law_moved, f_law_same, f_law_bad, f_law_tokens, f_law]
def gls : List (Str × D) := [((q "SMALL"), (.str (q "abcdefghijklmnopqrstuvwxyz"))), ((q "DIGITS"), (.str (q "0123456789"))), ((q "KEYWORDS"), (.tup [(.str (q "cell")), (.str (q "line")), (.str (q "store")), (.str (q "gate")), (.str (q "wheel")), (.str (q "mark")), (.str (q "class")), (.str (q "within")), (.str (q "var")), (.str (q "deed")), (.str (q "life")), (.str (q "start")), (.str (q "at")), (.str (q "asleep")), (.str (q "open")), (.str (q "shut")), (.str (q "set")), (.str (q "tell")), (.str (q "if")), (.str (q "else")), (.str (q "while")), (.str (q "do")), (.str (q "inner")), (.str (q "hold")), (.str (q "sleep")), (.str (q "wake")), (.str (q "after")), (.str (q "stop")), (.str (q "seize")), (.str (q "of")), (.str (q "free")), (.str (q "wait")), (.str (q "put")), (.str (q "into")), (.str (q "take")), (.str (q "from")), (.str (q "make")), (.str (q "leave")), (.str (q "or")), (.str (q "and")), (.str (q "not")), (.str (q "mod")), (.str (q "none")), (.str (q "me")), (.str (q "now")), (.str (q "length")), (.str (q "first")), (.str (q "spare")), (.str (q "waiting")), (.str (q "isopen")), (.str (q "stand"))])), ((q "LONG_SIGNS"), (.tup [(.str (q "==")), (.str (q "!=")), (.str (q "<=")), (.str (q ">="))])), ((q "SHORT_SIGNS"), (.str (q "{}(),;.+-*/=<>"))), ((q "MOST_CHARACTERS"), (.int 12))]
def T : Tab := fun i => fns[i]?
def G : Nat → Option D := fun i => (gls[i]?).map (·.2)
theorem T_number_of : T k_number_of = some f_number_of := rfl
theorem T_run_at : T k_run_at = some f_run_at := rfl
theorem T_kind_of : T k_kind_of = some f_kind_of := rfl
theorem T_token_at : T k_token_at = some f_token_at := rfl
theorem T_row_end : T k_row_end = some f_row_end := rfl
theorem T_token_list : T k_token_list = some f_token_list := rfl
theorem T_law_cell : T k_law_cell = some f_law_cell := rfl
theorem T_law_draws : T k_law_draws = some f_law_draws := rfl
theorem T_law_is_integer : T k_law_is_integer = some f_law_is_integer := rfl
theorem T_law_names : T k_law_names = some f_law_names := rfl
theorem T_law_keywords : T k_law_keywords = some f_law_keywords := rfl
theorem T_law_signs : T k_law_signs = some f_law_signs := rfl
theorem T_law_number : T k_law_number = some f_law_number := rfl
theorem T_law_long : T k_law_long = some f_law_long := rfl
theorem T_law_token : T k_law_token = some f_law_token := rfl
theorem T_law_remark : T k_law_remark = some f_law_remark := rfl
theorem T_law_gap : T k_law_gap = some f_law_gap := rfl
theorem T_law_joined : T k_law_joined = some f_law_joined := rfl
theorem T_law_moved : T k_law_moved = some f_law_moved := rfl
theorem T_law_same : T k_law_same = some f_law_same := rfl
theorem T_law_bad : T k_law_bad = some f_law_bad := rfl
theorem T_law_tokens : T k_law_tokens = some f_law_tokens := rfl
theorem T_law : T k_law = some f_law := rfl
@[simp] theorem G_SMALL : G 0 = some (.str (q "abcdefghijklmnopqrstuvwxyz")) := rfl
@[simp] theorem G_DIGITS : G 1 = some (.str (q "0123456789")) := rfl
@[simp] theorem G_KEYWORDS : G 2 = some (.tup [(.str (q "cell")), (.str (q "line")), (.str (q "store")), (.str (q "gate")), (.str (q "wheel")), (.str (q "mark")), (.str (q "class")), (.str (q "within")), (.str (q "var")), (.str (q "deed")), (.str (q "life")), (.str (q "start")), (.str (q "at")), (.str (q "asleep")), (.str (q "open")), (.str (q "shut")), (.str (q "set")), (.str (q "tell")), (.str (q "if")), (.str (q "else")), (.str (q "while")), (.str (q "do")), (.str (q "inner")), (.str (q "hold")), (.str (q "sleep")), (.str (q "wake")), (.str (q "after")), (.str (q "stop")), (.str (q "seize")), (.str (q "of")), (.str (q "free")), (.str (q "wait")), (.str (q "put")), (.str (q "into")), (.str (q "take")), (.str (q "from")), (.str (q "make")), (.str (q "leave")), (.str (q "or")), (.str (q "and")), (.str (q "not")), (.str (q "mod")), (.str (q "none")), (.str (q "me")), (.str (q "now")), (.str (q "length")), (.str (q "first")), (.str (q "spare")), (.str (q "waiting")), (.str (q "isopen")), (.str (q "stand"))]) := rfl
@[simp] theorem G_LONG_SIGNS : G 3 = some (.tup [(.str (q "==")), (.str (q "!=")), (.str (q "<=")), (.str (q ">="))]) := rfl
@[simp] theorem G_SHORT_SIGNS : G 4 = some (.str (q "{}(),;.+-*/=<>")) := rfl
@[simp] theorem G_MOST_CHARACTERS : G 5 = some (.int 12) := rfl

end LW

namespace LW
open PySem PL TL
/-! token_list over lists of codes -/
def st (l : List Nat) : Str := ⟨l.toArray⟩
theorem st_tl (l : List Nat) : (st l).cps.toList = l := rfl
theorem st_len (l : List Nat) : (st l).length = l.length := List.size_toArray
theorem st_inj (a b : List Nat) : (st a = st b) = (a = b) := propext ⟨fun h => by have := congrArg (fun z : Str => z.cps.toList) h; exact this, fun h => by rw [h]⟩
theorem st_app (a b : List Nat) : st a ++ st b = st (a ++ b) := ext_tl (by rw [tl_append]; rfl)
theorem st_of (z : Str) : z = st z.cps.toList := ext_tl rfl
theorem ix_st (cs : List Nat) (i : Nat) (c : Nat) (h : cs[i]? = some c) (hl : cs.length ≤ 16777216) : ixD (.str (st cs)) (.int (i : Int)) = some (.str (st [c])) := by
  rw [ix_str _ _ (by rw [st_len, sizeLine_lit]; exact hl), atI_nat', st_tl, h]
  rfl
theorem len_st (cs : List Nat) (hl : cs.length ≤ 16777216) : biD .len [.str (st cs)] = some (.int (cs.length : Int)) := by
  rw [len_str _ (by rw [st_len, sizeLine_lit]; exact hl), st_len]
theorem in_st (a : List Nat) (c : Nat) : inD (.str (st [c])) (.str (st a)) = some (decide (c ∈ a)) := by
  show some (!(Builtin.Str.occurrences (st a) (st [c]) 0 (st a).length 1).isEmpty) = _
  rw [show st [c] = ⟨#[c]⟩ from rfl, StrLaws.found_one (st a) c]
  rfl
theorem in_strs (x : Str) (L : List Str) : inD (.str x) (.tup (L.map D.str)) = some (decide (x ∈ L)) := by
  rw [in_tup, if_pos (by rw [Bool.and_eq_true]; exact ⟨rfl, List.all_eq_true.mpr fun d hd => by obtain ⟨z, _, rfl⟩ := List.mem_map.mp hd; rfl⟩)]
  congr 1
  rw [List.any_map, Bool.eq_iff_iff, List.any_eq_true, decide_eq_true_eq]
  constructor
  · rintro ⟨y, hy, e⟩
    have e : eqF (.str y) (.str x) = true := e
    rw [eqF_str, decide_eq_true_eq] at e
    exact e ▸ hy
  · intro h
    exact ⟨x, h, by show eqF (.str x) (.str x) = true; rw [eqF_str, decide_eq_true_eq]⟩
theorem sl_st (cs : List Nat) (lo hi : Option Int) (hl : cs.length ≤ 16777216) : slD (.str (st cs)) lo hi = some (.str (st ((cs.drop (HT.sIx cs.length 0 lo)).take (HT.sIx cs.length cs.length hi - HT.sIx cs.length 0 lo)))) := by
  rw [sl_str _ _ _ (by rw [st_len, sizeLine_lit]; exact hl)]
  show some (D.str ⟨((cs.drop _).take _).toArray⟩) = _
  rw [st_len]
  rfl
theorem sIx_nat (n d j : Nat) : HT.sIx n d (some (j : Int)) = min j n := by
  simp only [HT.sIx]
  split <;> omega
theorem whlD_succ (c : PL.Env → Option D) (b : PL.Env → Option Out) (n : Nat) (s : PL.Env) : whlD c b (n + 1) s = (c s).bind fun k => ifD k ((b s).bind (nxO (whlD c b n))) (some (.nx s)) := by
  rfl
def isDig (c : Nat) : Bool := decide (48 ≤ c) && decide (c ≤ 57)
def isLow (c : Nat) : Bool := decide (97 ≤ c) && decide (c ≤ 122)
def isRun (c : Nat) : Bool := isLow c || isDig c
def lowL : List Nat := [97, 98, 99, 100, 101, 102, 103, 104, 105, 106, 107, 108, 109, 110, 111, 112, 113, 114, 115, 116, 117, 118, 119, 120, 121, 122]
def digL : List Nat := [48, 49, 50, 51, 52, 53, 54, 55, 56, 57]
theorem low_mem (c : Nat) : decide (c ∈ lowL) = isLow c := by
  unfold lowL isLow
  rw [← Bool.decide_and]
  refine decide_eq_decide.mpr ?_
  simp only [List.mem_cons, List.not_mem_nil, or_false]
  omega
theorem dig_mem (c : Nat) : decide (c ∈ digL) = isDig c := by
  unfold digL isDig
  rw [← Bool.decide_and]
  refine decide_eq_decide.mpr ?_
  simp only [List.mem_cons, List.not_mem_nil, or_false]
  omega
theorem G_low : G 0 = some (.str (st lowL)) := rfl
theorem G_dig : G 1 = some (.str (st digL)) := rfl
/-! run_at -/
theorem run_body (F : Fc) (x y : Sl) (k : Int) : exs F G b_run_at_0 [x, y, .sh (.int k)] = some (.nx [x, y, .sh (.int (k + 1))]) := by
  simp -implicitDefEqProofs only [bindS, mapS, bindN, mapN, ifD_bl, bind_ite', map_ite', ev_c, ev_var, ev_rd, ev_gl, ev_tup, ev_lst, ev_bin, negD_int, ev_neg, notD_bl, ev_nt, ev_cmp, ev_chain, ev_an, ev_orr, ev_ife, ev_ix, ev_sl, isNo_nohi, isNo_c, isNo_var, isNo_bin, isNo_neg, isNo_bi, isNo_ix, isNo_call, isNo_me, endD_int, noIo_nil, ev_call, noIoL_nil, ev_callb, ev_bi, ev_lc, ev_lcr, evs_nil, evs_cons, shd_sh, own_ow, add_int, sub_int, mod_pos, fdiv_pos, lt_int, le_int, gt_int, ge_int, is_non_non, is_bl_bl, is_int_non, is_str_non, is_tup_non, is_lst_non, is_bl_non, isnot_non_non, isnot_int_non, isnot_str_non, isnot_tup_non, isnot_lst_non, isnot_bl_non, cmp_eq, cmp_ne, eq_int, eq_str, eq_bl, eq_non, eq_int_str, eq_str_int, eq_non_str, eq_str_non, eq_non_int, eq_int_non, len_tup, len_lst, len_fls, abs_int, int_int, int_bl, tuple_lst, tuple_tup, list_lst, list_tup, max_int, min_int, isint_int, isint_bl, isint_str, isint_tup, isint_lst, isint_non, isbool_int, isbool_bl, isbool_str, isbool_tup, isbool_lst, isbool_non, isstr_int, isstr_bl, isstr_str, isstr_tup, isstr_lst, isstr_non, istuple_int, istuple_bl, istuple_str, istuple_tup, istuple_lst, istuple_non, islist_int, islist_bl, islist_str, islist_tup, islist_lst, islist_non, ix_tup, ix_lsts, atI_0, atI_1, atI_2, atI_3, atI_4, atI_5, atI_6, atI_7, atI_8, atI_9, atI_10, atI_11, atI_12, ix_fls, ev_me, sl_lst, sl_tup, cmp_isin, cmp_notin, flat_str, flat_int, flat_bl, flat_non, eqF_str, in_tup, seqO_nx, seqO_rt, seqO_bk, seqO_ct, exs_nil, exs_cons, ex_set, setoD_lst, ex_seto, ex_unp, augD_int, ex_aug, ex_expr, appD_lst, ex_app, mthD_lst, ex_mth, mthxD_lst, ex_mthx, om_clear, om_pop, om_reverse, setsD_lst, ex_sets, ex_ret, ex_reto, ex_retn, ex_iff, ex_whl, ex_for, ex_forr, ex_brk, ex_cnt, ex_pass, ex_share, it_tup, it_lst, it_str, it_fls, tg_one, wipe_one, nxO_nx, nxO_ct, nxO_bk, nxO_rt, forD_nil, lcD_nil, lcD_cons, consO_some, consO_none, ansO_nx, ansO_rt, ansO_ite, sizeLine_lit, pow_lit, toNx_nx, toNx_ct, toNx_ite, toA_some, toA_ite, List.getElem?_cons_zero, List.getElem?_cons_succ, List.getElem?_nil, List.set_cons_zero, List.set_cons_succ, List.set_nil, List.length_cons, List.length_nil, List.length_map, List.length_append, List.length_range, List.length_replicate, List.map_cons, List.map_nil, List.cons_append, List.nil_append, List.append_nil, List.replicate_succ, List.replicate_zero, Nat.reduceAdd, Nat.reduceSub, Nat.reduceMul, Nat.reduceLT, Nat.reduceLeDiff, Nat.reduceEqDiff, Nat.reduceMod, Nat.reduceDiv, Nat.reducePow, Int.reduceAdd, Int.reduceSub, Int.reduceMul, Int.reduceNeg, Int.reduceLT, Int.reduceLE, Int.reduceGT, Int.reduceGE, Int.reduceEq, Int.reduceNe, Int.reduceMod, Int.reduceDiv, Int.reducePow, Int.reduceToNat, Nat.add_zero, Nat.zero_add, Nat.sub_zero, Nat.zero_le, Nat.lt_irrefl, ite_true, ite_false, Bool.not_true, Bool.not_false, Bool.true_and, Bool.false_and, Bool.and_true, Bool.and_false, Bool.true_or, Bool.false_or, Bool.or_true, Bool.or_false, Bool.false_eq_true, Bool.true_eq_false, decide_true, decide_false, decide_eq_true_eq, Bool.not_eq_true', Bool.not_eq_false', decide_eq_false_iff_not, decide_not, not_true_eq_false, not_false_eq_true, and_true, true_and, and_false, false_and, or_true, true_or, or_false, false_or, and_self, or_self, if_true, if_false, reduceCtorEq, Fn.start, Int.cast_ofNat_Int, List.all_cons, List.all_nil, List.any_cons, List.any_nil, b_run_at_0]
theorem run_loop (F : Fc) (cs : List Nat) (hl : cs.length ≤ 1000000) (x0 : Sl) : ∀ (m k n : Nat), cs.length - k ≤ m → m < n → k ≤ cs.length →
    whlD (ev F G (.an (.cmp .lt (.var 2) (.bi .len [(.var 0)])) (.orr (.cmp .isin (.ix (.var 0) (.var 2)) (.gl 0)) (.cmp .isin (.ix (.var 0) (.var 2)) (.gl 1))))) (exs F G b_run_at_0) n [.sh (.str (st cs)), x0, .sh (.int (k : Int))] = some (.nx [.sh (.str (st cs)), x0, .sh (.int ((k + ((cs.drop k).takeWhile isRun).length : Nat) : Int))])
  | m, k, 0, _, h, _ => absurd h (by omega)
  | m, k, n + 1, h1, h2, h3 => by
    rw [whlD_succ]
    by_cases hk : k < cs.length
    · obtain ⟨c, hc⟩ : ∃ c, cs[k]? = some c := ⟨cs[k], List.getElem?_eq_getElem hk⟩
      have hd : cs.drop k = c :: cs.drop (k + 1) := by
        rw [List.drop_eq_getElem_cons hk]
        rw [List.getElem?_eq_getElem hk] at hc
        rw [Option.some.inj hc]
      have hi := ix_st cs k c hc (by omega)
      have hk' : ((k : Int) < (cs.length : Int)) := by omega
      simp -implicitDefEqProofs only [bindS, mapS, bindN, mapN, ifD_bl, bind_ite', map_ite', ev_c, ev_var, ev_rd, ev_gl, ev_tup, ev_lst, ev_bin, negD_int, ev_neg, notD_bl, ev_nt, ev_cmp, ev_chain, ev_an, ev_orr, ev_ife, ev_ix, ev_sl, isNo_nohi, isNo_c, isNo_var, isNo_bin, isNo_neg, isNo_bi, isNo_ix, isNo_call, isNo_me, endD_int, noIo_nil, ev_call, noIoL_nil, ev_callb, ev_bi, ev_lc, ev_lcr, evs_nil, evs_cons, shd_sh, own_ow, add_int, sub_int, mod_pos, fdiv_pos, lt_int, le_int, gt_int, ge_int, is_non_non, is_bl_bl, is_int_non, is_str_non, is_tup_non, is_lst_non, is_bl_non, isnot_non_non, isnot_int_non, isnot_str_non, isnot_tup_non, isnot_lst_non, isnot_bl_non, cmp_eq, cmp_ne, eq_int, eq_str, eq_bl, eq_non, eq_int_str, eq_str_int, eq_non_str, eq_str_non, eq_non_int, eq_int_non, len_tup, len_lst, len_fls, abs_int, int_int, int_bl, tuple_lst, tuple_tup, list_lst, list_tup, max_int, min_int, isint_int, isint_bl, isint_str, isint_tup, isint_lst, isint_non, isbool_int, isbool_bl, isbool_str, isbool_tup, isbool_lst, isbool_non, isstr_int, isstr_bl, isstr_str, isstr_tup, isstr_lst, isstr_non, istuple_int, istuple_bl, istuple_str, istuple_tup, istuple_lst, istuple_non, islist_int, islist_bl, islist_str, islist_tup, islist_lst, islist_non, ix_tup, ix_lsts, atI_0, atI_1, atI_2, atI_3, atI_4, atI_5, atI_6, atI_7, atI_8, atI_9, atI_10, atI_11, atI_12, ix_fls, ev_me, sl_lst, sl_tup, cmp_isin, cmp_notin, flat_str, flat_int, flat_bl, flat_non, eqF_str, in_tup, seqO_nx, seqO_rt, seqO_bk, seqO_ct, exs_nil, exs_cons, ex_set, setoD_lst, ex_seto, ex_unp, augD_int, ex_aug, ex_expr, appD_lst, ex_app, mthD_lst, ex_mth, mthxD_lst, ex_mthx, om_clear, om_pop, om_reverse, setsD_lst, ex_sets, ex_ret, ex_reto, ex_retn, ex_iff, ex_whl, ex_for, ex_forr, ex_brk, ex_cnt, ex_pass, ex_share, it_tup, it_lst, it_str, it_fls, tg_one, wipe_one, nxO_nx, nxO_ct, nxO_bk, nxO_rt, forD_nil, lcD_nil, lcD_cons, consO_some, consO_none, ansO_nx, ansO_rt, ansO_ite, sizeLine_lit, pow_lit, toNx_nx, toNx_ct, toNx_ite, toA_some, toA_ite, List.getElem?_cons_zero, List.getElem?_cons_succ, List.getElem?_nil, List.set_cons_zero, List.set_cons_succ, List.set_nil, List.length_cons, List.length_nil, List.length_map, List.length_append, List.length_range, List.length_replicate, List.map_cons, List.map_nil, List.cons_append, List.nil_append, List.append_nil, List.replicate_succ, List.replicate_zero, Nat.reduceAdd, Nat.reduceSub, Nat.reduceMul, Nat.reduceLT, Nat.reduceLeDiff, Nat.reduceEqDiff, Nat.reduceMod, Nat.reduceDiv, Nat.reducePow, Int.reduceAdd, Int.reduceSub, Int.reduceMul, Int.reduceNeg, Int.reduceLT, Int.reduceLE, Int.reduceGT, Int.reduceGE, Int.reduceEq, Int.reduceNe, Int.reduceMod, Int.reduceDiv, Int.reducePow, Int.reduceToNat, Nat.add_zero, Nat.zero_add, Nat.sub_zero, Nat.zero_le, Nat.lt_irrefl, ite_true, ite_false, Bool.not_true, Bool.not_false, Bool.true_and, Bool.false_and, Bool.and_true, Bool.and_false, Bool.true_or, Bool.false_or, Bool.or_true, Bool.or_false, Bool.false_eq_true, Bool.true_eq_false, decide_true, decide_false, decide_eq_true_eq, Bool.not_eq_true', Bool.not_eq_false', decide_eq_false_iff_not, decide_not, not_true_eq_false, not_false_eq_true, and_true, true_and, and_false, false_and, or_true, true_or, or_false, false_or, and_self, or_self, if_true, if_false, reduceCtorEq, Fn.start, Int.cast_ofNat_Int, List.all_cons, List.all_nil, List.any_cons, List.any_nil, len_st cs (by omega), hk', hi, G_low, G_dig, in_st, low_mem, dig_mem]
      cases e1 : isLow c with
      | true =>
        rw [hd, List.takeWhile_cons_of_pos (by unfold isRun; rw [e1]; rfl)]
        cases m with
        | zero => omega
        | succ m =>
          have ih := run_loop F cs hl x0 m (k + 1) n (by omega) (by omega) (by omega)
          simp -implicitDefEqProofs only [bindS, mapS, bindN, mapN, ifD_bl, bind_ite', map_ite', ev_c, ev_var, ev_rd, ev_gl, ev_tup, ev_lst, ev_bin, negD_int, ev_neg, notD_bl, ev_nt, ev_cmp, ev_chain, ev_an, ev_orr, ev_ife, ev_ix, ev_sl, isNo_nohi, isNo_c, isNo_var, isNo_bin, isNo_neg, isNo_bi, isNo_ix, isNo_call, isNo_me, endD_int, noIo_nil, ev_call, noIoL_nil, ev_callb, ev_bi, ev_lc, ev_lcr, evs_nil, evs_cons, shd_sh, own_ow, add_int, sub_int, mod_pos, fdiv_pos, lt_int, le_int, gt_int, ge_int, is_non_non, is_bl_bl, is_int_non, is_str_non, is_tup_non, is_lst_non, is_bl_non, isnot_non_non, isnot_int_non, isnot_str_non, isnot_tup_non, isnot_lst_non, isnot_bl_non, cmp_eq, cmp_ne, eq_int, eq_str, eq_bl, eq_non, eq_int_str, eq_str_int, eq_non_str, eq_str_non, eq_non_int, eq_int_non, len_tup, len_lst, len_fls, abs_int, int_int, int_bl, tuple_lst, tuple_tup, list_lst, list_tup, max_int, min_int, isint_int, isint_bl, isint_str, isint_tup, isint_lst, isint_non, isbool_int, isbool_bl, isbool_str, isbool_tup, isbool_lst, isbool_non, isstr_int, isstr_bl, isstr_str, isstr_tup, isstr_lst, isstr_non, istuple_int, istuple_bl, istuple_str, istuple_tup, istuple_lst, istuple_non, islist_int, islist_bl, islist_str, islist_tup, islist_lst, islist_non, ix_tup, ix_lsts, atI_0, atI_1, atI_2, atI_3, atI_4, atI_5, atI_6, atI_7, atI_8, atI_9, atI_10, atI_11, atI_12, ix_fls, ev_me, sl_lst, sl_tup, cmp_isin, cmp_notin, flat_str, flat_int, flat_bl, flat_non, eqF_str, in_tup, seqO_nx, seqO_rt, seqO_bk, seqO_ct, exs_nil, exs_cons, ex_set, setoD_lst, ex_seto, ex_unp, augD_int, ex_aug, ex_expr, appD_lst, ex_app, mthD_lst, ex_mth, mthxD_lst, ex_mthx, om_clear, om_pop, om_reverse, setsD_lst, ex_sets, ex_ret, ex_reto, ex_retn, ex_iff, ex_whl, ex_for, ex_forr, ex_brk, ex_cnt, ex_pass, ex_share, it_tup, it_lst, it_str, it_fls, tg_one, wipe_one, nxO_nx, nxO_ct, nxO_bk, nxO_rt, forD_nil, lcD_nil, lcD_cons, consO_some, consO_none, ansO_nx, ansO_rt, ansO_ite, sizeLine_lit, pow_lit, toNx_nx, toNx_ct, toNx_ite, toA_some, toA_ite, List.getElem?_cons_zero, List.getElem?_cons_succ, List.getElem?_nil, List.set_cons_zero, List.set_cons_succ, List.set_nil, List.length_cons, List.length_nil, List.length_map, List.length_append, List.length_range, List.length_replicate, List.map_cons, List.map_nil, List.cons_append, List.nil_append, List.append_nil, List.replicate_succ, List.replicate_zero, Nat.reduceAdd, Nat.reduceSub, Nat.reduceMul, Nat.reduceLT, Nat.reduceLeDiff, Nat.reduceEqDiff, Nat.reduceMod, Nat.reduceDiv, Nat.reducePow, Int.reduceAdd, Int.reduceSub, Int.reduceMul, Int.reduceNeg, Int.reduceLT, Int.reduceLE, Int.reduceGT, Int.reduceGE, Int.reduceEq, Int.reduceNe, Int.reduceMod, Int.reduceDiv, Int.reducePow, Int.reduceToNat, Nat.add_zero, Nat.zero_add, Nat.sub_zero, Nat.zero_le, Nat.lt_irrefl, ite_true, ite_false, Bool.not_true, Bool.not_false, Bool.true_and, Bool.false_and, Bool.and_true, Bool.and_false, Bool.true_or, Bool.false_or, Bool.or_true, Bool.or_false, Bool.false_eq_true, Bool.true_eq_false, decide_true, decide_false, decide_eq_true_eq, Bool.not_eq_true', Bool.not_eq_false', decide_eq_false_iff_not, decide_not, not_true_eq_false, not_false_eq_true, and_true, true_and, and_false, false_and, or_true, true_or, or_false, false_or, and_self, or_self, if_true, if_false, reduceCtorEq, Fn.start, Int.cast_ofNat_Int, List.all_cons, List.all_nil, List.any_cons, List.any_nil, run_body]
          rw [show ((k : Int) + 1) = ((k + 1 : Nat) : Int) by omega, ih, show k + 1 + (List.takeWhile isRun (cs.drop (k + 1))).length = k + ((List.takeWhile isRun (cs.drop (k + 1))).length + 1) by omega]
      | false =>
        cases e2 : isDig c with
        | true =>
          rw [hd, List.takeWhile_cons_of_pos (by unfold isRun; rw [e1, e2]; rfl)]
          cases m with
          | zero => omega
          | succ m =>
            have ih := run_loop F cs hl x0 m (k + 1) n (by omega) (by omega) (by omega)
            simp -implicitDefEqProofs only [bindS, mapS, bindN, mapN, ifD_bl, bind_ite', map_ite', ev_c, ev_var, ev_rd, ev_gl, ev_tup, ev_lst, ev_bin, negD_int, ev_neg, notD_bl, ev_nt, ev_cmp, ev_chain, ev_an, ev_orr, ev_ife, ev_ix, ev_sl, isNo_nohi, isNo_c, isNo_var, isNo_bin, isNo_neg, isNo_bi, isNo_ix, isNo_call, isNo_me, endD_int, noIo_nil, ev_call, noIoL_nil, ev_callb, ev_bi, ev_lc, ev_lcr, evs_nil, evs_cons, shd_sh, own_ow, add_int, sub_int, mod_pos, fdiv_pos, lt_int, le_int, gt_int, ge_int, is_non_non, is_bl_bl, is_int_non, is_str_non, is_tup_non, is_lst_non, is_bl_non, isnot_non_non, isnot_int_non, isnot_str_non, isnot_tup_non, isnot_lst_non, isnot_bl_non, cmp_eq, cmp_ne, eq_int, eq_str, eq_bl, eq_non, eq_int_str, eq_str_int, eq_non_str, eq_str_non, eq_non_int, eq_int_non, len_tup, len_lst, len_fls, abs_int, int_int, int_bl, tuple_lst, tuple_tup, list_lst, list_tup, max_int, min_int, isint_int, isint_bl, isint_str, isint_tup, isint_lst, isint_non, isbool_int, isbool_bl, isbool_str, isbool_tup, isbool_lst, isbool_non, isstr_int, isstr_bl, isstr_str, isstr_tup, isstr_lst, isstr_non, istuple_int, istuple_bl, istuple_str, istuple_tup, istuple_lst, istuple_non, islist_int, islist_bl, islist_str, islist_tup, islist_lst, islist_non, ix_tup, ix_lsts, atI_0, atI_1, atI_2, atI_3, atI_4, atI_5, atI_6, atI_7, atI_8, atI_9, atI_10, atI_11, atI_12, ix_fls, ev_me, sl_lst, sl_tup, cmp_isin, cmp_notin, flat_str, flat_int, flat_bl, flat_non, eqF_str, in_tup, seqO_nx, seqO_rt, seqO_bk, seqO_ct, exs_nil, exs_cons, ex_set, setoD_lst, ex_seto, ex_unp, augD_int, ex_aug, ex_expr, appD_lst, ex_app, mthD_lst, ex_mth, mthxD_lst, ex_mthx, om_clear, om_pop, om_reverse, setsD_lst, ex_sets, ex_ret, ex_reto, ex_retn, ex_iff, ex_whl, ex_for, ex_forr, ex_brk, ex_cnt, ex_pass, ex_share, it_tup, it_lst, it_str, it_fls, tg_one, wipe_one, nxO_nx, nxO_ct, nxO_bk, nxO_rt, forD_nil, lcD_nil, lcD_cons, consO_some, consO_none, ansO_nx, ansO_rt, ansO_ite, sizeLine_lit, pow_lit, toNx_nx, toNx_ct, toNx_ite, toA_some, toA_ite, List.getElem?_cons_zero, List.getElem?_cons_succ, List.getElem?_nil, List.set_cons_zero, List.set_cons_succ, List.set_nil, List.length_cons, List.length_nil, List.length_map, List.length_append, List.length_range, List.length_replicate, List.map_cons, List.map_nil, List.cons_append, List.nil_append, List.append_nil, List.replicate_succ, List.replicate_zero, Nat.reduceAdd, Nat.reduceSub, Nat.reduceMul, Nat.reduceLT, Nat.reduceLeDiff, Nat.reduceEqDiff, Nat.reduceMod, Nat.reduceDiv, Nat.reducePow, Int.reduceAdd, Int.reduceSub, Int.reduceMul, Int.reduceNeg, Int.reduceLT, Int.reduceLE, Int.reduceGT, Int.reduceGE, Int.reduceEq, Int.reduceNe, Int.reduceMod, Int.reduceDiv, Int.reducePow, Int.reduceToNat, Nat.add_zero, Nat.zero_add, Nat.sub_zero, Nat.zero_le, Nat.lt_irrefl, ite_true, ite_false, Bool.not_true, Bool.not_false, Bool.true_and, Bool.false_and, Bool.and_true, Bool.and_false, Bool.true_or, Bool.false_or, Bool.or_true, Bool.or_false, Bool.false_eq_true, Bool.true_eq_false, decide_true, decide_false, decide_eq_true_eq, Bool.not_eq_true', Bool.not_eq_false', decide_eq_false_iff_not, decide_not, not_true_eq_false, not_false_eq_true, and_true, true_and, and_false, false_and, or_true, true_or, or_false, false_or, and_self, or_self, if_true, if_false, reduceCtorEq, Fn.start, Int.cast_ofNat_Int, List.all_cons, List.all_nil, List.any_cons, List.any_nil, run_body]
            rw [show ((k : Int) + 1) = ((k + 1 : Nat) : Int) by omega, ih, show k + 1 + (List.takeWhile isRun (cs.drop (k + 1))).length = k + ((List.takeWhile isRun (cs.drop (k + 1))).length + 1) by omega]
        | false =>
          rw [hd, List.takeWhile_cons_of_neg (by unfold isRun; rw [e1, e2]; decide)]
          simp -implicitDefEqProofs only [bindS, mapS, bindN, mapN, ifD_bl, bind_ite', map_ite', ev_c, ev_var, ev_rd, ev_gl, ev_tup, ev_lst, ev_bin, negD_int, ev_neg, notD_bl, ev_nt, ev_cmp, ev_chain, ev_an, ev_orr, ev_ife, ev_ix, ev_sl, isNo_nohi, isNo_c, isNo_var, isNo_bin, isNo_neg, isNo_bi, isNo_ix, isNo_call, isNo_me, endD_int, noIo_nil, ev_call, noIoL_nil, ev_callb, ev_bi, ev_lc, ev_lcr, evs_nil, evs_cons, shd_sh, own_ow, add_int, sub_int, mod_pos, fdiv_pos, lt_int, le_int, gt_int, ge_int, is_non_non, is_bl_bl, is_int_non, is_str_non, is_tup_non, is_lst_non, is_bl_non, isnot_non_non, isnot_int_non, isnot_str_non, isnot_tup_non, isnot_lst_non, isnot_bl_non, cmp_eq, cmp_ne, eq_int, eq_str, eq_bl, eq_non, eq_int_str, eq_str_int, eq_non_str, eq_str_non, eq_non_int, eq_int_non, len_tup, len_lst, len_fls, abs_int, int_int, int_bl, tuple_lst, tuple_tup, list_lst, list_tup, max_int, min_int, isint_int, isint_bl, isint_str, isint_tup, isint_lst, isint_non, isbool_int, isbool_bl, isbool_str, isbool_tup, isbool_lst, isbool_non, isstr_int, isstr_bl, isstr_str, isstr_tup, isstr_lst, isstr_non, istuple_int, istuple_bl, istuple_str, istuple_tup, istuple_lst, istuple_non, islist_int, islist_bl, islist_str, islist_tup, islist_lst, islist_non, ix_tup, ix_lsts, atI_0, atI_1, atI_2, atI_3, atI_4, atI_5, atI_6, atI_7, atI_8, atI_9, atI_10, atI_11, atI_12, ix_fls, ev_me, sl_lst, sl_tup, cmp_isin, cmp_notin, flat_str, flat_int, flat_bl, flat_non, eqF_str, in_tup, seqO_nx, seqO_rt, seqO_bk, seqO_ct, exs_nil, exs_cons, ex_set, setoD_lst, ex_seto, ex_unp, augD_int, ex_aug, ex_expr, appD_lst, ex_app, mthD_lst, ex_mth, mthxD_lst, ex_mthx, om_clear, om_pop, om_reverse, setsD_lst, ex_sets, ex_ret, ex_reto, ex_retn, ex_iff, ex_whl, ex_for, ex_forr, ex_brk, ex_cnt, ex_pass, ex_share, it_tup, it_lst, it_str, it_fls, tg_one, wipe_one, nxO_nx, nxO_ct, nxO_bk, nxO_rt, forD_nil, lcD_nil, lcD_cons, consO_some, consO_none, ansO_nx, ansO_rt, ansO_ite, sizeLine_lit, pow_lit, toNx_nx, toNx_ct, toNx_ite, toA_some, toA_ite, List.getElem?_cons_zero, List.getElem?_cons_succ, List.getElem?_nil, List.set_cons_zero, List.set_cons_succ, List.set_nil, List.length_cons, List.length_nil, List.length_map, List.length_append, List.length_range, List.length_replicate, List.map_cons, List.map_nil, List.cons_append, List.nil_append, List.append_nil, List.replicate_succ, List.replicate_zero, Nat.reduceAdd, Nat.reduceSub, Nat.reduceMul, Nat.reduceLT, Nat.reduceLeDiff, Nat.reduceEqDiff, Nat.reduceMod, Nat.reduceDiv, Nat.reducePow, Int.reduceAdd, Int.reduceSub, Int.reduceMul, Int.reduceNeg, Int.reduceLT, Int.reduceLE, Int.reduceGT, Int.reduceGE, Int.reduceEq, Int.reduceNe, Int.reduceMod, Int.reduceDiv, Int.reducePow, Int.reduceToNat, Nat.add_zero, Nat.zero_add, Nat.sub_zero, Nat.zero_le, Nat.lt_irrefl, ite_true, ite_false, Bool.not_true, Bool.not_false, Bool.true_and, Bool.false_and, Bool.and_true, Bool.and_false, Bool.true_or, Bool.false_or, Bool.or_true, Bool.or_false, Bool.false_eq_true, Bool.true_eq_false, decide_true, decide_false, decide_eq_true_eq, Bool.not_eq_true', Bool.not_eq_false', decide_eq_false_iff_not, decide_not, not_true_eq_false, not_false_eq_true, and_true, true_and, and_false, false_and, or_true, true_or, or_false, false_or, and_self, or_self, if_true, if_false, reduceCtorEq, Fn.start, Int.cast_ofNat_Int, List.all_cons, List.all_nil, List.any_cons, List.any_nil]
    · have hk' : ¬ ((k : Int) < (cs.length : Int)) := by omega
      rw [List.drop_eq_nil_of_le (by omega)]
      simp -implicitDefEqProofs only [bindS, mapS, bindN, mapN, ifD_bl, bind_ite', map_ite', ev_c, ev_var, ev_rd, ev_gl, ev_tup, ev_lst, ev_bin, negD_int, ev_neg, notD_bl, ev_nt, ev_cmp, ev_chain, ev_an, ev_orr, ev_ife, ev_ix, ev_sl, isNo_nohi, isNo_c, isNo_var, isNo_bin, isNo_neg, isNo_bi, isNo_ix, isNo_call, isNo_me, endD_int, noIo_nil, ev_call, noIoL_nil, ev_callb, ev_bi, ev_lc, ev_lcr, evs_nil, evs_cons, shd_sh, own_ow, add_int, sub_int, mod_pos, fdiv_pos, lt_int, le_int, gt_int, ge_int, is_non_non, is_bl_bl, is_int_non, is_str_non, is_tup_non, is_lst_non, is_bl_non, isnot_non_non, isnot_int_non, isnot_str_non, isnot_tup_non, isnot_lst_non, isnot_bl_non, cmp_eq, cmp_ne, eq_int, eq_str, eq_bl, eq_non, eq_int_str, eq_str_int, eq_non_str, eq_str_non, eq_non_int, eq_int_non, len_tup, len_lst, len_fls, abs_int, int_int, int_bl, tuple_lst, tuple_tup, list_lst, list_tup, max_int, min_int, isint_int, isint_bl, isint_str, isint_tup, isint_lst, isint_non, isbool_int, isbool_bl, isbool_str, isbool_tup, isbool_lst, isbool_non, isstr_int, isstr_bl, isstr_str, isstr_tup, isstr_lst, isstr_non, istuple_int, istuple_bl, istuple_str, istuple_tup, istuple_lst, istuple_non, islist_int, islist_bl, islist_str, islist_tup, islist_lst, islist_non, ix_tup, ix_lsts, atI_0, atI_1, atI_2, atI_3, atI_4, atI_5, atI_6, atI_7, atI_8, atI_9, atI_10, atI_11, atI_12, ix_fls, ev_me, sl_lst, sl_tup, cmp_isin, cmp_notin, flat_str, flat_int, flat_bl, flat_non, eqF_str, in_tup, seqO_nx, seqO_rt, seqO_bk, seqO_ct, exs_nil, exs_cons, ex_set, setoD_lst, ex_seto, ex_unp, augD_int, ex_aug, ex_expr, appD_lst, ex_app, mthD_lst, ex_mth, mthxD_lst, ex_mthx, om_clear, om_pop, om_reverse, setsD_lst, ex_sets, ex_ret, ex_reto, ex_retn, ex_iff, ex_whl, ex_for, ex_forr, ex_brk, ex_cnt, ex_pass, ex_share, it_tup, it_lst, it_str, it_fls, tg_one, wipe_one, nxO_nx, nxO_ct, nxO_bk, nxO_rt, forD_nil, lcD_nil, lcD_cons, consO_some, consO_none, ansO_nx, ansO_rt, ansO_ite, sizeLine_lit, pow_lit, toNx_nx, toNx_ct, toNx_ite, toA_some, toA_ite, List.getElem?_cons_zero, List.getElem?_cons_succ, List.getElem?_nil, List.set_cons_zero, List.set_cons_succ, List.set_nil, List.length_cons, List.length_nil, List.length_map, List.length_append, List.length_range, List.length_replicate, List.map_cons, List.map_nil, List.cons_append, List.nil_append, List.append_nil, List.replicate_succ, List.replicate_zero, Nat.reduceAdd, Nat.reduceSub, Nat.reduceMul, Nat.reduceLT, Nat.reduceLeDiff, Nat.reduceEqDiff, Nat.reduceMod, Nat.reduceDiv, Nat.reducePow, Int.reduceAdd, Int.reduceSub, Int.reduceMul, Int.reduceNeg, Int.reduceLT, Int.reduceLE, Int.reduceGT, Int.reduceGE, Int.reduceEq, Int.reduceNe, Int.reduceMod, Int.reduceDiv, Int.reducePow, Int.reduceToNat, Nat.add_zero, Nat.zero_add, Nat.sub_zero, Nat.zero_le, Nat.lt_irrefl, ite_true, ite_false, Bool.not_true, Bool.not_false, Bool.true_and, Bool.false_and, Bool.and_true, Bool.and_false, Bool.true_or, Bool.false_or, Bool.or_true, Bool.or_false, Bool.false_eq_true, Bool.true_eq_false, decide_true, decide_false, decide_eq_true_eq, Bool.not_eq_true', Bool.not_eq_false', decide_eq_false_iff_not, decide_not, not_true_eq_false, not_false_eq_true, and_true, true_and, and_false, false_and, or_true, true_or, or_false, false_or, and_self, or_self, if_true, if_false, reduceCtorEq, Fn.start, Int.cast_ofNat_Int, List.all_cons, List.all_nil, List.any_cons, List.any_nil, len_st cs (by omega), hk', List.takeWhile_nil]
theorem c_run_at (n : Nat) (cs : List Nat) (k : Nat) (hl : cs.length ≤ 1000000) (hk : k ≤ cs.length) : call T G (n + 1) k_run_at [.str (st cs), .int (k : Int)] = some (.str (st ((cs.drop k).takeWhile isRun)), []) := by
  rw [call_of T_run_at rfl]
  have e := run_loop (PL.call T G n) cs hl (.sh (.int (k : Int))) cs.length k fuel (by omega) (Nat.lt_of_le_of_lt hl (by decide)) hk
  have hle : ((cs.drop k).takeWhile isRun).length ≤ cs.length - k := by
    have := (List.takeWhile_prefix isRun (l := cs.drop k)).length_le
    rwa [List.length_drop] at this
  simp -implicitDefEqProofs only [bindS, mapS, bindN, mapN, ifD_bl, bind_ite', map_ite', ev_c, ev_var, ev_rd, ev_gl, ev_tup, ev_lst, ev_bin, negD_int, ev_neg, notD_bl, ev_nt, ev_cmp, ev_chain, ev_an, ev_orr, ev_ife, ev_ix, ev_sl, isNo_nohi, isNo_c, isNo_var, isNo_bin, isNo_neg, isNo_bi, isNo_ix, isNo_call, isNo_me, endD_int, noIo_nil, ev_call, noIoL_nil, ev_callb, ev_bi, ev_lc, ev_lcr, evs_nil, evs_cons, shd_sh, own_ow, add_int, sub_int, mod_pos, fdiv_pos, lt_int, le_int, gt_int, ge_int, is_non_non, is_bl_bl, is_int_non, is_str_non, is_tup_non, is_lst_non, is_bl_non, isnot_non_non, isnot_int_non, isnot_str_non, isnot_tup_non, isnot_lst_non, isnot_bl_non, cmp_eq, cmp_ne, eq_int, eq_str, eq_bl, eq_non, eq_int_str, eq_str_int, eq_non_str, eq_str_non, eq_non_int, eq_int_non, len_tup, len_lst, len_fls, abs_int, int_int, int_bl, tuple_lst, tuple_tup, list_lst, list_tup, max_int, min_int, isint_int, isint_bl, isint_str, isint_tup, isint_lst, isint_non, isbool_int, isbool_bl, isbool_str, isbool_tup, isbool_lst, isbool_non, isstr_int, isstr_bl, isstr_str, isstr_tup, isstr_lst, isstr_non, istuple_int, istuple_bl, istuple_str, istuple_tup, istuple_lst, istuple_non, islist_int, islist_bl, islist_str, islist_tup, islist_lst, islist_non, ix_tup, ix_lsts, atI_0, atI_1, atI_2, atI_3, atI_4, atI_5, atI_6, atI_7, atI_8, atI_9, atI_10, atI_11, atI_12, ix_fls, ev_me, sl_lst, sl_tup, cmp_isin, cmp_notin, flat_str, flat_int, flat_bl, flat_non, eqF_str, in_tup, seqO_nx, seqO_rt, seqO_bk, seqO_ct, exs_nil, exs_cons, ex_set, setoD_lst, ex_seto, ex_unp, augD_int, ex_aug, ex_expr, appD_lst, ex_app, mthD_lst, ex_mth, mthxD_lst, ex_mthx, om_clear, om_pop, om_reverse, setsD_lst, ex_sets, ex_ret, ex_reto, ex_retn, ex_iff, ex_whl, ex_for, ex_forr, ex_brk, ex_cnt, ex_pass, ex_share, it_tup, it_lst, it_str, it_fls, tg_one, wipe_one, nxO_nx, nxO_ct, nxO_bk, nxO_rt, forD_nil, lcD_nil, lcD_cons, consO_some, consO_none, ansO_nx, ansO_rt, ansO_ite, sizeLine_lit, pow_lit, toNx_nx, toNx_ct, toNx_ite, toA_some, toA_ite, List.getElem?_cons_zero, List.getElem?_cons_succ, List.getElem?_nil, List.set_cons_zero, List.set_cons_succ, List.set_nil, List.length_cons, List.length_nil, List.length_map, List.length_append, List.length_range, List.length_replicate, List.map_cons, List.map_nil, List.cons_append, List.nil_append, List.append_nil, List.replicate_succ, List.replicate_zero, Nat.reduceAdd, Nat.reduceSub, Nat.reduceMul, Nat.reduceLT, Nat.reduceLeDiff, Nat.reduceEqDiff, Nat.reduceMod, Nat.reduceDiv, Nat.reducePow, Int.reduceAdd, Int.reduceSub, Int.reduceMul, Int.reduceNeg, Int.reduceLT, Int.reduceLE, Int.reduceGT, Int.reduceGE, Int.reduceEq, Int.reduceNe, Int.reduceMod, Int.reduceDiv, Int.reducePow, Int.reduceToNat, Nat.add_zero, Nat.zero_add, Nat.sub_zero, Nat.zero_le, Nat.lt_irrefl, ite_true, ite_false, Bool.not_true, Bool.not_false, Bool.true_and, Bool.false_and, Bool.and_true, Bool.and_false, Bool.true_or, Bool.false_or, Bool.or_true, Bool.or_false, Bool.false_eq_true, Bool.true_eq_false, decide_true, decide_false, decide_eq_true_eq, Bool.not_eq_true', Bool.not_eq_false', decide_eq_false_iff_not, decide_not, not_true_eq_false, not_false_eq_true, and_true, true_and, and_false, false_and, or_true, true_or, or_false, false_or, and_self, or_self, if_true, if_false, reduceCtorEq, Fn.start, Int.cast_ofNat_Int, List.all_cons, List.all_nil, List.any_cons, List.any_nil, f_run_at, e, sl_st cs _ _ (by omega), sIx_nat]
  rw [Nat.min_eq_left hk, Nat.min_eq_left (by omega), Nat.add_sub_cancel_left]
  have hp := List.prefix_iff_eq_take.mp (List.takeWhile_prefix isRun (l := cs.drop k))
  rw [← hp]
end LW

namespace LW
open PySem PL TL
/-! number_of -/
def numOk (r : List Nat) : Bool := decide (r.length ≤ 9) && (r.all isDig && !(decide (r[0]? = some 48) && decide (1 < r.length)))
theorem num_body_d (F : Fc) (x y z w : Sl) (c : Nat) (h : isDig c = true) : exs F G b_number_of_0 [x, y, z, .sh (.str (st [c]))] = some (.nx [x, y, z, .sh (.str (st [c]))]) := by
  simp -implicitDefEqProofs only [bindS, mapS, bindN, mapN, ifD_bl, bind_ite', map_ite', ev_c, ev_var, ev_rd, ev_gl, ev_tup, ev_lst, ev_bin, negD_int, ev_neg, notD_bl, ev_nt, ev_cmp, ev_chain, ev_an, ev_orr, ev_ife, ev_ix, ev_sl, isNo_nohi, isNo_c, isNo_var, isNo_bin, isNo_neg, isNo_bi, isNo_ix, isNo_call, isNo_me, endD_int, noIo_nil, ev_call, noIoL_nil, ev_callb, ev_bi, ev_lc, ev_lcr, evs_nil, evs_cons, shd_sh, own_ow, add_int, sub_int, mod_pos, fdiv_pos, lt_int, le_int, gt_int, ge_int, is_non_non, is_bl_bl, is_int_non, is_str_non, is_tup_non, is_lst_non, is_bl_non, isnot_non_non, isnot_int_non, isnot_str_non, isnot_tup_non, isnot_lst_non, isnot_bl_non, cmp_eq, cmp_ne, eq_int, eq_str, eq_bl, eq_non, eq_int_str, eq_str_int, eq_non_str, eq_str_non, eq_non_int, eq_int_non, len_tup, len_lst, len_fls, abs_int, int_int, int_bl, tuple_lst, tuple_tup, list_lst, list_tup, max_int, min_int, isint_int, isint_bl, isint_str, isint_tup, isint_lst, isint_non, isbool_int, isbool_bl, isbool_str, isbool_tup, isbool_lst, isbool_non, isstr_int, isstr_bl, isstr_str, isstr_tup, isstr_lst, isstr_non, istuple_int, istuple_bl, istuple_str, istuple_tup, istuple_lst, istuple_non, islist_int, islist_bl, islist_str, islist_tup, islist_lst, islist_non, ix_tup, ix_lsts, atI_0, atI_1, atI_2, atI_3, atI_4, atI_5, atI_6, atI_7, atI_8, atI_9, atI_10, atI_11, atI_12, ix_fls, ev_me, sl_lst, sl_tup, cmp_isin, cmp_notin, flat_str, flat_int, flat_bl, flat_non, eqF_str, in_tup, seqO_nx, seqO_rt, seqO_bk, seqO_ct, exs_nil, exs_cons, ex_set, setoD_lst, ex_seto, ex_unp, augD_int, ex_aug, ex_expr, appD_lst, ex_app, mthD_lst, ex_mth, mthxD_lst, ex_mthx, om_clear, om_pop, om_reverse, setsD_lst, ex_sets, ex_ret, ex_reto, ex_retn, ex_iff, ex_whl, ex_for, ex_forr, ex_brk, ex_cnt, ex_pass, ex_share, it_tup, it_lst, it_str, it_fls, tg_one, wipe_one, nxO_nx, nxO_ct, nxO_bk, nxO_rt, forD_nil, lcD_nil, lcD_cons, consO_some, consO_none, ansO_nx, ansO_rt, ansO_ite, sizeLine_lit, pow_lit, toNx_nx, toNx_ct, toNx_ite, toA_some, toA_ite, List.getElem?_cons_zero, List.getElem?_cons_succ, List.getElem?_nil, List.set_cons_zero, List.set_cons_succ, List.set_nil, List.length_cons, List.length_nil, List.length_map, List.length_append, List.length_range, List.length_replicate, List.map_cons, List.map_nil, List.cons_append, List.nil_append, List.append_nil, List.replicate_succ, List.replicate_zero, Nat.reduceAdd, Nat.reduceSub, Nat.reduceMul, Nat.reduceLT, Nat.reduceLeDiff, Nat.reduceEqDiff, Nat.reduceMod, Nat.reduceDiv, Nat.reducePow, Int.reduceAdd, Int.reduceSub, Int.reduceMul, Int.reduceNeg, Int.reduceLT, Int.reduceLE, Int.reduceGT, Int.reduceGE, Int.reduceEq, Int.reduceNe, Int.reduceMod, Int.reduceDiv, Int.reducePow, Int.reduceToNat, Nat.add_zero, Nat.zero_add, Nat.sub_zero, Nat.zero_le, Nat.lt_irrefl, ite_true, ite_false, Bool.not_true, Bool.not_false, Bool.true_and, Bool.false_and, Bool.and_true, Bool.and_false, Bool.true_or, Bool.false_or, Bool.or_true, Bool.or_false, Bool.false_eq_true, Bool.true_eq_false, decide_true, decide_false, decide_eq_true_eq, Bool.not_eq_true', Bool.not_eq_false', decide_eq_false_iff_not, decide_not, not_true_eq_false, not_false_eq_true, and_true, true_and, and_false, false_and, or_true, true_or, or_false, false_or, and_self, or_self, if_true, if_false, reduceCtorEq, Fn.start, Int.cast_ofNat_Int, List.all_cons, List.all_nil, List.any_cons, List.any_nil, b_number_of_0, G_dig, in_st, dig_mem, h]
theorem num_body_n (F : Fc) (x y z w : Sl) (c : Nat) (h : isDig c = false) : exs F G b_number_of_0 [x, y, z, .sh (.str (st [c]))] = some (.rt .non [x, y, z, .sh (.str (st [c]))]) := by
  simp -implicitDefEqProofs only [bindS, mapS, bindN, mapN, ifD_bl, bind_ite', map_ite', ev_c, ev_var, ev_rd, ev_gl, ev_tup, ev_lst, ev_bin, negD_int, ev_neg, notD_bl, ev_nt, ev_cmp, ev_chain, ev_an, ev_orr, ev_ife, ev_ix, ev_sl, isNo_nohi, isNo_c, isNo_var, isNo_bin, isNo_neg, isNo_bi, isNo_ix, isNo_call, isNo_me, endD_int, noIo_nil, ev_call, noIoL_nil, ev_callb, ev_bi, ev_lc, ev_lcr, evs_nil, evs_cons, shd_sh, own_ow, add_int, sub_int, mod_pos, fdiv_pos, lt_int, le_int, gt_int, ge_int, is_non_non, is_bl_bl, is_int_non, is_str_non, is_tup_non, is_lst_non, is_bl_non, isnot_non_non, isnot_int_non, isnot_str_non, isnot_tup_non, isnot_lst_non, isnot_bl_non, cmp_eq, cmp_ne, eq_int, eq_str, eq_bl, eq_non, eq_int_str, eq_str_int, eq_non_str, eq_str_non, eq_non_int, eq_int_non, len_tup, len_lst, len_fls, abs_int, int_int, int_bl, tuple_lst, tuple_tup, list_lst, list_tup, max_int, min_int, isint_int, isint_bl, isint_str, isint_tup, isint_lst, isint_non, isbool_int, isbool_bl, isbool_str, isbool_tup, isbool_lst, isbool_non, isstr_int, isstr_bl, isstr_str, isstr_tup, isstr_lst, isstr_non, istuple_int, istuple_bl, istuple_str, istuple_tup, istuple_lst, istuple_non, islist_int, islist_bl, islist_str, islist_tup, islist_lst, islist_non, ix_tup, ix_lsts, atI_0, atI_1, atI_2, atI_3, atI_4, atI_5, atI_6, atI_7, atI_8, atI_9, atI_10, atI_11, atI_12, ix_fls, ev_me, sl_lst, sl_tup, cmp_isin, cmp_notin, flat_str, flat_int, flat_bl, flat_non, eqF_str, in_tup, seqO_nx, seqO_rt, seqO_bk, seqO_ct, exs_nil, exs_cons, ex_set, setoD_lst, ex_seto, ex_unp, augD_int, ex_aug, ex_expr, appD_lst, ex_app, mthD_lst, ex_mth, mthxD_lst, ex_mthx, om_clear, om_pop, om_reverse, setsD_lst, ex_sets, ex_ret, ex_reto, ex_retn, ex_iff, ex_whl, ex_for, ex_forr, ex_brk, ex_cnt, ex_pass, ex_share, it_tup, it_lst, it_str, it_fls, tg_one, wipe_one, nxO_nx, nxO_ct, nxO_bk, nxO_rt, forD_nil, lcD_nil, lcD_cons, consO_some, consO_none, ansO_nx, ansO_rt, ansO_ite, sizeLine_lit, pow_lit, toNx_nx, toNx_ct, toNx_ite, toA_some, toA_ite, List.getElem?_cons_zero, List.getElem?_cons_succ, List.getElem?_nil, List.set_cons_zero, List.set_cons_succ, List.set_nil, List.length_cons, List.length_nil, List.length_map, List.length_append, List.length_range, List.length_replicate, List.map_cons, List.map_nil, List.cons_append, List.nil_append, List.append_nil, List.replicate_succ, List.replicate_zero, Nat.reduceAdd, Nat.reduceSub, Nat.reduceMul, Nat.reduceLT, Nat.reduceLeDiff, Nat.reduceEqDiff, Nat.reduceMod, Nat.reduceDiv, Nat.reducePow, Int.reduceAdd, Int.reduceSub, Int.reduceMul, Int.reduceNeg, Int.reduceLT, Int.reduceLE, Int.reduceGT, Int.reduceGE, Int.reduceEq, Int.reduceNe, Int.reduceMod, Int.reduceDiv, Int.reducePow, Int.reduceToNat, Nat.add_zero, Nat.zero_add, Nat.sub_zero, Nat.zero_le, Nat.lt_irrefl, ite_true, ite_false, Bool.not_true, Bool.not_false, Bool.true_and, Bool.false_and, Bool.and_true, Bool.and_false, Bool.true_or, Bool.false_or, Bool.or_true, Bool.or_false, Bool.false_eq_true, Bool.true_eq_false, decide_true, decide_false, decide_eq_true_eq, Bool.not_eq_true', Bool.not_eq_false', decide_eq_false_iff_not, decide_not, not_true_eq_false, not_false_eq_true, and_true, true_and, and_false, false_and, or_true, true_or, or_false, false_or, and_self, or_self, if_true, if_false, reduceCtorEq, Fn.start, Int.cast_ofNat_Int, List.all_cons, List.all_nil, List.any_cons, List.any_nil, b_number_of_0, G_dig, in_st, dig_mem, h]
theorem num_loop (F : Fc) (x y z : Sl) : ∀ (r : List Nat) (w : Sl), (r.all isDig = true ∧ ∃ w', forD (tgD [3]) (exs F G b_number_of_0) (r.map fun c => D.str ⟨#[c]⟩) [x, y, z, w] = some (.nx [x, y, z, w'])) ∨ (r.all isDig = false ∧ ∃ s', forD (tgD [3]) (exs F G b_number_of_0) (r.map fun c => D.str ⟨#[c]⟩) [x, y, z, w] = some (.rt .non s'))
  | [], w => Or.inl ⟨rfl, w, rfl⟩
  | c :: r, w => by
    have e : (D.str ⟨#[c]⟩) = D.str (st [c]) := rfl
    cases h : isDig c with
    | true =>
      rcases num_loop F x y z r (.sh (.str (st [c]))) with ⟨h1, w', h2⟩ | ⟨h1, s', h2⟩
      · refine Or.inl ⟨by rw [List.all_cons, h, h1]; rfl, w', ?_⟩
        rw [List.map_cons, forD_cons, e]
        simp -implicitDefEqProofs only [bindS, mapS, bindN, mapN, ifD_bl, bind_ite', map_ite', ev_c, ev_var, ev_rd, ev_gl, ev_tup, ev_lst, ev_bin, negD_int, ev_neg, notD_bl, ev_nt, ev_cmp, ev_chain, ev_an, ev_orr, ev_ife, ev_ix, ev_sl, isNo_nohi, isNo_c, isNo_var, isNo_bin, isNo_neg, isNo_bi, isNo_ix, isNo_call, isNo_me, endD_int, noIo_nil, ev_call, noIoL_nil, ev_callb, ev_bi, ev_lc, ev_lcr, evs_nil, evs_cons, shd_sh, own_ow, add_int, sub_int, mod_pos, fdiv_pos, lt_int, le_int, gt_int, ge_int, is_non_non, is_bl_bl, is_int_non, is_str_non, is_tup_non, is_lst_non, is_bl_non, isnot_non_non, isnot_int_non, isnot_str_non, isnot_tup_non, isnot_lst_non, isnot_bl_non, cmp_eq, cmp_ne, eq_int, eq_str, eq_bl, eq_non, eq_int_str, eq_str_int, eq_non_str, eq_str_non, eq_non_int, eq_int_non, len_tup, len_lst, len_fls, abs_int, int_int, int_bl, tuple_lst, tuple_tup, list_lst, list_tup, max_int, min_int, isint_int, isint_bl, isint_str, isint_tup, isint_lst, isint_non, isbool_int, isbool_bl, isbool_str, isbool_tup, isbool_lst, isbool_non, isstr_int, isstr_bl, isstr_str, isstr_tup, isstr_lst, isstr_non, istuple_int, istuple_bl, istuple_str, istuple_tup, istuple_lst, istuple_non, islist_int, islist_bl, islist_str, islist_tup, islist_lst, islist_non, ix_tup, ix_lsts, atI_0, atI_1, atI_2, atI_3, atI_4, atI_5, atI_6, atI_7, atI_8, atI_9, atI_10, atI_11, atI_12, ix_fls, ev_me, sl_lst, sl_tup, cmp_isin, cmp_notin, flat_str, flat_int, flat_bl, flat_non, eqF_str, in_tup, seqO_nx, seqO_rt, seqO_bk, seqO_ct, exs_nil, exs_cons, ex_set, setoD_lst, ex_seto, ex_unp, augD_int, ex_aug, ex_expr, appD_lst, ex_app, mthD_lst, ex_mth, mthxD_lst, ex_mthx, om_clear, om_pop, om_reverse, setsD_lst, ex_sets, ex_ret, ex_reto, ex_retn, ex_iff, ex_whl, ex_for, ex_forr, ex_brk, ex_cnt, ex_pass, ex_share, it_tup, it_lst, it_str, it_fls, tg_one, wipe_one, nxO_nx, nxO_ct, nxO_bk, nxO_rt, forD_nil, lcD_nil, lcD_cons, consO_some, consO_none, ansO_nx, ansO_rt, ansO_ite, sizeLine_lit, pow_lit, toNx_nx, toNx_ct, toNx_ite, toA_some, toA_ite, List.getElem?_cons_zero, List.getElem?_cons_succ, List.getElem?_nil, List.set_cons_zero, List.set_cons_succ, List.set_nil, List.length_cons, List.length_nil, List.length_map, List.length_append, List.length_range, List.length_replicate, List.map_cons, List.map_nil, List.cons_append, List.nil_append, List.append_nil, List.replicate_succ, List.replicate_zero, Nat.reduceAdd, Nat.reduceSub, Nat.reduceMul, Nat.reduceLT, Nat.reduceLeDiff, Nat.reduceEqDiff, Nat.reduceMod, Nat.reduceDiv, Nat.reducePow, Int.reduceAdd, Int.reduceSub, Int.reduceMul, Int.reduceNeg, Int.reduceLT, Int.reduceLE, Int.reduceGT, Int.reduceGE, Int.reduceEq, Int.reduceNe, Int.reduceMod, Int.reduceDiv, Int.reducePow, Int.reduceToNat, Nat.add_zero, Nat.zero_add, Nat.sub_zero, Nat.zero_le, Nat.lt_irrefl, ite_true, ite_false, Bool.not_true, Bool.not_false, Bool.true_and, Bool.false_and, Bool.and_true, Bool.and_false, Bool.true_or, Bool.false_or, Bool.or_true, Bool.or_false, Bool.false_eq_true, Bool.true_eq_false, decide_true, decide_false, decide_eq_true_eq, Bool.not_eq_true', Bool.not_eq_false', decide_eq_false_iff_not, decide_not, not_true_eq_false, not_false_eq_true, and_true, true_and, and_false, false_and, or_true, true_or, or_false, false_or, and_self, or_self, if_true, if_false, reduceCtorEq, Fn.start, Int.cast_ofNat_Int, List.all_cons, List.all_nil, List.any_cons, List.any_nil, num_body_d F x y z w c h, h2]
      · refine Or.inr ⟨by rw [List.all_cons, h, h1]; rfl, s', ?_⟩
        rw [List.map_cons, forD_cons, e]
        simp -implicitDefEqProofs only [bindS, mapS, bindN, mapN, ifD_bl, bind_ite', map_ite', ev_c, ev_var, ev_rd, ev_gl, ev_tup, ev_lst, ev_bin, negD_int, ev_neg, notD_bl, ev_nt, ev_cmp, ev_chain, ev_an, ev_orr, ev_ife, ev_ix, ev_sl, isNo_nohi, isNo_c, isNo_var, isNo_bin, isNo_neg, isNo_bi, isNo_ix, isNo_call, isNo_me, endD_int, noIo_nil, ev_call, noIoL_nil, ev_callb, ev_bi, ev_lc, ev_lcr, evs_nil, evs_cons, shd_sh, own_ow, add_int, sub_int, mod_pos, fdiv_pos, lt_int, le_int, gt_int, ge_int, is_non_non, is_bl_bl, is_int_non, is_str_non, is_tup_non, is_lst_non, is_bl_non, isnot_non_non, isnot_int_non, isnot_str_non, isnot_tup_non, isnot_lst_non, isnot_bl_non, cmp_eq, cmp_ne, eq_int, eq_str, eq_bl, eq_non, eq_int_str, eq_str_int, eq_non_str, eq_str_non, eq_non_int, eq_int_non, len_tup, len_lst, len_fls, abs_int, int_int, int_bl, tuple_lst, tuple_tup, list_lst, list_tup, max_int, min_int, isint_int, isint_bl, isint_str, isint_tup, isint_lst, isint_non, isbool_int, isbool_bl, isbool_str, isbool_tup, isbool_lst, isbool_non, isstr_int, isstr_bl, isstr_str, isstr_tup, isstr_lst, isstr_non, istuple_int, istuple_bl, istuple_str, istuple_tup, istuple_lst, istuple_non, islist_int, islist_bl, islist_str, islist_tup, islist_lst, islist_non, ix_tup, ix_lsts, atI_0, atI_1, atI_2, atI_3, atI_4, atI_5, atI_6, atI_7, atI_8, atI_9, atI_10, atI_11, atI_12, ix_fls, ev_me, sl_lst, sl_tup, cmp_isin, cmp_notin, flat_str, flat_int, flat_bl, flat_non, eqF_str, in_tup, seqO_nx, seqO_rt, seqO_bk, seqO_ct, exs_nil, exs_cons, ex_set, setoD_lst, ex_seto, ex_unp, augD_int, ex_aug, ex_expr, appD_lst, ex_app, mthD_lst, ex_mth, mthxD_lst, ex_mthx, om_clear, om_pop, om_reverse, setsD_lst, ex_sets, ex_ret, ex_reto, ex_retn, ex_iff, ex_whl, ex_for, ex_forr, ex_brk, ex_cnt, ex_pass, ex_share, it_tup, it_lst, it_str, it_fls, tg_one, wipe_one, nxO_nx, nxO_ct, nxO_bk, nxO_rt, forD_nil, lcD_nil, lcD_cons, consO_some, consO_none, ansO_nx, ansO_rt, ansO_ite, sizeLine_lit, pow_lit, toNx_nx, toNx_ct, toNx_ite, toA_some, toA_ite, List.getElem?_cons_zero, List.getElem?_cons_succ, List.getElem?_nil, List.set_cons_zero, List.set_cons_succ, List.set_nil, List.length_cons, List.length_nil, List.length_map, List.length_append, List.length_range, List.length_replicate, List.map_cons, List.map_nil, List.cons_append, List.nil_append, List.append_nil, List.replicate_succ, List.replicate_zero, Nat.reduceAdd, Nat.reduceSub, Nat.reduceMul, Nat.reduceLT, Nat.reduceLeDiff, Nat.reduceEqDiff, Nat.reduceMod, Nat.reduceDiv, Nat.reducePow, Int.reduceAdd, Int.reduceSub, Int.reduceMul, Int.reduceNeg, Int.reduceLT, Int.reduceLE, Int.reduceGT, Int.reduceGE, Int.reduceEq, Int.reduceNe, Int.reduceMod, Int.reduceDiv, Int.reducePow, Int.reduceToNat, Nat.add_zero, Nat.zero_add, Nat.sub_zero, Nat.zero_le, Nat.lt_irrefl, ite_true, ite_false, Bool.not_true, Bool.not_false, Bool.true_and, Bool.false_and, Bool.and_true, Bool.and_false, Bool.true_or, Bool.false_or, Bool.or_true, Bool.or_false, Bool.false_eq_true, Bool.true_eq_false, decide_true, decide_false, decide_eq_true_eq, Bool.not_eq_true', Bool.not_eq_false', decide_eq_false_iff_not, decide_not, not_true_eq_false, not_false_eq_true, and_true, true_and, and_false, false_and, or_true, true_or, or_false, false_or, and_self, or_self, if_true, if_false, reduceCtorEq, Fn.start, Int.cast_ofNat_Int, List.all_cons, List.all_nil, List.any_cons, List.any_nil, num_body_d F x y z w c h, h2]
    | false =>
      refine Or.inr ⟨by rw [List.all_cons, h]; rfl, [x, y, z, .sh (.str (st [c]))], ?_⟩
      rw [List.map_cons, forD_cons, e]
      simp -implicitDefEqProofs only [bindS, mapS, bindN, mapN, ifD_bl, bind_ite', map_ite', ev_c, ev_var, ev_rd, ev_gl, ev_tup, ev_lst, ev_bin, negD_int, ev_neg, notD_bl, ev_nt, ev_cmp, ev_chain, ev_an, ev_orr, ev_ife, ev_ix, ev_sl, isNo_nohi, isNo_c, isNo_var, isNo_bin, isNo_neg, isNo_bi, isNo_ix, isNo_call, isNo_me, endD_int, noIo_nil, ev_call, noIoL_nil, ev_callb, ev_bi, ev_lc, ev_lcr, evs_nil, evs_cons, shd_sh, own_ow, add_int, sub_int, mod_pos, fdiv_pos, lt_int, le_int, gt_int, ge_int, is_non_non, is_bl_bl, is_int_non, is_str_non, is_tup_non, is_lst_non, is_bl_non, isnot_non_non, isnot_int_non, isnot_str_non, isnot_tup_non, isnot_lst_non, isnot_bl_non, cmp_eq, cmp_ne, eq_int, eq_str, eq_bl, eq_non, eq_int_str, eq_str_int, eq_non_str, eq_str_non, eq_non_int, eq_int_non, len_tup, len_lst, len_fls, abs_int, int_int, int_bl, tuple_lst, tuple_tup, list_lst, list_tup, max_int, min_int, isint_int, isint_bl, isint_str, isint_tup, isint_lst, isint_non, isbool_int, isbool_bl, isbool_str, isbool_tup, isbool_lst, isbool_non, isstr_int, isstr_bl, isstr_str, isstr_tup, isstr_lst, isstr_non, istuple_int, istuple_bl, istuple_str, istuple_tup, istuple_lst, istuple_non, islist_int, islist_bl, islist_str, islist_tup, islist_lst, islist_non, ix_tup, ix_lsts, atI_0, atI_1, atI_2, atI_3, atI_4, atI_5, atI_6, atI_7, atI_8, atI_9, atI_10, atI_11, atI_12, ix_fls, ev_me, sl_lst, sl_tup, cmp_isin, cmp_notin, flat_str, flat_int, flat_bl, flat_non, eqF_str, in_tup, seqO_nx, seqO_rt, seqO_bk, seqO_ct, exs_nil, exs_cons, ex_set, setoD_lst, ex_seto, ex_unp, augD_int, ex_aug, ex_expr, appD_lst, ex_app, mthD_lst, ex_mth, mthxD_lst, ex_mthx, om_clear, om_pop, om_reverse, setsD_lst, ex_sets, ex_ret, ex_reto, ex_retn, ex_iff, ex_whl, ex_for, ex_forr, ex_brk, ex_cnt, ex_pass, ex_share, it_tup, it_lst, it_str, it_fls, tg_one, wipe_one, nxO_nx, nxO_ct, nxO_bk, nxO_rt, forD_nil, lcD_nil, lcD_cons, consO_some, consO_none, ansO_nx, ansO_rt, ansO_ite, sizeLine_lit, pow_lit, toNx_nx, toNx_ct, toNx_ite, toA_some, toA_ite, List.getElem?_cons_zero, List.getElem?_cons_succ, List.getElem?_nil, List.set_cons_zero, List.set_cons_succ, List.set_nil, List.length_cons, List.length_nil, List.length_map, List.length_append, List.length_range, List.length_replicate, List.map_cons, List.map_nil, List.cons_append, List.nil_append, List.append_nil, List.replicate_succ, List.replicate_zero, Nat.reduceAdd, Nat.reduceSub, Nat.reduceMul, Nat.reduceLT, Nat.reduceLeDiff, Nat.reduceEqDiff, Nat.reduceMod, Nat.reduceDiv, Nat.reducePow, Int.reduceAdd, Int.reduceSub, Int.reduceMul, Int.reduceNeg, Int.reduceLT, Int.reduceLE, Int.reduceGT, Int.reduceGE, Int.reduceEq, Int.reduceNe, Int.reduceMod, Int.reduceDiv, Int.reducePow, Int.reduceToNat, Nat.add_zero, Nat.zero_add, Nat.sub_zero, Nat.zero_le, Nat.lt_irrefl, ite_true, ite_false, Bool.not_true, Bool.not_false, Bool.true_and, Bool.false_and, Bool.and_true, Bool.and_false, Bool.true_or, Bool.false_or, Bool.or_true, Bool.or_false, Bool.false_eq_true, Bool.true_eq_false, decide_true, decide_false, decide_eq_true_eq, Bool.not_eq_true', Bool.not_eq_false', decide_eq_false_iff_not, decide_not, not_true_eq_false, not_false_eq_true, and_true, true_and, and_false, false_and, or_true, true_or, or_false, false_or, and_self, or_self, if_true, if_false, reduceCtorEq, Fn.start, Int.cast_ofNat_Int, List.all_cons, List.all_nil, List.any_cons, List.any_nil, num_body_n F x y z w c h]
theorem q_empty : q "" = st [] := by decide +kernel
theorem q_minus : q "-" = st [45] := by decide +kernel
theorem q_minus0 : q "-0" = st [45, 48] := by decide +kernel
theorem q_zero : q "0" = st [48] := by decide +kernel
theorem c_number_of (n : Nat) (r : List Nat) (h0 : r ≠ []) (hl : r.length ≤ 1000000) : ∃ d, call T G (n + 1) k_number_of [.str (st r)] = some (d, []) ∧ (numOk r = true → ∃ i : Int, d = .int i) ∧ (numOk r = false → d = .non) := by
  rw [call_of T_number_of rfl]
  have h0' : (r = []) = False := by simpa using h0
  have h9 : decide ((9 : Int) < (r.length : Int)) = decide (9 < r.length) := decide_eq_decide.mpr (by omega)
  have h11 : decide ((1 : Int) < (r.length : Int)) = decide (1 < r.length) := decide_eq_decide.mpr (by omega)
  simp -implicitDefEqProofs only [bindS, mapS, bindN, mapN, ifD_bl, bind_ite', map_ite', ev_c, ev_var, ev_rd, ev_gl, ev_tup, ev_lst, ev_bin, negD_int, ev_neg, notD_bl, ev_nt, ev_cmp, ev_chain, ev_an, ev_orr, ev_ife, ev_ix, ev_sl, isNo_nohi, isNo_c, isNo_var, isNo_bin, isNo_neg, isNo_bi, isNo_ix, isNo_call, isNo_me, endD_int, noIo_nil, ev_call, noIoL_nil, ev_callb, ev_bi, ev_lc, ev_lcr, evs_nil, evs_cons, shd_sh, own_ow, add_int, sub_int, mod_pos, fdiv_pos, lt_int, le_int, gt_int, ge_int, is_non_non, is_bl_bl, is_int_non, is_str_non, is_tup_non, is_lst_non, is_bl_non, isnot_non_non, isnot_int_non, isnot_str_non, isnot_tup_non, isnot_lst_non, isnot_bl_non, cmp_eq, cmp_ne, eq_int, eq_str, eq_bl, eq_non, eq_int_str, eq_str_int, eq_non_str, eq_str_non, eq_non_int, eq_int_non, len_tup, len_lst, len_fls, abs_int, int_int, int_bl, tuple_lst, tuple_tup, list_lst, list_tup, max_int, min_int, isint_int, isint_bl, isint_str, isint_tup, isint_lst, isint_non, isbool_int, isbool_bl, isbool_str, isbool_tup, isbool_lst, isbool_non, isstr_int, isstr_bl, isstr_str, isstr_tup, isstr_lst, isstr_non, istuple_int, istuple_bl, istuple_str, istuple_tup, istuple_lst, istuple_non, islist_int, islist_bl, islist_str, islist_tup, islist_lst, islist_non, ix_tup, ix_lsts, atI_0, atI_1, atI_2, atI_3, atI_4, atI_5, atI_6, atI_7, atI_8, atI_9, atI_10, atI_11, atI_12, ix_fls, ev_me, sl_lst, sl_tup, cmp_isin, cmp_notin, flat_str, flat_int, flat_bl, flat_non, eqF_str, in_tup, seqO_nx, seqO_rt, seqO_bk, seqO_ct, exs_nil, exs_cons, ex_set, setoD_lst, ex_seto, ex_unp, augD_int, ex_aug, ex_expr, appD_lst, ex_app, mthD_lst, ex_mth, mthxD_lst, ex_mthx, om_clear, om_pop, om_reverse, setsD_lst, ex_sets, ex_ret, ex_reto, ex_retn, ex_iff, ex_whl, ex_for, ex_forr, ex_brk, ex_cnt, ex_pass, ex_share, it_tup, it_lst, it_str, it_fls, tg_one, wipe_one, nxO_nx, nxO_ct, nxO_bk, nxO_rt, forD_nil, lcD_nil, lcD_cons, consO_some, consO_none, ansO_nx, ansO_rt, ansO_ite, sizeLine_lit, pow_lit, toNx_nx, toNx_ct, toNx_ite, toA_some, toA_ite, List.getElem?_cons_zero, List.getElem?_cons_succ, List.getElem?_nil, List.set_cons_zero, List.set_cons_succ, List.set_nil, List.length_cons, List.length_nil, List.length_map, List.length_append, List.length_range, List.length_replicate, List.map_cons, List.map_nil, List.cons_append, List.nil_append, List.append_nil, List.replicate_succ, List.replicate_zero, Nat.reduceAdd, Nat.reduceSub, Nat.reduceMul, Nat.reduceLT, Nat.reduceLeDiff, Nat.reduceEqDiff, Nat.reduceMod, Nat.reduceDiv, Nat.reducePow, Int.reduceAdd, Int.reduceSub, Int.reduceMul, Int.reduceNeg, Int.reduceLT, Int.reduceLE, Int.reduceGT, Int.reduceGE, Int.reduceEq, Int.reduceNe, Int.reduceMod, Int.reduceDiv, Int.reducePow, Int.reduceToNat, Nat.add_zero, Nat.zero_add, Nat.sub_zero, Nat.zero_le, Nat.lt_irrefl, ite_true, ite_false, Bool.not_true, Bool.not_false, Bool.true_and, Bool.false_and, Bool.and_true, Bool.and_false, Bool.true_or, Bool.false_or, Bool.or_true, Bool.or_false, Bool.false_eq_true, Bool.true_eq_false, decide_true, decide_false, decide_eq_true_eq, Bool.not_eq_true', Bool.not_eq_false', decide_eq_false_iff_not, decide_not, not_true_eq_false, not_false_eq_true, and_true, true_and, and_false, false_and, or_true, true_or, or_false, false_or, and_self, or_self, if_true, if_false, reduceCtorEq, Fn.start, Int.cast_ofNat_Int, List.all_cons, List.all_nil, List.any_cons, List.any_nil, f_number_of, q_empty, st_inj, h0', len_st r (by omega), h9]
  by_cases hz : 9 < r.length
  · refine ⟨.non, ?_, fun h => ?_, fun _ => rfl⟩
    · simp -implicitDefEqProofs only [bindS, mapS, bindN, mapN, ifD_bl, bind_ite', map_ite', ev_c, ev_var, ev_rd, ev_gl, ev_tup, ev_lst, ev_bin, negD_int, ev_neg, notD_bl, ev_nt, ev_cmp, ev_chain, ev_an, ev_orr, ev_ife, ev_ix, ev_sl, isNo_nohi, isNo_c, isNo_var, isNo_bin, isNo_neg, isNo_bi, isNo_ix, isNo_call, isNo_me, endD_int, noIo_nil, ev_call, noIoL_nil, ev_callb, ev_bi, ev_lc, ev_lcr, evs_nil, evs_cons, shd_sh, own_ow, add_int, sub_int, mod_pos, fdiv_pos, lt_int, le_int, gt_int, ge_int, is_non_non, is_bl_bl, is_int_non, is_str_non, is_tup_non, is_lst_non, is_bl_non, isnot_non_non, isnot_int_non, isnot_str_non, isnot_tup_non, isnot_lst_non, isnot_bl_non, cmp_eq, cmp_ne, eq_int, eq_str, eq_bl, eq_non, eq_int_str, eq_str_int, eq_non_str, eq_str_non, eq_non_int, eq_int_non, len_tup, len_lst, len_fls, abs_int, int_int, int_bl, tuple_lst, tuple_tup, list_lst, list_tup, max_int, min_int, isint_int, isint_bl, isint_str, isint_tup, isint_lst, isint_non, isbool_int, isbool_bl, isbool_str, isbool_tup, isbool_lst, isbool_non, isstr_int, isstr_bl, isstr_str, isstr_tup, isstr_lst, isstr_non, istuple_int, istuple_bl, istuple_str, istuple_tup, istuple_lst, istuple_non, islist_int, islist_bl, islist_str, islist_tup, islist_lst, islist_non, ix_tup, ix_lsts, atI_0, atI_1, atI_2, atI_3, atI_4, atI_5, atI_6, atI_7, atI_8, atI_9, atI_10, atI_11, atI_12, ix_fls, ev_me, sl_lst, sl_tup, cmp_isin, cmp_notin, flat_str, flat_int, flat_bl, flat_non, eqF_str, in_tup, seqO_nx, seqO_rt, seqO_bk, seqO_ct, exs_nil, exs_cons, ex_set, setoD_lst, ex_seto, ex_unp, augD_int, ex_aug, ex_expr, appD_lst, ex_app, mthD_lst, ex_mth, mthxD_lst, ex_mthx, om_clear, om_pop, om_reverse, setsD_lst, ex_sets, ex_ret, ex_reto, ex_retn, ex_iff, ex_whl, ex_for, ex_forr, ex_brk, ex_cnt, ex_pass, ex_share, it_tup, it_lst, it_str, it_fls, tg_one, wipe_one, nxO_nx, nxO_ct, nxO_bk, nxO_rt, forD_nil, lcD_nil, lcD_cons, consO_some, consO_none, ansO_nx, ansO_rt, ansO_ite, sizeLine_lit, pow_lit, toNx_nx, toNx_ct, toNx_ite, toA_some, toA_ite, List.getElem?_cons_zero, List.getElem?_cons_succ, List.getElem?_nil, List.set_cons_zero, List.set_cons_succ, List.set_nil, List.length_cons, List.length_nil, List.length_map, List.length_append, List.length_range, List.length_replicate, List.map_cons, List.map_nil, List.cons_append, List.nil_append, List.append_nil, List.replicate_succ, List.replicate_zero, Nat.reduceAdd, Nat.reduceSub, Nat.reduceMul, Nat.reduceLT, Nat.reduceLeDiff, Nat.reduceEqDiff, Nat.reduceMod, Nat.reduceDiv, Nat.reducePow, Int.reduceAdd, Int.reduceSub, Int.reduceMul, Int.reduceNeg, Int.reduceLT, Int.reduceLE, Int.reduceGT, Int.reduceGE, Int.reduceEq, Int.reduceNe, Int.reduceMod, Int.reduceDiv, Int.reducePow, Int.reduceToNat, Nat.add_zero, Nat.zero_add, Nat.sub_zero, Nat.zero_le, Nat.lt_irrefl, ite_true, ite_false, Bool.not_true, Bool.not_false, Bool.true_and, Bool.false_and, Bool.and_true, Bool.and_false, Bool.true_or, Bool.false_or, Bool.or_true, Bool.or_false, Bool.false_eq_true, Bool.true_eq_false, decide_true, decide_false, decide_eq_true_eq, Bool.not_eq_true', Bool.not_eq_false', decide_eq_false_iff_not, decide_not, not_true_eq_false, not_false_eq_true, and_true, true_and, and_false, false_and, or_true, true_or, or_false, false_or, and_self, or_self, if_true, if_false, reduceCtorEq, Fn.start, Int.cast_ofNat_Int, List.all_cons, List.all_nil, List.any_cons, List.any_nil, hz]
    · unfold numOk at h
      rw [decide_eq_false (by omega)] at h
      cases h
  · obtain ⟨c, r', rfl⟩ : ∃ c r', r = c :: r' := by
      cases r with
      | nil => exact absurd rfl h0
      | cons c r' => exact ⟨c, r', rfl⟩
    have hz' : ¬ 9 < r'.length + 1 := hz
    rcases num_loop (PL.call T G n) (.sh (.str (st (c :: r')))) (.sh (.bl false)) (.sh (.str (st (c :: r')))) (c :: r') .un with ⟨h1, w', h2⟩ | ⟨h1, s', h2⟩ <;> rw [List.map_cons] at h2
    · have hi := ix_st (c :: r') 0 c rfl (by omega)
      rw [Int.cast_ofNat_Int] at hi
      have hint : biD .int_ [.str (st (c :: r'))] = some (.int ((NumText.digitsVal (c :: r') : Nat) : Int)) := by
        have e : PySem.intText? (st (c :: r')) = _ := SX.int_S (a := c :: r') (by simpa [isDig] using h1) (by simp) (by omega)
        show (if (st (c :: r')).length ≤ 640 then (PySem.intText? (st (c :: r'))).map D.int else none) = _
        rw [if_pos (by rw [st_len]; omega), e]
        rfl
      by_cases hb : c = 48 ∧ 1 < (c :: r').length
      · refine ⟨.non, ?_, fun h => ?_, fun _ => rfl⟩
        · obtain ⟨rfl, hb⟩ := hb
          have hb' : (1 : Int) < ((r'.length + 1 : Nat) : Int) := by simp only [List.length_cons] at hb; omega
          simp -implicitDefEqProofs only [bindS, mapS, bindN, mapN, ifD_bl, bind_ite', map_ite', ev_c, ev_var, ev_rd, ev_gl, ev_tup, ev_lst, ev_bin, negD_int, ev_neg, notD_bl, ev_nt, ev_cmp, ev_chain, ev_an, ev_orr, ev_ife, ev_ix, ev_sl, isNo_nohi, isNo_c, isNo_var, isNo_bin, isNo_neg, isNo_bi, isNo_ix, isNo_call, isNo_me, endD_int, noIo_nil, ev_call, noIoL_nil, ev_callb, ev_bi, ev_lc, ev_lcr, evs_nil, evs_cons, shd_sh, own_ow, add_int, sub_int, mod_pos, fdiv_pos, lt_int, le_int, gt_int, ge_int, is_non_non, is_bl_bl, is_int_non, is_str_non, is_tup_non, is_lst_non, is_bl_non, isnot_non_non, isnot_int_non, isnot_str_non, isnot_tup_non, isnot_lst_non, isnot_bl_non, cmp_eq, cmp_ne, eq_int, eq_str, eq_bl, eq_non, eq_int_str, eq_str_int, eq_non_str, eq_str_non, eq_non_int, eq_int_non, len_tup, len_lst, len_fls, abs_int, int_int, int_bl, tuple_lst, tuple_tup, list_lst, list_tup, max_int, min_int, isint_int, isint_bl, isint_str, isint_tup, isint_lst, isint_non, isbool_int, isbool_bl, isbool_str, isbool_tup, isbool_lst, isbool_non, isstr_int, isstr_bl, isstr_str, isstr_tup, isstr_lst, isstr_non, istuple_int, istuple_bl, istuple_str, istuple_tup, istuple_lst, istuple_non, islist_int, islist_bl, islist_str, islist_tup, islist_lst, islist_non, ix_tup, ix_lsts, atI_0, atI_1, atI_2, atI_3, atI_4, atI_5, atI_6, atI_7, atI_8, atI_9, atI_10, atI_11, atI_12, ix_fls, ev_me, sl_lst, sl_tup, cmp_isin, cmp_notin, flat_str, flat_int, flat_bl, flat_non, eqF_str, in_tup, seqO_nx, seqO_rt, seqO_bk, seqO_ct, exs_nil, exs_cons, ex_set, setoD_lst, ex_seto, ex_unp, augD_int, ex_aug, ex_expr, appD_lst, ex_app, mthD_lst, ex_mth, mthxD_lst, ex_mthx, om_clear, om_pop, om_reverse, setsD_lst, ex_sets, ex_ret, ex_reto, ex_retn, ex_iff, ex_whl, ex_for, ex_forr, ex_brk, ex_cnt, ex_pass, ex_share, it_tup, it_lst, it_str, it_fls, tg_one, wipe_one, nxO_nx, nxO_ct, nxO_bk, nxO_rt, forD_nil, lcD_nil, lcD_cons, consO_some, consO_none, ansO_nx, ansO_rt, ansO_ite, sizeLine_lit, pow_lit, toNx_nx, toNx_ct, toNx_ite, toA_some, toA_ite, List.getElem?_cons_zero, List.getElem?_cons_succ, List.getElem?_nil, List.set_cons_zero, List.set_cons_succ, List.set_nil, List.length_cons, List.length_nil, List.length_map, List.length_append, List.length_range, List.length_replicate, List.map_cons, List.map_nil, List.cons_append, List.nil_append, List.append_nil, List.replicate_succ, List.replicate_zero, Nat.reduceAdd, Nat.reduceSub, Nat.reduceMul, Nat.reduceLT, Nat.reduceLeDiff, Nat.reduceEqDiff, Nat.reduceMod, Nat.reduceDiv, Nat.reducePow, Int.reduceAdd, Int.reduceSub, Int.reduceMul, Int.reduceNeg, Int.reduceLT, Int.reduceLE, Int.reduceGT, Int.reduceGE, Int.reduceEq, Int.reduceNe, Int.reduceMod, Int.reduceDiv, Int.reducePow, Int.reduceToNat, Nat.add_zero, Nat.zero_add, Nat.sub_zero, Nat.zero_le, Nat.lt_irrefl, ite_true, ite_false, Bool.not_true, Bool.not_false, Bool.true_and, Bool.false_and, Bool.and_true, Bool.and_false, Bool.true_or, Bool.false_or, Bool.or_true, Bool.or_false, Bool.false_eq_true, Bool.true_eq_false, decide_true, decide_false, decide_eq_true_eq, Bool.not_eq_true', Bool.not_eq_false', decide_eq_false_iff_not, decide_not, not_true_eq_false, not_false_eq_true, and_true, true_and, and_false, false_and, or_true, true_or, or_false, false_or, and_self, or_self, if_true, if_false, reduceCtorEq, Fn.start, Int.cast_ofNat_Int, List.all_cons, List.all_nil, List.any_cons, List.any_nil, hz', st_tl, h2, hi, q_zero, st_inj, hb', len_st (48 :: r') (by omega), h11]
        · unfold numOk at h
          rw [h1, show decide ((c :: r')[0]? = some 48) = true by rw [hb.1]; rfl, decide_eq_true hb.2] at h
          simp at h
      · refine ⟨.int ((NumText.digitsVal (c :: r') : Nat) : Int), ?_, fun _ => ⟨_, rfl⟩, fun h => ?_⟩
        · by_cases hc : c = 48
          · subst hc
            have hb' : ¬ (1 : Int) < ((r'.length + 1 : Nat) : Int) := fun z => hb ⟨rfl, by simp only [List.length_cons]; omega⟩
            simp -implicitDefEqProofs only [bindS, mapS, bindN, mapN, ifD_bl, bind_ite', map_ite', ev_c, ev_var, ev_rd, ev_gl, ev_tup, ev_lst, ev_bin, negD_int, ev_neg, notD_bl, ev_nt, ev_cmp, ev_chain, ev_an, ev_orr, ev_ife, ev_ix, ev_sl, isNo_nohi, isNo_c, isNo_var, isNo_bin, isNo_neg, isNo_bi, isNo_ix, isNo_call, isNo_me, endD_int, noIo_nil, ev_call, noIoL_nil, ev_callb, ev_bi, ev_lc, ev_lcr, evs_nil, evs_cons, shd_sh, own_ow, add_int, sub_int, mod_pos, fdiv_pos, lt_int, le_int, gt_int, ge_int, is_non_non, is_bl_bl, is_int_non, is_str_non, is_tup_non, is_lst_non, is_bl_non, isnot_non_non, isnot_int_non, isnot_str_non, isnot_tup_non, isnot_lst_non, isnot_bl_non, cmp_eq, cmp_ne, eq_int, eq_str, eq_bl, eq_non, eq_int_str, eq_str_int, eq_non_str, eq_str_non, eq_non_int, eq_int_non, len_tup, len_lst, len_fls, abs_int, int_int, int_bl, tuple_lst, tuple_tup, list_lst, list_tup, max_int, min_int, isint_int, isint_bl, isint_str, isint_tup, isint_lst, isint_non, isbool_int, isbool_bl, isbool_str, isbool_tup, isbool_lst, isbool_non, isstr_int, isstr_bl, isstr_str, isstr_tup, isstr_lst, isstr_non, istuple_int, istuple_bl, istuple_str, istuple_tup, istuple_lst, istuple_non, islist_int, islist_bl, islist_str, islist_tup, islist_lst, islist_non, ix_tup, ix_lsts, atI_0, atI_1, atI_2, atI_3, atI_4, atI_5, atI_6, atI_7, atI_8, atI_9, atI_10, atI_11, atI_12, ix_fls, ev_me, sl_lst, sl_tup, cmp_isin, cmp_notin, flat_str, flat_int, flat_bl, flat_non, eqF_str, in_tup, seqO_nx, seqO_rt, seqO_bk, seqO_ct, exs_nil, exs_cons, ex_set, setoD_lst, ex_seto, ex_unp, augD_int, ex_aug, ex_expr, appD_lst, ex_app, mthD_lst, ex_mth, mthxD_lst, ex_mthx, om_clear, om_pop, om_reverse, setsD_lst, ex_sets, ex_ret, ex_reto, ex_retn, ex_iff, ex_whl, ex_for, ex_forr, ex_brk, ex_cnt, ex_pass, ex_share, it_tup, it_lst, it_str, it_fls, tg_one, wipe_one, nxO_nx, nxO_ct, nxO_bk, nxO_rt, forD_nil, lcD_nil, lcD_cons, consO_some, consO_none, ansO_nx, ansO_rt, ansO_ite, sizeLine_lit, pow_lit, toNx_nx, toNx_ct, toNx_ite, toA_some, toA_ite, List.getElem?_cons_zero, List.getElem?_cons_succ, List.getElem?_nil, List.set_cons_zero, List.set_cons_succ, List.set_nil, List.length_cons, List.length_nil, List.length_map, List.length_append, List.length_range, List.length_replicate, List.map_cons, List.map_nil, List.cons_append, List.nil_append, List.append_nil, List.replicate_succ, List.replicate_zero, Nat.reduceAdd, Nat.reduceSub, Nat.reduceMul, Nat.reduceLT, Nat.reduceLeDiff, Nat.reduceEqDiff, Nat.reduceMod, Nat.reduceDiv, Nat.reducePow, Int.reduceAdd, Int.reduceSub, Int.reduceMul, Int.reduceNeg, Int.reduceLT, Int.reduceLE, Int.reduceGT, Int.reduceGE, Int.reduceEq, Int.reduceNe, Int.reduceMod, Int.reduceDiv, Int.reducePow, Int.reduceToNat, Nat.add_zero, Nat.zero_add, Nat.sub_zero, Nat.zero_le, Nat.lt_irrefl, ite_true, ite_false, Bool.not_true, Bool.not_false, Bool.true_and, Bool.false_and, Bool.and_true, Bool.and_false, Bool.true_or, Bool.false_or, Bool.or_true, Bool.or_false, Bool.false_eq_true, Bool.true_eq_false, decide_true, decide_false, decide_eq_true_eq, Bool.not_eq_true', Bool.not_eq_false', decide_eq_false_iff_not, decide_not, not_true_eq_false, not_false_eq_true, and_true, true_and, and_false, false_and, or_true, true_or, or_false, false_or, and_self, or_self, if_true, if_false, reduceCtorEq, Fn.start, Int.cast_ofNat_Int, List.all_cons, List.all_nil, List.any_cons, List.any_nil, hz', st_tl, h2, hi, q_zero, st_inj, hb', len_st (48 :: r') (by omega), h11, hint]
          · have hc' : ([c] = [48]) = False := by simpa using hc
            simp -implicitDefEqProofs only [bindS, mapS, bindN, mapN, ifD_bl, bind_ite', map_ite', ev_c, ev_var, ev_rd, ev_gl, ev_tup, ev_lst, ev_bin, negD_int, ev_neg, notD_bl, ev_nt, ev_cmp, ev_chain, ev_an, ev_orr, ev_ife, ev_ix, ev_sl, isNo_nohi, isNo_c, isNo_var, isNo_bin, isNo_neg, isNo_bi, isNo_ix, isNo_call, isNo_me, endD_int, noIo_nil, ev_call, noIoL_nil, ev_callb, ev_bi, ev_lc, ev_lcr, evs_nil, evs_cons, shd_sh, own_ow, add_int, sub_int, mod_pos, fdiv_pos, lt_int, le_int, gt_int, ge_int, is_non_non, is_bl_bl, is_int_non, is_str_non, is_tup_non, is_lst_non, is_bl_non, isnot_non_non, isnot_int_non, isnot_str_non, isnot_tup_non, isnot_lst_non, isnot_bl_non, cmp_eq, cmp_ne, eq_int, eq_str, eq_bl, eq_non, eq_int_str, eq_str_int, eq_non_str, eq_str_non, eq_non_int, eq_int_non, len_tup, len_lst, len_fls, abs_int, int_int, int_bl, tuple_lst, tuple_tup, list_lst, list_tup, max_int, min_int, isint_int, isint_bl, isint_str, isint_tup, isint_lst, isint_non, isbool_int, isbool_bl, isbool_str, isbool_tup, isbool_lst, isbool_non, isstr_int, isstr_bl, isstr_str, isstr_tup, isstr_lst, isstr_non, istuple_int, istuple_bl, istuple_str, istuple_tup, istuple_lst, istuple_non, islist_int, islist_bl, islist_str, islist_tup, islist_lst, islist_non, ix_tup, ix_lsts, atI_0, atI_1, atI_2, atI_3, atI_4, atI_5, atI_6, atI_7, atI_8, atI_9, atI_10, atI_11, atI_12, ix_fls, ev_me, sl_lst, sl_tup, cmp_isin, cmp_notin, flat_str, flat_int, flat_bl, flat_non, eqF_str, in_tup, seqO_nx, seqO_rt, seqO_bk, seqO_ct, exs_nil, exs_cons, ex_set, setoD_lst, ex_seto, ex_unp, augD_int, ex_aug, ex_expr, appD_lst, ex_app, mthD_lst, ex_mth, mthxD_lst, ex_mthx, om_clear, om_pop, om_reverse, setsD_lst, ex_sets, ex_ret, ex_reto, ex_retn, ex_iff, ex_whl, ex_for, ex_forr, ex_brk, ex_cnt, ex_pass, ex_share, it_tup, it_lst, it_str, it_fls, tg_one, wipe_one, nxO_nx, nxO_ct, nxO_bk, nxO_rt, forD_nil, lcD_nil, lcD_cons, consO_some, consO_none, ansO_nx, ansO_rt, ansO_ite, sizeLine_lit, pow_lit, toNx_nx, toNx_ct, toNx_ite, toA_some, toA_ite, List.getElem?_cons_zero, List.getElem?_cons_succ, List.getElem?_nil, List.set_cons_zero, List.set_cons_succ, List.set_nil, List.length_cons, List.length_nil, List.length_map, List.length_append, List.length_range, List.length_replicate, List.map_cons, List.map_nil, List.cons_append, List.nil_append, List.append_nil, List.replicate_succ, List.replicate_zero, Nat.reduceAdd, Nat.reduceSub, Nat.reduceMul, Nat.reduceLT, Nat.reduceLeDiff, Nat.reduceEqDiff, Nat.reduceMod, Nat.reduceDiv, Nat.reducePow, Int.reduceAdd, Int.reduceSub, Int.reduceMul, Int.reduceNeg, Int.reduceLT, Int.reduceLE, Int.reduceGT, Int.reduceGE, Int.reduceEq, Int.reduceNe, Int.reduceMod, Int.reduceDiv, Int.reducePow, Int.reduceToNat, Nat.add_zero, Nat.zero_add, Nat.sub_zero, Nat.zero_le, Nat.lt_irrefl, ite_true, ite_false, Bool.not_true, Bool.not_false, Bool.true_and, Bool.false_and, Bool.and_true, Bool.and_false, Bool.true_or, Bool.false_or, Bool.or_true, Bool.or_false, Bool.false_eq_true, Bool.true_eq_false, decide_true, decide_false, decide_eq_true_eq, Bool.not_eq_true', Bool.not_eq_false', decide_eq_false_iff_not, decide_not, not_true_eq_false, not_false_eq_true, and_true, true_and, and_false, false_and, or_true, true_or, or_false, false_or, and_self, or_self, if_true, if_false, reduceCtorEq, Fn.start, Int.cast_ofNat_Int, List.all_cons, List.all_nil, List.any_cons, List.any_nil, hz', st_tl, h2, hi, q_zero, st_inj, hc', hint]
        · exfalso
          unfold numOk at h
          rw [decide_eq_true (by omega), h1] at h
          simp at h
          exact hb ⟨h.1, by simp only [List.length_cons]; omega⟩
    · refine ⟨.non, ?_, fun h => ?_, fun _ => rfl⟩
      · simp -implicitDefEqProofs only [bindS, mapS, bindN, mapN, ifD_bl, bind_ite', map_ite', ev_c, ev_var, ev_rd, ev_gl, ev_tup, ev_lst, ev_bin, negD_int, ev_neg, notD_bl, ev_nt, ev_cmp, ev_chain, ev_an, ev_orr, ev_ife, ev_ix, ev_sl, isNo_nohi, isNo_c, isNo_var, isNo_bin, isNo_neg, isNo_bi, isNo_ix, isNo_call, isNo_me, endD_int, noIo_nil, ev_call, noIoL_nil, ev_callb, ev_bi, ev_lc, ev_lcr, evs_nil, evs_cons, shd_sh, own_ow, add_int, sub_int, mod_pos, fdiv_pos, lt_int, le_int, gt_int, ge_int, is_non_non, is_bl_bl, is_int_non, is_str_non, is_tup_non, is_lst_non, is_bl_non, isnot_non_non, isnot_int_non, isnot_str_non, isnot_tup_non, isnot_lst_non, isnot_bl_non, cmp_eq, cmp_ne, eq_int, eq_str, eq_bl, eq_non, eq_int_str, eq_str_int, eq_non_str, eq_str_non, eq_non_int, eq_int_non, len_tup, len_lst, len_fls, abs_int, int_int, int_bl, tuple_lst, tuple_tup, list_lst, list_tup, max_int, min_int, isint_int, isint_bl, isint_str, isint_tup, isint_lst, isint_non, isbool_int, isbool_bl, isbool_str, isbool_tup, isbool_lst, isbool_non, isstr_int, isstr_bl, isstr_str, isstr_tup, isstr_lst, isstr_non, istuple_int, istuple_bl, istuple_str, istuple_tup, istuple_lst, istuple_non, islist_int, islist_bl, islist_str, islist_tup, islist_lst, islist_non, ix_tup, ix_lsts, atI_0, atI_1, atI_2, atI_3, atI_4, atI_5, atI_6, atI_7, atI_8, atI_9, atI_10, atI_11, atI_12, ix_fls, ev_me, sl_lst, sl_tup, cmp_isin, cmp_notin, flat_str, flat_int, flat_bl, flat_non, eqF_str, in_tup, seqO_nx, seqO_rt, seqO_bk, seqO_ct, exs_nil, exs_cons, ex_set, setoD_lst, ex_seto, ex_unp, augD_int, ex_aug, ex_expr, appD_lst, ex_app, mthD_lst, ex_mth, mthxD_lst, ex_mthx, om_clear, om_pop, om_reverse, setsD_lst, ex_sets, ex_ret, ex_reto, ex_retn, ex_iff, ex_whl, ex_for, ex_forr, ex_brk, ex_cnt, ex_pass, ex_share, it_tup, it_lst, it_str, it_fls, tg_one, wipe_one, nxO_nx, nxO_ct, nxO_bk, nxO_rt, forD_nil, lcD_nil, lcD_cons, consO_some, consO_none, ansO_nx, ansO_rt, ansO_ite, sizeLine_lit, pow_lit, toNx_nx, toNx_ct, toNx_ite, toA_some, toA_ite, List.getElem?_cons_zero, List.getElem?_cons_succ, List.getElem?_nil, List.set_cons_zero, List.set_cons_succ, List.set_nil, List.length_cons, List.length_nil, List.length_map, List.length_append, List.length_range, List.length_replicate, List.map_cons, List.map_nil, List.cons_append, List.nil_append, List.append_nil, List.replicate_succ, List.replicate_zero, Nat.reduceAdd, Nat.reduceSub, Nat.reduceMul, Nat.reduceLT, Nat.reduceLeDiff, Nat.reduceEqDiff, Nat.reduceMod, Nat.reduceDiv, Nat.reducePow, Int.reduceAdd, Int.reduceSub, Int.reduceMul, Int.reduceNeg, Int.reduceLT, Int.reduceLE, Int.reduceGT, Int.reduceGE, Int.reduceEq, Int.reduceNe, Int.reduceMod, Int.reduceDiv, Int.reducePow, Int.reduceToNat, Nat.add_zero, Nat.zero_add, Nat.sub_zero, Nat.zero_le, Nat.lt_irrefl, ite_true, ite_false, Bool.not_true, Bool.not_false, Bool.true_and, Bool.false_and, Bool.and_true, Bool.and_false, Bool.true_or, Bool.false_or, Bool.or_true, Bool.or_false, Bool.false_eq_true, Bool.true_eq_false, decide_true, decide_false, decide_eq_true_eq, Bool.not_eq_true', Bool.not_eq_false', decide_eq_false_iff_not, decide_not, not_true_eq_false, not_false_eq_true, and_true, true_and, and_false, false_and, or_true, true_or, or_false, false_or, and_self, or_self, if_true, if_false, reduceCtorEq, Fn.start, Int.cast_ofNat_Int, List.all_cons, List.all_nil, List.any_cons, List.any_nil, hz', st_tl, h2]
      · unfold numOk at h
        rw [h1] at h
        simp at h
/-! kind_of -/
def kwL : List Str := [q "cell", q "line", q "store", q "gate", q "wheel", q "mark", q "class", q "within", q "var", q "deed", q "life", q "start", q "at", q "asleep", q "open", q "shut", q "set", q "tell", q "if", q "else", q "while", q "do", q "inner", q "hold", q "sleep", q "wake", q "after", q "stop", q "seize", q "of", q "free", q "wait", q "put", q "into", q "take", q "from", q "make", q "leave", q "or", q "and", q "not", q "mod", q "none", q "me", q "now", q "length", q "first", q "spare", q "waiting", q "isopen", q "stand"]
def kwD : D := .tup (kwL.map D.str)
theorem G_kw : G 2 = some kwD := rfl
theorem in_kw (x : Str) : inD (.str x) kwD = some (decide (x ∈ kwL)) := in_strs x kwL
def kindL (r : List Nat) : Str := if isDig (r.headD 0) = true then (if numOk r = true then q "number" else q "bad") else if st r ∈ kwL then q "keyword" else if 12 < r.length then q "bad" else q "name"
theorem c_kind_of (n : Nat) (c : Nat) (r : List Nat) (hl : (c :: r).length ≤ 1000000) : call T G (n + 2) k_kind_of [.str (st (c :: r))] = some (.str (kindL (c :: r)), []) := by
  rw [call_of T_kind_of rfl]
  obtain ⟨d, e1, e2, e3⟩ := c_number_of n (c :: r) (by simp) hl
  have hi := ix_st (c :: r) 0 c rfl (by omega)
  rw [Int.cast_ofNat_Int] at hi
  have h12 : ((12 : Int) < ((r.length + 1 : Nat) : Int)) = (12 < r.length + 1) := propext ⟨fun h => by omega, fun h => by omega⟩
  have hG5 : G 5 = some (.int 12) := rfl
  unfold kindL
  rw [List.headD_cons]
  simp -implicitDefEqProofs only [bindS, mapS, bindN, mapN, ifD_bl, bind_ite', map_ite', ev_c, ev_var, ev_rd, ev_gl, ev_tup, ev_lst, ev_bin, negD_int, ev_neg, notD_bl, ev_nt, ev_cmp, ev_chain, ev_an, ev_orr, ev_ife, ev_ix, ev_sl, isNo_nohi, isNo_c, isNo_var, isNo_bin, isNo_neg, isNo_bi, isNo_ix, isNo_call, isNo_me, endD_int, noIo_nil, ev_call, noIoL_nil, ev_callb, ev_bi, ev_lc, ev_lcr, evs_nil, evs_cons, shd_sh, own_ow, add_int, sub_int, mod_pos, fdiv_pos, lt_int, le_int, gt_int, ge_int, is_non_non, is_bl_bl, is_int_non, is_str_non, is_tup_non, is_lst_non, is_bl_non, isnot_non_non, isnot_int_non, isnot_str_non, isnot_tup_non, isnot_lst_non, isnot_bl_non, cmp_eq, cmp_ne, eq_int, eq_str, eq_bl, eq_non, eq_int_str, eq_str_int, eq_non_str, eq_str_non, eq_non_int, eq_int_non, len_tup, len_lst, len_fls, abs_int, int_int, int_bl, tuple_lst, tuple_tup, list_lst, list_tup, max_int, min_int, isint_int, isint_bl, isint_str, isint_tup, isint_lst, isint_non, isbool_int, isbool_bl, isbool_str, isbool_tup, isbool_lst, isbool_non, isstr_int, isstr_bl, isstr_str, isstr_tup, isstr_lst, isstr_non, istuple_int, istuple_bl, istuple_str, istuple_tup, istuple_lst, istuple_non, islist_int, islist_bl, islist_str, islist_tup, islist_lst, islist_non, ix_tup, ix_lsts, atI_0, atI_1, atI_2, atI_3, atI_4, atI_5, atI_6, atI_7, atI_8, atI_9, atI_10, atI_11, atI_12, ix_fls, ev_me, sl_lst, sl_tup, cmp_isin, cmp_notin, flat_str, flat_int, flat_bl, flat_non, eqF_str, in_tup, seqO_nx, seqO_rt, seqO_bk, seqO_ct, exs_nil, exs_cons, ex_set, setoD_lst, ex_seto, ex_unp, augD_int, ex_aug, ex_expr, appD_lst, ex_app, mthD_lst, ex_mth, mthxD_lst, ex_mthx, om_clear, om_pop, om_reverse, setsD_lst, ex_sets, ex_ret, ex_reto, ex_retn, ex_iff, ex_whl, ex_for, ex_forr, ex_brk, ex_cnt, ex_pass, ex_share, it_tup, it_lst, it_str, it_fls, tg_one, wipe_one, nxO_nx, nxO_ct, nxO_bk, nxO_rt, forD_nil, lcD_nil, lcD_cons, consO_some, consO_none, ansO_nx, ansO_rt, ansO_ite, sizeLine_lit, pow_lit, toNx_nx, toNx_ct, toNx_ite, toA_some, toA_ite, List.getElem?_cons_zero, List.getElem?_cons_succ, List.getElem?_nil, List.set_cons_zero, List.set_cons_succ, List.set_nil, List.length_cons, List.length_nil, List.length_map, List.length_append, List.length_range, List.length_replicate, List.map_cons, List.map_nil, List.cons_append, List.nil_append, List.append_nil, List.replicate_succ, List.replicate_zero, Nat.reduceAdd, Nat.reduceSub, Nat.reduceMul, Nat.reduceLT, Nat.reduceLeDiff, Nat.reduceEqDiff, Nat.reduceMod, Nat.reduceDiv, Nat.reducePow, Int.reduceAdd, Int.reduceSub, Int.reduceMul, Int.reduceNeg, Int.reduceLT, Int.reduceLE, Int.reduceGT, Int.reduceGE, Int.reduceEq, Int.reduceNe, Int.reduceMod, Int.reduceDiv, Int.reducePow, Int.reduceToNat, Nat.add_zero, Nat.zero_add, Nat.sub_zero, Nat.zero_le, Nat.lt_irrefl, ite_true, ite_false, Bool.not_true, Bool.not_false, Bool.true_and, Bool.false_and, Bool.and_true, Bool.and_false, Bool.true_or, Bool.false_or, Bool.or_true, Bool.or_false, Bool.false_eq_true, Bool.true_eq_false, decide_true, decide_false, decide_eq_true_eq, Bool.not_eq_true', Bool.not_eq_false', decide_eq_false_iff_not, decide_not, not_true_eq_false, not_false_eq_true, and_true, true_and, and_false, false_and, or_true, true_or, or_false, false_or, and_self, or_self, if_true, if_false, reduceCtorEq, Fn.start, Int.cast_ofNat_Int, List.all_cons, List.all_nil, List.any_cons, List.any_nil, f_kind_of, hi, G_dig, in_st, dig_mem, e1, G_kw, in_kw, len_st (c :: r) (by omega), h12, hG5]
  cases isDig c with
  | true =>
    cases hn : numOk (c :: r) with
    | true =>
      obtain ⟨i, rfl⟩ := e2 hn
      simp -implicitDefEqProofs only [bindS, mapS, bindN, mapN, ifD_bl, bind_ite', map_ite', ev_c, ev_var, ev_rd, ev_gl, ev_tup, ev_lst, ev_bin, negD_int, ev_neg, notD_bl, ev_nt, ev_cmp, ev_chain, ev_an, ev_orr, ev_ife, ev_ix, ev_sl, isNo_nohi, isNo_c, isNo_var, isNo_bin, isNo_neg, isNo_bi, isNo_ix, isNo_call, isNo_me, endD_int, noIo_nil, ev_call, noIoL_nil, ev_callb, ev_bi, ev_lc, ev_lcr, evs_nil, evs_cons, shd_sh, own_ow, add_int, sub_int, mod_pos, fdiv_pos, lt_int, le_int, gt_int, ge_int, is_non_non, is_bl_bl, is_int_non, is_str_non, is_tup_non, is_lst_non, is_bl_non, isnot_non_non, isnot_int_non, isnot_str_non, isnot_tup_non, isnot_lst_non, isnot_bl_non, cmp_eq, cmp_ne, eq_int, eq_str, eq_bl, eq_non, eq_int_str, eq_str_int, eq_non_str, eq_str_non, eq_non_int, eq_int_non, len_tup, len_lst, len_fls, abs_int, int_int, int_bl, tuple_lst, tuple_tup, list_lst, list_tup, max_int, min_int, isint_int, isint_bl, isint_str, isint_tup, isint_lst, isint_non, isbool_int, isbool_bl, isbool_str, isbool_tup, isbool_lst, isbool_non, isstr_int, isstr_bl, isstr_str, isstr_tup, isstr_lst, isstr_non, istuple_int, istuple_bl, istuple_str, istuple_tup, istuple_lst, istuple_non, islist_int, islist_bl, islist_str, islist_tup, islist_lst, islist_non, ix_tup, ix_lsts, atI_0, atI_1, atI_2, atI_3, atI_4, atI_5, atI_6, atI_7, atI_8, atI_9, atI_10, atI_11, atI_12, ix_fls, ev_me, sl_lst, sl_tup, cmp_isin, cmp_notin, flat_str, flat_int, flat_bl, flat_non, eqF_str, in_tup, seqO_nx, seqO_rt, seqO_bk, seqO_ct, exs_nil, exs_cons, ex_set, setoD_lst, ex_seto, ex_unp, augD_int, ex_aug, ex_expr, appD_lst, ex_app, mthD_lst, ex_mth, mthxD_lst, ex_mthx, om_clear, om_pop, om_reverse, setsD_lst, ex_sets, ex_ret, ex_reto, ex_retn, ex_iff, ex_whl, ex_for, ex_forr, ex_brk, ex_cnt, ex_pass, ex_share, it_tup, it_lst, it_str, it_fls, tg_one, wipe_one, nxO_nx, nxO_ct, nxO_bk, nxO_rt, forD_nil, lcD_nil, lcD_cons, consO_some, consO_none, ansO_nx, ansO_rt, ansO_ite, sizeLine_lit, pow_lit, toNx_nx, toNx_ct, toNx_ite, toA_some, toA_ite, List.getElem?_cons_zero, List.getElem?_cons_succ, List.getElem?_nil, List.set_cons_zero, List.set_cons_succ, List.set_nil, List.length_cons, List.length_nil, List.length_map, List.length_append, List.length_range, List.length_replicate, List.map_cons, List.map_nil, List.cons_append, List.nil_append, List.append_nil, List.replicate_succ, List.replicate_zero, Nat.reduceAdd, Nat.reduceSub, Nat.reduceMul, Nat.reduceLT, Nat.reduceLeDiff, Nat.reduceEqDiff, Nat.reduceMod, Nat.reduceDiv, Nat.reducePow, Int.reduceAdd, Int.reduceSub, Int.reduceMul, Int.reduceNeg, Int.reduceLT, Int.reduceLE, Int.reduceGT, Int.reduceGE, Int.reduceEq, Int.reduceNe, Int.reduceMod, Int.reduceDiv, Int.reducePow, Int.reduceToNat, Nat.add_zero, Nat.zero_add, Nat.sub_zero, Nat.zero_le, Nat.lt_irrefl, ite_true, ite_false, Bool.not_true, Bool.not_false, Bool.true_and, Bool.false_and, Bool.and_true, Bool.and_false, Bool.true_or, Bool.false_or, Bool.or_true, Bool.or_false, Bool.false_eq_true, Bool.true_eq_false, decide_true, decide_false, decide_eq_true_eq, Bool.not_eq_true', Bool.not_eq_false', decide_eq_false_iff_not, decide_not, not_true_eq_false, not_false_eq_true, and_true, true_and, and_false, false_and, or_true, true_or, or_false, false_or, and_self, or_self, if_true, if_false, reduceCtorEq, Fn.start, Int.cast_ofNat_Int, List.all_cons, List.all_nil, List.any_cons, List.any_nil]
    | false =>
      cases e3 hn
      simp -implicitDefEqProofs only [bindS, mapS, bindN, mapN, ifD_bl, bind_ite', map_ite', ev_c, ev_var, ev_rd, ev_gl, ev_tup, ev_lst, ev_bin, negD_int, ev_neg, notD_bl, ev_nt, ev_cmp, ev_chain, ev_an, ev_orr, ev_ife, ev_ix, ev_sl, isNo_nohi, isNo_c, isNo_var, isNo_bin, isNo_neg, isNo_bi, isNo_ix, isNo_call, isNo_me, endD_int, noIo_nil, ev_call, noIoL_nil, ev_callb, ev_bi, ev_lc, ev_lcr, evs_nil, evs_cons, shd_sh, own_ow, add_int, sub_int, mod_pos, fdiv_pos, lt_int, le_int, gt_int, ge_int, is_non_non, is_bl_bl, is_int_non, is_str_non, is_tup_non, is_lst_non, is_bl_non, isnot_non_non, isnot_int_non, isnot_str_non, isnot_tup_non, isnot_lst_non, isnot_bl_non, cmp_eq, cmp_ne, eq_int, eq_str, eq_bl, eq_non, eq_int_str, eq_str_int, eq_non_str, eq_str_non, eq_non_int, eq_int_non, len_tup, len_lst, len_fls, abs_int, int_int, int_bl, tuple_lst, tuple_tup, list_lst, list_tup, max_int, min_int, isint_int, isint_bl, isint_str, isint_tup, isint_lst, isint_non, isbool_int, isbool_bl, isbool_str, isbool_tup, isbool_lst, isbool_non, isstr_int, isstr_bl, isstr_str, isstr_tup, isstr_lst, isstr_non, istuple_int, istuple_bl, istuple_str, istuple_tup, istuple_lst, istuple_non, islist_int, islist_bl, islist_str, islist_tup, islist_lst, islist_non, ix_tup, ix_lsts, atI_0, atI_1, atI_2, atI_3, atI_4, atI_5, atI_6, atI_7, atI_8, atI_9, atI_10, atI_11, atI_12, ix_fls, ev_me, sl_lst, sl_tup, cmp_isin, cmp_notin, flat_str, flat_int, flat_bl, flat_non, eqF_str, in_tup, seqO_nx, seqO_rt, seqO_bk, seqO_ct, exs_nil, exs_cons, ex_set, setoD_lst, ex_seto, ex_unp, augD_int, ex_aug, ex_expr, appD_lst, ex_app, mthD_lst, ex_mth, mthxD_lst, ex_mthx, om_clear, om_pop, om_reverse, setsD_lst, ex_sets, ex_ret, ex_reto, ex_retn, ex_iff, ex_whl, ex_for, ex_forr, ex_brk, ex_cnt, ex_pass, ex_share, it_tup, it_lst, it_str, it_fls, tg_one, wipe_one, nxO_nx, nxO_ct, nxO_bk, nxO_rt, forD_nil, lcD_nil, lcD_cons, consO_some, consO_none, ansO_nx, ansO_rt, ansO_ite, sizeLine_lit, pow_lit, toNx_nx, toNx_ct, toNx_ite, toA_some, toA_ite, List.getElem?_cons_zero, List.getElem?_cons_succ, List.getElem?_nil, List.set_cons_zero, List.set_cons_succ, List.set_nil, List.length_cons, List.length_nil, List.length_map, List.length_append, List.length_range, List.length_replicate, List.map_cons, List.map_nil, List.cons_append, List.nil_append, List.append_nil, List.replicate_succ, List.replicate_zero, Nat.reduceAdd, Nat.reduceSub, Nat.reduceMul, Nat.reduceLT, Nat.reduceLeDiff, Nat.reduceEqDiff, Nat.reduceMod, Nat.reduceDiv, Nat.reducePow, Int.reduceAdd, Int.reduceSub, Int.reduceMul, Int.reduceNeg, Int.reduceLT, Int.reduceLE, Int.reduceGT, Int.reduceGE, Int.reduceEq, Int.reduceNe, Int.reduceMod, Int.reduceDiv, Int.reducePow, Int.reduceToNat, Nat.add_zero, Nat.zero_add, Nat.sub_zero, Nat.zero_le, Nat.lt_irrefl, ite_true, ite_false, Bool.not_true, Bool.not_false, Bool.true_and, Bool.false_and, Bool.and_true, Bool.and_false, Bool.true_or, Bool.false_or, Bool.or_true, Bool.or_false, Bool.false_eq_true, Bool.true_eq_false, decide_true, decide_false, decide_eq_true_eq, Bool.not_eq_true', Bool.not_eq_false', decide_eq_false_iff_not, decide_not, not_true_eq_false, not_false_eq_true, and_true, true_and, and_false, false_and, or_true, true_or, or_false, false_or, and_self, or_self, if_true, if_false, reduceCtorEq, Fn.start, Int.cast_ofNat_Int, List.all_cons, List.all_nil, List.any_cons, List.any_nil]
  | false =>
    simp -implicitDefEqProofs only [bindS, mapS, bindN, mapN, ifD_bl, bind_ite', map_ite', ev_c, ev_var, ev_rd, ev_gl, ev_tup, ev_lst, ev_bin, negD_int, ev_neg, notD_bl, ev_nt, ev_cmp, ev_chain, ev_an, ev_orr, ev_ife, ev_ix, ev_sl, isNo_nohi, isNo_c, isNo_var, isNo_bin, isNo_neg, isNo_bi, isNo_ix, isNo_call, isNo_me, endD_int, noIo_nil, ev_call, noIoL_nil, ev_callb, ev_bi, ev_lc, ev_lcr, evs_nil, evs_cons, shd_sh, own_ow, add_int, sub_int, mod_pos, fdiv_pos, lt_int, le_int, gt_int, ge_int, is_non_non, is_bl_bl, is_int_non, is_str_non, is_tup_non, is_lst_non, is_bl_non, isnot_non_non, isnot_int_non, isnot_str_non, isnot_tup_non, isnot_lst_non, isnot_bl_non, cmp_eq, cmp_ne, eq_int, eq_str, eq_bl, eq_non, eq_int_str, eq_str_int, eq_non_str, eq_str_non, eq_non_int, eq_int_non, len_tup, len_lst, len_fls, abs_int, int_int, int_bl, tuple_lst, tuple_tup, list_lst, list_tup, max_int, min_int, isint_int, isint_bl, isint_str, isint_tup, isint_lst, isint_non, isbool_int, isbool_bl, isbool_str, isbool_tup, isbool_lst, isbool_non, isstr_int, isstr_bl, isstr_str, isstr_tup, isstr_lst, isstr_non, istuple_int, istuple_bl, istuple_str, istuple_tup, istuple_lst, istuple_non, islist_int, islist_bl, islist_str, islist_tup, islist_lst, islist_non, ix_tup, ix_lsts, atI_0, atI_1, atI_2, atI_3, atI_4, atI_5, atI_6, atI_7, atI_8, atI_9, atI_10, atI_11, atI_12, ix_fls, ev_me, sl_lst, sl_tup, cmp_isin, cmp_notin, flat_str, flat_int, flat_bl, flat_non, eqF_str, in_tup, seqO_nx, seqO_rt, seqO_bk, seqO_ct, exs_nil, exs_cons, ex_set, setoD_lst, ex_seto, ex_unp, augD_int, ex_aug, ex_expr, appD_lst, ex_app, mthD_lst, ex_mth, mthxD_lst, ex_mthx, om_clear, om_pop, om_reverse, setsD_lst, ex_sets, ex_ret, ex_reto, ex_retn, ex_iff, ex_whl, ex_for, ex_forr, ex_brk, ex_cnt, ex_pass, ex_share, it_tup, it_lst, it_str, it_fls, tg_one, wipe_one, nxO_nx, nxO_ct, nxO_bk, nxO_rt, forD_nil, lcD_nil, lcD_cons, consO_some, consO_none, ansO_nx, ansO_rt, ansO_ite, sizeLine_lit, pow_lit, toNx_nx, toNx_ct, toNx_ite, toA_some, toA_ite, List.getElem?_cons_zero, List.getElem?_cons_succ, List.getElem?_nil, List.set_cons_zero, List.set_cons_succ, List.set_nil, List.length_cons, List.length_nil, List.length_map, List.length_append, List.length_range, List.length_replicate, List.map_cons, List.map_nil, List.cons_append, List.nil_append, List.append_nil, List.replicate_succ, List.replicate_zero, Nat.reduceAdd, Nat.reduceSub, Nat.reduceMul, Nat.reduceLT, Nat.reduceLeDiff, Nat.reduceEqDiff, Nat.reduceMod, Nat.reduceDiv, Nat.reducePow, Int.reduceAdd, Int.reduceSub, Int.reduceMul, Int.reduceNeg, Int.reduceLT, Int.reduceLE, Int.reduceGT, Int.reduceGE, Int.reduceEq, Int.reduceNe, Int.reduceMod, Int.reduceDiv, Int.reducePow, Int.reduceToNat, Nat.add_zero, Nat.zero_add, Nat.sub_zero, Nat.zero_le, Nat.lt_irrefl, ite_true, ite_false, Bool.not_true, Bool.not_false, Bool.true_and, Bool.false_and, Bool.and_true, Bool.and_false, Bool.true_or, Bool.false_or, Bool.or_true, Bool.or_false, Bool.false_eq_true, Bool.true_eq_false, decide_true, decide_false, decide_eq_true_eq, Bool.not_eq_true', Bool.not_eq_false', decide_eq_false_iff_not, decide_not, not_true_eq_false, not_false_eq_true, and_true, true_and, and_false, false_and, or_true, true_or, or_false, false_or, and_self, or_self, if_true, if_false, reduceCtorEq, Fn.start, Int.cast_ofNat_Int, List.all_cons, List.all_nil, List.any_cons, List.any_nil]
    split
    · rfl
    · split <;> rfl
/-! token_at -/
def tokAt (cs : List Nat) : Str × List Nat :=
  if cs.takeWhile isRun ≠ [] then (kindL (cs.takeWhile isRun), cs.takeWhile isRun)
  else if cs.take 2 ∈ [[61, 61], [33, 61], [60, 61], [62, 61]] then (q "sign", cs.take 2)
  else if cs.headD 0 ∈ [123, 125, 40, 41, 44, 59, 46, 43, 45, 42, 47, 61, 60, 62] then (q "sign", [cs.headD 0])
  else (q "bad", [cs.headD 0])
def lgL : List Str := [st [61, 61], st [33, 61], st [60, 61], st [62, 61]]
def lgD : D := .tup (lgL.map D.str)
theorem G_long : G 3 = some lgD := by
  show some (D.tup [.str (q "=="), .str (q "!="), .str (q "<="), .str (q ">=")]) = some lgD
  rw [show q "==" = st [61, 61] by decide +kernel, show q "!=" = st [33, 61] by decide +kernel, show q "<=" = st [60, 61] by decide +kernel, show q ">=" = st [62, 61] by decide +kernel]
  rfl
theorem in_long (x : Str) : inD (.str x) lgD = some (decide (x ∈ lgL)) := in_strs x lgL
theorem G_short : G 4 = some (.str (st [123, 125, 40, 41, 44, 59, 46, 43, 45, 42, 47, 61, 60, 62])) := rfl
theorem st_mem (a : List Nat) (L : List (List Nat)) : (st a ∈ L.map st) = (a ∈ L) := propext ⟨fun h => by
    obtain ⟨b, hb, e⟩ := List.mem_map.mp h
    rw [st_inj] at e
    exact e ▸ hb, fun h => List.mem_map.mpr ⟨a, h, rfl⟩⟩
theorem c_token_at (n : Nat) (cs : List Nat) (k : Nat) (hl : cs.length ≤ 1000000) (hk : k < cs.length) : call T G (n + 3) k_token_at [.str (st cs), .int (k : Int)] = some (.tup [.str (tokAt (cs.drop k)).1, .str (st (tokAt (cs.drop k)).2)], []) := by
  rw [call_of T_token_at rfl]
  have e1 := c_run_at (n + 1) cs k hl (by omega)
  have hc : cs[k]? = some cs[k] := List.getElem?_eq_getElem hk
  have hi := ix_st cs k _ hc (by omega)
  have hd : (cs.drop k).headD 0 = cs[k] := by
    rw [List.drop_eq_getElem_cons hk]
    rfl
  have hs : slD (.str (st cs)) (some (k : Int)) (some ((k : Int) + 2)) = some (.str (st ((cs.drop k).take 2))) := by
    rw [sl_st cs _ _ (by omega), show ((k : Int) + 2) = ((k + 2 : Nat) : Int) by omega, sIx_nat, sIx_nat, Nat.min_eq_left (show k ≤ cs.length by omega)]
    congr 3
    by_cases h2 : k + 2 ≤ cs.length
    · rw [Nat.min_eq_left h2, Nat.add_sub_cancel_left]
    · rw [Nat.min_eq_right (by omega), List.take_of_length_le (by rw [List.length_drop]; exact Nat.le_refl _), List.take_of_length_le (by rw [List.length_drop]; omega)]
  unfold tokAt
  rw [hd]
  by_cases hr : (cs.drop k).takeWhile isRun = []
  · rw [hr] at e1
    have hm : (st ((cs.drop k).take 2) ∈ lgL) = ((cs.drop k).take 2 ∈ [[61, 61], [33, 61], [60, 61], [62, 61]]) := by unfold lgL; exact st_mem _ [[61, 61], [33, 61], [60, 61], [62, 61]]
    rw [if_neg (fun z => z hr)]
    simp -implicitDefEqProofs only [bindS, mapS, bindN, mapN, ifD_bl, bind_ite', map_ite', ev_c, ev_var, ev_rd, ev_gl, ev_tup, ev_lst, ev_bin, negD_int, ev_neg, notD_bl, ev_nt, ev_cmp, ev_chain, ev_an, ev_orr, ev_ife, ev_ix, ev_sl, isNo_nohi, isNo_c, isNo_var, isNo_bin, isNo_neg, isNo_bi, isNo_ix, isNo_call, isNo_me, endD_int, noIo_nil, ev_call, noIoL_nil, ev_callb, ev_bi, ev_lc, ev_lcr, evs_nil, evs_cons, shd_sh, own_ow, add_int, sub_int, mod_pos, fdiv_pos, lt_int, le_int, gt_int, ge_int, is_non_non, is_bl_bl, is_int_non, is_str_non, is_tup_non, is_lst_non, is_bl_non, isnot_non_non, isnot_int_non, isnot_str_non, isnot_tup_non, isnot_lst_non, isnot_bl_non, cmp_eq, cmp_ne, eq_int, eq_str, eq_bl, eq_non, eq_int_str, eq_str_int, eq_non_str, eq_str_non, eq_non_int, eq_int_non, len_tup, len_lst, len_fls, abs_int, int_int, int_bl, tuple_lst, tuple_tup, list_lst, list_tup, max_int, min_int, isint_int, isint_bl, isint_str, isint_tup, isint_lst, isint_non, isbool_int, isbool_bl, isbool_str, isbool_tup, isbool_lst, isbool_non, isstr_int, isstr_bl, isstr_str, isstr_tup, isstr_lst, isstr_non, istuple_int, istuple_bl, istuple_str, istuple_tup, istuple_lst, istuple_non, islist_int, islist_bl, islist_str, islist_tup, islist_lst, islist_non, ix_tup, ix_lsts, atI_0, atI_1, atI_2, atI_3, atI_4, atI_5, atI_6, atI_7, atI_8, atI_9, atI_10, atI_11, atI_12, ix_fls, ev_me, sl_lst, sl_tup, cmp_isin, cmp_notin, flat_str, flat_int, flat_bl, flat_non, eqF_str, in_tup, seqO_nx, seqO_rt, seqO_bk, seqO_ct, exs_nil, exs_cons, ex_set, setoD_lst, ex_seto, ex_unp, augD_int, ex_aug, ex_expr, appD_lst, ex_app, mthD_lst, ex_mth, mthxD_lst, ex_mthx, om_clear, om_pop, om_reverse, setsD_lst, ex_sets, ex_ret, ex_reto, ex_retn, ex_iff, ex_whl, ex_for, ex_forr, ex_brk, ex_cnt, ex_pass, ex_share, it_tup, it_lst, it_str, it_fls, tg_one, wipe_one, nxO_nx, nxO_ct, nxO_bk, nxO_rt, forD_nil, lcD_nil, lcD_cons, consO_some, consO_none, ansO_nx, ansO_rt, ansO_ite, sizeLine_lit, pow_lit, toNx_nx, toNx_ct, toNx_ite, toA_some, toA_ite, List.getElem?_cons_zero, List.getElem?_cons_succ, List.getElem?_nil, List.set_cons_zero, List.set_cons_succ, List.set_nil, List.length_cons, List.length_nil, List.length_map, List.length_append, List.length_range, List.length_replicate, List.map_cons, List.map_nil, List.cons_append, List.nil_append, List.append_nil, List.replicate_succ, List.replicate_zero, Nat.reduceAdd, Nat.reduceSub, Nat.reduceMul, Nat.reduceLT, Nat.reduceLeDiff, Nat.reduceEqDiff, Nat.reduceMod, Nat.reduceDiv, Nat.reducePow, Int.reduceAdd, Int.reduceSub, Int.reduceMul, Int.reduceNeg, Int.reduceLT, Int.reduceLE, Int.reduceGT, Int.reduceGE, Int.reduceEq, Int.reduceNe, Int.reduceMod, Int.reduceDiv, Int.reducePow, Int.reduceToNat, Nat.add_zero, Nat.zero_add, Nat.sub_zero, Nat.zero_le, Nat.lt_irrefl, ite_true, ite_false, Bool.not_true, Bool.not_false, Bool.true_and, Bool.false_and, Bool.and_true, Bool.and_false, Bool.true_or, Bool.false_or, Bool.or_true, Bool.or_false, Bool.false_eq_true, Bool.true_eq_false, decide_true, decide_false, decide_eq_true_eq, Bool.not_eq_true', Bool.not_eq_false', decide_eq_false_iff_not, decide_not, not_true_eq_false, not_false_eq_true, and_true, true_and, and_false, false_and, or_true, true_or, or_false, false_or, and_self, or_self, if_true, if_false, reduceCtorEq, Fn.start, Int.cast_ofNat_Int, List.all_cons, List.all_nil, List.any_cons, List.any_nil, f_token_at, e1, q_empty, hs, G_long, in_long, hm, hi, G_short, in_st]
    split
    · rfl
    · split <;> rfl
  · obtain ⟨c, r, hcr⟩ : ∃ c r, (cs.drop k).takeWhile isRun = c :: r := by
      cases h : (cs.drop k).takeWhile isRun with
      | nil => exact absurd h hr
      | cons c r => exact ⟨c, r, rfl⟩
    have hlr : (c :: r).length ≤ 1000000 := by
      rw [← hcr]
      have := (List.takeWhile_prefix isRun (l := cs.drop k)).length_le
      rw [List.length_drop] at this
      omega
    rw [hcr] at e1 ⊢
    have e2 := c_kind_of n c r hlr
    have hne : (c :: r = []) = False := by simp
    rw [if_pos (by simp)]
    simp -implicitDefEqProofs only [bindS, mapS, bindN, mapN, ifD_bl, bind_ite', map_ite', ev_c, ev_var, ev_rd, ev_gl, ev_tup, ev_lst, ev_bin, negD_int, ev_neg, notD_bl, ev_nt, ev_cmp, ev_chain, ev_an, ev_orr, ev_ife, ev_ix, ev_sl, isNo_nohi, isNo_c, isNo_var, isNo_bin, isNo_neg, isNo_bi, isNo_ix, isNo_call, isNo_me, endD_int, noIo_nil, ev_call, noIoL_nil, ev_callb, ev_bi, ev_lc, ev_lcr, evs_nil, evs_cons, shd_sh, own_ow, add_int, sub_int, mod_pos, fdiv_pos, lt_int, le_int, gt_int, ge_int, is_non_non, is_bl_bl, is_int_non, is_str_non, is_tup_non, is_lst_non, is_bl_non, isnot_non_non, isnot_int_non, isnot_str_non, isnot_tup_non, isnot_lst_non, isnot_bl_non, cmp_eq, cmp_ne, eq_int, eq_str, eq_bl, eq_non, eq_int_str, eq_str_int, eq_non_str, eq_str_non, eq_non_int, eq_int_non, len_tup, len_lst, len_fls, abs_int, int_int, int_bl, tuple_lst, tuple_tup, list_lst, list_tup, max_int, min_int, isint_int, isint_bl, isint_str, isint_tup, isint_lst, isint_non, isbool_int, isbool_bl, isbool_str, isbool_tup, isbool_lst, isbool_non, isstr_int, isstr_bl, isstr_str, isstr_tup, isstr_lst, isstr_non, istuple_int, istuple_bl, istuple_str, istuple_tup, istuple_lst, istuple_non, islist_int, islist_bl, islist_str, islist_tup, islist_lst, islist_non, ix_tup, ix_lsts, atI_0, atI_1, atI_2, atI_3, atI_4, atI_5, atI_6, atI_7, atI_8, atI_9, atI_10, atI_11, atI_12, ix_fls, ev_me, sl_lst, sl_tup, cmp_isin, cmp_notin, flat_str, flat_int, flat_bl, flat_non, eqF_str, in_tup, seqO_nx, seqO_rt, seqO_bk, seqO_ct, exs_nil, exs_cons, ex_set, setoD_lst, ex_seto, ex_unp, augD_int, ex_aug, ex_expr, appD_lst, ex_app, mthD_lst, ex_mth, mthxD_lst, ex_mthx, om_clear, om_pop, om_reverse, setsD_lst, ex_sets, ex_ret, ex_reto, ex_retn, ex_iff, ex_whl, ex_for, ex_forr, ex_brk, ex_cnt, ex_pass, ex_share, it_tup, it_lst, it_str, it_fls, tg_one, wipe_one, nxO_nx, nxO_ct, nxO_bk, nxO_rt, forD_nil, lcD_nil, lcD_cons, consO_some, consO_none, ansO_nx, ansO_rt, ansO_ite, sizeLine_lit, pow_lit, toNx_nx, toNx_ct, toNx_ite, toA_some, toA_ite, List.getElem?_cons_zero, List.getElem?_cons_succ, List.getElem?_nil, List.set_cons_zero, List.set_cons_succ, List.set_nil, List.length_cons, List.length_nil, List.length_map, List.length_append, List.length_range, List.length_replicate, List.map_cons, List.map_nil, List.cons_append, List.nil_append, List.append_nil, List.replicate_succ, List.replicate_zero, Nat.reduceAdd, Nat.reduceSub, Nat.reduceMul, Nat.reduceLT, Nat.reduceLeDiff, Nat.reduceEqDiff, Nat.reduceMod, Nat.reduceDiv, Nat.reducePow, Int.reduceAdd, Int.reduceSub, Int.reduceMul, Int.reduceNeg, Int.reduceLT, Int.reduceLE, Int.reduceGT, Int.reduceGE, Int.reduceEq, Int.reduceNe, Int.reduceMod, Int.reduceDiv, Int.reducePow, Int.reduceToNat, Nat.add_zero, Nat.zero_add, Nat.sub_zero, Nat.zero_le, Nat.lt_irrefl, ite_true, ite_false, Bool.not_true, Bool.not_false, Bool.true_and, Bool.false_and, Bool.and_true, Bool.and_false, Bool.true_or, Bool.false_or, Bool.or_true, Bool.or_false, Bool.false_eq_true, Bool.true_eq_false, decide_true, decide_false, decide_eq_true_eq, Bool.not_eq_true', Bool.not_eq_false', decide_eq_false_iff_not, decide_not, not_true_eq_false, not_false_eq_true, and_true, true_and, and_false, false_and, or_true, true_or, or_false, false_or, and_self, or_self, if_true, if_false, reduceCtorEq, Fn.start, Int.cast_ofNat_Int, List.all_cons, List.all_nil, List.any_cons, List.any_nil, f_token_at, e1, q_empty, st_inj, hne, e2]
end LW

namespace LW
open PySem PL TL
/-- how far the row goes on -/
def restOf (l : List Nat) : Nat := (l.takeWhile fun c => decide (c ≠ 10)).length
theorem rest_at : ∀ (l : List Nat) (v : Nat), l[v]? = some 10 → (∀ j, j < v → l[j]? ≠ some 10) → restOf l = v
  | [], v, h, _ => by simp at h
  | c :: l, 0, h, _ => by
    have h : c = 10 := by simpa using h
    subst h
    rfl
  | c :: l, v + 1, h, hn => by
    have hc : c ≠ 10 := fun e => hn 0 (Nat.succ_pos _) (by rw [e]; rfl)
    have ih := rest_at l v (by simpa using h) fun j hj => by
      have := hn (j + 1) (Nat.succ_lt_succ hj)
      simpa using this
    unfold restOf at *
    rw [List.takeWhile_cons_of_pos (by simpa using hc), List.length_cons, ih]
theorem rest_no : ∀ (l : List Nat), (∀ j : Nat, l[j]? ≠ some 10) → restOf l = l.length
  | [], _ => rfl
  | c :: l, hn => by
    have hc : c ≠ 10 := fun e => hn 0 (by rw [e]; rfl)
    have ih := rest_no l fun j => by
      have := hn (j + 1)
      simpa using this
    unfold restOf at *
    rw [List.takeWhile_cons_of_pos (by simpa using hc), List.length_cons, ih, List.length_cons]
theorem rest_le (l : List Nat) : restOf l ≤ l.length := (List.takeWhile_prefix _).length_le
theorem q_nl : q "\n" = st [10] := by decide +kernel
theorem q_sp : q " " = st [32] := by decide +kernel
theorem q_hash : q "#" = st [35] := by decide +kernel
theorem c_row_end (n : Nat) (cs : List Nat) (k : Nat) (hl : cs.length ≤ 1000000) (hk : k ≤ cs.length) : call T G (n + 1) k_row_end [.str (st cs), .int (k : Int)] = some (.int ((k + restOf (cs.drop k) : Nat) : Int), []) := by
  rw [call_of T_row_end rfl]
  have hf : fromIndex (st cs).length (k : Int) = k := by
    unfold fromIndex
    rw [if_neg (by omega)]
    omega
  have gd : ∀ v, v < cs.length → (st cs).cps.getD v 0 = cs.getD v 0 := fun v hv => by
    show (cs.toArray).getD v 0 = _
    simp [Array.getD, hv, List.getD_eq_getElem?_getD]
  have hm : meD .find (.str (st cs)) [.str (st [10]), .int (k : Int)] = some (.int (Txt.find3 (st cs) ⟨#[10]⟩ (k : Int))) := rfl
  rcases StrLaws.find3_spec (st cs) 10 (k : Int) with ⟨h1, h2⟩ | ⟨v, h1, h2, h3, h4, h5⟩
  · rw [hf, st_len] at h2
    rw [h1] at hm
    have hr : restOf (cs.drop k) = (cs.drop k).length := rest_no _ fun j e => by
      rw [List.getElem?_drop] at e
      obtain ⟨hj, he⟩ := List.getElem?_eq_some_iff.mp e
      refine h2 (k + j) (by omega) hj ?_
      rw [gd _ hj, List.getD_eq_getElem?_getD, e]
      rfl
    rw [hr, List.length_drop, show k + (cs.length - k) = cs.length by omega]
    simp -implicitDefEqProofs only [bindS, mapS, bindN, mapN, ifD_bl, bind_ite', map_ite', ev_c, ev_var, ev_rd, ev_gl, ev_tup, ev_lst, ev_bin, negD_int, ev_neg, notD_bl, ev_nt, ev_cmp, ev_chain, ev_an, ev_orr, ev_ife, ev_ix, ev_sl, isNo_nohi, isNo_c, isNo_var, isNo_bin, isNo_neg, isNo_bi, isNo_ix, isNo_call, isNo_me, endD_int, noIo_nil, ev_call, noIoL_nil, ev_callb, ev_bi, ev_lc, ev_lcr, evs_nil, evs_cons, shd_sh, own_ow, add_int, sub_int, mod_pos, fdiv_pos, lt_int, le_int, gt_int, ge_int, is_non_non, is_bl_bl, is_int_non, is_str_non, is_tup_non, is_lst_non, is_bl_non, isnot_non_non, isnot_int_non, isnot_str_non, isnot_tup_non, isnot_lst_non, isnot_bl_non, cmp_eq, cmp_ne, eq_int, eq_str, eq_bl, eq_non, eq_int_str, eq_str_int, eq_non_str, eq_str_non, eq_non_int, eq_int_non, len_tup, len_lst, len_fls, abs_int, int_int, int_bl, tuple_lst, tuple_tup, list_lst, list_tup, max_int, min_int, isint_int, isint_bl, isint_str, isint_tup, isint_lst, isint_non, isbool_int, isbool_bl, isbool_str, isbool_tup, isbool_lst, isbool_non, isstr_int, isstr_bl, isstr_str, isstr_tup, isstr_lst, isstr_non, istuple_int, istuple_bl, istuple_str, istuple_tup, istuple_lst, istuple_non, islist_int, islist_bl, islist_str, islist_tup, islist_lst, islist_non, ix_tup, ix_lsts, atI_0, atI_1, atI_2, atI_3, atI_4, atI_5, atI_6, atI_7, atI_8, atI_9, atI_10, atI_11, atI_12, ix_fls, ev_me, sl_lst, sl_tup, cmp_isin, cmp_notin, flat_str, flat_int, flat_bl, flat_non, eqF_str, in_tup, seqO_nx, seqO_rt, seqO_bk, seqO_ct, exs_nil, exs_cons, ex_set, setoD_lst, ex_seto, ex_unp, augD_int, ex_aug, ex_expr, appD_lst, ex_app, mthD_lst, ex_mth, mthxD_lst, ex_mthx, om_clear, om_pop, om_reverse, setsD_lst, ex_sets, ex_ret, ex_reto, ex_retn, ex_iff, ex_whl, ex_for, ex_forr, ex_brk, ex_cnt, ex_pass, ex_share, it_tup, it_lst, it_str, it_fls, tg_one, wipe_one, nxO_nx, nxO_ct, nxO_bk, nxO_rt, forD_nil, lcD_nil, lcD_cons, consO_some, consO_none, ansO_nx, ansO_rt, ansO_ite, sizeLine_lit, pow_lit, toNx_nx, toNx_ct, toNx_ite, toA_some, toA_ite, List.getElem?_cons_zero, List.getElem?_cons_succ, List.getElem?_nil, List.set_cons_zero, List.set_cons_succ, List.set_nil, List.length_cons, List.length_nil, List.length_map, List.length_append, List.length_range, List.length_replicate, List.map_cons, List.map_nil, List.cons_append, List.nil_append, List.append_nil, List.replicate_succ, List.replicate_zero, Nat.reduceAdd, Nat.reduceSub, Nat.reduceMul, Nat.reduceLT, Nat.reduceLeDiff, Nat.reduceEqDiff, Nat.reduceMod, Nat.reduceDiv, Nat.reducePow, Int.reduceAdd, Int.reduceSub, Int.reduceMul, Int.reduceNeg, Int.reduceLT, Int.reduceLE, Int.reduceGT, Int.reduceGE, Int.reduceEq, Int.reduceNe, Int.reduceMod, Int.reduceDiv, Int.reducePow, Int.reduceToNat, Nat.add_zero, Nat.zero_add, Nat.sub_zero, Nat.zero_le, Nat.lt_irrefl, ite_true, ite_false, Bool.not_true, Bool.not_false, Bool.true_and, Bool.false_and, Bool.and_true, Bool.and_false, Bool.true_or, Bool.false_or, Bool.or_true, Bool.or_false, Bool.false_eq_true, Bool.true_eq_false, decide_true, decide_false, decide_eq_true_eq, Bool.not_eq_true', Bool.not_eq_false', decide_eq_false_iff_not, decide_not, not_true_eq_false, not_false_eq_true, and_true, true_and, and_false, false_and, or_true, true_or, or_false, false_or, and_self, or_self, if_true, if_false, reduceCtorEq, Fn.start, Int.cast_ofNat_Int, List.all_cons, List.all_nil, List.any_cons, List.any_nil, f_row_end, q_nl, hm, len_st cs (by omega)]
  · rw [hf] at h2 h5
    rw [st_len] at h3
    rw [h1] at hm
    have hr : restOf (cs.drop k) = v - k := rest_at _ _ (by
        rw [List.getElem?_drop, show k + (v - k) = v by omega, List.getElem?_eq_getElem h3]
        rw [gd v h3, List.getD_eq_getElem?_getD, List.getElem?_eq_getElem h3] at h4
        exact congrArg some h4) fun j hj e => by
      rw [List.getElem?_drop] at e
      obtain ⟨hj', he⟩ := List.getElem?_eq_some_iff.mp e
      refine h5 (k + j) (by omega) (by omega) ?_
      rw [gd _ hj', List.getD_eq_getElem?_getD, e]
      rfl
    rw [hr, show k + (v - k) = v by omega]
    have hv : ¬ ((v : Int) < 0) := by omega
    simp -implicitDefEqProofs only [bindS, mapS, bindN, mapN, ifD_bl, bind_ite', map_ite', ev_c, ev_var, ev_rd, ev_gl, ev_tup, ev_lst, ev_bin, negD_int, ev_neg, notD_bl, ev_nt, ev_cmp, ev_chain, ev_an, ev_orr, ev_ife, ev_ix, ev_sl, isNo_nohi, isNo_c, isNo_var, isNo_bin, isNo_neg, isNo_bi, isNo_ix, isNo_call, isNo_me, endD_int, noIo_nil, ev_call, noIoL_nil, ev_callb, ev_bi, ev_lc, ev_lcr, evs_nil, evs_cons, shd_sh, own_ow, add_int, sub_int, mod_pos, fdiv_pos, lt_int, le_int, gt_int, ge_int, is_non_non, is_bl_bl, is_int_non, is_str_non, is_tup_non, is_lst_non, is_bl_non, isnot_non_non, isnot_int_non, isnot_str_non, isnot_tup_non, isnot_lst_non, isnot_bl_non, cmp_eq, cmp_ne, eq_int, eq_str, eq_bl, eq_non, eq_int_str, eq_str_int, eq_non_str, eq_str_non, eq_non_int, eq_int_non, len_tup, len_lst, len_fls, abs_int, int_int, int_bl, tuple_lst, tuple_tup, list_lst, list_tup, max_int, min_int, isint_int, isint_bl, isint_str, isint_tup, isint_lst, isint_non, isbool_int, isbool_bl, isbool_str, isbool_tup, isbool_lst, isbool_non, isstr_int, isstr_bl, isstr_str, isstr_tup, isstr_lst, isstr_non, istuple_int, istuple_bl, istuple_str, istuple_tup, istuple_lst, istuple_non, islist_int, islist_bl, islist_str, islist_tup, islist_lst, islist_non, ix_tup, ix_lsts, atI_0, atI_1, atI_2, atI_3, atI_4, atI_5, atI_6, atI_7, atI_8, atI_9, atI_10, atI_11, atI_12, ix_fls, ev_me, sl_lst, sl_tup, cmp_isin, cmp_notin, flat_str, flat_int, flat_bl, flat_non, eqF_str, in_tup, seqO_nx, seqO_rt, seqO_bk, seqO_ct, exs_nil, exs_cons, ex_set, setoD_lst, ex_seto, ex_unp, augD_int, ex_aug, ex_expr, appD_lst, ex_app, mthD_lst, ex_mth, mthxD_lst, ex_mthx, om_clear, om_pop, om_reverse, setsD_lst, ex_sets, ex_ret, ex_reto, ex_retn, ex_iff, ex_whl, ex_for, ex_forr, ex_brk, ex_cnt, ex_pass, ex_share, it_tup, it_lst, it_str, it_fls, tg_one, wipe_one, nxO_nx, nxO_ct, nxO_bk, nxO_rt, forD_nil, lcD_nil, lcD_cons, consO_some, consO_none, ansO_nx, ansO_rt, ansO_ite, sizeLine_lit, pow_lit, toNx_nx, toNx_ct, toNx_ite, toA_some, toA_ite, List.getElem?_cons_zero, List.getElem?_cons_succ, List.getElem?_nil, List.set_cons_zero, List.set_cons_succ, List.set_nil, List.length_cons, List.length_nil, List.length_map, List.length_append, List.length_range, List.length_replicate, List.map_cons, List.map_nil, List.cons_append, List.nil_append, List.append_nil, List.replicate_succ, List.replicate_zero, Nat.reduceAdd, Nat.reduceSub, Nat.reduceMul, Nat.reduceLT, Nat.reduceLeDiff, Nat.reduceEqDiff, Nat.reduceMod, Nat.reduceDiv, Nat.reducePow, Int.reduceAdd, Int.reduceSub, Int.reduceMul, Int.reduceNeg, Int.reduceLT, Int.reduceLE, Int.reduceGT, Int.reduceGE, Int.reduceEq, Int.reduceNe, Int.reduceMod, Int.reduceDiv, Int.reducePow, Int.reduceToNat, Nat.add_zero, Nat.zero_add, Nat.sub_zero, Nat.zero_le, Nat.lt_irrefl, ite_true, ite_false, Bool.not_true, Bool.not_false, Bool.true_and, Bool.false_and, Bool.and_true, Bool.and_false, Bool.true_or, Bool.false_or, Bool.or_true, Bool.or_false, Bool.false_eq_true, Bool.true_eq_false, decide_true, decide_false, decide_eq_true_eq, Bool.not_eq_true', Bool.not_eq_false', decide_eq_false_iff_not, decide_not, not_true_eq_false, not_false_eq_true, and_true, true_and, and_false, false_and, or_true, true_or, or_false, false_or, and_self, or_self, if_true, if_false, reduceCtorEq, Fn.start, Int.cast_ofNat_Int, List.all_cons, List.all_nil, List.any_cons, List.any_nil, f_row_end, q_nl, hm, hv]
/-! token_list -/
def tokD (kind : Str) (word : List Nat) (row col : Int) : D := .tup [.str kind, .str (st word), .int row, .int col]
/-- the tokens of what is left -/
def scan : Nat → Int → Int → List Nat → List D
  | 0, _, _, _ => []
  | _ + 1, row, col, [] => [tokD (q "end") [] row col]
  | n + 1, row, col, c :: r =>
    if c = 10 then scan n (row + 1) 1 r
    else if c = 32 then scan n row (col + 1) r
    else if c = 35 then scan n row (col + restOf (c :: r)) ((c :: r).drop (restOf (c :: r)))
    else tokD (tokAt (c :: r)).1 (tokAt (c :: r)).2 row col :: (if (tokAt (c :: r)).1 = q "bad" then [] else scan n row (col + (tokAt (c :: r)).2.length) ((c :: r).drop (tokAt (c :: r)).2.length))
theorem takeWhile_take (p : Nat → Bool) (l : List Nat) : l.takeWhile p = l.take (l.takeWhile p).length := List.prefix_iff_eq_take.mp (List.takeWhile_prefix p)
theorem tokAt_pos (c : Nat) (r : List Nat) : 0 < (tokAt (c :: r)).2.length ∧ (tokAt (c :: r)).2.length ≤ (c :: r).length := by
  unfold tokAt
  split
  · rename_i h
    refine ⟨List.length_pos_iff.mpr h, (List.takeWhile_prefix _).length_le⟩
  · split
    · rename_i h
      simp only [List.mem_cons, List.not_mem_nil, or_false] at h
      have h2 : ((c :: r).take 2).length = 2 := by rcases h with h | h | h | h <;> rw [h] <;> rfl
      rw [h2]
      rw [List.length_take] at h2
      exact ⟨by decide, by omega⟩
    · split <;> exact ⟨Nat.zero_lt_one, by simp only [List.length_cons, List.length_nil]; omega⟩
def whC : E := .cmp .lt (.var 4) (.bi .len [(.var 0)])
def tailS : List S := [.app 1 (.tup [(.c (.str (q "end"))), (.c (.str (q ""))), (.var 2), (.bin .add (.bin .sub (.var 4) (.var 3)) (.c (.int 1)))]), .reto 1]
theorem scan_loop (m0 : Nat) (cs : List Nat) (hl : cs.length ≤ 1000000) : ∀ (m k n : Nat) (acc : List D) (row rb : Int) (x5 x6 : Sl), cs.length - k ≤ m → m < n → k ≤ cs.length → acc.length ≤ k →
    ∃ s', (whlD (ev (call T G (m0 + 3)) G whC) (exs (call T G (m0 + 3)) G b_token_list_0) n [.sh (.str (st cs)), .ow (.lst acc), .sh (.int row), .sh (.int rb), .sh (.int (k : Int)), x5, x6]).bind (seqO (exs (call T G (m0 + 3)) G tailS)) = some (.rt (.lst (acc ++ scan (m + 1) row ((k : Int) - rb + 1) (cs.drop k))) s')
  | m, k, 0, _, _, _, _, _, _, h, _, _ => absurd h (by omega)
  | m, k, n + 1, acc, row, rb, x5, x6, h1, h2, h3, h4 => by
    rw [whlD_succ]
    have ha : acc.length < 16777216 := by omega
    by_cases hk : k < cs.length
    · have hc : cs[k]? = some cs[k] := List.getElem?_eq_getElem hk
      have hi := ix_st cs k _ hc (by omega)
      have hd : cs.drop k = cs[k] :: cs.drop (k + 1) := List.drop_eq_getElem_cons hk
      have hk' : ((k : Int) < (cs.length : Int)) := by omega
      generalize cs[k] = c at *
      obtain ⟨m, rfl⟩ : ∃ m', m = m' + 1 := ⟨m - 1, by omega⟩
      have hw : ev (call T G (m0 + 3)) G whC [.sh (.str (st cs)), .ow (.lst acc), .sh (.int row), .sh (.int rb), .sh (.int (k : Int)), x5, x6] = some (.bl true) := by
        simp -implicitDefEqProofs only [bindS, mapS, bindN, mapN, ifD_bl, bind_ite', map_ite', ev_c, ev_var, ev_rd, ev_gl, ev_tup, ev_lst, ev_bin, negD_int, ev_neg, notD_bl, ev_nt, ev_cmp, ev_chain, ev_an, ev_orr, ev_ife, ev_ix, ev_sl, isNo_nohi, isNo_c, isNo_var, isNo_bin, isNo_neg, isNo_bi, isNo_ix, isNo_call, isNo_me, endD_int, noIo_nil, ev_call, noIoL_nil, ev_callb, ev_bi, ev_lc, ev_lcr, evs_nil, evs_cons, shd_sh, own_ow, add_int, sub_int, mod_pos, fdiv_pos, lt_int, le_int, gt_int, ge_int, is_non_non, is_bl_bl, is_int_non, is_str_non, is_tup_non, is_lst_non, is_bl_non, isnot_non_non, isnot_int_non, isnot_str_non, isnot_tup_non, isnot_lst_non, isnot_bl_non, cmp_eq, cmp_ne, eq_int, eq_str, eq_bl, eq_non, eq_int_str, eq_str_int, eq_non_str, eq_str_non, eq_non_int, eq_int_non, len_tup, len_lst, len_fls, abs_int, int_int, int_bl, tuple_lst, tuple_tup, list_lst, list_tup, max_int, min_int, isint_int, isint_bl, isint_str, isint_tup, isint_lst, isint_non, isbool_int, isbool_bl, isbool_str, isbool_tup, isbool_lst, isbool_non, isstr_int, isstr_bl, isstr_str, isstr_tup, isstr_lst, isstr_non, istuple_int, istuple_bl, istuple_str, istuple_tup, istuple_lst, istuple_non, islist_int, islist_bl, islist_str, islist_tup, islist_lst, islist_non, ix_tup, ix_lsts, atI_0, atI_1, atI_2, atI_3, atI_4, atI_5, atI_6, atI_7, atI_8, atI_9, atI_10, atI_11, atI_12, ix_fls, ev_me, sl_lst, sl_tup, cmp_isin, cmp_notin, flat_str, flat_int, flat_bl, flat_non, eqF_str, in_tup, seqO_nx, seqO_rt, seqO_bk, seqO_ct, exs_nil, exs_cons, ex_set, setoD_lst, ex_seto, ex_unp, augD_int, ex_aug, ex_expr, appD_lst, ex_app, mthD_lst, ex_mth, mthxD_lst, ex_mthx, om_clear, om_pop, om_reverse, setsD_lst, ex_sets, ex_ret, ex_reto, ex_retn, ex_iff, ex_whl, ex_for, ex_forr, ex_brk, ex_cnt, ex_pass, ex_share, it_tup, it_lst, it_str, it_fls, tg_one, wipe_one, nxO_nx, nxO_ct, nxO_bk, nxO_rt, forD_nil, lcD_nil, lcD_cons, consO_some, consO_none, ansO_nx, ansO_rt, ansO_ite, sizeLine_lit, pow_lit, toNx_nx, toNx_ct, toNx_ite, toA_some, toA_ite, List.getElem?_cons_zero, List.getElem?_cons_succ, List.getElem?_nil, List.set_cons_zero, List.set_cons_succ, List.set_nil, List.length_cons, List.length_nil, List.length_map, List.length_append, List.length_range, List.length_replicate, List.map_cons, List.map_nil, List.cons_append, List.nil_append, List.append_nil, List.replicate_succ, List.replicate_zero, Nat.reduceAdd, Nat.reduceSub, Nat.reduceMul, Nat.reduceLT, Nat.reduceLeDiff, Nat.reduceEqDiff, Nat.reduceMod, Nat.reduceDiv, Nat.reducePow, Int.reduceAdd, Int.reduceSub, Int.reduceMul, Int.reduceNeg, Int.reduceLT, Int.reduceLE, Int.reduceGT, Int.reduceGE, Int.reduceEq, Int.reduceNe, Int.reduceMod, Int.reduceDiv, Int.reducePow, Int.reduceToNat, Nat.add_zero, Nat.zero_add, Nat.sub_zero, Nat.zero_le, Nat.lt_irrefl, ite_true, ite_false, Bool.not_true, Bool.not_false, Bool.true_and, Bool.false_and, Bool.and_true, Bool.and_false, Bool.true_or, Bool.false_or, Bool.or_true, Bool.or_false, Bool.false_eq_true, Bool.true_eq_false, decide_true, decide_false, decide_eq_true_eq, Bool.not_eq_true', Bool.not_eq_false', decide_eq_false_iff_not, decide_not, not_true_eq_false, not_false_eq_true, and_true, true_and, and_false, false_and, or_true, true_or, or_false, false_or, and_self, or_self, if_true, if_false, reduceCtorEq, Fn.start, Int.cast_ofNat_Int, List.all_cons, List.all_nil, List.any_cons, List.any_nil, whC, len_st cs (by omega), hk']
      rw [hw, bindS, ifD_bl, if_pos rfl, hd]
      by_cases c1 : c = 10
      · subst c1
        obtain ⟨s', ih⟩ := scan_loop m0 cs hl m (k + 1) n acc (row + 1) ((k : Int) + 1) x5 x6 (by omega) (by omega) (by omega) (by omega)
        refine ⟨s', ?_⟩
        rw [show scan (m + 1 + 1) row ((k : Int) - rb + 1) (10 :: cs.drop (k + 1)) = scan (m + 1) (row + 1) 1 (cs.drop (k + 1)) from if_pos rfl]
        rw [show (((k + 1 : Nat) : Int) - ((k : Int) + 1) + 1) = 1 by omega] at ih
        rw [← ih]
        simp -implicitDefEqProofs only [bindS, mapS, bindN, mapN, ifD_bl, bind_ite', map_ite', ev_c, ev_var, ev_rd, ev_gl, ev_tup, ev_lst, ev_bin, negD_int, ev_neg, notD_bl, ev_nt, ev_cmp, ev_chain, ev_an, ev_orr, ev_ife, ev_ix, ev_sl, isNo_nohi, isNo_c, isNo_var, isNo_bin, isNo_neg, isNo_bi, isNo_ix, isNo_call, isNo_me, endD_int, noIo_nil, ev_call, noIoL_nil, ev_callb, ev_bi, ev_lc, ev_lcr, evs_nil, evs_cons, shd_sh, own_ow, add_int, sub_int, mod_pos, fdiv_pos, lt_int, le_int, gt_int, ge_int, is_non_non, is_bl_bl, is_int_non, is_str_non, is_tup_non, is_lst_non, is_bl_non, isnot_non_non, isnot_int_non, isnot_str_non, isnot_tup_non, isnot_lst_non, isnot_bl_non, cmp_eq, cmp_ne, eq_int, eq_str, eq_bl, eq_non, eq_int_str, eq_str_int, eq_non_str, eq_str_non, eq_non_int, eq_int_non, len_tup, len_lst, len_fls, abs_int, int_int, int_bl, tuple_lst, tuple_tup, list_lst, list_tup, max_int, min_int, isint_int, isint_bl, isint_str, isint_tup, isint_lst, isint_non, isbool_int, isbool_bl, isbool_str, isbool_tup, isbool_lst, isbool_non, isstr_int, isstr_bl, isstr_str, isstr_tup, isstr_lst, isstr_non, istuple_int, istuple_bl, istuple_str, istuple_tup, istuple_lst, istuple_non, islist_int, islist_bl, islist_str, islist_tup, islist_lst, islist_non, ix_tup, ix_lsts, atI_0, atI_1, atI_2, atI_3, atI_4, atI_5, atI_6, atI_7, atI_8, atI_9, atI_10, atI_11, atI_12, ix_fls, ev_me, sl_lst, sl_tup, cmp_isin, cmp_notin, flat_str, flat_int, flat_bl, flat_non, eqF_str, in_tup, seqO_nx, seqO_rt, seqO_bk, seqO_ct, exs_nil, exs_cons, ex_set, setoD_lst, ex_seto, ex_unp, augD_int, ex_aug, ex_expr, appD_lst, ex_app, mthD_lst, ex_mth, mthxD_lst, ex_mthx, om_clear, om_pop, om_reverse, setsD_lst, ex_sets, ex_ret, ex_reto, ex_retn, ex_iff, ex_whl, ex_for, ex_forr, ex_brk, ex_cnt, ex_pass, ex_share, it_tup, it_lst, it_str, it_fls, tg_one, wipe_one, nxO_nx, nxO_ct, nxO_bk, nxO_rt, forD_nil, lcD_nil, lcD_cons, consO_some, consO_none, ansO_nx, ansO_rt, ansO_ite, sizeLine_lit, pow_lit, toNx_nx, toNx_ct, toNx_ite, toA_some, toA_ite, List.getElem?_cons_zero, List.getElem?_cons_succ, List.getElem?_nil, List.set_cons_zero, List.set_cons_succ, List.set_nil, List.length_cons, List.length_nil, List.length_map, List.length_append, List.length_range, List.length_replicate, List.map_cons, List.map_nil, List.cons_append, List.nil_append, List.append_nil, List.replicate_succ, List.replicate_zero, Nat.reduceAdd, Nat.reduceSub, Nat.reduceMul, Nat.reduceLT, Nat.reduceLeDiff, Nat.reduceEqDiff, Nat.reduceMod, Nat.reduceDiv, Nat.reducePow, Int.reduceAdd, Int.reduceSub, Int.reduceMul, Int.reduceNeg, Int.reduceLT, Int.reduceLE, Int.reduceGT, Int.reduceGE, Int.reduceEq, Int.reduceNe, Int.reduceMod, Int.reduceDiv, Int.reducePow, Int.reduceToNat, Nat.add_zero, Nat.zero_add, Nat.sub_zero, Nat.zero_le, Nat.lt_irrefl, ite_true, ite_false, Bool.not_true, Bool.not_false, Bool.true_and, Bool.false_and, Bool.and_true, Bool.and_false, Bool.true_or, Bool.false_or, Bool.or_true, Bool.or_false, Bool.false_eq_true, Bool.true_eq_false, decide_true, decide_false, decide_eq_true_eq, Bool.not_eq_true', Bool.not_eq_false', decide_eq_false_iff_not, decide_not, not_true_eq_false, not_false_eq_true, and_true, true_and, and_false, false_and, or_true, true_or, or_false, false_or, and_self, or_self, if_true, if_false, reduceCtorEq, Fn.start, Int.cast_ofNat_Int, List.all_cons, List.all_nil, List.any_cons, List.any_nil, b_token_list_0, hi, q_nl, st_inj]
        rfl
      by_cases c2 : c = 32
      · subst c2
        obtain ⟨s', ih⟩ := scan_loop m0 cs hl m (k + 1) n acc row rb x5 x6 (by omega) (by omega) (by omega) (by omega)
        refine ⟨s', ?_⟩
        rw [show scan (m + 1 + 1) row ((k : Int) - rb + 1) (32 :: cs.drop (k + 1)) = scan (m + 1) row ((k : Int) - rb + 1 + 1) (cs.drop (k + 1)) from rfl]
        rw [show (((k + 1 : Nat) : Int) - rb + 1) = (k : Int) - rb + 1 + 1 by omega] at ih
        rw [← ih]
        have z : ([32] = [10]) = False := by decide
        simp -implicitDefEqProofs only [bindS, mapS, bindN, mapN, ifD_bl, bind_ite', map_ite', ev_c, ev_var, ev_rd, ev_gl, ev_tup, ev_lst, ev_bin, negD_int, ev_neg, notD_bl, ev_nt, ev_cmp, ev_chain, ev_an, ev_orr, ev_ife, ev_ix, ev_sl, isNo_nohi, isNo_c, isNo_var, isNo_bin, isNo_neg, isNo_bi, isNo_ix, isNo_call, isNo_me, endD_int, noIo_nil, ev_call, noIoL_nil, ev_callb, ev_bi, ev_lc, ev_lcr, evs_nil, evs_cons, shd_sh, own_ow, add_int, sub_int, mod_pos, fdiv_pos, lt_int, le_int, gt_int, ge_int, is_non_non, is_bl_bl, is_int_non, is_str_non, is_tup_non, is_lst_non, is_bl_non, isnot_non_non, isnot_int_non, isnot_str_non, isnot_tup_non, isnot_lst_non, isnot_bl_non, cmp_eq, cmp_ne, eq_int, eq_str, eq_bl, eq_non, eq_int_str, eq_str_int, eq_non_str, eq_str_non, eq_non_int, eq_int_non, len_tup, len_lst, len_fls, abs_int, int_int, int_bl, tuple_lst, tuple_tup, list_lst, list_tup, max_int, min_int, isint_int, isint_bl, isint_str, isint_tup, isint_lst, isint_non, isbool_int, isbool_bl, isbool_str, isbool_tup, isbool_lst, isbool_non, isstr_int, isstr_bl, isstr_str, isstr_tup, isstr_lst, isstr_non, istuple_int, istuple_bl, istuple_str, istuple_tup, istuple_lst, istuple_non, islist_int, islist_bl, islist_str, islist_tup, islist_lst, islist_non, ix_tup, ix_lsts, atI_0, atI_1, atI_2, atI_3, atI_4, atI_5, atI_6, atI_7, atI_8, atI_9, atI_10, atI_11, atI_12, ix_fls, ev_me, sl_lst, sl_tup, cmp_isin, cmp_notin, flat_str, flat_int, flat_bl, flat_non, eqF_str, in_tup, seqO_nx, seqO_rt, seqO_bk, seqO_ct, exs_nil, exs_cons, ex_set, setoD_lst, ex_seto, ex_unp, augD_int, ex_aug, ex_expr, appD_lst, ex_app, mthD_lst, ex_mth, mthxD_lst, ex_mthx, om_clear, om_pop, om_reverse, setsD_lst, ex_sets, ex_ret, ex_reto, ex_retn, ex_iff, ex_whl, ex_for, ex_forr, ex_brk, ex_cnt, ex_pass, ex_share, it_tup, it_lst, it_str, it_fls, tg_one, wipe_one, nxO_nx, nxO_ct, nxO_bk, nxO_rt, forD_nil, lcD_nil, lcD_cons, consO_some, consO_none, ansO_nx, ansO_rt, ansO_ite, sizeLine_lit, pow_lit, toNx_nx, toNx_ct, toNx_ite, toA_some, toA_ite, List.getElem?_cons_zero, List.getElem?_cons_succ, List.getElem?_nil, List.set_cons_zero, List.set_cons_succ, List.set_nil, List.length_cons, List.length_nil, List.length_map, List.length_append, List.length_range, List.length_replicate, List.map_cons, List.map_nil, List.cons_append, List.nil_append, List.append_nil, List.replicate_succ, List.replicate_zero, Nat.reduceAdd, Nat.reduceSub, Nat.reduceMul, Nat.reduceLT, Nat.reduceLeDiff, Nat.reduceEqDiff, Nat.reduceMod, Nat.reduceDiv, Nat.reducePow, Int.reduceAdd, Int.reduceSub, Int.reduceMul, Int.reduceNeg, Int.reduceLT, Int.reduceLE, Int.reduceGT, Int.reduceGE, Int.reduceEq, Int.reduceNe, Int.reduceMod, Int.reduceDiv, Int.reducePow, Int.reduceToNat, Nat.add_zero, Nat.zero_add, Nat.sub_zero, Nat.zero_le, Nat.lt_irrefl, ite_true, ite_false, Bool.not_true, Bool.not_false, Bool.true_and, Bool.false_and, Bool.and_true, Bool.and_false, Bool.true_or, Bool.false_or, Bool.or_true, Bool.or_false, Bool.false_eq_true, Bool.true_eq_false, decide_true, decide_false, decide_eq_true_eq, Bool.not_eq_true', Bool.not_eq_false', decide_eq_false_iff_not, decide_not, not_true_eq_false, not_false_eq_true, and_true, true_and, and_false, false_and, or_true, true_or, or_false, false_or, and_self, or_self, if_true, if_false, reduceCtorEq, Fn.start, Int.cast_ofNat_Int, List.all_cons, List.all_nil, List.any_cons, List.any_nil, b_token_list_0, hi, q_nl, q_sp, st_inj, z]
        rfl
      by_cases c3 : c = 35
      · subst c3
        have hr := rest_le (cs.drop k)
        have hrp : 0 < restOf (cs.drop k) := by
          rw [hd]
          unfold restOf
          rw [List.takeWhile_cons_of_pos (by decide)]
          exact Nat.succ_pos _
        rw [List.length_drop] at hr
        obtain ⟨s', ih⟩ := scan_loop m0 cs hl m (k + restOf (cs.drop k)) n acc row rb x5 x6 (by omega) (by omega) (by omega) (by omega)
        refine ⟨s', ?_⟩
        have e1 := c_row_end (m0 + 2) cs k hl (by omega)
        rw [show scan (m + 1 + 1) row ((k : Int) - rb + 1) (35 :: cs.drop (k + 1)) = scan (m + 1) row ((k : Int) - rb + 1 + restOf (35 :: cs.drop (k + 1))) ((35 :: cs.drop (k + 1)).drop (restOf (35 :: cs.drop (k + 1)))) from rfl, ← hd, List.drop_drop]
        rw [show (((k + restOf (cs.drop k) : Nat) : Int) - rb + 1) = (k : Int) - rb + 1 + restOf (cs.drop k) by omega] at ih
        rw [← ih]
        have z : ([35] = [10]) = False := by decide
        have z2 : ([35] = [32]) = False := by decide
        simp -implicitDefEqProofs only [bindS, mapS, bindN, mapN, ifD_bl, bind_ite', map_ite', ev_c, ev_var, ev_rd, ev_gl, ev_tup, ev_lst, ev_bin, negD_int, ev_neg, notD_bl, ev_nt, ev_cmp, ev_chain, ev_an, ev_orr, ev_ife, ev_ix, ev_sl, isNo_nohi, isNo_c, isNo_var, isNo_bin, isNo_neg, isNo_bi, isNo_ix, isNo_call, isNo_me, endD_int, noIo_nil, ev_call, noIoL_nil, ev_callb, ev_bi, ev_lc, ev_lcr, evs_nil, evs_cons, shd_sh, own_ow, add_int, sub_int, mod_pos, fdiv_pos, lt_int, le_int, gt_int, ge_int, is_non_non, is_bl_bl, is_int_non, is_str_non, is_tup_non, is_lst_non, is_bl_non, isnot_non_non, isnot_int_non, isnot_str_non, isnot_tup_non, isnot_lst_non, isnot_bl_non, cmp_eq, cmp_ne, eq_int, eq_str, eq_bl, eq_non, eq_int_str, eq_str_int, eq_non_str, eq_str_non, eq_non_int, eq_int_non, len_tup, len_lst, len_fls, abs_int, int_int, int_bl, tuple_lst, tuple_tup, list_lst, list_tup, max_int, min_int, isint_int, isint_bl, isint_str, isint_tup, isint_lst, isint_non, isbool_int, isbool_bl, isbool_str, isbool_tup, isbool_lst, isbool_non, isstr_int, isstr_bl, isstr_str, isstr_tup, isstr_lst, isstr_non, istuple_int, istuple_bl, istuple_str, istuple_tup, istuple_lst, istuple_non, islist_int, islist_bl, islist_str, islist_tup, islist_lst, islist_non, ix_tup, ix_lsts, atI_0, atI_1, atI_2, atI_3, atI_4, atI_5, atI_6, atI_7, atI_8, atI_9, atI_10, atI_11, atI_12, ix_fls, ev_me, sl_lst, sl_tup, cmp_isin, cmp_notin, flat_str, flat_int, flat_bl, flat_non, eqF_str, in_tup, seqO_nx, seqO_rt, seqO_bk, seqO_ct, exs_nil, exs_cons, ex_set, setoD_lst, ex_seto, ex_unp, augD_int, ex_aug, ex_expr, appD_lst, ex_app, mthD_lst, ex_mth, mthxD_lst, ex_mthx, om_clear, om_pop, om_reverse, setsD_lst, ex_sets, ex_ret, ex_reto, ex_retn, ex_iff, ex_whl, ex_for, ex_forr, ex_brk, ex_cnt, ex_pass, ex_share, it_tup, it_lst, it_str, it_fls, tg_one, wipe_one, nxO_nx, nxO_ct, nxO_bk, nxO_rt, forD_nil, lcD_nil, lcD_cons, consO_some, consO_none, ansO_nx, ansO_rt, ansO_ite, sizeLine_lit, pow_lit, toNx_nx, toNx_ct, toNx_ite, toA_some, toA_ite, List.getElem?_cons_zero, List.getElem?_cons_succ, List.getElem?_nil, List.set_cons_zero, List.set_cons_succ, List.set_nil, List.length_cons, List.length_nil, List.length_map, List.length_append, List.length_range, List.length_replicate, List.map_cons, List.map_nil, List.cons_append, List.nil_append, List.append_nil, List.replicate_succ, List.replicate_zero, Nat.reduceAdd, Nat.reduceSub, Nat.reduceMul, Nat.reduceLT, Nat.reduceLeDiff, Nat.reduceEqDiff, Nat.reduceMod, Nat.reduceDiv, Nat.reducePow, Int.reduceAdd, Int.reduceSub, Int.reduceMul, Int.reduceNeg, Int.reduceLT, Int.reduceLE, Int.reduceGT, Int.reduceGE, Int.reduceEq, Int.reduceNe, Int.reduceMod, Int.reduceDiv, Int.reducePow, Int.reduceToNat, Nat.add_zero, Nat.zero_add, Nat.sub_zero, Nat.zero_le, Nat.lt_irrefl, ite_true, ite_false, Bool.not_true, Bool.not_false, Bool.true_and, Bool.false_and, Bool.and_true, Bool.and_false, Bool.true_or, Bool.false_or, Bool.or_true, Bool.or_false, Bool.false_eq_true, Bool.true_eq_false, decide_true, decide_false, decide_eq_true_eq, Bool.not_eq_true', Bool.not_eq_false', decide_eq_false_iff_not, decide_not, not_true_eq_false, not_false_eq_true, and_true, true_and, and_false, false_and, or_true, true_or, or_false, false_or, and_self, or_self, if_true, if_false, reduceCtorEq, Fn.start, Int.cast_ofNat_Int, List.all_cons, List.all_nil, List.any_cons, List.any_nil, b_token_list_0, hi, q_nl, q_sp, q_hash, st_inj, z, z2, e1]
      have z1 : ([c] = [10]) = False := by simpa using c1
      have z2 : ([c] = [32]) = False := by simpa using c2
      have z3 : ([c] = [35]) = False := by simpa using c3
      have e1 := c_token_at m0 cs k hl hk
      rw [hd] at e1
      obtain ⟨p1, p2⟩ := tokAt_pos c (cs.drop (k + 1))
      rw [← hd, List.length_drop] at p2
      rw [show scan (m + 1 + 1) row ((k : Int) - rb + 1) (c :: cs.drop (k + 1)) = (if c = 10 then _ else if c = 32 then _ else if c = 35 then _ else tokD (tokAt (c :: cs.drop (k + 1))).1 (tokAt (c :: cs.drop (k + 1))).2 row ((k : Int) - rb + 1) :: (if (tokAt (c :: cs.drop (k + 1))).1 = q "bad" then [] else scan (m + 1) row ((k : Int) - rb + 1 + (tokAt (c :: cs.drop (k + 1))).2.length) ((c :: cs.drop (k + 1)).drop (tokAt (c :: cs.drop (k + 1))).2.length))) from rfl, if_neg c1, if_neg c2, if_neg c3]
      rw [← hd] at e1 p1 ⊢
      generalize ht : tokAt (cs.drop k) = tk at e1 p1 p2 ⊢
      obtain ⟨kd, w⟩ := tk
      have lw := len_st w (by simp only at p2; omega)
      by_cases hb : kd = q "bad"
      · subst hb
        refine ⟨[.sh (.str (st cs)), .ow (.lst (acc ++ [tokD (q "bad") w row ((k : Int) - rb + 1)])), .sh (.int row), .sh (.int rb), .sh (.int (k : Int)), .sh (.str (q "bad")), .sh (.str (st w))], ?_⟩
        simp -implicitDefEqProofs only [bindS, mapS, bindN, mapN, ifD_bl, bind_ite', map_ite', ev_c, ev_var, ev_rd, ev_gl, ev_tup, ev_lst, ev_bin, negD_int, ev_neg, notD_bl, ev_nt, ev_cmp, ev_chain, ev_an, ev_orr, ev_ife, ev_ix, ev_sl, isNo_nohi, isNo_c, isNo_var, isNo_bin, isNo_neg, isNo_bi, isNo_ix, isNo_call, isNo_me, endD_int, noIo_nil, ev_call, noIoL_nil, ev_callb, ev_bi, ev_lc, ev_lcr, evs_nil, evs_cons, shd_sh, own_ow, add_int, sub_int, mod_pos, fdiv_pos, lt_int, le_int, gt_int, ge_int, is_non_non, is_bl_bl, is_int_non, is_str_non, is_tup_non, is_lst_non, is_bl_non, isnot_non_non, isnot_int_non, isnot_str_non, isnot_tup_non, isnot_lst_non, isnot_bl_non, cmp_eq, cmp_ne, eq_int, eq_str, eq_bl, eq_non, eq_int_str, eq_str_int, eq_non_str, eq_str_non, eq_non_int, eq_int_non, len_tup, len_lst, len_fls, abs_int, int_int, int_bl, tuple_lst, tuple_tup, list_lst, list_tup, max_int, min_int, isint_int, isint_bl, isint_str, isint_tup, isint_lst, isint_non, isbool_int, isbool_bl, isbool_str, isbool_tup, isbool_lst, isbool_non, isstr_int, isstr_bl, isstr_str, isstr_tup, isstr_lst, isstr_non, istuple_int, istuple_bl, istuple_str, istuple_tup, istuple_lst, istuple_non, islist_int, islist_bl, islist_str, islist_tup, islist_lst, islist_non, ix_tup, ix_lsts, atI_0, atI_1, atI_2, atI_3, atI_4, atI_5, atI_6, atI_7, atI_8, atI_9, atI_10, atI_11, atI_12, ix_fls, ev_me, sl_lst, sl_tup, cmp_isin, cmp_notin, flat_str, flat_int, flat_bl, flat_non, eqF_str, in_tup, seqO_nx, seqO_rt, seqO_bk, seqO_ct, exs_nil, exs_cons, ex_set, setoD_lst, ex_seto, ex_unp, augD_int, ex_aug, ex_expr, appD_lst, ex_app, mthD_lst, ex_mth, mthxD_lst, ex_mthx, om_clear, om_pop, om_reverse, setsD_lst, ex_sets, ex_ret, ex_reto, ex_retn, ex_iff, ex_whl, ex_for, ex_forr, ex_brk, ex_cnt, ex_pass, ex_share, it_tup, it_lst, it_str, it_fls, tg_one, wipe_one, nxO_nx, nxO_ct, nxO_bk, nxO_rt, forD_nil, lcD_nil, lcD_cons, consO_some, consO_none, ansO_nx, ansO_rt, ansO_ite, sizeLine_lit, pow_lit, toNx_nx, toNx_ct, toNx_ite, toA_some, toA_ite, List.getElem?_cons_zero, List.getElem?_cons_succ, List.getElem?_nil, List.set_cons_zero, List.set_cons_succ, List.set_nil, List.length_cons, List.length_nil, List.length_map, List.length_append, List.length_range, List.length_replicate, List.map_cons, List.map_nil, List.cons_append, List.nil_append, List.append_nil, List.replicate_succ, List.replicate_zero, Nat.reduceAdd, Nat.reduceSub, Nat.reduceMul, Nat.reduceLT, Nat.reduceLeDiff, Nat.reduceEqDiff, Nat.reduceMod, Nat.reduceDiv, Nat.reducePow, Int.reduceAdd, Int.reduceSub, Int.reduceMul, Int.reduceNeg, Int.reduceLT, Int.reduceLE, Int.reduceGT, Int.reduceGE, Int.reduceEq, Int.reduceNe, Int.reduceMod, Int.reduceDiv, Int.reducePow, Int.reduceToNat, Nat.add_zero, Nat.zero_add, Nat.sub_zero, Nat.zero_le, Nat.lt_irrefl, ite_true, ite_false, Bool.not_true, Bool.not_false, Bool.true_and, Bool.false_and, Bool.and_true, Bool.and_false, Bool.true_or, Bool.false_or, Bool.or_true, Bool.or_false, Bool.false_eq_true, Bool.true_eq_false, decide_true, decide_false, decide_eq_true_eq, Bool.not_eq_true', Bool.not_eq_false', decide_eq_false_iff_not, decide_not, not_true_eq_false, not_false_eq_true, and_true, true_and, and_false, false_and, or_true, true_or, or_false, false_or, and_self, or_self, if_true, if_false, reduceCtorEq, Fn.start, Int.cast_ofNat_Int, List.all_cons, List.all_nil, List.any_cons, List.any_nil, b_token_list_0, hi, q_nl, q_sp, q_hash, st_inj, z1, z2, z3, e1, ha, tgD, tgs]
        rfl
      · obtain ⟨s', ih⟩ := scan_loop m0 cs hl m (k + w.length) n (acc ++ [tokD kd w row ((k : Int) - rb + 1)]) row rb (.sh (.str kd)) (.sh (.str (st w))) (by simp only at p1; omega) (by omega) (by simp only at p2; omega) (by simp only at p1; rw [List.length_append, List.length_cons, List.length_nil]; omega)
        refine ⟨s', ?_⟩
        rw [if_neg hb, List.drop_drop]
        rw [show (((k + w.length : Nat) : Int) - rb + 1) = (k : Int) - rb + 1 + w.length by omega, List.append_assoc] at ih
        rw [show ([tokD kd w row ((k : Int) - rb + 1)] ++ scan (m + 1) row ((k : Int) - rb + 1 + w.length) (cs.drop (k + w.length))) = tokD kd w row ((k : Int) - rb + 1) :: scan (m + 1) row ((k : Int) - rb + 1 + w.length) (cs.drop (k + w.length)) from rfl] at ih
        rw [← ih]
        simp -implicitDefEqProofs only [bindS, mapS, bindN, mapN, ifD_bl, bind_ite', map_ite', ev_c, ev_var, ev_rd, ev_gl, ev_tup, ev_lst, ev_bin, negD_int, ev_neg, notD_bl, ev_nt, ev_cmp, ev_chain, ev_an, ev_orr, ev_ife, ev_ix, ev_sl, isNo_nohi, isNo_c, isNo_var, isNo_bin, isNo_neg, isNo_bi, isNo_ix, isNo_call, isNo_me, endD_int, noIo_nil, ev_call, noIoL_nil, ev_callb, ev_bi, ev_lc, ev_lcr, evs_nil, evs_cons, shd_sh, own_ow, add_int, sub_int, mod_pos, fdiv_pos, lt_int, le_int, gt_int, ge_int, is_non_non, is_bl_bl, is_int_non, is_str_non, is_tup_non, is_lst_non, is_bl_non, isnot_non_non, isnot_int_non, isnot_str_non, isnot_tup_non, isnot_lst_non, isnot_bl_non, cmp_eq, cmp_ne, eq_int, eq_str, eq_bl, eq_non, eq_int_str, eq_str_int, eq_non_str, eq_str_non, eq_non_int, eq_int_non, len_tup, len_lst, len_fls, abs_int, int_int, int_bl, tuple_lst, tuple_tup, list_lst, list_tup, max_int, min_int, isint_int, isint_bl, isint_str, isint_tup, isint_lst, isint_non, isbool_int, isbool_bl, isbool_str, isbool_tup, isbool_lst, isbool_non, isstr_int, isstr_bl, isstr_str, isstr_tup, isstr_lst, isstr_non, istuple_int, istuple_bl, istuple_str, istuple_tup, istuple_lst, istuple_non, islist_int, islist_bl, islist_str, islist_tup, islist_lst, islist_non, ix_tup, ix_lsts, atI_0, atI_1, atI_2, atI_3, atI_4, atI_5, atI_6, atI_7, atI_8, atI_9, atI_10, atI_11, atI_12, ix_fls, ev_me, sl_lst, sl_tup, cmp_isin, cmp_notin, flat_str, flat_int, flat_bl, flat_non, eqF_str, in_tup, seqO_nx, seqO_rt, seqO_bk, seqO_ct, exs_nil, exs_cons, ex_set, setoD_lst, ex_seto, ex_unp, augD_int, ex_aug, ex_expr, appD_lst, ex_app, mthD_lst, ex_mth, mthxD_lst, ex_mthx, om_clear, om_pop, om_reverse, setsD_lst, ex_sets, ex_ret, ex_reto, ex_retn, ex_iff, ex_whl, ex_for, ex_forr, ex_brk, ex_cnt, ex_pass, ex_share, it_tup, it_lst, it_str, it_fls, tg_one, wipe_one, nxO_nx, nxO_ct, nxO_bk, nxO_rt, forD_nil, lcD_nil, lcD_cons, consO_some, consO_none, ansO_nx, ansO_rt, ansO_ite, sizeLine_lit, pow_lit, toNx_nx, toNx_ct, toNx_ite, toA_some, toA_ite, List.getElem?_cons_zero, List.getElem?_cons_succ, List.getElem?_nil, List.set_cons_zero, List.set_cons_succ, List.set_nil, List.length_cons, List.length_nil, List.length_map, List.length_append, List.length_range, List.length_replicate, List.map_cons, List.map_nil, List.cons_append, List.nil_append, List.append_nil, List.replicate_succ, List.replicate_zero, Nat.reduceAdd, Nat.reduceSub, Nat.reduceMul, Nat.reduceLT, Nat.reduceLeDiff, Nat.reduceEqDiff, Nat.reduceMod, Nat.reduceDiv, Nat.reducePow, Int.reduceAdd, Int.reduceSub, Int.reduceMul, Int.reduceNeg, Int.reduceLT, Int.reduceLE, Int.reduceGT, Int.reduceGE, Int.reduceEq, Int.reduceNe, Int.reduceMod, Int.reduceDiv, Int.reducePow, Int.reduceToNat, Nat.add_zero, Nat.zero_add, Nat.sub_zero, Nat.zero_le, Nat.lt_irrefl, ite_true, ite_false, Bool.not_true, Bool.not_false, Bool.true_and, Bool.false_and, Bool.and_true, Bool.and_false, Bool.true_or, Bool.false_or, Bool.or_true, Bool.or_false, Bool.false_eq_true, Bool.true_eq_false, decide_true, decide_false, decide_eq_true_eq, Bool.not_eq_true', Bool.not_eq_false', decide_eq_false_iff_not, decide_not, not_true_eq_false, not_false_eq_true, and_true, true_and, and_false, false_and, or_true, true_or, or_false, false_or, and_self, or_self, if_true, if_false, reduceCtorEq, Fn.start, Int.cast_ofNat_Int, List.all_cons, List.all_nil, List.any_cons, List.any_nil, b_token_list_0, hi, q_nl, q_sp, q_hash, st_inj, z1, z2, z3, e1, ha, tgD, tgs, hb, lw]
        rfl
    · have hw : ev (call T G (m0 + 3)) G whC [.sh (.str (st cs)), .ow (.lst acc), .sh (.int row), .sh (.int rb), .sh (.int (k : Int)), x5, x6] = some (.bl false) := by
        have hk' : ¬ ((k : Int) < (cs.length : Int)) := by omega
        simp -implicitDefEqProofs only [bindS, mapS, bindN, mapN, ifD_bl, bind_ite', map_ite', ev_c, ev_var, ev_rd, ev_gl, ev_tup, ev_lst, ev_bin, negD_int, ev_neg, notD_bl, ev_nt, ev_cmp, ev_chain, ev_an, ev_orr, ev_ife, ev_ix, ev_sl, isNo_nohi, isNo_c, isNo_var, isNo_bin, isNo_neg, isNo_bi, isNo_ix, isNo_call, isNo_me, endD_int, noIo_nil, ev_call, noIoL_nil, ev_callb, ev_bi, ev_lc, ev_lcr, evs_nil, evs_cons, shd_sh, own_ow, add_int, sub_int, mod_pos, fdiv_pos, lt_int, le_int, gt_int, ge_int, is_non_non, is_bl_bl, is_int_non, is_str_non, is_tup_non, is_lst_non, is_bl_non, isnot_non_non, isnot_int_non, isnot_str_non, isnot_tup_non, isnot_lst_non, isnot_bl_non, cmp_eq, cmp_ne, eq_int, eq_str, eq_bl, eq_non, eq_int_str, eq_str_int, eq_non_str, eq_str_non, eq_non_int, eq_int_non, len_tup, len_lst, len_fls, abs_int, int_int, int_bl, tuple_lst, tuple_tup, list_lst, list_tup, max_int, min_int, isint_int, isint_bl, isint_str, isint_tup, isint_lst, isint_non, isbool_int, isbool_bl, isbool_str, isbool_tup, isbool_lst, isbool_non, isstr_int, isstr_bl, isstr_str, isstr_tup, isstr_lst, isstr_non, istuple_int, istuple_bl, istuple_str, istuple_tup, istuple_lst, istuple_non, islist_int, islist_bl, islist_str, islist_tup, islist_lst, islist_non, ix_tup, ix_lsts, atI_0, atI_1, atI_2, atI_3, atI_4, atI_5, atI_6, atI_7, atI_8, atI_9, atI_10, atI_11, atI_12, ix_fls, ev_me, sl_lst, sl_tup, cmp_isin, cmp_notin, flat_str, flat_int, flat_bl, flat_non, eqF_str, in_tup, seqO_nx, seqO_rt, seqO_bk, seqO_ct, exs_nil, exs_cons, ex_set, setoD_lst, ex_seto, ex_unp, augD_int, ex_aug, ex_expr, appD_lst, ex_app, mthD_lst, ex_mth, mthxD_lst, ex_mthx, om_clear, om_pop, om_reverse, setsD_lst, ex_sets, ex_ret, ex_reto, ex_retn, ex_iff, ex_whl, ex_for, ex_forr, ex_brk, ex_cnt, ex_pass, ex_share, it_tup, it_lst, it_str, it_fls, tg_one, wipe_one, nxO_nx, nxO_ct, nxO_bk, nxO_rt, forD_nil, lcD_nil, lcD_cons, consO_some, consO_none, ansO_nx, ansO_rt, ansO_ite, sizeLine_lit, pow_lit, toNx_nx, toNx_ct, toNx_ite, toA_some, toA_ite, List.getElem?_cons_zero, List.getElem?_cons_succ, List.getElem?_nil, List.set_cons_zero, List.set_cons_succ, List.set_nil, List.length_cons, List.length_nil, List.length_map, List.length_append, List.length_range, List.length_replicate, List.map_cons, List.map_nil, List.cons_append, List.nil_append, List.append_nil, List.replicate_succ, List.replicate_zero, Nat.reduceAdd, Nat.reduceSub, Nat.reduceMul, Nat.reduceLT, Nat.reduceLeDiff, Nat.reduceEqDiff, Nat.reduceMod, Nat.reduceDiv, Nat.reducePow, Int.reduceAdd, Int.reduceSub, Int.reduceMul, Int.reduceNeg, Int.reduceLT, Int.reduceLE, Int.reduceGT, Int.reduceGE, Int.reduceEq, Int.reduceNe, Int.reduceMod, Int.reduceDiv, Int.reducePow, Int.reduceToNat, Nat.add_zero, Nat.zero_add, Nat.sub_zero, Nat.zero_le, Nat.lt_irrefl, ite_true, ite_false, Bool.not_true, Bool.not_false, Bool.true_and, Bool.false_and, Bool.and_true, Bool.and_false, Bool.true_or, Bool.false_or, Bool.or_true, Bool.or_false, Bool.false_eq_true, Bool.true_eq_false, decide_true, decide_false, decide_eq_true_eq, Bool.not_eq_true', Bool.not_eq_false', decide_eq_false_iff_not, decide_not, not_true_eq_false, not_false_eq_true, and_true, true_and, and_false, false_and, or_true, true_or, or_false, false_or, and_self, or_self, if_true, if_false, reduceCtorEq, Fn.start, Int.cast_ofNat_Int, List.all_cons, List.all_nil, List.any_cons, List.any_nil, whC, len_st cs (by omega), hk']
      rw [hw, bindS, ifD_bl, if_neg (by decide), List.drop_eq_nil_of_le (by omega)]
      refine ⟨[.sh (.str (st cs)), .ow (.lst (acc ++ [tokD (q "end") [] row ((k : Int) - rb + 1)])), .sh (.int row), .sh (.int rb), .sh (.int (k : Int)), x5, x6], ?_⟩
      simp -implicitDefEqProofs only [bindS, mapS, bindN, mapN, ifD_bl, bind_ite', map_ite', ev_c, ev_var, ev_rd, ev_gl, ev_tup, ev_lst, ev_bin, negD_int, ev_neg, notD_bl, ev_nt, ev_cmp, ev_chain, ev_an, ev_orr, ev_ife, ev_ix, ev_sl, isNo_nohi, isNo_c, isNo_var, isNo_bin, isNo_neg, isNo_bi, isNo_ix, isNo_call, isNo_me, endD_int, noIo_nil, ev_call, noIoL_nil, ev_callb, ev_bi, ev_lc, ev_lcr, evs_nil, evs_cons, shd_sh, own_ow, add_int, sub_int, mod_pos, fdiv_pos, lt_int, le_int, gt_int, ge_int, is_non_non, is_bl_bl, is_int_non, is_str_non, is_tup_non, is_lst_non, is_bl_non, isnot_non_non, isnot_int_non, isnot_str_non, isnot_tup_non, isnot_lst_non, isnot_bl_non, cmp_eq, cmp_ne, eq_int, eq_str, eq_bl, eq_non, eq_int_str, eq_str_int, eq_non_str, eq_str_non, eq_non_int, eq_int_non, len_tup, len_lst, len_fls, abs_int, int_int, int_bl, tuple_lst, tuple_tup, list_lst, list_tup, max_int, min_int, isint_int, isint_bl, isint_str, isint_tup, isint_lst, isint_non, isbool_int, isbool_bl, isbool_str, isbool_tup, isbool_lst, isbool_non, isstr_int, isstr_bl, isstr_str, isstr_tup, isstr_lst, isstr_non, istuple_int, istuple_bl, istuple_str, istuple_tup, istuple_lst, istuple_non, islist_int, islist_bl, islist_str, islist_tup, islist_lst, islist_non, ix_tup, ix_lsts, atI_0, atI_1, atI_2, atI_3, atI_4, atI_5, atI_6, atI_7, atI_8, atI_9, atI_10, atI_11, atI_12, ix_fls, ev_me, sl_lst, sl_tup, cmp_isin, cmp_notin, flat_str, flat_int, flat_bl, flat_non, eqF_str, in_tup, seqO_nx, seqO_rt, seqO_bk, seqO_ct, exs_nil, exs_cons, ex_set, setoD_lst, ex_seto, ex_unp, augD_int, ex_aug, ex_expr, appD_lst, ex_app, mthD_lst, ex_mth, mthxD_lst, ex_mthx, om_clear, om_pop, om_reverse, setsD_lst, ex_sets, ex_ret, ex_reto, ex_retn, ex_iff, ex_whl, ex_for, ex_forr, ex_brk, ex_cnt, ex_pass, ex_share, it_tup, it_lst, it_str, it_fls, tg_one, wipe_one, nxO_nx, nxO_ct, nxO_bk, nxO_rt, forD_nil, lcD_nil, lcD_cons, consO_some, consO_none, ansO_nx, ansO_rt, ansO_ite, sizeLine_lit, pow_lit, toNx_nx, toNx_ct, toNx_ite, toA_some, toA_ite, List.getElem?_cons_zero, List.getElem?_cons_succ, List.getElem?_nil, List.set_cons_zero, List.set_cons_succ, List.set_nil, List.length_cons, List.length_nil, List.length_map, List.length_append, List.length_range, List.length_replicate, List.map_cons, List.map_nil, List.cons_append, List.nil_append, List.append_nil, List.replicate_succ, List.replicate_zero, Nat.reduceAdd, Nat.reduceSub, Nat.reduceMul, Nat.reduceLT, Nat.reduceLeDiff, Nat.reduceEqDiff, Nat.reduceMod, Nat.reduceDiv, Nat.reducePow, Int.reduceAdd, Int.reduceSub, Int.reduceMul, Int.reduceNeg, Int.reduceLT, Int.reduceLE, Int.reduceGT, Int.reduceGE, Int.reduceEq, Int.reduceNe, Int.reduceMod, Int.reduceDiv, Int.reducePow, Int.reduceToNat, Nat.add_zero, Nat.zero_add, Nat.sub_zero, Nat.zero_le, Nat.lt_irrefl, ite_true, ite_false, Bool.not_true, Bool.not_false, Bool.true_and, Bool.false_and, Bool.and_true, Bool.and_false, Bool.true_or, Bool.false_or, Bool.or_true, Bool.or_false, Bool.false_eq_true, Bool.true_eq_false, decide_true, decide_false, decide_eq_true_eq, Bool.not_eq_true', Bool.not_eq_false', decide_eq_false_iff_not, decide_not, not_true_eq_false, not_false_eq_true, and_true, true_and, and_false, false_and, or_true, true_or, or_false, false_or, and_self, or_self, if_true, if_false, reduceCtorEq, Fn.start, Int.cast_ofNat_Int, List.all_cons, List.all_nil, List.any_cons, List.any_nil, tailS, ha, q_empty]
      rfl
theorem c_token_list (n : Nat) (cs : List Nat) (hl : cs.length ≤ 1000000) : call T G (n + 4) k_token_list [.str (st cs)] = some (.lst (scan (cs.length + 1) 1 1 cs), []) := by
  rw [call_of T_token_list rfl]
  obtain ⟨s', e⟩ := scan_loop n cs hl cs.length 0 fuel [] 1 0 .un .un (by omega) (Nat.lt_of_le_of_lt hl (by decide)) (by omega) (Nat.le_refl _)
  rw [Int.cast_ofNat_Int, show ((0 : Int) - 0 + 1) = 1 by decide, List.drop_zero, List.nil_append] at e
  unfold whC tailS at e
  simp -implicitDefEqProofs only [bindS, mapS, bindN, mapN, ifD_bl, bind_ite', map_ite', ev_c, ev_var, ev_rd, ev_gl, ev_tup, ev_lst, ev_bin, negD_int, ev_neg, notD_bl, ev_nt, ev_cmp, ev_chain, ev_an, ev_orr, ev_ife, ev_ix, ev_sl, isNo_nohi, isNo_c, isNo_var, isNo_bin, isNo_neg, isNo_bi, isNo_ix, isNo_call, isNo_me, endD_int, noIo_nil, ev_call, noIoL_nil, ev_callb, ev_bi, ev_lc, ev_lcr, evs_nil, evs_cons, shd_sh, own_ow, add_int, sub_int, mod_pos, fdiv_pos, lt_int, le_int, gt_int, ge_int, is_non_non, is_bl_bl, is_int_non, is_str_non, is_tup_non, is_lst_non, is_bl_non, isnot_non_non, isnot_int_non, isnot_str_non, isnot_tup_non, isnot_lst_non, isnot_bl_non, cmp_eq, cmp_ne, eq_int, eq_str, eq_bl, eq_non, eq_int_str, eq_str_int, eq_non_str, eq_str_non, eq_non_int, eq_int_non, len_tup, len_lst, len_fls, abs_int, int_int, int_bl, tuple_lst, tuple_tup, list_lst, list_tup, max_int, min_int, isint_int, isint_bl, isint_str, isint_tup, isint_lst, isint_non, isbool_int, isbool_bl, isbool_str, isbool_tup, isbool_lst, isbool_non, isstr_int, isstr_bl, isstr_str, isstr_tup, isstr_lst, isstr_non, istuple_int, istuple_bl, istuple_str, istuple_tup, istuple_lst, istuple_non, islist_int, islist_bl, islist_str, islist_tup, islist_lst, islist_non, ix_tup, ix_lsts, atI_0, atI_1, atI_2, atI_3, atI_4, atI_5, atI_6, atI_7, atI_8, atI_9, atI_10, atI_11, atI_12, ix_fls, ev_me, sl_lst, sl_tup, cmp_isin, cmp_notin, flat_str, flat_int, flat_bl, flat_non, eqF_str, in_tup, seqO_nx, seqO_rt, seqO_bk, seqO_ct, exs_nil, exs_cons, ex_set, setoD_lst, ex_seto, ex_unp, augD_int, ex_aug, ex_expr, appD_lst, ex_app, mthD_lst, ex_mth, mthxD_lst, ex_mthx, om_clear, om_pop, om_reverse, setsD_lst, ex_sets, ex_ret, ex_reto, ex_retn, ex_iff, ex_whl, ex_for, ex_forr, ex_brk, ex_cnt, ex_pass, ex_share, it_tup, it_lst, it_str, it_fls, tg_one, wipe_one, nxO_nx, nxO_ct, nxO_bk, nxO_rt, forD_nil, lcD_nil, lcD_cons, consO_some, consO_none, ansO_nx, ansO_rt, ansO_ite, sizeLine_lit, pow_lit, toNx_nx, toNx_ct, toNx_ite, toA_some, toA_ite, List.getElem?_cons_zero, List.getElem?_cons_succ, List.getElem?_nil, List.set_cons_zero, List.set_cons_succ, List.set_nil, List.length_cons, List.length_nil, List.length_map, List.length_append, List.length_range, List.length_replicate, List.map_cons, List.map_nil, List.cons_append, List.nil_append, List.append_nil, List.replicate_succ, List.replicate_zero, Nat.reduceAdd, Nat.reduceSub, Nat.reduceMul, Nat.reduceLT, Nat.reduceLeDiff, Nat.reduceEqDiff, Nat.reduceMod, Nat.reduceDiv, Nat.reducePow, Int.reduceAdd, Int.reduceSub, Int.reduceMul, Int.reduceNeg, Int.reduceLT, Int.reduceLE, Int.reduceGT, Int.reduceGE, Int.reduceEq, Int.reduceNe, Int.reduceMod, Int.reduceDiv, Int.reducePow, Int.reduceToNat, Nat.add_zero, Nat.zero_add, Nat.sub_zero, Nat.zero_le, Nat.lt_irrefl, ite_true, ite_false, Bool.not_true, Bool.not_false, Bool.true_and, Bool.false_and, Bool.and_true, Bool.and_false, Bool.true_or, Bool.false_or, Bool.or_true, Bool.or_false, Bool.false_eq_true, Bool.true_eq_false, decide_true, decide_false, decide_eq_true_eq, Bool.not_eq_true', Bool.not_eq_false', decide_eq_false_iff_not, decide_not, not_true_eq_false, not_false_eq_true, and_true, true_and, and_false, false_and, or_true, true_or, or_false, false_or, and_self, or_self, if_true, if_false, reduceCtorEq, Fn.start, Int.cast_ofNat_Int, List.all_cons, List.all_nil, List.any_cons, List.any_nil, f_token_list]
  rw [e]
  rfl
end LW

namespace LW
open PySem PL TL
theorem eqD_refl (d : D) (h : d.pd.canLay0 = true) (h2 : d.pd.depth ≤ 64) : eqD d d = some true := by
  unfold eqD
  by_cases hs : scalD d d = true
  · rw [if_pos hs]
    congr 1
    cases d <;> first | (cases hs; done) | rfl | (unfold eqF; exact beq_self_eq_true _)
  · rw [if_neg hs, if_pos (by rw [Bool.and_eq_true, Bool.and_eq_true, decide_eq_true_eq]; exact ⟨⟨h, h⟩, by omega⟩)]
    congr 1
    exact SeqAt.eqv_refl _ h
theorem tok_eq (kind : Str) (word : Str) (row col : Int) (h1 : PyData.strOk kind = true) (h2 : PyData.strOk word = true) : eqD (.tup [.str kind, .str word, .int row, .int col]) (.tup [.str kind, .str word, .int row, .int col]) = some true :=
  eqD_refl _ (by simp [D.pd, D.pds, PyData.canLay0, PyData.canLayAll0, h1, h2]) (by simp [D.pd, D.pds, PyData.depth, PyData.depthAll])
/-- a loop that may hand something back -/
def toRx (P : PL.Env → Prop) (Q : D → Prop) : Option Out → Prop
  | some (.nx s) => P s
  | some (.ct s) => P s
  | some (.rt d _) => Q d
  | _ => False
@[simp] theorem toRx_nx (P : PL.Env → Prop) (Q : D → Prop) (s : PL.Env) : toRx P Q (some (.nx s)) = P s := rfl
@[simp] theorem toRx_ct (P : PL.Env → Prop) (Q : D → Prop) (s : PL.Env) : toRx P Q (some (.ct s)) = P s := rfl
@[simp] theorem toRx_rt (P : PL.Env → Prop) (Q : D → Prop) (d : D) (s : PL.Env) : toRx P Q (some (.rt d s)) = Q d := rfl
end LW

namespace LW
open PySem PL
theorem c_cell (n : Nat) (ns : List Int) (k : Nat) : call T G (n + 1) k_law_cell [.fls (ns.map .int), .int k] = some (.int (ns.getD k 0), []) := by
  rw [call_of T_law_cell rfl]
  simp -implicitDefEqProofs only [bindS, mapS, bindN, mapN, ifD_bl, bind_ite', map_ite', ev_c, ev_var, ev_rd, ev_gl, ev_tup, ev_lst, ev_bin, negD_int, ev_neg, notD_bl, ev_nt, ev_cmp, ev_chain, ev_an, ev_orr, ev_ife, ev_ix, ev_sl, isNo_nohi, isNo_c, isNo_var, isNo_bin, isNo_neg, isNo_bi, isNo_ix, isNo_call, isNo_me, endD_int, noIo_nil, ev_call, noIoL_nil, ev_callb, ev_bi, ev_lc, ev_lcr, evs_nil, evs_cons, shd_sh, own_ow, add_int, sub_int, mod_pos, fdiv_pos, lt_int, le_int, gt_int, ge_int, is_non_non, is_bl_bl, is_int_non, is_str_non, is_tup_non, is_lst_non, is_bl_non, isnot_non_non, isnot_int_non, isnot_str_non, isnot_tup_non, isnot_lst_non, isnot_bl_non, cmp_eq, cmp_ne, eq_int, eq_str, eq_bl, eq_non, eq_int_str, eq_str_int, eq_non_str, eq_str_non, eq_non_int, eq_int_non, len_tup, len_lst, len_fls, abs_int, int_int, int_bl, tuple_lst, tuple_tup, list_lst, list_tup, max_int, min_int, isint_int, isint_bl, isint_str, isint_tup, isint_lst, isint_non, isbool_int, isbool_bl, isbool_str, isbool_tup, isbool_lst, isbool_non, isstr_int, isstr_bl, isstr_str, isstr_tup, isstr_lst, isstr_non, istuple_int, istuple_bl, istuple_str, istuple_tup, istuple_lst, istuple_non, islist_int, islist_bl, islist_str, islist_tup, islist_lst, islist_non, ix_tup, ix_lsts, atI_0, atI_1, atI_2, atI_3, atI_4, atI_5, atI_6, atI_7, atI_8, atI_9, atI_10, atI_11, atI_12, ix_fls, ev_me, sl_lst, sl_tup, cmp_isin, cmp_notin, flat_str, flat_int, flat_bl, flat_non, eqF_str, in_tup, seqO_nx, seqO_rt, seqO_bk, seqO_ct, exs_nil, exs_cons, ex_set, setoD_lst, ex_seto, ex_unp, augD_int, ex_aug, ex_expr, appD_lst, ex_app, mthD_lst, ex_mth, mthxD_lst, ex_mthx, om_clear, om_pop, om_reverse, setsD_lst, ex_sets, ex_ret, ex_reto, ex_retn, ex_iff, ex_whl, ex_for, ex_forr, ex_brk, ex_cnt, ex_pass, ex_share, it_tup, it_lst, it_str, it_fls, tg_one, wipe_one, nxO_nx, nxO_ct, nxO_bk, nxO_rt, forD_nil, lcD_nil, lcD_cons, consO_some, consO_none, ansO_nx, ansO_rt, ansO_ite, sizeLine_lit, pow_lit, toNx_nx, toNx_ct, toNx_ite, toA_some, toA_ite, List.getElem?_cons_zero, List.getElem?_cons_succ, List.getElem?_nil, List.set_cons_zero, List.set_cons_succ, List.set_nil, List.length_cons, List.length_nil, List.length_map, List.length_append, List.length_range, List.length_replicate, List.map_cons, List.map_nil, List.cons_append, List.nil_append, List.append_nil, List.replicate_succ, List.replicate_zero, Nat.reduceAdd, Nat.reduceSub, Nat.reduceMul, Nat.reduceLT, Nat.reduceLeDiff, Nat.reduceEqDiff, Nat.reduceMod, Nat.reduceDiv, Nat.reducePow, Int.reduceAdd, Int.reduceSub, Int.reduceMul, Int.reduceNeg, Int.reduceLT, Int.reduceLE, Int.reduceGT, Int.reduceGE, Int.reduceEq, Int.reduceNe, Int.reduceMod, Int.reduceDiv, Int.reducePow, Int.reduceToNat, Nat.add_zero, Nat.zero_add, Nat.sub_zero, Nat.zero_le, Nat.lt_irrefl, ite_true, ite_false, Bool.not_true, Bool.not_false, Bool.true_and, Bool.false_and, Bool.and_true, Bool.and_false, Bool.true_or, Bool.false_or, Bool.or_true, Bool.or_false, Bool.false_eq_true, Bool.true_eq_false, decide_true, decide_false, decide_eq_true_eq, Bool.not_eq_true', Bool.not_eq_false', decide_eq_false_iff_not, decide_not, not_true_eq_false, not_false_eq_true, and_true, true_and, and_false, false_and, or_true, true_or, or_false, false_or, and_self, or_self, if_true, if_false, reduceCtorEq, Fn.start, Int.cast_ofNat_Int, List.all_cons, List.all_nil, List.any_cons, List.any_nil, f_law_cell, atI_nat', List.getElem?_map]
  by_cases h : k < ns.length
  · rw [if_pos (by omega)]
    simp -implicitDefEqProofs only [bindS, mapS, bindN, mapN, ifD_bl, bind_ite', map_ite', ev_c, ev_var, ev_rd, ev_gl, ev_tup, ev_lst, ev_bin, negD_int, ev_neg, notD_bl, ev_nt, ev_cmp, ev_chain, ev_an, ev_orr, ev_ife, ev_ix, ev_sl, isNo_nohi, isNo_c, isNo_var, isNo_bin, isNo_neg, isNo_bi, isNo_ix, isNo_call, isNo_me, endD_int, noIo_nil, ev_call, noIoL_nil, ev_callb, ev_bi, ev_lc, ev_lcr, evs_nil, evs_cons, shd_sh, own_ow, add_int, sub_int, mod_pos, fdiv_pos, lt_int, le_int, gt_int, ge_int, is_non_non, is_bl_bl, is_int_non, is_str_non, is_tup_non, is_lst_non, is_bl_non, isnot_non_non, isnot_int_non, isnot_str_non, isnot_tup_non, isnot_lst_non, isnot_bl_non, cmp_eq, cmp_ne, eq_int, eq_str, eq_bl, eq_non, eq_int_str, eq_str_int, eq_non_str, eq_str_non, eq_non_int, eq_int_non, len_tup, len_lst, len_fls, abs_int, int_int, int_bl, tuple_lst, tuple_tup, list_lst, list_tup, max_int, min_int, isint_int, isint_bl, isint_str, isint_tup, isint_lst, isint_non, isbool_int, isbool_bl, isbool_str, isbool_tup, isbool_lst, isbool_non, isstr_int, isstr_bl, isstr_str, isstr_tup, isstr_lst, isstr_non, istuple_int, istuple_bl, istuple_str, istuple_tup, istuple_lst, istuple_non, islist_int, islist_bl, islist_str, islist_tup, islist_lst, islist_non, ix_tup, ix_lsts, atI_0, atI_1, atI_2, atI_3, atI_4, atI_5, atI_6, atI_7, atI_8, atI_9, atI_10, atI_11, atI_12, ix_fls, ev_me, sl_lst, sl_tup, cmp_isin, cmp_notin, flat_str, flat_int, flat_bl, flat_non, eqF_str, in_tup, seqO_nx, seqO_rt, seqO_bk, seqO_ct, exs_nil, exs_cons, ex_set, setoD_lst, ex_seto, ex_unp, augD_int, ex_aug, ex_expr, appD_lst, ex_app, mthD_lst, ex_mth, mthxD_lst, ex_mthx, om_clear, om_pop, om_reverse, setsD_lst, ex_sets, ex_ret, ex_reto, ex_retn, ex_iff, ex_whl, ex_for, ex_forr, ex_brk, ex_cnt, ex_pass, ex_share, it_tup, it_lst, it_str, it_fls, tg_one, wipe_one, nxO_nx, nxO_ct, nxO_bk, nxO_rt, forD_nil, lcD_nil, lcD_cons, consO_some, consO_none, ansO_nx, ansO_rt, ansO_ite, sizeLine_lit, pow_lit, toNx_nx, toNx_ct, toNx_ite, toA_some, toA_ite, List.getElem?_cons_zero, List.getElem?_cons_succ, List.getElem?_nil, List.set_cons_zero, List.set_cons_succ, List.set_nil, List.length_cons, List.length_nil, List.length_map, List.length_append, List.length_range, List.length_replicate, List.map_cons, List.map_nil, List.cons_append, List.nil_append, List.append_nil, List.replicate_succ, List.replicate_zero, Nat.reduceAdd, Nat.reduceSub, Nat.reduceMul, Nat.reduceLT, Nat.reduceLeDiff, Nat.reduceEqDiff, Nat.reduceMod, Nat.reduceDiv, Nat.reducePow, Int.reduceAdd, Int.reduceSub, Int.reduceMul, Int.reduceNeg, Int.reduceLT, Int.reduceLE, Int.reduceGT, Int.reduceGE, Int.reduceEq, Int.reduceNe, Int.reduceMod, Int.reduceDiv, Int.reducePow, Int.reduceToNat, Nat.add_zero, Nat.zero_add, Nat.sub_zero, Nat.zero_le, Nat.lt_irrefl, ite_true, ite_false, Bool.not_true, Bool.not_false, Bool.true_and, Bool.false_and, Bool.and_true, Bool.and_false, Bool.true_or, Bool.false_or, Bool.or_true, Bool.or_false, Bool.false_eq_true, Bool.true_eq_false, decide_true, decide_false, decide_eq_true_eq, Bool.not_eq_true', Bool.not_eq_false', decide_eq_false_iff_not, decide_not, not_true_eq_false, not_false_eq_true, and_true, true_and, and_false, false_and, or_true, true_or, or_false, false_or, and_self, or_self, if_true, if_false, reduceCtorEq, Fn.start, Int.cast_ofNat_Int, List.all_cons, List.all_nil, List.any_cons, List.any_nil, List.getElem?_eq_getElem h, List.getD_eq_getElem?_getD, Option.getD_some]
  · rw [if_neg (by omega)]
    simp -implicitDefEqProofs only [bindS, mapS, bindN, mapN, ifD_bl, bind_ite', map_ite', ev_c, ev_var, ev_rd, ev_gl, ev_tup, ev_lst, ev_bin, negD_int, ev_neg, notD_bl, ev_nt, ev_cmp, ev_chain, ev_an, ev_orr, ev_ife, ev_ix, ev_sl, isNo_nohi, isNo_c, isNo_var, isNo_bin, isNo_neg, isNo_bi, isNo_ix, isNo_call, isNo_me, endD_int, noIo_nil, ev_call, noIoL_nil, ev_callb, ev_bi, ev_lc, ev_lcr, evs_nil, evs_cons, shd_sh, own_ow, add_int, sub_int, mod_pos, fdiv_pos, lt_int, le_int, gt_int, ge_int, is_non_non, is_bl_bl, is_int_non, is_str_non, is_tup_non, is_lst_non, is_bl_non, isnot_non_non, isnot_int_non, isnot_str_non, isnot_tup_non, isnot_lst_non, isnot_bl_non, cmp_eq, cmp_ne, eq_int, eq_str, eq_bl, eq_non, eq_int_str, eq_str_int, eq_non_str, eq_str_non, eq_non_int, eq_int_non, len_tup, len_lst, len_fls, abs_int, int_int, int_bl, tuple_lst, tuple_tup, list_lst, list_tup, max_int, min_int, isint_int, isint_bl, isint_str, isint_tup, isint_lst, isint_non, isbool_int, isbool_bl, isbool_str, isbool_tup, isbool_lst, isbool_non, isstr_int, isstr_bl, isstr_str, isstr_tup, isstr_lst, isstr_non, istuple_int, istuple_bl, istuple_str, istuple_tup, istuple_lst, istuple_non, islist_int, islist_bl, islist_str, islist_tup, islist_lst, islist_non, ix_tup, ix_lsts, atI_0, atI_1, atI_2, atI_3, atI_4, atI_5, atI_6, atI_7, atI_8, atI_9, atI_10, atI_11, atI_12, ix_fls, ev_me, sl_lst, sl_tup, cmp_isin, cmp_notin, flat_str, flat_int, flat_bl, flat_non, eqF_str, in_tup, seqO_nx, seqO_rt, seqO_bk, seqO_ct, exs_nil, exs_cons, ex_set, setoD_lst, ex_seto, ex_unp, augD_int, ex_aug, ex_expr, appD_lst, ex_app, mthD_lst, ex_mth, mthxD_lst, ex_mthx, om_clear, om_pop, om_reverse, setsD_lst, ex_sets, ex_ret, ex_reto, ex_retn, ex_iff, ex_whl, ex_for, ex_forr, ex_brk, ex_cnt, ex_pass, ex_share, it_tup, it_lst, it_str, it_fls, tg_one, wipe_one, nxO_nx, nxO_ct, nxO_bk, nxO_rt, forD_nil, lcD_nil, lcD_cons, consO_some, consO_none, ansO_nx, ansO_rt, ansO_ite, sizeLine_lit, pow_lit, toNx_nx, toNx_ct, toNx_ite, toA_some, toA_ite, List.getElem?_cons_zero, List.getElem?_cons_succ, List.getElem?_nil, List.set_cons_zero, List.set_cons_succ, List.set_nil, List.length_cons, List.length_nil, List.length_map, List.length_append, List.length_range, List.length_replicate, List.map_cons, List.map_nil, List.cons_append, List.nil_append, List.append_nil, List.replicate_succ, List.replicate_zero, Nat.reduceAdd, Nat.reduceSub, Nat.reduceMul, Nat.reduceLT, Nat.reduceLeDiff, Nat.reduceEqDiff, Nat.reduceMod, Nat.reduceDiv, Nat.reducePow, Int.reduceAdd, Int.reduceSub, Int.reduceMul, Int.reduceNeg, Int.reduceLT, Int.reduceLE, Int.reduceGT, Int.reduceGE, Int.reduceEq, Int.reduceNe, Int.reduceMod, Int.reduceDiv, Int.reducePow, Int.reduceToNat, Nat.add_zero, Nat.zero_add, Nat.sub_zero, Nat.zero_le, Nat.lt_irrefl, ite_true, ite_false, Bool.not_true, Bool.not_false, Bool.true_and, Bool.false_and, Bool.and_true, Bool.and_false, Bool.true_or, Bool.false_or, Bool.or_true, Bool.or_false, Bool.false_eq_true, Bool.true_eq_false, decide_true, decide_false, decide_eq_true_eq, Bool.not_eq_true', Bool.not_eq_false', decide_eq_false_iff_not, decide_not, not_true_eq_false, not_false_eq_true, and_true, true_and, and_false, false_and, or_true, true_or, or_false, false_or, and_self, or_self, if_true, if_false, reduceCtorEq, Fn.start, Int.cast_ofNat_Int, List.all_cons, List.all_nil, List.any_cons, List.any_nil, List.getElem?_eq_none (Nat.le_of_not_lt h), List.getD_eq_getElem?_getD, Option.getD_none]
def PD (c : Int) (m : Nat) (k : Nat) (s : PL.Env) : Prop := ∃ ds : List Int, ∃ r : Int, ∃ b : Bool, ∃ x5 x6 : Sl, s = [.sh (.int c), .sh (.int m), .ow (.lst (ds.map .int)), .sh (.int r), .sh (.bl b), x5, x6] ∧ ds.length = k ∧ ∀ x ∈ ds, 0 ≤ x ∧ x < 1000
theorem pd_next {c : Int} {m i : Nat} {ds : List Int} (el : ds.length = i) (hd : ∀ x ∈ ds, 0 ≤ x ∧ x < 1000) (d : Int) (r' : Int) (b : Bool) (x5 x6 : Sl) (h0 : 0 ≤ d) (h1 : d < 1000) : PD c m (i + 1) [Sl.sh (D.int c), .sh (.int m), .ow (.lst (ds.map .int ++ [D.int d])), .sh (.int r'), .sh (.bl b), x5, x6] := by
  refine ⟨ds ++ [d], r', b, _, _, by rw [List.map_append]; rfl, by simp [el], fun x hx => ?_⟩
  rcases List.mem_append.mp hx with h | h
  · exact hd x h
  · rw [List.mem_singleton] at h
    subst h
    exact ⟨h0, h1⟩
theorem d_step (n : Nat) (c : Int) (m i : Nat) (hm : m < 1000) (s : PL.Env) (hi : i < m) (h : PD c m i s) : toNx (PD c m (i + 1)) ((tgD [5] (.int (i : Int)) s).bind (exs (PL.call T G n) G b_law_draws_0)) := by
  obtain ⟨ds, r, b, x5, x6, es, el, hd⟩ := h
  subst es
  have hl : ds.length < 16777216 := by omega
  simp -implicitDefEqProofs (disch := omega) only [bindS, mapS, bindN, mapN, ifD_bl, bind_ite', map_ite', ev_c, ev_var, ev_rd, ev_gl, ev_tup, ev_lst, ev_bin, negD_int, ev_neg, notD_bl, ev_nt, ev_cmp, ev_chain, ev_an, ev_orr, ev_ife, ev_ix, ev_sl, isNo_nohi, isNo_c, isNo_var, isNo_bin, isNo_neg, isNo_bi, isNo_ix, isNo_call, isNo_me, endD_int, noIo_nil, ev_call, noIoL_nil, ev_callb, ev_bi, ev_lc, ev_lcr, evs_nil, evs_cons, shd_sh, own_ow, add_int, sub_int, mod_pos, fdiv_pos, lt_int, le_int, gt_int, ge_int, is_non_non, is_bl_bl, is_int_non, is_str_non, is_tup_non, is_lst_non, is_bl_non, isnot_non_non, isnot_int_non, isnot_str_non, isnot_tup_non, isnot_lst_non, isnot_bl_non, cmp_eq, cmp_ne, eq_int, eq_str, eq_bl, eq_non, eq_int_str, eq_str_int, eq_non_str, eq_str_non, eq_non_int, eq_int_non, len_tup, len_lst, len_fls, abs_int, int_int, int_bl, tuple_lst, tuple_tup, list_lst, list_tup, max_int, min_int, isint_int, isint_bl, isint_str, isint_tup, isint_lst, isint_non, isbool_int, isbool_bl, isbool_str, isbool_tup, isbool_lst, isbool_non, isstr_int, isstr_bl, isstr_str, isstr_tup, isstr_lst, isstr_non, istuple_int, istuple_bl, istuple_str, istuple_tup, istuple_lst, istuple_non, islist_int, islist_bl, islist_str, islist_tup, islist_lst, islist_non, ix_tup, ix_lsts, atI_0, atI_1, atI_2, atI_3, atI_4, atI_5, atI_6, atI_7, atI_8, atI_9, atI_10, atI_11, atI_12, ix_fls, ev_me, sl_lst, sl_tup, cmp_isin, cmp_notin, flat_str, flat_int, flat_bl, flat_non, eqF_str, in_tup, seqO_nx, seqO_rt, seqO_bk, seqO_ct, exs_nil, exs_cons, ex_set, setoD_lst, ex_seto, ex_unp, augD_int, ex_aug, ex_expr, appD_lst, ex_app, mthD_lst, ex_mth, mthxD_lst, ex_mthx, om_clear, om_pop, om_reverse, setsD_lst, ex_sets, ex_ret, ex_reto, ex_retn, ex_iff, ex_whl, ex_for, ex_forr, ex_brk, ex_cnt, ex_pass, ex_share, it_tup, it_lst, it_str, it_fls, tg_one, wipe_one, nxO_nx, nxO_ct, nxO_bk, nxO_rt, forD_nil, lcD_nil, lcD_cons, consO_some, consO_none, ansO_nx, ansO_rt, ansO_ite, sizeLine_lit, pow_lit, toNx_nx, toNx_ct, toNx_ite, toA_some, toA_ite, List.getElem?_cons_zero, List.getElem?_cons_succ, List.getElem?_nil, List.set_cons_zero, List.set_cons_succ, List.set_nil, List.length_cons, List.length_nil, List.length_map, List.length_append, List.length_range, List.length_replicate, List.map_cons, List.map_nil, List.cons_append, List.nil_append, List.append_nil, List.replicate_succ, List.replicate_zero, Nat.reduceAdd, Nat.reduceSub, Nat.reduceMul, Nat.reduceLT, Nat.reduceLeDiff, Nat.reduceEqDiff, Nat.reduceMod, Nat.reduceDiv, Nat.reducePow, Int.reduceAdd, Int.reduceSub, Int.reduceMul, Int.reduceNeg, Int.reduceLT, Int.reduceLE, Int.reduceGT, Int.reduceGE, Int.reduceEq, Int.reduceNe, Int.reduceMod, Int.reduceDiv, Int.reducePow, Int.reduceToNat, Nat.add_zero, Nat.zero_add, Nat.sub_zero, Nat.zero_le, Nat.lt_irrefl, ite_true, ite_false, Bool.not_true, Bool.not_false, Bool.true_and, Bool.false_and, Bool.and_true, Bool.and_false, Bool.true_or, Bool.false_or, Bool.or_true, Bool.or_false, Bool.false_eq_true, Bool.true_eq_false, decide_true, decide_false, decide_eq_true_eq, Bool.not_eq_true', Bool.not_eq_false', decide_eq_false_iff_not, decide_not, not_true_eq_false, not_false_eq_true, and_true, true_and, and_false, false_and, or_true, true_or, or_false, false_or, and_self, or_self, if_true, if_false, reduceCtorEq, Fn.start, Int.cast_ofNat_Int, List.all_cons, List.all_nil, List.any_cons, List.any_nil, b_law_draws_0, mul_l, List.length_map, hl]
  repeat' split
  all_goals exact pd_next el hd _ _ _ _ _ (Int.emod_nonneg _ (by decide)) (Int.emod_lt_of_pos _ (by decide))
theorem c_draws (n : Nat) (c : Int) (m : Nat) (hm : m < 1000) : ∃ ds : List Int, call T G (n + 1) k_law_draws [.int c, .int m] = some (.lst (ds.map .int), []) ∧ ds.length = m ∧ ∀ x ∈ ds, 0 ≤ x ∧ x < 1000 := by
  rw [call_of T_law_draws rfl]
  simp -implicitDefEqProofs only [bindS, mapS, bindN, mapN, ifD_bl, bind_ite', map_ite', ev_c, ev_var, ev_rd, ev_gl, ev_tup, ev_lst, ev_bin, negD_int, ev_neg, notD_bl, ev_nt, ev_cmp, ev_chain, ev_an, ev_orr, ev_ife, ev_ix, ev_sl, isNo_nohi, isNo_c, isNo_var, isNo_bin, isNo_neg, isNo_bi, isNo_ix, isNo_call, isNo_me, endD_int, noIo_nil, ev_call, noIoL_nil, ev_callb, ev_bi, ev_lc, ev_lcr, evs_nil, evs_cons, shd_sh, own_ow, add_int, sub_int, mod_pos, fdiv_pos, lt_int, le_int, gt_int, ge_int, is_non_non, is_bl_bl, is_int_non, is_str_non, is_tup_non, is_lst_non, is_bl_non, isnot_non_non, isnot_int_non, isnot_str_non, isnot_tup_non, isnot_lst_non, isnot_bl_non, cmp_eq, cmp_ne, eq_int, eq_str, eq_bl, eq_non, eq_int_str, eq_str_int, eq_non_str, eq_str_non, eq_non_int, eq_int_non, len_tup, len_lst, len_fls, abs_int, int_int, int_bl, tuple_lst, tuple_tup, list_lst, list_tup, max_int, min_int, isint_int, isint_bl, isint_str, isint_tup, isint_lst, isint_non, isbool_int, isbool_bl, isbool_str, isbool_tup, isbool_lst, isbool_non, isstr_int, isstr_bl, isstr_str, isstr_tup, isstr_lst, isstr_non, istuple_int, istuple_bl, istuple_str, istuple_tup, istuple_lst, istuple_non, islist_int, islist_bl, islist_str, islist_tup, islist_lst, islist_non, ix_tup, ix_lsts, atI_0, atI_1, atI_2, atI_3, atI_4, atI_5, atI_6, atI_7, atI_8, atI_9, atI_10, atI_11, atI_12, ix_fls, ev_me, sl_lst, sl_tup, cmp_isin, cmp_notin, flat_str, flat_int, flat_bl, flat_non, eqF_str, in_tup, seqO_nx, seqO_rt, seqO_bk, seqO_ct, exs_nil, exs_cons, ex_set, setoD_lst, ex_seto, ex_unp, augD_int, ex_aug, ex_expr, appD_lst, ex_app, mthD_lst, ex_mth, mthxD_lst, ex_mthx, om_clear, om_pop, om_reverse, setsD_lst, ex_sets, ex_ret, ex_reto, ex_retn, ex_iff, ex_whl, ex_for, ex_forr, ex_brk, ex_cnt, ex_pass, ex_share, it_tup, it_lst, it_str, it_fls, tg_one, wipe_one, nxO_nx, nxO_ct, nxO_bk, nxO_rt, forD_nil, lcD_nil, lcD_cons, consO_some, consO_none, ansO_nx, ansO_rt, ansO_ite, sizeLine_lit, pow_lit, toNx_nx, toNx_ct, toNx_ite, toA_some, toA_ite, List.getElem?_cons_zero, List.getElem?_cons_succ, List.getElem?_nil, List.set_cons_zero, List.set_cons_succ, List.set_nil, List.length_cons, List.length_nil, List.length_map, List.length_append, List.length_range, List.length_replicate, List.map_cons, List.map_nil, List.cons_append, List.nil_append, List.append_nil, List.replicate_succ, List.replicate_zero, Nat.reduceAdd, Nat.reduceSub, Nat.reduceMul, Nat.reduceLT, Nat.reduceLeDiff, Nat.reduceEqDiff, Nat.reduceMod, Nat.reduceDiv, Nat.reducePow, Int.reduceAdd, Int.reduceSub, Int.reduceMul, Int.reduceNeg, Int.reduceLT, Int.reduceLE, Int.reduceGT, Int.reduceGE, Int.reduceEq, Int.reduceNe, Int.reduceMod, Int.reduceDiv, Int.reducePow, Int.reduceToNat, Nat.add_zero, Nat.zero_add, Nat.sub_zero, Nat.zero_le, Nat.lt_irrefl, ite_true, ite_false, Bool.not_true, Bool.not_false, Bool.true_and, Bool.false_and, Bool.and_true, Bool.and_false, Bool.true_or, Bool.false_or, Bool.or_true, Bool.or_false, Bool.false_eq_true, Bool.true_eq_false, decide_true, decide_false, decide_eq_true_eq, Bool.not_eq_true', Bool.not_eq_false', decide_eq_false_iff_not, decide_not, not_true_eq_false, not_false_eq_true, and_true, true_and, and_false, false_and, or_true, true_or, or_false, false_or, and_self, or_self, if_true, if_false, reduceCtorEq, Fn.start, Int.cast_ofNat_Int, List.all_cons, List.all_nil, List.any_cons, List.any_nil, f_law_draws, rng_nat m (Nat.lt_trans hm (by decide))]
  have st := for_rng (t := tgD [5]) (b := exs (PL.call T G n) G b_law_draws_0) (PD c m) m [.sh (.int c), .sh (.int m), .ow (.lst []), .sh (.int c.natAbs), .sh (.bl (decide (1000000000000000000 ≤ (c.natAbs : Int)))), .un, .un] ⟨[], _, _, _, _, rfl, rfl, by simp⟩ fun i s => d_step n c m i hm s
  obtain ⟨s', e, ds, r, b, x5, x6, es, el, hd⟩ := st
  subst es
  simp -implicitDefEqProofs only [bindS, mapS, bindN, mapN, ifD_bl, bind_ite', map_ite', ev_c, ev_var, ev_rd, ev_gl, ev_tup, ev_lst, ev_bin, negD_int, ev_neg, notD_bl, ev_nt, ev_cmp, ev_chain, ev_an, ev_orr, ev_ife, ev_ix, ev_sl, isNo_nohi, isNo_c, isNo_var, isNo_bin, isNo_neg, isNo_bi, isNo_ix, isNo_call, isNo_me, endD_int, noIo_nil, ev_call, noIoL_nil, ev_callb, ev_bi, ev_lc, ev_lcr, evs_nil, evs_cons, shd_sh, own_ow, add_int, sub_int, mod_pos, fdiv_pos, lt_int, le_int, gt_int, ge_int, is_non_non, is_bl_bl, is_int_non, is_str_non, is_tup_non, is_lst_non, is_bl_non, isnot_non_non, isnot_int_non, isnot_str_non, isnot_tup_non, isnot_lst_non, isnot_bl_non, cmp_eq, cmp_ne, eq_int, eq_str, eq_bl, eq_non, eq_int_str, eq_str_int, eq_non_str, eq_str_non, eq_non_int, eq_int_non, len_tup, len_lst, len_fls, abs_int, int_int, int_bl, tuple_lst, tuple_tup, list_lst, list_tup, max_int, min_int, isint_int, isint_bl, isint_str, isint_tup, isint_lst, isint_non, isbool_int, isbool_bl, isbool_str, isbool_tup, isbool_lst, isbool_non, isstr_int, isstr_bl, isstr_str, isstr_tup, isstr_lst, isstr_non, istuple_int, istuple_bl, istuple_str, istuple_tup, istuple_lst, istuple_non, islist_int, islist_bl, islist_str, islist_tup, islist_lst, islist_non, ix_tup, ix_lsts, atI_0, atI_1, atI_2, atI_3, atI_4, atI_5, atI_6, atI_7, atI_8, atI_9, atI_10, atI_11, atI_12, ix_fls, ev_me, sl_lst, sl_tup, cmp_isin, cmp_notin, flat_str, flat_int, flat_bl, flat_non, eqF_str, in_tup, seqO_nx, seqO_rt, seqO_bk, seqO_ct, exs_nil, exs_cons, ex_set, setoD_lst, ex_seto, ex_unp, augD_int, ex_aug, ex_expr, appD_lst, ex_app, mthD_lst, ex_mth, mthxD_lst, ex_mthx, om_clear, om_pop, om_reverse, setsD_lst, ex_sets, ex_ret, ex_reto, ex_retn, ex_iff, ex_whl, ex_for, ex_forr, ex_brk, ex_cnt, ex_pass, ex_share, it_tup, it_lst, it_str, it_fls, tg_one, wipe_one, nxO_nx, nxO_ct, nxO_bk, nxO_rt, forD_nil, lcD_nil, lcD_cons, consO_some, consO_none, ansO_nx, ansO_rt, ansO_ite, sizeLine_lit, pow_lit, toNx_nx, toNx_ct, toNx_ite, toA_some, toA_ite, List.getElem?_cons_zero, List.getElem?_cons_succ, List.getElem?_nil, List.set_cons_zero, List.set_cons_succ, List.set_nil, List.length_cons, List.length_nil, List.length_map, List.length_append, List.length_range, List.length_replicate, List.map_cons, List.map_nil, List.cons_append, List.nil_append, List.append_nil, List.replicate_succ, List.replicate_zero, Nat.reduceAdd, Nat.reduceSub, Nat.reduceMul, Nat.reduceLT, Nat.reduceLeDiff, Nat.reduceEqDiff, Nat.reduceMod, Nat.reduceDiv, Nat.reducePow, Int.reduceAdd, Int.reduceSub, Int.reduceMul, Int.reduceNeg, Int.reduceLT, Int.reduceLE, Int.reduceGT, Int.reduceGE, Int.reduceEq, Int.reduceNe, Int.reduceMod, Int.reduceDiv, Int.reducePow, Int.reduceToNat, Nat.add_zero, Nat.zero_add, Nat.sub_zero, Nat.zero_le, Nat.lt_irrefl, ite_true, ite_false, Bool.not_true, Bool.not_false, Bool.true_and, Bool.false_and, Bool.and_true, Bool.and_false, Bool.true_or, Bool.false_or, Bool.or_true, Bool.or_false, Bool.false_eq_true, Bool.true_eq_false, decide_true, decide_false, decide_eq_true_eq, Bool.not_eq_true', Bool.not_eq_false', decide_eq_false_iff_not, decide_not, not_true_eq_false, not_false_eq_true, and_true, true_and, and_false, false_and, or_true, true_or, or_false, false_or, and_self, or_self, if_true, if_false, reduceCtorEq, Fn.start, Int.cast_ofNat_Int, List.all_cons, List.all_nil, List.any_cons, List.any_nil, e]
  exact ⟨ds, rfl, by simpa using el, hd⟩
theorem nth_in {ds : List Int} (hd : ∀ x ∈ ds, 0 ≤ x ∧ x < 1000) (k : Nat) : 0 ≤ ds.getD k 0 ∧ ds.getD k 0 < 1000 := by
  rw [List.getD_eq_getElem?_getD]
  cases h : ds[k]? with
  | none => simp
  | some x => exact hd x (List.mem_of_getElem? h)
theorem len_app (a b : Str) : (a ++ b).length = a.length + b.length := Array.size_append
end LW

namespace LW
open PySem PL TL
theorem int_is (n : Nat) (i : Int) : call T G (n + 1) k_law_is_integer [.int i] = some (.bl true, []) := by
  rw [call_of T_law_is_integer rfl]
  simp -implicitDefEqProofs only [bindS, mapS, bindN, mapN, ifD_bl, bind_ite', map_ite', ev_c, ev_var, ev_rd, ev_gl, ev_tup, ev_lst, ev_bin, negD_int, ev_neg, notD_bl, ev_nt, ev_cmp, ev_chain, ev_an, ev_orr, ev_ife, ev_ix, ev_sl, isNo_nohi, isNo_c, isNo_var, isNo_bin, isNo_neg, isNo_bi, isNo_ix, isNo_call, isNo_me, endD_int, noIo_nil, ev_call, noIoL_nil, ev_callb, ev_bi, ev_lc, ev_lcr, evs_nil, evs_cons, shd_sh, own_ow, add_int, sub_int, mod_pos, fdiv_pos, lt_int, le_int, gt_int, ge_int, is_non_non, is_bl_bl, is_int_non, is_str_non, is_tup_non, is_lst_non, is_bl_non, isnot_non_non, isnot_int_non, isnot_str_non, isnot_tup_non, isnot_lst_non, isnot_bl_non, cmp_eq, cmp_ne, eq_int, eq_str, eq_bl, eq_non, eq_int_str, eq_str_int, eq_non_str, eq_str_non, eq_non_int, eq_int_non, len_tup, len_lst, len_fls, abs_int, int_int, int_bl, tuple_lst, tuple_tup, list_lst, list_tup, max_int, min_int, isint_int, isint_bl, isint_str, isint_tup, isint_lst, isint_non, isbool_int, isbool_bl, isbool_str, isbool_tup, isbool_lst, isbool_non, isstr_int, isstr_bl, isstr_str, isstr_tup, isstr_lst, isstr_non, istuple_int, istuple_bl, istuple_str, istuple_tup, istuple_lst, istuple_non, islist_int, islist_bl, islist_str, islist_tup, islist_lst, islist_non, ix_tup, ix_lsts, atI_0, atI_1, atI_2, atI_3, atI_4, atI_5, atI_6, atI_7, atI_8, atI_9, atI_10, atI_11, atI_12, ix_fls, ev_me, sl_lst, sl_tup, cmp_isin, cmp_notin, flat_str, flat_int, flat_bl, flat_non, eqF_str, in_tup, seqO_nx, seqO_rt, seqO_bk, seqO_ct, exs_nil, exs_cons, ex_set, setoD_lst, ex_seto, ex_unp, augD_int, ex_aug, ex_expr, appD_lst, ex_app, mthD_lst, ex_mth, mthxD_lst, ex_mthx, om_clear, om_pop, om_reverse, setsD_lst, ex_sets, ex_ret, ex_reto, ex_retn, ex_iff, ex_whl, ex_for, ex_forr, ex_brk, ex_cnt, ex_pass, ex_share, it_tup, it_lst, it_str, it_fls, tg_one, wipe_one, nxO_nx, nxO_ct, nxO_bk, nxO_rt, forD_nil, lcD_nil, lcD_cons, consO_some, consO_none, ansO_nx, ansO_rt, ansO_ite, sizeLine_lit, pow_lit, toNx_nx, toNx_ct, toNx_ite, toA_some, toA_ite, List.getElem?_cons_zero, List.getElem?_cons_succ, List.getElem?_nil, List.set_cons_zero, List.set_cons_succ, List.set_nil, List.length_cons, List.length_nil, List.length_map, List.length_append, List.length_range, List.length_replicate, List.map_cons, List.map_nil, List.cons_append, List.nil_append, List.append_nil, List.replicate_succ, List.replicate_zero, Nat.reduceAdd, Nat.reduceSub, Nat.reduceMul, Nat.reduceLT, Nat.reduceLeDiff, Nat.reduceEqDiff, Nat.reduceMod, Nat.reduceDiv, Nat.reducePow, Int.reduceAdd, Int.reduceSub, Int.reduceMul, Int.reduceNeg, Int.reduceLT, Int.reduceLE, Int.reduceGT, Int.reduceGE, Int.reduceEq, Int.reduceNe, Int.reduceMod, Int.reduceDiv, Int.reducePow, Int.reduceToNat, Nat.add_zero, Nat.zero_add, Nat.sub_zero, Nat.zero_le, Nat.lt_irrefl, ite_true, ite_false, Bool.not_true, Bool.not_false, Bool.true_and, Bool.false_and, Bool.and_true, Bool.and_false, Bool.true_or, Bool.false_or, Bool.or_true, Bool.or_false, Bool.false_eq_true, Bool.true_eq_false, decide_true, decide_false, decide_eq_true_eq, Bool.not_eq_true', Bool.not_eq_false', decide_eq_false_iff_not, decide_not, not_true_eq_false, not_false_eq_true, and_true, true_and, and_false, false_and, or_true, true_or, or_false, false_or, and_self, or_self, if_true, if_false, reduceCtorEq, Fn.start, Int.cast_ofNat_Int, List.all_cons, List.all_nil, List.any_cons, List.any_nil, f_law_is_integer]
/-! two lists of tokens -/
def isTok (d : D) : Prop := ∃ (a b : Str) (i j : Int), d = .tup [.str a, .str b, .int i, .int j] ∧ PyData.strOk a = true ∧ PyData.strOk b = true
def same_end : List S := [.ret (.c (.bl true))]
theorem same_loop (n : Nat) (L : List D) (hL : ∀ d ∈ L, isTok d) (k : Nat) (s : PL.Env) (hk : k < L.length) (h : ∃ a b : Sl, s = [.sh (.lst L), .sh (.lst L), a, b]) : toNx (fun s => ∃ a b : Sl, s = [.sh (.lst L), .sh (.lst L), a, b]) ((tgD [2] (.int (k : Int)) s).bind (exs (call T G (n + 1)) G b_law_same_0)) := by
  obtain ⟨a, b, rfl⟩ := h
  obtain ⟨x, y, i, j, e, o1, o2⟩ := hL L[k] (List.getElem_mem hk)
  have hg : ixD (.lst L) (.int (k : Int)) = some (.tup [.str x, .str y, .int i, .int j]) := by
    rw [ix_lst, atI_nat', List.getElem?_eq_getElem hk, e]
  simp -implicitDefEqProofs only [bindS, mapS, bindN, mapN, ifD_bl, bind_ite', map_ite', ev_c, ev_var, ev_rd, ev_gl, ev_tup, ev_lst, ev_bin, negD_int, ev_neg, notD_bl, ev_nt, ev_cmp, ev_chain, ev_an, ev_orr, ev_ife, ev_ix, ev_sl, isNo_nohi, isNo_c, isNo_var, isNo_bin, isNo_neg, isNo_bi, isNo_ix, isNo_call, isNo_me, endD_int, noIo_nil, ev_call, noIoL_nil, ev_callb, ev_bi, ev_lc, ev_lcr, evs_nil, evs_cons, shd_sh, own_ow, add_int, sub_int, mod_pos, fdiv_pos, lt_int, le_int, gt_int, ge_int, is_non_non, is_bl_bl, is_int_non, is_str_non, is_tup_non, is_lst_non, is_bl_non, isnot_non_non, isnot_int_non, isnot_str_non, isnot_tup_non, isnot_lst_non, isnot_bl_non, cmp_eq, cmp_ne, eq_int, eq_str, eq_bl, eq_non, eq_int_str, eq_str_int, eq_non_str, eq_str_non, eq_non_int, eq_int_non, len_tup, len_lst, len_fls, abs_int, int_int, int_bl, tuple_lst, tuple_tup, list_lst, list_tup, max_int, min_int, isint_int, isint_bl, isint_str, isint_tup, isint_lst, isint_non, isbool_int, isbool_bl, isbool_str, isbool_tup, isbool_lst, isbool_non, isstr_int, isstr_bl, isstr_str, isstr_tup, isstr_lst, isstr_non, istuple_int, istuple_bl, istuple_str, istuple_tup, istuple_lst, istuple_non, islist_int, islist_bl, islist_str, islist_tup, islist_lst, islist_non, ix_tup, ix_lsts, atI_0, atI_1, atI_2, atI_3, atI_4, atI_5, atI_6, atI_7, atI_8, atI_9, atI_10, atI_11, atI_12, ix_fls, ev_me, sl_lst, sl_tup, cmp_isin, cmp_notin, flat_str, flat_int, flat_bl, flat_non, eqF_str, in_tup, seqO_nx, seqO_rt, seqO_bk, seqO_ct, exs_nil, exs_cons, ex_set, setoD_lst, ex_seto, ex_unp, augD_int, ex_aug, ex_expr, appD_lst, ex_app, mthD_lst, ex_mth, mthxD_lst, ex_mthx, om_clear, om_pop, om_reverse, setsD_lst, ex_sets, ex_ret, ex_reto, ex_retn, ex_iff, ex_whl, ex_for, ex_forr, ex_brk, ex_cnt, ex_pass, ex_share, it_tup, it_lst, it_str, it_fls, tg_one, wipe_one, nxO_nx, nxO_ct, nxO_bk, nxO_rt, forD_nil, lcD_nil, lcD_cons, consO_some, consO_none, ansO_nx, ansO_rt, ansO_ite, sizeLine_lit, pow_lit, toNx_nx, toNx_ct, toNx_ite, toA_some, toA_ite, List.getElem?_cons_zero, List.getElem?_cons_succ, List.getElem?_nil, List.set_cons_zero, List.set_cons_succ, List.set_nil, List.length_cons, List.length_nil, List.length_map, List.length_append, List.length_range, List.length_replicate, List.map_cons, List.map_nil, List.cons_append, List.nil_append, List.append_nil, List.replicate_succ, List.replicate_zero, Nat.reduceAdd, Nat.reduceSub, Nat.reduceMul, Nat.reduceLT, Nat.reduceLeDiff, Nat.reduceEqDiff, Nat.reduceMod, Nat.reduceDiv, Nat.reducePow, Int.reduceAdd, Int.reduceSub, Int.reduceMul, Int.reduceNeg, Int.reduceLT, Int.reduceLE, Int.reduceGT, Int.reduceGE, Int.reduceEq, Int.reduceNe, Int.reduceMod, Int.reduceDiv, Int.reducePow, Int.reduceToNat, Nat.add_zero, Nat.zero_add, Nat.sub_zero, Nat.zero_le, Nat.lt_irrefl, ite_true, ite_false, Bool.not_true, Bool.not_false, Bool.true_and, Bool.false_and, Bool.and_true, Bool.and_false, Bool.true_or, Bool.false_or, Bool.or_true, Bool.or_false, Bool.false_eq_true, Bool.true_eq_false, decide_true, decide_false, decide_eq_true_eq, Bool.not_eq_true', Bool.not_eq_false', decide_eq_false_iff_not, decide_not, not_true_eq_false, not_false_eq_true, and_true, true_and, and_false, false_and, or_true, true_or, or_false, false_or, and_self, or_self, if_true, if_false, reduceCtorEq, Fn.start, Int.cast_ofNat_Int, List.all_cons, List.all_nil, List.any_cons, List.any_nil, b_law_same_0, hg, int_is, tok_eq x y i j o1 o2]
  exact ⟨_, _, rfl⟩
theorem c_same (n : Nat) (L : List D) (hL : ∀ d ∈ L, isTok d) (hl : L.length < 1000000) : call T G (n + 2) k_law_same [.lst L, .lst L] = some (.bl true, []) := by
  rw [call_of T_law_same rfl]
  obtain ⟨s', e, a, b, rfl⟩ := for_rng (t := tgD [2]) (b := exs (PL.call T G (n + 1)) G b_law_same_0) (fun _ s => ∃ a b : Sl, s = [.sh (.lst L), .sh (.lst L), a, b]) L.length [.sh (.lst L), .sh (.lst L), .un, .un] ⟨_, _, rfl⟩ fun k s hk => same_loop n L hL k s hk
  simp -implicitDefEqProofs only [bindS, mapS, bindN, mapN, ifD_bl, bind_ite', map_ite', ev_c, ev_var, ev_rd, ev_gl, ev_tup, ev_lst, ev_bin, negD_int, ev_neg, notD_bl, ev_nt, ev_cmp, ev_chain, ev_an, ev_orr, ev_ife, ev_ix, ev_sl, isNo_nohi, isNo_c, isNo_var, isNo_bin, isNo_neg, isNo_bi, isNo_ix, isNo_call, isNo_me, endD_int, noIo_nil, ev_call, noIoL_nil, ev_callb, ev_bi, ev_lc, ev_lcr, evs_nil, evs_cons, shd_sh, own_ow, add_int, sub_int, mod_pos, fdiv_pos, lt_int, le_int, gt_int, ge_int, is_non_non, is_bl_bl, is_int_non, is_str_non, is_tup_non, is_lst_non, is_bl_non, isnot_non_non, isnot_int_non, isnot_str_non, isnot_tup_non, isnot_lst_non, isnot_bl_non, cmp_eq, cmp_ne, eq_int, eq_str, eq_bl, eq_non, eq_int_str, eq_str_int, eq_non_str, eq_str_non, eq_non_int, eq_int_non, len_tup, len_lst, len_fls, abs_int, int_int, int_bl, tuple_lst, tuple_tup, list_lst, list_tup, max_int, min_int, isint_int, isint_bl, isint_str, isint_tup, isint_lst, isint_non, isbool_int, isbool_bl, isbool_str, isbool_tup, isbool_lst, isbool_non, isstr_int, isstr_bl, isstr_str, isstr_tup, isstr_lst, isstr_non, istuple_int, istuple_bl, istuple_str, istuple_tup, istuple_lst, istuple_non, islist_int, islist_bl, islist_str, islist_tup, islist_lst, islist_non, ix_tup, ix_lsts, atI_0, atI_1, atI_2, atI_3, atI_4, atI_5, atI_6, atI_7, atI_8, atI_9, atI_10, atI_11, atI_12, ix_fls, ev_me, sl_lst, sl_tup, cmp_isin, cmp_notin, flat_str, flat_int, flat_bl, flat_non, eqF_str, in_tup, seqO_nx, seqO_rt, seqO_bk, seqO_ct, exs_nil, exs_cons, ex_set, setoD_lst, ex_seto, ex_unp, augD_int, ex_aug, ex_expr, appD_lst, ex_app, mthD_lst, ex_mth, mthxD_lst, ex_mthx, om_clear, om_pop, om_reverse, setsD_lst, ex_sets, ex_ret, ex_reto, ex_retn, ex_iff, ex_whl, ex_for, ex_forr, ex_brk, ex_cnt, ex_pass, ex_share, it_tup, it_lst, it_str, it_fls, tg_one, wipe_one, nxO_nx, nxO_ct, nxO_bk, nxO_rt, forD_nil, lcD_nil, lcD_cons, consO_some, consO_none, ansO_nx, ansO_rt, ansO_ite, sizeLine_lit, pow_lit, toNx_nx, toNx_ct, toNx_ite, toA_some, toA_ite, List.getElem?_cons_zero, List.getElem?_cons_succ, List.getElem?_nil, List.set_cons_zero, List.set_cons_succ, List.set_nil, List.length_cons, List.length_nil, List.length_map, List.length_append, List.length_range, List.length_replicate, List.map_cons, List.map_nil, List.cons_append, List.nil_append, List.append_nil, List.replicate_succ, List.replicate_zero, Nat.reduceAdd, Nat.reduceSub, Nat.reduceMul, Nat.reduceLT, Nat.reduceLeDiff, Nat.reduceEqDiff, Nat.reduceMod, Nat.reduceDiv, Nat.reducePow, Int.reduceAdd, Int.reduceSub, Int.reduceMul, Int.reduceNeg, Int.reduceLT, Int.reduceLE, Int.reduceGT, Int.reduceGE, Int.reduceEq, Int.reduceNe, Int.reduceMod, Int.reduceDiv, Int.reducePow, Int.reduceToNat, Nat.add_zero, Nat.zero_add, Nat.sub_zero, Nat.zero_le, Nat.lt_irrefl, ite_true, ite_false, Bool.not_true, Bool.not_false, Bool.true_and, Bool.false_and, Bool.and_true, Bool.and_false, Bool.true_or, Bool.false_or, Bool.or_true, Bool.or_false, Bool.false_eq_true, Bool.true_eq_false, decide_true, decide_false, decide_eq_true_eq, Bool.not_eq_true', Bool.not_eq_false', decide_eq_false_iff_not, decide_not, not_true_eq_false, not_false_eq_true, and_true, true_and, and_false, false_and, or_true, true_or, or_false, false_or, and_self, or_self, if_true, if_false, reduceCtorEq, Fn.start, Int.cast_ofNat_Int, List.all_cons, List.all_nil, List.any_cons, List.any_nil, f_law_same, rng_nat L.length hl, e]
def okL (l : List Nat) : Bool := l.all fun c => decide (c < 0x110000)
theorem ok_st {l : List Nat} (h : okL l = true) : PyData.strOk (st l) = true := by
  show (l.toArray).all _ = true
  rw [← Array.all_toList]
  exact h
theorem ok_sub {l m : List Nat} (h : okL l = true) (s : ∀ x ∈ m, x ∈ l) : okL m = true := List.all_eq_true.mpr fun x hx => List.all_eq_true.mp h x (s x hx)
theorem kind_ok (r : List Nat) : PyData.strOk (kindL r) = true := by
  unfold kindL
  repeat' split
  all_goals decide +kernel
theorem tokAt_ok (c : Nat) (r : List Nat) (h : okL (c :: r) = true) : PyData.strOk (tokAt (c :: r)).1 = true ∧ PyData.strOk (st (tokAt (c :: r)).2) = true := by
  unfold tokAt
  split
  · exact ⟨kind_ok _, ok_st (ok_sub h fun x hx => (List.takeWhile_prefix _).subset hx)⟩
  · split
    · exact ⟨by show PyData.strOk (q "sign") = true; decide +kernel, ok_st (ok_sub h fun x hx => List.mem_of_mem_take hx)⟩
    · have hc : okL [(c :: r).headD 0] = true := ok_sub h fun x hx => by
        rw [List.mem_singleton] at hx
        rw [hx]
        exact List.mem_cons_self
      split
      · exact ⟨by show PyData.strOk (q "sign") = true; decide +kernel, ok_st hc⟩
      · exact ⟨by show PyData.strOk (q "bad") = true; decide +kernel, ok_st hc⟩
theorem scan_tok : ∀ (n : Nat) (row col : Int) (l : List Nat), okL l = true → ∀ d ∈ scan n row col l, isTok d
  | 0, _, _, _, _, d, h => by cases h
  | n + 1, row, col, [], _, d, h => by
    have h : d = tokD (q "end") [] row col := by simpa [scan] using h
    exact ⟨_, _, _, _, h, by decide +kernel, by decide +kernel⟩
  | n + 1, row, col, c :: r, hl, d, h => by
    have hr : okL r = true := ok_sub hl fun x hx => List.mem_cons_of_mem _ hx
    unfold scan at h
    split at h
    · exact scan_tok n _ _ _ hr d h
    · split at h
      · exact scan_tok n _ _ _ hr d h
      · split at h
        · exact scan_tok n _ _ _ (ok_sub hl fun x hx => List.mem_of_mem_drop hx) d h
        · rcases List.mem_cons.mp h with h | h
          · obtain ⟨o1, o2⟩ := tokAt_ok c r hl
            exact ⟨_, _, _, _, h, o1, o2⟩
          · split at h
            · cases h
            · exact scan_tok n _ _ _ (ok_sub hl fun x hx => List.mem_of_mem_drop hx) d h
theorem scan_len : ∀ (n : Nat) (row col : Int) (l : List Nat), (scan n row col l).length ≤ n
  | 0, _, _, _ => Nat.le_refl _
  | n + 1, row, col, [] => by
    show 1 ≤ n + 1
    omega
  | n + 1, row, col, c :: r => by
    unfold scan
    split
    · exact Nat.le_succ_of_le (scan_len n _ _ _)
    · split
      · exact Nat.le_succ_of_le (scan_len n _ _ _)
      · split
        · exact Nat.le_succ_of_le (scan_len n _ _ _)
        · rw [List.length_cons]
          split
          · simp
          · exact Nat.succ_le_succ (scan_len n _ _ _)
theorem scan_fuel : ∀ (n n' : Nat) (row col : Int) (l : List Nat), l.length < n → l.length < n' → scan n row col l = scan n' row col l
  | 0, _, _, _, _, h, _ => absurd h (by omega)
  | _, 0, _, _, _, _, h => absurd h (by omega)
  | n + 1, n' + 1, row, col, [], _, _ => rfl
  | n + 1, n' + 1, row, col, c :: r, h1, h2 => by
    simp only [List.length_cons] at h1 h2
    unfold scan
    rw [scan_fuel n n' (row + 1) 1 r (by omega) (by omega), scan_fuel n n' row (col + 1) r (by omega) (by omega)]
    split
    · rfl
    split
    · rfl
    split
    · rename_i h3
      have : 0 < restOf (c :: r) := by
        rw [h3]
        unfold restOf
        rw [List.takeWhile_cons_of_pos (by decide)]
        exact Nat.succ_pos _
      exact scan_fuel n n' _ _ _ (by rw [List.length_drop, List.length_cons]; omega) (by rw [List.length_drop, List.length_cons]; omega)
    · have := (tokAt_pos c r).1
      rw [scan_fuel n n' _ _ _ (by rw [List.length_drop, List.length_cons]; omega) (by rw [List.length_drop, List.length_cons]; omega)]
end LW

namespace LW
open PySem PL TL
/-! texts in parts -/
def S' (row col : Int) (l : List Nat) : List D := scan (l.length + 1) row col l
def mv : Int × Int → List Nat → Int × Int
  | p, [] => p
  | p, c :: l => mv (if c = 10 then (p.1 + 1, 1) else (p.1, p.2 + 1)) l
theorem mv_app : ∀ (a : List Nat) (p : Int × Int) (b : List Nat), mv p (a ++ b) = mv (mv p a) b
  | [], _, _ => rfl
  | c :: a, p, b => mv_app a _ b
theorem mv_row : ∀ (a : List Nat) (p : Int × Int), 10 ∉ a → mv p a = (p.1, p.2 + a.length)
  | [], p, _ => by simp [mv]
  | c :: a, p, h => by
    rw [List.mem_cons, not_or] at h
    unfold mv
    rw [if_neg (fun z => h.1 z.symm), mv_row a _ h.2, List.length_cons]
    refine Prod.ext rfl ?_
    show p.2 + 1 + (a.length : Int) = p.2 + ((a.length + 1 : Nat) : Int)
    omega
theorem S_nil (r c : Int) : S' r c [] = [tokD (q "end") [] r c] := rfl
theorem S_nl (r c : Int) (l : List Nat) : S' r c (10 :: l) = S' (r + 1) 1 l := by
  show scan (l.length + 1 + 1) r c (10 :: l) = _
  rw [scan, if_pos rfl]
  rfl
theorem S_sp (r c : Int) (l : List Nat) : S' r c (32 :: l) = S' r (c + 1) l := by
  show scan (l.length + 1 + 1) r c (32 :: l) = _
  rw [scan, if_neg (by decide), if_pos rfl]
  rfl
theorem S_com (r c : Int) (b l : List Nat) (hb : 10 ∉ b) (hl : ∀ d ∈ l.head?, d = 10) : S' r c (35 :: (b ++ l)) = S' r (c + 1 + b.length) l := by
  have hr : restOf (35 :: (b ++ l)) = b.length + 1 := by
    unfold restOf
    rw [List.takeWhile_cons_of_pos (by decide), List.length_cons, List.takeWhile_append_of_pos (fun x hx => by
      rw [decide_eq_true_eq]
      exact fun e => hb (e ▸ hx)), List.length_append]
    cases l with
    | nil => rfl
    | cons d l =>
      have : d = 10 := hl d rfl
      subst this
      rw [List.takeWhile_cons_of_neg (by decide)]
      rfl
  show scan ((35 :: (b ++ l)).length + 1) r c (35 :: (b ++ l)) = _
  rw [scan, if_neg (by decide), if_neg (by decide), if_pos rfl]
  rw [hr, List.drop_succ_cons, List.drop_left, show c + ((b.length + 1 : Nat) : Int) = c + 1 + b.length by omega]
  unfold S'
  exact scan_fuel _ _ _ _ _ (by rw [List.length_cons, List.length_append]; omega) (by omega)
theorem S_tok (r c : Int) (kind : Str) (w l : List Nat) (h : tokAt (w ++ l) = (kind, w)) (hk : kind ≠ q "bad") (hw : w ≠ []) (h0 : w.headD 0 ≠ 10 ∧ w.headD 0 ≠ 32 ∧ w.headD 0 ≠ 35) : S' r c (w ++ l) = tokD kind w r c :: S' r (c + w.length) l := by
  cases w with
  | nil => exact absurd rfl hw
  | cons d w =>
    obtain ⟨h1, h2, h3⟩ := h0
    simp only [List.headD_cons] at h1 h2 h3
    show scan (((d :: w) ++ l).length + 1) r c (d :: (w ++ l)) = _
    rw [scan, if_neg h1, if_neg h2, if_neg h3, show d :: (w ++ l) = (d :: w) ++ l from rfl, h, if_neg hk]
    show _ :: scan _ _ _ (((d :: w) ++ l).drop (d :: w).length) = _
    rw [List.drop_left]
    unfold S'
    rw [scan_fuel ((d :: w) ++ l).length (l.length + 1) _ _ l (by rw [List.length_append, List.length_cons]; omega) (by omega)]
theorem S_bad (r c : Int) (w l : List Nat) (h : tokAt (w ++ l) = (q "bad", w)) (hw : w ≠ []) (h0 : w.headD 0 ≠ 10 ∧ w.headD 0 ≠ 32 ∧ w.headD 0 ≠ 35) : S' r c (w ++ l) = [tokD (q "bad") w r c] := by
  cases w with
  | nil => exact absurd rfl hw
  | cons d w =>
    obtain ⟨h1, h2, h3⟩ := h0
    simp only [List.headD_cons] at h1 h2 h3
    show scan (((d :: w) ++ l).length + 1) r c (d :: (w ++ l)) = _
    rw [scan, if_neg h1, if_neg h2, if_neg h3, show d :: (w ++ l) = (d :: w) ++ l from rfl, h, if_pos rfl]
/-- a gap that is closed -/
inductive Gap : List Nat → Prop
  | nil : Gap []
  | sp {g : List Nat} : Gap g → Gap (32 :: g)
  | nl {g : List Nat} : Gap g → Gap (10 :: g)
  | com {b g : List Nat} : 10 ∉ b → Gap g → Gap (35 :: (b ++ 10 :: g))
theorem S_gap {g : List Nat} (h : Gap g) : ∀ (r c : Int) (l : List Nat), S' r c (g ++ l) = S' (mv (r, c) g).1 (mv (r, c) g).2 l := by
  induction h with
  | nil => intro r c l; rfl
  | sp _ ih => intro r c l; exact (S_sp r c _).trans (ih r (c + 1) l)
  | nl _ ih => intro r c l; exact (S_nl r c _).trans (ih (r + 1) 1 l)
  | @com b g hb _ ih =>
    intro r c l
    show S' r c (35 :: ((b ++ 10 :: g) ++ l)) = _
    rw [List.append_assoc, S_com r c b _ hb (by intro d hd; cases hd; rfl)]
    show S' r _ (10 :: (g ++ l)) = _
    rw [S_nl, ih]
    have e : mv (r, c) (35 :: (b ++ 10 :: g)) = mv (r + 1, 1) g := by
      show mv (r, c + 1) (b ++ 10 :: g) = _
      rw [mv_app, mv_row b _ hb]
      rfl
    rw [e]
/-- what may stand behind a word -/
def Ok (w l : List Nat) : Prop := ∀ d ∈ l.head?, ¬ (isRun (w.getLastD 0) = true ∧ isRun d = true) ∧ ¬ (w ∈ [[61], [60], [62], [33]] ∧ d = 61)
def signL : List (List Nat) := [[123], [125], [40], [41], [44], [59], [46], [43], [45], [42], [47], [61], [61, 61], [33, 61], [60], [60, 61], [62], [62, 61]]
/-- a word of a kind -/
def VW (kind : Str) (w : List Nat) : Prop := (w ≠ [] ∧ w.all isRun = true ∧ kindL w = kind) ∨ (kind = q "sign" ∧ w ∈ signL)
theorem vw_ne {kind : Str} {w : List Nat} (h : VW kind w) : w ≠ [] := by
  rcases h with h | ⟨_, h⟩
  · exact h.1
  · intro e
    rw [e] at h
    exact absurd h (by decide)
theorem run_not {c : Nat} (h : isRun c = true) : c ≠ 10 ∧ c ≠ 32 ∧ c ≠ 35 := by
  refine ⟨?_, ?_, ?_⟩ <;> intro e <;> rw [e] at h <;> exact absurd h (by decide)
theorem vw_head {kind : Str} {w : List Nat} (h : VW kind w) : w.headD 0 ≠ 10 ∧ w.headD 0 ≠ 32 ∧ w.headD 0 ≠ 35 := by
  rcases h with ⟨h1, h2, _⟩ | ⟨_, h⟩
  · cases w with
    | nil => exact absurd rfl h1
    | cons c w =>
      rw [List.all_cons, Bool.and_eq_true] at h2
      exact run_not h2.1
  · revert h
    unfold signL
    intro h
    simp only [List.mem_cons, List.not_mem_nil, or_false] at h
    rcases h with h | h | h | h | h | h | h | h | h | h | h | h | h | h | h | h | h | h <;> rw [h] <;> decide
theorem takeWhile_run {w l : List Nat} (h : w.all isRun = true) (hl : ∀ d ∈ l.head?, isRun d = false) : (w ++ l).takeWhile isRun = w := by
  rw [List.takeWhile_append_of_pos (fun x hx => List.all_eq_true.mp h x hx)]
  cases l with
  | nil => rw [List.takeWhile_nil, List.append_nil]
  | cons d l => rw [List.takeWhile_cons_of_neg (by rw [hl d rfl]; decide), List.append_nil]
theorem getLast_run : ∀ {w : List Nat}, w ≠ [] → w.all isRun = true → isRun (w.getLastD 0) = true
  | [], h, _ => absurd rfl h
  | c :: w, _, h => by
    have : (c :: w).getLastD 0 ∈ c :: w := by
      rw [List.getLastD_cons]
      cases w with
      | nil => exact List.mem_cons_self
      | cons d w =>
        rw [List.getLastD_eq_getLast?]
        cases hh : (d :: w).getLast? with
        | none => simp at hh
        | some z => exact List.mem_cons_of_mem _ (List.mem_of_getLast? hh)
    exact List.all_eq_true.mp h _ this
theorem vw_tok {kind : Str} {w l : List Nat} (h : VW kind w) (ho : Ok w l) : tokAt (w ++ l) = (kind, w) := by
  rcases h with ⟨h1, h2, h3⟩ | ⟨rfl, h⟩
  · have ht := takeWhile_run h2 (l := l) fun d hd => by
      have := (ho d hd).1
      rw [getLast_run h1 h2] at this
      cases hr : isRun d with
      | false => rfl
      | true => exact absurd ⟨rfl, hr⟩ this
    unfold tokAt
    rw [ht, if_pos h1, h3]
  · unfold signL at h
    simp only [List.mem_cons, List.not_mem_nil, or_false] at h
    have one : ∀ c : Nat, isRun c = false → c ∈ [123, 125, 40, 41, 44, 59, 46, 43, 45, 42, 47, 61, 60, 62] → w = [c] → tokAt (w ++ l) = (q "sign", w) := fun c hc hs hw => by
      subst hw
      unfold tokAt
      have ht : ([c] ++ l).takeWhile isRun = [] := List.takeWhile_cons_of_neg (by rw [hc]; decide)
      rw [ht, if_neg (fun z => z rfl), if_neg, show ([c] ++ l).headD 0 = c from rfl, if_pos hs]
      intro hm
      cases l with
      | nil => simp at hm
      | cons d l =>
        have h2 := (ho d rfl).2
        simp only [List.cons_append, List.nil_append, List.take_succ_cons, List.take_zero, List.mem_cons, List.cons.injEq, and_true, List.not_mem_nil, or_false] at hm h2
        omega
    have two : ∀ c : Nat, isRun c = false → w = [c, 61] → [c, 61] ∈ [[61, 61], [33, 61], [60, 61], [62, 61]] → tokAt (w ++ l) = (q "sign", w) := fun c hc hw hs => by
      subst hw
      unfold tokAt
      have ht : ([c, 61] ++ l).takeWhile isRun = [] := List.takeWhile_cons_of_neg (by rw [hc]; decide)
      rw [ht, if_neg (fun z => z rfl), show ([c, 61] ++ l).take 2 = [c, 61] from rfl, if_pos hs]
    rcases h with h | h | h | h | h | h | h | h | h | h | h | h | h | h | h | h | h | h
    · exact one _ (by decide) (by decide) h
    · exact one _ (by decide) (by decide) h
    · exact one _ (by decide) (by decide) h
    · exact one _ (by decide) (by decide) h
    · exact one _ (by decide) (by decide) h
    · exact one _ (by decide) (by decide) h
    · exact one _ (by decide) (by decide) h
    · exact one _ (by decide) (by decide) h
    · exact one _ (by decide) (by decide) h
    · exact one _ (by decide) (by decide) h
    · exact one _ (by decide) (by decide) h
    · exact one _ (by decide) (by decide) h
    · exact two _ (by decide) h (by decide)
    · exact two _ (by decide) h (by decide)
    · exact one _ (by decide) (by decide) h
    · exact two _ (by decide) h (by decide)
    · exact one _ (by decide) (by decide) h
    · exact two _ (by decide) h (by decide)
end LW

namespace LW
open PySem PL TL
/-! names out of the pool -/
def cd (s : String) : List Nat := s.toList.map Char.toNat
theorem q_st (s : String) : q s = st (cd s) := ext_tl (tl_ofString s)
def poolS : List String := ["a", "a1", "b2", "bob", "a10", "a9", "door", "e", "fox", "g7", "hill", "ivy", "jam", "key", "lake", "moon", "nut", "oak", "pear", "quay", "rose", "sun", "tree", "urn", "vine", "well", "x", "yew", "zoe", "twelvesigns1"]
/-- one of a list of texts -/
theorem at_strs (L : List String) (j : Int) (h0 : 0 ≤ j) (h1 : j < L.length) : ∃ s, s ∈ L ∧ L2.atI (L.map fun s => D.str (q s)) j = some (.str (q s)) := by
  obtain ⟨k, rfl⟩ := Int.eq_ofNat_of_zero_le h0
  have hk : k < L.length := by omega
  rw [atI_nat', List.getElem?_map, List.getElem?_eq_getElem hk]
  exact ⟨_, List.getElem_mem hk, rfl⟩
theorem lc_strs (f : D → Option (Option D)) (Q : String → Prop) : ∀ (m a : Nat), (∀ k, a ≤ k → k < a + m → ∃ s, Q s ∧ f (.int (k : Int)) = some (some (.str (q s)))) → ∃ L : List String, lcD f ((List.range' a m).map fun (k : Nat) => D.int (k : Int)) = some (L.map fun s => D.str (q s)) ∧ L.length = m ∧ ∀ s ∈ L, Q s
  | 0, a, _ => ⟨[], rfl, rfl, fun c hc => by cases hc⟩
  | m + 1, a, h => by
    obtain ⟨s, h1, h2⟩ := h a (Nat.le_refl _) (by omega)
    obtain ⟨L, e1, e2, e3⟩ := lc_strs f Q m (a + 1) fun k k1 k2 => h k (by omega) (by omega)
    refine ⟨s :: L, ?_, by rw [List.length_cons, e2], fun d hd => ?_⟩
    · rw [List.range'_succ, List.map_cons, lcD_cons, h2, bindS, e1]
      rfl
    · rcases List.mem_cons.mp hd with rfl | hd
      · exact h1
      · exact e3 d hd
def poolD : List D := poolS.map fun s => D.str (q s)
theorem names_step (n : Nat) (a b t : Int) (ht : 0 ≤ t ∧ t < 30) (x : D) (k : Nat) (hk : k < 30) : ∃ s, s ∈ poolS ∧ lcT (call T G n) G [5] (.c (.bl true)) (.ix (.var 2) (.bin .mod (.bi .int_ [(.bin .add (.var 0) (.bin .mul (.var 4) (.var 5)))]) (.c (.int 30)))) [.sh (.int a), .sh (.int b), .sh (.lst poolD), .sh x, .sh (.int t), .un] (.int (k : Int)) = some (some (.str (q s))) := by
  have m0 := Int.emod_nonneg (a + t * (k : Int)) (show (30 : Int) ≠ 0 by decide)
  have m1 := Int.emod_lt_of_pos (a + t * (k : Int)) (show (0 : Int) < 30 by decide)
  obtain ⟨s, hs, e⟩ := at_strs poolS _ m0 (by show _ < (30 : Int); exact m1)
  refine ⟨s, hs, ?_⟩
  have e' : ixD (.lst poolD) (.int ((a + t * (k : Int)) % 30)) = some (.str (q s)) := e
  unfold lcT
  simp -implicitDefEqProofs (disch := omega) only [bindS, mapS, bindN, mapN, ifD_bl, bind_ite', map_ite', ev_c, ev_var, ev_rd, ev_gl, ev_tup, ev_lst, ev_bin, negD_int, ev_neg, notD_bl, ev_nt, ev_cmp, ev_chain, ev_an, ev_orr, ev_ife, ev_ix, ev_sl, isNo_nohi, isNo_c, isNo_var, isNo_bin, isNo_neg, isNo_bi, isNo_ix, isNo_call, isNo_me, endD_int, noIo_nil, ev_call, noIoL_nil, ev_callb, ev_bi, ev_lc, ev_lcr, evs_nil, evs_cons, shd_sh, own_ow, add_int, sub_int, mod_pos, fdiv_pos, lt_int, le_int, gt_int, ge_int, is_non_non, is_bl_bl, is_int_non, is_str_non, is_tup_non, is_lst_non, is_bl_non, isnot_non_non, isnot_int_non, isnot_str_non, isnot_tup_non, isnot_lst_non, isnot_bl_non, cmp_eq, cmp_ne, eq_int, eq_str, eq_bl, eq_non, eq_int_str, eq_str_int, eq_non_str, eq_str_non, eq_non_int, eq_int_non, len_tup, len_lst, len_fls, abs_int, int_int, int_bl, tuple_lst, tuple_tup, list_lst, list_tup, max_int, min_int, isint_int, isint_bl, isint_str, isint_tup, isint_lst, isint_non, isbool_int, isbool_bl, isbool_str, isbool_tup, isbool_lst, isbool_non, isstr_int, isstr_bl, isstr_str, isstr_tup, isstr_lst, isstr_non, istuple_int, istuple_bl, istuple_str, istuple_tup, istuple_lst, istuple_non, islist_int, islist_bl, islist_str, islist_tup, islist_lst, islist_non, ix_tup, ix_lsts, atI_0, atI_1, atI_2, atI_3, atI_4, atI_5, atI_6, atI_7, atI_8, atI_9, atI_10, atI_11, atI_12, ix_fls, ev_me, sl_lst, sl_tup, cmp_isin, cmp_notin, flat_str, flat_int, flat_bl, flat_non, eqF_str, in_tup, seqO_nx, seqO_rt, seqO_bk, seqO_ct, exs_nil, exs_cons, ex_set, setoD_lst, ex_seto, ex_unp, augD_int, ex_aug, ex_expr, appD_lst, ex_app, mthD_lst, ex_mth, mthxD_lst, ex_mthx, om_clear, om_pop, om_reverse, setsD_lst, ex_sets, ex_ret, ex_reto, ex_retn, ex_iff, ex_whl, ex_for, ex_forr, ex_brk, ex_cnt, ex_pass, ex_share, it_tup, it_lst, it_str, it_fls, tg_one, wipe_one, nxO_nx, nxO_ct, nxO_bk, nxO_rt, forD_nil, lcD_nil, lcD_cons, consO_some, consO_none, ansO_nx, ansO_rt, ansO_ite, sizeLine_lit, pow_lit, toNx_nx, toNx_ct, toNx_ite, toA_some, toA_ite, List.getElem?_cons_zero, List.getElem?_cons_succ, List.getElem?_nil, List.set_cons_zero, List.set_cons_succ, List.set_nil, List.length_cons, List.length_nil, List.length_map, List.length_append, List.length_range, List.length_replicate, List.map_cons, List.map_nil, List.cons_append, List.nil_append, List.append_nil, List.replicate_succ, List.replicate_zero, Nat.reduceAdd, Nat.reduceSub, Nat.reduceMul, Nat.reduceLT, Nat.reduceLeDiff, Nat.reduceEqDiff, Nat.reduceMod, Nat.reduceDiv, Nat.reducePow, Int.reduceAdd, Int.reduceSub, Int.reduceMul, Int.reduceNeg, Int.reduceLT, Int.reduceLE, Int.reduceGT, Int.reduceGE, Int.reduceEq, Int.reduceNe, Int.reduceMod, Int.reduceDiv, Int.reducePow, Int.reduceToNat, Nat.add_zero, Nat.zero_add, Nat.sub_zero, Nat.zero_le, Nat.lt_irrefl, ite_true, ite_false, Bool.not_true, Bool.not_false, Bool.true_and, Bool.false_and, Bool.and_true, Bool.and_false, Bool.true_or, Bool.false_or, Bool.or_true, Bool.or_false, Bool.false_eq_true, Bool.true_eq_false, decide_true, decide_false, decide_eq_true_eq, Bool.not_eq_true', Bool.not_eq_false', decide_eq_false_iff_not, decide_not, not_true_eq_false, not_false_eq_true, and_true, true_and, and_false, false_and, or_true, true_or, or_false, false_or, and_self, or_self, if_true, if_false, reduceCtorEq, Fn.start, Int.cast_ofNat_Int, List.all_cons, List.all_nil, List.any_cons, List.any_nil, mul_r, e']
theorem c_names (n : Nat) (a b : Int) : ∃ L : List String, call T G (n + 1) k_law_names [.int a, .int b] = some (.lst (L.map fun s => D.str (q s)), []) ∧ L.length = 30 ∧ ∀ s ∈ L, s ∈ poolS := by
  rw [call_of T_law_names rfl]
  have m0 := Int.emod_nonneg b (show (8 : Int) ≠ 0 by decide)
  have m1 := Int.emod_lt_of_pos b (show (0 : Int) < 8 by decide)
  obtain ⟨t, ht, hx⟩ : ∃ t : Int, (0 ≤ t ∧ t < 30) ∧ L2.atI [D.int 1, .int 7, .int 11, .int 13, .int 17, .int 19, .int 23, .int 29] (b % 8) = some (.int t) := by
    obtain ⟨y, hy, ey⟩ := atI_in [D.int 1, .int 7, .int 11, .int 13, .int 17, .int 19, .int 23, .int 29] (b % 8) m0 (by simp only [List.length_cons, List.length_nil]; omega)
    simp only [List.mem_cons, List.not_mem_nil, or_false] at hy
    rcases hy with rfl | rfl | rfl | rfl | rfl | rfl | rfl | rfl <;> exact ⟨_, by decide, ey⟩
  obtain ⟨L, e1, e2, e3⟩ := lc_strs _ (fun s => s ∈ poolS) 30 0 fun k _ hk => names_step n a b t ht (.lst [D.int 1, .int 7, .int 11, .int 13, .int 17, .int 19, .int 23, .int 29]) k (by omega)
  rw [← List.range_eq_range'] at e1
  refine ⟨L, ?_, e2, e3⟩
  have r30 : rngD [.int 30] = some ((List.range 30).map fun (k : Nat) => D.int (k : Int)) := rng_nat 30 (by decide)
  have hl : (L.map fun s => D.str (q s)).length ≤ 16777216 := by rw [List.length_map, e2]; decide
  unfold poolD poolS at e1
  rw [List.map_cons, List.map_cons, List.map_cons, List.map_cons, List.map_cons, List.map_cons, List.map_cons, List.map_cons, List.map_cons, List.map_cons, List.map_cons, List.map_cons, List.map_cons, List.map_cons, List.map_cons, List.map_cons, List.map_cons, List.map_cons, List.map_cons, List.map_cons, List.map_cons, List.map_cons, List.map_cons, List.map_cons, List.map_cons, List.map_cons, List.map_cons, List.map_cons, List.map_cons, List.map_cons, List.map_nil] at e1
  simp -implicitDefEqProofs only [bindS, mapS, bindN, mapN, ifD_bl, bind_ite', map_ite', ev_c, ev_var, ev_rd, ev_gl, ev_tup, ev_lst, ev_bin, negD_int, ev_neg, notD_bl, ev_nt, ev_cmp, ev_chain, ev_an, ev_orr, ev_ife, ev_ix, ev_sl, isNo_nohi, isNo_c, isNo_var, isNo_bin, isNo_neg, isNo_bi, isNo_ix, isNo_call, isNo_me, endD_int, noIo_nil, ev_call, noIoL_nil, ev_callb, ev_bi, ev_lc, ev_lcr, evs_nil, evs_cons, shd_sh, own_ow, add_int, sub_int, mod_pos, fdiv_pos, lt_int, le_int, gt_int, ge_int, is_non_non, is_bl_bl, is_int_non, is_str_non, is_tup_non, is_lst_non, is_bl_non, isnot_non_non, isnot_int_non, isnot_str_non, isnot_tup_non, isnot_lst_non, isnot_bl_non, cmp_eq, cmp_ne, eq_int, eq_str, eq_bl, eq_non, eq_int_str, eq_str_int, eq_non_str, eq_str_non, eq_non_int, eq_int_non, len_tup, len_lst, len_fls, abs_int, int_int, int_bl, tuple_lst, tuple_tup, list_lst, list_tup, max_int, min_int, isint_int, isint_bl, isint_str, isint_tup, isint_lst, isint_non, isbool_int, isbool_bl, isbool_str, isbool_tup, isbool_lst, isbool_non, isstr_int, isstr_bl, isstr_str, isstr_tup, isstr_lst, isstr_non, istuple_int, istuple_bl, istuple_str, istuple_tup, istuple_lst, istuple_non, islist_int, islist_bl, islist_str, islist_tup, islist_lst, islist_non, ix_tup, ix_lsts, atI_0, atI_1, atI_2, atI_3, atI_4, atI_5, atI_6, atI_7, atI_8, atI_9, atI_10, atI_11, atI_12, ix_fls, ev_me, sl_lst, sl_tup, cmp_isin, cmp_notin, flat_str, flat_int, flat_bl, flat_non, eqF_str, in_tup, seqO_nx, seqO_rt, seqO_bk, seqO_ct, exs_nil, exs_cons, ex_set, setoD_lst, ex_seto, ex_unp, augD_int, ex_aug, ex_expr, appD_lst, ex_app, mthD_lst, ex_mth, mthxD_lst, ex_mthx, om_clear, om_pop, om_reverse, setsD_lst, ex_sets, ex_ret, ex_reto, ex_retn, ex_iff, ex_whl, ex_for, ex_forr, ex_brk, ex_cnt, ex_pass, ex_share, it_tup, it_lst, it_str, it_fls, tg_one, wipe_one, nxO_nx, nxO_ct, nxO_bk, nxO_rt, forD_nil, lcD_nil, lcD_cons, consO_some, consO_none, ansO_nx, ansO_rt, ansO_ite, sizeLine_lit, pow_lit, toNx_nx, toNx_ct, toNx_ite, toA_some, toA_ite, List.getElem?_cons_zero, List.getElem?_cons_succ, List.getElem?_nil, List.set_cons_zero, List.set_cons_succ, List.set_nil, List.length_cons, List.length_nil, List.length_map, List.length_append, List.length_range, List.length_replicate, List.map_cons, List.map_nil, List.cons_append, List.nil_append, List.append_nil, List.replicate_succ, List.replicate_zero, Nat.reduceAdd, Nat.reduceSub, Nat.reduceMul, Nat.reduceLT, Nat.reduceLeDiff, Nat.reduceEqDiff, Nat.reduceMod, Nat.reduceDiv, Nat.reducePow, Int.reduceAdd, Int.reduceSub, Int.reduceMul, Int.reduceNeg, Int.reduceLT, Int.reduceLE, Int.reduceGT, Int.reduceGE, Int.reduceEq, Int.reduceNe, Int.reduceMod, Int.reduceDiv, Int.reducePow, Int.reduceToNat, Nat.add_zero, Nat.zero_add, Nat.sub_zero, Nat.zero_le, Nat.lt_irrefl, ite_true, ite_false, Bool.not_true, Bool.not_false, Bool.true_and, Bool.false_and, Bool.and_true, Bool.and_false, Bool.true_or, Bool.false_or, Bool.or_true, Bool.or_false, Bool.false_eq_true, Bool.true_eq_false, decide_true, decide_false, decide_eq_true_eq, Bool.not_eq_true', Bool.not_eq_false', decide_eq_false_iff_not, decide_not, not_true_eq_false, not_false_eq_true, and_true, true_and, and_false, false_and, or_true, true_or, or_false, false_or, and_self, or_self, if_true, if_false, reduceCtorEq, Fn.start, Int.cast_ofNat_Int, List.all_cons, List.all_nil, List.any_cons, List.any_nil, f_law_names, hx, r30, e1]
  rw [if_pos (by rw [e2]; decide)]
end LW

namespace LW
open PySem PL TL
def kwS : List String := ["cell", "line", "store", "gate", "wheel", "mark", "class", "within", "var", "deed", "life", "start", "at", "asleep", "open", "shut", "set", "tell", "if", "else", "while", "do", "inner", "hold", "sleep", "wake", "after", "stop", "seize", "of", "free", "wait", "put", "into", "take", "from", "make", "leave", "or", "and", "not", "mod", "none", "me", "now", "length", "first", "spare", "waiting", "isopen", "stand"]
def sgS : List String := ["{", "}", "(", ")", ",", ";", ".", "+", "-", "*", "/", "=", "==", "!=", "<", "<=", ">", ">="]
theorem c_keywords (n : Nat) : call T G (n + 1) k_law_keywords [] = some (.lst (kwS.map fun s => D.str (q s)), []) := by
  rw [call_of T_law_keywords rfl]
  simp -implicitDefEqProofs only [bindS, mapS, bindN, mapN, ifD_bl, bind_ite', map_ite', ev_c, ev_var, ev_rd, ev_gl, ev_tup, ev_lst, ev_bin, negD_int, ev_neg, notD_bl, ev_nt, ev_cmp, ev_chain, ev_an, ev_orr, ev_ife, ev_ix, ev_sl, isNo_nohi, isNo_c, isNo_var, isNo_bin, isNo_neg, isNo_bi, isNo_ix, isNo_call, isNo_me, endD_int, noIo_nil, ev_call, noIoL_nil, ev_callb, ev_bi, ev_lc, ev_lcr, evs_nil, evs_cons, shd_sh, own_ow, add_int, sub_int, mod_pos, fdiv_pos, lt_int, le_int, gt_int, ge_int, is_non_non, is_bl_bl, is_int_non, is_str_non, is_tup_non, is_lst_non, is_bl_non, isnot_non_non, isnot_int_non, isnot_str_non, isnot_tup_non, isnot_lst_non, isnot_bl_non, cmp_eq, cmp_ne, eq_int, eq_str, eq_bl, eq_non, eq_int_str, eq_str_int, eq_non_str, eq_str_non, eq_non_int, eq_int_non, len_tup, len_lst, len_fls, abs_int, int_int, int_bl, tuple_lst, tuple_tup, list_lst, list_tup, max_int, min_int, isint_int, isint_bl, isint_str, isint_tup, isint_lst, isint_non, isbool_int, isbool_bl, isbool_str, isbool_tup, isbool_lst, isbool_non, isstr_int, isstr_bl, isstr_str, isstr_tup, isstr_lst, isstr_non, istuple_int, istuple_bl, istuple_str, istuple_tup, istuple_lst, istuple_non, islist_int, islist_bl, islist_str, islist_tup, islist_lst, islist_non, ix_tup, ix_lsts, atI_0, atI_1, atI_2, atI_3, atI_4, atI_5, atI_6, atI_7, atI_8, atI_9, atI_10, atI_11, atI_12, ix_fls, ev_me, sl_lst, sl_tup, cmp_isin, cmp_notin, flat_str, flat_int, flat_bl, flat_non, eqF_str, in_tup, seqO_nx, seqO_rt, seqO_bk, seqO_ct, exs_nil, exs_cons, ex_set, setoD_lst, ex_seto, ex_unp, augD_int, ex_aug, ex_expr, appD_lst, ex_app, mthD_lst, ex_mth, mthxD_lst, ex_mthx, om_clear, om_pop, om_reverse, setsD_lst, ex_sets, ex_ret, ex_reto, ex_retn, ex_iff, ex_whl, ex_for, ex_forr, ex_brk, ex_cnt, ex_pass, ex_share, it_tup, it_lst, it_str, it_fls, tg_one, wipe_one, nxO_nx, nxO_ct, nxO_bk, nxO_rt, forD_nil, lcD_nil, lcD_cons, consO_some, consO_none, ansO_nx, ansO_rt, ansO_ite, sizeLine_lit, pow_lit, toNx_nx, toNx_ct, toNx_ite, toA_some, toA_ite, List.getElem?_cons_zero, List.getElem?_cons_succ, List.getElem?_nil, List.set_cons_zero, List.set_cons_succ, List.set_nil, List.length_cons, List.length_nil, List.length_map, List.length_append, List.length_range, List.length_replicate, List.map_cons, List.map_nil, List.cons_append, List.nil_append, List.append_nil, List.replicate_succ, List.replicate_zero, Nat.reduceAdd, Nat.reduceSub, Nat.reduceMul, Nat.reduceLT, Nat.reduceLeDiff, Nat.reduceEqDiff, Nat.reduceMod, Nat.reduceDiv, Nat.reducePow, Int.reduceAdd, Int.reduceSub, Int.reduceMul, Int.reduceNeg, Int.reduceLT, Int.reduceLE, Int.reduceGT, Int.reduceGE, Int.reduceEq, Int.reduceNe, Int.reduceMod, Int.reduceDiv, Int.reducePow, Int.reduceToNat, Nat.add_zero, Nat.zero_add, Nat.sub_zero, Nat.zero_le, Nat.lt_irrefl, ite_true, ite_false, Bool.not_true, Bool.not_false, Bool.true_and, Bool.false_and, Bool.and_true, Bool.and_false, Bool.true_or, Bool.false_or, Bool.or_true, Bool.or_false, Bool.false_eq_true, Bool.true_eq_false, decide_true, decide_false, decide_eq_true_eq, Bool.not_eq_true', Bool.not_eq_false', decide_eq_false_iff_not, decide_not, not_true_eq_false, not_false_eq_true, and_true, true_and, and_false, false_and, or_true, true_or, or_false, false_or, and_self, or_self, if_true, if_false, reduceCtorEq, Fn.start, Int.cast_ofNat_Int, List.all_cons, List.all_nil, List.any_cons, List.any_nil, f_law_keywords]
  rfl
theorem c_signs (n : Nat) : call T G (n + 1) k_law_signs [] = some (.lst (sgS.map fun s => D.str (q s)), []) := by
  rw [call_of T_law_signs rfl]
  simp -implicitDefEqProofs only [bindS, mapS, bindN, mapN, ifD_bl, bind_ite', map_ite', ev_c, ev_var, ev_rd, ev_gl, ev_tup, ev_lst, ev_bin, negD_int, ev_neg, notD_bl, ev_nt, ev_cmp, ev_chain, ev_an, ev_orr, ev_ife, ev_ix, ev_sl, isNo_nohi, isNo_c, isNo_var, isNo_bin, isNo_neg, isNo_bi, isNo_ix, isNo_call, isNo_me, endD_int, noIo_nil, ev_call, noIoL_nil, ev_callb, ev_bi, ev_lc, ev_lcr, evs_nil, evs_cons, shd_sh, own_ow, add_int, sub_int, mod_pos, fdiv_pos, lt_int, le_int, gt_int, ge_int, is_non_non, is_bl_bl, is_int_non, is_str_non, is_tup_non, is_lst_non, is_bl_non, isnot_non_non, isnot_int_non, isnot_str_non, isnot_tup_non, isnot_lst_non, isnot_bl_non, cmp_eq, cmp_ne, eq_int, eq_str, eq_bl, eq_non, eq_int_str, eq_str_int, eq_non_str, eq_str_non, eq_non_int, eq_int_non, len_tup, len_lst, len_fls, abs_int, int_int, int_bl, tuple_lst, tuple_tup, list_lst, list_tup, max_int, min_int, isint_int, isint_bl, isint_str, isint_tup, isint_lst, isint_non, isbool_int, isbool_bl, isbool_str, isbool_tup, isbool_lst, isbool_non, isstr_int, isstr_bl, isstr_str, isstr_tup, isstr_lst, isstr_non, istuple_int, istuple_bl, istuple_str, istuple_tup, istuple_lst, istuple_non, islist_int, islist_bl, islist_str, islist_tup, islist_lst, islist_non, ix_tup, ix_lsts, atI_0, atI_1, atI_2, atI_3, atI_4, atI_5, atI_6, atI_7, atI_8, atI_9, atI_10, atI_11, atI_12, ix_fls, ev_me, sl_lst, sl_tup, cmp_isin, cmp_notin, flat_str, flat_int, flat_bl, flat_non, eqF_str, in_tup, seqO_nx, seqO_rt, seqO_bk, seqO_ct, exs_nil, exs_cons, ex_set, setoD_lst, ex_seto, ex_unp, augD_int, ex_aug, ex_expr, appD_lst, ex_app, mthD_lst, ex_mth, mthxD_lst, ex_mthx, om_clear, om_pop, om_reverse, setsD_lst, ex_sets, ex_ret, ex_reto, ex_retn, ex_iff, ex_whl, ex_for, ex_forr, ex_brk, ex_cnt, ex_pass, ex_share, it_tup, it_lst, it_str, it_fls, tg_one, wipe_one, nxO_nx, nxO_ct, nxO_bk, nxO_rt, forD_nil, lcD_nil, lcD_cons, consO_some, consO_none, ansO_nx, ansO_rt, ansO_ite, sizeLine_lit, pow_lit, toNx_nx, toNx_ct, toNx_ite, toA_some, toA_ite, List.getElem?_cons_zero, List.getElem?_cons_succ, List.getElem?_nil, List.set_cons_zero, List.set_cons_succ, List.set_nil, List.length_cons, List.length_nil, List.length_map, List.length_append, List.length_range, List.length_replicate, List.map_cons, List.map_nil, List.cons_append, List.nil_append, List.append_nil, List.replicate_succ, List.replicate_zero, Nat.reduceAdd, Nat.reduceSub, Nat.reduceMul, Nat.reduceLT, Nat.reduceLeDiff, Nat.reduceEqDiff, Nat.reduceMod, Nat.reduceDiv, Nat.reducePow, Int.reduceAdd, Int.reduceSub, Int.reduceMul, Int.reduceNeg, Int.reduceLT, Int.reduceLE, Int.reduceGT, Int.reduceGE, Int.reduceEq, Int.reduceNe, Int.reduceMod, Int.reduceDiv, Int.reducePow, Int.reduceToNat, Nat.add_zero, Nat.zero_add, Nat.sub_zero, Nat.zero_le, Nat.lt_irrefl, ite_true, ite_false, Bool.not_true, Bool.not_false, Bool.true_and, Bool.false_and, Bool.and_true, Bool.and_false, Bool.true_or, Bool.false_or, Bool.or_true, Bool.or_false, Bool.false_eq_true, Bool.true_eq_false, decide_true, decide_false, decide_eq_true_eq, Bool.not_eq_true', Bool.not_eq_false', decide_eq_false_iff_not, decide_not, not_true_eq_false, not_false_eq_true, and_true, true_and, and_false, false_and, or_true, true_or, or_false, false_or, and_self, or_self, if_true, if_false, reduceCtorEq, Fn.start, Int.cast_ofNat_Int, List.all_cons, List.all_nil, List.any_cons, List.any_nil, f_law_signs]
  rfl
theorem mem_kwL (w : List Nat) : (st w ∈ kwL) = (w ∈ kwS.map cd) := by
  have e : kwL = (kwS.map cd).map st := by
    rw [List.map_map]
    show kwL = kwS.map fun s => st (cd s)
    simp only [← q_st]
    rfl
  rw [e, st_mem]
/-- names of the pool, keywords, signs -/
theorem pool_vw : ∀ s ∈ poolS, VW (q "name") (cd s) ∧ okL (cd s) = true ∧ (cd s).length ≤ 12 := by
  intro s hs
  have h : (poolS.all fun s => decide (cd s ≠ []) && ((cd s).all isRun && (!isDig ((cd s).headD 0) && (!decide (cd s ∈ kwS.map cd) && (decide ((cd s).length ≤ 12) && okL (cd s)))))) = true := by decide +kernel
  have h := List.all_eq_true.mp h s hs
  simp only [Bool.and_eq_true, decide_eq_true_eq, Bool.not_eq_true', decide_eq_false_iff_not] at h
  obtain ⟨h1, h2, h3, h4, h5, h6⟩ := h
  refine ⟨Or.inl ⟨h1, h2, ?_⟩, h6, h5⟩
  unfold kindL
  rw [h3, if_neg (by decide), if_neg (by rw [mem_kwL]; exact h4), if_neg (by omega)]
theorem kw_vw : ∀ s ∈ kwS, VW (q "keyword") (cd s) ∧ okL (cd s) = true ∧ (cd s).length ≤ 7 ∧ (cd s).all isRun = true ∧ isDig ((cd s).headD 0) = false ∧ cd s ≠ [] := by
  intro s hs
  have h : (kwS.all fun s => decide (cd s ≠ []) && ((cd s).all isRun && (!isDig ((cd s).headD 0) && (decide (cd s ∈ kwS.map cd) && (decide ((cd s).length ≤ 7) && okL (cd s)))))) = true := by decide +kernel
  have h := List.all_eq_true.mp h s hs
  simp only [Bool.and_eq_true, decide_eq_true_eq, Bool.not_eq_true'] at h
  obtain ⟨h1, h2, h3, h4, h5, h6⟩ := h
  refine ⟨Or.inl ⟨h1, h2, ?_⟩, h6, h5, h2, h3, h1⟩
  unfold kindL
  rw [h3, if_neg (by decide), if_pos (by rw [mem_kwL]; exact h4)]
theorem sg_vw : ∀ s ∈ sgS, VW (q "sign") (cd s) ∧ okL (cd s) = true ∧ (cd s).length ≤ 2 := by
  intro s hs
  have h : (sgS.all fun s => decide (cd s ∈ signL) && (decide ((cd s).length ≤ 2) && okL (cd s))) = true := by decide +kernel
  have h := List.all_eq_true.mp h s hs
  simp only [Bool.and_eq_true, decide_eq_true_eq] at h
  exact ⟨Or.inr ⟨rfl, h.1⟩, h.2.2, h.2.1⟩
/-! numbers -/
theorem num_head : ∀ (m : Nat), 0 < m → ∃ c r, numL m = c :: r ∧ c ≠ 48 := by
  intro m
  induction m using Nat.strongRecOn with
  | ind m ih =>
    intro h
    by_cases h10 : m < 10
    · exact ⟨48 + m, [], numL_lt h10, by omega⟩
    · obtain ⟨c, r, e, hc⟩ := ih (m / 10) (by omega) (by omega)
      exact ⟨c, r ++ [48 + m % 10], by rw [numL_step (by omega), e]; rfl, hc⟩
theorem num_dig (m : Nat) : (numL m).all isDig = true := by
  have := numL_digits m
  refine List.all_eq_true.mpr fun c hc => ?_
  have h := this c hc
  unfold isDig
  rw [Bool.and_eq_true, decide_eq_true_eq, decide_eq_true_eq]
  exact h
theorem num_vw (m : Nat) (h : m < 1000000000) : VW (q "number") (numL m) ∧ okL (numL m) = true ∧ (numL m).length ≤ 9 := by
  have hd := num_dig m
  have hl : (numL m).length ≤ 9 := numL_len (by decide) (by omega)
  have hn := numL_ne m
  refine ⟨Or.inl ⟨hn, ?_, ?_⟩, ?_, hl⟩
  · exact List.all_eq_true.mpr fun c hc => by
      unfold isRun
      rw [List.all_eq_true.mp hd c hc, Bool.or_true]
  · unfold kindL
    obtain ⟨c, r, e⟩ : ∃ c r, numL m = c :: r := by
      cases hh : numL m with
      | nil => exact absurd hh hn
      | cons c r => exact ⟨c, r, rfl⟩
    have hc : isDig ((numL m).headD 0) = true := by
      rw [e] at hd ⊢
      rw [List.all_cons, Bool.and_eq_true] at hd
      exact hd.1
    rw [if_pos hc, if_pos]
    unfold numOk
    rw [decide_eq_true hl, hd, Bool.true_and, Bool.true_and, Bool.not_eq_true', Bool.and_eq_false_iff]
    by_cases hz : m = 0
    · subst hz
      exact Or.inr (by decide +kernel)
    · obtain ⟨c', r', e', hc'⟩ := num_head m (by omega)
      left
      rw [e', decide_eq_false]
      simpa using hc'
  · exact List.all_eq_true.mpr fun c hc => by
      have := List.all_eq_true.mp hd c hc
      unfold isDig at this
      rw [Bool.and_eq_true, decide_eq_true_eq, decide_eq_true_eq] at this
      rw [decide_eq_true_eq]
      omega
theorem c_number (n : Nat) (a d : Int) (hd : 0 ≤ d ∧ d < 1000) : ∃ m : Nat, m < 1000000000 ∧ call T G (n + 1) k_law_number [.int a, .int d] = some (.int (m : Int), []) := by
  rw [call_of T_law_number rfl]
  have m0 := Int.emod_nonneg d (show (12 : Int) ≠ 0 by decide)
  have m1 := Int.emod_lt_of_pos d (show (0 : Int) < 12 by decide)
  by_cases h : d % 12 < 3
  · obtain ⟨y, hy, ey⟩ := atI_in [D.int 0, .int 999999999, .int 100000000] (d % 12) m0 (by simp only [List.length_cons, List.length_nil]; omega)
    have yy : ∃ m : Nat, m < 1000000000 ∧ y = .int (m : Int) := by
      simp only [List.mem_cons, List.not_mem_nil, or_false] at hy
      rcases hy with rfl | rfl | rfl
      · exact ⟨0, by decide, rfl⟩
      · exact ⟨999999999, by decide, rfl⟩
      · exact ⟨100000000, by decide, rfl⟩
    obtain ⟨m, hm, rfl⟩ := yy
    refine ⟨m, hm, ?_⟩
    simp -implicitDefEqProofs only [bindS, mapS, bindN, mapN, ifD_bl, bind_ite', map_ite', ev_c, ev_var, ev_rd, ev_gl, ev_tup, ev_lst, ev_bin, negD_int, ev_neg, notD_bl, ev_nt, ev_cmp, ev_chain, ev_an, ev_orr, ev_ife, ev_ix, ev_sl, isNo_nohi, isNo_c, isNo_var, isNo_bin, isNo_neg, isNo_bi, isNo_ix, isNo_call, isNo_me, endD_int, noIo_nil, ev_call, noIoL_nil, ev_callb, ev_bi, ev_lc, ev_lcr, evs_nil, evs_cons, shd_sh, own_ow, add_int, sub_int, mod_pos, fdiv_pos, lt_int, le_int, gt_int, ge_int, is_non_non, is_bl_bl, is_int_non, is_str_non, is_tup_non, is_lst_non, is_bl_non, isnot_non_non, isnot_int_non, isnot_str_non, isnot_tup_non, isnot_lst_non, isnot_bl_non, cmp_eq, cmp_ne, eq_int, eq_str, eq_bl, eq_non, eq_int_str, eq_str_int, eq_non_str, eq_str_non, eq_non_int, eq_int_non, len_tup, len_lst, len_fls, abs_int, int_int, int_bl, tuple_lst, tuple_tup, list_lst, list_tup, max_int, min_int, isint_int, isint_bl, isint_str, isint_tup, isint_lst, isint_non, isbool_int, isbool_bl, isbool_str, isbool_tup, isbool_lst, isbool_non, isstr_int, isstr_bl, isstr_str, isstr_tup, isstr_lst, isstr_non, istuple_int, istuple_bl, istuple_str, istuple_tup, istuple_lst, istuple_non, islist_int, islist_bl, islist_str, islist_tup, islist_lst, islist_non, ix_tup, ix_lsts, atI_0, atI_1, atI_2, atI_3, atI_4, atI_5, atI_6, atI_7, atI_8, atI_9, atI_10, atI_11, atI_12, ix_fls, ev_me, sl_lst, sl_tup, cmp_isin, cmp_notin, flat_str, flat_int, flat_bl, flat_non, eqF_str, in_tup, seqO_nx, seqO_rt, seqO_bk, seqO_ct, exs_nil, exs_cons, ex_set, setoD_lst, ex_seto, ex_unp, augD_int, ex_aug, ex_expr, appD_lst, ex_app, mthD_lst, ex_mth, mthxD_lst, ex_mthx, om_clear, om_pop, om_reverse, setsD_lst, ex_sets, ex_ret, ex_reto, ex_retn, ex_iff, ex_whl, ex_for, ex_forr, ex_brk, ex_cnt, ex_pass, ex_share, it_tup, it_lst, it_str, it_fls, tg_one, wipe_one, nxO_nx, nxO_ct, nxO_bk, nxO_rt, forD_nil, lcD_nil, lcD_cons, consO_some, consO_none, ansO_nx, ansO_rt, ansO_ite, sizeLine_lit, pow_lit, toNx_nx, toNx_ct, toNx_ite, toA_some, toA_ite, List.getElem?_cons_zero, List.getElem?_cons_succ, List.getElem?_nil, List.set_cons_zero, List.set_cons_succ, List.set_nil, List.length_cons, List.length_nil, List.length_map, List.length_append, List.length_range, List.length_replicate, List.map_cons, List.map_nil, List.cons_append, List.nil_append, List.append_nil, List.replicate_succ, List.replicate_zero, Nat.reduceAdd, Nat.reduceSub, Nat.reduceMul, Nat.reduceLT, Nat.reduceLeDiff, Nat.reduceEqDiff, Nat.reduceMod, Nat.reduceDiv, Nat.reducePow, Int.reduceAdd, Int.reduceSub, Int.reduceMul, Int.reduceNeg, Int.reduceLT, Int.reduceLE, Int.reduceGT, Int.reduceGE, Int.reduceEq, Int.reduceNe, Int.reduceMod, Int.reduceDiv, Int.reducePow, Int.reduceToNat, Nat.add_zero, Nat.zero_add, Nat.sub_zero, Nat.zero_le, Nat.lt_irrefl, ite_true, ite_false, Bool.not_true, Bool.not_false, Bool.true_and, Bool.false_and, Bool.and_true, Bool.and_false, Bool.true_or, Bool.false_or, Bool.or_true, Bool.or_false, Bool.false_eq_true, Bool.true_eq_false, decide_true, decide_false, decide_eq_true_eq, Bool.not_eq_true', Bool.not_eq_false', decide_eq_false_iff_not, decide_not, not_true_eq_false, not_false_eq_true, and_true, true_and, and_false, false_and, or_true, true_or, or_false, false_or, and_self, or_self, if_true, if_false, reduceCtorEq, Fn.start, Int.cast_ofNat_Int, List.all_cons, List.all_nil, List.any_cons, List.any_nil, f_law_number, h, ey, mod_pos _ 12 (by decide)]
  · have p0 := Int.emod_nonneg (d / 12) (show (9 : Int) ≠ 0 by decide)
    have p1 := Int.emod_lt_of_pos (d / 12) (show (0 : Int) < 9 by decide)
    obtain ⟨y, hy, ey⟩ := atI_in [D.int 1, .int 10, .int 100, .int 1000, .int 10000, .int 100000, .int 1000000, .int 10000000, .int 100000000] (d / 12 % 9) p0 (by simp only [List.length_cons, List.length_nil]; omega)
    have yy : ∃ t : Int, y = .int t ∧ 0 < t ∧ t < 1000000000 := by
      simp only [List.mem_cons, List.not_mem_nil, or_false] at hy
      rcases hy with rfl | rfl | rfl | rfl | rfl | rfl | rfl | rfl | rfl <;> exact ⟨_, rfl, by decide, by decide⟩
    obtain ⟨t, rfl, t0, t1⟩ := yy
    have q0 := Int.emod_nonneg (((a.natAbs : Int) + d + 1) * 387420489) (show (1000000000 : Int) ≠ 0 by decide)
    have q1 := Int.emod_lt_of_pos (((a.natAbs : Int) + d + 1) * 387420489) (show (0 : Int) < 1000000000 by decide)
    have r0 := Int.ediv_nonneg q0 (Int.le_of_lt t0)
    have r1 : ((a.natAbs : Int) + d + 1) * 387420489 % 1000000000 / t < 1000000000 := Int.lt_of_le_of_lt (Int.ediv_le_self _ q0) q1
    refine ⟨(((a.natAbs : Int) + d + 1) * 387420489 % 1000000000 / t).toNat, by omega, ?_⟩
    rw [Int.toNat_of_nonneg r0]
    simp -implicitDefEqProofs (disch := omega) only [bindS, mapS, bindN, mapN, ifD_bl, bind_ite', map_ite', ev_c, ev_var, ev_rd, ev_gl, ev_tup, ev_lst, ev_bin, negD_int, ev_neg, notD_bl, ev_nt, ev_cmp, ev_chain, ev_an, ev_orr, ev_ife, ev_ix, ev_sl, isNo_nohi, isNo_c, isNo_var, isNo_bin, isNo_neg, isNo_bi, isNo_ix, isNo_call, isNo_me, endD_int, noIo_nil, ev_call, noIoL_nil, ev_callb, ev_bi, ev_lc, ev_lcr, evs_nil, evs_cons, shd_sh, own_ow, add_int, sub_int, mod_pos, fdiv_pos, lt_int, le_int, gt_int, ge_int, is_non_non, is_bl_bl, is_int_non, is_str_non, is_tup_non, is_lst_non, is_bl_non, isnot_non_non, isnot_int_non, isnot_str_non, isnot_tup_non, isnot_lst_non, isnot_bl_non, cmp_eq, cmp_ne, eq_int, eq_str, eq_bl, eq_non, eq_int_str, eq_str_int, eq_non_str, eq_str_non, eq_non_int, eq_int_non, len_tup, len_lst, len_fls, abs_int, int_int, int_bl, tuple_lst, tuple_tup, list_lst, list_tup, max_int, min_int, isint_int, isint_bl, isint_str, isint_tup, isint_lst, isint_non, isbool_int, isbool_bl, isbool_str, isbool_tup, isbool_lst, isbool_non, isstr_int, isstr_bl, isstr_str, isstr_tup, isstr_lst, isstr_non, istuple_int, istuple_bl, istuple_str, istuple_tup, istuple_lst, istuple_non, islist_int, islist_bl, islist_str, islist_tup, islist_lst, islist_non, ix_tup, ix_lsts, atI_0, atI_1, atI_2, atI_3, atI_4, atI_5, atI_6, atI_7, atI_8, atI_9, atI_10, atI_11, atI_12, ix_fls, ev_me, sl_lst, sl_tup, cmp_isin, cmp_notin, flat_str, flat_int, flat_bl, flat_non, eqF_str, in_tup, seqO_nx, seqO_rt, seqO_bk, seqO_ct, exs_nil, exs_cons, ex_set, setoD_lst, ex_seto, ex_unp, augD_int, ex_aug, ex_expr, appD_lst, ex_app, mthD_lst, ex_mth, mthxD_lst, ex_mthx, om_clear, om_pop, om_reverse, setsD_lst, ex_sets, ex_ret, ex_reto, ex_retn, ex_iff, ex_whl, ex_for, ex_forr, ex_brk, ex_cnt, ex_pass, ex_share, it_tup, it_lst, it_str, it_fls, tg_one, wipe_one, nxO_nx, nxO_ct, nxO_bk, nxO_rt, forD_nil, lcD_nil, lcD_cons, consO_some, consO_none, ansO_nx, ansO_rt, ansO_ite, sizeLine_lit, pow_lit, toNx_nx, toNx_ct, toNx_ite, toA_some, toA_ite, List.getElem?_cons_zero, List.getElem?_cons_succ, List.getElem?_nil, List.set_cons_zero, List.set_cons_succ, List.set_nil, List.length_cons, List.length_nil, List.length_map, List.length_append, List.length_range, List.length_replicate, List.map_cons, List.map_nil, List.cons_append, List.nil_append, List.append_nil, List.replicate_succ, List.replicate_zero, Nat.reduceAdd, Nat.reduceSub, Nat.reduceMul, Nat.reduceLT, Nat.reduceLeDiff, Nat.reduceEqDiff, Nat.reduceMod, Nat.reduceDiv, Nat.reducePow, Int.reduceAdd, Int.reduceSub, Int.reduceMul, Int.reduceNeg, Int.reduceLT, Int.reduceLE, Int.reduceGT, Int.reduceGE, Int.reduceEq, Int.reduceNe, Int.reduceMod, Int.reduceDiv, Int.reducePow, Int.reduceToNat, Nat.add_zero, Nat.zero_add, Nat.sub_zero, Nat.zero_le, Nat.lt_irrefl, ite_true, ite_false, Bool.not_true, Bool.not_false, Bool.true_and, Bool.false_and, Bool.and_true, Bool.and_false, Bool.true_or, Bool.false_or, Bool.or_true, Bool.or_false, Bool.false_eq_true, Bool.true_eq_false, decide_true, decide_false, decide_eq_true_eq, Bool.not_eq_true', Bool.not_eq_false', decide_eq_false_iff_not, decide_not, not_true_eq_false, not_false_eq_true, and_true, true_and, and_false, false_and, or_true, true_or, or_false, false_or, and_self, or_self, if_true, if_false, reduceCtorEq, Fn.start, Int.cast_ofNat_Int, List.all_cons, List.all_nil, List.any_cons, List.any_nil, f_law_number, h, ey, mul_r]
theorem log2_small (m : Nat) (h : m < 1000000000) : ((m : Int).natAbs).log2 < 1920 := by
  rw [Int.natAbs_natCast]
  by_cases hz : m = 0
  · subst hz
    decide
  · exact (Nat.log2_lt hz).mpr (Nat.lt_of_lt_of_le h (Nat.le_trans (show 1000000000 ≤ 2 ^ 30 by decide) (Nat.pow_le_pow_right (by decide) (by decide))))
/-! words -/
theorem c_long (n : Nat) (L : List String) (hL : L.length = 30) (hp : ∀ s ∈ L, s ∈ poolS) (d : Int) (hd : 0 ≤ d ∧ d < 1000) : ∃ w, call T G (n + 2) k_law_long [.lst (L.map fun s => D.str (q s)), .int d] = some (.str (st w), []) ∧ VW (q "name") (w.take 12) ∧ okL (w.take 12) = true ∧ w.length ≤ 100 ∧ 20 ≤ w.length ∧ w.all isRun = true ∧ isDig (w.headD 0) = false ∧ okL w = true := by
  rw [call_of T_law_long rfl]
  have m0 := Int.emod_nonneg d (show (51 : Int) ≠ 0 by decide)
  have m1 := Int.emod_lt_of_pos d (show (0 : Int) < 51 by decide)
  obtain ⟨a, ha, ea⟩ := at_strs kwS (d % 51) m0 (by show _ < (51 : Int); exact m1)
  have p0 := Int.emod_nonneg (d / 7) (show (30 : Int) ≠ 0 by decide)
  have p1 := Int.emod_lt_of_pos (d / 7) (show (0 : Int) < 30 by decide)
  obtain ⟨b, hb, eb⟩ := at_strs L (d / 7 % 30) p0 (by rw [hL]; exact p1)
  obtain ⟨a1, a2, a3, a4, a5, a6⟩ := kw_vw a ha
  obtain ⟨b1, b2, b3⟩ := pool_vw b (hp b hb)
  have hbr : (cd b).all isRun = true := by
    rcases b1 with h | ⟨h, _⟩
    · exact h.2.1
    · exact absurd h (by decide +kernel)
  have ht : (cd "zq7xw0bk3rm9v5jhtpd").all isRun = true := by decide +kernel
  have htl : (cd "zq7xw0bk3rm9v5jhtpd").length = 19 := by decide +kernel
  have hto : okL (cd "zq7xw0bk3rm9v5jhtpd") = true := by decide +kernel
  have wl : (cd a ++ cd b ++ cd "zq7xw0bk3rm9v5jhtpd").length = (cd a).length + (cd b).length + 19 := by
    rw [List.length_append, List.length_append, htl]
  have hall : (cd a ++ cd b ++ cd "zq7xw0bk3rm9v5jhtpd").all isRun = true := by
    rw [List.all_append, List.all_append, a4, hbr, ht]
    rfl
  have hok : okL (cd a ++ cd b ++ cd "zq7xw0bk3rm9v5jhtpd") = true := by
    unfold okL at *
    rw [List.all_append, List.all_append, a2, b2, hto]
    rfl
  have apos : 0 < (cd a).length := List.length_pos_iff.mpr a6
  refine ⟨cd a ++ cd b ++ cd "zq7xw0bk3rm9v5jhtpd", ?_, Or.inl ⟨?_, ?_, ?_⟩, ok_sub hok fun c hc => List.mem_of_mem_take hc, by omega, by omega, hall, ?_, hok⟩
  · have ek := c_keywords n
    have ea' : ixD (.lst (kwS.map fun s => D.str (q s))) (.int (d % 51)) = some (.str (st (cd a))) := by rw [← q_st]; exact ea
    have eb' : ixD (.lst (L.map fun s => D.str (q s))) (.int (d / 7 % 30)) = some (.str (st (cd b))) := by rw [← q_st]; exact eb
    have s1 : binD .add (.str (st (cd a))) (.str (st (cd b))) = some (.str (st (cd a ++ cd b))) := by
      rw [add_str _ _ (by rw [st_len, st_len, sizeLine_lit]; omega), st_app]
    have s2 : binD .add (.str (st (cd a ++ cd b))) (.str (q "zq7xw0bk3rm9v5jhtpd")) = some (.str (st (cd a ++ cd b ++ cd "zq7xw0bk3rm9v5jhtpd"))) := by
      rw [q_st "zq7xw0bk3rm9v5jhtpd", add_str _ _ (by rw [st_len, st_len, sizeLine_lit, List.length_append, htl]; omega), st_app]
    simp -implicitDefEqProofs only [bindS, mapS, bindN, mapN, ifD_bl, bind_ite', map_ite', ev_c, ev_var, ev_rd, ev_gl, ev_tup, ev_lst, ev_bin, negD_int, ev_neg, notD_bl, ev_nt, ev_cmp, ev_chain, ev_an, ev_orr, ev_ife, ev_ix, ev_sl, isNo_nohi, isNo_c, isNo_var, isNo_bin, isNo_neg, isNo_bi, isNo_ix, isNo_call, isNo_me, endD_int, noIo_nil, ev_call, noIoL_nil, ev_callb, ev_bi, ev_lc, ev_lcr, evs_nil, evs_cons, shd_sh, own_ow, add_int, sub_int, mod_pos, fdiv_pos, lt_int, le_int, gt_int, ge_int, is_non_non, is_bl_bl, is_int_non, is_str_non, is_tup_non, is_lst_non, is_bl_non, isnot_non_non, isnot_int_non, isnot_str_non, isnot_tup_non, isnot_lst_non, isnot_bl_non, cmp_eq, cmp_ne, eq_int, eq_str, eq_bl, eq_non, eq_int_str, eq_str_int, eq_non_str, eq_str_non, eq_non_int, eq_int_non, len_tup, len_lst, len_fls, abs_int, int_int, int_bl, tuple_lst, tuple_tup, list_lst, list_tup, max_int, min_int, isint_int, isint_bl, isint_str, isint_tup, isint_lst, isint_non, isbool_int, isbool_bl, isbool_str, isbool_tup, isbool_lst, isbool_non, isstr_int, isstr_bl, isstr_str, isstr_tup, isstr_lst, isstr_non, istuple_int, istuple_bl, istuple_str, istuple_tup, istuple_lst, istuple_non, islist_int, islist_bl, islist_str, islist_tup, islist_lst, islist_non, ix_tup, ix_lsts, atI_0, atI_1, atI_2, atI_3, atI_4, atI_5, atI_6, atI_7, atI_8, atI_9, atI_10, atI_11, atI_12, ix_fls, ev_me, sl_lst, sl_tup, cmp_isin, cmp_notin, flat_str, flat_int, flat_bl, flat_non, eqF_str, in_tup, seqO_nx, seqO_rt, seqO_bk, seqO_ct, exs_nil, exs_cons, ex_set, setoD_lst, ex_seto, ex_unp, augD_int, ex_aug, ex_expr, appD_lst, ex_app, mthD_lst, ex_mth, mthxD_lst, ex_mthx, om_clear, om_pop, om_reverse, setsD_lst, ex_sets, ex_ret, ex_reto, ex_retn, ex_iff, ex_whl, ex_for, ex_forr, ex_brk, ex_cnt, ex_pass, ex_share, it_tup, it_lst, it_str, it_fls, tg_one, wipe_one, nxO_nx, nxO_ct, nxO_bk, nxO_rt, forD_nil, lcD_nil, lcD_cons, consO_some, consO_none, ansO_nx, ansO_rt, ansO_ite, sizeLine_lit, pow_lit, toNx_nx, toNx_ct, toNx_ite, toA_some, toA_ite, List.getElem?_cons_zero, List.getElem?_cons_succ, List.getElem?_nil, List.set_cons_zero, List.set_cons_succ, List.set_nil, List.length_cons, List.length_nil, List.length_map, List.length_append, List.length_range, List.length_replicate, List.map_cons, List.map_nil, List.cons_append, List.nil_append, List.append_nil, List.replicate_succ, List.replicate_zero, Nat.reduceAdd, Nat.reduceSub, Nat.reduceMul, Nat.reduceLT, Nat.reduceLeDiff, Nat.reduceEqDiff, Nat.reduceMod, Nat.reduceDiv, Nat.reducePow, Int.reduceAdd, Int.reduceSub, Int.reduceMul, Int.reduceNeg, Int.reduceLT, Int.reduceLE, Int.reduceGT, Int.reduceGE, Int.reduceEq, Int.reduceNe, Int.reduceMod, Int.reduceDiv, Int.reducePow, Int.reduceToNat, Nat.add_zero, Nat.zero_add, Nat.sub_zero, Nat.zero_le, Nat.lt_irrefl, ite_true, ite_false, Bool.not_true, Bool.not_false, Bool.true_and, Bool.false_and, Bool.and_true, Bool.and_false, Bool.true_or, Bool.false_or, Bool.or_true, Bool.or_false, Bool.false_eq_true, Bool.true_eq_false, decide_true, decide_false, decide_eq_true_eq, Bool.not_eq_true', Bool.not_eq_false', decide_eq_false_iff_not, decide_not, not_true_eq_false, not_false_eq_true, and_true, true_and, and_false, false_and, or_true, true_or, or_false, false_or, and_self, or_self, if_true, if_false, reduceCtorEq, Fn.start, Int.cast_ofNat_Int, List.all_cons, List.all_nil, List.any_cons, List.any_nil, f_law_long, ek, ea', eb', s1, s2, mod_pos _ 51 (by decide), mod_pos _ 30 (by decide), fdiv_pos _ 7 (by decide) (by decide)]
  · intro e
    have := congrArg List.length e
    rw [List.length_take, wl] at this
    simp only [List.length_nil] at this
    omega
  · exact List.all_eq_true.mpr fun c hc => List.all_eq_true.mp hall c (List.mem_of_mem_take hc)
  · have hl12 : ((cd a ++ cd b ++ cd "zq7xw0bk3rm9v5jhtpd").take 12).length = 12 := by rw [List.length_take, wl]; omega
    have hh : ((cd a ++ cd b ++ cd "zq7xw0bk3rm9v5jhtpd").take 12).headD 0 = (cd a).headD 0 := by
      cases h : cd a with
      | nil => exact absurd h a6
      | cons c r => rfl
    unfold kindL
    rw [hh, a5, if_neg (by decide), if_neg, if_neg (by omega)]
    rw [mem_kwL]
    intro hm
    obtain ⟨s, hs, e⟩ := List.mem_map.mp hm
    have := (kw_vw s hs).2.2.1
    rw [e, hl12] at this
    omega
  · cases h : cd a with
    | nil => exact absurd h a6
    | cons c r =>
      rw [h] at a5
      exact a5
theorem c_token (n : Nat) (L : List String) (hL : L.length = 30) (hp : ∀ s ∈ L, s ∈ poolS) (d a : Int) (hd : 0 ≤ d ∧ d < 1000) : ∃ kd w, call T G (n + 3) k_law_token [.lst (L.map fun s => D.str (q s)), .int d, .int a] = some (.lst [.str kd, .str (st w)], []) ∧ VW kd w ∧ okL w = true ∧ w.length ≤ 12 ∧ kd ≠ q "bad" ∧ PyData.strOk kd = true := by
  rw [call_of T_law_token rfl]
  have f0 : 0 ≤ d / 5 := Int.ediv_nonneg hd.1 (by decide)
  have f1 : d / 5 < 1000 := Int.lt_of_le_of_lt (Int.ediv_le_self _ hd.1) hd.2
  have hk : d % 5 = 0 ∨ d % 5 = 1 ∨ d % 5 = 2 ∨ d % 5 = 3 ∨ d % 5 = 4 := by omega
  rcases hk with h | h | h | h | h
  · have p0 := Int.emod_nonneg (d / 5) (show (30 : Int) ≠ 0 by decide)
    have p1 := Int.emod_lt_of_pos (d / 5) (show (0 : Int) < 30 by decide)
    obtain ⟨b, hb, eb⟩ := at_strs L (d / 5 % 30) p0 (by rw [hL]; exact p1)
    obtain ⟨b1, b2, b3⟩ := pool_vw b (hp b hb)
    refine ⟨q "name", cd b, ?_, b1, b2, by omega, by decide +kernel, by decide +kernel⟩
    have eb' : ixD (.lst (L.map fun s => D.str (q s))) (.int (d / 5 % 30)) = some (.str (st (cd b))) := by rw [← q_st]; exact eb
    simp -implicitDefEqProofs only [bindS, mapS, bindN, mapN, ifD_bl, bind_ite', map_ite', ev_c, ev_var, ev_rd, ev_gl, ev_tup, ev_lst, ev_bin, negD_int, ev_neg, notD_bl, ev_nt, ev_cmp, ev_chain, ev_an, ev_orr, ev_ife, ev_ix, ev_sl, isNo_nohi, isNo_c, isNo_var, isNo_bin, isNo_neg, isNo_bi, isNo_ix, isNo_call, isNo_me, endD_int, noIo_nil, ev_call, noIoL_nil, ev_callb, ev_bi, ev_lc, ev_lcr, evs_nil, evs_cons, shd_sh, own_ow, add_int, sub_int, mod_pos, fdiv_pos, lt_int, le_int, gt_int, ge_int, is_non_non, is_bl_bl, is_int_non, is_str_non, is_tup_non, is_lst_non, is_bl_non, isnot_non_non, isnot_int_non, isnot_str_non, isnot_tup_non, isnot_lst_non, isnot_bl_non, cmp_eq, cmp_ne, eq_int, eq_str, eq_bl, eq_non, eq_int_str, eq_str_int, eq_non_str, eq_str_non, eq_non_int, eq_int_non, len_tup, len_lst, len_fls, abs_int, int_int, int_bl, tuple_lst, tuple_tup, list_lst, list_tup, max_int, min_int, isint_int, isint_bl, isint_str, isint_tup, isint_lst, isint_non, isbool_int, isbool_bl, isbool_str, isbool_tup, isbool_lst, isbool_non, isstr_int, isstr_bl, isstr_str, isstr_tup, isstr_lst, isstr_non, istuple_int, istuple_bl, istuple_str, istuple_tup, istuple_lst, istuple_non, islist_int, islist_bl, islist_str, islist_tup, islist_lst, islist_non, ix_tup, ix_lsts, atI_0, atI_1, atI_2, atI_3, atI_4, atI_5, atI_6, atI_7, atI_8, atI_9, atI_10, atI_11, atI_12, ix_fls, ev_me, sl_lst, sl_tup, cmp_isin, cmp_notin, flat_str, flat_int, flat_bl, flat_non, eqF_str, in_tup, seqO_nx, seqO_rt, seqO_bk, seqO_ct, exs_nil, exs_cons, ex_set, setoD_lst, ex_seto, ex_unp, augD_int, ex_aug, ex_expr, appD_lst, ex_app, mthD_lst, ex_mth, mthxD_lst, ex_mthx, om_clear, om_pop, om_reverse, setsD_lst, ex_sets, ex_ret, ex_reto, ex_retn, ex_iff, ex_whl, ex_for, ex_forr, ex_brk, ex_cnt, ex_pass, ex_share, it_tup, it_lst, it_str, it_fls, tg_one, wipe_one, nxO_nx, nxO_ct, nxO_bk, nxO_rt, forD_nil, lcD_nil, lcD_cons, consO_some, consO_none, ansO_nx, ansO_rt, ansO_ite, sizeLine_lit, pow_lit, toNx_nx, toNx_ct, toNx_ite, toA_some, toA_ite, List.getElem?_cons_zero, List.getElem?_cons_succ, List.getElem?_nil, List.set_cons_zero, List.set_cons_succ, List.set_nil, List.length_cons, List.length_nil, List.length_map, List.length_append, List.length_range, List.length_replicate, List.map_cons, List.map_nil, List.cons_append, List.nil_append, List.append_nil, List.replicate_succ, List.replicate_zero, Nat.reduceAdd, Nat.reduceSub, Nat.reduceMul, Nat.reduceLT, Nat.reduceLeDiff, Nat.reduceEqDiff, Nat.reduceMod, Nat.reduceDiv, Nat.reducePow, Int.reduceAdd, Int.reduceSub, Int.reduceMul, Int.reduceNeg, Int.reduceLT, Int.reduceLE, Int.reduceGT, Int.reduceGE, Int.reduceEq, Int.reduceNe, Int.reduceMod, Int.reduceDiv, Int.reducePow, Int.reduceToNat, Nat.add_zero, Nat.zero_add, Nat.sub_zero, Nat.zero_le, Nat.lt_irrefl, ite_true, ite_false, Bool.not_true, Bool.not_false, Bool.true_and, Bool.false_and, Bool.and_true, Bool.and_false, Bool.true_or, Bool.false_or, Bool.or_true, Bool.or_false, Bool.false_eq_true, Bool.true_eq_false, decide_true, decide_false, decide_eq_true_eq, Bool.not_eq_true', Bool.not_eq_false', decide_eq_false_iff_not, decide_not, not_true_eq_false, not_false_eq_true, and_true, true_and, and_false, false_and, or_true, true_or, or_false, false_or, and_self, or_self, if_true, if_false, reduceCtorEq, Fn.start, Int.cast_ofNat_Int, List.all_cons, List.all_nil, List.any_cons, List.any_nil, f_law_token, h, eb', mod_pos _ 5 (by decide), mod_pos _ 30 (by decide), fdiv_pos _ 5 (by decide) (by decide)]
  · have p0 := Int.emod_nonneg (d / 5) (show (51 : Int) ≠ 0 by decide)
    have p1 := Int.emod_lt_of_pos (d / 5) (show (0 : Int) < 51 by decide)
    obtain ⟨b, hb, eb⟩ := at_strs kwS (d / 5 % 51) p0 (by show _ < (51 : Int); exact p1)
    obtain ⟨b1, b2, b3, _⟩ := kw_vw b hb
    refine ⟨q "keyword", cd b, ?_, b1, b2, by omega, by decide +kernel, by decide +kernel⟩
    have eb' : ixD (.lst (kwS.map fun s => D.str (q s))) (.int (d / 5 % 51)) = some (.str (st (cd b))) := by rw [← q_st]; exact eb
    simp -implicitDefEqProofs only [bindS, mapS, bindN, mapN, ifD_bl, bind_ite', map_ite', ev_c, ev_var, ev_rd, ev_gl, ev_tup, ev_lst, ev_bin, negD_int, ev_neg, notD_bl, ev_nt, ev_cmp, ev_chain, ev_an, ev_orr, ev_ife, ev_ix, ev_sl, isNo_nohi, isNo_c, isNo_var, isNo_bin, isNo_neg, isNo_bi, isNo_ix, isNo_call, isNo_me, endD_int, noIo_nil, ev_call, noIoL_nil, ev_callb, ev_bi, ev_lc, ev_lcr, evs_nil, evs_cons, shd_sh, own_ow, add_int, sub_int, mod_pos, fdiv_pos, lt_int, le_int, gt_int, ge_int, is_non_non, is_bl_bl, is_int_non, is_str_non, is_tup_non, is_lst_non, is_bl_non, isnot_non_non, isnot_int_non, isnot_str_non, isnot_tup_non, isnot_lst_non, isnot_bl_non, cmp_eq, cmp_ne, eq_int, eq_str, eq_bl, eq_non, eq_int_str, eq_str_int, eq_non_str, eq_str_non, eq_non_int, eq_int_non, len_tup, len_lst, len_fls, abs_int, int_int, int_bl, tuple_lst, tuple_tup, list_lst, list_tup, max_int, min_int, isint_int, isint_bl, isint_str, isint_tup, isint_lst, isint_non, isbool_int, isbool_bl, isbool_str, isbool_tup, isbool_lst, isbool_non, isstr_int, isstr_bl, isstr_str, isstr_tup, isstr_lst, isstr_non, istuple_int, istuple_bl, istuple_str, istuple_tup, istuple_lst, istuple_non, islist_int, islist_bl, islist_str, islist_tup, islist_lst, islist_non, ix_tup, ix_lsts, atI_0, atI_1, atI_2, atI_3, atI_4, atI_5, atI_6, atI_7, atI_8, atI_9, atI_10, atI_11, atI_12, ix_fls, ev_me, sl_lst, sl_tup, cmp_isin, cmp_notin, flat_str, flat_int, flat_bl, flat_non, eqF_str, in_tup, seqO_nx, seqO_rt, seqO_bk, seqO_ct, exs_nil, exs_cons, ex_set, setoD_lst, ex_seto, ex_unp, augD_int, ex_aug, ex_expr, appD_lst, ex_app, mthD_lst, ex_mth, mthxD_lst, ex_mthx, om_clear, om_pop, om_reverse, setsD_lst, ex_sets, ex_ret, ex_reto, ex_retn, ex_iff, ex_whl, ex_for, ex_forr, ex_brk, ex_cnt, ex_pass, ex_share, it_tup, it_lst, it_str, it_fls, tg_one, wipe_one, nxO_nx, nxO_ct, nxO_bk, nxO_rt, forD_nil, lcD_nil, lcD_cons, consO_some, consO_none, ansO_nx, ansO_rt, ansO_ite, sizeLine_lit, pow_lit, toNx_nx, toNx_ct, toNx_ite, toA_some, toA_ite, List.getElem?_cons_zero, List.getElem?_cons_succ, List.getElem?_nil, List.set_cons_zero, List.set_cons_succ, List.set_nil, List.length_cons, List.length_nil, List.length_map, List.length_append, List.length_range, List.length_replicate, List.map_cons, List.map_nil, List.cons_append, List.nil_append, List.append_nil, List.replicate_succ, List.replicate_zero, Nat.reduceAdd, Nat.reduceSub, Nat.reduceMul, Nat.reduceLT, Nat.reduceLeDiff, Nat.reduceEqDiff, Nat.reduceMod, Nat.reduceDiv, Nat.reducePow, Int.reduceAdd, Int.reduceSub, Int.reduceMul, Int.reduceNeg, Int.reduceLT, Int.reduceLE, Int.reduceGT, Int.reduceGE, Int.reduceEq, Int.reduceNe, Int.reduceMod, Int.reduceDiv, Int.reducePow, Int.reduceToNat, Nat.add_zero, Nat.zero_add, Nat.sub_zero, Nat.zero_le, Nat.lt_irrefl, ite_true, ite_false, Bool.not_true, Bool.not_false, Bool.true_and, Bool.false_and, Bool.and_true, Bool.and_false, Bool.true_or, Bool.false_or, Bool.or_true, Bool.or_false, Bool.false_eq_true, Bool.true_eq_false, decide_true, decide_false, decide_eq_true_eq, Bool.not_eq_true', Bool.not_eq_false', decide_eq_false_iff_not, decide_not, not_true_eq_false, not_false_eq_true, and_true, true_and, and_false, false_and, or_true, true_or, or_false, false_or, and_self, or_self, if_true, if_false, reduceCtorEq, Fn.start, Int.cast_ofNat_Int, List.all_cons, List.all_nil, List.any_cons, List.any_nil, f_law_token, h, c_keywords (n + 1), eb', mod_pos _ 5 (by decide), mod_pos _ 51 (by decide), fdiv_pos _ 5 (by decide) (by decide)]
  · obtain ⟨m, hm, em⟩ := c_number (n + 1) a (d / 5) ⟨f0, f1⟩
    obtain ⟨b1, b2, b3⟩ := num_vw m hm
    refine ⟨q "number", numL m, ?_, b1, b2, by omega, by decide +kernel, by decide +kernel⟩
    have es : biD .str_ [.int (m : Int)] = some (.str (st (numL m))) := by
      rw [str_int _ (log2_small m hm)]
      congr 2
      exact ext_tl (tl_num m)
    simp -implicitDefEqProofs only [bindS, mapS, bindN, mapN, ifD_bl, bind_ite', map_ite', ev_c, ev_var, ev_rd, ev_gl, ev_tup, ev_lst, ev_bin, negD_int, ev_neg, notD_bl, ev_nt, ev_cmp, ev_chain, ev_an, ev_orr, ev_ife, ev_ix, ev_sl, isNo_nohi, isNo_c, isNo_var, isNo_bin, isNo_neg, isNo_bi, isNo_ix, isNo_call, isNo_me, endD_int, noIo_nil, ev_call, noIoL_nil, ev_callb, ev_bi, ev_lc, ev_lcr, evs_nil, evs_cons, shd_sh, own_ow, add_int, sub_int, mod_pos, fdiv_pos, lt_int, le_int, gt_int, ge_int, is_non_non, is_bl_bl, is_int_non, is_str_non, is_tup_non, is_lst_non, is_bl_non, isnot_non_non, isnot_int_non, isnot_str_non, isnot_tup_non, isnot_lst_non, isnot_bl_non, cmp_eq, cmp_ne, eq_int, eq_str, eq_bl, eq_non, eq_int_str, eq_str_int, eq_non_str, eq_str_non, eq_non_int, eq_int_non, len_tup, len_lst, len_fls, abs_int, int_int, int_bl, tuple_lst, tuple_tup, list_lst, list_tup, max_int, min_int, isint_int, isint_bl, isint_str, isint_tup, isint_lst, isint_non, isbool_int, isbool_bl, isbool_str, isbool_tup, isbool_lst, isbool_non, isstr_int, isstr_bl, isstr_str, isstr_tup, isstr_lst, isstr_non, istuple_int, istuple_bl, istuple_str, istuple_tup, istuple_lst, istuple_non, islist_int, islist_bl, islist_str, islist_tup, islist_lst, islist_non, ix_tup, ix_lsts, atI_0, atI_1, atI_2, atI_3, atI_4, atI_5, atI_6, atI_7, atI_8, atI_9, atI_10, atI_11, atI_12, ix_fls, ev_me, sl_lst, sl_tup, cmp_isin, cmp_notin, flat_str, flat_int, flat_bl, flat_non, eqF_str, in_tup, seqO_nx, seqO_rt, seqO_bk, seqO_ct, exs_nil, exs_cons, ex_set, setoD_lst, ex_seto, ex_unp, augD_int, ex_aug, ex_expr, appD_lst, ex_app, mthD_lst, ex_mth, mthxD_lst, ex_mthx, om_clear, om_pop, om_reverse, setsD_lst, ex_sets, ex_ret, ex_reto, ex_retn, ex_iff, ex_whl, ex_for, ex_forr, ex_brk, ex_cnt, ex_pass, ex_share, it_tup, it_lst, it_str, it_fls, tg_one, wipe_one, nxO_nx, nxO_ct, nxO_bk, nxO_rt, forD_nil, lcD_nil, lcD_cons, consO_some, consO_none, ansO_nx, ansO_rt, ansO_ite, sizeLine_lit, pow_lit, toNx_nx, toNx_ct, toNx_ite, toA_some, toA_ite, List.getElem?_cons_zero, List.getElem?_cons_succ, List.getElem?_nil, List.set_cons_zero, List.set_cons_succ, List.set_nil, List.length_cons, List.length_nil, List.length_map, List.length_append, List.length_range, List.length_replicate, List.map_cons, List.map_nil, List.cons_append, List.nil_append, List.append_nil, List.replicate_succ, List.replicate_zero, Nat.reduceAdd, Nat.reduceSub, Nat.reduceMul, Nat.reduceLT, Nat.reduceLeDiff, Nat.reduceEqDiff, Nat.reduceMod, Nat.reduceDiv, Nat.reducePow, Int.reduceAdd, Int.reduceSub, Int.reduceMul, Int.reduceNeg, Int.reduceLT, Int.reduceLE, Int.reduceGT, Int.reduceGE, Int.reduceEq, Int.reduceNe, Int.reduceMod, Int.reduceDiv, Int.reducePow, Int.reduceToNat, Nat.add_zero, Nat.zero_add, Nat.sub_zero, Nat.zero_le, Nat.lt_irrefl, ite_true, ite_false, Bool.not_true, Bool.not_false, Bool.true_and, Bool.false_and, Bool.and_true, Bool.and_false, Bool.true_or, Bool.false_or, Bool.or_true, Bool.or_false, Bool.false_eq_true, Bool.true_eq_false, decide_true, decide_false, decide_eq_true_eq, Bool.not_eq_true', Bool.not_eq_false', decide_eq_false_iff_not, decide_not, not_true_eq_false, not_false_eq_true, and_true, true_and, and_false, false_and, or_true, true_or, or_false, false_or, and_self, or_self, if_true, if_false, reduceCtorEq, Fn.start, Int.cast_ofNat_Int, List.all_cons, List.all_nil, List.any_cons, List.any_nil, f_law_token, h, em, es, mod_pos _ 5 (by decide), fdiv_pos _ 5 (by decide) (by decide)]
  · have p0 := Int.emod_nonneg (d / 5) (show (18 : Int) ≠ 0 by decide)
    have p1 := Int.emod_lt_of_pos (d / 5) (show (0 : Int) < 18 by decide)
    obtain ⟨b, hb, eb⟩ := at_strs sgS (d / 5 % 18) p0 (by show _ < (18 : Int); exact p1)
    obtain ⟨b1, b2, b3⟩ := sg_vw b hb
    refine ⟨q "sign", cd b, ?_, b1, b2, by omega, by decide +kernel, by decide +kernel⟩
    have eb' : ixD (.lst (sgS.map fun s => D.str (q s))) (.int (d / 5 % 18)) = some (.str (st (cd b))) := by rw [← q_st]; exact eb
    simp -implicitDefEqProofs only [bindS, mapS, bindN, mapN, ifD_bl, bind_ite', map_ite', ev_c, ev_var, ev_rd, ev_gl, ev_tup, ev_lst, ev_bin, negD_int, ev_neg, notD_bl, ev_nt, ev_cmp, ev_chain, ev_an, ev_orr, ev_ife, ev_ix, ev_sl, isNo_nohi, isNo_c, isNo_var, isNo_bin, isNo_neg, isNo_bi, isNo_ix, isNo_call, isNo_me, endD_int, noIo_nil, ev_call, noIoL_nil, ev_callb, ev_bi, ev_lc, ev_lcr, evs_nil, evs_cons, shd_sh, own_ow, add_int, sub_int, mod_pos, fdiv_pos, lt_int, le_int, gt_int, ge_int, is_non_non, is_bl_bl, is_int_non, is_str_non, is_tup_non, is_lst_non, is_bl_non, isnot_non_non, isnot_int_non, isnot_str_non, isnot_tup_non, isnot_lst_non, isnot_bl_non, cmp_eq, cmp_ne, eq_int, eq_str, eq_bl, eq_non, eq_int_str, eq_str_int, eq_non_str, eq_str_non, eq_non_int, eq_int_non, len_tup, len_lst, len_fls, abs_int, int_int, int_bl, tuple_lst, tuple_tup, list_lst, list_tup, max_int, min_int, isint_int, isint_bl, isint_str, isint_tup, isint_lst, isint_non, isbool_int, isbool_bl, isbool_str, isbool_tup, isbool_lst, isbool_non, isstr_int, isstr_bl, isstr_str, isstr_tup, isstr_lst, isstr_non, istuple_int, istuple_bl, istuple_str, istuple_tup, istuple_lst, istuple_non, islist_int, islist_bl, islist_str, islist_tup, islist_lst, islist_non, ix_tup, ix_lsts, atI_0, atI_1, atI_2, atI_3, atI_4, atI_5, atI_6, atI_7, atI_8, atI_9, atI_10, atI_11, atI_12, ix_fls, ev_me, sl_lst, sl_tup, cmp_isin, cmp_notin, flat_str, flat_int, flat_bl, flat_non, eqF_str, in_tup, seqO_nx, seqO_rt, seqO_bk, seqO_ct, exs_nil, exs_cons, ex_set, setoD_lst, ex_seto, ex_unp, augD_int, ex_aug, ex_expr, appD_lst, ex_app, mthD_lst, ex_mth, mthxD_lst, ex_mthx, om_clear, om_pop, om_reverse, setsD_lst, ex_sets, ex_ret, ex_reto, ex_retn, ex_iff, ex_whl, ex_for, ex_forr, ex_brk, ex_cnt, ex_pass, ex_share, it_tup, it_lst, it_str, it_fls, tg_one, wipe_one, nxO_nx, nxO_ct, nxO_bk, nxO_rt, forD_nil, lcD_nil, lcD_cons, consO_some, consO_none, ansO_nx, ansO_rt, ansO_ite, sizeLine_lit, pow_lit, toNx_nx, toNx_ct, toNx_ite, toA_some, toA_ite, List.getElem?_cons_zero, List.getElem?_cons_succ, List.getElem?_nil, List.set_cons_zero, List.set_cons_succ, List.set_nil, List.length_cons, List.length_nil, List.length_map, List.length_append, List.length_range, List.length_replicate, List.map_cons, List.map_nil, List.cons_append, List.nil_append, List.append_nil, List.replicate_succ, List.replicate_zero, Nat.reduceAdd, Nat.reduceSub, Nat.reduceMul, Nat.reduceLT, Nat.reduceLeDiff, Nat.reduceEqDiff, Nat.reduceMod, Nat.reduceDiv, Nat.reducePow, Int.reduceAdd, Int.reduceSub, Int.reduceMul, Int.reduceNeg, Int.reduceLT, Int.reduceLE, Int.reduceGT, Int.reduceGE, Int.reduceEq, Int.reduceNe, Int.reduceMod, Int.reduceDiv, Int.reducePow, Int.reduceToNat, Nat.add_zero, Nat.zero_add, Nat.sub_zero, Nat.zero_le, Nat.lt_irrefl, ite_true, ite_false, Bool.not_true, Bool.not_false, Bool.true_and, Bool.false_and, Bool.and_true, Bool.and_false, Bool.true_or, Bool.false_or, Bool.or_true, Bool.or_false, Bool.false_eq_true, Bool.true_eq_false, decide_true, decide_false, decide_eq_true_eq, Bool.not_eq_true', Bool.not_eq_false', decide_eq_false_iff_not, decide_not, not_true_eq_false, not_false_eq_true, and_true, true_and, and_false, false_and, or_true, true_or, or_false, false_or, and_self, or_self, if_true, if_false, reduceCtorEq, Fn.start, Int.cast_ofNat_Int, List.all_cons, List.all_nil, List.any_cons, List.any_nil, f_law_token, h, c_signs (n + 1), eb', mod_pos _ 5 (by decide), mod_pos _ 18 (by decide), fdiv_pos _ 5 (by decide) (by decide)]
  · obtain ⟨w, ew, w1, w2, w3, _⟩ := c_long n L hL hp (d / 5) ⟨f0, f1⟩
    refine ⟨q "name", w.take 12, ?_, w1, w2, by rw [List.length_take]; omega, by decide +kernel, by decide +kernel⟩
    have es : slD (.str (st w)) none (some 12) = some (.str (st (w.take 12))) := by
      rw [sl_st w _ _ (by omega)]
      have e1 : HT.sIx w.length 0 none = 0 := rfl
      have e2 : HT.sIx w.length w.length (some 12) = min 12 w.length := sIx_nat w.length w.length 12
      rw [e1, e2, List.drop_zero, Nat.sub_zero]
      congr 3
      by_cases hw : 12 ≤ w.length
      · rw [Nat.min_eq_left hw]
      · rw [Nat.min_eq_right (by omega), List.take_length, List.take_of_length_le (by omega)]
    simp -implicitDefEqProofs only [bindS, mapS, bindN, mapN, ifD_bl, bind_ite', map_ite', ev_c, ev_var, ev_rd, ev_gl, ev_tup, ev_lst, ev_bin, negD_int, ev_neg, notD_bl, ev_nt, ev_cmp, ev_chain, ev_an, ev_orr, ev_ife, ev_ix, ev_sl, isNo_nohi, isNo_c, isNo_var, isNo_bin, isNo_neg, isNo_bi, isNo_ix, isNo_call, isNo_me, endD_int, noIo_nil, ev_call, noIoL_nil, ev_callb, ev_bi, ev_lc, ev_lcr, evs_nil, evs_cons, shd_sh, own_ow, add_int, sub_int, mod_pos, fdiv_pos, lt_int, le_int, gt_int, ge_int, is_non_non, is_bl_bl, is_int_non, is_str_non, is_tup_non, is_lst_non, is_bl_non, isnot_non_non, isnot_int_non, isnot_str_non, isnot_tup_non, isnot_lst_non, isnot_bl_non, cmp_eq, cmp_ne, eq_int, eq_str, eq_bl, eq_non, eq_int_str, eq_str_int, eq_non_str, eq_str_non, eq_non_int, eq_int_non, len_tup, len_lst, len_fls, abs_int, int_int, int_bl, tuple_lst, tuple_tup, list_lst, list_tup, max_int, min_int, isint_int, isint_bl, isint_str, isint_tup, isint_lst, isint_non, isbool_int, isbool_bl, isbool_str, isbool_tup, isbool_lst, isbool_non, isstr_int, isstr_bl, isstr_str, isstr_tup, isstr_lst, isstr_non, istuple_int, istuple_bl, istuple_str, istuple_tup, istuple_lst, istuple_non, islist_int, islist_bl, islist_str, islist_tup, islist_lst, islist_non, ix_tup, ix_lsts, atI_0, atI_1, atI_2, atI_3, atI_4, atI_5, atI_6, atI_7, atI_8, atI_9, atI_10, atI_11, atI_12, ix_fls, ev_me, sl_lst, sl_tup, cmp_isin, cmp_notin, flat_str, flat_int, flat_bl, flat_non, eqF_str, in_tup, seqO_nx, seqO_rt, seqO_bk, seqO_ct, exs_nil, exs_cons, ex_set, setoD_lst, ex_seto, ex_unp, augD_int, ex_aug, ex_expr, appD_lst, ex_app, mthD_lst, ex_mth, mthxD_lst, ex_mthx, om_clear, om_pop, om_reverse, setsD_lst, ex_sets, ex_ret, ex_reto, ex_retn, ex_iff, ex_whl, ex_for, ex_forr, ex_brk, ex_cnt, ex_pass, ex_share, it_tup, it_lst, it_str, it_fls, tg_one, wipe_one, nxO_nx, nxO_ct, nxO_bk, nxO_rt, forD_nil, lcD_nil, lcD_cons, consO_some, consO_none, ansO_nx, ansO_rt, ansO_ite, sizeLine_lit, pow_lit, toNx_nx, toNx_ct, toNx_ite, toA_some, toA_ite, List.getElem?_cons_zero, List.getElem?_cons_succ, List.getElem?_nil, List.set_cons_zero, List.set_cons_succ, List.set_nil, List.length_cons, List.length_nil, List.length_map, List.length_append, List.length_range, List.length_replicate, List.map_cons, List.map_nil, List.cons_append, List.nil_append, List.append_nil, List.replicate_succ, List.replicate_zero, Nat.reduceAdd, Nat.reduceSub, Nat.reduceMul, Nat.reduceLT, Nat.reduceLeDiff, Nat.reduceEqDiff, Nat.reduceMod, Nat.reduceDiv, Nat.reducePow, Int.reduceAdd, Int.reduceSub, Int.reduceMul, Int.reduceNeg, Int.reduceLT, Int.reduceLE, Int.reduceGT, Int.reduceGE, Int.reduceEq, Int.reduceNe, Int.reduceMod, Int.reduceDiv, Int.reducePow, Int.reduceToNat, Nat.add_zero, Nat.zero_add, Nat.sub_zero, Nat.zero_le, Nat.lt_irrefl, ite_true, ite_false, Bool.not_true, Bool.not_false, Bool.true_and, Bool.false_and, Bool.and_true, Bool.and_false, Bool.true_or, Bool.false_or, Bool.or_true, Bool.or_false, Bool.false_eq_true, Bool.true_eq_false, decide_true, decide_false, decide_eq_true_eq, Bool.not_eq_true', Bool.not_eq_false', decide_eq_false_iff_not, decide_not, not_true_eq_false, not_false_eq_true, and_true, true_and, and_false, false_and, or_true, true_or, or_false, false_or, and_self, or_self, if_true, if_false, reduceCtorEq, Fn.start, Int.cast_ofNat_Int, List.all_cons, List.all_nil, List.any_cons, List.any_nil, f_law_token, h, ew, es, mod_pos _ 5 (by decide), fdiv_pos _ 5 (by decide) (by decide)]
end LW

namespace LW
open PySem PL TL
/-! gaps -/
def rmS : List Nat := cd " !\"#$&'()*+,-./0123456789:;<=>?@ABCDEFGHIJKLMNOPQRSTUVWXYZ[\\]^_`abcdefghijklmnopqrstuvwxyz{|}~\t"
theorem rm_ok : okL rmS = true ∧ 10 ∉ rmS ∧ rmS.length = 95 := by decide +kernel
theorem c_remark (n : Nat) (d : Int) (hd : 0 ≤ d ∧ d < 1000) : ∃ b : List Nat, call T G (n + 1) k_law_remark [.int d] = some (.str (st (35 :: b)), []) ∧ 10 ∉ b ∧ okL b = true ∧ b.length ≤ 7 := by
  rw [call_of T_law_remark rfl]
  obtain ⟨r1, r2, r3⟩ := rm_ok
  have m0 := Int.emod_nonneg d (show (95 : Int) ≠ 0 by decide)
  have m1 := Int.emod_lt_of_pos d (show (0 : Int) < 95 by decide)
  have p0 := Int.emod_nonneg (d / 95) (show (8 : Int) ≠ 0 by decide)
  have p1 := Int.emod_lt_of_pos (d / 95) (show (0 : Int) < 8 by decide)
  obtain ⟨i, hi⟩ := Int.eq_ofNat_of_zero_le m0
  obtain ⟨j, hj⟩ := Int.eq_ofNat_of_zero_le p0
  rw [hi] at m1
  rw [hj] at p1
  have hs : slD (.str (st rmS)) (some (i : Int)) (some ((i : Int) + (j : Int))) = some (.str (st ((rmS.drop i).take (min (i + j) rmS.length - i)))) := by
    rw [sl_st rmS _ _ (by omega), show ((i : Int) + (j : Int)) = ((i + j : Nat) : Int) by omega, sIx_nat, sIx_nat, Nat.min_eq_left (show i ≤ rmS.length by omega)]
  refine ⟨(rmS.drop i).take (min (i + j) rmS.length - i), ?_, fun h => r2 (List.mem_of_mem_drop (List.mem_of_mem_take h)), ok_sub r1 fun x hx => List.mem_of_mem_drop (List.mem_of_mem_take hx), by rw [List.length_take]; omega⟩
  have ha : binD .add (.str (st [35])) (.str (st ((rmS.drop i).take (min (i + j) rmS.length - i)))) = some (.str (st (35 :: (rmS.drop i).take (min (i + j) rmS.length - i)))) := by
    rw [add_str _ _ (by rw [st_len, st_len, sizeLine_lit, List.length_take]; simp only [List.length_cons, List.length_nil]; omega), st_app]
    rfl
  rw [show f_law_remark = ⟨(q "_law_remark"), [(q "_law_draw"), (q "_law_chars"), (q "_law_first")], 1, [], true, [
    .set 1 (.c (.str (q " !\"#$&'()*+,-./0123456789:;<=>?@ABCDEFGHIJKLMNOPQRSTUVWXYZ[\\]^_`abcdefghijklmnopqrstuvwxyz{|}~\t"))),
    .set 2 (.bin .mod (.bi .int_ [(.var 0)]) (.c (.int 95))),
    .ret (.bin .add (.c (.str (q "#"))) (.sl (.var 1) (.var 2) (.bin .add (.var 2) (.bin .mod (.bi .int_ [(.bin .fdiv (.var 0) (.c (.int 95)))]) (.c (.int 8))))))]⟩ from rfl, q_st " !\"#$&'()*+,-./0123456789:;<=>?@ABCDEFGHIJKLMNOPQRSTUVWXYZ[\\]^_`abcdefghijklmnopqrstuvwxyz{|}~\t"]
  rw [show cd " !\"#$&'()*+,-./0123456789:;<=>?@ABCDEFGHIJKLMNOPQRSTUVWXYZ[\\]^_`abcdefghijklmnopqrstuvwxyz{|}~\t" = rmS from rfl]
  simp -implicitDefEqProofs only [bindS, mapS, bindN, mapN, ifD_bl, bind_ite', map_ite', ev_c, ev_var, ev_rd, ev_gl, ev_tup, ev_lst, ev_bin, negD_int, ev_neg, notD_bl, ev_nt, ev_cmp, ev_chain, ev_an, ev_orr, ev_ife, ev_ix, ev_sl, isNo_nohi, isNo_c, isNo_var, isNo_bin, isNo_neg, isNo_bi, isNo_ix, isNo_call, isNo_me, endD_int, noIo_nil, ev_call, noIoL_nil, ev_callb, ev_bi, ev_lc, ev_lcr, evs_nil, evs_cons, shd_sh, own_ow, add_int, sub_int, mod_pos, fdiv_pos, lt_int, le_int, gt_int, ge_int, is_non_non, is_bl_bl, is_int_non, is_str_non, is_tup_non, is_lst_non, is_bl_non, isnot_non_non, isnot_int_non, isnot_str_non, isnot_tup_non, isnot_lst_non, isnot_bl_non, cmp_eq, cmp_ne, eq_int, eq_str, eq_bl, eq_non, eq_int_str, eq_str_int, eq_non_str, eq_str_non, eq_non_int, eq_int_non, len_tup, len_lst, len_fls, abs_int, int_int, int_bl, tuple_lst, tuple_tup, list_lst, list_tup, max_int, min_int, isint_int, isint_bl, isint_str, isint_tup, isint_lst, isint_non, isbool_int, isbool_bl, isbool_str, isbool_tup, isbool_lst, isbool_non, isstr_int, isstr_bl, isstr_str, isstr_tup, isstr_lst, isstr_non, istuple_int, istuple_bl, istuple_str, istuple_tup, istuple_lst, istuple_non, islist_int, islist_bl, islist_str, islist_tup, islist_lst, islist_non, ix_tup, ix_lsts, atI_0, atI_1, atI_2, atI_3, atI_4, atI_5, atI_6, atI_7, atI_8, atI_9, atI_10, atI_11, atI_12, ix_fls, ev_me, sl_lst, sl_tup, cmp_isin, cmp_notin, flat_str, flat_int, flat_bl, flat_non, eqF_str, in_tup, seqO_nx, seqO_rt, seqO_bk, seqO_ct, exs_nil, exs_cons, ex_set, setoD_lst, ex_seto, ex_unp, augD_int, ex_aug, ex_expr, appD_lst, ex_app, mthD_lst, ex_mth, mthxD_lst, ex_mthx, om_clear, om_pop, om_reverse, setsD_lst, ex_sets, ex_ret, ex_reto, ex_retn, ex_iff, ex_whl, ex_for, ex_forr, ex_brk, ex_cnt, ex_pass, ex_share, it_tup, it_lst, it_str, it_fls, tg_one, wipe_one, nxO_nx, nxO_ct, nxO_bk, nxO_rt, forD_nil, lcD_nil, lcD_cons, consO_some, consO_none, ansO_nx, ansO_rt, ansO_ite, sizeLine_lit, pow_lit, toNx_nx, toNx_ct, toNx_ite, toA_some, toA_ite, List.getElem?_cons_zero, List.getElem?_cons_succ, List.getElem?_nil, List.set_cons_zero, List.set_cons_succ, List.set_nil, List.length_cons, List.length_nil, List.length_map, List.length_append, List.length_range, List.length_replicate, List.map_cons, List.map_nil, List.cons_append, List.nil_append, List.append_nil, List.replicate_succ, List.replicate_zero, Nat.reduceAdd, Nat.reduceSub, Nat.reduceMul, Nat.reduceLT, Nat.reduceLeDiff, Nat.reduceEqDiff, Nat.reduceMod, Nat.reduceDiv, Nat.reducePow, Int.reduceAdd, Int.reduceSub, Int.reduceMul, Int.reduceNeg, Int.reduceLT, Int.reduceLE, Int.reduceGT, Int.reduceGE, Int.reduceEq, Int.reduceNe, Int.reduceMod, Int.reduceDiv, Int.reducePow, Int.reduceToNat, Nat.add_zero, Nat.zero_add, Nat.sub_zero, Nat.zero_le, Nat.lt_irrefl, ite_true, ite_false, Bool.not_true, Bool.not_false, Bool.true_and, Bool.false_and, Bool.and_true, Bool.and_false, Bool.true_or, Bool.false_or, Bool.or_true, Bool.or_false, Bool.false_eq_true, Bool.true_eq_false, decide_true, decide_false, decide_eq_true_eq, Bool.not_eq_true', Bool.not_eq_false', decide_eq_false_iff_not, decide_not, not_true_eq_false, not_false_eq_true, and_true, true_and, and_false, false_and, or_true, true_or, or_false, false_or, and_self, or_self, if_true, if_false, reduceCtorEq, Fn.start, Int.cast_ofNat_Int, List.all_cons, List.all_nil, List.any_cons, List.any_nil, hi, hj, hs, q_hash, ha, mod_pos _ 95 (by decide), mod_pos _ 8 (by decide), fdiv_pos _ 95 (by decide) (by decide)]
theorem gap_sub {g : List Nat} : Gap g → Gap g := id
theorem c_gap (n : Nat) (a d : Int) (hd : 0 ≤ d ∧ d < 1000) : ∃ g : List Nat, call T G (n + 2) k_law_gap [.int a, .int d] = some (.str (st g), []) ∧ Gap g ∧ okL g = true ∧ g.length ≤ 20 := by
  rw [call_of T_law_gap rfl]
  obtain ⟨b, e1, h1, h2, h3⟩ := c_remark n d hd
  have m0 := Int.emod_nonneg a (show (9 : Int) ≠ 0 by decide)
  have m1 := Int.emod_lt_of_pos a (show (0 : Int) < 9 by decide)
  have a1 : binD .add (.str (st (35 :: b))) (.str (q "\n")) = some (.str (st (35 :: (b ++ [10])))) := by
    rw [q_nl, add_str _ _ (by rw [st_len, st_len, sizeLine_lit]; simp only [List.length_cons, List.length_nil]; omega), st_app]
    rfl
  have a2 : binD .add (.str (st (35 :: b))) (.str (q "\n  ")) = some (.str (st (35 :: (b ++ [10, 32, 32])))) := by
    rw [show q "\n  " = st [10, 32, 32] by decide +kernel, add_str _ _ (by rw [st_len, st_len, sizeLine_lit]; simp only [List.length_cons, List.length_nil]; omega), st_app]
    rfl
  have ok1 : ∀ l : List Nat, okL l = true → okL (35 :: (b ++ l)) = true := fun l hl => by
    unfold okL at *
    rw [List.all_cons, List.all_append, h2, hl]
    rfl
  obtain ⟨y, hy, ey⟩ := atI_in [D.str (q ""), .str (q " "), .str (q "  "), .str (q "\n"), .str (q " # a;= !\n"), .str (q "#\n"), .str (q "\n\n"), .str (st (35 :: (b ++ [10]))), .str (st (35 :: (b ++ [10, 32, 32])))] (a % 9) m0 (by simp only [List.length_cons, List.length_nil]; omega)
  have yy : ∃ g : List Nat, y = .str (st g) ∧ Gap g ∧ okL g = true ∧ g.length ≤ 20 := by
    simp only [List.mem_cons, List.not_mem_nil, or_false] at hy
    rcases hy with rfl | rfl | rfl | rfl | rfl | rfl | rfl | rfl | rfl
    · exact ⟨[], by rw [q_empty], .nil, by decide, by decide⟩
    · exact ⟨[32], by rw [q_sp], .sp .nil, by decide, by decide⟩
    · exact ⟨[32, 32], by rw [show q "  " = st [32, 32] by decide +kernel], .sp (.sp .nil), by decide, by decide⟩
    · exact ⟨[10], by rw [q_nl], .nl .nil, by decide, by decide⟩
    · exact ⟨[32, 35, 32, 97, 59, 61, 32, 33, 10], by rw [show q " # a;= !\n" = st [32, 35, 32, 97, 59, 61, 32, 33, 10] by decide +kernel], .sp (Gap.com (b := [32, 97, 59, 61, 32, 33]) (g := []) (by decide) .nil), by decide, by decide⟩
    · exact ⟨[35, 10], by rw [show q "#\n" = st [35, 10] by decide +kernel], Gap.com (b := []) (g := []) (by decide) .nil, by decide, by decide⟩
    · exact ⟨[10, 10], by rw [show q "\n\n" = st [10, 10] by decide +kernel], .nl (.nl .nil), by decide, by decide⟩
    · exact ⟨_, rfl, .com h1 .nil, ok1 _ (by decide), by simp only [List.length_cons, List.length_append, List.length_nil]; omega⟩
    · exact ⟨_, rfl, .com h1 (.sp (.sp .nil)), ok1 _ (by decide), by simp only [List.length_cons, List.length_append, List.length_nil]; omega⟩
  obtain ⟨g, rfl, g1, g2, g3⟩ := yy
  refine ⟨g, ?_, g1, g2, g3⟩
  simp -implicitDefEqProofs only [bindS, mapS, bindN, mapN, ifD_bl, bind_ite', map_ite', ev_c, ev_var, ev_rd, ev_gl, ev_tup, ev_lst, ev_bin, negD_int, ev_neg, notD_bl, ev_nt, ev_cmp, ev_chain, ev_an, ev_orr, ev_ife, ev_ix, ev_sl, isNo_nohi, isNo_c, isNo_var, isNo_bin, isNo_neg, isNo_bi, isNo_ix, isNo_call, isNo_me, endD_int, noIo_nil, ev_call, noIoL_nil, ev_callb, ev_bi, ev_lc, ev_lcr, evs_nil, evs_cons, shd_sh, own_ow, add_int, sub_int, mod_pos, fdiv_pos, lt_int, le_int, gt_int, ge_int, is_non_non, is_bl_bl, is_int_non, is_str_non, is_tup_non, is_lst_non, is_bl_non, isnot_non_non, isnot_int_non, isnot_str_non, isnot_tup_non, isnot_lst_non, isnot_bl_non, cmp_eq, cmp_ne, eq_int, eq_str, eq_bl, eq_non, eq_int_str, eq_str_int, eq_non_str, eq_str_non, eq_non_int, eq_int_non, len_tup, len_lst, len_fls, abs_int, int_int, int_bl, tuple_lst, tuple_tup, list_lst, list_tup, max_int, min_int, isint_int, isint_bl, isint_str, isint_tup, isint_lst, isint_non, isbool_int, isbool_bl, isbool_str, isbool_tup, isbool_lst, isbool_non, isstr_int, isstr_bl, isstr_str, isstr_tup, isstr_lst, isstr_non, istuple_int, istuple_bl, istuple_str, istuple_tup, istuple_lst, istuple_non, islist_int, islist_bl, islist_str, islist_tup, islist_lst, islist_non, ix_tup, ix_lsts, atI_0, atI_1, atI_2, atI_3, atI_4, atI_5, atI_6, atI_7, atI_8, atI_9, atI_10, atI_11, atI_12, ix_fls, ev_me, sl_lst, sl_tup, cmp_isin, cmp_notin, flat_str, flat_int, flat_bl, flat_non, eqF_str, in_tup, seqO_nx, seqO_rt, seqO_bk, seqO_ct, exs_nil, exs_cons, ex_set, setoD_lst, ex_seto, ex_unp, augD_int, ex_aug, ex_expr, appD_lst, ex_app, mthD_lst, ex_mth, mthxD_lst, ex_mthx, om_clear, om_pop, om_reverse, setsD_lst, ex_sets, ex_ret, ex_reto, ex_retn, ex_iff, ex_whl, ex_for, ex_forr, ex_brk, ex_cnt, ex_pass, ex_share, it_tup, it_lst, it_str, it_fls, tg_one, wipe_one, nxO_nx, nxO_ct, nxO_bk, nxO_rt, forD_nil, lcD_nil, lcD_cons, consO_some, consO_none, ansO_nx, ansO_rt, ansO_ite, sizeLine_lit, pow_lit, toNx_nx, toNx_ct, toNx_ite, toA_some, toA_ite, List.getElem?_cons_zero, List.getElem?_cons_succ, List.getElem?_nil, List.set_cons_zero, List.set_cons_succ, List.set_nil, List.length_cons, List.length_nil, List.length_map, List.length_append, List.length_range, List.length_replicate, List.map_cons, List.map_nil, List.cons_append, List.nil_append, List.append_nil, List.replicate_succ, List.replicate_zero, Nat.reduceAdd, Nat.reduceSub, Nat.reduceMul, Nat.reduceLT, Nat.reduceLeDiff, Nat.reduceEqDiff, Nat.reduceMod, Nat.reduceDiv, Nat.reducePow, Int.reduceAdd, Int.reduceSub, Int.reduceMul, Int.reduceNeg, Int.reduceLT, Int.reduceLE, Int.reduceGT, Int.reduceGE, Int.reduceEq, Int.reduceNe, Int.reduceMod, Int.reduceDiv, Int.reducePow, Int.reduceToNat, Nat.add_zero, Nat.zero_add, Nat.sub_zero, Nat.zero_le, Nat.lt_irrefl, ite_true, ite_false, Bool.not_true, Bool.not_false, Bool.true_and, Bool.false_and, Bool.and_true, Bool.and_false, Bool.true_or, Bool.false_or, Bool.or_true, Bool.or_false, Bool.false_eq_true, Bool.true_eq_false, decide_true, decide_false, decide_eq_true_eq, Bool.not_eq_true', Bool.not_eq_false', decide_eq_false_iff_not, decide_not, not_true_eq_false, not_false_eq_true, and_true, true_and, and_false, false_and, or_true, true_or, or_false, false_or, and_self, or_self, if_true, if_false, reduceCtorEq, Fn.start, Int.cast_ofNat_Int, List.all_cons, List.all_nil, List.any_cons, List.any_nil, f_law_gap, e1, a1, a2, ey, mod_pos _ 9 (by decide)]
/-! joined -/
theorem q_run : q "abcdefghijklmnopqrstuvwxyz0123456789" = st (lowL ++ digL) := by decide +kernel
theorem run_mem (c : Nat) : decide (c ∈ lowL ++ digL) = isRun c := by
  unfold isRun
  rw [← low_mem, ← dig_mem, ← Bool.decide_or]
  exact decide_eq_decide.mpr List.mem_append
theorem in4 (b : List Nat) : inD (.str (st b)) (.lst [.str (st [61]), .str (st [60]), .str (st [62]), .str (st [33])]) = some (decide (b ∈ [[61], [60], [62], [33]])) := by
  simp only [inD, flatD, List.all_cons, List.all_nil, Bool.and_true, Bool.and_self, if_true, List.any_cons, List.any_nil, eqF_str, st_inj, Bool.or_false, List.mem_cons, List.not_mem_nil, or_false, ← Bool.decide_or, eq_comm (a := b)]
theorem c_joined (n : Nat) (b w : List Nat) (hb : b.length < 1000) (hw : w.length < 1000) (hw0 : w ≠ []) : ∃ j : Bool, call T G (n + 1) k_law_joined [.str (st b), .str (st w)] = some (.bl j, []) ∧ (b ≠ [] → j = false → ∀ l, Ok b (w ++ l)) := by
  rw [call_of T_law_joined rfl]
  have hw0' : (w = []) = False := eq_false hw0
  obtain ⟨c, r, rfl⟩ : ∃ c r, w = c :: r := by
    cases w with
    | nil => exact absurd rfl hw0
    | cons c r => exact ⟨c, r, rfl⟩
  have i2 := ix_st (c :: r) 0 c rfl (by omega)
  rw [Int.cast_ofNat_Int] at i2
  cases hbn : b with
  | nil =>
    refine ⟨false, ?_, fun h => absurd rfl h⟩
    simp -implicitDefEqProofs only [bindS, mapS, bindN, mapN, ifD_bl, bind_ite', map_ite', ev_c, ev_var, ev_rd, ev_gl, ev_tup, ev_lst, ev_bin, negD_int, ev_neg, notD_bl, ev_nt, ev_cmp, ev_chain, ev_an, ev_orr, ev_ife, ev_ix, ev_sl, isNo_nohi, isNo_c, isNo_var, isNo_bin, isNo_neg, isNo_bi, isNo_ix, isNo_call, isNo_me, endD_int, noIo_nil, ev_call, noIoL_nil, ev_callb, ev_bi, ev_lc, ev_lcr, evs_nil, evs_cons, shd_sh, own_ow, add_int, sub_int, mod_pos, fdiv_pos, lt_int, le_int, gt_int, ge_int, is_non_non, is_bl_bl, is_int_non, is_str_non, is_tup_non, is_lst_non, is_bl_non, isnot_non_non, isnot_int_non, isnot_str_non, isnot_tup_non, isnot_lst_non, isnot_bl_non, cmp_eq, cmp_ne, eq_int, eq_str, eq_bl, eq_non, eq_int_str, eq_str_int, eq_non_str, eq_str_non, eq_non_int, eq_int_non, len_tup, len_lst, len_fls, abs_int, int_int, int_bl, tuple_lst, tuple_tup, list_lst, list_tup, max_int, min_int, isint_int, isint_bl, isint_str, isint_tup, isint_lst, isint_non, isbool_int, isbool_bl, isbool_str, isbool_tup, isbool_lst, isbool_non, isstr_int, isstr_bl, isstr_str, isstr_tup, isstr_lst, isstr_non, istuple_int, istuple_bl, istuple_str, istuple_tup, istuple_lst, istuple_non, islist_int, islist_bl, islist_str, islist_tup, islist_lst, islist_non, ix_tup, ix_lsts, atI_0, atI_1, atI_2, atI_3, atI_4, atI_5, atI_6, atI_7, atI_8, atI_9, atI_10, atI_11, atI_12, ix_fls, ev_me, sl_lst, sl_tup, cmp_isin, cmp_notin, flat_str, flat_int, flat_bl, flat_non, eqF_str, in_tup, seqO_nx, seqO_rt, seqO_bk, seqO_ct, exs_nil, exs_cons, ex_set, setoD_lst, ex_seto, ex_unp, augD_int, ex_aug, ex_expr, appD_lst, ex_app, mthD_lst, ex_mth, mthxD_lst, ex_mthx, om_clear, om_pop, om_reverse, setsD_lst, ex_sets, ex_ret, ex_reto, ex_retn, ex_iff, ex_whl, ex_for, ex_forr, ex_brk, ex_cnt, ex_pass, ex_share, it_tup, it_lst, it_str, it_fls, tg_one, wipe_one, nxO_nx, nxO_ct, nxO_bk, nxO_rt, forD_nil, lcD_nil, lcD_cons, consO_some, consO_none, ansO_nx, ansO_rt, ansO_ite, sizeLine_lit, pow_lit, toNx_nx, toNx_ct, toNx_ite, toA_some, toA_ite, List.getElem?_cons_zero, List.getElem?_cons_succ, List.getElem?_nil, List.set_cons_zero, List.set_cons_succ, List.set_nil, List.length_cons, List.length_nil, List.length_map, List.length_append, List.length_range, List.length_replicate, List.map_cons, List.map_nil, List.cons_append, List.nil_append, List.append_nil, List.replicate_succ, List.replicate_zero, Nat.reduceAdd, Nat.reduceSub, Nat.reduceMul, Nat.reduceLT, Nat.reduceLeDiff, Nat.reduceEqDiff, Nat.reduceMod, Nat.reduceDiv, Nat.reducePow, Int.reduceAdd, Int.reduceSub, Int.reduceMul, Int.reduceNeg, Int.reduceLT, Int.reduceLE, Int.reduceGT, Int.reduceGE, Int.reduceEq, Int.reduceNe, Int.reduceMod, Int.reduceDiv, Int.reducePow, Int.reduceToNat, Nat.add_zero, Nat.zero_add, Nat.sub_zero, Nat.zero_le, Nat.lt_irrefl, ite_true, ite_false, Bool.not_true, Bool.not_false, Bool.true_and, Bool.false_and, Bool.and_true, Bool.and_false, Bool.true_or, Bool.false_or, Bool.or_true, Bool.or_false, Bool.false_eq_true, Bool.true_eq_false, decide_true, decide_false, decide_eq_true_eq, Bool.not_eq_true', Bool.not_eq_false', decide_eq_false_iff_not, decide_not, not_true_eq_false, not_false_eq_true, and_true, true_and, and_false, false_and, or_true, true_or, or_false, false_or, and_self, or_self, if_true, if_false, reduceCtorEq, Fn.start, Int.cast_ofNat_Int, List.all_cons, List.all_nil, List.any_cons, List.any_nil, f_law_joined, q_empty]
  | cons b0 b1 =>
    rw [← hbn]
    have hb0 : (b = []) = False := eq_false (by rw [hbn]; simp)
    have hbl : 0 < b.length := by rw [hbn]; simp
    have hla : b[b.length - 1]? = some (b.getLastD 0) := by
      rw [List.getLastD_eq_getLast?, List.getLast?_eq_getElem?]
      cases hx : b[b.length - 1]? with
      | none => rw [List.getElem?_eq_none_iff] at hx; omega
      | some z => rfl
    have i1 := ix_st b (b.length - 1) _ hla (by omega)
    rw [show (((b.length - 1 : Nat)) : Int) = (b.length : Int) - 1 by omega] at i1
    have e61 : decide ([c] = [61]) = decide (c = 61) := by simp
    refine ⟨(isRun (b.getLastD 0) && isRun c) || (decide (b ∈ [[61], [60], [62], [33]]) && decide (c = 61)), ?_, fun _ hj l d hd => ?_⟩
    · simp -implicitDefEqProofs only [bindS, mapS, bindN, mapN, ifD_bl, bind_ite', map_ite', ev_c, ev_var, ev_rd, ev_gl, ev_tup, ev_lst, ev_bin, negD_int, ev_neg, notD_bl, ev_nt, ev_cmp, ev_chain, ev_an, ev_orr, ev_ife, ev_ix, ev_sl, isNo_nohi, isNo_c, isNo_var, isNo_bin, isNo_neg, isNo_bi, isNo_ix, isNo_call, isNo_me, endD_int, noIo_nil, ev_call, noIoL_nil, ev_callb, ev_bi, ev_lc, ev_lcr, evs_nil, evs_cons, shd_sh, own_ow, add_int, sub_int, mod_pos, fdiv_pos, lt_int, le_int, gt_int, ge_int, is_non_non, is_bl_bl, is_int_non, is_str_non, is_tup_non, is_lst_non, is_bl_non, isnot_non_non, isnot_int_non, isnot_str_non, isnot_tup_non, isnot_lst_non, isnot_bl_non, cmp_eq, cmp_ne, eq_int, eq_str, eq_bl, eq_non, eq_int_str, eq_str_int, eq_non_str, eq_str_non, eq_non_int, eq_int_non, len_tup, len_lst, len_fls, abs_int, int_int, int_bl, tuple_lst, tuple_tup, list_lst, list_tup, max_int, min_int, isint_int, isint_bl, isint_str, isint_tup, isint_lst, isint_non, isbool_int, isbool_bl, isbool_str, isbool_tup, isbool_lst, isbool_non, isstr_int, isstr_bl, isstr_str, isstr_tup, isstr_lst, isstr_non, istuple_int, istuple_bl, istuple_str, istuple_tup, istuple_lst, istuple_non, islist_int, islist_bl, islist_str, islist_tup, islist_lst, islist_non, ix_tup, ix_lsts, atI_0, atI_1, atI_2, atI_3, atI_4, atI_5, atI_6, atI_7, atI_8, atI_9, atI_10, atI_11, atI_12, ix_fls, ev_me, sl_lst, sl_tup, cmp_isin, cmp_notin, flat_str, flat_int, flat_bl, flat_non, eqF_str, in_tup, seqO_nx, seqO_rt, seqO_bk, seqO_ct, exs_nil, exs_cons, ex_set, setoD_lst, ex_seto, ex_unp, augD_int, ex_aug, ex_expr, appD_lst, ex_app, mthD_lst, ex_mth, mthxD_lst, ex_mthx, om_clear, om_pop, om_reverse, setsD_lst, ex_sets, ex_ret, ex_reto, ex_retn, ex_iff, ex_whl, ex_for, ex_forr, ex_brk, ex_cnt, ex_pass, ex_share, it_tup, it_lst, it_str, it_fls, tg_one, wipe_one, nxO_nx, nxO_ct, nxO_bk, nxO_rt, forD_nil, lcD_nil, lcD_cons, consO_some, consO_none, ansO_nx, ansO_rt, ansO_ite, sizeLine_lit, pow_lit, toNx_nx, toNx_ct, toNx_ite, toA_some, toA_ite, List.getElem?_cons_zero, List.getElem?_cons_succ, List.getElem?_nil, List.set_cons_zero, List.set_cons_succ, List.set_nil, List.length_cons, List.length_nil, List.length_map, List.length_append, List.length_range, List.length_replicate, List.map_cons, List.map_nil, List.cons_append, List.nil_append, List.append_nil, List.replicate_succ, List.replicate_zero, Nat.reduceAdd, Nat.reduceSub, Nat.reduceMul, Nat.reduceLT, Nat.reduceLeDiff, Nat.reduceEqDiff, Nat.reduceMod, Nat.reduceDiv, Nat.reducePow, Int.reduceAdd, Int.reduceSub, Int.reduceMul, Int.reduceNeg, Int.reduceLT, Int.reduceLE, Int.reduceGT, Int.reduceGE, Int.reduceEq, Int.reduceNe, Int.reduceMod, Int.reduceDiv, Int.reducePow, Int.reduceToNat, Nat.add_zero, Nat.zero_add, Nat.sub_zero, Nat.zero_le, Nat.lt_irrefl, ite_true, ite_false, Bool.not_true, Bool.not_false, Bool.true_and, Bool.false_and, Bool.and_true, Bool.and_false, Bool.true_or, Bool.false_or, Bool.or_true, Bool.or_false, Bool.false_eq_true, Bool.true_eq_false, decide_true, decide_false, decide_eq_true_eq, Bool.not_eq_true', Bool.not_eq_false', decide_eq_false_iff_not, decide_not, not_true_eq_false, not_false_eq_true, and_true, true_and, and_false, false_and, or_true, true_or, or_false, false_or, and_self, or_self, if_true, if_false, reduceCtorEq, Fn.start, Int.cast_ofNat_Int, List.all_cons, List.all_nil, List.any_cons, List.any_nil, f_law_joined, q_empty, st_inj, hb0, hw0', len_st b (by omega), i1, i2, q_run, in_st, run_mem, show q "=" = st [61] by decide +kernel, show q "<" = st [60] by decide +kernel, show q ">" = st [62] by decide +kernel, show q "!" = st [33] by decide +kernel, in4, e61]
      cases isRun (b.getLastD 0) <;> cases isRun c <;> simp -implicitDefEqProofs only [bindS, mapS, bindN, mapN, ifD_bl, bind_ite', map_ite', ev_c, ev_var, ev_rd, ev_gl, ev_tup, ev_lst, ev_bin, negD_int, ev_neg, notD_bl, ev_nt, ev_cmp, ev_chain, ev_an, ev_orr, ev_ife, ev_ix, ev_sl, isNo_nohi, isNo_c, isNo_var, isNo_bin, isNo_neg, isNo_bi, isNo_ix, isNo_call, isNo_me, endD_int, noIo_nil, ev_call, noIoL_nil, ev_callb, ev_bi, ev_lc, ev_lcr, evs_nil, evs_cons, shd_sh, own_ow, add_int, sub_int, mod_pos, fdiv_pos, lt_int, le_int, gt_int, ge_int, is_non_non, is_bl_bl, is_int_non, is_str_non, is_tup_non, is_lst_non, is_bl_non, isnot_non_non, isnot_int_non, isnot_str_non, isnot_tup_non, isnot_lst_non, isnot_bl_non, cmp_eq, cmp_ne, eq_int, eq_str, eq_bl, eq_non, eq_int_str, eq_str_int, eq_non_str, eq_str_non, eq_non_int, eq_int_non, len_tup, len_lst, len_fls, abs_int, int_int, int_bl, tuple_lst, tuple_tup, list_lst, list_tup, max_int, min_int, isint_int, isint_bl, isint_str, isint_tup, isint_lst, isint_non, isbool_int, isbool_bl, isbool_str, isbool_tup, isbool_lst, isbool_non, isstr_int, isstr_bl, isstr_str, isstr_tup, isstr_lst, isstr_non, istuple_int, istuple_bl, istuple_str, istuple_tup, istuple_lst, istuple_non, islist_int, islist_bl, islist_str, islist_tup, islist_lst, islist_non, ix_tup, ix_lsts, atI_0, atI_1, atI_2, atI_3, atI_4, atI_5, atI_6, atI_7, atI_8, atI_9, atI_10, atI_11, atI_12, ix_fls, ev_me, sl_lst, sl_tup, cmp_isin, cmp_notin, flat_str, flat_int, flat_bl, flat_non, eqF_str, in_tup, seqO_nx, seqO_rt, seqO_bk, seqO_ct, exs_nil, exs_cons, ex_set, setoD_lst, ex_seto, ex_unp, augD_int, ex_aug, ex_expr, appD_lst, ex_app, mthD_lst, ex_mth, mthxD_lst, ex_mthx, om_clear, om_pop, om_reverse, setsD_lst, ex_sets, ex_ret, ex_reto, ex_retn, ex_iff, ex_whl, ex_for, ex_forr, ex_brk, ex_cnt, ex_pass, ex_share, it_tup, it_lst, it_str, it_fls, tg_one, wipe_one, nxO_nx, nxO_ct, nxO_bk, nxO_rt, forD_nil, lcD_nil, lcD_cons, consO_some, consO_none, ansO_nx, ansO_rt, ansO_ite, sizeLine_lit, pow_lit, toNx_nx, toNx_ct, toNx_ite, toA_some, toA_ite, List.getElem?_cons_zero, List.getElem?_cons_succ, List.getElem?_nil, List.set_cons_zero, List.set_cons_succ, List.set_nil, List.length_cons, List.length_nil, List.length_map, List.length_append, List.length_range, List.length_replicate, List.map_cons, List.map_nil, List.cons_append, List.nil_append, List.append_nil, List.replicate_succ, List.replicate_zero, Nat.reduceAdd, Nat.reduceSub, Nat.reduceMul, Nat.reduceLT, Nat.reduceLeDiff, Nat.reduceEqDiff, Nat.reduceMod, Nat.reduceDiv, Nat.reducePow, Int.reduceAdd, Int.reduceSub, Int.reduceMul, Int.reduceNeg, Int.reduceLT, Int.reduceLE, Int.reduceGT, Int.reduceGE, Int.reduceEq, Int.reduceNe, Int.reduceMod, Int.reduceDiv, Int.reducePow, Int.reduceToNat, Nat.add_zero, Nat.zero_add, Nat.sub_zero, Nat.zero_le, Nat.lt_irrefl, ite_true, ite_false, Bool.not_true, Bool.not_false, Bool.true_and, Bool.false_and, Bool.and_true, Bool.and_false, Bool.true_or, Bool.false_or, Bool.or_true, Bool.or_false, Bool.false_eq_true, Bool.true_eq_false, decide_true, decide_false, decide_eq_true_eq, Bool.not_eq_true', Bool.not_eq_false', decide_eq_false_iff_not, decide_not, not_true_eq_false, not_false_eq_true, and_true, true_and, and_false, false_and, or_true, true_or, or_false, false_or, and_self, or_self, if_true, if_false, reduceCtorEq, Fn.start, Int.cast_ofNat_Int, List.all_cons, List.all_nil, List.any_cons, List.any_nil] <;> (by_cases hm : b ∈ [[61], [60], [62], [33]] <;> simp -implicitDefEqProofs only [bindS, mapS, bindN, mapN, ifD_bl, bind_ite', map_ite', ev_c, ev_var, ev_rd, ev_gl, ev_tup, ev_lst, ev_bin, negD_int, ev_neg, notD_bl, ev_nt, ev_cmp, ev_chain, ev_an, ev_orr, ev_ife, ev_ix, ev_sl, isNo_nohi, isNo_c, isNo_var, isNo_bin, isNo_neg, isNo_bi, isNo_ix, isNo_call, isNo_me, endD_int, noIo_nil, ev_call, noIoL_nil, ev_callb, ev_bi, ev_lc, ev_lcr, evs_nil, evs_cons, shd_sh, own_ow, add_int, sub_int, mod_pos, fdiv_pos, lt_int, le_int, gt_int, ge_int, is_non_non, is_bl_bl, is_int_non, is_str_non, is_tup_non, is_lst_non, is_bl_non, isnot_non_non, isnot_int_non, isnot_str_non, isnot_tup_non, isnot_lst_non, isnot_bl_non, cmp_eq, cmp_ne, eq_int, eq_str, eq_bl, eq_non, eq_int_str, eq_str_int, eq_non_str, eq_str_non, eq_non_int, eq_int_non, len_tup, len_lst, len_fls, abs_int, int_int, int_bl, tuple_lst, tuple_tup, list_lst, list_tup, max_int, min_int, isint_int, isint_bl, isint_str, isint_tup, isint_lst, isint_non, isbool_int, isbool_bl, isbool_str, isbool_tup, isbool_lst, isbool_non, isstr_int, isstr_bl, isstr_str, isstr_tup, isstr_lst, isstr_non, istuple_int, istuple_bl, istuple_str, istuple_tup, istuple_lst, istuple_non, islist_int, islist_bl, islist_str, islist_tup, islist_lst, islist_non, ix_tup, ix_lsts, atI_0, atI_1, atI_2, atI_3, atI_4, atI_5, atI_6, atI_7, atI_8, atI_9, atI_10, atI_11, atI_12, ix_fls, ev_me, sl_lst, sl_tup, cmp_isin, cmp_notin, flat_str, flat_int, flat_bl, flat_non, eqF_str, in_tup, seqO_nx, seqO_rt, seqO_bk, seqO_ct, exs_nil, exs_cons, ex_set, setoD_lst, ex_seto, ex_unp, augD_int, ex_aug, ex_expr, appD_lst, ex_app, mthD_lst, ex_mth, mthxD_lst, ex_mthx, om_clear, om_pop, om_reverse, setsD_lst, ex_sets, ex_ret, ex_reto, ex_retn, ex_iff, ex_whl, ex_for, ex_forr, ex_brk, ex_cnt, ex_pass, ex_share, it_tup, it_lst, it_str, it_fls, tg_one, wipe_one, nxO_nx, nxO_ct, nxO_bk, nxO_rt, forD_nil, lcD_nil, lcD_cons, consO_some, consO_none, ansO_nx, ansO_rt, ansO_ite, sizeLine_lit, pow_lit, toNx_nx, toNx_ct, toNx_ite, toA_some, toA_ite, List.getElem?_cons_zero, List.getElem?_cons_succ, List.getElem?_nil, List.set_cons_zero, List.set_cons_succ, List.set_nil, List.length_cons, List.length_nil, List.length_map, List.length_append, List.length_range, List.length_replicate, List.map_cons, List.map_nil, List.cons_append, List.nil_append, List.append_nil, List.replicate_succ, List.replicate_zero, Nat.reduceAdd, Nat.reduceSub, Nat.reduceMul, Nat.reduceLT, Nat.reduceLeDiff, Nat.reduceEqDiff, Nat.reduceMod, Nat.reduceDiv, Nat.reducePow, Int.reduceAdd, Int.reduceSub, Int.reduceMul, Int.reduceNeg, Int.reduceLT, Int.reduceLE, Int.reduceGT, Int.reduceGE, Int.reduceEq, Int.reduceNe, Int.reduceMod, Int.reduceDiv, Int.reducePow, Int.reduceToNat, Nat.add_zero, Nat.zero_add, Nat.sub_zero, Nat.zero_le, Nat.lt_irrefl, ite_true, ite_false, Bool.not_true, Bool.not_false, Bool.true_and, Bool.false_and, Bool.and_true, Bool.and_false, Bool.true_or, Bool.false_or, Bool.or_true, Bool.or_false, Bool.false_eq_true, Bool.true_eq_false, decide_true, decide_false, decide_eq_true_eq, Bool.not_eq_true', Bool.not_eq_false', decide_eq_false_iff_not, decide_not, not_true_eq_false, not_false_eq_true, and_true, true_and, and_false, false_and, or_true, true_or, or_false, false_or, and_self, or_self, if_true, if_false, reduceCtorEq, Fn.start, Int.cast_ofNat_Int, List.all_cons, List.all_nil, List.any_cons, List.any_nil, hm])
    · cases hd
      rw [Bool.or_eq_false_iff] at hj
      refine ⟨fun z => ?_, fun z => ?_⟩
      · rw [z.1, z.2] at hj
        exact absurd hj.1 (by decide)
      · rw [decide_eq_true z.1, decide_eq_true z.2] at hj
        exact absurd hj.2 (by decide)
/-! moved -/
theorem moved_body (F : Fc) (x y : Sl) (p : Int × Int) (c : Nat) : exs F G b_law_moved_0 [x, y, .sh (.int p.1), .sh (.int p.2), .sh (.str (st [c]))] = some (.nx [x, y, .sh (.int (if c = 10 then (p.1 + 1, (1 : Int)) else (p.1, p.2 + 1)).1), .sh (.int (if c = 10 then (p.1 + 1, (1 : Int)) else (p.1, p.2 + 1)).2), .sh (.str (st [c]))]) := by
  by_cases h : c = 10
  · subst h
    rw [if_pos rfl]
    simp -implicitDefEqProofs only [bindS, mapS, bindN, mapN, ifD_bl, bind_ite', map_ite', ev_c, ev_var, ev_rd, ev_gl, ev_tup, ev_lst, ev_bin, negD_int, ev_neg, notD_bl, ev_nt, ev_cmp, ev_chain, ev_an, ev_orr, ev_ife, ev_ix, ev_sl, isNo_nohi, isNo_c, isNo_var, isNo_bin, isNo_neg, isNo_bi, isNo_ix, isNo_call, isNo_me, endD_int, noIo_nil, ev_call, noIoL_nil, ev_callb, ev_bi, ev_lc, ev_lcr, evs_nil, evs_cons, shd_sh, own_ow, add_int, sub_int, mod_pos, fdiv_pos, lt_int, le_int, gt_int, ge_int, is_non_non, is_bl_bl, is_int_non, is_str_non, is_tup_non, is_lst_non, is_bl_non, isnot_non_non, isnot_int_non, isnot_str_non, isnot_tup_non, isnot_lst_non, isnot_bl_non, cmp_eq, cmp_ne, eq_int, eq_str, eq_bl, eq_non, eq_int_str, eq_str_int, eq_non_str, eq_str_non, eq_non_int, eq_int_non, len_tup, len_lst, len_fls, abs_int, int_int, int_bl, tuple_lst, tuple_tup, list_lst, list_tup, max_int, min_int, isint_int, isint_bl, isint_str, isint_tup, isint_lst, isint_non, isbool_int, isbool_bl, isbool_str, isbool_tup, isbool_lst, isbool_non, isstr_int, isstr_bl, isstr_str, isstr_tup, isstr_lst, isstr_non, istuple_int, istuple_bl, istuple_str, istuple_tup, istuple_lst, istuple_non, islist_int, islist_bl, islist_str, islist_tup, islist_lst, islist_non, ix_tup, ix_lsts, atI_0, atI_1, atI_2, atI_3, atI_4, atI_5, atI_6, atI_7, atI_8, atI_9, atI_10, atI_11, atI_12, ix_fls, ev_me, sl_lst, sl_tup, cmp_isin, cmp_notin, flat_str, flat_int, flat_bl, flat_non, eqF_str, in_tup, seqO_nx, seqO_rt, seqO_bk, seqO_ct, exs_nil, exs_cons, ex_set, setoD_lst, ex_seto, ex_unp, augD_int, ex_aug, ex_expr, appD_lst, ex_app, mthD_lst, ex_mth, mthxD_lst, ex_mthx, om_clear, om_pop, om_reverse, setsD_lst, ex_sets, ex_ret, ex_reto, ex_retn, ex_iff, ex_whl, ex_for, ex_forr, ex_brk, ex_cnt, ex_pass, ex_share, it_tup, it_lst, it_str, it_fls, tg_one, wipe_one, nxO_nx, nxO_ct, nxO_bk, nxO_rt, forD_nil, lcD_nil, lcD_cons, consO_some, consO_none, ansO_nx, ansO_rt, ansO_ite, sizeLine_lit, pow_lit, toNx_nx, toNx_ct, toNx_ite, toA_some, toA_ite, List.getElem?_cons_zero, List.getElem?_cons_succ, List.getElem?_nil, List.set_cons_zero, List.set_cons_succ, List.set_nil, List.length_cons, List.length_nil, List.length_map, List.length_append, List.length_range, List.length_replicate, List.map_cons, List.map_nil, List.cons_append, List.nil_append, List.append_nil, List.replicate_succ, List.replicate_zero, Nat.reduceAdd, Nat.reduceSub, Nat.reduceMul, Nat.reduceLT, Nat.reduceLeDiff, Nat.reduceEqDiff, Nat.reduceMod, Nat.reduceDiv, Nat.reducePow, Int.reduceAdd, Int.reduceSub, Int.reduceMul, Int.reduceNeg, Int.reduceLT, Int.reduceLE, Int.reduceGT, Int.reduceGE, Int.reduceEq, Int.reduceNe, Int.reduceMod, Int.reduceDiv, Int.reducePow, Int.reduceToNat, Nat.add_zero, Nat.zero_add, Nat.sub_zero, Nat.zero_le, Nat.lt_irrefl, ite_true, ite_false, Bool.not_true, Bool.not_false, Bool.true_and, Bool.false_and, Bool.and_true, Bool.and_false, Bool.true_or, Bool.false_or, Bool.or_true, Bool.or_false, Bool.false_eq_true, Bool.true_eq_false, decide_true, decide_false, decide_eq_true_eq, Bool.not_eq_true', Bool.not_eq_false', decide_eq_false_iff_not, decide_not, not_true_eq_false, not_false_eq_true, and_true, true_and, and_false, false_and, or_true, true_or, or_false, false_or, and_self, or_self, if_true, if_false, reduceCtorEq, Fn.start, Int.cast_ofNat_Int, List.all_cons, List.all_nil, List.any_cons, List.any_nil, b_law_moved_0, q_nl, st_inj]
  · have h' : ([c] = [10]) = False := by simpa using h
    rw [if_neg h]
    simp -implicitDefEqProofs only [bindS, mapS, bindN, mapN, ifD_bl, bind_ite', map_ite', ev_c, ev_var, ev_rd, ev_gl, ev_tup, ev_lst, ev_bin, negD_int, ev_neg, notD_bl, ev_nt, ev_cmp, ev_chain, ev_an, ev_orr, ev_ife, ev_ix, ev_sl, isNo_nohi, isNo_c, isNo_var, isNo_bin, isNo_neg, isNo_bi, isNo_ix, isNo_call, isNo_me, endD_int, noIo_nil, ev_call, noIoL_nil, ev_callb, ev_bi, ev_lc, ev_lcr, evs_nil, evs_cons, shd_sh, own_ow, add_int, sub_int, mod_pos, fdiv_pos, lt_int, le_int, gt_int, ge_int, is_non_non, is_bl_bl, is_int_non, is_str_non, is_tup_non, is_lst_non, is_bl_non, isnot_non_non, isnot_int_non, isnot_str_non, isnot_tup_non, isnot_lst_non, isnot_bl_non, cmp_eq, cmp_ne, eq_int, eq_str, eq_bl, eq_non, eq_int_str, eq_str_int, eq_non_str, eq_str_non, eq_non_int, eq_int_non, len_tup, len_lst, len_fls, abs_int, int_int, int_bl, tuple_lst, tuple_tup, list_lst, list_tup, max_int, min_int, isint_int, isint_bl, isint_str, isint_tup, isint_lst, isint_non, isbool_int, isbool_bl, isbool_str, isbool_tup, isbool_lst, isbool_non, isstr_int, isstr_bl, isstr_str, isstr_tup, isstr_lst, isstr_non, istuple_int, istuple_bl, istuple_str, istuple_tup, istuple_lst, istuple_non, islist_int, islist_bl, islist_str, islist_tup, islist_lst, islist_non, ix_tup, ix_lsts, atI_0, atI_1, atI_2, atI_3, atI_4, atI_5, atI_6, atI_7, atI_8, atI_9, atI_10, atI_11, atI_12, ix_fls, ev_me, sl_lst, sl_tup, cmp_isin, cmp_notin, flat_str, flat_int, flat_bl, flat_non, eqF_str, in_tup, seqO_nx, seqO_rt, seqO_bk, seqO_ct, exs_nil, exs_cons, ex_set, setoD_lst, ex_seto, ex_unp, augD_int, ex_aug, ex_expr, appD_lst, ex_app, mthD_lst, ex_mth, mthxD_lst, ex_mthx, om_clear, om_pop, om_reverse, setsD_lst, ex_sets, ex_ret, ex_reto, ex_retn, ex_iff, ex_whl, ex_for, ex_forr, ex_brk, ex_cnt, ex_pass, ex_share, it_tup, it_lst, it_str, it_fls, tg_one, wipe_one, nxO_nx, nxO_ct, nxO_bk, nxO_rt, forD_nil, lcD_nil, lcD_cons, consO_some, consO_none, ansO_nx, ansO_rt, ansO_ite, sizeLine_lit, pow_lit, toNx_nx, toNx_ct, toNx_ite, toA_some, toA_ite, List.getElem?_cons_zero, List.getElem?_cons_succ, List.getElem?_nil, List.set_cons_zero, List.set_cons_succ, List.set_nil, List.length_cons, List.length_nil, List.length_map, List.length_append, List.length_range, List.length_replicate, List.map_cons, List.map_nil, List.cons_append, List.nil_append, List.append_nil, List.replicate_succ, List.replicate_zero, Nat.reduceAdd, Nat.reduceSub, Nat.reduceMul, Nat.reduceLT, Nat.reduceLeDiff, Nat.reduceEqDiff, Nat.reduceMod, Nat.reduceDiv, Nat.reducePow, Int.reduceAdd, Int.reduceSub, Int.reduceMul, Int.reduceNeg, Int.reduceLT, Int.reduceLE, Int.reduceGT, Int.reduceGE, Int.reduceEq, Int.reduceNe, Int.reduceMod, Int.reduceDiv, Int.reducePow, Int.reduceToNat, Nat.add_zero, Nat.zero_add, Nat.sub_zero, Nat.zero_le, Nat.lt_irrefl, ite_true, ite_false, Bool.not_true, Bool.not_false, Bool.true_and, Bool.false_and, Bool.and_true, Bool.and_false, Bool.true_or, Bool.false_or, Bool.or_true, Bool.or_false, Bool.false_eq_true, Bool.true_eq_false, decide_true, decide_false, decide_eq_true_eq, Bool.not_eq_true', Bool.not_eq_false', decide_eq_false_iff_not, decide_not, not_true_eq_false, not_false_eq_true, and_true, true_and, and_false, false_and, or_true, true_or, or_false, false_or, and_self, or_self, if_true, if_false, reduceCtorEq, Fn.start, Int.cast_ofNat_Int, List.all_cons, List.all_nil, List.any_cons, List.any_nil, b_law_moved_0, q_nl, st_inj, h']
theorem moved_loop (F : Fc) (x y : Sl) : ∀ (l : List Nat) (p : Int × Int) (z : Sl), ∃ z', forD (tgD [4]) (exs F G b_law_moved_0) (l.map fun c => D.str ⟨#[c]⟩) [x, y, .sh (.int p.1), .sh (.int p.2), z] = some (.nx [x, y, .sh (.int (mv p l).1), .sh (.int (mv p l).2), z'])
  | [], p, z => ⟨z, rfl⟩
  | c :: l, p, z => by
    have e : (D.str ⟨#[c]⟩) = D.str (st [c]) := rfl
    obtain ⟨z', ih⟩ := moved_loop F x y l (if c = 10 then (p.1 + 1, 1) else (p.1, p.2 + 1)) (.sh (.str (st [c])))
    refine ⟨z', ?_⟩
    rw [List.map_cons, forD_cons, e, tg_one, bindS]
    show (exs F G b_law_moved_0 [x, y, .sh (.int p.1), .sh (.int p.2), .sh (.str (st [c]))]).bind _ = _
    rw [moved_body, bindS, nxO_nx, ih]
    rfl
theorem c_moved (n : Nat) (r c : Int) (l : List Nat) : call T G (n + 1) k_law_moved [.lst [.int r, .int c], .str (st l)] = some (.lst [.int (mv (r, c) l).1, .int (mv (r, c) l).2], []) := by
  rw [call_of T_law_moved rfl]
  obtain ⟨z', e⟩ := moved_loop (PL.call T G n) (.sh (.lst [.int r, .int c])) (.sh (.str (st l))) l (r, c) .un
  simp -implicitDefEqProofs only [bindS, mapS, bindN, mapN, ifD_bl, bind_ite', map_ite', ev_c, ev_var, ev_rd, ev_gl, ev_tup, ev_lst, ev_bin, negD_int, ev_neg, notD_bl, ev_nt, ev_cmp, ev_chain, ev_an, ev_orr, ev_ife, ev_ix, ev_sl, isNo_nohi, isNo_c, isNo_var, isNo_bin, isNo_neg, isNo_bi, isNo_ix, isNo_call, isNo_me, endD_int, noIo_nil, ev_call, noIoL_nil, ev_callb, ev_bi, ev_lc, ev_lcr, evs_nil, evs_cons, shd_sh, own_ow, add_int, sub_int, mod_pos, fdiv_pos, lt_int, le_int, gt_int, ge_int, is_non_non, is_bl_bl, is_int_non, is_str_non, is_tup_non, is_lst_non, is_bl_non, isnot_non_non, isnot_int_non, isnot_str_non, isnot_tup_non, isnot_lst_non, isnot_bl_non, cmp_eq, cmp_ne, eq_int, eq_str, eq_bl, eq_non, eq_int_str, eq_str_int, eq_non_str, eq_str_non, eq_non_int, eq_int_non, len_tup, len_lst, len_fls, abs_int, int_int, int_bl, tuple_lst, tuple_tup, list_lst, list_tup, max_int, min_int, isint_int, isint_bl, isint_str, isint_tup, isint_lst, isint_non, isbool_int, isbool_bl, isbool_str, isbool_tup, isbool_lst, isbool_non, isstr_int, isstr_bl, isstr_str, isstr_tup, isstr_lst, isstr_non, istuple_int, istuple_bl, istuple_str, istuple_tup, istuple_lst, istuple_non, islist_int, islist_bl, islist_str, islist_tup, islist_lst, islist_non, ix_tup, ix_lsts, atI_0, atI_1, atI_2, atI_3, atI_4, atI_5, atI_6, atI_7, atI_8, atI_9, atI_10, atI_11, atI_12, ix_fls, ev_me, sl_lst, sl_tup, cmp_isin, cmp_notin, flat_str, flat_int, flat_bl, flat_non, eqF_str, in_tup, seqO_nx, seqO_rt, seqO_bk, seqO_ct, exs_nil, exs_cons, ex_set, setoD_lst, ex_seto, ex_unp, augD_int, ex_aug, ex_expr, appD_lst, ex_app, mthD_lst, ex_mth, mthxD_lst, ex_mthx, om_clear, om_pop, om_reverse, setsD_lst, ex_sets, ex_ret, ex_reto, ex_retn, ex_iff, ex_whl, ex_for, ex_forr, ex_brk, ex_cnt, ex_pass, ex_share, it_tup, it_lst, it_str, it_fls, tg_one, wipe_one, nxO_nx, nxO_ct, nxO_bk, nxO_rt, forD_nil, lcD_nil, lcD_cons, consO_some, consO_none, ansO_nx, ansO_rt, ansO_ite, sizeLine_lit, pow_lit, toNx_nx, toNx_ct, toNx_ite, toA_some, toA_ite, List.getElem?_cons_zero, List.getElem?_cons_succ, List.getElem?_nil, List.set_cons_zero, List.set_cons_succ, List.set_nil, List.length_cons, List.length_nil, List.length_map, List.length_append, List.length_range, List.length_replicate, List.map_cons, List.map_nil, List.cons_append, List.nil_append, List.append_nil, List.replicate_succ, List.replicate_zero, Nat.reduceAdd, Nat.reduceSub, Nat.reduceMul, Nat.reduceLT, Nat.reduceLeDiff, Nat.reduceEqDiff, Nat.reduceMod, Nat.reduceDiv, Nat.reducePow, Int.reduceAdd, Int.reduceSub, Int.reduceMul, Int.reduceNeg, Int.reduceLT, Int.reduceLE, Int.reduceGT, Int.reduceGE, Int.reduceEq, Int.reduceNe, Int.reduceMod, Int.reduceDiv, Int.reducePow, Int.reduceToNat, Nat.add_zero, Nat.zero_add, Nat.sub_zero, Nat.zero_le, Nat.lt_irrefl, ite_true, ite_false, Bool.not_true, Bool.not_false, Bool.true_and, Bool.false_and, Bool.and_true, Bool.and_false, Bool.true_or, Bool.false_or, Bool.or_true, Bool.or_false, Bool.false_eq_true, Bool.true_eq_false, decide_true, decide_false, decide_eq_true_eq, Bool.not_eq_true', Bool.not_eq_false', decide_eq_false_iff_not, decide_not, not_true_eq_false, not_false_eq_true, and_true, true_and, and_false, false_and, or_true, true_or, or_false, false_or, and_self, or_self, if_true, if_false, reduceCtorEq, Fn.start, Int.cast_ofNat_Int, List.all_cons, List.all_nil, List.any_cons, List.any_nil, f_law_moved, st_tl, e]
end LW

namespace LW
open PySem PL TL
theorem gap_head {g : List Nat} (h : Gap g) (h0 : g ≠ []) (l : List Nat) : ∀ d ∈ (g ++ l).head?, d = 32 ∨ d = 10 ∨ d = 35 := by
  cases h with
  | nil => exact absurd rfl h0
  | sp _ => intro d hd; cases hd; exact Or.inl rfl
  | nl _ => intro d hd; cases hd; exact Or.inr (Or.inl rfl)
  | com _ _ => intro d hd; cases hd; exact Or.inr (Or.inr rfl)
theorem ok_of_head {b l : List Nat} (h : ∀ d ∈ l.head?, d = 32 ∨ d = 10 ∨ d = 35) : Ok b l := fun d hd => by
  rcases h d hd with rfl | rfl | rfl <;> exact ⟨fun z => absurd z.2 (by decide), fun z => absurd z.2 (by decide)⟩
theorem vw_no {kind : Str} {w : List Nat} (h : VW kind w) : 10 ∉ w := by
  rcases h with ⟨_, h, _⟩ | ⟨_, h⟩
  · exact fun hm => absurd (List.all_eq_true.mp h 10 hm) (by decide)
  · intro hm
    have : (signL.all fun w => !decide (10 ∈ w)) = true := by decide
    have := List.all_eq_true.mp this w h
    simp only [Bool.not_eq_true', decide_eq_false_iff_not] at this
    exact this hm
theorem okL_app (a b : List Nat) : okL (a ++ b) = (okL a && okL b) := List.all_append
/-- what is known of the text so far -/
structure Inv (T : List Nat) (r c : Int) (bf : List Nat) (E : List D) (k : Nat) : Prop where
  go : ∀ l, (bf ≠ [] → Ok bf l) → S' 1 1 (T ++ l) = E ++ S' r c l
  bl : bf.length ≤ 12
  tl : T.length ≤ 20 + 40 * k
  el : E.length = k
  ok : okL T = true
  tk : ∀ d ∈ E, isTok d
theorem inv_step {T : List Nat} {r c : Int} {bf : List Nat} {E : List D} {k : Nat} (I : Inv T r c bf E k) {kd : Str} {w g : List Nat} (hv : VW kd w) (hk : kd ≠ q "bad") (hs : PyData.strOk kd = true) (ow : okL w = true) (lw : w.length ≤ 12) (hg : Gap g) (og : okL g = true) (lg : g.length ≤ 20) (hb : g = [] → bf ≠ [] → ∀ l, Ok bf (w ++ l)) :
    Inv (T ++ g ++ w) (mv (mv (r, c) g) w).1 (mv (mv (r, c) g) w).2 w (E ++ [tokD kd w (mv (r, c) g).1 (mv (r, c) g).2]) (k + 1) := by
  refine ⟨fun l hl => ?_, lw, ?_, ?_, ?_, fun d hd => ?_⟩
  · have hw := hl (vw_ne hv)
    rw [List.append_assoc, List.append_assoc, I.go (g ++ (w ++ l)) (fun h0 => by
      by_cases hg0 : g = []
      · rw [hg0]
        exact hb hg0 h0 l
      · exact ok_of_head (gap_head hg hg0 _)), S_gap hg, S_tok _ _ kd w l (vw_tok hv hw) hk (vw_ne hv) (vw_head hv), mv_row w _ (vw_no hv), List.append_assoc]
    rfl
  · rw [List.length_append, List.length_append]
    have := I.tl
    omega
  · rw [List.length_append, I.el]
    rfl
  · rw [okL_app, okL_app, I.ok, og, ow]
    rfl
  · rcases List.mem_append.mp hd with hd | hd
    · exact I.tk d hd
    · rw [List.mem_singleton] at hd
      exact ⟨_, _, _, _, hd, hs, ok_st ow⟩
theorem add_st (a b : List Nat) (h : a.length + b.length ≤ 16777216) : binD .add (.str (st a)) (.str (st b)) = some (.str (st (a ++ b))) := by
  rw [add_str _ _ (by rw [st_len, st_len, sizeLine_lit]; exact h), st_app]
theorem q_sp' : q " " = st [32] := q_sp
/-- what stands behind the last word -/
theorem inv_end {T : List Nat} {r c : Int} {bf : List Nat} {E : List D} {k : Nat} (I : Inv T r c bf E k) {B : List Nat} (hB : Gap B ∨ ∃ b, B = 35 :: b ∧ 10 ∉ b) (l : List Nat) (hl : ∀ d ∈ l.head?, d = 10) : S' 1 1 ((T ++ B) ++ l) = E ++ S' (mv (r, c) B).1 (mv (r, c) B).2 l := by
  have hl' : ∀ d ∈ l.head?, d = 32 ∨ d = 10 ∨ d = 35 := fun d hd => Or.inr (Or.inl (hl d hd))
  rw [List.append_assoc]
  rcases hB with hg | ⟨b, rfl, hb⟩
  · rw [I.go (B ++ l) (fun _ => by
      by_cases hg0 : B = []
      · rw [hg0]
        exact ok_of_head hl'
      · exact ok_of_head (gap_head hg hg0 _)), S_gap hg]
  · rw [I.go (35 :: b ++ l) (fun _ => ok_of_head fun d hd => by cases hd; exact Or.inr (Or.inr rfl))]
    show E ++ S' r c (35 :: (b ++ l)) = _
    rw [S_com r c b l hb hl, mv_row (35 :: b) _ (by rw [List.mem_cons, not_or]; exact ⟨by decide, hb⟩), List.length_cons, show c + 1 + (b.length : Int) = c + ((b.length + 1 : Nat) : Int) by omega]
end LW

namespace LW
open PySem PL TL
/-! bad words -/
def oth : List Nat := cd "!\"$&':?@ABCDEFGHIJKLMNOPQRSTUVWXYZ[\\]^_`|~\t"
def BW (w : List Nat) : Prop := VW (q "bad") w ∨ ∃ c, w = [c] ∧ c ∈ oth
theorem oth_all : (oth.all fun c => !isRun c && (decide (c ∉ [61, 60, 62]) && (decide (c ∉ [123, 125, 40, 41, 44, 59, 46, 43, 45, 42, 47, 61, 60, 62]) && (decide (c ≠ 10 ∧ c ≠ 32 ∧ c ≠ 35) && decide (c < 0x110000))))) = true ∧ oth.length = 43 := by decide +kernel
theorem oth_in {c : Nat} (h : c ∈ oth) : isRun c = false ∧ c ∉ [61, 60, 62] ∧ c ∉ [123, 125, 40, 41, 44, 59, 46, 43, 45, 42, 47, 61, 60, 62] ∧ (c ≠ 10 ∧ c ≠ 32 ∧ c ≠ 35) ∧ c < 0x110000 := by
  have := List.all_eq_true.mp oth_all.1 c h
  simp only [Bool.and_eq_true, Bool.not_eq_true', decide_eq_true_eq] at this
  exact this
theorem bw_tok {w l : List Nat} (h : BW w) (ho : Ok w l) : tokAt (w ++ l) = (q "bad", w) := by
  rcases h with h | ⟨c, rfl, hc⟩
  · exact vw_tok h ho
  · obtain ⟨h1, h2, h3, h4, _⟩ := oth_in hc
    have ht : ([c] ++ l).takeWhile isRun = [] := List.takeWhile_cons_of_neg (by rw [h1]; decide)
    unfold tokAt
    rw [ht, if_neg (fun z => z rfl), if_neg, show ([c] ++ l).headD 0 = c from rfl, if_neg h3]
    intro hm
    cases l with
    | nil => simp at hm
    | cons d l =>
      have h5 := (ho d rfl).2
      simp only [List.cons_append, List.nil_append, List.take_succ_cons, List.take_zero, List.mem_cons, List.cons.injEq, and_true, List.not_mem_nil, or_false] at hm h5 h2
      omega
theorem bw_ne {w : List Nat} (h : BW w) : w ≠ [] := by
  rcases h with h | ⟨c, rfl, hc⟩
  · exact vw_ne h
  · exact List.cons_ne_nil _ _
theorem bw_head {w : List Nat} (h : BW w) : w.headD 0 ≠ 10 ∧ w.headD 0 ≠ 32 ∧ w.headD 0 ≠ 35 := by
  rcases h with h | ⟨c, rfl, hc⟩
  · exact vw_head h
  · exact (oth_in hc).2.2.2.1
theorem bw_num {w : List Nat} (hr : w.all isRun = true) (hd : isDig (w.headD 0) = true) (hn : numOk w = false) : BW w := by
  refine Or.inl (Or.inl ⟨?_, hr, ?_⟩)
  · intro e
    rw [e] at hd
    exact absurd hd (by decide)
  · unfold kindL
    rw [if_pos hd, hn, if_neg (by decide)]
theorem dig_run {w : List Nat} (h : w.all isDig = true) : w.all isRun = true := List.all_eq_true.mpr fun c hc => by
  unfold isRun
  rw [List.all_eq_true.mp h c hc, Bool.or_true]
theorem dig_ok {w : List Nat} (h : w.all isDig = true) : okL w = true := List.all_eq_true.mpr fun c hc => by
  have := List.all_eq_true.mp h c hc
  unfold isDig at this
  rw [Bool.and_eq_true, decide_eq_true_eq, decide_eq_true_eq] at this
  rw [decide_eq_true_eq]
  omega
theorem dig_head {w l : List Nat} (h : w.all isDig = true) (h0 : w ≠ []) : isDig ((w ++ l).headD 0) = true := by
  cases w with
  | nil => exact absurd rfl h0
  | cons c w =>
    rw [List.all_cons, Bool.and_eq_true] at h
    exact h.1
theorem num_lo : ∀ (k m : Nat), 10 ^ k ≤ m → k < (numL m).length
  | 0, m, _ => List.length_pos_iff.mpr (numL_ne m)
  | k + 1, m, h => by
    have h1 : 10 ^ k * 10 ≤ m := by rw [← Nat.pow_succ]; exact h
    have h2 : 0 < 10 ^ k := Nat.pow_pos (by decide)
    rw [numL_step (by omega), List.length_append, List.length_singleton]
    have := num_lo k (m / 10) (by omega)
    omega
theorem str_num (m : Nat) (h : m < 2000000000) : biD .str_ [.int (m : Int)] = some (.str (st (numL m))) := by
  have hl : ((m : Int).natAbs).log2 < 1920 := by
    rw [Int.natAbs_natCast]
    by_cases hz : m = 0
    · subst hz
      decide
    · exact (Nat.log2_lt hz).mpr (Nat.lt_of_lt_of_le h (Nat.le_trans (show 2000000000 ≤ 2 ^ 31 by decide) (Nat.pow_le_pow_right (by decide) (by decide))))
  rw [str_int _ hl]
  congr 2
  exact ext_tl (tl_num m)
theorem ix_oth (i : Int) : ∃ c, c ∈ oth ∧ ixD (.str (q "!\"$&':?@ABCDEFGHIJKLMNOPQRSTUVWXYZ[\\]^_`|~\t")) (.int (i % 43)) = some (.str (st [c])) := by
  have m0 := Int.emod_nonneg i (show (43 : Int) ≠ 0 by decide)
  have m1 := Int.emod_lt_of_pos i (show (0 : Int) < 43 by decide)
  obtain ⟨k, hk⟩ := Int.eq_ofNat_of_zero_le m0
  have hl := oth_all.2
  have kl : k < oth.length := by omega
  refine ⟨oth[k], List.getElem_mem kl, ?_⟩
  rw [hk, q_st]
  exact ix_st oth k _ (List.getElem?_eq_getElem kl) (by omega)
theorem pool_let : ∀ s ∈ poolS, (cd s).all isRun = true ∧ (cd s).all isDig = false ∧ okL (cd s) = true ∧ (cd s).length ≤ 12 := by
  intro s hs
  have h : (poolS.all fun s => (cd s).all isRun && (!(cd s).all isDig && (okL (cd s) && decide ((cd s).length ≤ 12)))) = true := by decide +kernel
  have h := List.all_eq_true.mp h s hs
  simp only [Bool.and_eq_true, decide_eq_true_eq, Bool.not_eq_true'] at h
  exact h
theorem take_st (w : List Nat) (j : Nat) (h : w.length < 1000) : slD (.str (st w)) none (some (j : Int)) = some (.str (st (w.take j))) := by
  rw [sl_st w _ _ (by omega)]
  have e1 : HT.sIx w.length 0 none = 0 := rfl
  rw [e1, sIx_nat, List.drop_zero, Nat.sub_zero]
  congr 3
  by_cases hw : j ≤ w.length
  · rw [Nat.min_eq_left hw]
  · rw [Nat.min_eq_right (by omega), List.take_length, List.take_of_length_le (by omega)]
theorem c_bad (n : Nat) (L : List String) (hL : L.length = 30) (hp : ∀ s ∈ L, s ∈ poolS) (d a : Int) (hd : 0 ≤ d ∧ d < 1000) : ∃ w, call T G (n + 3) k_law_bad [.lst (L.map fun s => D.str (q s)), .int d, .int a] = some (.str (st w), []) ∧ BW w ∧ okL w = true ∧ w.length ≤ 30 := by
  rw [call_of T_law_bad rfl]
  have f0 : 0 ≤ d / 6 := Int.ediv_nonneg hd.1 (by decide)
  have f1 : d / 6 < 1000 := Int.lt_of_le_of_lt (Int.ediv_le_self _ hd.1) hd.2
  obtain ⟨m, hm, em⟩ := c_number (n + 1) a (d / 6) ⟨f0, f1⟩
  have md := num_dig m
  have mn := numL_ne m
  have ml : (numL m).length ≤ 9 := numL_len (by decide) (by omega)
  have es := str_num m (by omega)
  have hk : d % 6 = 0 ∨ d % 6 = 1 ∨ d % 6 = 2 ∨ d % 6 = 3 ∨ d % 6 = 4 ∨ d % 6 = 5 := by omega
  rcases hk with h | h | h | h | h | h
  · obtain ⟨c, hc, ec⟩ := ix_oth (a / 7 + d / 6)
    refine ⟨[c], ?_, Or.inr ⟨c, rfl, hc⟩, ?_, show (1 : Nat) ≤ 30 by decide⟩
    · simp -implicitDefEqProofs only [bindS, mapS, bindN, mapN, ifD_bl, bind_ite', map_ite', ev_c, ev_var, ev_rd, ev_gl, ev_tup, ev_lst, ev_bin, negD_int, ev_neg, notD_bl, ev_nt, ev_cmp, ev_chain, ev_an, ev_orr, ev_ife, ev_ix, ev_sl, isNo_nohi, isNo_c, isNo_var, isNo_bin, isNo_neg, isNo_bi, isNo_ix, isNo_call, isNo_me, endD_int, noIo_nil, ev_call, noIoL_nil, ev_callb, ev_bi, ev_lc, ev_lcr, evs_nil, evs_cons, shd_sh, own_ow, add_int, sub_int, mod_pos, fdiv_pos, lt_int, le_int, gt_int, ge_int, is_non_non, is_bl_bl, is_int_non, is_str_non, is_tup_non, is_lst_non, is_bl_non, isnot_non_non, isnot_int_non, isnot_str_non, isnot_tup_non, isnot_lst_non, isnot_bl_non, cmp_eq, cmp_ne, eq_int, eq_str, eq_bl, eq_non, eq_int_str, eq_str_int, eq_non_str, eq_str_non, eq_non_int, eq_int_non, len_tup, len_lst, len_fls, abs_int, int_int, int_bl, tuple_lst, tuple_tup, list_lst, list_tup, max_int, min_int, isint_int, isint_bl, isint_str, isint_tup, isint_lst, isint_non, isbool_int, isbool_bl, isbool_str, isbool_tup, isbool_lst, isbool_non, isstr_int, isstr_bl, isstr_str, isstr_tup, isstr_lst, isstr_non, istuple_int, istuple_bl, istuple_str, istuple_tup, istuple_lst, istuple_non, islist_int, islist_bl, islist_str, islist_tup, islist_lst, islist_non, ix_tup, ix_lsts, atI_0, atI_1, atI_2, atI_3, atI_4, atI_5, atI_6, atI_7, atI_8, atI_9, atI_10, atI_11, atI_12, ix_fls, ev_me, sl_lst, sl_tup, cmp_isin, cmp_notin, flat_str, flat_int, flat_bl, flat_non, eqF_str, in_tup, seqO_nx, seqO_rt, seqO_bk, seqO_ct, exs_nil, exs_cons, ex_set, setoD_lst, ex_seto, ex_unp, augD_int, ex_aug, ex_expr, appD_lst, ex_app, mthD_lst, ex_mth, mthxD_lst, ex_mthx, om_clear, om_pop, om_reverse, setsD_lst, ex_sets, ex_ret, ex_reto, ex_retn, ex_iff, ex_whl, ex_for, ex_forr, ex_brk, ex_cnt, ex_pass, ex_share, it_tup, it_lst, it_str, it_fls, tg_one, wipe_one, nxO_nx, nxO_ct, nxO_bk, nxO_rt, forD_nil, lcD_nil, lcD_cons, consO_some, consO_none, ansO_nx, ansO_rt, ansO_ite, sizeLine_lit, pow_lit, toNx_nx, toNx_ct, toNx_ite, toA_some, toA_ite, List.getElem?_cons_zero, List.getElem?_cons_succ, List.getElem?_nil, List.set_cons_zero, List.set_cons_succ, List.set_nil, List.length_cons, List.length_nil, List.length_map, List.length_append, List.length_range, List.length_replicate, List.map_cons, List.map_nil, List.cons_append, List.nil_append, List.append_nil, List.replicate_succ, List.replicate_zero, Nat.reduceAdd, Nat.reduceSub, Nat.reduceMul, Nat.reduceLT, Nat.reduceLeDiff, Nat.reduceEqDiff, Nat.reduceMod, Nat.reduceDiv, Nat.reducePow, Int.reduceAdd, Int.reduceSub, Int.reduceMul, Int.reduceNeg, Int.reduceLT, Int.reduceLE, Int.reduceGT, Int.reduceGE, Int.reduceEq, Int.reduceNe, Int.reduceMod, Int.reduceDiv, Int.reducePow, Int.reduceToNat, Nat.add_zero, Nat.zero_add, Nat.sub_zero, Nat.zero_le, Nat.lt_irrefl, ite_true, ite_false, Bool.not_true, Bool.not_false, Bool.true_and, Bool.false_and, Bool.and_true, Bool.and_false, Bool.true_or, Bool.false_or, Bool.or_true, Bool.or_false, Bool.false_eq_true, Bool.true_eq_false, decide_true, decide_false, decide_eq_true_eq, Bool.not_eq_true', Bool.not_eq_false', decide_eq_false_iff_not, decide_not, not_true_eq_false, not_false_eq_true, and_true, true_and, and_false, false_and, or_true, true_or, or_false, false_or, and_self, or_self, if_true, if_false, reduceCtorEq, Fn.start, Int.cast_ofNat_Int, List.all_cons, List.all_nil, List.any_cons, List.any_nil, f_law_bad, em, h, ec, mod_pos _ 6 (by decide), mod_pos _ 43 (by decide), fdiv_pos _ 6 (by decide) (by decide), fdiv_pos _ 7 (by decide) (by decide)]
    · unfold okL
      rw [List.all_cons, decide_eq_true (oth_in hc).2.2.2.2]
      rfl
  · obtain ⟨w, ew, w1, w2, w3, w4, w5, w6, w7⟩ := c_long n L hL hp (d / 6) ⟨f0, f1⟩
    have m0 := Int.emod_nonneg (d / 6) (show (8 : Int) ≠ 0 by decide)
    have m1 := Int.emod_lt_of_pos (d / 6) (show (0 : Int) < 8 by decide)
    obtain ⟨j, hj⟩ := Int.eq_ofNat_of_zero_le m0
    have hs : slD (.str (st w)) none (some (13 + (j : Int))) = some (.str (st (w.take (13 + j)))) := by
      rw [show (13 : Int) + (j : Int) = ((13 + j : Nat) : Int) by omega]
      exact take_st w _ (by omega)
    have hl : (w.take (13 + j)).length = 13 + j := by rw [List.length_take]; omega
    refine ⟨w.take (13 + j), ?_, Or.inl (Or.inl ⟨?_, ?_, ?_⟩), ok_sub w7 fun c hc => List.mem_of_mem_take hc, by omega⟩
    · simp -implicitDefEqProofs only [bindS, mapS, bindN, mapN, ifD_bl, bind_ite', map_ite', ev_c, ev_var, ev_rd, ev_gl, ev_tup, ev_lst, ev_bin, negD_int, ev_neg, notD_bl, ev_nt, ev_cmp, ev_chain, ev_an, ev_orr, ev_ife, ev_ix, ev_sl, isNo_nohi, isNo_c, isNo_var, isNo_bin, isNo_neg, isNo_bi, isNo_ix, isNo_call, isNo_me, endD_int, noIo_nil, ev_call, noIoL_nil, ev_callb, ev_bi, ev_lc, ev_lcr, evs_nil, evs_cons, shd_sh, own_ow, add_int, sub_int, mod_pos, fdiv_pos, lt_int, le_int, gt_int, ge_int, is_non_non, is_bl_bl, is_int_non, is_str_non, is_tup_non, is_lst_non, is_bl_non, isnot_non_non, isnot_int_non, isnot_str_non, isnot_tup_non, isnot_lst_non, isnot_bl_non, cmp_eq, cmp_ne, eq_int, eq_str, eq_bl, eq_non, eq_int_str, eq_str_int, eq_non_str, eq_str_non, eq_non_int, eq_int_non, len_tup, len_lst, len_fls, abs_int, int_int, int_bl, tuple_lst, tuple_tup, list_lst, list_tup, max_int, min_int, isint_int, isint_bl, isint_str, isint_tup, isint_lst, isint_non, isbool_int, isbool_bl, isbool_str, isbool_tup, isbool_lst, isbool_non, isstr_int, isstr_bl, isstr_str, isstr_tup, isstr_lst, isstr_non, istuple_int, istuple_bl, istuple_str, istuple_tup, istuple_lst, istuple_non, islist_int, islist_bl, islist_str, islist_tup, islist_lst, islist_non, ix_tup, ix_lsts, atI_0, atI_1, atI_2, atI_3, atI_4, atI_5, atI_6, atI_7, atI_8, atI_9, atI_10, atI_11, atI_12, ix_fls, ev_me, sl_lst, sl_tup, cmp_isin, cmp_notin, flat_str, flat_int, flat_bl, flat_non, eqF_str, in_tup, seqO_nx, seqO_rt, seqO_bk, seqO_ct, exs_nil, exs_cons, ex_set, setoD_lst, ex_seto, ex_unp, augD_int, ex_aug, ex_expr, appD_lst, ex_app, mthD_lst, ex_mth, mthxD_lst, ex_mthx, om_clear, om_pop, om_reverse, setsD_lst, ex_sets, ex_ret, ex_reto, ex_retn, ex_iff, ex_whl, ex_for, ex_forr, ex_brk, ex_cnt, ex_pass, ex_share, it_tup, it_lst, it_str, it_fls, tg_one, wipe_one, nxO_nx, nxO_ct, nxO_bk, nxO_rt, forD_nil, lcD_nil, lcD_cons, consO_some, consO_none, ansO_nx, ansO_rt, ansO_ite, sizeLine_lit, pow_lit, toNx_nx, toNx_ct, toNx_ite, toA_some, toA_ite, List.getElem?_cons_zero, List.getElem?_cons_succ, List.getElem?_nil, List.set_cons_zero, List.set_cons_succ, List.set_nil, List.length_cons, List.length_nil, List.length_map, List.length_append, List.length_range, List.length_replicate, List.map_cons, List.map_nil, List.cons_append, List.nil_append, List.append_nil, List.replicate_succ, List.replicate_zero, Nat.reduceAdd, Nat.reduceSub, Nat.reduceMul, Nat.reduceLT, Nat.reduceLeDiff, Nat.reduceEqDiff, Nat.reduceMod, Nat.reduceDiv, Nat.reducePow, Int.reduceAdd, Int.reduceSub, Int.reduceMul, Int.reduceNeg, Int.reduceLT, Int.reduceLE, Int.reduceGT, Int.reduceGE, Int.reduceEq, Int.reduceNe, Int.reduceMod, Int.reduceDiv, Int.reducePow, Int.reduceToNat, Nat.add_zero, Nat.zero_add, Nat.sub_zero, Nat.zero_le, Nat.lt_irrefl, ite_true, ite_false, Bool.not_true, Bool.not_false, Bool.true_and, Bool.false_and, Bool.and_true, Bool.and_false, Bool.true_or, Bool.false_or, Bool.or_true, Bool.or_false, Bool.false_eq_true, Bool.true_eq_false, decide_true, decide_false, decide_eq_true_eq, Bool.not_eq_true', Bool.not_eq_false', decide_eq_false_iff_not, decide_not, not_true_eq_false, not_false_eq_true, and_true, true_and, and_false, false_and, or_true, true_or, or_false, false_or, and_self, or_self, if_true, if_false, reduceCtorEq, Fn.start, Int.cast_ofNat_Int, List.all_cons, List.all_nil, List.any_cons, List.any_nil, f_law_bad, em, h, ew, hj, hs, mod_pos _ 6 (by decide), mod_pos _ 8 (by decide), fdiv_pos _ 6 (by decide) (by decide)]
    · intro e
      rw [e] at hl
      simp only [List.length_nil] at hl
      omega
    · exact List.all_eq_true.mpr fun c hc => List.all_eq_true.mp w5 c (List.mem_of_mem_take hc)
    · have hh : (w.take (13 + j)).headD 0 = w.headD 0 := by
        cases w with
        | nil => rw [List.take_nil]
        | cons c r => rw [show 13 + j = (12 + j) + 1 by omega]; rfl
      unfold kindL
      rw [hh, w6, if_neg (by decide), if_neg, if_pos (by omega)]
      rw [mem_kwL]
      intro hm
      obtain ⟨s, hs, e⟩ := List.mem_map.mp hm
      have := (kw_vw s hs).2.2.1
      rw [e, hl] at this
      omega
  · have e0 : q "0" = st [48] := by decide +kernel
    have hs : binD .add (.str (st [48])) (.str (st (numL m))) = some (.str (st (48 :: numL m))) := add_st [48] (numL m) (by simp only [List.length_cons, List.length_nil]; omega)
    have hda : (48 :: numL m).all isDig = true := by rw [List.all_cons, md]; rfl
    refine ⟨48 :: numL m, ?_, bw_num (dig_run hda) rfl ?_, dig_ok hda, by rw [List.length_cons]; omega⟩
    · simp -implicitDefEqProofs only [bindS, mapS, bindN, mapN, ifD_bl, bind_ite', map_ite', ev_c, ev_var, ev_rd, ev_gl, ev_tup, ev_lst, ev_bin, negD_int, ev_neg, notD_bl, ev_nt, ev_cmp, ev_chain, ev_an, ev_orr, ev_ife, ev_ix, ev_sl, isNo_nohi, isNo_c, isNo_var, isNo_bin, isNo_neg, isNo_bi, isNo_ix, isNo_call, isNo_me, endD_int, noIo_nil, ev_call, noIoL_nil, ev_callb, ev_bi, ev_lc, ev_lcr, evs_nil, evs_cons, shd_sh, own_ow, add_int, sub_int, mod_pos, fdiv_pos, lt_int, le_int, gt_int, ge_int, is_non_non, is_bl_bl, is_int_non, is_str_non, is_tup_non, is_lst_non, is_bl_non, isnot_non_non, isnot_int_non, isnot_str_non, isnot_tup_non, isnot_lst_non, isnot_bl_non, cmp_eq, cmp_ne, eq_int, eq_str, eq_bl, eq_non, eq_int_str, eq_str_int, eq_non_str, eq_str_non, eq_non_int, eq_int_non, len_tup, len_lst, len_fls, abs_int, int_int, int_bl, tuple_lst, tuple_tup, list_lst, list_tup, max_int, min_int, isint_int, isint_bl, isint_str, isint_tup, isint_lst, isint_non, isbool_int, isbool_bl, isbool_str, isbool_tup, isbool_lst, isbool_non, isstr_int, isstr_bl, isstr_str, isstr_tup, isstr_lst, isstr_non, istuple_int, istuple_bl, istuple_str, istuple_tup, istuple_lst, istuple_non, islist_int, islist_bl, islist_str, islist_tup, islist_lst, islist_non, ix_tup, ix_lsts, atI_0, atI_1, atI_2, atI_3, atI_4, atI_5, atI_6, atI_7, atI_8, atI_9, atI_10, atI_11, atI_12, ix_fls, ev_me, sl_lst, sl_tup, cmp_isin, cmp_notin, flat_str, flat_int, flat_bl, flat_non, eqF_str, in_tup, seqO_nx, seqO_rt, seqO_bk, seqO_ct, exs_nil, exs_cons, ex_set, setoD_lst, ex_seto, ex_unp, augD_int, ex_aug, ex_expr, appD_lst, ex_app, mthD_lst, ex_mth, mthxD_lst, ex_mthx, om_clear, om_pop, om_reverse, setsD_lst, ex_sets, ex_ret, ex_reto, ex_retn, ex_iff, ex_whl, ex_for, ex_forr, ex_brk, ex_cnt, ex_pass, ex_share, it_tup, it_lst, it_str, it_fls, tg_one, wipe_one, nxO_nx, nxO_ct, nxO_bk, nxO_rt, forD_nil, lcD_nil, lcD_cons, consO_some, consO_none, ansO_nx, ansO_rt, ansO_ite, sizeLine_lit, pow_lit, toNx_nx, toNx_ct, toNx_ite, toA_some, toA_ite, List.getElem?_cons_zero, List.getElem?_cons_succ, List.getElem?_nil, List.set_cons_zero, List.set_cons_succ, List.set_nil, List.length_cons, List.length_nil, List.length_map, List.length_append, List.length_range, List.length_replicate, List.map_cons, List.map_nil, List.cons_append, List.nil_append, List.append_nil, List.replicate_succ, List.replicate_zero, Nat.reduceAdd, Nat.reduceSub, Nat.reduceMul, Nat.reduceLT, Nat.reduceLeDiff, Nat.reduceEqDiff, Nat.reduceMod, Nat.reduceDiv, Nat.reducePow, Int.reduceAdd, Int.reduceSub, Int.reduceMul, Int.reduceNeg, Int.reduceLT, Int.reduceLE, Int.reduceGT, Int.reduceGE, Int.reduceEq, Int.reduceNe, Int.reduceMod, Int.reduceDiv, Int.reducePow, Int.reduceToNat, Nat.add_zero, Nat.zero_add, Nat.sub_zero, Nat.zero_le, Nat.lt_irrefl, ite_true, ite_false, Bool.not_true, Bool.not_false, Bool.true_and, Bool.false_and, Bool.and_true, Bool.and_false, Bool.true_or, Bool.false_or, Bool.or_true, Bool.or_false, Bool.false_eq_true, Bool.true_eq_false, decide_true, decide_false, decide_eq_true_eq, Bool.not_eq_true', Bool.not_eq_false', decide_eq_false_iff_not, decide_not, not_true_eq_false, not_false_eq_true, and_true, true_and, and_false, false_and, or_true, true_or, or_false, false_or, and_self, or_self, if_true, if_false, reduceCtorEq, Fn.start, Int.cast_ofNat_Int, List.all_cons, List.all_nil, List.any_cons, List.any_nil, f_law_bad, em, h, es, e0, hs, mod_pos _ 6 (by decide), fdiv_pos _ 6 (by decide) (by decide)]
    · have := List.length_pos_iff.mpr mn
      unfold numOk
      rw [hda, show (48 :: numL m)[0]? = some 48 from rfl, decide_eq_true rfl, decide_eq_true (show 1 < (48 :: numL m).length by rw [List.length_cons]; omega)]
      simp
  · have m0 := Int.emod_nonneg (d / 6) (show (5 : Int) ≠ 0 by decide)
    have m1 := Int.emod_lt_of_pos (d / 6) (show (0 : Int) < 5 by decide)
    obtain ⟨j, hj⟩ := Int.eq_ofNat_of_zero_le m0
    have hb := str_num (1000000000 + m) (by omega)
    rw [show ((1000000000 + m : Nat) : Int) = 1000000000 + (m : Int) by omega] at hb
    have c5 : (cd "90876").length = 5 ∧ (cd "90876").all isDig = true := by decide +kernel
    have hs : slD (.str (q "90876")) none (some (j : Int)) = some (.str (st ((cd "90876").take j))) := by
      rw [q_st]
      exact take_st _ j (by omega)
    have nd := num_dig (1000000000 + m)
    have nl := num_lo 9 (1000000000 + m) (by omega)
    have nu : (numL (1000000000 + m)).length ≤ 10 := numL_len (by decide) (by omega)
    have tl : ((cd "90876").take j).length ≤ 5 := by rw [List.length_take]; omega
    have ha : binD .add (.str (st (numL (1000000000 + m)))) (.str (st ((cd "90876").take j))) = some (.str (st (numL (1000000000 + m) ++ (cd "90876").take j))) := add_st _ _ (by omega)
    have hda : (numL (1000000000 + m) ++ (cd "90876").take j).all isDig = true := by
      rw [List.all_append, nd, Bool.true_and]
      exact List.all_eq_true.mpr fun c hc => List.all_eq_true.mp c5.2 c (List.mem_of_mem_take hc)
    refine ⟨_, ?_, bw_num (dig_run hda) (dig_head nd (numL_ne _)) ?_, dig_ok hda, by rw [List.length_append]; omega⟩
    · simp -implicitDefEqProofs only [bindS, mapS, bindN, mapN, ifD_bl, bind_ite', map_ite', ev_c, ev_var, ev_rd, ev_gl, ev_tup, ev_lst, ev_bin, negD_int, ev_neg, notD_bl, ev_nt, ev_cmp, ev_chain, ev_an, ev_orr, ev_ife, ev_ix, ev_sl, isNo_nohi, isNo_c, isNo_var, isNo_bin, isNo_neg, isNo_bi, isNo_ix, isNo_call, isNo_me, endD_int, noIo_nil, ev_call, noIoL_nil, ev_callb, ev_bi, ev_lc, ev_lcr, evs_nil, evs_cons, shd_sh, own_ow, add_int, sub_int, mod_pos, fdiv_pos, lt_int, le_int, gt_int, ge_int, is_non_non, is_bl_bl, is_int_non, is_str_non, is_tup_non, is_lst_non, is_bl_non, isnot_non_non, isnot_int_non, isnot_str_non, isnot_tup_non, isnot_lst_non, isnot_bl_non, cmp_eq, cmp_ne, eq_int, eq_str, eq_bl, eq_non, eq_int_str, eq_str_int, eq_non_str, eq_str_non, eq_non_int, eq_int_non, len_tup, len_lst, len_fls, abs_int, int_int, int_bl, tuple_lst, tuple_tup, list_lst, list_tup, max_int, min_int, isint_int, isint_bl, isint_str, isint_tup, isint_lst, isint_non, isbool_int, isbool_bl, isbool_str, isbool_tup, isbool_lst, isbool_non, isstr_int, isstr_bl, isstr_str, isstr_tup, isstr_lst, isstr_non, istuple_int, istuple_bl, istuple_str, istuple_tup, istuple_lst, istuple_non, islist_int, islist_bl, islist_str, islist_tup, islist_lst, islist_non, ix_tup, ix_lsts, atI_0, atI_1, atI_2, atI_3, atI_4, atI_5, atI_6, atI_7, atI_8, atI_9, atI_10, atI_11, atI_12, ix_fls, ev_me, sl_lst, sl_tup, cmp_isin, cmp_notin, flat_str, flat_int, flat_bl, flat_non, eqF_str, in_tup, seqO_nx, seqO_rt, seqO_bk, seqO_ct, exs_nil, exs_cons, ex_set, setoD_lst, ex_seto, ex_unp, augD_int, ex_aug, ex_expr, appD_lst, ex_app, mthD_lst, ex_mth, mthxD_lst, ex_mthx, om_clear, om_pop, om_reverse, setsD_lst, ex_sets, ex_ret, ex_reto, ex_retn, ex_iff, ex_whl, ex_for, ex_forr, ex_brk, ex_cnt, ex_pass, ex_share, it_tup, it_lst, it_str, it_fls, tg_one, wipe_one, nxO_nx, nxO_ct, nxO_bk, nxO_rt, forD_nil, lcD_nil, lcD_cons, consO_some, consO_none, ansO_nx, ansO_rt, ansO_ite, sizeLine_lit, pow_lit, toNx_nx, toNx_ct, toNx_ite, toA_some, toA_ite, List.getElem?_cons_zero, List.getElem?_cons_succ, List.getElem?_nil, List.set_cons_zero, List.set_cons_succ, List.set_nil, List.length_cons, List.length_nil, List.length_map, List.length_append, List.length_range, List.length_replicate, List.map_cons, List.map_nil, List.cons_append, List.nil_append, List.append_nil, List.replicate_succ, List.replicate_zero, Nat.reduceAdd, Nat.reduceSub, Nat.reduceMul, Nat.reduceLT, Nat.reduceLeDiff, Nat.reduceEqDiff, Nat.reduceMod, Nat.reduceDiv, Nat.reducePow, Int.reduceAdd, Int.reduceSub, Int.reduceMul, Int.reduceNeg, Int.reduceLT, Int.reduceLE, Int.reduceGT, Int.reduceGE, Int.reduceEq, Int.reduceNe, Int.reduceMod, Int.reduceDiv, Int.reducePow, Int.reduceToNat, Nat.add_zero, Nat.zero_add, Nat.sub_zero, Nat.zero_le, Nat.lt_irrefl, ite_true, ite_false, Bool.not_true, Bool.not_false, Bool.true_and, Bool.false_and, Bool.and_true, Bool.and_false, Bool.true_or, Bool.false_or, Bool.or_true, Bool.or_false, Bool.false_eq_true, Bool.true_eq_false, decide_true, decide_false, decide_eq_true_eq, Bool.not_eq_true', Bool.not_eq_false', decide_eq_false_iff_not, decide_not, not_true_eq_false, not_false_eq_true, and_true, true_and, and_false, false_and, or_true, true_or, or_false, false_or, and_self, or_self, if_true, if_false, reduceCtorEq, Fn.start, Int.cast_ofNat_Int, List.all_cons, List.all_nil, List.any_cons, List.any_nil, f_law_bad, em, h, hb, hj, hs, ha, mod_pos _ 6 (by decide), mod_pos _ 5 (by decide), fdiv_pos _ 6 (by decide) (by decide)]
    · unfold numOk
      rw [decide_eq_false (by rw [List.length_append]; omega)]
      rfl
  · have p0 := Int.emod_nonneg (d / 6) (show (30 : Int) ≠ 0 by decide)
    have p1 := Int.emod_lt_of_pos (d / 6) (show (0 : Int) < 30 by decide)
    obtain ⟨b, hb, eb⟩ := at_strs L (d / 6 % 30) p0 (by rw [hL]; exact p1)
    obtain ⟨b1, b2, b3, b4⟩ := pool_let b (hp b hb)
    have eb' : ixD (.lst (L.map fun s => D.str (q s))) (.int (d / 6 % 30)) = some (.str (st (cd b))) := by rw [← q_st]; exact eb
    have ha : binD .add (.str (st (numL m))) (.str (st (cd b))) = some (.str (st (numL m ++ cd b))) := add_st _ _ (by omega)
    refine ⟨numL m ++ cd b, ?_, bw_num ?_ (dig_head md mn) ?_, ?_, by rw [List.length_append]; omega⟩
    · simp -implicitDefEqProofs only [bindS, mapS, bindN, mapN, ifD_bl, bind_ite', map_ite', ev_c, ev_var, ev_rd, ev_gl, ev_tup, ev_lst, ev_bin, negD_int, ev_neg, notD_bl, ev_nt, ev_cmp, ev_chain, ev_an, ev_orr, ev_ife, ev_ix, ev_sl, isNo_nohi, isNo_c, isNo_var, isNo_bin, isNo_neg, isNo_bi, isNo_ix, isNo_call, isNo_me, endD_int, noIo_nil, ev_call, noIoL_nil, ev_callb, ev_bi, ev_lc, ev_lcr, evs_nil, evs_cons, shd_sh, own_ow, add_int, sub_int, mod_pos, fdiv_pos, lt_int, le_int, gt_int, ge_int, is_non_non, is_bl_bl, is_int_non, is_str_non, is_tup_non, is_lst_non, is_bl_non, isnot_non_non, isnot_int_non, isnot_str_non, isnot_tup_non, isnot_lst_non, isnot_bl_non, cmp_eq, cmp_ne, eq_int, eq_str, eq_bl, eq_non, eq_int_str, eq_str_int, eq_non_str, eq_str_non, eq_non_int, eq_int_non, len_tup, len_lst, len_fls, abs_int, int_int, int_bl, tuple_lst, tuple_tup, list_lst, list_tup, max_int, min_int, isint_int, isint_bl, isint_str, isint_tup, isint_lst, isint_non, isbool_int, isbool_bl, isbool_str, isbool_tup, isbool_lst, isbool_non, isstr_int, isstr_bl, isstr_str, isstr_tup, isstr_lst, isstr_non, istuple_int, istuple_bl, istuple_str, istuple_tup, istuple_lst, istuple_non, islist_int, islist_bl, islist_str, islist_tup, islist_lst, islist_non, ix_tup, ix_lsts, atI_0, atI_1, atI_2, atI_3, atI_4, atI_5, atI_6, atI_7, atI_8, atI_9, atI_10, atI_11, atI_12, ix_fls, ev_me, sl_lst, sl_tup, cmp_isin, cmp_notin, flat_str, flat_int, flat_bl, flat_non, eqF_str, in_tup, seqO_nx, seqO_rt, seqO_bk, seqO_ct, exs_nil, exs_cons, ex_set, setoD_lst, ex_seto, ex_unp, augD_int, ex_aug, ex_expr, appD_lst, ex_app, mthD_lst, ex_mth, mthxD_lst, ex_mthx, om_clear, om_pop, om_reverse, setsD_lst, ex_sets, ex_ret, ex_reto, ex_retn, ex_iff, ex_whl, ex_for, ex_forr, ex_brk, ex_cnt, ex_pass, ex_share, it_tup, it_lst, it_str, it_fls, tg_one, wipe_one, nxO_nx, nxO_ct, nxO_bk, nxO_rt, forD_nil, lcD_nil, lcD_cons, consO_some, consO_none, ansO_nx, ansO_rt, ansO_ite, sizeLine_lit, pow_lit, toNx_nx, toNx_ct, toNx_ite, toA_some, toA_ite, List.getElem?_cons_zero, List.getElem?_cons_succ, List.getElem?_nil, List.set_cons_zero, List.set_cons_succ, List.set_nil, List.length_cons, List.length_nil, List.length_map, List.length_append, List.length_range, List.length_replicate, List.map_cons, List.map_nil, List.cons_append, List.nil_append, List.append_nil, List.replicate_succ, List.replicate_zero, Nat.reduceAdd, Nat.reduceSub, Nat.reduceMul, Nat.reduceLT, Nat.reduceLeDiff, Nat.reduceEqDiff, Nat.reduceMod, Nat.reduceDiv, Nat.reducePow, Int.reduceAdd, Int.reduceSub, Int.reduceMul, Int.reduceNeg, Int.reduceLT, Int.reduceLE, Int.reduceGT, Int.reduceGE, Int.reduceEq, Int.reduceNe, Int.reduceMod, Int.reduceDiv, Int.reducePow, Int.reduceToNat, Nat.add_zero, Nat.zero_add, Nat.sub_zero, Nat.zero_le, Nat.lt_irrefl, ite_true, ite_false, Bool.not_true, Bool.not_false, Bool.true_and, Bool.false_and, Bool.and_true, Bool.and_false, Bool.true_or, Bool.false_or, Bool.or_true, Bool.or_false, Bool.false_eq_true, Bool.true_eq_false, decide_true, decide_false, decide_eq_true_eq, Bool.not_eq_true', Bool.not_eq_false', decide_eq_false_iff_not, decide_not, not_true_eq_false, not_false_eq_true, and_true, true_and, and_false, false_and, or_true, true_or, or_false, false_or, and_self, or_self, if_true, if_false, reduceCtorEq, Fn.start, Int.cast_ofNat_Int, List.all_cons, List.all_nil, List.any_cons, List.any_nil, f_law_bad, em, h, es, eb', ha, mod_pos _ 6 (by decide), mod_pos _ 30 (by decide), fdiv_pos _ 6 (by decide) (by decide)]
    · rw [List.all_append, dig_run md, b1]
      rfl
    · unfold numOk
      rw [List.all_append, b2, Bool.and_false, Bool.false_and, Bool.and_false]
    · have := dig_ok md
      unfold okL at *
      rw [List.all_append, this, b3]
      rfl
  · obtain ⟨c, hc, ec⟩ := ix_oth (d / 6)
    refine ⟨[c], ?_, Or.inr ⟨c, rfl, hc⟩, ?_, show (1 : Nat) ≤ 30 by decide⟩
    · simp -implicitDefEqProofs only [bindS, mapS, bindN, mapN, ifD_bl, bind_ite', map_ite', ev_c, ev_var, ev_rd, ev_gl, ev_tup, ev_lst, ev_bin, negD_int, ev_neg, notD_bl, ev_nt, ev_cmp, ev_chain, ev_an, ev_orr, ev_ife, ev_ix, ev_sl, isNo_nohi, isNo_c, isNo_var, isNo_bin, isNo_neg, isNo_bi, isNo_ix, isNo_call, isNo_me, endD_int, noIo_nil, ev_call, noIoL_nil, ev_callb, ev_bi, ev_lc, ev_lcr, evs_nil, evs_cons, shd_sh, own_ow, add_int, sub_int, mod_pos, fdiv_pos, lt_int, le_int, gt_int, ge_int, is_non_non, is_bl_bl, is_int_non, is_str_non, is_tup_non, is_lst_non, is_bl_non, isnot_non_non, isnot_int_non, isnot_str_non, isnot_tup_non, isnot_lst_non, isnot_bl_non, cmp_eq, cmp_ne, eq_int, eq_str, eq_bl, eq_non, eq_int_str, eq_str_int, eq_non_str, eq_str_non, eq_non_int, eq_int_non, len_tup, len_lst, len_fls, abs_int, int_int, int_bl, tuple_lst, tuple_tup, list_lst, list_tup, max_int, min_int, isint_int, isint_bl, isint_str, isint_tup, isint_lst, isint_non, isbool_int, isbool_bl, isbool_str, isbool_tup, isbool_lst, isbool_non, isstr_int, isstr_bl, isstr_str, isstr_tup, isstr_lst, isstr_non, istuple_int, istuple_bl, istuple_str, istuple_tup, istuple_lst, istuple_non, islist_int, islist_bl, islist_str, islist_tup, islist_lst, islist_non, ix_tup, ix_lsts, atI_0, atI_1, atI_2, atI_3, atI_4, atI_5, atI_6, atI_7, atI_8, atI_9, atI_10, atI_11, atI_12, ix_fls, ev_me, sl_lst, sl_tup, cmp_isin, cmp_notin, flat_str, flat_int, flat_bl, flat_non, eqF_str, in_tup, seqO_nx, seqO_rt, seqO_bk, seqO_ct, exs_nil, exs_cons, ex_set, setoD_lst, ex_seto, ex_unp, augD_int, ex_aug, ex_expr, appD_lst, ex_app, mthD_lst, ex_mth, mthxD_lst, ex_mthx, om_clear, om_pop, om_reverse, setsD_lst, ex_sets, ex_ret, ex_reto, ex_retn, ex_iff, ex_whl, ex_for, ex_forr, ex_brk, ex_cnt, ex_pass, ex_share, it_tup, it_lst, it_str, it_fls, tg_one, wipe_one, nxO_nx, nxO_ct, nxO_bk, nxO_rt, forD_nil, lcD_nil, lcD_cons, consO_some, consO_none, ansO_nx, ansO_rt, ansO_ite, sizeLine_lit, pow_lit, toNx_nx, toNx_ct, toNx_ite, toA_some, toA_ite, List.getElem?_cons_zero, List.getElem?_cons_succ, List.getElem?_nil, List.set_cons_zero, List.set_cons_succ, List.set_nil, List.length_cons, List.length_nil, List.length_map, List.length_append, List.length_range, List.length_replicate, List.map_cons, List.map_nil, List.cons_append, List.nil_append, List.append_nil, List.replicate_succ, List.replicate_zero, Nat.reduceAdd, Nat.reduceSub, Nat.reduceMul, Nat.reduceLT, Nat.reduceLeDiff, Nat.reduceEqDiff, Nat.reduceMod, Nat.reduceDiv, Nat.reducePow, Int.reduceAdd, Int.reduceSub, Int.reduceMul, Int.reduceNeg, Int.reduceLT, Int.reduceLE, Int.reduceGT, Int.reduceGE, Int.reduceEq, Int.reduceNe, Int.reduceMod, Int.reduceDiv, Int.reducePow, Int.reduceToNat, Nat.add_zero, Nat.zero_add, Nat.sub_zero, Nat.zero_le, Nat.lt_irrefl, ite_true, ite_false, Bool.not_true, Bool.not_false, Bool.true_and, Bool.false_and, Bool.and_true, Bool.and_false, Bool.true_or, Bool.false_or, Bool.or_true, Bool.or_false, Bool.false_eq_true, Bool.true_eq_false, decide_true, decide_false, decide_eq_true_eq, Bool.not_eq_true', Bool.not_eq_false', decide_eq_false_iff_not, decide_not, not_true_eq_false, not_false_eq_true, and_true, true_and, and_false, false_and, or_true, true_or, or_false, false_or, and_self, or_self, if_true, if_false, reduceCtorEq, Fn.start, Int.cast_ofNat_Int, List.all_cons, List.all_nil, List.any_cons, List.any_nil, f_law_bad, em, h, ec, mod_pos _ 6 (by decide), mod_pos _ 43 (by decide), fdiv_pos _ 6 (by decide) (by decide)]
    · unfold okL
      rw [List.all_cons, decide_eq_true (oth_in hc).2.2.2.2]
      rfl
end LW

namespace LW
open PySem PL TL
/-- the state of the loop that lays tokens -/
def PK (x0 x1 x2 x3 x4 x5 : D) (k : Nat) (s : PL.Env) : Prop := ∃ (T : List Nat) (r c : Int) (bf : List Nat) (E : List D) (e f g : Sl), s = [.sh x0, .sh x1, .sh x2, .sh x3, .sh x4, .sh x5, .sh (.str (st T)), .sh (.lst [.int r, .int c]), .sh (.str (st bf)), .ow (.lst E), e, f, g] ∧ Inv T r c bf E k
theorem tokens_step (n : Nat) (a : Int) (x1 : D) (L : List String) (hL : L.length = 30) (hp : ∀ s ∈ L, s ∈ poolS) (pk gp rm : List Int) (h1 : ∀ x ∈ pk, 0 ≤ x ∧ x < 1000) (h3 : ∀ x ∈ rm, 0 ≤ x ∧ x < 1000)
    (k : Nat) (s : PL.Env) (hk : k < 12) (l1 : k < pk.length) (l2 : k < gp.length) (l3 : k < rm.length) (h : PK (.lst (L.map fun s => D.str (q s))) x1 (.lst (pk.map .int)) (.int a) (.lst (gp.map .int)) (.lst (rm.map .int)) k s) :
    toNx (PK (.lst (L.map fun s => D.str (q s))) x1 (.lst (pk.map .int)) (.int a) (.lst (gp.map .int)) (.lst (rm.map .int)) (k + 1)) ((tgD [10] (.int (k : Int)) s).bind (exs (call T G (n + 3)) G b_law_tokens_0)) := by
  obtain ⟨T, r, c, bf, E, e, f, g, rfl, I⟩ := h
  have i1 := ix_ints pk (k : Int) (by omega) (by omega)
  have i2 := ix_ints gp (k : Int) (by omega) (by omega)
  have i3 := ix_ints rm (k : Int) (by omega) (by omega)
  rw [Int.toNat_natCast] at i1 i2 i3
  obtain ⟨kd, w, et, hv, ow, lw, hkd, hks⟩ := c_token n L hL hp (pk.getD k 0) a (nth_in h1 k)
  obtain ⟨g0, eg, hg, og, lg⟩ := c_gap (n + 1) (gp.getD k 0) (rm.getD k 0) (nth_in h3 k)
  obtain ⟨j, ej, hj⟩ := c_joined (n + 2) bf w (by have := I.bl; omega) (by omega) (vw_ne hv)
  have hE : E.length < 16777216 := by rw [I.el]; omega
  have tlen := I.tl
  have main : ∀ g1 : List Nat, Gap g1 → okL g1 = true → g1.length ≤ 20 → (g1 = [] → bf ≠ [] → ∀ l, Ok bf (w ++ l)) → ∀ e' f' g' : Sl,
      PK (.lst (L.map fun s => D.str (q s))) x1 (.lst (pk.map .int)) (.int a) (.lst (gp.map .int)) (.lst (rm.map .int)) (k + 1) [.sh (.lst (L.map fun s => D.str (q s))), .sh x1, .sh (.lst (pk.map .int)), .sh (.int a), .sh (.lst (gp.map .int)), .sh (.lst (rm.map .int)), .sh (.str (st (T ++ g1 ++ w))), .sh (.lst [.int (mv (mv (r, c) g1) w).1, .int (mv (mv (r, c) g1) w).2]), .sh (.str (st w)), .ow (.lst (E ++ [tokD kd w (mv (r, c) g1).1 (mv (r, c) g1).2])), e', f', g'] :=
    fun g1 u1 u2 u3 u4 e' f' g' => ⟨_, _, _, _, _, _, _, _, rfl, inv_step I hv hkd hks ow lw u1 u2 u3 u4⟩
  have mg : ∀ g1 : List Nat, call LW.T G (n + 3) k_law_moved [.lst [.int r, .int c], .str (st g1)] = _ := fun g1 => c_moved (n + 2) r c g1
  have mw : ∀ r c : Int, call LW.T G (n + 3) k_law_moved [.lst [.int r, .int c], .str (st w)] = _ := fun r c => c_moved (n + 2) r c w
  have at1 : ∀ g1 : List Nat, g1.length ≤ 20 → binD .add (.str (st T)) (.str (st g1)) = some (.str (st (T ++ g1))) := fun g1 hh => add_st T g1 (by omega)
  have at2 : ∀ g1 : List Nat, g1.length ≤ 20 → binD .add (.str (st (T ++ g1))) (.str (st w)) = some (.str (st (T ++ g1 ++ w))) := fun g1 hh => add_st _ w (by rw [List.length_append]; omega)
  have at3 : binD .add (.str (st T)) (.str (st w)) = some (.str (st (T ++ w))) := add_st T w (by omega)
  by_cases hg0 : g0 = []
  · subst hg0
    cases hjj : j with
    | true =>
      rw [hjj] at ej
      have z := main [32] (.sp .nil) (by decide) (by decide) (fun h => by cases h)
      simp -implicitDefEqProofs only [bindS, mapS, bindN, mapN, ifD_bl, bind_ite', map_ite', ev_c, ev_var, ev_rd, ev_gl, ev_tup, ev_lst, ev_bin, negD_int, ev_neg, notD_bl, ev_nt, ev_cmp, ev_chain, ev_an, ev_orr, ev_ife, ev_ix, ev_sl, isNo_nohi, isNo_c, isNo_var, isNo_bin, isNo_neg, isNo_bi, isNo_ix, isNo_call, isNo_me, endD_int, noIo_nil, ev_call, noIoL_nil, ev_callb, ev_bi, ev_lc, ev_lcr, evs_nil, evs_cons, shd_sh, own_ow, add_int, sub_int, mod_pos, fdiv_pos, lt_int, le_int, gt_int, ge_int, is_non_non, is_bl_bl, is_int_non, is_str_non, is_tup_non, is_lst_non, is_bl_non, isnot_non_non, isnot_int_non, isnot_str_non, isnot_tup_non, isnot_lst_non, isnot_bl_non, cmp_eq, cmp_ne, eq_int, eq_str, eq_bl, eq_non, eq_int_str, eq_str_int, eq_non_str, eq_str_non, eq_non_int, eq_int_non, len_tup, len_lst, len_fls, abs_int, int_int, int_bl, tuple_lst, tuple_tup, list_lst, list_tup, max_int, min_int, isint_int, isint_bl, isint_str, isint_tup, isint_lst, isint_non, isbool_int, isbool_bl, isbool_str, isbool_tup, isbool_lst, isbool_non, isstr_int, isstr_bl, isstr_str, isstr_tup, isstr_lst, isstr_non, istuple_int, istuple_bl, istuple_str, istuple_tup, istuple_lst, istuple_non, islist_int, islist_bl, islist_str, islist_tup, islist_lst, islist_non, ix_tup, ix_lsts, atI_0, atI_1, atI_2, atI_3, atI_4, atI_5, atI_6, atI_7, atI_8, atI_9, atI_10, atI_11, atI_12, ix_fls, ev_me, sl_lst, sl_tup, cmp_isin, cmp_notin, flat_str, flat_int, flat_bl, flat_non, eqF_str, in_tup, seqO_nx, seqO_rt, seqO_bk, seqO_ct, exs_nil, exs_cons, ex_set, setoD_lst, ex_seto, ex_unp, augD_int, ex_aug, ex_expr, appD_lst, ex_app, mthD_lst, ex_mth, mthxD_lst, ex_mthx, om_clear, om_pop, om_reverse, setsD_lst, ex_sets, ex_ret, ex_reto, ex_retn, ex_iff, ex_whl, ex_for, ex_forr, ex_brk, ex_cnt, ex_pass, ex_share, it_tup, it_lst, it_str, it_fls, tg_one, wipe_one, nxO_nx, nxO_ct, nxO_bk, nxO_rt, forD_nil, lcD_nil, lcD_cons, consO_some, consO_none, ansO_nx, ansO_rt, ansO_ite, sizeLine_lit, pow_lit, toNx_nx, toNx_ct, toNx_ite, toA_some, toA_ite, List.getElem?_cons_zero, List.getElem?_cons_succ, List.getElem?_nil, List.set_cons_zero, List.set_cons_succ, List.set_nil, List.length_cons, List.length_nil, List.length_map, List.length_append, List.length_range, List.length_replicate, List.map_cons, List.map_nil, List.cons_append, List.nil_append, List.append_nil, List.replicate_succ, List.replicate_zero, Nat.reduceAdd, Nat.reduceSub, Nat.reduceMul, Nat.reduceLT, Nat.reduceLeDiff, Nat.reduceEqDiff, Nat.reduceMod, Nat.reduceDiv, Nat.reducePow, Int.reduceAdd, Int.reduceSub, Int.reduceMul, Int.reduceNeg, Int.reduceLT, Int.reduceLE, Int.reduceGT, Int.reduceGE, Int.reduceEq, Int.reduceNe, Int.reduceMod, Int.reduceDiv, Int.reducePow, Int.reduceToNat, Nat.add_zero, Nat.zero_add, Nat.sub_zero, Nat.zero_le, Nat.lt_irrefl, ite_true, ite_false, Bool.not_true, Bool.not_false, Bool.true_and, Bool.false_and, Bool.and_true, Bool.and_false, Bool.true_or, Bool.false_or, Bool.or_true, Bool.or_false, Bool.false_eq_true, Bool.true_eq_false, decide_true, decide_false, decide_eq_true_eq, Bool.not_eq_true', Bool.not_eq_false', decide_eq_false_iff_not, decide_not, not_true_eq_false, not_false_eq_true, and_true, true_and, and_false, false_and, or_true, true_or, or_false, false_or, and_self, or_self, if_true, if_false, reduceCtorEq, Fn.start, Int.cast_ofNat_Int, List.all_cons, List.all_nil, List.any_cons, List.any_nil, b_law_tokens_0, i1, i2, i3, et, eg, q_empty, q_sp, ej, mg, mw, hE, at1 [32] (by decide), at2 [32] (by decide)]
      exact z _ _ _
    | false =>
      rw [hjj] at ej
      have z := main [] .nil (by decide) (by decide) (fun _ h => hj h hjj)
      simp only [List.append_nil] at z
      simp -implicitDefEqProofs only [bindS, mapS, bindN, mapN, ifD_bl, bind_ite', map_ite', ev_c, ev_var, ev_rd, ev_gl, ev_tup, ev_lst, ev_bin, negD_int, ev_neg, notD_bl, ev_nt, ev_cmp, ev_chain, ev_an, ev_orr, ev_ife, ev_ix, ev_sl, isNo_nohi, isNo_c, isNo_var, isNo_bin, isNo_neg, isNo_bi, isNo_ix, isNo_call, isNo_me, endD_int, noIo_nil, ev_call, noIoL_nil, ev_callb, ev_bi, ev_lc, ev_lcr, evs_nil, evs_cons, shd_sh, own_ow, add_int, sub_int, mod_pos, fdiv_pos, lt_int, le_int, gt_int, ge_int, is_non_non, is_bl_bl, is_int_non, is_str_non, is_tup_non, is_lst_non, is_bl_non, isnot_non_non, isnot_int_non, isnot_str_non, isnot_tup_non, isnot_lst_non, isnot_bl_non, cmp_eq, cmp_ne, eq_int, eq_str, eq_bl, eq_non, eq_int_str, eq_str_int, eq_non_str, eq_str_non, eq_non_int, eq_int_non, len_tup, len_lst, len_fls, abs_int, int_int, int_bl, tuple_lst, tuple_tup, list_lst, list_tup, max_int, min_int, isint_int, isint_bl, isint_str, isint_tup, isint_lst, isint_non, isbool_int, isbool_bl, isbool_str, isbool_tup, isbool_lst, isbool_non, isstr_int, isstr_bl, isstr_str, isstr_tup, isstr_lst, isstr_non, istuple_int, istuple_bl, istuple_str, istuple_tup, istuple_lst, istuple_non, islist_int, islist_bl, islist_str, islist_tup, islist_lst, islist_non, ix_tup, ix_lsts, atI_0, atI_1, atI_2, atI_3, atI_4, atI_5, atI_6, atI_7, atI_8, atI_9, atI_10, atI_11, atI_12, ix_fls, ev_me, sl_lst, sl_tup, cmp_isin, cmp_notin, flat_str, flat_int, flat_bl, flat_non, eqF_str, in_tup, seqO_nx, seqO_rt, seqO_bk, seqO_ct, exs_nil, exs_cons, ex_set, setoD_lst, ex_seto, ex_unp, augD_int, ex_aug, ex_expr, appD_lst, ex_app, mthD_lst, ex_mth, mthxD_lst, ex_mthx, om_clear, om_pop, om_reverse, setsD_lst, ex_sets, ex_ret, ex_reto, ex_retn, ex_iff, ex_whl, ex_for, ex_forr, ex_brk, ex_cnt, ex_pass, ex_share, it_tup, it_lst, it_str, it_fls, tg_one, wipe_one, nxO_nx, nxO_ct, nxO_bk, nxO_rt, forD_nil, lcD_nil, lcD_cons, consO_some, consO_none, ansO_nx, ansO_rt, ansO_ite, sizeLine_lit, pow_lit, toNx_nx, toNx_ct, toNx_ite, toA_some, toA_ite, List.getElem?_cons_zero, List.getElem?_cons_succ, List.getElem?_nil, List.set_cons_zero, List.set_cons_succ, List.set_nil, List.length_cons, List.length_nil, List.length_map, List.length_append, List.length_range, List.length_replicate, List.map_cons, List.map_nil, List.cons_append, List.nil_append, List.append_nil, List.replicate_succ, List.replicate_zero, Nat.reduceAdd, Nat.reduceSub, Nat.reduceMul, Nat.reduceLT, Nat.reduceLeDiff, Nat.reduceEqDiff, Nat.reduceMod, Nat.reduceDiv, Nat.reducePow, Int.reduceAdd, Int.reduceSub, Int.reduceMul, Int.reduceNeg, Int.reduceLT, Int.reduceLE, Int.reduceGT, Int.reduceGE, Int.reduceEq, Int.reduceNe, Int.reduceMod, Int.reduceDiv, Int.reducePow, Int.reduceToNat, Nat.add_zero, Nat.zero_add, Nat.sub_zero, Nat.zero_le, Nat.lt_irrefl, ite_true, ite_false, Bool.not_true, Bool.not_false, Bool.true_and, Bool.false_and, Bool.and_true, Bool.and_false, Bool.true_or, Bool.false_or, Bool.or_true, Bool.or_false, Bool.false_eq_true, Bool.true_eq_false, decide_true, decide_false, decide_eq_true_eq, Bool.not_eq_true', Bool.not_eq_false', decide_eq_false_iff_not, decide_not, not_true_eq_false, not_false_eq_true, and_true, true_and, and_false, false_and, or_true, true_or, or_false, false_or, and_self, or_self, if_true, if_false, reduceCtorEq, Fn.start, Int.cast_ofNat_Int, List.all_cons, List.all_nil, List.any_cons, List.any_nil, b_law_tokens_0, i1, i2, i3, et, eg, q_empty, ej, mg, mw, hE, at1 [] (by decide), at2 [] (by decide), at3]
      exact z _ _ _
  · have hg0' : (g0 = []) = False := eq_false hg0
    have z := main g0 hg og lg (fun h => absurd h hg0)
    simp -implicitDefEqProofs only [bindS, mapS, bindN, mapN, ifD_bl, bind_ite', map_ite', ev_c, ev_var, ev_rd, ev_gl, ev_tup, ev_lst, ev_bin, negD_int, ev_neg, notD_bl, ev_nt, ev_cmp, ev_chain, ev_an, ev_orr, ev_ife, ev_ix, ev_sl, isNo_nohi, isNo_c, isNo_var, isNo_bin, isNo_neg, isNo_bi, isNo_ix, isNo_call, isNo_me, endD_int, noIo_nil, ev_call, noIoL_nil, ev_callb, ev_bi, ev_lc, ev_lcr, evs_nil, evs_cons, shd_sh, own_ow, add_int, sub_int, mod_pos, fdiv_pos, lt_int, le_int, gt_int, ge_int, is_non_non, is_bl_bl, is_int_non, is_str_non, is_tup_non, is_lst_non, is_bl_non, isnot_non_non, isnot_int_non, isnot_str_non, isnot_tup_non, isnot_lst_non, isnot_bl_non, cmp_eq, cmp_ne, eq_int, eq_str, eq_bl, eq_non, eq_int_str, eq_str_int, eq_non_str, eq_str_non, eq_non_int, eq_int_non, len_tup, len_lst, len_fls, abs_int, int_int, int_bl, tuple_lst, tuple_tup, list_lst, list_tup, max_int, min_int, isint_int, isint_bl, isint_str, isint_tup, isint_lst, isint_non, isbool_int, isbool_bl, isbool_str, isbool_tup, isbool_lst, isbool_non, isstr_int, isstr_bl, isstr_str, isstr_tup, isstr_lst, isstr_non, istuple_int, istuple_bl, istuple_str, istuple_tup, istuple_lst, istuple_non, islist_int, islist_bl, islist_str, islist_tup, islist_lst, islist_non, ix_tup, ix_lsts, atI_0, atI_1, atI_2, atI_3, atI_4, atI_5, atI_6, atI_7, atI_8, atI_9, atI_10, atI_11, atI_12, ix_fls, ev_me, sl_lst, sl_tup, cmp_isin, cmp_notin, flat_str, flat_int, flat_bl, flat_non, eqF_str, in_tup, seqO_nx, seqO_rt, seqO_bk, seqO_ct, exs_nil, exs_cons, ex_set, setoD_lst, ex_seto, ex_unp, augD_int, ex_aug, ex_expr, appD_lst, ex_app, mthD_lst, ex_mth, mthxD_lst, ex_mthx, om_clear, om_pop, om_reverse, setsD_lst, ex_sets, ex_ret, ex_reto, ex_retn, ex_iff, ex_whl, ex_for, ex_forr, ex_brk, ex_cnt, ex_pass, ex_share, it_tup, it_lst, it_str, it_fls, tg_one, wipe_one, nxO_nx, nxO_ct, nxO_bk, nxO_rt, forD_nil, lcD_nil, lcD_cons, consO_some, consO_none, ansO_nx, ansO_rt, ansO_ite, sizeLine_lit, pow_lit, toNx_nx, toNx_ct, toNx_ite, toA_some, toA_ite, List.getElem?_cons_zero, List.getElem?_cons_succ, List.getElem?_nil, List.set_cons_zero, List.set_cons_succ, List.set_nil, List.length_cons, List.length_nil, List.length_map, List.length_append, List.length_range, List.length_replicate, List.map_cons, List.map_nil, List.cons_append, List.nil_append, List.append_nil, List.replicate_succ, List.replicate_zero, Nat.reduceAdd, Nat.reduceSub, Nat.reduceMul, Nat.reduceLT, Nat.reduceLeDiff, Nat.reduceEqDiff, Nat.reduceMod, Nat.reduceDiv, Nat.reducePow, Int.reduceAdd, Int.reduceSub, Int.reduceMul, Int.reduceNeg, Int.reduceLT, Int.reduceLE, Int.reduceGT, Int.reduceGE, Int.reduceEq, Int.reduceNe, Int.reduceMod, Int.reduceDiv, Int.reducePow, Int.reduceToNat, Nat.add_zero, Nat.zero_add, Nat.sub_zero, Nat.zero_le, Nat.lt_irrefl, ite_true, ite_false, Bool.not_true, Bool.not_false, Bool.true_and, Bool.false_and, Bool.and_true, Bool.and_false, Bool.true_or, Bool.false_or, Bool.or_true, Bool.or_false, Bool.false_eq_true, Bool.true_eq_false, decide_true, decide_false, decide_eq_true_eq, Bool.not_eq_true', Bool.not_eq_false', decide_eq_false_iff_not, decide_not, not_true_eq_false, not_false_eq_true, and_true, true_and, and_false, false_and, or_true, true_or, or_false, false_or, and_self, or_self, if_true, if_false, reduceCtorEq, Fn.start, Int.cast_ofNat_Int, List.all_cons, List.all_nil, List.any_cons, List.any_nil, b_law_tokens_0, i1, i2, i3, et, eg, q_empty, st_inj, hg0', ej, mg, mw, hE, at1 g0 lg, at2 g0 lg]
    exact z _ _ _
theorem c_tokens (n : Nat) (a : Int) (L : List String) (hL : L.length = 30) (hp : ∀ s ∈ L, s ∈ poolS) (many : Nat) (hm : many ≤ 5) (pk gp rm : List Int) (l1 : many ≤ pk.length) (l2 : many ≤ gp.length) (l3 : many ≤ rm.length) (h1 : ∀ x ∈ pk, 0 ≤ x ∧ x < 1000) (h3 : ∀ x ∈ rm, 0 ≤ x ∧ x < 1000) :
    ∃ T r c bf E, call LW.T G (n + 4) k_law_tokens [.lst (L.map fun s => D.str (q s)), .int (many : Int), .lst (pk.map .int), .int a, .lst (gp.map .int), .lst (rm.map .int)] = some (.lst [.str (st T), .lst [.int r, .int c], .str (st bf), .lst E], []) ∧ Inv T r c bf E many := by
  rw [call_of T_law_tokens rfl]
  obtain ⟨s', ef, T1, r, c, bf, E, e, f, g, rfl, I⟩ := for_rng (t := tgD [10]) (b := exs (call LW.T G (n + 3)) G b_law_tokens_0) (PK (.lst (L.map fun s => D.str (q s))) (.int (many : Int)) (.lst (pk.map .int)) (.int a) (.lst (gp.map .int)) (.lst (rm.map .int))) many
    [.sh (.lst (L.map fun s => D.str (q s))), .sh (.int (many : Int)), .sh (.lst (pk.map .int)), .sh (.int a), .sh (.lst (gp.map .int)), .sh (.lst (rm.map .int)), .sh (.str (st [])), .sh (.lst [.int 1, .int 1]), .sh (.str (st [])), .ow (.lst []), .un, .un, .un]
    ⟨[], 1, 1, [], [], _, _, _, rfl, ⟨fun l _ => rfl, by decide, by decide, rfl, rfl, fun d hd => by cases hd⟩⟩
    fun k s hk => tokens_step n a _ L hL hp pk gp rm h1 h3 k s (by omega) (by omega) (by omega) (by omega)
  refine ⟨T1, r, c, bf, E, ?_, I⟩
  simp -implicitDefEqProofs only [bindS, mapS, bindN, mapN, ifD_bl, bind_ite', map_ite', ev_c, ev_var, ev_rd, ev_gl, ev_tup, ev_lst, ev_bin, negD_int, ev_neg, notD_bl, ev_nt, ev_cmp, ev_chain, ev_an, ev_orr, ev_ife, ev_ix, ev_sl, isNo_nohi, isNo_c, isNo_var, isNo_bin, isNo_neg, isNo_bi, isNo_ix, isNo_call, isNo_me, endD_int, noIo_nil, ev_call, noIoL_nil, ev_callb, ev_bi, ev_lc, ev_lcr, evs_nil, evs_cons, shd_sh, own_ow, add_int, sub_int, mod_pos, fdiv_pos, lt_int, le_int, gt_int, ge_int, is_non_non, is_bl_bl, is_int_non, is_str_non, is_tup_non, is_lst_non, is_bl_non, isnot_non_non, isnot_int_non, isnot_str_non, isnot_tup_non, isnot_lst_non, isnot_bl_non, cmp_eq, cmp_ne, eq_int, eq_str, eq_bl, eq_non, eq_int_str, eq_str_int, eq_non_str, eq_str_non, eq_non_int, eq_int_non, len_tup, len_lst, len_fls, abs_int, int_int, int_bl, tuple_lst, tuple_tup, list_lst, list_tup, max_int, min_int, isint_int, isint_bl, isint_str, isint_tup, isint_lst, isint_non, isbool_int, isbool_bl, isbool_str, isbool_tup, isbool_lst, isbool_non, isstr_int, isstr_bl, isstr_str, isstr_tup, isstr_lst, isstr_non, istuple_int, istuple_bl, istuple_str, istuple_tup, istuple_lst, istuple_non, islist_int, islist_bl, islist_str, islist_tup, islist_lst, islist_non, ix_tup, ix_lsts, atI_0, atI_1, atI_2, atI_3, atI_4, atI_5, atI_6, atI_7, atI_8, atI_9, atI_10, atI_11, atI_12, ix_fls, ev_me, sl_lst, sl_tup, cmp_isin, cmp_notin, flat_str, flat_int, flat_bl, flat_non, eqF_str, in_tup, seqO_nx, seqO_rt, seqO_bk, seqO_ct, exs_nil, exs_cons, ex_set, setoD_lst, ex_seto, ex_unp, augD_int, ex_aug, ex_expr, appD_lst, ex_app, mthD_lst, ex_mth, mthxD_lst, ex_mthx, om_clear, om_pop, om_reverse, setsD_lst, ex_sets, ex_ret, ex_reto, ex_retn, ex_iff, ex_whl, ex_for, ex_forr, ex_brk, ex_cnt, ex_pass, ex_share, it_tup, it_lst, it_str, it_fls, tg_one, wipe_one, nxO_nx, nxO_ct, nxO_bk, nxO_rt, forD_nil, lcD_nil, lcD_cons, consO_some, consO_none, ansO_nx, ansO_rt, ansO_ite, sizeLine_lit, pow_lit, toNx_nx, toNx_ct, toNx_ite, toA_some, toA_ite, List.getElem?_cons_zero, List.getElem?_cons_succ, List.getElem?_nil, List.set_cons_zero, List.set_cons_succ, List.set_nil, List.length_cons, List.length_nil, List.length_map, List.length_append, List.length_range, List.length_replicate, List.map_cons, List.map_nil, List.cons_append, List.nil_append, List.append_nil, List.replicate_succ, List.replicate_zero, Nat.reduceAdd, Nat.reduceSub, Nat.reduceMul, Nat.reduceLT, Nat.reduceLeDiff, Nat.reduceEqDiff, Nat.reduceMod, Nat.reduceDiv, Nat.reducePow, Int.reduceAdd, Int.reduceSub, Int.reduceMul, Int.reduceNeg, Int.reduceLT, Int.reduceLE, Int.reduceGT, Int.reduceGE, Int.reduceEq, Int.reduceNe, Int.reduceMod, Int.reduceDiv, Int.reducePow, Int.reduceToNat, Nat.add_zero, Nat.zero_add, Nat.sub_zero, Nat.zero_le, Nat.lt_irrefl, ite_true, ite_false, Bool.not_true, Bool.not_false, Bool.true_and, Bool.false_and, Bool.and_true, Bool.and_false, Bool.true_or, Bool.false_or, Bool.or_true, Bool.or_false, Bool.false_eq_true, Bool.true_eq_false, decide_true, decide_false, decide_eq_true_eq, Bool.not_eq_true', Bool.not_eq_false', decide_eq_false_iff_not, decide_not, not_true_eq_false, not_false_eq_true, and_true, true_and, and_false, false_and, or_true, true_or, or_false, false_or, and_self, or_self, if_true, if_false, reduceCtorEq, Fn.start, Int.cast_ofNat_Int, List.all_cons, List.all_nil, List.any_cons, List.any_nil, f_law_tokens, q_empty, rng_nat many (by omega), ef]
end LW

namespace LW
open PySem PL TL
theorem bad_scan {T : List Nat} {r c : Int} {bf : List Nat} {E : List D} {k : Nat} (I : Inv T r c bf E k) {w g : List Nat} (hw : BW w) (hg : Gap g) (hb : g = [] → bf ≠ [] → ∀ l, Ok bf (w ++ l)) (l : List Nat) (hl : Ok w l) :
    S' 1 1 (((T ++ g) ++ w) ++ l) = E ++ [tokD (q "bad") w (mv (r, c) g).1 (mv (r, c) g).2] := by
  rw [List.append_assoc, List.append_assoc, I.go (g ++ (w ++ l)) (fun h0 => by
    by_cases hg0 : g = []
    · rw [hg0]
      exact hb hg0 h0 l
    · exact ok_of_head (gap_head hg hg0 _)), S_gap hg, S_bad _ _ w l (bw_tok hw hl) (bw_ne hw) (bw_head hw)]
theorem cut6 (l : List Int) (h : l.length = 11) : cutL (l.map D.int) (some 6) none = (l.drop 6).map D.int := by
  have e1 : HT.sIx (l.map D.int).length 0 (some 6) = 6 := by
    have := sIx_nat (l.map D.int).length 0 6
    rw [List.length_map, h] at this ⊢
    exact this
  unfold cutL
  rw [e1, HT.sIx_none, List.length_map, h, ← List.map_drop, List.take_of_length_le (by rw [List.length_map, List.length_drop]; omega)]
theorem main (ns : List Int) (_ : ns.length ≤ 63) : call T G 60 22 [.fls (ns.map .int)] = some (.bl true, []) := by
  have k0 := c_cell 58 ns 0
  have k1 := c_cell 58 ns 1
  have k2 := c_cell 58 ns 2
  have k3 := c_cell 58 ns 3
  have k4 := c_cell 58 ns 4
  have k5 := c_cell 58 ns 5
  have k6 := c_cell 58 ns 6
  rw [Int.cast_ofNat_Int] at k0 k1 k2 k3 k4 k5 k6
  obtain ⟨hd, e1, l1, h1⟩ := c_draws 58 (ns.getD 0 0) 6 (by decide)
  obtain ⟨pk, e2, l2, h2⟩ := c_draws 58 (ns.getD 1 0) 5 (by decide)
  obtain ⟨gp, e3, l3, h3⟩ := c_draws 58 (ns.getD 2 0) 11 (by decide)
  obtain ⟨rm, e4, l4, h4⟩ := c_draws 58 (ns.getD 4 0) 11 (by decide)
  obtain ⟨pk', e5, l5, h5⟩ := c_draws 58 (ns.getD 6 0) 3 (by decide)
  rw [Int.cast_ofNat_Int] at e1 e2 e3 e4 e5
  have i0 := ix_ints hd 0 (by omega) (by omega)
  have i1 := ix_ints hd 1 (by omega) (by omega)
  have i2 := ix_ints hd 2 (by omega) (by omega)
  have i3 := ix_ints hd 3 (by omega) (by omega)
  have i4 := ix_ints hd 4 (by omega) (by omega)
  have i5 := ix_ints hd 5 (by omega) (by omega)
  have gi := ix_ints gp 5 (by omega) (by omega)
  have ri := ix_ints rm 5 (by omega) (by omega)
  simp only [show (0 : Int).toNat = 0 from rfl, show (1 : Int).toNat = 1 from rfl, show (2 : Int).toNat = 2 from rfl, show (3 : Int).toNat = 3 from rfl, show (4 : Int).toNat = 4 from rfl, show (5 : Int).toNat = 5 from rfl] at i0 i1 i2 i3 i4 i5 gi ri
  obtain ⟨L, eL, hL, hp⟩ := c_names 58 (hd.getD 0 0) (hd.getD 1 0)
  have m0 := Int.emod_nonneg (hd.getD 2 0) (show (6 : Int) ≠ 0 by decide)
  have m1 := Int.emod_lt_of_pos (hd.getD 2 0) (show (0 : Int) < 6 by decide)
  obtain ⟨many, hmany⟩ := Int.eq_ofNat_of_zero_le m0
  have p0 := Int.emod_nonneg (hd.getD 4 0) (show (4 : Int) ≠ 0 by decide)
  have p1 := Int.emod_lt_of_pos (hd.getD 4 0) (show (0 : Int) < 4 by decide)
  obtain ⟨many', hmany'⟩ := Int.eq_ofNat_of_zero_le p0
  obtain ⟨T1, r, c, bf, E, eT, I⟩ := c_tokens 55 (ns.getD 3 0) L hL hp many (by omega) pk gp rm (by omega) (by omega) (by omega) h2 h4
  obtain ⟨T2, r', c', bf', E', eT', I'⟩ := c_tokens 55 (ns.getD 3 0) L hL hp many' (by omega) pk' (gp.drop 6) (rm.drop 6) (by omega) (by rw [List.length_drop]; omega) (by rw [List.length_drop]; omega) h5 (fun x hx => h4 x (List.mem_of_mem_drop hx))
  have cg := cut6 gp l3
  have cr := cut6 rm l4
  obtain ⟨w, ew, hw, ow, lw⟩ := c_bad 56 L hL hp (hd.getD 3 0) (ns.getD 5 0) (nth_in h1 3)
  obtain ⟨g0, eg, hg, og, lg⟩ := c_gap 57 (gp.getD 5 0) (rm.getD 5 0) (nth_in h4 5)
  obtain ⟨j, ej, hj⟩ := c_joined 58 bf w (by have := I.bl; omega) (by omega) (bw_ne hw)
  have tl := I.tl
  have tl' := I'.tl
  obtain ⟨g1, hg1, og1, lg1, hb1, gF⟩ : ∃ g1, Gap g1 ∧ okL g1 = true ∧ g1.length ≤ 20 ∧ (g1 = [] → bf ≠ [] → ∀ l, Ok bf (w ++ l)) ∧ ((g0 = [] ∧ j = true ∧ [32] = g1) ∨ (g0 = [] ∧ j = false ∧ [] = g1) ∨ ((g0 = []) = False ∧ g0 = g1)) := by
    by_cases h0 : g0 = []
    · cases hjj : j with
      | true => exact ⟨[32], .sp .nil, by decide, by decide, (fun h => nomatch h), Or.inl ⟨h0, rfl, rfl⟩⟩
      | false => exact ⟨[], .nil, by decide, by decide, fun _ h => hj h hjj, Or.inr (Or.inl ⟨h0, rfl, rfl⟩)⟩
    · exact ⟨g0, hg, og, lg, fun h => absurd h h0, Or.inr (Or.inr ⟨eq_false h0, rfl⟩)⟩
  obtain ⟨l0, ol0, ll0, eB⟩ : ∃ l0, okL l0 = true ∧ l0.length ≤ 300 ∧ L2.atI [D.str (st T2), D.str (st T2), D.str (st (126 :: T2))] (hd.getD 5 0 % 3) = some (.str (st l0)) := by
    have h : hd.getD 5 0 % 3 = 0 ∨ hd.getD 5 0 % 3 = 1 ∨ hd.getD 5 0 % 3 = 2 := by omega
    rcases h with h | h | h <;> rw [h]
    · exact ⟨T2, I'.ok, by omega, by rw [atI_0]; rfl⟩
    · exact ⟨T2, I'.ok, by omega, by rw [atI_1]; rfl⟩
    · exact ⟨126 :: T2, by have := I'.ok; unfold okL at *; rw [List.all_cons, this]; rfl, by rw [List.length_cons]; omega, by rw [atI_2]; rfl⟩
  obtain ⟨l9, ho9, ol9, ll9, lF⟩ : ∃ l9, Ok w l9 ∧ okL l9 = true ∧ l9.length ≤ 301 ∧ ((l0 = [] ∧ [] = l9) ∨ ((l0 = []) = False ∧ call LW.T G 59 k_law_joined [.str (st w), .str (st l0)] = some (.bl true, []) ∧ 32 :: l0 = l9) ∨ ((l0 = []) = False ∧ call LW.T G 59 k_law_joined [.str (st w), .str (st l0)] = some (.bl false, []) ∧ l0 = l9)) := by
    by_cases h0 : l0 = []
    · exact ⟨[], (fun d hd => by cases hd), rfl, by decide, Or.inl ⟨h0, rfl⟩⟩
    · obtain ⟨j', ej', hj'⟩ := c_joined 58 w l0 (by omega) (by omega) h0
      cases hjj : j' with
      | true =>
        rw [hjj] at ej'
        exact ⟨32 :: l0, ok_of_head (l := 32 :: l0) (fun d (hd : d ∈ some 32) => by cases hd; exact Or.inl rfl), by unfold okL at *; rw [List.all_cons, ol0]; rfl, by rw [List.length_cons]; omega, Or.inr (Or.inl ⟨eq_false h0, ej', rfl⟩)⟩
      | false =>
        have := hj' (bw_ne hw) hjj []
        rw [List.append_nil] at this
        rw [hjj] at ej'
        exact ⟨l0, this, ol0, by omega, Or.inr (Or.inr ⟨eq_false h0, ej', rfl⟩)⟩
  have hle : (T1 ++ g1).length = T1.length + g1.length := List.length_append
  have hle2 : (T1 ++ g1 ++ w).length = T1.length + g1.length + w.length := by rw [List.length_append, hle]
  have hle3 : (T1 ++ g1 ++ w ++ l9).length = T1.length + g1.length + w.length + l9.length := by rw [List.length_append, hle2]
  have mG : ∀ u, u = g1 → call LW.T G 59 k_law_moved [.lst [.int r, .int c], .str (st u)] = some (.lst [.int (mv (r, c) g1).1, .int (mv (r, c) g1).2], []) := fun u hu => by rw [hu]; exact c_moved 58 r c g1
  have aT : ∀ u, u = g1 → binD .add (.str (st T1)) (.str (st u)) = some (.str (st (T1 ++ g1))) := fun u hu => by rw [hu]; exact add_st T1 g1 (by omega)
  have aw := add_st (T1 ++ g1) w (by omega)
  have al : ∀ u, u = l9 → binD .add (.str (st (T1 ++ g1 ++ w))) (.str (st u)) = some (.str (st (T1 ++ g1 ++ w ++ l9))) := fun u hu => by rw [hu]; exact add_st _ _ (by omega)
  have at' : binD .add (.str (st [126])) (.str (st T2)) = some (.str (st (126 :: T2))) := add_st [126] T2 (by simp only [List.length_cons, List.length_nil]; omega)
  have as' : binD .add (.str (st [32])) (.str (st l0)) = some (.str (st (32 :: l0))) := add_st [32] l0 (by simp only [List.length_cons, List.length_nil]; omega)
  have t1 := c_token_list 55 (T1 ++ g1 ++ w ++ l9) (by omega)
  rw [show scan ((T1 ++ g1 ++ w ++ l9).length + 1) 1 1 (T1 ++ g1 ++ w ++ l9) = _ from bad_scan I hw hg1 hb1 l9 ho9] at t1
  have t2 := c_token_list 55 (T1 ++ g1 ++ w) (by omega)
  have b2 := bad_scan I hw hg1 hb1 [] (fun d hd => by cases hd)
  rw [List.append_nil] at b2
  rw [show scan ((T1 ++ g1 ++ w).length + 1) 1 1 (T1 ++ g1 ++ w) = _ from b2] at t2
  have t3 := c_token_list 55 (T1 ++ g1) (by omega)
  have b3 := inv_end I (Or.inl hg1) [] (fun d hd => by cases hd)
  rw [List.append_nil, S_nil] at b3
  rw [show scan ((T1 ++ g1).length + 1) 1 1 (T1 ++ g1) = _ from b3] at t3
  have tokE : ∀ d0 : D, isTok d0 → ∀ d ∈ E ++ [d0], isTok d := fun d0 h d hd => (List.mem_append.mp hd).elim (I.tk d) (fun h' => by rw [List.mem_singleton] at h'; rw [h']; exact h)
  have s1 := c_same 57 (E ++ [tokD (q "bad") w (mv (r, c) g1).1 (mv (r, c) g1).2]) (tokE _ ⟨_, _, _, _, rfl, by decide +kernel, ok_st ow⟩) (by rw [List.length_append, I.el]; simp only [List.length_cons, List.length_nil]; omega)
  have s2 := c_same 57 (E ++ [tokD (q "end") [] (mv (r, c) g1).1 (mv (r, c) g1).2]) (tokE _ ⟨_, _, _, _, rfl, by decide +kernel, by decide +kernel⟩) (by rw [List.length_append, I.el]; simp only [List.length_cons, List.length_nil]; omega)
  have de : ∀ i j : Int, D.tup [.str (q "end"), .str (st []), .int i, .int j] = tokD (q "end") [] i j := fun _ _ => rfl
  have db : ∀ i j : Int, D.tup [.str (q "bad"), .str (st w), .int i, .int j] = tokD (q "bad") w i j := fun _ _ => rfl
  have ae : ∀ x : D, binD .add (.lst E) (.lst [x]) = some (.lst (E ++ [x])) := fun x => if_pos (by rw [I.el, sizeLine_lit]; simp only [List.length_cons, List.length_nil]; omega)
  have e126 : q "~" = st [126] := by decide +kernel
  rw [call_of T_law rfl]
  rcases gF with ⟨rfl, rfl, u1⟩ | ⟨rfl, rfl, u1⟩ | ⟨u0, u1⟩ <;> rcases lF with ⟨rfl, v1⟩ | ⟨v0, v2, v1⟩ | ⟨v0, v2, v1⟩
  · simp -implicitDefEqProofs only [bindS, mapS, bindN, mapN, ifD_bl, bind_ite', map_ite', ev_c, ev_var, ev_rd, ev_gl, ev_tup, ev_lst, ev_bin, negD_int, ev_neg, notD_bl, ev_nt, ev_cmp, ev_chain, ev_an, ev_orr, ev_ife, ev_ix, ev_sl, isNo_nohi, isNo_c, isNo_var, isNo_bin, isNo_neg, isNo_bi, isNo_ix, isNo_call, isNo_me, endD_int, noIo_nil, ev_call, noIoL_nil, ev_callb, ev_bi, ev_lc, ev_lcr, evs_nil, evs_cons, shd_sh, own_ow, add_int, sub_int, mod_pos, fdiv_pos, lt_int, le_int, gt_int, ge_int, is_non_non, is_bl_bl, is_int_non, is_str_non, is_tup_non, is_lst_non, is_bl_non, isnot_non_non, isnot_int_non, isnot_str_non, isnot_tup_non, isnot_lst_non, isnot_bl_non, cmp_eq, cmp_ne, eq_int, eq_str, eq_bl, eq_non, eq_int_str, eq_str_int, eq_non_str, eq_str_non, eq_non_int, eq_int_non, len_tup, len_lst, len_fls, abs_int, int_int, int_bl, tuple_lst, tuple_tup, list_lst, list_tup, max_int, min_int, isint_int, isint_bl, isint_str, isint_tup, isint_lst, isint_non, isbool_int, isbool_bl, isbool_str, isbool_tup, isbool_lst, isbool_non, isstr_int, isstr_bl, isstr_str, isstr_tup, isstr_lst, isstr_non, istuple_int, istuple_bl, istuple_str, istuple_tup, istuple_lst, istuple_non, islist_int, islist_bl, islist_str, islist_tup, islist_lst, islist_non, ix_tup, ix_lsts, atI_0, atI_1, atI_2, atI_3, atI_4, atI_5, atI_6, atI_7, atI_8, atI_9, atI_10, atI_11, atI_12, ix_fls, ev_me, sl_lst, sl_tup, cmp_isin, cmp_notin, flat_str, flat_int, flat_bl, flat_non, eqF_str, in_tup, seqO_nx, seqO_rt, seqO_bk, seqO_ct, exs_nil, exs_cons, ex_set, setoD_lst, ex_seto, ex_unp, augD_int, ex_aug, ex_expr, appD_lst, ex_app, mthD_lst, ex_mth, mthxD_lst, ex_mthx, om_clear, om_pop, om_reverse, setsD_lst, ex_sets, ex_ret, ex_reto, ex_retn, ex_iff, ex_whl, ex_for, ex_forr, ex_brk, ex_cnt, ex_pass, ex_share, it_tup, it_lst, it_str, it_fls, tg_one, wipe_one, nxO_nx, nxO_ct, nxO_bk, nxO_rt, forD_nil, lcD_nil, lcD_cons, consO_some, consO_none, ansO_nx, ansO_rt, ansO_ite, sizeLine_lit, pow_lit, toNx_nx, toNx_ct, toNx_ite, toA_some, toA_ite, List.getElem?_cons_zero, List.getElem?_cons_succ, List.getElem?_nil, List.set_cons_zero, List.set_cons_succ, List.set_nil, List.length_cons, List.length_nil, List.length_map, List.length_append, List.length_range, List.length_replicate, List.map_cons, List.map_nil, List.cons_append, List.nil_append, List.append_nil, List.replicate_succ, List.replicate_zero, Nat.reduceAdd, Nat.reduceSub, Nat.reduceMul, Nat.reduceLT, Nat.reduceLeDiff, Nat.reduceEqDiff, Nat.reduceMod, Nat.reduceDiv, Nat.reducePow, Int.reduceAdd, Int.reduceSub, Int.reduceMul, Int.reduceNeg, Int.reduceLT, Int.reduceLE, Int.reduceGT, Int.reduceGE, Int.reduceEq, Int.reduceNe, Int.reduceMod, Int.reduceDiv, Int.reducePow, Int.reduceToNat, Nat.add_zero, Nat.zero_add, Nat.sub_zero, Nat.zero_le, Nat.lt_irrefl, ite_true, ite_false, Bool.not_true, Bool.not_false, Bool.true_and, Bool.false_and, Bool.and_true, Bool.and_false, Bool.true_or, Bool.false_or, Bool.or_true, Bool.or_false, Bool.false_eq_true, Bool.true_eq_false, decide_true, decide_false, decide_eq_true_eq, Bool.not_eq_true', Bool.not_eq_false', decide_eq_false_iff_not, decide_not, not_true_eq_false, not_false_eq_true, and_true, true_and, and_false, false_and, or_true, true_or, or_false, false_or, and_self, or_self, if_true, if_false, reduceCtorEq, Fn.start, Int.cast_ofNat_Int, List.all_cons, List.all_nil, List.any_cons, List.any_nil, f_law, k0, k1, k2, k3, k4, k5, k6, e1, e2, e3, e4, e5, i0, i1, i2, i3, i4, i5, gi, ri, eL, hmany, hmany', mod_pos _ 6, mod_pos _ 4, mod_pos _ 3, eT, eT', cg, cr, ew, eg, ej, q_empty, q_sp, e126, eB, st_inj, mG _ u1, aT _ u1, aw, al _ v1, at', as', t1, t2, t3, s1, s2, de, db, ae, if_pos (show noL (.bl true) = true from rfl)]
  · simp -implicitDefEqProofs only [bindS, mapS, bindN, mapN, ifD_bl, bind_ite', map_ite', ev_c, ev_var, ev_rd, ev_gl, ev_tup, ev_lst, ev_bin, negD_int, ev_neg, notD_bl, ev_nt, ev_cmp, ev_chain, ev_an, ev_orr, ev_ife, ev_ix, ev_sl, isNo_nohi, isNo_c, isNo_var, isNo_bin, isNo_neg, isNo_bi, isNo_ix, isNo_call, isNo_me, endD_int, noIo_nil, ev_call, noIoL_nil, ev_callb, ev_bi, ev_lc, ev_lcr, evs_nil, evs_cons, shd_sh, own_ow, add_int, sub_int, mod_pos, fdiv_pos, lt_int, le_int, gt_int, ge_int, is_non_non, is_bl_bl, is_int_non, is_str_non, is_tup_non, is_lst_non, is_bl_non, isnot_non_non, isnot_int_non, isnot_str_non, isnot_tup_non, isnot_lst_non, isnot_bl_non, cmp_eq, cmp_ne, eq_int, eq_str, eq_bl, eq_non, eq_int_str, eq_str_int, eq_non_str, eq_str_non, eq_non_int, eq_int_non, len_tup, len_lst, len_fls, abs_int, int_int, int_bl, tuple_lst, tuple_tup, list_lst, list_tup, max_int, min_int, isint_int, isint_bl, isint_str, isint_tup, isint_lst, isint_non, isbool_int, isbool_bl, isbool_str, isbool_tup, isbool_lst, isbool_non, isstr_int, isstr_bl, isstr_str, isstr_tup, isstr_lst, isstr_non, istuple_int, istuple_bl, istuple_str, istuple_tup, istuple_lst, istuple_non, islist_int, islist_bl, islist_str, islist_tup, islist_lst, islist_non, ix_tup, ix_lsts, atI_0, atI_1, atI_2, atI_3, atI_4, atI_5, atI_6, atI_7, atI_8, atI_9, atI_10, atI_11, atI_12, ix_fls, ev_me, sl_lst, sl_tup, cmp_isin, cmp_notin, flat_str, flat_int, flat_bl, flat_non, eqF_str, in_tup, seqO_nx, seqO_rt, seqO_bk, seqO_ct, exs_nil, exs_cons, ex_set, setoD_lst, ex_seto, ex_unp, augD_int, ex_aug, ex_expr, appD_lst, ex_app, mthD_lst, ex_mth, mthxD_lst, ex_mthx, om_clear, om_pop, om_reverse, setsD_lst, ex_sets, ex_ret, ex_reto, ex_retn, ex_iff, ex_whl, ex_for, ex_forr, ex_brk, ex_cnt, ex_pass, ex_share, it_tup, it_lst, it_str, it_fls, tg_one, wipe_one, nxO_nx, nxO_ct, nxO_bk, nxO_rt, forD_nil, lcD_nil, lcD_cons, consO_some, consO_none, ansO_nx, ansO_rt, ansO_ite, sizeLine_lit, pow_lit, toNx_nx, toNx_ct, toNx_ite, toA_some, toA_ite, List.getElem?_cons_zero, List.getElem?_cons_succ, List.getElem?_nil, List.set_cons_zero, List.set_cons_succ, List.set_nil, List.length_cons, List.length_nil, List.length_map, List.length_append, List.length_range, List.length_replicate, List.map_cons, List.map_nil, List.cons_append, List.nil_append, List.append_nil, List.replicate_succ, List.replicate_zero, Nat.reduceAdd, Nat.reduceSub, Nat.reduceMul, Nat.reduceLT, Nat.reduceLeDiff, Nat.reduceEqDiff, Nat.reduceMod, Nat.reduceDiv, Nat.reducePow, Int.reduceAdd, Int.reduceSub, Int.reduceMul, Int.reduceNeg, Int.reduceLT, Int.reduceLE, Int.reduceGT, Int.reduceGE, Int.reduceEq, Int.reduceNe, Int.reduceMod, Int.reduceDiv, Int.reducePow, Int.reduceToNat, Nat.add_zero, Nat.zero_add, Nat.sub_zero, Nat.zero_le, Nat.lt_irrefl, ite_true, ite_false, Bool.not_true, Bool.not_false, Bool.true_and, Bool.false_and, Bool.and_true, Bool.and_false, Bool.true_or, Bool.false_or, Bool.or_true, Bool.or_false, Bool.false_eq_true, Bool.true_eq_false, decide_true, decide_false, decide_eq_true_eq, Bool.not_eq_true', Bool.not_eq_false', decide_eq_false_iff_not, decide_not, not_true_eq_false, not_false_eq_true, and_true, true_and, and_false, false_and, or_true, true_or, or_false, false_or, and_self, or_self, if_true, if_false, reduceCtorEq, Fn.start, Int.cast_ofNat_Int, List.all_cons, List.all_nil, List.any_cons, List.any_nil, f_law, k0, k1, k2, k3, k4, k5, k6, e1, e2, e3, e4, e5, i0, i1, i2, i3, i4, i5, gi, ri, eL, hmany, hmany', mod_pos _ 6, mod_pos _ 4, mod_pos _ 3, eT, eT', cg, cr, ew, eg, ej, q_empty, q_sp, e126, eB, st_inj, mG _ u1, aT _ u1, aw, al _ v1, at', as', t1, t2, t3, s1, s2, de, db, ae, if_pos (show noL (.bl true) = true from rfl), v0, v2]
  · simp -implicitDefEqProofs only [bindS, mapS, bindN, mapN, ifD_bl, bind_ite', map_ite', ev_c, ev_var, ev_rd, ev_gl, ev_tup, ev_lst, ev_bin, negD_int, ev_neg, notD_bl, ev_nt, ev_cmp, ev_chain, ev_an, ev_orr, ev_ife, ev_ix, ev_sl, isNo_nohi, isNo_c, isNo_var, isNo_bin, isNo_neg, isNo_bi, isNo_ix, isNo_call, isNo_me, endD_int, noIo_nil, ev_call, noIoL_nil, ev_callb, ev_bi, ev_lc, ev_lcr, evs_nil, evs_cons, shd_sh, own_ow, add_int, sub_int, mod_pos, fdiv_pos, lt_int, le_int, gt_int, ge_int, is_non_non, is_bl_bl, is_int_non, is_str_non, is_tup_non, is_lst_non, is_bl_non, isnot_non_non, isnot_int_non, isnot_str_non, isnot_tup_non, isnot_lst_non, isnot_bl_non, cmp_eq, cmp_ne, eq_int, eq_str, eq_bl, eq_non, eq_int_str, eq_str_int, eq_non_str, eq_str_non, eq_non_int, eq_int_non, len_tup, len_lst, len_fls, abs_int, int_int, int_bl, tuple_lst, tuple_tup, list_lst, list_tup, max_int, min_int, isint_int, isint_bl, isint_str, isint_tup, isint_lst, isint_non, isbool_int, isbool_bl, isbool_str, isbool_tup, isbool_lst, isbool_non, isstr_int, isstr_bl, isstr_str, isstr_tup, isstr_lst, isstr_non, istuple_int, istuple_bl, istuple_str, istuple_tup, istuple_lst, istuple_non, islist_int, islist_bl, islist_str, islist_tup, islist_lst, islist_non, ix_tup, ix_lsts, atI_0, atI_1, atI_2, atI_3, atI_4, atI_5, atI_6, atI_7, atI_8, atI_9, atI_10, atI_11, atI_12, ix_fls, ev_me, sl_lst, sl_tup, cmp_isin, cmp_notin, flat_str, flat_int, flat_bl, flat_non, eqF_str, in_tup, seqO_nx, seqO_rt, seqO_bk, seqO_ct, exs_nil, exs_cons, ex_set, setoD_lst, ex_seto, ex_unp, augD_int, ex_aug, ex_expr, appD_lst, ex_app, mthD_lst, ex_mth, mthxD_lst, ex_mthx, om_clear, om_pop, om_reverse, setsD_lst, ex_sets, ex_ret, ex_reto, ex_retn, ex_iff, ex_whl, ex_for, ex_forr, ex_brk, ex_cnt, ex_pass, ex_share, it_tup, it_lst, it_str, it_fls, tg_one, wipe_one, nxO_nx, nxO_ct, nxO_bk, nxO_rt, forD_nil, lcD_nil, lcD_cons, consO_some, consO_none, ansO_nx, ansO_rt, ansO_ite, sizeLine_lit, pow_lit, toNx_nx, toNx_ct, toNx_ite, toA_some, toA_ite, List.getElem?_cons_zero, List.getElem?_cons_succ, List.getElem?_nil, List.set_cons_zero, List.set_cons_succ, List.set_nil, List.length_cons, List.length_nil, List.length_map, List.length_append, List.length_range, List.length_replicate, List.map_cons, List.map_nil, List.cons_append, List.nil_append, List.append_nil, List.replicate_succ, List.replicate_zero, Nat.reduceAdd, Nat.reduceSub, Nat.reduceMul, Nat.reduceLT, Nat.reduceLeDiff, Nat.reduceEqDiff, Nat.reduceMod, Nat.reduceDiv, Nat.reducePow, Int.reduceAdd, Int.reduceSub, Int.reduceMul, Int.reduceNeg, Int.reduceLT, Int.reduceLE, Int.reduceGT, Int.reduceGE, Int.reduceEq, Int.reduceNe, Int.reduceMod, Int.reduceDiv, Int.reducePow, Int.reduceToNat, Nat.add_zero, Nat.zero_add, Nat.sub_zero, Nat.zero_le, Nat.lt_irrefl, ite_true, ite_false, Bool.not_true, Bool.not_false, Bool.true_and, Bool.false_and, Bool.and_true, Bool.and_false, Bool.true_or, Bool.false_or, Bool.or_true, Bool.or_false, Bool.false_eq_true, Bool.true_eq_false, decide_true, decide_false, decide_eq_true_eq, Bool.not_eq_true', Bool.not_eq_false', decide_eq_false_iff_not, decide_not, not_true_eq_false, not_false_eq_true, and_true, true_and, and_false, false_and, or_true, true_or, or_false, false_or, and_self, or_self, if_true, if_false, reduceCtorEq, Fn.start, Int.cast_ofNat_Int, List.all_cons, List.all_nil, List.any_cons, List.any_nil, f_law, k0, k1, k2, k3, k4, k5, k6, e1, e2, e3, e4, e5, i0, i1, i2, i3, i4, i5, gi, ri, eL, hmany, hmany', mod_pos _ 6, mod_pos _ 4, mod_pos _ 3, eT, eT', cg, cr, ew, eg, ej, q_empty, q_sp, e126, eB, st_inj, mG _ u1, aT _ u1, aw, al _ v1, at', as', t1, t2, t3, s1, s2, de, db, ae, if_pos (show noL (.bl true) = true from rfl), v0, v2]
  · simp -implicitDefEqProofs only [bindS, mapS, bindN, mapN, ifD_bl, bind_ite', map_ite', ev_c, ev_var, ev_rd, ev_gl, ev_tup, ev_lst, ev_bin, negD_int, ev_neg, notD_bl, ev_nt, ev_cmp, ev_chain, ev_an, ev_orr, ev_ife, ev_ix, ev_sl, isNo_nohi, isNo_c, isNo_var, isNo_bin, isNo_neg, isNo_bi, isNo_ix, isNo_call, isNo_me, endD_int, noIo_nil, ev_call, noIoL_nil, ev_callb, ev_bi, ev_lc, ev_lcr, evs_nil, evs_cons, shd_sh, own_ow, add_int, sub_int, mod_pos, fdiv_pos, lt_int, le_int, gt_int, ge_int, is_non_non, is_bl_bl, is_int_non, is_str_non, is_tup_non, is_lst_non, is_bl_non, isnot_non_non, isnot_int_non, isnot_str_non, isnot_tup_non, isnot_lst_non, isnot_bl_non, cmp_eq, cmp_ne, eq_int, eq_str, eq_bl, eq_non, eq_int_str, eq_str_int, eq_non_str, eq_str_non, eq_non_int, eq_int_non, len_tup, len_lst, len_fls, abs_int, int_int, int_bl, tuple_lst, tuple_tup, list_lst, list_tup, max_int, min_int, isint_int, isint_bl, isint_str, isint_tup, isint_lst, isint_non, isbool_int, isbool_bl, isbool_str, isbool_tup, isbool_lst, isbool_non, isstr_int, isstr_bl, isstr_str, isstr_tup, isstr_lst, isstr_non, istuple_int, istuple_bl, istuple_str, istuple_tup, istuple_lst, istuple_non, islist_int, islist_bl, islist_str, islist_tup, islist_lst, islist_non, ix_tup, ix_lsts, atI_0, atI_1, atI_2, atI_3, atI_4, atI_5, atI_6, atI_7, atI_8, atI_9, atI_10, atI_11, atI_12, ix_fls, ev_me, sl_lst, sl_tup, cmp_isin, cmp_notin, flat_str, flat_int, flat_bl, flat_non, eqF_str, in_tup, seqO_nx, seqO_rt, seqO_bk, seqO_ct, exs_nil, exs_cons, ex_set, setoD_lst, ex_seto, ex_unp, augD_int, ex_aug, ex_expr, appD_lst, ex_app, mthD_lst, ex_mth, mthxD_lst, ex_mthx, om_clear, om_pop, om_reverse, setsD_lst, ex_sets, ex_ret, ex_reto, ex_retn, ex_iff, ex_whl, ex_for, ex_forr, ex_brk, ex_cnt, ex_pass, ex_share, it_tup, it_lst, it_str, it_fls, tg_one, wipe_one, nxO_nx, nxO_ct, nxO_bk, nxO_rt, forD_nil, lcD_nil, lcD_cons, consO_some, consO_none, ansO_nx, ansO_rt, ansO_ite, sizeLine_lit, pow_lit, toNx_nx, toNx_ct, toNx_ite, toA_some, toA_ite, List.getElem?_cons_zero, List.getElem?_cons_succ, List.getElem?_nil, List.set_cons_zero, List.set_cons_succ, List.set_nil, List.length_cons, List.length_nil, List.length_map, List.length_append, List.length_range, List.length_replicate, List.map_cons, List.map_nil, List.cons_append, List.nil_append, List.append_nil, List.replicate_succ, List.replicate_zero, Nat.reduceAdd, Nat.reduceSub, Nat.reduceMul, Nat.reduceLT, Nat.reduceLeDiff, Nat.reduceEqDiff, Nat.reduceMod, Nat.reduceDiv, Nat.reducePow, Int.reduceAdd, Int.reduceSub, Int.reduceMul, Int.reduceNeg, Int.reduceLT, Int.reduceLE, Int.reduceGT, Int.reduceGE, Int.reduceEq, Int.reduceNe, Int.reduceMod, Int.reduceDiv, Int.reducePow, Int.reduceToNat, Nat.add_zero, Nat.zero_add, Nat.sub_zero, Nat.zero_le, Nat.lt_irrefl, ite_true, ite_false, Bool.not_true, Bool.not_false, Bool.true_and, Bool.false_and, Bool.and_true, Bool.and_false, Bool.true_or, Bool.false_or, Bool.or_true, Bool.or_false, Bool.false_eq_true, Bool.true_eq_false, decide_true, decide_false, decide_eq_true_eq, Bool.not_eq_true', Bool.not_eq_false', decide_eq_false_iff_not, decide_not, not_true_eq_false, not_false_eq_true, and_true, true_and, and_false, false_and, or_true, true_or, or_false, false_or, and_self, or_self, if_true, if_false, reduceCtorEq, Fn.start, Int.cast_ofNat_Int, List.all_cons, List.all_nil, List.any_cons, List.any_nil, f_law, k0, k1, k2, k3, k4, k5, k6, e1, e2, e3, e4, e5, i0, i1, i2, i3, i4, i5, gi, ri, eL, hmany, hmany', mod_pos _ 6, mod_pos _ 4, mod_pos _ 3, eT, eT', cg, cr, ew, eg, ej, q_empty, q_sp, e126, eB, st_inj, mG _ u1, aT _ u1, aw, al _ v1, at', as', t1, t2, t3, s1, s2, de, db, ae, if_pos (show noL (.bl true) = true from rfl)]
  · simp -implicitDefEqProofs only [bindS, mapS, bindN, mapN, ifD_bl, bind_ite', map_ite', ev_c, ev_var, ev_rd, ev_gl, ev_tup, ev_lst, ev_bin, negD_int, ev_neg, notD_bl, ev_nt, ev_cmp, ev_chain, ev_an, ev_orr, ev_ife, ev_ix, ev_sl, isNo_nohi, isNo_c, isNo_var, isNo_bin, isNo_neg, isNo_bi, isNo_ix, isNo_call, isNo_me, endD_int, noIo_nil, ev_call, noIoL_nil, ev_callb, ev_bi, ev_lc, ev_lcr, evs_nil, evs_cons, shd_sh, own_ow, add_int, sub_int, mod_pos, fdiv_pos, lt_int, le_int, gt_int, ge_int, is_non_non, is_bl_bl, is_int_non, is_str_non, is_tup_non, is_lst_non, is_bl_non, isnot_non_non, isnot_int_non, isnot_str_non, isnot_tup_non, isnot_lst_non, isnot_bl_non, cmp_eq, cmp_ne, eq_int, eq_str, eq_bl, eq_non, eq_int_str, eq_str_int, eq_non_str, eq_str_non, eq_non_int, eq_int_non, len_tup, len_lst, len_fls, abs_int, int_int, int_bl, tuple_lst, tuple_tup, list_lst, list_tup, max_int, min_int, isint_int, isint_bl, isint_str, isint_tup, isint_lst, isint_non, isbool_int, isbool_bl, isbool_str, isbool_tup, isbool_lst, isbool_non, isstr_int, isstr_bl, isstr_str, isstr_tup, isstr_lst, isstr_non, istuple_int, istuple_bl, istuple_str, istuple_tup, istuple_lst, istuple_non, islist_int, islist_bl, islist_str, islist_tup, islist_lst, islist_non, ix_tup, ix_lsts, atI_0, atI_1, atI_2, atI_3, atI_4, atI_5, atI_6, atI_7, atI_8, atI_9, atI_10, atI_11, atI_12, ix_fls, ev_me, sl_lst, sl_tup, cmp_isin, cmp_notin, flat_str, flat_int, flat_bl, flat_non, eqF_str, in_tup, seqO_nx, seqO_rt, seqO_bk, seqO_ct, exs_nil, exs_cons, ex_set, setoD_lst, ex_seto, ex_unp, augD_int, ex_aug, ex_expr, appD_lst, ex_app, mthD_lst, ex_mth, mthxD_lst, ex_mthx, om_clear, om_pop, om_reverse, setsD_lst, ex_sets, ex_ret, ex_reto, ex_retn, ex_iff, ex_whl, ex_for, ex_forr, ex_brk, ex_cnt, ex_pass, ex_share, it_tup, it_lst, it_str, it_fls, tg_one, wipe_one, nxO_nx, nxO_ct, nxO_bk, nxO_rt, forD_nil, lcD_nil, lcD_cons, consO_some, consO_none, ansO_nx, ansO_rt, ansO_ite, sizeLine_lit, pow_lit, toNx_nx, toNx_ct, toNx_ite, toA_some, toA_ite, List.getElem?_cons_zero, List.getElem?_cons_succ, List.getElem?_nil, List.set_cons_zero, List.set_cons_succ, List.set_nil, List.length_cons, List.length_nil, List.length_map, List.length_append, List.length_range, List.length_replicate, List.map_cons, List.map_nil, List.cons_append, List.nil_append, List.append_nil, List.replicate_succ, List.replicate_zero, Nat.reduceAdd, Nat.reduceSub, Nat.reduceMul, Nat.reduceLT, Nat.reduceLeDiff, Nat.reduceEqDiff, Nat.reduceMod, Nat.reduceDiv, Nat.reducePow, Int.reduceAdd, Int.reduceSub, Int.reduceMul, Int.reduceNeg, Int.reduceLT, Int.reduceLE, Int.reduceGT, Int.reduceGE, Int.reduceEq, Int.reduceNe, Int.reduceMod, Int.reduceDiv, Int.reducePow, Int.reduceToNat, Nat.add_zero, Nat.zero_add, Nat.sub_zero, Nat.zero_le, Nat.lt_irrefl, ite_true, ite_false, Bool.not_true, Bool.not_false, Bool.true_and, Bool.false_and, Bool.and_true, Bool.and_false, Bool.true_or, Bool.false_or, Bool.or_true, Bool.or_false, Bool.false_eq_true, Bool.true_eq_false, decide_true, decide_false, decide_eq_true_eq, Bool.not_eq_true', Bool.not_eq_false', decide_eq_false_iff_not, decide_not, not_true_eq_false, not_false_eq_true, and_true, true_and, and_false, false_and, or_true, true_or, or_false, false_or, and_self, or_self, if_true, if_false, reduceCtorEq, Fn.start, Int.cast_ofNat_Int, List.all_cons, List.all_nil, List.any_cons, List.any_nil, f_law, k0, k1, k2, k3, k4, k5, k6, e1, e2, e3, e4, e5, i0, i1, i2, i3, i4, i5, gi, ri, eL, hmany, hmany', mod_pos _ 6, mod_pos _ 4, mod_pos _ 3, eT, eT', cg, cr, ew, eg, ej, q_empty, q_sp, e126, eB, st_inj, mG _ u1, aT _ u1, aw, al _ v1, at', as', t1, t2, t3, s1, s2, de, db, ae, if_pos (show noL (.bl true) = true from rfl), v0, v2]
  · simp -implicitDefEqProofs only [bindS, mapS, bindN, mapN, ifD_bl, bind_ite', map_ite', ev_c, ev_var, ev_rd, ev_gl, ev_tup, ev_lst, ev_bin, negD_int, ev_neg, notD_bl, ev_nt, ev_cmp, ev_chain, ev_an, ev_orr, ev_ife, ev_ix, ev_sl, isNo_nohi, isNo_c, isNo_var, isNo_bin, isNo_neg, isNo_bi, isNo_ix, isNo_call, isNo_me, endD_int, noIo_nil, ev_call, noIoL_nil, ev_callb, ev_bi, ev_lc, ev_lcr, evs_nil, evs_cons, shd_sh, own_ow, add_int, sub_int, mod_pos, fdiv_pos, lt_int, le_int, gt_int, ge_int, is_non_non, is_bl_bl, is_int_non, is_str_non, is_tup_non, is_lst_non, is_bl_non, isnot_non_non, isnot_int_non, isnot_str_non, isnot_tup_non, isnot_lst_non, isnot_bl_non, cmp_eq, cmp_ne, eq_int, eq_str, eq_bl, eq_non, eq_int_str, eq_str_int, eq_non_str, eq_str_non, eq_non_int, eq_int_non, len_tup, len_lst, len_fls, abs_int, int_int, int_bl, tuple_lst, tuple_tup, list_lst, list_tup, max_int, min_int, isint_int, isint_bl, isint_str, isint_tup, isint_lst, isint_non, isbool_int, isbool_bl, isbool_str, isbool_tup, isbool_lst, isbool_non, isstr_int, isstr_bl, isstr_str, isstr_tup, isstr_lst, isstr_non, istuple_int, istuple_bl, istuple_str, istuple_tup, istuple_lst, istuple_non, islist_int, islist_bl, islist_str, islist_tup, islist_lst, islist_non, ix_tup, ix_lsts, atI_0, atI_1, atI_2, atI_3, atI_4, atI_5, atI_6, atI_7, atI_8, atI_9, atI_10, atI_11, atI_12, ix_fls, ev_me, sl_lst, sl_tup, cmp_isin, cmp_notin, flat_str, flat_int, flat_bl, flat_non, eqF_str, in_tup, seqO_nx, seqO_rt, seqO_bk, seqO_ct, exs_nil, exs_cons, ex_set, setoD_lst, ex_seto, ex_unp, augD_int, ex_aug, ex_expr, appD_lst, ex_app, mthD_lst, ex_mth, mthxD_lst, ex_mthx, om_clear, om_pop, om_reverse, setsD_lst, ex_sets, ex_ret, ex_reto, ex_retn, ex_iff, ex_whl, ex_for, ex_forr, ex_brk, ex_cnt, ex_pass, ex_share, it_tup, it_lst, it_str, it_fls, tg_one, wipe_one, nxO_nx, nxO_ct, nxO_bk, nxO_rt, forD_nil, lcD_nil, lcD_cons, consO_some, consO_none, ansO_nx, ansO_rt, ansO_ite, sizeLine_lit, pow_lit, toNx_nx, toNx_ct, toNx_ite, toA_some, toA_ite, List.getElem?_cons_zero, List.getElem?_cons_succ, List.getElem?_nil, List.set_cons_zero, List.set_cons_succ, List.set_nil, List.length_cons, List.length_nil, List.length_map, List.length_append, List.length_range, List.length_replicate, List.map_cons, List.map_nil, List.cons_append, List.nil_append, List.append_nil, List.replicate_succ, List.replicate_zero, Nat.reduceAdd, Nat.reduceSub, Nat.reduceMul, Nat.reduceLT, Nat.reduceLeDiff, Nat.reduceEqDiff, Nat.reduceMod, Nat.reduceDiv, Nat.reducePow, Int.reduceAdd, Int.reduceSub, Int.reduceMul, Int.reduceNeg, Int.reduceLT, Int.reduceLE, Int.reduceGT, Int.reduceGE, Int.reduceEq, Int.reduceNe, Int.reduceMod, Int.reduceDiv, Int.reducePow, Int.reduceToNat, Nat.add_zero, Nat.zero_add, Nat.sub_zero, Nat.zero_le, Nat.lt_irrefl, ite_true, ite_false, Bool.not_true, Bool.not_false, Bool.true_and, Bool.false_and, Bool.and_true, Bool.and_false, Bool.true_or, Bool.false_or, Bool.or_true, Bool.or_false, Bool.false_eq_true, Bool.true_eq_false, decide_true, decide_false, decide_eq_true_eq, Bool.not_eq_true', Bool.not_eq_false', decide_eq_false_iff_not, decide_not, not_true_eq_false, not_false_eq_true, and_true, true_and, and_false, false_and, or_true, true_or, or_false, false_or, and_self, or_self, if_true, if_false, reduceCtorEq, Fn.start, Int.cast_ofNat_Int, List.all_cons, List.all_nil, List.any_cons, List.any_nil, f_law, k0, k1, k2, k3, k4, k5, k6, e1, e2, e3, e4, e5, i0, i1, i2, i3, i4, i5, gi, ri, eL, hmany, hmany', mod_pos _ 6, mod_pos _ 4, mod_pos _ 3, eT, eT', cg, cr, ew, eg, ej, q_empty, q_sp, e126, eB, st_inj, mG _ u1, aT _ u1, aw, al _ v1, at', as', t1, t2, t3, s1, s2, de, db, ae, if_pos (show noL (.bl true) = true from rfl), v0, v2]
  · simp -implicitDefEqProofs only [bindS, mapS, bindN, mapN, ifD_bl, bind_ite', map_ite', ev_c, ev_var, ev_rd, ev_gl, ev_tup, ev_lst, ev_bin, negD_int, ev_neg, notD_bl, ev_nt, ev_cmp, ev_chain, ev_an, ev_orr, ev_ife, ev_ix, ev_sl, isNo_nohi, isNo_c, isNo_var, isNo_bin, isNo_neg, isNo_bi, isNo_ix, isNo_call, isNo_me, endD_int, noIo_nil, ev_call, noIoL_nil, ev_callb, ev_bi, ev_lc, ev_lcr, evs_nil, evs_cons, shd_sh, own_ow, add_int, sub_int, mod_pos, fdiv_pos, lt_int, le_int, gt_int, ge_int, is_non_non, is_bl_bl, is_int_non, is_str_non, is_tup_non, is_lst_non, is_bl_non, isnot_non_non, isnot_int_non, isnot_str_non, isnot_tup_non, isnot_lst_non, isnot_bl_non, cmp_eq, cmp_ne, eq_int, eq_str, eq_bl, eq_non, eq_int_str, eq_str_int, eq_non_str, eq_str_non, eq_non_int, eq_int_non, len_tup, len_lst, len_fls, abs_int, int_int, int_bl, tuple_lst, tuple_tup, list_lst, list_tup, max_int, min_int, isint_int, isint_bl, isint_str, isint_tup, isint_lst, isint_non, isbool_int, isbool_bl, isbool_str, isbool_tup, isbool_lst, isbool_non, isstr_int, isstr_bl, isstr_str, isstr_tup, isstr_lst, isstr_non, istuple_int, istuple_bl, istuple_str, istuple_tup, istuple_lst, istuple_non, islist_int, islist_bl, islist_str, islist_tup, islist_lst, islist_non, ix_tup, ix_lsts, atI_0, atI_1, atI_2, atI_3, atI_4, atI_5, atI_6, atI_7, atI_8, atI_9, atI_10, atI_11, atI_12, ix_fls, ev_me, sl_lst, sl_tup, cmp_isin, cmp_notin, flat_str, flat_int, flat_bl, flat_non, eqF_str, in_tup, seqO_nx, seqO_rt, seqO_bk, seqO_ct, exs_nil, exs_cons, ex_set, setoD_lst, ex_seto, ex_unp, augD_int, ex_aug, ex_expr, appD_lst, ex_app, mthD_lst, ex_mth, mthxD_lst, ex_mthx, om_clear, om_pop, om_reverse, setsD_lst, ex_sets, ex_ret, ex_reto, ex_retn, ex_iff, ex_whl, ex_for, ex_forr, ex_brk, ex_cnt, ex_pass, ex_share, it_tup, it_lst, it_str, it_fls, tg_one, wipe_one, nxO_nx, nxO_ct, nxO_bk, nxO_rt, forD_nil, lcD_nil, lcD_cons, consO_some, consO_none, ansO_nx, ansO_rt, ansO_ite, sizeLine_lit, pow_lit, toNx_nx, toNx_ct, toNx_ite, toA_some, toA_ite, List.getElem?_cons_zero, List.getElem?_cons_succ, List.getElem?_nil, List.set_cons_zero, List.set_cons_succ, List.set_nil, List.length_cons, List.length_nil, List.length_map, List.length_append, List.length_range, List.length_replicate, List.map_cons, List.map_nil, List.cons_append, List.nil_append, List.append_nil, List.replicate_succ, List.replicate_zero, Nat.reduceAdd, Nat.reduceSub, Nat.reduceMul, Nat.reduceLT, Nat.reduceLeDiff, Nat.reduceEqDiff, Nat.reduceMod, Nat.reduceDiv, Nat.reducePow, Int.reduceAdd, Int.reduceSub, Int.reduceMul, Int.reduceNeg, Int.reduceLT, Int.reduceLE, Int.reduceGT, Int.reduceGE, Int.reduceEq, Int.reduceNe, Int.reduceMod, Int.reduceDiv, Int.reducePow, Int.reduceToNat, Nat.add_zero, Nat.zero_add, Nat.sub_zero, Nat.zero_le, Nat.lt_irrefl, ite_true, ite_false, Bool.not_true, Bool.not_false, Bool.true_and, Bool.false_and, Bool.and_true, Bool.and_false, Bool.true_or, Bool.false_or, Bool.or_true, Bool.or_false, Bool.false_eq_true, Bool.true_eq_false, decide_true, decide_false, decide_eq_true_eq, Bool.not_eq_true', Bool.not_eq_false', decide_eq_false_iff_not, decide_not, not_true_eq_false, not_false_eq_true, and_true, true_and, and_false, false_and, or_true, true_or, or_false, false_or, and_self, or_self, if_true, if_false, reduceCtorEq, Fn.start, Int.cast_ofNat_Int, List.all_cons, List.all_nil, List.any_cons, List.any_nil, f_law, k0, k1, k2, k3, k4, k5, k6, e1, e2, e3, e4, e5, i0, i1, i2, i3, i4, i5, gi, ri, eL, hmany, hmany', mod_pos _ 6, mod_pos _ 4, mod_pos _ 3, eT, eT', cg, cr, ew, eg, ej, q_empty, q_sp, e126, eB, st_inj, mG _ u1, aT _ u1, aw, al _ v1, at', as', t1, t2, t3, s1, s2, de, db, ae, if_pos (show noL (.bl true) = true from rfl), u0]
  · simp -implicitDefEqProofs only [bindS, mapS, bindN, mapN, ifD_bl, bind_ite', map_ite', ev_c, ev_var, ev_rd, ev_gl, ev_tup, ev_lst, ev_bin, negD_int, ev_neg, notD_bl, ev_nt, ev_cmp, ev_chain, ev_an, ev_orr, ev_ife, ev_ix, ev_sl, isNo_nohi, isNo_c, isNo_var, isNo_bin, isNo_neg, isNo_bi, isNo_ix, isNo_call, isNo_me, endD_int, noIo_nil, ev_call, noIoL_nil, ev_callb, ev_bi, ev_lc, ev_lcr, evs_nil, evs_cons, shd_sh, own_ow, add_int, sub_int, mod_pos, fdiv_pos, lt_int, le_int, gt_int, ge_int, is_non_non, is_bl_bl, is_int_non, is_str_non, is_tup_non, is_lst_non, is_bl_non, isnot_non_non, isnot_int_non, isnot_str_non, isnot_tup_non, isnot_lst_non, isnot_bl_non, cmp_eq, cmp_ne, eq_int, eq_str, eq_bl, eq_non, eq_int_str, eq_str_int, eq_non_str, eq_str_non, eq_non_int, eq_int_non, len_tup, len_lst, len_fls, abs_int, int_int, int_bl, tuple_lst, tuple_tup, list_lst, list_tup, max_int, min_int, isint_int, isint_bl, isint_str, isint_tup, isint_lst, isint_non, isbool_int, isbool_bl, isbool_str, isbool_tup, isbool_lst, isbool_non, isstr_int, isstr_bl, isstr_str, isstr_tup, isstr_lst, isstr_non, istuple_int, istuple_bl, istuple_str, istuple_tup, istuple_lst, istuple_non, islist_int, islist_bl, islist_str, islist_tup, islist_lst, islist_non, ix_tup, ix_lsts, atI_0, atI_1, atI_2, atI_3, atI_4, atI_5, atI_6, atI_7, atI_8, atI_9, atI_10, atI_11, atI_12, ix_fls, ev_me, sl_lst, sl_tup, cmp_isin, cmp_notin, flat_str, flat_int, flat_bl, flat_non, eqF_str, in_tup, seqO_nx, seqO_rt, seqO_bk, seqO_ct, exs_nil, exs_cons, ex_set, setoD_lst, ex_seto, ex_unp, augD_int, ex_aug, ex_expr, appD_lst, ex_app, mthD_lst, ex_mth, mthxD_lst, ex_mthx, om_clear, om_pop, om_reverse, setsD_lst, ex_sets, ex_ret, ex_reto, ex_retn, ex_iff, ex_whl, ex_for, ex_forr, ex_brk, ex_cnt, ex_pass, ex_share, it_tup, it_lst, it_str, it_fls, tg_one, wipe_one, nxO_nx, nxO_ct, nxO_bk, nxO_rt, forD_nil, lcD_nil, lcD_cons, consO_some, consO_none, ansO_nx, ansO_rt, ansO_ite, sizeLine_lit, pow_lit, toNx_nx, toNx_ct, toNx_ite, toA_some, toA_ite, List.getElem?_cons_zero, List.getElem?_cons_succ, List.getElem?_nil, List.set_cons_zero, List.set_cons_succ, List.set_nil, List.length_cons, List.length_nil, List.length_map, List.length_append, List.length_range, List.length_replicate, List.map_cons, List.map_nil, List.cons_append, List.nil_append, List.append_nil, List.replicate_succ, List.replicate_zero, Nat.reduceAdd, Nat.reduceSub, Nat.reduceMul, Nat.reduceLT, Nat.reduceLeDiff, Nat.reduceEqDiff, Nat.reduceMod, Nat.reduceDiv, Nat.reducePow, Int.reduceAdd, Int.reduceSub, Int.reduceMul, Int.reduceNeg, Int.reduceLT, Int.reduceLE, Int.reduceGT, Int.reduceGE, Int.reduceEq, Int.reduceNe, Int.reduceMod, Int.reduceDiv, Int.reducePow, Int.reduceToNat, Nat.add_zero, Nat.zero_add, Nat.sub_zero, Nat.zero_le, Nat.lt_irrefl, ite_true, ite_false, Bool.not_true, Bool.not_false, Bool.true_and, Bool.false_and, Bool.and_true, Bool.and_false, Bool.true_or, Bool.false_or, Bool.or_true, Bool.or_false, Bool.false_eq_true, Bool.true_eq_false, decide_true, decide_false, decide_eq_true_eq, Bool.not_eq_true', Bool.not_eq_false', decide_eq_false_iff_not, decide_not, not_true_eq_false, not_false_eq_true, and_true, true_and, and_false, false_and, or_true, true_or, or_false, false_or, and_self, or_self, if_true, if_false, reduceCtorEq, Fn.start, Int.cast_ofNat_Int, List.all_cons, List.all_nil, List.any_cons, List.any_nil, f_law, k0, k1, k2, k3, k4, k5, k6, e1, e2, e3, e4, e5, i0, i1, i2, i3, i4, i5, gi, ri, eL, hmany, hmany', mod_pos _ 6, mod_pos _ 4, mod_pos _ 3, eT, eT', cg, cr, ew, eg, ej, q_empty, q_sp, e126, eB, st_inj, mG _ u1, aT _ u1, aw, al _ v1, at', as', t1, t2, t3, s1, s2, de, db, ae, if_pos (show noL (.bl true) = true from rfl), u0, v0, v2]
  · simp -implicitDefEqProofs only [bindS, mapS, bindN, mapN, ifD_bl, bind_ite', map_ite', ev_c, ev_var, ev_rd, ev_gl, ev_tup, ev_lst, ev_bin, negD_int, ev_neg, notD_bl, ev_nt, ev_cmp, ev_chain, ev_an, ev_orr, ev_ife, ev_ix, ev_sl, isNo_nohi, isNo_c, isNo_var, isNo_bin, isNo_neg, isNo_bi, isNo_ix, isNo_call, isNo_me, endD_int, noIo_nil, ev_call, noIoL_nil, ev_callb, ev_bi, ev_lc, ev_lcr, evs_nil, evs_cons, shd_sh, own_ow, add_int, sub_int, mod_pos, fdiv_pos, lt_int, le_int, gt_int, ge_int, is_non_non, is_bl_bl, is_int_non, is_str_non, is_tup_non, is_lst_non, is_bl_non, isnot_non_non, isnot_int_non, isnot_str_non, isnot_tup_non, isnot_lst_non, isnot_bl_non, cmp_eq, cmp_ne, eq_int, eq_str, eq_bl, eq_non, eq_int_str, eq_str_int, eq_non_str, eq_str_non, eq_non_int, eq_int_non, len_tup, len_lst, len_fls, abs_int, int_int, int_bl, tuple_lst, tuple_tup, list_lst, list_tup, max_int, min_int, isint_int, isint_bl, isint_str, isint_tup, isint_lst, isint_non, isbool_int, isbool_bl, isbool_str, isbool_tup, isbool_lst, isbool_non, isstr_int, isstr_bl, isstr_str, isstr_tup, isstr_lst, isstr_non, istuple_int, istuple_bl, istuple_str, istuple_tup, istuple_lst, istuple_non, islist_int, islist_bl, islist_str, islist_tup, islist_lst, islist_non, ix_tup, ix_lsts, atI_0, atI_1, atI_2, atI_3, atI_4, atI_5, atI_6, atI_7, atI_8, atI_9, atI_10, atI_11, atI_12, ix_fls, ev_me, sl_lst, sl_tup, cmp_isin, cmp_notin, flat_str, flat_int, flat_bl, flat_non, eqF_str, in_tup, seqO_nx, seqO_rt, seqO_bk, seqO_ct, exs_nil, exs_cons, ex_set, setoD_lst, ex_seto, ex_unp, augD_int, ex_aug, ex_expr, appD_lst, ex_app, mthD_lst, ex_mth, mthxD_lst, ex_mthx, om_clear, om_pop, om_reverse, setsD_lst, ex_sets, ex_ret, ex_reto, ex_retn, ex_iff, ex_whl, ex_for, ex_forr, ex_brk, ex_cnt, ex_pass, ex_share, it_tup, it_lst, it_str, it_fls, tg_one, wipe_one, nxO_nx, nxO_ct, nxO_bk, nxO_rt, forD_nil, lcD_nil, lcD_cons, consO_some, consO_none, ansO_nx, ansO_rt, ansO_ite, sizeLine_lit, pow_lit, toNx_nx, toNx_ct, toNx_ite, toA_some, toA_ite, List.getElem?_cons_zero, List.getElem?_cons_succ, List.getElem?_nil, List.set_cons_zero, List.set_cons_succ, List.set_nil, List.length_cons, List.length_nil, List.length_map, List.length_append, List.length_range, List.length_replicate, List.map_cons, List.map_nil, List.cons_append, List.nil_append, List.append_nil, List.replicate_succ, List.replicate_zero, Nat.reduceAdd, Nat.reduceSub, Nat.reduceMul, Nat.reduceLT, Nat.reduceLeDiff, Nat.reduceEqDiff, Nat.reduceMod, Nat.reduceDiv, Nat.reducePow, Int.reduceAdd, Int.reduceSub, Int.reduceMul, Int.reduceNeg, Int.reduceLT, Int.reduceLE, Int.reduceGT, Int.reduceGE, Int.reduceEq, Int.reduceNe, Int.reduceMod, Int.reduceDiv, Int.reducePow, Int.reduceToNat, Nat.add_zero, Nat.zero_add, Nat.sub_zero, Nat.zero_le, Nat.lt_irrefl, ite_true, ite_false, Bool.not_true, Bool.not_false, Bool.true_and, Bool.false_and, Bool.and_true, Bool.and_false, Bool.true_or, Bool.false_or, Bool.or_true, Bool.or_false, Bool.false_eq_true, Bool.true_eq_false, decide_true, decide_false, decide_eq_true_eq, Bool.not_eq_true', Bool.not_eq_false', decide_eq_false_iff_not, decide_not, not_true_eq_false, not_false_eq_true, and_true, true_and, and_false, false_and, or_true, true_or, or_false, false_or, and_self, or_self, if_true, if_false, reduceCtorEq, Fn.start, Int.cast_ofNat_Int, List.all_cons, List.all_nil, List.any_cons, List.any_nil, f_law, k0, k1, k2, k3, k4, k5, k6, e1, e2, e3, e4, e5, i0, i1, i2, i3, i4, i5, gi, ri, eL, hmany, hmany', mod_pos _ 6, mod_pos _ 4, mod_pos _ 3, eT, eT', cg, cr, ew, eg, ej, q_empty, q_sp, e126, eB, st_inj, mG _ u1, aT _ u1, aw, al _ v1, at', as', t1, t2, t3, s1, s2, de, db, ae, if_pos (show noL (.bl true) = true from rfl), u0, v0, v2]
end LW

set_option maxHeartbeats 0
namespace LW
open PySem PL
def top (i : Nat) : Stmt := PySem.Challenge.pw_wokenlives_k02_first_bad_token.main.body.getD i (.Pass ⟨0, 0, 0, 0⟩)
def src : Src := ⟨fns, [top 3, top 9, top 10, top 11, top 12, top 13, top 15, top 16, top 17, top 18, top 19, top 20, top 21, top 22, top 23, top 24, top 25, top 26, top 27, top 28, top 29, top 30, top 31], gls⟩
theorem src_ok : src.ok = true := by decide +kernel
abbrev LR : PySem.W.OpenRow := PySem.W.OpenLaw.row PySem.Challenge.rw_wokenlives_k02_first_bad_token
def loose0 : List PySem.Str := ["SMALL", "DIGITS", "number_of", "KEYWORDS", "LONG_SIGNS", "SHORT_SIGNS", "MOST_CHARACTERS", "run_at", "kind_of", "token_at", "row_end", "token_list", "_law_cell", "_law_draws", "_law_is_integer", "_law_names", "_law_keywords", "_law_signs", "_law_number", "_law_long", "_law_token", "_law_remark", "_law_gap", "_law_joined", "_law_moved", "_law_same", "_law_bad", "_law_tokens"]
def loose : List PySem.Str := loose0
open PySem PySem.W PySem.Calls PyProof.Rows in
theorem run (w : World) : HandSHeadRun.RunEq LR (PySem.W.view LR.prog [31]) (src.hook 4) (src.ob 4) 4000 loose w := by
  intro os
  kernel_rfl
end LW
open PySem PySem.W PySem.Calls PyProof.Rows in
set_option maxHeartbeats 0 in
theorem PySem.Challenge.cw_wokenlives_k02_first_bad_token_holds : PySem.Challenge.rw_wokenlives_k02_first_bad_token.Holds := by
  w_on; o_law
  refine HandSHeadRun.head_any (r := OpenLaw.row PySem.Challenge.rw_wokenlives_k02_first_bad_token) (q := view (OpenLaw.row PySem.Challenge.rw_wokenlives_k02_first_bad_token).prog [31]) (H := LW.src.hook 4) (ob := LW.src.ob 4) (M := 4000) (loose := LW.loose) (d := HandSHeadRun.topDef (OpenLaw.row PySem.Challenge.rw_wokenlives_k02_first_bad_token).prog 31) (kwd := []) (LW.src.ob_eq 4)
    (by kernel_rfl) (fun s => by kernel_rfl) LW.run (by kernel_rfl) (by kernel_rfl) (by kernel_rfl) (by rfl) (by first | assumption | decide +kernel) (by decide +kernel) ⟨rfl, rfl, rfl, rfl, rfl, by decide +kernel⟩ ?hw ?hc
  case hw => w_witness2
  case hc => exact PL.src_walk (s := LW.src) (l := PySem.Challenge.rw_wokenlives_k02_first_bad_token) (n := 63) (k := 60) (i := 22) (fi := LW.f_law) (x := "_law_script") LW.src_ok rfl (by decide) (by kernel_rfl) ⟨rfl, by decide, by decide⟩ rfl (by kernel_rfl) rfl rfl rfl LW.main


