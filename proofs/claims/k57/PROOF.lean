import PyProof.Rows.All
import Wide.All
import OpenK.AllK
import Wide.FinOn
import HandS.ForMost
import HandS.TupAny
import HandS.TupMul
import HandS.Deep
import HandS.Walk
import HandS.Style
import HandS.SetFor
import HandS.More
import HandS.Zip
import HandS.IsInst
import KE.GoesEnum
import PySem.Challenge.RW_everydelay_k57_races_of_one_are_ways
set_option Elab.async false
set_option linter.all false
set_option maxRecDepth 100000
set_option maxHeartbeats 4000000
namespace Z
open PySem L2

/-! ## the small language -/
inductive Cst where
  | non | bl (b : Bool) | int (i : Int) | str (x : Str)
def Cst.d : Cst → PyData
  | .non => .none
  | .bl b => .bool b
  | .int i => .int i
  | .str x => .str x
inductive BOp where
  | add | sub | mul | fdiv | mod
  deriving DecidableEq
inductive COp where
  | eq | ne | lt | le | gt | ge | isN | notN | mem | nmem
  deriving DecidableEq
inductive Blt where
  | len | tuple | list | int | abs | max2 | min2 | maxL | minL | sum | any | all | sorted
  deriving DecidableEq
inductive Ty where
  | bool | int | tuple | str | list
  deriving DecidableEq
inductive Mt where
  | append | extend | insert | pop | popAt | remove
  deriving DecidableEq
mutual
inductive Tg where
  | name (i : Nat)
  | tup (ts : Tgs)
inductive Tgs where
  | nil
  | cons (t : Tg) (ts : Tgs)
end
mutual
inductive E where
  | var (i : Nat)
  | cst (c : Cst)
  | glo (x : Str)
  | fnv (f : Str)
  | tup (es : Es)
  | lst (es : Es)
  | bin (o : BOp) (a b : E)
  | neg (a : E)
  | cmp (o : COp) (a b : E)
  | chn (o p : COp) (a b c : E)
  | andV (a b : E)
  | orV (a b : E)
  | notV (a : E)
  | ite (t : T) (a b : E)
  | ix (a b : E)
  | sl (a : E) (lo hi : O)
  | call (f : Str) (es : Es)
  | callV (i : Nat) (es : Es)
  | blt (b : Blt) (es : Es)
  | isi (a : E) (ty : Ty)
  | lc (e : E) (tg : Tg) (it : It) (ifs : Ts) (own : List Nat)
inductive Es where
  | nil
  | cons (e : E) (es : Es)
inductive T where
  | and (a b : T)
  | or (a b : T)
  | not (a : T)
  | e (e : E)
inductive Ts where
  | nil
  | cons (t : T) (ts : Ts)
inductive O where
  | none
  | some (e : E)
inductive It where
  | range (es : Es)
  | seq (e : E)
  | enum (e : E)
  | zip (a b : E)
end
mutual
inductive S where
  | pass
  | asg (tg : Tg) (e : E)
  | par (i j : Nat) (a b : E)
  | par3 (i j l : Nat) (a b c : E)
  | setix (i : Nat) (k e : E)
  | aug (i : Nat) (o : BOp) (e : E)
  | expr (e : E)
  | meth (m : Mt) (i : Nat) (es : Es)
  | ret (e : E)
  | retN
  | if (t : T) (a b : Ss)
  | for (tg : Tg) (it : It) (b : Ss)
  | while (t : T) (b : Ss)
  | brk
  | cont
  | never
inductive Ss where
  | nil
  | cons (s : S) (ss : Ss)
  | frz (is : List Nat) (ss : Ss)
end

/-! ## values while it runs -/
inductive Slot where
  | no
  | val (d : PyData)
  | own (ds : List PyData)
  | hdl
  | fn (f : Str)
abbrev Env := List Slot
inductive R where
  | val (d : PyData)
  | fresh (ds : List PyData)
  | held (i : Nat) (ds : List PyData)
  | hdl
  | fn (f : Str)
def R.dat : R → Option PyData
  | .val d => some d
  | .fresh ds => some (.list ds)
  | .held _ ds => some (.list ds)
  | _ => none
def R.emb : R → Option PyData
  | .val d => some d
  | .fresh ds => some (.list ds)
  | _ => none
def embs : List R → Option (List PyData)
  | [] => some []
  | r :: rs => match r.emb with
    | some d => match embs rs with
      | some ds => some (d :: ds)
      | none => none
    | none => none
def R.slot : R → Option Slot
  | .val d => some (.val d)
  | .fresh ds => some (.own ds)
  | .hdl => some .hdl
  | .fn f => some (.fn f)
  | _ => none
/-- as an argument of a call -/
def R.arg : R → Slot
  | .val d => .val d
  | .fresh ds => .val (.list ds)
  | .held _ ds => .val (.list ds)
  | .hdl => .hdl
  | .fn f => .fn f
def R.isHeld : R → Bool
  | .held _ _ => true
  | _ => false
def Slot.r (i : Nat) : Slot → Option R
  | .no => none
  | .val d => some (.val d)
  | .own ds => some (.held i ds)
  | .hdl => some .hdl
  | .fn f => some (.fn f)
/-- the state of what is drawn; at_ is one more than the program's number -/
structure DS where
  cells : List Int
  at_ : Nat
  rest : Int
  seed : Int
def DS.take (s : DS) (many : Int) : Int × DS :=
  if s.rest = 0 then
    let r := if s.at_ < s.cells.length then s.cells.getD s.at_ 0 else 0
    if r = 0 then
      let q := (s.seed * 48271 + 11) % 2147483647
      (q % many, ⟨s.cells, s.at_ + 1, q / many, q⟩)
    else (r % many, ⟨s.cells, s.at_ + 1, r / many, s.seed⟩)
  else (s.rest % many, ⟨s.cells, s.at_, s.rest / many, s.seed⟩)

mutual
def noList : PyData → Bool
  | .none => true
  | .bool _ => true
  | .int _ => true
  | .str _ => true
  | .tuple xs => noLists xs
  | .list _ => false
  | .dict _ => false
def noLists : List PyData → Bool
  | [] => true
  | x :: xs => noList x && noLists xs
end
/-- what a call gives back, where some of its arguments were lists of the caller's own -/
def R.indep : R → Bool
  | .val d => noList d
  | .fresh ds => noLists ds
  | .fn _ => true
  | .hdl => true
  | .held _ _ => false

/-! ## operations on values -/
def okI (i : Int) : Bool := decide (-(2 ^ 64) < i) && decide (i < 2 ^ 64)
def evBin : BOp → PyData → PyData → Option R
  | .add, .int i, .int j => some (.val (.int (i + j)))
  | .add, .str i, .str j => if i.length + j.length ≤ sizeLine then some (.val (.str (i ++ j))) else none
  | .add, .tuple a, .tuple b => if a.length + b.length ≤ sizeLine then some (.val (.tuple (a ++ b))) else none
  | .add, .list a, .list b => if a.length + b.length ≤ sizeLine then some (.fresh (a ++ b)) else none
  | .sub, .int i, .int j => some (.val (.int (i - j)))
  | .mul, .int i, .int j => if (okI i || okI j) = true then some (.val (.int (i * j))) else none
  | .mul, .list a, .int k => if -(2 ^ 63) ≤ k ∧ k < 2 ^ 63 ∧ a.length * k.toNat ≤ sizeLine then some (.fresh (List.replicate k.toNat a).flatten) else none
  | .mul, .tuple a, .int k => if -(2 ^ 62) ≤ k ∧ k ≤ 1000 ∧ a.length ≤ 1000 then some (.val (.tuple (List.replicate k.toNat a).flatten)) else none
  | .fdiv, .int i, .int j => if j ≠ 0 ∧ j.natAbs < 1073741824 then some (.val (.int (i.fdiv j))) else none
  | .mod, .int i, .int j => if j ≠ 0 then some (.val (.int (i.fmod j))) else none
  | _, _, _ => none
def isNone : PyData → Bool
  | .none => true
  | _ => false
def evCmp : COp → PyData → PyData → Option Bool
  | .eq, a, b => if SeqAt.shaped a = true ∧ SeqAt.shaped b = true then some (PyData.eqv a b) else none
  | .ne, a, b => if SeqAt.shaped a = true ∧ SeqAt.shaped b = true then some (!PyData.eqv a b) else none
  | .lt, .int i, .int j => some (decide (i < j))
  | .le, .int i, .int j => some (decide (i ≤ j))
  | .gt, .int i, .int j => some (decide (j < i))
  | .ge, .int i, .int j => some (decide (j ≤ i))
  | .isN, a, .none => some (isNone a)
  | .notN, a, .none => some (!isNone a)
  | .mem, a, .list xs => if SeqAt.shaped a = true ∧ SeqAt.shaped (.list xs) = true then some (xs.any fun z => PyData.eqv z a) else none
  | .nmem, a, .list xs => if SeqAt.shaped a = true ∧ SeqAt.shaped (.list xs) = true then some (!xs.any fun z => PyData.eqv z a) else none
  | .mem, a, .tuple xs => if SeqAt.shaped a = true ∧ SeqAt.shaped (.tuple xs) = true then some (xs.any fun z => PyData.eqv z a) else none
  | .nmem, a, .tuple xs => if SeqAt.shaped a = true ∧ SeqAt.shaped (.tuple xs) = true then some (!xs.any fun z => PyData.eqv z a) else none
  | _, _, _ => none
def evTru : PyData → Option Bool
  | .none => some false
  | .bool b => some b
  | .int i => some (i != 0)
  | .list xs => some (!xs.isEmpty)
  | .tuple xs => some (!xs.isEmpty)
  | _ => none
def evIx : PyData → PyData → Option PyData
  | .list xs, .int i => atI xs i
  | .tuple xs, .int i => atI xs i
  | _, _ => none
def cut (xs : List PyData) (lo hi : Option Int) : List PyData :=
  (xs.drop (HT.sIx xs.length 0 lo)).take (HT.sIx xs.length xs.length hi - HT.sIx xs.length 0 lo)
def evSl : PyData → Option Int → Option Int → Option R
  | .list xs, lo, hi => some (.fresh (cut xs lo hi))
  | .tuple xs, lo, hi => some (.val (.tuple (cut xs lo hi)))
  | _, _, _ => none
def asInt : PyData → Option Int
  | .int i => some i
  | _ => none
def asInts : List PyData → Option (List Int)
  | [] => some []
  | .int i :: r => (asInts r).map (i :: ·)
  | _ :: _ => none
def asBools : List PyData → Option (List Bool)
  | [] => some []
  | .bool i :: r => (asBools r).map (i :: ·)
  | _ :: _ => none
def maxI : List Int → Int
  | [] => 0
  | [x] => x
  | x :: xs => max x (maxI xs)
def minI : List Int → Int
  | [] => 0
  | [x] => x
  | x :: xs => min x (minI xs)
def insI (x : Int) : List Int → List Int
  | [] => [x]
  | y :: ys => if x ≤ y then x :: y :: ys else y :: insI x ys
def sortI : List Int → List Int
  | [] => []
  | x :: xs => insI x (sortI xs)
def evBlt : Blt → List R → Option R
  | .len, [r] => match r.dat with
    | some (.list xs) => some (.val (.int xs.length))
    | some (.tuple xs) => some (.val (.int xs.length))
    | _ => none
  | .tuple, [r] => match r.dat with
    | some (.list xs) => some (.val (.tuple xs))
    | some (.tuple xs) => some (.val (.tuple xs))
    | _ => none
  | .list, [r] => match r.dat with
    | some (.list xs) => some (.fresh xs)
    | some (.tuple xs) => some (.fresh xs)
    | _ => none
  | .int, [r] => match r.dat with
    | some (.int i) => some (.val (.int i))
    | some (.bool b) => some (.val (.int (if b then 1 else 0)))
    | _ => none
  | .abs, [r] => match r.dat with
    | some (.int i) => some (.val (.int (if i < 0 then -i else i)))
    | _ => none
  | .max2, [a, b] => match a.dat, b.dat with
    | some (.int i), some (.int j) => some (.val (.int (if j > i then j else i)))
    | _, _ => none
  | .min2, [a, b] => match a.dat, b.dat with
    | some (.int i), some (.int j) => some (.val (.int (if j < i then j else i)))
    | _, _ => none
  | .maxL, [r] => match r.dat with
    | some (.list xs) => match asInts xs with
      | some ns => if ns ≠ [] then some (.val (.int (maxI ns))) else none
      | none => none
    | _ => none
  | .minL, [r] => match r.dat with
    | some (.list xs) => match asInts xs with
      | some ns => if ns ≠ [] then some (.val (.int (minI ns))) else none
      | none => none
    | _ => none
  | .sum, [r] => match r.dat with
    | some (.list xs) => match asInts xs with
      | some ns => some (.val (.int ns.sum))
      | none => none
    | _ => none
  | .any, [r] => match r.dat with
    | some (.list xs) => match asBools xs with
      | some ns => some (.val (.bool (ns.any id)))
      | none => none
    | _ => none
  | .all, [r] => match r.dat with
    | some (.list xs) => match asBools xs with
      | some ns => some (.val (.bool (ns.all id)))
      | none => none
    | _ => none
  | .sorted, [r] => match r.dat with
    | some (.list xs) => match asInts xs with
      | some ns => if ns.length < 64 then some (.fresh ((sortI ns).map .int)) else none
      | none => none
    | _ => none
  | _, _ => none
def evIsi : PyData → Ty → Bool
  | .bool _, .bool => true
  | .bool _, .int => true
  | .int _, .int => true
  | .tuple _, .tuple => true
  | .str _, .str => true
  | .list _, .list => true
  | _, _ => false
mutual
def asgTg : Tg → PyData → Env → Option Env
  | .name i, d, ρ => some (ρ.set i (.val d))
  | .tup ts, .tuple ds, ρ => asgTgs ts ds ρ
  | .tup _, _, _ => none
def asgTgs : Tgs → List PyData → Env → Option Env
  | .nil, [], ρ => some ρ
  | .cons t ts, d :: ds, ρ => match asgTg t d ρ with
    | some ρ' => asgTgs ts ds ρ'
    | none => none
  | .nil, _ :: _, _ => none
  | .cons _ _, [], _ => none
end
def wipeE (ρ : Env) : List Nat → Env
  | [] => ρ
  | v :: vs => (wipeE ρ vs).set v .no
def rangeD (lo hi : Int) : List PyData := (List.range (hi - lo).toNat).map fun (k : Nat) => PyData.int (lo + (k : Int))
def okR (i : Int) : Bool := decide (-(2 ^ 62) ≤ i) && decide (i < 2 ^ 62)
def evRange : List R → Option (List PyData)
  | [a] => match a.dat with
    | some (.int j) => if okR j = true then some (rangeD 0 j) else none
    | _ => none
  | [a, b] => match a.dat, b.dat with
    | some (.int i), some (.int j) => if okR i = true ∧ okR j = true then some (rangeD i j) else none
    | _, _ => none
  | _ => none
def enumD : Nat → List PyData → List PyData
  | _, [] => []
  | k, x :: xs => .tuple [.int k, x] :: enumD (k + 1) xs
def zipD : List PyData → List PyData → List PyData
  | x :: xs, y :: ys => .tuple [x, y] :: zipD xs ys
  | _, _ => []
def seqOf : PyData → Option (List PyData)
  | .list xs => some xs
  | .tuple xs => some xs
  | _ => none
def lcLoop (step : PyData → DS → Option (Option PyData × DS)) : List PyData → DS → Option (List PyData × DS)
  | [], s => some ([], s)
  | x :: xs, s => match step x s with
    | some (o, s1) => match lcLoop step xs s1 with
      | some (ys, s2) => some (o.toList ++ ys, s2)
      | none => none
    | none => none
section
variable (F : Str → List Slot → DS → Option (R × DS)) (G : Str → Option PyData)
mutual
def evE : E → Env → DS → Option (R × DS)
  | .var i, ρ, s => match ρ[i]? with
    | some x => match x.r i with
      | some r => some (r, s)
      | none => none
    | none => none
  | .cst c, _, s => some (.val c.d, s)
  | .glo x, _, s => match G x with
    | some d => some (.val d, s)
    | none => none
  | .fnv f, _, s => some (.fn f, s)
  | .tup es, ρ, s => match evEs es ρ s with
    | some (rs, s1) => match embs rs with
      | some ds => if ds.length ≤ sizeLine then some (.val (.tuple ds), s1) else none
      | none => none
    | none => none
  | .lst es, ρ, s => match evEs es ρ s with
    | some (rs, s1) => match embs rs with
      | some ds => if ds.length ≤ sizeLine then some (.fresh ds, s1) else none
      | none => none
    | none => none
  | .bin o a b, ρ, s => match evE a ρ s with
    | some (ra, s1) => match evE b ρ s1 with
      | some (rb, s2) => match ra.dat, rb.dat with
        | some x, some y => match evBin o x y with
          | some r => some (r, s2)
          | none => none
        | _, _ => none
      | none => none
    | none => none
  | .neg a, ρ, s => match evE a ρ s with
    | some (.val (.int i), s1) => some (.val (.int (-i)), s1)
    | _ => none
  | .cmp o a b, ρ, s => match evE a ρ s with
    | some (ra, s1) => match evE b ρ s1 with
      | some (rb, s2) => match ra.dat, rb.dat with
        | some x, some y => match evCmp o x y with
          | some c => some (.val (.bool c), s2)
          | none => none
        | _, _ => none
      | none => none
    | none => none
  | .chn o p a b c, ρ, s => match evE a ρ s with
    | some (ra, s1) => match evE b ρ s1 with
      | some (rb, s2) => match ra.dat, rb.dat with
        | some x, some y => match evCmp o x y with
          | some false => some (.val (.bool false), s2)
          | some true => match evE c ρ s2 with
            | some (rc, s3) => match rc.dat with
              | some z => match evCmp p y z with
                | some k => some (.val (.bool k), s3)
                | none => none
              | none => none
            | none => none
          | none => none
        | _, _ => none
      | none => none
    | none => none
  | .andV a b, ρ, s => match evE a ρ s with
    | some (.val (.bool true), s1) => evE b ρ s1
    | some (.val (.bool false), s1) => some (.val (.bool false), s1)
    | _ => none
  | .orV a b, ρ, s => match evE a ρ s with
    | some (.val (.bool false), s1) => evE b ρ s1
    | some (.val (.bool true), s1) => some (.val (.bool true), s1)
    | _ => none
  | .notV a, ρ, s => match evE a ρ s with
    | some (.val (.bool c), s1) => some (.val (.bool (!c)), s1)
    | _ => none
  | .ite t a b, ρ, s => match evT t ρ s with
    | some (true, s1) => evE a ρ s1
    | some (false, s1) => evE b ρ s1
    | none => none
  | .ix a b, ρ, s => match evE a ρ s with
    | some (ra, s1) => match evE b ρ s1 with
      | some (rb, s2) => match ra.dat, rb.dat with
        | some x, some y => match evIx x y with
          | some r => some (.val r, s2)
          | none => none
        | _, _ => none
      | none => none
    | none => none
  | .sl a lo hi, ρ, s => match evE a ρ s with
    | some (ra, s1) => match evO lo ρ s1 with
      | some (l, s2) => match evO hi ρ s2 with
        | some (h, s3) => match ra.dat with
          | some x => match evSl x l h with
            | some r => some (r, s3)
            | none => none
          | none => none
        | none => none
      | none => none
    | none => none
  | .call f es, ρ, s => match evEs es ρ s with
    | some (rs, s1) => match F f (rs.map R.arg) s1 with
      | some (r, s2) => if (r.indep || !rs.any R.isHeld) = true ∧ r.isHeld = false then some (r, s2) else none
      | none => none
    | none => none
  | .callV i es, ρ, s => match ρ[i]? with
    | some (.fn f) => match evEs es ρ s with
      | some (rs, s1) => match F f (rs.map R.arg) s1 with
        | some (r, s2) => if (r.indep || !rs.any R.isHeld) = true ∧ r.isHeld = false then some (r, s2) else none
        | none => none
      | none => none
    | _ => none
  | .blt b es, ρ, s => match evEs es ρ s with
    | some (rs, s1) => match evBlt b rs with
      | some r => some (r, s1)
      | none => none
    | none => none
  | .isi a ty, ρ, s => match evE a ρ s with
    | some (ra, s1) => match ra.dat with
      | some d => some (.val (.bool (evIsi d ty)), s1)
      | none => none
    | none => none
  | .lc e tg it ifs own, ρ, s => match evIt it ρ s with
    | some ((xs, _), s1) => if xs.length ≤ sizeLine then
        match lcLoop (fun x s => match asgTg tg x (wipeE ρ own) with
          | some ρ' => match evTs ifs ρ' s with
            | some (true, s1) => match evE e ρ' s1 with
              | some (r, s2) => match r.emb with
                | some d => some (some d, s2)
                | none => none
              | none => none
            | some (false, s1) => some (none, s1)
            | none => none
          | none => none) xs s1 with
        | some (ys, s2) => some (.fresh ys, s2)
        | none => none
      else none
    | none => none
def evEs : Es → Env → DS → Option (List R × DS)
  | .nil, _, s => some ([], s)
  | .cons e es, ρ, s => match evE e ρ s with
    | some (r, s1) => match evEs es ρ s1 with
      | some (rs, s2) => some (r :: rs, s2)
      | none => none
    | none => none
def evT : T → Env → DS → Option (Bool × DS)
  | .and a b, ρ, s => match evT a ρ s with
    | some (true, s1) => evT b ρ s1
    | some (false, s1) => some (false, s1)
    | none => none
  | .or a b, ρ, s => match evT a ρ s with
    | some (false, s1) => evT b ρ s1
    | some (true, s1) => some (true, s1)
    | none => none
  | .not a, ρ, s => match evT a ρ s with
    | some (c, s1) => some (!c, s1)
    | none => none
  | .e a, ρ, s => match evE a ρ s with
    | some (r, s1) => match r.dat with
      | some d => match evTru d with
        | some c => some (c, s1)
        | none => none
      | none => none
    | none => none
def evTs : Ts → Env → DS → Option (Bool × DS)
  | .nil, _, s => some (true, s)
  | .cons t ts, ρ, s => match evT t ρ s with
    | some (true, s1) => evTs ts ρ s1
    | some (false, s1) => some (false, s1)
    | none => none
def evO : O → Env → DS → Option (Option Int × DS)
  | .none, _, s => some (none, s)
  | .some e, ρ, s => match evE e ρ s with
    | some (.val (.int i), s1) => some (some i, s1)
    | _ => none
def evIt : It → Env → DS → Option ((List PyData × Bool) × DS)
  | .range es, ρ, s => match evEs es ρ s with
    | some (rs, s1) => match evRange rs with
      | some xs => some ((xs, false), s1)
      | none => none
    | none => none
  | .seq e, ρ, s => match evE e ρ s with
    | some (r, s1) => match r.dat with
      | some d => match seqOf d with
        | some xs => some ((xs, r.isHeld), s1)
        | none => none
      | none => none
    | none => none
  | .enum e, ρ, s => match evE e ρ s with
    | some (r, s1) => match r.dat with
      | some d => match seqOf d with
        | some xs => some ((enumD 0 xs, r.isHeld), s1)
        | none => none
      | none => none
    | none => none
  | .zip a b, ρ, s => match evE a ρ s with
    | some (ra, s1) => match evE b ρ s1 with
      | some (rb, s2) => match ra, rb with
        | .val (.tuple xs), .val (.tuple ys) => some ((zipD xs ys, false), s2)
        | .val (.list xs), .val (.list ys) => some ((zipD xs ys, false), s2)
        | _, _ => none
      | none => none
    | none => none
end
end
end Z

namespace Z
open PySem L2

def Ext (B H : Hp) : Prop := ∀ a o, B a = some o → H a = some o
theorem Ext.refl (B : Hp) : Ext B B := fun _ _ h => h
theorem Ext.trans {A B C : Hp} (h : Ext A B) (k : Ext B C) : Ext A C := fun a o q => k a o (h a o q)
theorem Ext.no {B H : Hp} (h : Ext B H) {p : Addr} (q : H p = none) : B p = none := by
  cases e : B p with
  | none => rfl
  | some o => rw [h p o e] at q; cases q
theorem Ext.up {B : Hp} {p : Addr} {o : HO} (h : B p = none) : Ext B (upd B p o) := fun a u e => by
  rw [upd_ne (ne_of_none e h)]; exact e
theorem Ext.upd2 {B H : Hp} {p : Addr} {o : HO} (h : Ext B H) (q : B p = none) : Ext B (L2.upd H p o) := fun a u e => by
  rw [upd_ne (ne_of_none e q)]; exact h a u e
theorem Ext.updB {B H : Hp} {p : Addr} {o : HO} (h : Ext B H) (q : H p = some o) : Ext (L2.upd B p o) H := fun a u e => by
  by_cases ha : a = p
  · subst ha; rw [upd_same] at e; cases e; exact q
  · rw [upd_ne ha] at e; exact h a u e
theorem Ext.updBoth {B H : Hp} {p : Addr} {o : HO} (h : Ext B H) : Ext (L2.upd B p o) (L2.upd H p o) := fun a u e => by
  by_cases ha : a = p
  · subst ha; rw [upd_same] at e ⊢; exact e
  · rw [upd_ne ha] at e ⊢; exact h a u e
theorem Ext.sqt {K : PySem.W.Frag} {B H : Hp} {a : Addr} {xs : List V} (e : Ext B H) (h : SqT K B a xs) : SqT K H a xs := by
  rcases h with (h | ⟨o, h⟩) | h
  · exact .inl (.inl (e _ _ h))
  · exact .inl (.inr ⟨o, e _ _ h⟩)
  · exact .inr h

mutual
inductive Rep (K : PySem.W.Frag) (B : Hp) : V → PyData → Prop
  | non : Rep K B .non .none
  | bl (b : Bool) : Rep K B (.bl b) (.bool b)
  | int (i : Int) : Rep K B (.int i) (.int i)
  | str (x : Str) : Rep K B (.str x) (.str x)
  | lst {a : Addr} {xs : List V} {ds : List PyData} : B a = some (.lst xs) → RepAll K B xs ds → Rep K B (.ref a) (.list ds)
  | tup {a : Addr} {xs : List V} {ds : List PyData} : SqT K B a xs → RepAll K B xs ds → Rep K B (.ref a) (.tuple ds)
inductive RepAll (K : PySem.W.Frag) (B : Hp) : List V → List PyData → Prop
  | nil : RepAll K B [] []
  | cons {v : V} {vs : List V} {d : PyData} {ds : List PyData} : Rep K B v d → RepAll K B vs ds → RepAll K B (v :: vs) (d :: ds)
end
section
variable {K : PySem.W.Frag} {B B' H : Hp}
mutual
theorem Rep.mono (e : Ext B B') : ∀ (d : PyData) (v : V), Rep K B v d → Rep K B' v d
  | .none, _, h => by cases h; exact .non
  | .bool b, _, h => by cases h; exact .bl b
  | .int i, _, h => by cases h; exact .int i
  | .str x, _, h => by cases h; exact .str x
  | .list ds, _, h => by
    cases h with
    | lst hs ha => exact .lst (e _ _ hs) (RepAll.mono e ds _ ha)
  | .tuple ds, _, h => by
    cases h with
    | tup hs ha => exact .tup (e.sqt hs) (RepAll.mono e ds _ ha)
  | .dict _, _, h => by cases h
theorem RepAll.mono (e : Ext B B') : ∀ (ds : List PyData) (vs : List V), RepAll K B vs ds → RepAll K B' vs ds
  | [], _, h => by cases h; exact .nil
  | d :: ds, _, h => by
    cases h with
    | cons h1 h2 => exact .cons (Rep.mono e d _ h1) (RepAll.mono e ds _ h2)
end
mutual
theorem Rep.dp (e : Ext B H) : ∀ (d : PyData) (v : V), Rep K B v d → Dp K H v d
  | .none, _, h => by cases h; exact .non
  | .bool b, _, h => by cases h; exact .bl b
  | .int i, _, h => by cases h; exact .int i
  | .str x, _, h => by cases h; exact .str x
  | .list ds, _, h => by
    cases h with
    | lst hs ha => exact .lst (SqL.of (e _ _ hs)) (RepAll.dp e ds _ ha)
  | .tuple ds, _, h => by
    cases h with
    | tup hs ha => exact .tup (e.sqt hs) (RepAll.dp e ds _ ha)
  | .dict _, _, h => by cases h
theorem RepAll.dp (e : Ext B H) : ∀ (ds : List PyData) (vs : List V), RepAll K B vs ds → DpAll K H vs ds
  | [], _, h => by cases h; exact .nil
  | d :: ds, _, h => by
    cases h with
    | cons h1 h2 => exact .cons (Rep.dp e d _ h1) (RepAll.dp e ds _ h2)
end
/-- data without lists hang on the tuples alone -/
def Tups (B : Hp) : Hp := fun a => match B a with
  | some (.lst _) => none
  | o => o
theorem tups_sqt {a : Addr} {xs : List V} (h : SqT K B a xs) : SqT K (Tups B) a xs := by
  rcases h with (h | ⟨o, h⟩) | h
  · exact .inl (.inl (by unfold Tups; rw [h]))
  · exact .inl (.inr ⟨o, by unfold Tups; rw [h]⟩)
  · exact .inr h
mutual
theorem Rep.tups : ∀ (d : PyData) (v : V), noList d = true → Rep K B v d → Rep K (Tups B) v d
  | .none, _, _, h => by cases h; exact .non
  | .bool b, _, _, h => by cases h; exact .bl b
  | .int i, _, _, h => by cases h; exact .int i
  | .str x, _, _, h => by cases h; exact .str x
  | .list ds, _, n, h => by simp [noList] at n
  | .tuple ds, _, n, h => by
    cases h with
    | tup hs ha => exact .tup (tups_sqt hs) (RepAll.tups ds _ (by simpa [noList] using n) ha)
  | .dict _, _, _, h => by cases h
theorem RepAll.tups : ∀ (ds : List PyData) (vs : List V), noLists ds = true → RepAll K B vs ds → RepAll K (Tups B) vs ds
  | [], _, _, h => by cases h; exact .nil
  | d :: ds, _, n, h => by
    cases h with
    | cons h1 h2 =>
      simp only [noLists, Bool.and_eq_true] at n
      exact .cons (Rep.tups d _ n.1 h1) (RepAll.tups ds _ n.2 h2)
end
theorem RepAll.length : ∀ {vs : List V} {ds : List PyData}, RepAll K B vs ds → vs.length = ds.length
  | _, _, .nil => rfl
  | _, _, .cons _ t => by simp [RepAll.length t]
theorem RepAll.get : ∀ {vs : List V} {ds : List PyData} {i : Nat} {d : PyData}, RepAll K B vs ds → ds[i]? = some d → ∃ v, vs[i]? = some v ∧ Rep K B v d
  | _, _, _, _, .nil, e => by simp at e
  | _, _, 0, _, .cons r _, e => by simp at e; subst e; exact ⟨_, rfl, r⟩
  | _, _, i + 1, d, .cons _ t, e => by
    obtain ⟨v, h1, h2⟩ := RepAll.get (i := i) (d := d) t (by simpa using e)
    exact ⟨v, by simpa using h1, h2⟩
theorem RepAll.getV : ∀ {vs : List V} {ds : List PyData} {i : Nat} {v : V}, RepAll K B vs ds → vs[i]? = some v → ∃ d, ds[i]? = some d ∧ Rep K B v d
  | _, _, _, _, .nil, e => by simp at e
  | _, _, 0, _, .cons r _, e => by simp at e; subst e; exact ⟨_, rfl, r⟩
  | _, _, i + 1, d, .cons _ t, e => by
    obtain ⟨v, h1, h2⟩ := RepAll.getV (i := i) (v := d) t (by simpa using e)
    exact ⟨v, by simpa using h1, h2⟩
theorem RepAll.append : ∀ {xs ys : List V} {us ws : List PyData}, RepAll K B xs us → RepAll K B ys ws → RepAll K B (xs ++ ys) (us ++ ws)
  | _, _, _, _, .nil, s => s
  | _, _, _, _, .cons r t, s => .cons r (RepAll.append t s)
theorem RepAll.take : ∀ {xs : List V} {us : List PyData} (n : Nat), RepAll K B xs us → RepAll K B (xs.take n) (us.take n)
  | _, _, 0, _ => .nil
  | _, _, _ + 1, .nil => .nil
  | _, _, n + 1, .cons r t => .cons r (RepAll.take n t)
theorem RepAll.drop : ∀ {xs : List V} {us : List PyData} (n : Nat), RepAll K B xs us → RepAll K B (xs.drop n) (us.drop n)
  | _, _, 0, r => r
  | _, _, _ + 1, .nil => .nil
  | _, _, n + 1, .cons _ t => RepAll.drop n t
theorem RepAll.set {v : V} {d : PyData} (r : Rep K B v d) : ∀ {xs : List V} {us : List PyData} (i : Nat), RepAll K B xs us → RepAll K B (xs.set i v) (us.set i d)
  | _, _, _, .nil => .nil
  | _, _, 0, .cons _ t => .cons r t
  | _, _, i + 1, .cons q t => .cons q (RepAll.set r i t)
theorem RepAll.rep {xs : List V} {us : List PyData} (r : RepAll K B xs us) : ∀ k : Nat, RepAll K B (List.replicate k xs).flatten (List.replicate k us).flatten
  | 0 => .nil
  | k + 1 => by
    rw [List.replicate_succ, List.replicate_succ, List.flatten_cons, List.flatten_cons]
    exact r.append (RepAll.rep r k)
theorem RepAll.isEmpty {xs : List V} {us : List PyData} (r : RepAll K B xs us) : xs.isEmpty = us.isEmpty := by
  cases r <;> rfl
theorem RepAll.ints : ∀ {vs : List V} {ds : List PyData} {ns : List Int}, RepAll K B vs ds → asInts ds = some ns → vs = ns.map V.int
  | _, _, _, .nil, e => by simp [asInts] at e; subst e; rfl
  | _, _, _, .cons (d := .int i) r t, e => by
    simp only [asInts] at e
    obtain ⟨ns, h1, h2⟩ := Option.map_eq_some_iff.mp e
    subst h2
    cases r
    rw [RepAll.ints t h1]; rfl
  | _, _, _, .cons (d := .none) _ _, e => by simp [asInts] at e
  | _, _, _, .cons (d := .bool _) _ _, e => by simp [asInts] at e
  | _, _, _, .cons (d := .str _) _ _, e => by simp [asInts] at e
  | _, _, _, .cons (d := .list _) _ _, e => by simp [asInts] at e
  | _, _, _, .cons (d := .tuple _) _ _, e => by simp [asInts] at e
  | _, _, _, .cons (d := .dict _) _ _, e => by simp [asInts] at e
theorem RepAll.bools : ∀ {vs : List V} {ds : List PyData} {ns : List Bool}, RepAll K B vs ds → asBools ds = some ns → vs = ns.map V.bl
  | _, _, _, .nil, e => by simp [asBools] at e; subst e; rfl
  | _, _, _, .cons (d := .bool i) r t, e => by
    simp only [asBools] at e
    obtain ⟨ns, h1, h2⟩ := Option.map_eq_some_iff.mp e
    subst h2
    cases r
    rw [RepAll.bools t h1]; rfl
  | _, _, _, .cons (d := .none) _ _, e => by simp [asBools] at e
  | _, _, _, .cons (d := .int _) _ _, e => by simp [asBools] at e
  | _, _, _, .cons (d := .str _) _ _, e => by simp [asBools] at e
  | _, _, _, .cons (d := .list _) _ _, e => by simp [asBools] at e
  | _, _, _, .cons (d := .tuple _) _ _, e => by simp [asBools] at e
  | _, _, _, .cons (d := .dict _) _ _, e => by simp [asBools] at e
theorem RepAll.ofInts : ∀ (ns : List Int), RepAll K B (ns.map V.int) (ns.map PyData.int)
  | [] => .nil
  | n :: ns => .cons (.int n) (RepAll.ofInts ns)
end

/-! ## the state held -/
structure Rl (K : PySem.W.Frag) (mg : Str → Option Value) (L : Addr) (B H : Hp) (σ : St) (ρ : Env) (s : DS) : Prop where
  ext : Ext B H
  nL : B L = none
  drw : ∃ l1, B l1 = some (.lst (s.cells.map V.int)) ∧ H L = some (.lst [.ref l1, .int ((s.at_ : Int) - 1), .int s.rest, .int s.seed])
  len : σ.length = ρ.length
  val : ∀ (i : Nat) (d : PyData), ρ[i]? = some (.val d) → ∃ v, σ[i]? = some (some v) ∧ Rep K B v d
  own : ∀ (i : Nat) (ds : List PyData), ρ[i]? = some (.own ds) → ∃ l vs, σ[i]? = some (some (.ref l)) ∧ B l = none ∧ l ≠ L ∧ H l = some (.lst vs) ∧ RepAll K B vs ds
  hdl : ∀ (i : Nat), ρ[i]? = some .hdl → σ[i]? = some (some (.ref L))
  fn : ∀ (i : Nat) (f : Str), ρ[i]? = some (.fn f) → ∃ a, σ[i]? = some (some (.ref a)) ∧ mg f = some (.ref a)
  inj : ∀ (i j : Nat) (ds es : List PyData) (l : Addr), i ≠ j → ρ[i]? = some (.own ds) → ρ[j]? = some (.own es) → σ[i]? = some (some (.ref l)) → σ[j]? = some (some (.ref l)) → False
structure Stp (L : Addr) (B H B' H' : Hp) : Prop where
  b : Ext B B'
  h : ∀ a o, a ≠ L → H a = some o → H' a = some o
  n : ∀ a o, B' a = some o → B a = some o ∨ H a = none
  l : ∀ o, H L = some o → ∃ o', H' L = some o'
  c : ∀ p r, H L = some (.lst (p :: r)) → ∃ r', H' L = some (.lst (p :: r'))
theorem Stp.refl {L : Addr} {B H : Hp} : Stp L B H B H := ⟨Ext.refl B, fun _ _ _ h => h, fun _ _ h => .inl h, fun o h => ⟨o, h⟩, fun _ r h => ⟨r, h⟩⟩
theorem Stp.old {L : Addr} {B H B' H' : Hp} (s : Stp L B H B' H') {a : Addr} (h : H' a = none) : H a = none := by
  cases e : H a with
  | none => rfl
  | some o =>
    by_cases ha : a = L
    · subst ha
      obtain ⟨o', q⟩ := s.l o e
      rw [q] at h; cases h
    · rw [s.h a o ha e] at h; cases h
theorem Stp.trans {L : Addr} {B H B1 H1 B2 H2 : Hp} (s : Stp L B H B1 H1) (t : Stp L B1 H1 B2 H2) : Stp L B H B2 H2 :=
  ⟨s.b.trans t.b, fun a o ha h => t.h a o ha (s.h a o ha h), fun a o h => by
    rcases t.n a o h with q | q
    · exact s.n a o q
    · exact .inr (s.old q), fun o h => by
    obtain ⟨o', q⟩ := s.l o h
    exact t.l o' q, fun p r h => by
    obtain ⟨r', q⟩ := s.c p r h
    exact t.c p r' q⟩
/-- what a value is, once what is new of it is laid for good -/
def RepA (K : PySem.W.Frag) (mg : Str → Option Value) (L : Addr) (B : Hp) (σ : St) (ρ : Env) (v : V) : R → Prop
  | .val d => Rep K B v d
  | .fresh _ => False
  | .held i ds => ρ[i]? = some (.own ds) ∧ σ[i]? = some (some v)
  | .hdl => v = .ref L
  | .fn f => ∃ a, v = .ref a ∧ mg f = some (.ref a)
def RepR (K : PySem.W.Frag) (mg : Str → Option Value) (L : Addr) (H0 B H : Hp) (σ : St) (ρ : Env) (v : V) : R → Prop
  | .fresh ds => ∃ l vs, v = .ref l ∧ H0 l = none ∧ B l = none ∧ l ≠ L ∧ H l = some (.lst vs) ∧ RepAll K B vs ds ∧ ∀ (i : Nat) (es : List PyData), ρ[i]? = some (.own es) → σ[i]? ≠ some (some (.ref l))
  | r => RepA K mg L B σ ρ v r
def R.fz : R → R
  | .fresh ds => .val (.list ds)
  | r => r
/-- readable now -/
def RdD (K : PySem.W.Frag) (B H : Hp) (v : V) : PyData → Prop
  | .list ds => ∃ a vs, v = .ref a ∧ H a = some (.lst vs) ∧ RepAll K B vs ds
  | d => Rep K B v d
section
variable {K : PySem.W.Frag} {mg : Str → Option Value} {L : Addr} {B H B' H' H0 : Hp} {σ : St} {ρ : Env} {s : DS} {v : V} {r : R} {d : PyData}
theorem Rl.lL (I : Rl K mg L B H σ ρ s) : ∃ o, H L = some o := by obtain ⟨_, _, h⟩ := I.drw; exact ⟨_, h⟩
theorem Rl.neL (I : Rl K mg L B H σ ρ s) {p : Addr} (h : H p = none) : p ≠ L := fun e => by
  obtain ⟨o, q⟩ := I.lL
  rw [e, q] at h; cases h
theorem RepA.mono (e : Ext B B') (h : RepA K mg L B σ ρ v r) : RepA K mg L B' σ ρ v r := by
  cases r with
  | val d => exact Rep.mono e _ _ h
  | fresh _ => exact h
  | held _ _ => exact h
  | hdl => exact h
  | fn _ => exact h
theorem RepR.of (h : RepA K mg L B σ ρ v r) : RepR K mg L H0 B H σ ρ v r := by
  cases r with
  | fresh _ => exact h.elim
  | val _ => exact h
  | held _ _ => exact h
  | hdl => exact h
  | fn _ => exact h
/-- carried on -/
theorem RepR.step (h : RepR K mg L H0 B H σ ρ v r) (st : Stp L B H B' H') : RepR K mg L H0 B' H' σ ρ v r := by
  cases r with
  | fresh ds =>
    obtain ⟨l, vs, e, h0, h1, h2, h3, h4, h5⟩ := h
    refine ⟨l, vs, e, h0, ?_, h2, st.h _ _ h2 h3, RepAll.mono st.b _ _ h4, h5⟩
    cases q : B' l with
    | none => rfl
    | some o =>
      rcases st.n l o q with z | z
      · rw [h1] at z; cases z
      · rw [h3] at z; cases z
  | val _ => exact Rep.mono st.b _ _ h
  | held _ _ => exact h
  | hdl => exact h
  | fn _ => exact h
/-- told from an earlier heap -/
theorem RepR.back {H1 : Hp} (h : RepR K mg L H1 B H σ ρ v r) (k : ∀ p, H1 p = none → p ≠ L → H0 p = none) : RepR K mg L H0 B H σ ρ v r := by
  cases r with
  | fresh ds =>
    obtain ⟨l, vs, e, h0, h1, h2, h3⟩ := h
    exact ⟨l, vs, e, k _ h0 h2, h1, h2, h3⟩
  | val _ => exact h
  | held _ _ => exact h
  | hdl => exact h
  | fn _ => exact h
theorem RepR.back' {B0 B1 H1 : Hp} (h : RepR K mg L H1 B H σ ρ v r) (st : Stp L B0 H0 B1 H1) : RepR K mg L H0 B H σ ρ v r := h.back fun _ q _ => st.old q
theorem RepR.rd (I : Rl K mg L B H σ ρ s) (h : RepR K mg L H0 B H σ ρ v r) (e : r.dat = some d) : RdD K B H v d := by
  cases r with
  | val d' =>
    have e' : d' = d := Option.some.inj e
    subst e'
    have h' : Rep K B v d' := h
    cases d' with
    | list ds =>
      cases h' with
      | lst hs ha => exact ⟨_, _, rfl, I.ext _ _ hs, ha⟩
    | _ => exact h'
  | fresh ds =>
    have e' : PyData.list ds = d := Option.some.inj e
    subst e'
    obtain ⟨l, vs, e, h0, h1, h2, h3, h4, h5⟩ := h
    exact ⟨l, vs, e, h3, h4⟩
  | held i ds =>
    have e' : PyData.list ds = d := Option.some.inj e
    subst e'
    obtain ⟨h1, h2⟩ := h
    obtain ⟨l, vs, q1, q2, q3, q4, q5⟩ := I.own i ds h1
    rw [h2] at q1
    cases q1
    exact ⟨l, vs, rfl, q4, q5⟩
  | hdl => cases e
  | fn _ => cases e
theorem RdD.dp (e : Ext B H) (h : RdD K B H v d) : Dp K H v d := by
  cases d with
  | list ds =>
    obtain ⟨a, vs, rfl, h1, h2⟩ := h
    exact .lst (SqL.of h1) (RepAll.dp e _ _ h2)
  | none => exact Rep.dp e _ _ h
  | bool _ => exact Rep.dp e _ _ h
  | int _ => exact Rep.dp e _ _ h
  | str _ => exact Rep.dp e _ _ h
  | tuple _ => exact Rep.dp e _ _ h
  | dict _ => exact Rep.dp e _ _ h
theorem RdD.int {i : Int} (h : RdD K B H v (.int i)) : v = .int i := by cases h; rfl
theorem RdD.bl {i : Bool} (h : RdD K B H v (.bool i)) : v = .bl i := by cases h; rfl
theorem RdD.non (h : RdD K B H v .none) : v = .non := by cases h; rfl
theorem RdD.str {x : Str} (h : RdD K B H v (.str x)) : v = .str x := by cases h; rfl
theorem RdD.tup {ds : List PyData} (h : RdD K B H v (.tuple ds)) : ∃ a xs, v = .ref a ∧ SqT K B a xs ∧ RepAll K B xs ds := by
  cases h with
  | tup h1 h2 => exact ⟨_, _, rfl, h1, h2⟩
/-- a new object is laid: a tuple for good -/
theorem Rl.laidB {p : Addr} {o : HO} (I : Rl K mg L B H σ ρ s) (hp : H p = none) : Rl K mg L (upd B p o) (upd H p o) σ ρ s := by
  have hB := I.ext.no hp
  have e := Ext.up (o := o) hB
  have nL := I.neL hp
  obtain ⟨l1, h1, h2⟩ := I.drw
  refine ⟨I.ext.updBoth, by rw [upd_ne nL.symm]; exact I.nL, ⟨l1, e _ _ h1, by rw [upd_ne nL.symm]; exact h2⟩, I.len, fun i d q => ?_, fun i ds q => ?_, I.hdl, I.fn, I.inj⟩
  · obtain ⟨v, h1, h2⟩ := I.val i d q
    exact ⟨v, h1, Rep.mono e _ _ h2⟩
  · obtain ⟨l, vs, q1, q2, q3, q4, q5⟩ := I.own i ds q
    have ne : l ≠ p := ne_of_none q4 hp
    exact ⟨l, vs, q1, by rw [upd_ne ne]; exact q2, q3, by rw [upd_ne ne]; exact q4, RepAll.mono e _ _ q5⟩
theorem Stp.laidB {p : Addr} {o : HO} (I : Rl K mg L B H σ ρ s) (hp : H p = none) : Stp L B H (upd B p o) (upd H p o) :=
  ⟨Ext.up (I.ext.no hp), fun a u _ h => by rw [upd_ne (ne_of_none h hp)]; exact h, fun a u h => by
    by_cases ha : a = p
    · exact .inr (ha ▸ hp)
    · rw [upd_ne ha] at h; exact .inl h, fun o h => ⟨o, by rw [upd_ne (ne_of_none h hp)]; exact h⟩, fun p r h => ⟨r, by rw [upd_ne (ne_of_none h hp)]; exact h⟩⟩
/-- .. a new list, not for good -/
theorem Rl.laid {p : Addr} {o : HO} (I : Rl K mg L B H σ ρ s) (hp : H p = none) : Rl K mg L B (upd H p o) σ ρ s := by
  have hB := I.ext.no hp
  have nL := I.neL hp
  obtain ⟨l1, h1, h2⟩ := I.drw
  refine ⟨I.ext.upd2 hB, I.nL, ⟨l1, h1, by rw [upd_ne nL.symm]; exact h2⟩, I.len, I.val, fun i ds q => ?_, I.hdl, I.fn, I.inj⟩
  obtain ⟨l, vs, q1, q2, q3, q4, q5⟩ := I.own i ds q
  have ne : l ≠ p := ne_of_none q4 hp
  exact ⟨l, vs, q1, q2, q3, by rw [upd_ne ne]; exact q4, q5⟩
theorem Stp.laid {p : Addr} {o : HO} (hp : H p = none) : Stp L B H B (upd H p o) :=
  ⟨Ext.refl B, fun a u _ h => by rw [upd_ne (ne_of_none h hp)]; exact h, fun a u h => .inl h, fun o h => ⟨o, by rw [upd_ne (ne_of_none h hp)]; exact h⟩, fun p r h => ⟨r, by rw [upd_ne (ne_of_none h hp)]; exact h⟩⟩
theorem RepR.new {p : Addr} {vs : List V} {ds : List PyData} (I : Rl K mg L B H σ ρ s) (hp : H p = none) (h0 : ∀ q, H q = none → H0 q = none) (hr : RepAll K B vs ds) : RepR K mg L H0 B (upd H p (.lst vs)) σ ρ (.ref p) (.fresh ds) := by
  refine ⟨p, vs, rfl, h0 _ hp, I.ext.no hp, I.neL hp, upd_same, hr, fun i es q e => ?_⟩
  obtain ⟨l, vs', q1, q2, q3, q4, q5⟩ := I.own i es q
  rw [e] at q1
  cases q1
  rw [hp] at q4; cases q4
/-- what is new is laid for good -/
theorem Rl.fz (I : Rl K mg L B H σ ρ s) (h : RepR K mg L H0 B H σ ρ v r) :
    ∃ B', Rl K mg L B' H σ ρ s ∧ Ext B B' ∧ (∀ a o, B' a = some o → B a = some o ∨ H0 a = none) ∧ RepA K mg L B' σ ρ v r.fz ∧ ∀ a o, B' a = some o → B a = some o ∨ v = .ref a := by
  cases r with
  | fresh ds =>
    obtain ⟨l, vs, e, h0, h1, h2, h3, h4, h5⟩ := h
    have x : Ext B (upd B l (.lst vs)) := Ext.up h1
    obtain ⟨l1, d1, d2⟩ := I.drw
    refine ⟨upd B l (.lst vs), ⟨I.ext.updB h3, by rw [upd_ne h2.symm]; exact I.nL, ⟨l1, x _ _ d1, d2⟩, I.len, fun i d q => ?_, fun i es q => ?_, I.hdl, I.fn, I.inj⟩, x, fun a o q => ?_, ?_, fun a o q => ?_⟩
    · obtain ⟨w, z1, z2⟩ := I.val i d q
      exact ⟨w, z1, Rep.mono x _ _ z2⟩
    · obtain ⟨m, ws, q1, q2, q3, q4, q5⟩ := I.own i es q
      have ne : m ≠ l := fun z => h5 i es q (z ▸ q1)
      exact ⟨m, ws, q1, by rw [upd_ne ne]; exact q2, q3, q4, RepAll.mono x _ _ q5⟩
    · by_cases ha : a = l
      · exact .inr (ha ▸ h0)
      · rw [upd_ne ha] at q; exact .inl q
    · subst e
      exact Rep.lst upd_same (RepAll.mono x _ _ h4)
    · by_cases ha : a = l
      · subst ha; exact .inr e
      · rw [upd_ne ha] at q; exact .inl q
  | val _ => exact ⟨B, I, Ext.refl B, fun _ _ h => .inl h, h, fun _ _ h => .inl h⟩
  | held _ _ => exact ⟨B, I, Ext.refl B, fun _ _ h => .inl h, h, fun _ _ h => .inl h⟩
  | hdl => exact ⟨B, I, Ext.refl B, fun _ _ h => .inl h, h, fun _ _ h => .inl h⟩
  | fn _ => exact ⟨B, I, Ext.refl B, fun _ _ h => .inl h, h, fun _ _ h => .inl h⟩
theorem Rl.fzS {B0 : Hp} (I : Rl K mg L B H σ ρ s) (h : RepR K mg L H0 B H σ ρ v r) (st : Stp L B0 H0 B H) :
    ∃ B', Rl K mg L B' H σ ρ s ∧ Stp L B0 H0 B' H ∧ RepA K mg L B' σ ρ v r.fz := by
  obtain ⟨B', I', x, n, q, _⟩ := I.fz h
  refine ⟨B', I', ⟨st.b.trans x, st.h, fun a o e => ?_, st.l, st.c⟩, q⟩
  rcases n a o e with z | z
  · exact st.n a o z
  · exact .inr z
end
end Z

namespace Z
open PySem L2
section
variable (K : PySem.W.Frag) (mg : Str → Option Value) (F : Str → List Slot → DS → Option (R × DS)) (G : Str → Option PyData)
def tE (c : E) : TE := fun σ H Q => ∃ L B ρ s r s', Rl K mg L B H σ ρ s ∧ evE F G c ρ s = some (r, s') ∧
  ∀ v B' H', Rl K mg L B' H' σ ρ s' → Stp L B H B' H' → RepR K mg L H B' H' σ ρ v r → Q v H'
def tEs (c : Es) : TA := fun σ H Q => ∃ L B ρ s rs s', Rl K mg L B H σ ρ s ∧ evEs F G c ρ s = some (rs, s') ∧
  ∀ vs B' H', Rl K mg L B' H' σ ρ s' → Stp L B H B' H' → Paired (fun v (r : R) => RepA K mg L B' σ ρ v r.fz) vs rs → Q vs H'
def tT (c : T) : TT := fun σ H Q => ∃ L B ρ s b s', Rl K mg L B H σ ρ s ∧ evT F G c ρ s = some (b, s') ∧
  ∀ B' H', Rl K mg L B' H' σ ρ s' → Stp L B H B' H' → Q b H'
def tTs (c : Ts) : TT := fun σ H Q => ∃ L B ρ s b s', Rl K mg L B H σ ρ s ∧ evTs F G c ρ s = some (b, s') ∧
  ∀ B' H', Rl K mg L B' H' σ ρ s' → Stp L B H B' H' → Q b H'
def tO (c : O) : TO := fun σ H Q => ∃ L B ρ s b s', Rl K mg L B H σ ρ s ∧ evO F G c ρ s = some (b, s') ∧
  ∀ B' H', Rl K mg L B' H' σ ρ s' → Stp L B H B' H' → Q b H'
/-- a good iterator: of the items xs, while what stands in Bs stands -/
structure Good (L : Addr) (B0 Bs : Hp) (xs : List PyData) (J : L2.It) : Prop where
  go : ∀ i H, i < xs.length → Ext Bs H → J.go i H
  stop : ∀ H, Ext Bs H → J.stop xs.length H
  yld : ∀ i H x H', i < xs.length → Ext Bs H → J.yld i H x H' → ∀ B σ ρ s, Ext B0 B → Rl K mg L B H σ ρ s →
    ∃ B2 d, Rl K mg L B2 H' σ ρ s ∧ Stp L B H B2 H' ∧ xs[i]? = some d ∧ Rep K B2 x d
def tIt (c : Z.It) : TI := fun σ H Q => ∃ L B ρ s xs al s', Rl K mg L B H σ ρ s ∧ evIt F G c ρ s = some ((xs, al), s') ∧
  ∀ J B' H' Bs, Rl K mg L B' H' σ ρ s' → Stp L B H B' H' → Ext Bs H' → Bs L = none → (al = false → Bs = B') → Good K mg L B' Bs xs J → Q J H'
end

section
variable {X : Cx}
theorem pe_mono {e : Expr} {t t' : TE} (h : PE X e t) (k : ∀ σ H Q, t' σ H Q → t σ H Q) : PE X e t' := ⟨fun pins s σ H Q I q => h.run pins s σ H Q I (k σ H Q q)⟩
theorem pt_mono {e : Expr} {t t' : TT} (h : PT X e t) (k : ∀ σ H Q, t' σ H Q → t σ H Q) : PT X e t' := ⟨fun pins s σ H Q I q => h.run pins s σ H Q I (k σ H Q q)⟩
theorem pw_mono {e : Expr} {t t' : TT} (h : PW X e t) (k : ∀ σ H Q, t' σ H Q → t σ H Q) : PW X e t' := ⟨fun w pins s σ H Q I q => h.run w pins s σ H Q I (k σ H Q q)⟩
theorem pts_mono {e : List Expr} {t t' : TT} (h : PTs X e t) (k : ∀ σ H Q, t' σ H Q → t σ H Q) : PTs X e t' := ⟨fun pins s σ H Q I q => h.run pins s σ H Q I (k σ H Q q)⟩
theorem pa_mono {e : List Expr} {t t' : TA} (h : PA X e t) (k : ∀ σ H Q, t' σ H Q → t σ H Q) : PA X e t' := ⟨fun p pins s σ H Q I q => h.run p pins s σ H Q I (k σ H Q q)⟩
theorem po_mono {e : Option Expr} {t t' : TO} (h : PO X e t) (k : ∀ σ H Q, t' σ H Q → t σ H Q) : PO X e t' := ⟨fun pins s σ H Q I q => h.run pins s σ H Q I (k σ H Q q)⟩
theorem pi_mono {tg e : Expr} {t t' : TI} (h : PI X tg e t) (k : ∀ σ H Q, t' σ H Q → t σ H Q) : PI X tg e t' := ⟨fun pins s σ H Q I q => h.run pins s σ H Q I (k σ H Q q)⟩
theorem ps_mono {e : Stmt} {t t' : TS} (h : PS X e t) (k : ∀ D σ H, t' D σ H → t D σ H) : PS X e t' := ⟨fun pins s σ H D I q => h.run pins s σ H D I (k D σ H q)⟩
theorem pss_mono {e : List Stmt} {t t' : TS} (h : PSs X e t) (k : ∀ D σ H, t' D σ H → t D σ H) : PSs X e t' := ⟨fun pins s σ H D I q => h.run pins s σ H D I (k D σ H q)⟩
end

section
variable {K : PySem.W.Frag} {mg : Str → Option Value} {F : Str → List Slot → DS → Option (R × DS)} {G : Str → Option PyData} {L : Addr} {B H : Hp} {σ : L2.St} {ρ : Z.Env} {s s1 s2 s' : DS}

/-! ### names, constants -/
theorem le_var {i : Nat} {Q : VK} (h : tE K mg F G (.var i) σ H Q) : tVar i σ H Q := by
  obtain ⟨L, B, ρ, s, r, s', I, e, k⟩ := h
  simp only [evE] at e
  cases hx : ρ[i]? with
  | none => simp [hx] at e
  | some x =>
    simp only [hx] at e
    cases x with
    | no => simp [Slot.r] at e
    | val d =>
      simp only [Slot.r, Option.some.injEq, Prod.mk.injEq] at e
      obtain ⟨e1, e2⟩ := e
      subst e1 e2
      obtain ⟨v, h1, h2⟩ := I.val i d hx
      exact ⟨v, h1, k v B H I Stp.refl h2⟩
    | own ds =>
      simp only [Slot.r, Option.some.injEq, Prod.mk.injEq] at e
      obtain ⟨e1, e2⟩ := e
      subst e1 e2
      obtain ⟨l, vs, q1, q2⟩ := I.own i ds hx
      exact ⟨_, q1, k _ B H I Stp.refl ⟨hx, q1⟩⟩
    | hdl =>
      simp only [Slot.r, Option.some.injEq, Prod.mk.injEq] at e
      obtain ⟨e1, e2⟩ := e
      subst e1 e2
      exact ⟨_, I.hdl i hx, k _ B H I Stp.refl rfl⟩
    | fn f =>
      simp only [Slot.r, Option.some.injEq, Prod.mk.injEq] at e
      obtain ⟨e1, e2⟩ := e
      subst e1 e2
      obtain ⟨a, q1, q2⟩ := I.fn i f hx
      exact ⟨_, q1, k _ B H I Stp.refl ⟨a, rfl, q2⟩⟩
def Cst.v : Cst → V
  | .non => .non
  | .bl b => .bl b
  | .int i => .int i
  | .str x => .str x
theorem Cst.rep {c : Cst} : Rep K B c.v c.d := by
  cases c with
  | non => exact .non
  | bl b => exact .bl b
  | int i => exact .int i
  | str x => exact .str x
theorem le_cst {c : Cst} {Q : VK} (h : tE K mg F G (.cst c) σ H Q) : tC c.v σ H Q := by
  obtain ⟨L, B, ρ, s, r, s', I, e, k⟩ := h
  simp only [evE, Option.some.injEq, Prod.mk.injEq] at e
  obtain ⟨e1, e2⟩ := e
  subst e1 e2
  exact k _ B H I Stp.refl Cst.rep
theorem le_glo {x : Str} {Q : VK} {v : V} (hv : ∀ d, G x = some d → ∀ B, Rep K B v d) (h : tE K mg F G (.glo x) σ H Q) : tC v σ H Q := by
  obtain ⟨L, B, ρ, s, r, s', I, e, k⟩ := h
  simp only [evE] at e
  cases hx : G x with
  | none => simp [hx] at e
  | some d =>
    simp only [hx, Option.some.injEq, Prod.mk.injEq] at e
    obtain ⟨e1, e2⟩ := e
    subst e1 e2
    exact k _ B H I Stp.refl (hv d hx B)
theorem le_fnv {f : Str} {Q : VK} {a : Addr} (hv : mg f = some (.ref a)) (h : tE K mg F G (.fnv f) σ H Q) : tC (.ref a) σ H Q := by
  obtain ⟨L, B, ρ, s, r, s', I, e, k⟩ := h
  simp only [evE, Option.some.injEq, Prod.mk.injEq] at e
  obtain ⟨e1, e2⟩ := e
  subst e1 e2
  exact k _ B H I Stp.refl ⟨a, rfl, hv⟩

/-! ### argument lists -/
theorem le_nil {Q} (h : tEs K mg F G .nil σ H Q) : tNil σ H Q := by
  obtain ⟨L, B, ρ, s, r, s', I, e, k⟩ := h
  simp only [evEs, Option.some.injEq, Prod.mk.injEq] at e
  obtain ⟨e1, e2⟩ := e
  subst e1 e2
  exact k _ B H I Stp.refl .nil
theorem RepA.rb {v : V} {r : R} {B B' : Hp} (e : Ext B B') (h : RepA K mg L B σ ρ v r) : RepA K mg L B' σ ρ v r := h.mono e
theorem paired_mono {B B' : Hp} (e : Ext B B') : ∀ {vs : List V} {rs : List R}, Paired (fun v (r : R) => RepA K mg L B σ ρ v r.fz) vs rs → Paired (fun v (r : R) => RepA K mg L B' σ ρ v r.fz) vs rs
  | _, _, .nil => .nil
  | _, _, .cons r t => .cons (RepA.mono e r) (paired_mono e t)
theorem le_cons {a : E} {as : Es} {Q} (h : tEs K mg F G (.cons a as) σ H Q) : tCons (tE K mg F G a) (tEs K mg F G as) σ H Q := by
  obtain ⟨L, B, ρ, s, r, s', I, e, k⟩ := h
  simp only [evEs] at e
  cases ha : evE F G a ρ s with
  | none => simp [ha] at e
  | some p =>
    obtain ⟨ra, s1⟩ := p
    simp only [ha] at e
    cases hb : evEs F G as ρ s1 with
    | none => simp [hb] at e
    | some p =>
      obtain ⟨rs, s2⟩ := p
      simp only [hb, Option.some.injEq, Prod.mk.injEq] at e
      obtain ⟨e1, e2⟩ := e
      subst e1 e2
      refine ⟨L, B, ρ, s, ra, s1, I, ha, fun v B1 H1 I1 st1 q1 => ?_⟩
      obtain ⟨B2, I2, st2, q2⟩ := I1.fzS q1 st1
      refine ⟨L, B2, ρ, s1, rs, s2, I2, hb, fun vs B3 H3 I3 st3 q3 => ?_⟩
      exact k _ B3 H3 I3 (st2.trans st3) (.cons (q2.mono st3.b) q3)
theorem emb_of : ∀ {vs : List V} {rs : List R} {ds : List PyData}, Paired (fun v (r : R) => RepA K mg L B σ ρ v r.fz) vs rs → embs rs = some ds → RepAll K B vs ds
  | _, _, ds, .nil, e => by
    simp only [embs, Option.some.injEq] at e; subst e; exact .nil
  | v :: vs, r :: rs, ds, .cons h t, e => by
    simp only [embs] at e
    cases hr : r.emb with
    | none => simp [hr] at e
    | some d =>
      cases ht : embs rs with
      | none => simp [hr, ht] at e
      | some ds' =>
        simp only [hr, ht, Option.some.injEq] at e
        subst e
        refine .cons ?_ (emb_of t ht)
        cases r with
        | val d' => cases hr; exact h
        | fresh ds => cases hr; exact h
        | held _ _ => cases hr
        | hdl => cases hr
        | fn _ => cases hr
theorem le_tup {es : Es} {Q} (h : tE K mg F G (.tup es) σ H Q) : tTup (tEs K mg F G es) σ H Q := by
  obtain ⟨L, B, ρ, s, r, s', I, e, k⟩ := h
  simp only [evE] at e
  cases ha : evEs F G es ρ s with
  | none => simp [ha] at e
  | some p =>
    obtain ⟨rs, s1⟩ := p
    simp only [ha] at e
    cases hm : embs rs with
    | none => simp [hm] at e
    | some ds =>
      simp only [hm] at e
      split at e
      · rename_i hl
        simp only [Option.some.injEq, Prod.mk.injEq] at e
        obtain ⟨e1, e2⟩ := e
        subst e1 e2
        refine ⟨L, B, ρ, s, rs, s1, I, ha, fun vs B1 H1 I1 st1 q1 => ?_⟩
        have q := emb_of q1 hm
        refine ⟨by rw [q.length]; exact hl, fun p hp => ?_⟩
        have hB := I1.ext.no hp
        exact k _ _ _ (I1.laidB hp) (st1.trans (Stp.laidB I1 hp)) (Rep.tup (.inl (.inl upd_same)) (RepAll.mono (Ext.up hB) _ _ q))
      · cases e
theorem le_lst {es : Es} {Q} (h : tE K mg F G (.lst es) σ H Q) : tLst (tEs K mg F G es) σ H Q := by
  obtain ⟨L, B, ρ, s, r, s', I, e, k⟩ := h
  simp only [evE] at e
  cases ha : evEs F G es ρ s with
  | none => simp [ha] at e
  | some p =>
    obtain ⟨rs, s1⟩ := p
    simp only [ha] at e
    cases hm : embs rs with
    | none => simp [hm] at e
    | some ds =>
      simp only [hm] at e
      split at e
      · rename_i hl
        simp only [Option.some.injEq, Prod.mk.injEq] at e
        obtain ⟨e1, e2⟩ := e
        subst e1 e2
        refine ⟨L, B, ρ, s, rs, s1, I, ha, fun vs B1 H1 I1 st1 q1 => ?_⟩
        have q := emb_of q1 hm
        refine ⟨by rw [q.length]; exact hl, fun p hp => ?_⟩
        exact k _ _ _ (I1.laid hp) (st1.trans (Stp.laid hp)) (RepR.new I1 hp (fun _ z => st1.old z) q)
      · cases e

/-! ### two expressions -/
theorem two {a b : E} {ra rb : R} {r : R2} {Q : VK} (I : Rl K mg L B H σ ρ s) (ha : evE F G a ρ s = some (ra, s1)) (hb : evE F G b ρ s1 = some (rb, s2))
    (k : ∀ x y B2 H2, Rl K mg L B2 H2 σ ρ s2 → Stp L B H B2 H2 → RepR K mg L H B2 H2 σ ρ x ra → RepR K mg L H B2 H2 σ ρ y rb → r x y H2 Q) : tOp r (tE K mg F G a) (tE K mg F G b) σ H Q := by
  refine ⟨L, B, ρ, s, ra, s1, I, ha, fun x B1 H1 I1 st1 q1 => ?_⟩
  refine ⟨L, B1, ρ, s1, rb, s2, I1, hb, fun y B2 H2 I2 st2 q2 => ?_⟩
  exact k x y B2 H2 I2 (st1.trans st2) (q1.step st2) (q2.back' st1)
/-- an operation on values that answers as f says -/
def OpD (K : PySem.W.Frag) (mg : Str → Option Value) (r : R2) (f : PyData → PyData → Option R) : Prop :=
  ∀ (L : Addr) (B H H0 : Hp) (σ : L2.St) (ρ : Z.Env) (s : DS) (x y : V) (d e : PyData) (z : R) (Q : VK), Rl K mg L B H σ ρ s → (∀ q, H q = none → H0 q = none) → RdD K B H x d → RdD K B H y e → f d e = some z →
    (∀ v B' H', Rl K mg L B' H' σ ρ s → Stp L B H B' H' → RepR K mg L H0 B' H' σ ρ v z → Q v H') → r x y H Q
theorem le_bin {o : BOp} {a b : E} {r : R2} {Q : VK} (D : OpD K mg r (evBin o)) (h : tE K mg F G (.bin o a b) σ H Q) : tOp r (tE K mg F G a) (tE K mg F G b) σ H Q := by
  obtain ⟨L, B, ρ, s, z, s', I, e, k⟩ := h
  simp only [evE] at e
  cases ha : evE F G a ρ s with
  | none => simp [ha] at e
  | some p =>
    obtain ⟨ra, s1⟩ := p
    simp only [ha] at e
    cases hb : evE F G b ρ s1 with
    | none => simp [hb] at e
    | some p =>
      obtain ⟨rb, s2⟩ := p
      simp only [hb] at e
      cases hx : ra.dat with
      | none => simp [hx] at e
      | some d =>
        cases hy : rb.dat with
        | none => simp [hx, hy] at e
        | some d' =>
          simp only [hx, hy] at e
          cases hz : evBin o d d' with
          | none => simp [hz] at e
          | some z' =>
            simp only [hz, Option.some.injEq, Prod.mk.injEq] at e
            obtain ⟨e1, e2⟩ := e
            subst e1 e2
            refine two I ha hb fun x y B2 H2 I2 st qx qy => ?_
            exact D L B2 H2 H σ ρ _ x y d d' z' Q I2 (fun _ z => st.old z) (qx.rd I2 hx) (qy.rd I2 hy) hz fun v B' H' I' st' q' => k v B' H' I' (st.trans st') q'
theorem le_ix {a b : E} {r : R2} {Q : VK} (D : OpD K mg r fun x y => (evIx x y).map R.val) (h : tE K mg F G (.ix a b) σ H Q) : tOp r (tE K mg F G a) (tE K mg F G b) σ H Q := by
  obtain ⟨L, B, ρ, s, z, s', I, e, k⟩ := h
  simp only [evE] at e
  cases ha : evE F G a ρ s with
  | none => simp [ha] at e
  | some p =>
    obtain ⟨ra, s1⟩ := p
    simp only [ha] at e
    cases hb : evE F G b ρ s1 with
    | none => simp [hb] at e
    | some p =>
      obtain ⟨rb, s2⟩ := p
      simp only [hb] at e
      cases hx : ra.dat with
      | none => simp [hx] at e
      | some d =>
        cases hy : rb.dat with
        | none => simp [hx, hy] at e
        | some d' =>
          simp only [hx, hy] at e
          cases hz : evIx d d' with
          | none => simp [hz] at e
          | some z' =>
            simp only [hz, Option.some.injEq, Prod.mk.injEq] at e
            obtain ⟨e1, e2⟩ := e
            subst e1 e2
            refine two I ha hb fun x y B2 H2 I2 st qx qy => ?_
            exact D L B2 H2 H σ ρ _ x y d d' (.val z') Q I2 (fun _ z => st.old z) (qx.rd I2 hx) (qy.rd I2 hy) (by show (evIx d d').map R.val = _; rw [hz]; rfl) fun v B' H' I' st' q' => k v B' H' I' (st.trans st') q'
theorem le_cmp {o : COp} {a b : E} {r : R2} {Q : VK} (D : OpD K mg r fun x y => (evCmp o x y).map fun c => R.val (.bool c)) (h : tE K mg F G (.cmp o a b) σ H Q) : tOp r (tE K mg F G a) (tE K mg F G b) σ H Q := by
  obtain ⟨L, B, ρ, s, z, s', I, e, k⟩ := h
  simp only [evE] at e
  cases ha : evE F G a ρ s with
  | none => simp [ha] at e
  | some p =>
    obtain ⟨ra, s1⟩ := p
    simp only [ha] at e
    cases hb : evE F G b ρ s1 with
    | none => simp [hb] at e
    | some p =>
      obtain ⟨rb, s2⟩ := p
      simp only [hb] at e
      cases hx : ra.dat with
      | none => simp [hx] at e
      | some d =>
        cases hy : rb.dat with
        | none => simp [hx, hy] at e
        | some d' =>
          simp only [hx, hy] at e
          cases hz : evCmp o d d' with
          | none => simp [hz] at e
          | some z' =>
            simp only [hz, Option.some.injEq, Prod.mk.injEq] at e
            obtain ⟨e1, e2⟩ := e
            subst e1 e2
            refine two I ha hb fun x y B2 H2 I2 st qx qy => ?_
            exact D L B2 H2 H σ ρ _ x y d d' (.val (.bool z')) Q I2 (fun _ z => st.old z) (qx.rd I2 hx) (qy.rd I2 hy) (by show (evCmp o d d').map _ = _; rw [hz]; rfl) fun v B' H' I' st' q' => k v B' H' I' (st.trans st') q'
theorem le_chn {o p : COp} {a b c : E} {r r' : R2} {Q : VK} (D : OpD K mg r fun x y => (evCmp o x y).map fun c => R.val (.bool c)) (D' : OpD K mg r' fun x y => (evCmp p x y).map fun c => R.val (.bool c))
    (h : tE K mg F G (.chn o p a b c) σ H Q) : tChain r r' (tE K mg F G a) (tE K mg F G b) (tE K mg F G c) σ H Q := by
  obtain ⟨L, B, ρ, s, z, s', I, e, k⟩ := h
  simp only [evE] at e
  cases ha : evE F G a ρ s with
  | none => simp [ha] at e
  | some p =>
    obtain ⟨ra, s1⟩ := p
    simp only [ha] at e
    cases hb : evE F G b ρ s1 with
    | none => simp [hb] at e
    | some p =>
      obtain ⟨rb, s2⟩ := p
      simp only [hb] at e
      cases hx : ra.dat with
      | none => simp [hx] at e
      | some d =>
        cases hy : rb.dat with
        | none => simp [hx, hy] at e
        | some d' =>
          simp only [hx, hy] at e
          refine ⟨L, B, ρ, s, ra, s1, I, ha, fun x B1 H1 I1 st1 q1 => ?_⟩
          refine ⟨L, B1, ρ, s1, rb, s2, I1, hb, fun y B2 H2 I2 st2 q2 => ?_⟩
          have st := st1.trans st2
          cases hz : evCmp o d d' with
          | none => simp [hz] at e
          | some z' =>
            refine D L B2 H2 H σ ρ _ x y d d' (.val (.bool z')) _ I2 (fun _ z => st.old z) ((q1.step st2).rd I2 hx) (q2.rd I2 hy) (by show (evCmp o d d').map _ = _; rw [hz]; rfl) fun v B3 H3 I3 st3 q3 => ?_
            have hv : v = .bl z' := by cases q3; rfl
            subst hv
            refine ⟨z', rfl, ?_⟩
            cases z' with
            | false =>
              simp only [hz, Option.some.injEq, Prod.mk.injEq] at e
              obtain ⟨e1, e2⟩ := e
              subst e1 e2
              exact k _ _ _ I3 (st.trans st3) q3
            | true =>
              simp only [hz] at e
              cases hc : evE F G c ρ s2 with
              | none => simp [hc] at e
              | some q =>
                obtain ⟨rc, s3⟩ := q
                simp only [hc] at e
                cases hw : rc.dat with
                | none => simp [hw] at e
                | some d3 =>
                  simp only [hw] at e
                  cases hu : evCmp p d' d3 with
                  | none => simp [hu] at e
                  | some u =>
                    simp only [hu, Option.some.injEq, Prod.mk.injEq] at e
                    obtain ⟨e1, e2⟩ := e
                    subst e1 e2
                    refine ⟨L, B3, ρ, s2, rc, s3, I3, hc, fun w B4 H4 I4 st4 q4 => ?_⟩
                    have st' := (st.trans st3).trans st4
                    exact D' L B4 H4 H σ ρ _ y w d' d3 (.val (.bool u)) Q I4 (fun _ z => st'.old z) ((q2.step (st3.trans st4)).rd I4 hy) (q4.rd I4 hw) (by show (evCmp p d' d3).map _ = _; rw [hu]; rfl) fun v B' H' I' st5 q' => k v B' H' I' (st'.trans st5) q'
theorem le_neg {a : E} {Q : VK} (h : tE K mg F G (.neg a) σ H Q) : tUn (rU fun i => .int (-i)) (tE K mg F G a) σ H Q := by
  obtain ⟨L, B, ρ, s, z, s', I, e, k⟩ := h
  simp only [evE] at e
  split at e
  · rename_i i s1 ha
    simp only [Option.some.injEq, Prod.mk.injEq] at e
    obtain ⟨e1, e2⟩ := e
    subst e1 e2
    refine ⟨L, B, ρ, s, _, s1, I, ha, fun x B1 H1 I1 st1 q1 => ?_⟩
    cases q1
    exact ⟨i, rfl, k _ _ _ I1 st1 (Rep.int _)⟩
  · cases e
theorem le_notV {a : E} {Q : VK} (h : tE K mg F G (.notV a) σ H Q) : tNotV (tE K mg F G a) σ H Q := by
  obtain ⟨L, B, ρ, s, z, s', I, e, k⟩ := h
  simp only [evE] at e
  split at e
  · rename_i i s1 ha
    simp only [Option.some.injEq, Prod.mk.injEq] at e
    obtain ⟨e1, e2⟩ := e
    subst e1 e2
    refine ⟨L, B, ρ, s, _, s1, I, ha, fun x B1 H1 I1 st1 q1 => ?_⟩
    cases q1
    exact ⟨i, rfl, k _ _ _ I1 st1 (Rep.bl _)⟩
  · cases e
theorem le_andV {a b : E} {Q : VK} (h : tE K mg F G (.andV a b) σ H Q) : tAndV (tE K mg F G a) (tE K mg F G b) σ H Q := by
  obtain ⟨L, B, ρ, s, z, s', I, e, k⟩ := h
  simp only [evE] at e
  split at e
  · rename_i s1 ha
    refine ⟨L, B, ρ, s, _, s1, I, ha, fun x B1 H1 I1 st1 q1 => ?_⟩
    cases q1
    refine ⟨true, rfl, ?_⟩
    refine iteT ?_
    exact ⟨L, B1, ρ, s1, z, s', I1, e, fun v B' H' I' st' q' => k v B' H' I' (st1.trans st') (q'.back' st1)⟩
  · rename_i s1 ha
    simp only [Option.some.injEq, Prod.mk.injEq] at e
    obtain ⟨e1, e2⟩ := e
    subst e1 e2
    refine ⟨L, B, ρ, s, _, s1, I, ha, fun x B1 H1 I1 st1 q1 => ?_⟩
    cases q1
    exact ⟨false, rfl, by refine iteF ?_; exact k _ _ _ I1 st1 (Rep.bl _)⟩
  · cases e
theorem le_orV {a b : E} {Q : VK} (h : tE K mg F G (.orV a b) σ H Q) : tOrV (tE K mg F G a) (tE K mg F G b) σ H Q := by
  obtain ⟨L, B, ρ, s, z, s', I, e, k⟩ := h
  simp only [evE] at e
  split at e
  · rename_i s1 ha
    refine ⟨L, B, ρ, s, _, s1, I, ha, fun x B1 H1 I1 st1 q1 => ?_⟩
    cases q1
    refine ⟨false, rfl, ?_⟩
    refine iteF ?_
    exact ⟨L, B1, ρ, s1, z, s', I1, e, fun v B' H' I' st' q' => k v B' H' I' (st1.trans st') (q'.back' st1)⟩
  · rename_i s1 ha
    simp only [Option.some.injEq, Prod.mk.injEq] at e
    obtain ⟨e1, e2⟩ := e
    subst e1 e2
    refine ⟨L, B, ρ, s, _, s1, I, ha, fun x B1 H1 I1 st1 q1 => ?_⟩
    cases q1
    exact ⟨true, rfl, by refine iteT ?_; exact k _ _ _ I1 st1 (Rep.bl _)⟩
  · cases e
theorem le_ite {t : T} {a b : E} {Q : VK} (h : tE K mg F G (.ite t a b) σ H Q) : tIf (tT K mg F G t) (tE K mg F G a) (tE K mg F G b) σ H Q := by
  obtain ⟨L, B, ρ, s, z, s', I, e, k⟩ := h
  simp only [evE] at e
  split at e
  · rename_i s1 ha
    refine ⟨L, B, ρ, s, _, s1, I, ha, fun B1 H1 I1 st1 => ?_⟩
    refine iteT ?_
    exact ⟨L, B1, ρ, s1, z, s', I1, e, fun v B' H' I' st' q' => k v B' H' I' (st1.trans st') (q'.back' st1)⟩
  · rename_i s1 ha
    refine ⟨L, B, ρ, s, _, s1, I, ha, fun B1 H1 I1 st1 => ?_⟩
    refine iteF ?_
    exact ⟨L, B1, ρ, s1, z, s', I1, e, fun v B' H' I' st' q' => k v B' H' I' (st1.trans st') (q'.back' st1)⟩
  · cases e
/-! ### tests -/
theorem le_and {a b : T} {Q} (h : tT K mg F G (.and a b) σ H Q) : tAnd (tT K mg F G a) (tT K mg F G b) σ H Q := by
  obtain ⟨L, B, ρ, s, z, s', I, e, k⟩ := h
  simp only [evT] at e
  split at e
  · rename_i s1 ha
    refine ⟨L, B, ρ, s, _, s1, I, ha, fun B1 H1 I1 st1 => ?_⟩
    refine iteT ?_
    exact ⟨L, B1, ρ, s1, z, s', I1, e, fun B' H' I' st' => k B' H' I' (st1.trans st')⟩
  · rename_i s1 ha
    simp only [Option.some.injEq, Prod.mk.injEq] at e
    obtain ⟨e1, e2⟩ := e
    subst e1 e2
    exact ⟨L, B, ρ, s, _, s1, I, ha, fun B1 H1 I1 st1 => by refine iteF ?_; exact k _ _ I1 st1⟩
  · cases e
theorem le_or {a b : T} {Q} (h : tT K mg F G (.or a b) σ H Q) : tOr (tT K mg F G a) (tT K mg F G b) σ H Q := by
  obtain ⟨L, B, ρ, s, z, s', I, e, k⟩ := h
  simp only [evT] at e
  split at e
  · rename_i s1 ha
    refine ⟨L, B, ρ, s, _, s1, I, ha, fun B1 H1 I1 st1 => ?_⟩
    refine iteF ?_
    exact ⟨L, B1, ρ, s1, z, s', I1, e, fun B' H' I' st' => k B' H' I' (st1.trans st')⟩
  · rename_i s1 ha
    simp only [Option.some.injEq, Prod.mk.injEq] at e
    obtain ⟨e1, e2⟩ := e
    subst e1 e2
    exact ⟨L, B, ρ, s, _, s1, I, ha, fun B1 H1 I1 st1 => by refine iteT ?_; exact k _ _ I1 st1⟩
  · cases e
theorem le_not {a : T} {Q} (h : tT K mg F G (.not a) σ H Q) : tNot (tT K mg F G a) σ H Q := by
  obtain ⟨L, B, ρ, s, z, s', I, e, k⟩ := h
  simp only [evT] at e
  split at e
  · rename_i c s1 ha
    simp only [Option.some.injEq, Prod.mk.injEq] at e
    obtain ⟨e1, e2⟩ := e
    subst e1 e2
    exact ⟨L, B, ρ, s, _, s1, I, ha, fun B1 H1 I1 st1 => k _ _ I1 st1⟩
  · cases e
theorem tru_of {v : V} {d : PyData} {c : Bool} (x : Ext B H) (h : RdD K B H v d) (e : evTru d = some c) : TruV K v H c := by
  cases d with
  | none => cases e; cases h; rfl
  | bool b => cases e; cases h; rfl
  | int i => cases e; cases h; rfl
  | str _ => cases e
  | dict _ => cases e
  | list xs =>
    cases e
    obtain ⟨a, vs, rfl, h1, h2⟩ := h
    exact .inl ⟨vs, SqL.of h1, by rw [h2.isEmpty]⟩
  | tuple xs =>
    cases e
    obtain ⟨a, vs, rfl, h1, h2⟩ := h.tup
    exact .inr (.inl ⟨vs, x.sqt h1, by rw [h2.isEmpty]⟩)
theorem le_e {a : E} {Q} (h : tT K mg F G (.e a) σ H Q) : (fun (σ : L2.St) H Q => tE K mg F G a σ H fun x H' => ∃ k, TruV K x H' k ∧ Q k H') σ H Q := by
  obtain ⟨L, B, ρ, s, z, s', I, e, k⟩ := h
  simp only [evT] at e
  cases ha : evE F G a ρ s with
  | none => simp [ha] at e
  | some p =>
    obtain ⟨ra, s1⟩ := p
    simp only [ha] at e
    cases hx : ra.dat with
    | none => simp [hx] at e
    | some d =>
      simp only [hx] at e
      cases hz : evTru d with
      | none => simp [hz] at e
      | some c =>
        simp only [hz, Option.some.injEq, Prod.mk.injEq] at e
        obtain ⟨e1, e2⟩ := e
        subst e1 e2
        exact ⟨L, B, ρ, s, _, s1, I, ha, fun x B1 H1 I1 st1 q1 => ⟨c, tru_of I1.ext (q1.rd I1 hx) hz, k _ _ I1 st1⟩⟩
/-- a comparison as a test -/
theorem le_eB {a : E} {Q} (hb : ∀ ρ s r s', evE F G a ρ s = some (r, s') → ∃ c, r = .val (.bool c)) (h : tT K mg F G (.e a) σ H Q) : tB (tE K mg F G a) σ H Q := by
  obtain ⟨L, B, ρ, s, z, s', I, e, k⟩ := h
  simp only [evT] at e
  cases ha : evE F G a ρ s with
  | none => simp [ha] at e
  | some p =>
    obtain ⟨ra, s1⟩ := p
    obtain ⟨c, rfl⟩ := hb _ _ _ _ ha
    simp only [ha, R.dat, evTru, Option.some.injEq, Prod.mk.injEq] at e
    obtain ⟨e1, e2⟩ := e
    subst e1 e2
    refine ⟨L, B, ρ, s, _, s1, I, ha, fun x B1 H1 I1 st1 q1 => ?_⟩
    cases q1
    exact ⟨_, rfl, k _ _ I1 st1⟩
theorem le_tsnil {Q} (h : tTs K mg F G .nil σ H Q) : tYes σ H Q := by
  obtain ⟨L, B, ρ, s, z, s', I, e, k⟩ := h
  simp only [evTs, Option.some.injEq, Prod.mk.injEq] at e
  obtain ⟨e1, e2⟩ := e
  subst e1 e2
  exact k _ _ I Stp.refl
theorem le_tsone {t : T} {Q} (h : tTs K mg F G (.cons t .nil) σ H Q) : tT K mg F G t σ H Q := by
  obtain ⟨L, B, ρ, s, z, s', I, e, k⟩ := h
  simp only [evTs] at e
  split at e
  · rename_i s1 ha
    simp only [Option.some.injEq, Prod.mk.injEq] at e
    obtain ⟨e1, e2⟩ := e
    subst e1 e2
    exact ⟨L, B, ρ, s, _, _, I, ha, fun B1 H1 I1 st1 => k _ _ I1 st1⟩
  · rename_i s1 ha
    simp only [Option.some.injEq, Prod.mk.injEq] at e
    obtain ⟨e1, e2⟩ := e
    subst e1 e2
    exact ⟨L, B, ρ, s, _, _, I, ha, fun B1 H1 I1 st1 => k _ _ I1 st1⟩
  · cases e
theorem le_none {Q} (h : tO K mg F G .none σ H Q) : tNoPart σ H Q := by
  obtain ⟨L, B, ρ, s, z, s', I, e, k⟩ := h
  simp only [evO, Option.some.injEq, Prod.mk.injEq] at e
  obtain ⟨e1, e2⟩ := e
  subst e1 e2
  exact k _ _ I Stp.refl
theorem le_some {a : E} {Q} (h : tO K mg F G (.some a) σ H Q) : tPart (tE K mg F G a) σ H Q := by
  obtain ⟨L, B, ρ, s, z, s', I, e, k⟩ := h
  simp only [evO] at e
  split at e
  · rename_i i s1 ha
    simp only [Option.some.injEq, Prod.mk.injEq] at e
    obtain ⟨e1, e2⟩ := e
    subst e1 e2
    refine ⟨L, B, ρ, s, _, s1, I, ha, fun x B1 H1 I1 st1 q1 => ?_⟩
    cases q1
    exact ⟨i, rfl, k _ _ I1 st1⟩
  · cases e
end
end Z

namespace L2
open PySem PySem.Spec PyProof.Rows
theorem tupMulSame (l : Addr) (items : Array Value) (n : Nat) (dd : Option Addr) (sl : Array (Option Value)) (x : Int) (u : Tok) (c0 : (decide (x < -(2 ^ 63)) || decide (x ≥ 2 ^ 63)) = false) (c1 : (items.isEmpty || x == 1) = true) :
    Meets (Builtin.«tuple.__mul__» ⟨[.ref l, .int x u], []⟩) (fun _ R s => s.heap.get? l = some { cls := .type "tuple", dict := dd, data := .seq items n, slots := sl } ∧
      R (.ok (.ret (Value.ref l))) s) :=
  .of_wp fun prog w A R s h => by
    obtain ⟨hp, g, d, tk, os⟩ := s
    obtain ⟨hl, h⟩ := h
    have f1 := AutoSeq1.idx_int
    wp_walk using wpAny_loadPart' hl
    repeat (first
      | (refine wpAny_ite_false (decide_eq_false (by rw [c0]; exact Bool.false_ne_true)) ?_; wp_walk using wpAny_loadPart' hl)
      | (refine wpAny_ite_true (decide_eq_true (by rw [c1])) ?_; wp_walk using wpAny_loadPart' hl))
    exact ⟨_, rfl, h⟩
theorem tupMulNone (l : Addr) (items : Array Value) (n : Nat) (dd : Option Addr) (sl : Array (Option Value)) (x : Int) (u : Tok) (c0 : (decide (x < -(2 ^ 63)) || decide (x ≥ 2 ^ 63)) = false) (c1 : (items.isEmpty || x == 1) = false) (c2 : (decide (x ≤ 0) || items.isEmpty) = true) :
    Meets (Builtin.«tuple.__mul__» ⟨[.ref l, .int x u], []⟩) (fun _ R s => s.heap.get? l = some { cls := .type "tuple", dict := dd, data := .seq items n, slots := sl } ∧
      R (.ok (.ret (Value.ref s.heap.objs.size))) { s with heap := s.heap.push { cls := Value.type "tuple", data := Data.seq #[] }, toks := s.toks }) :=
  .of_wp fun prog w A R s h => by
    obtain ⟨hp, g, d, tk, os⟩ := s
    obtain ⟨hl, h⟩ := h
    have f1 := AutoSeq1.idx_int
    wp_walk using wpAny_loadPart' hl
    repeat (first
      | (refine wpAny_ite_false (decide_eq_false (by rw [c0]; exact Bool.false_ne_true)) ?_; wp_walk using wpAny_loadPart' hl)
      | (refine wpAny_ite_false (decide_eq_false (by rw [c1]; exact Bool.false_ne_true)) ?_; wp_walk using wpAny_loadPart' hl)
      | (refine wpAny_ite_true (decide_eq_true (by rw [c2])) ?_; wp_walk using wpAny_loadPart' hl))
    exact ⟨_, rfl, h⟩
/-- tuple * int -/
def rTupMul (K : PySem.W.Frag) : R2 := fun x y H Q => ∃ l k xs, x = .ref l ∧ y = .int k ∧ SqT K H l xs ∧ -(2 ^ 62) ≤ k ∧ k ≤ 1000 ∧ xs.length ≤ 1000 ∧
  (((xs = [] ∨ k = 1) ∧ Q (.ref l) H) ∨ (xs ≠ [] ∧ k ≠ 1 ∧ ∀ p, H p = none → Q (.ref p) (upd H p (.tup (List.replicate k.toNat xs).flatten))))
section
variable {X : Cx}
theorem op_tupMul : OpR X (binaryOp .Mult) (rTupMul X.K) := by
  intro pins s σ H x y v u Q I rx ry h
  obtain ⟨l, k, xs, ex, ey, hT, hk0, hk1, hz, h⟩ := h
  by_cases big : xs ≠ [] ∧ 2 ≤ k
  · rcases h with ⟨z | z, _⟩ | ⟨hne, hk, q⟩
    · exact absurd z big.1
    · omega
    · exact op_repT pins s σ H x y v u Q I rx ry ⟨l, k, xs, ex, ey, hT, hne, big.2, hk1, hz, q⟩
  subst ex ey
  cases rx
  obtain ⟨t, rfl⟩ := ry
  obtain ⟨its, r, ⟨⟨cls, dd, data, sl⟩, ho, hc, n, hd⟩, hs⟩ := I.tuple hT
  simp only at hc hd
  subst hc hd
  have hle : its.length = xs.length := r.length.symm
  have c0 : (decide (k < -(2 ^ 63)) || decide (k ≥ 2 ^ 63)) = false := by
    rw [decide_eq_false (by omega), decide_eq_false (by omega)] <;> rfl
  have em : its.toArray.isEmpty = xs.isEmpty := by
    cases its with
    | nil =>
      cases xs with
      | nil => rfl
      | cons _ _ => cases hle
    | cons a b =>
      cases xs with
      | nil => cases hle
      | cons _ _ => rfl
  rcases h with ⟨z, q⟩ | ⟨hne, hk, q⟩
  · have c1 : (its.toArray.isEmpty || k == 1) = true := by
      rw [em]
      rcases z with z | z
      · rw [z]; rfl
      · rw [z]; simp
    refine wpAny_binaryOp_repeat_ref (T := "tuple") (U := "int") (by decide) ⟨_, ho, rfl⟩ (fun s' => typeIs_int s' k t) noFill_tuple_mul F.fills_int_mul F.slot_int_rmul repeat_tuple F.slot_int_index.lookup
      (call_meets F.slot_int_rmul (typeIs_int s k t) F.entry_int_rmul (F.args_int_rmul_2 _ _) (int_rmul_tuple k t l its.toArray n dd sl)
        ⟨ho, rfl, ⟨_, ho, rfl⟩, call_meets F.slot_tuple_mul ⟨_, ho, rfl⟩ F.entry_tuple_mul (F.args_tuple_mul_2 _ _) (tupMulSame l its.toArray n dd sl k t c0 c1) ⟨ho, ?_⟩⟩)
    exact ⟨.ref l, H, I, rfl, q⟩
  · have hi : its.toArray.isEmpty = false := by
      rw [em]
      cases xs with
      | nil => exact absurd rfl hne
      | cons _ _ => rfl
    have hk2 : k ≤ 0 := by
      by_cases c : 2 ≤ k
      · exact absurd ⟨hne, c⟩ big
      · omega
    have c1 : (its.toArray.isEmpty || k == 1) = false := by
      rw [hi, Bool.false_or]
      exact beq_eq_false_iff_ne.mpr hk
    have c2 : (decide (k ≤ 0) || its.toArray.isEmpty) = true := by rw [decide_eq_true hk2]; rfl
    refine wpAny_binaryOp_repeat_ref (T := "tuple") (U := "int") (by decide) ⟨_, ho, rfl⟩ (fun s' => typeIs_int s' k t) noFill_tuple_mul F.fills_int_mul F.slot_int_rmul repeat_tuple F.slot_int_index.lookup
      (call_meets F.slot_int_rmul (typeIs_int s k t) F.entry_int_rmul (F.args_int_rmul_2 _ _) (int_rmul_tuple k t l its.toArray n dd sl)
        ⟨ho, rfl, ⟨_, ho, rfl⟩, call_meets F.slot_tuple_mul ⟨_, ho, rfl⟩ F.entry_tuple_mul (F.args_tuple_mul_2 _ _) (tupMulNone l its.toArray n dd sl k t c0 c1 c2) ⟨ho, ?_⟩⟩)
    have e0 : (List.replicate k.toNat xs).flatten = [] := by rw [show k.toNat = 0 by omega]; rfl
    rw [e0] at q
    refine ⟨.ref s.heap.objs.size, _, I.laid (t' := s.toks) (o := .tup []) (fun b ob q => Heap.get?_push_of_some _ q) (Nat.le_refl _) ?_, rfl, q _ (I.hok.fresh (Nat.le_refl _))⟩
    exact ⟨Nat.zero_le _, [], .nil, IsTup.new _ _⟩
end
end L2

namespace Z
open PySem L2
section
variable {K : PySem.W.Frag} {mg : Str → Option Value} {F : Str → List Slot → DS → Option (R × DS)} {G : Str → Option PyData} {L : Addr} {B H : Hp} {σ : L2.St} {ρ : Z.Env} {s s1 s2 s' : DS}

/-! ### operations -/
def rStrAdd : R2 := fun x y H Q => ∃ i j : Str, x = .str i ∧ y = .str j ∧ i.length + j.length ≤ sizeLine ∧ Q (.str (i ++ j)) H
def rAddZ (K : PySem.W.Frag) : R2 := fun x y H Q => (rI0 fun i j => .int (i + j)) x y H Q ∨ rStrAdd x y H Q ∨ rCatA K x y H Q ∨ rCat x y H Q
theorem op_addZ {X : Cx} : OpR X (binaryOp .Add) (rAddZ X.K) := op_add.or (OpR.or op_add_str (OpR.or op_catA op_cat))
theorem opd_add : OpD K mg (rAddZ K) (evBin .add) := by
  intro L B H H0 σ ρ s x y d e z Q I h0 hx hy hz k
  cases d with
  | int i =>
    cases e with
    | int j => cases hz; rw [hx.int, hy.int]; exact .inl ⟨i, j, rfl, rfl, k _ _ _ I Stp.refl (Rep.int _)⟩
    | _ => cases hz
  | str i =>
    cases e with
    | str j =>
      simp only [evBin] at hz
      split at hz
      · rename_i hl
        cases hz; rw [hx.str, hy.str]; exact .inr (.inl ⟨i, j, rfl, rfl, hl, k _ _ _ I Stp.refl (Rep.str _)⟩)
      · cases hz
    | _ => cases hz
  | tuple xs =>
    cases e with
    | tuple ys =>
      simp only [evBin] at hz
      split at hz
      · rename_i hl
        cases hz
        obtain ⟨a, vs, rfl, h1, h2⟩ := hx.tup
        obtain ⟨b, ws, rfl, h3, h4⟩ := hy.tup
        have hl' : vs.length + ws.length ≤ sizeLine := by rw [h2.length, h4.length]; exact hl
        refine .inr (.inr (.inl ⟨a, b, vs, ws, rfl, rfl, I.ext.sqt h1, I.ext.sqt h3, hl', fun e => ?_, fun e1 e2 => ?_, fun e1 e2 p hp => ?_⟩))
        · subst e
          cases h2
          exact k _ _ _ I Stp.refl (Rep.tup h3 h4)
        · subst e2
          cases h4
          exact k _ _ _ I Stp.refl (Rep.tup h1 (by simpa using h2))
        · have hB := I.ext.no hp
          exact k _ _ _ (I.laidB hp) (Stp.laidB I hp) (Rep.tup (.inl (.inl upd_same)) (RepAll.mono (Ext.up hB) _ _ (h2.append h4)))
      · cases hz
    | _ => cases hz
  | list xs =>
    cases e with
    | list ys =>
      simp only [evBin] at hz
      split at hz
      · rename_i hl
        cases hz
        obtain ⟨a, vs, rfl, h1, h2⟩ := hx
        obtain ⟨b, ws, rfl, h3, h4⟩ := hy
        have hl' : vs.length + ws.length ≤ sizeLine := by rw [h2.length, h4.length]; exact hl
        exact .inr (.inr (.inr ⟨a, b, vs, ws, rfl, rfl, h1, h3, hl', fun p hp => k _ _ _ (I.laid hp) (Stp.laid hp) (RepR.new I hp h0 (h2.append h4))⟩))
      · cases hz
    | _ => cases hz
  | none => cases e <;> cases hz
  | bool _ => cases e <;> cases hz
  | dict _ => cases e <;> cases hz
theorem opd_sub : OpD K mg (rI0 fun i j => .int (i - j)) (evBin .sub) := by
  intro L B H H0 σ ρ s x y d e z Q I h0 hx hy hz k
  cases d <;> cases e <;> first | (cases hz; done) | skip
  cases hz
  rw [hx.int, hy.int]
  exact ⟨_, _, rfl, rfl, k _ _ _ I Stp.refl (Rep.int _)⟩
def rMulZ (K : PySem.W.Frag) : R2 := fun x y H Q => ((rI CMul fun i j => .int (i * j)) x y H Q ∨ rRep x y H Q) ∨ rTupMul K x y H Q
theorem op_mulZ {X : Cx} : OpR X (binaryOp .Mult) (rMulZ X.K) := (op_mul.or op_rep).or op_tupMul
theorem okI_iff {i : Int} (h : okI i = true) : -(2 ^ 64) < i ∧ i < 2 ^ 64 := by
  unfold okI at h
  rw [Bool.and_eq_true, decide_eq_true_eq, decide_eq_true_eq] at h
  exact h
theorem opd_mul : OpD K mg (rMulZ K) (evBin .mul) := by
  intro L B H H0 σ ρ s x y d e z Q I h0 hx hy hz k
  cases d <;> cases e <;> first | (cases hz; done) | skip
  · rename_i i j
    simp only [evBin] at hz
    split at hz
    · rename_i hl
      cases hz
      rw [hx.int, hy.int]
      refine .inl (.inl ⟨_, _, rfl, rfl, ?_, k _ _ _ I Stp.refl (Rep.int _)⟩)
      rw [Bool.or_eq_true] at hl
      rcases hl with h | h
      · exact .inl (okI_iff h)
      · exact .inr (okI_iff h)
    · cases hz
  · rename_i xs j
    simp only [evBin] at hz
    split at hz
    · rename_i hl
      cases hz
      obtain ⟨a, vs, rfl, h1, h2⟩ := hx
      rw [hy.int]
      exact .inl (.inr ⟨a, j, vs, rfl, rfl, h1, hl.1, hl.2.1, by rw [h2.length]; exact hl.2.2, fun p hp => k _ _ _ (I.laid hp) (Stp.laid hp) (RepR.new I hp h0 (h2.rep _))⟩)
    · cases hz
  · rename_i xs j
    simp only [evBin] at hz
    split at hz
    · rename_i hl
      cases hz
      have hx : Rep K B x (.tuple xs) := hx
      rw [hy.int]
      cases hx with
      | tup h1 h2 =>
        rename_i a vs
        by_cases c : xs = [] ∨ j = 1
        · have e : (List.replicate j.toNat xs).flatten = xs := by
            rcases c with c | c
            · subst c; simp
            · subst c; simp
          rw [e] at k
          have c' : vs = [] ∨ j = 1 := by
            rcases c with c | c
            · exact .inl (by have := h2.length; rw [c] at this; exact List.eq_nil_of_length_eq_zero this)
            · exact .inr c
          exact .inr ⟨a, j, vs, rfl, rfl, I.ext.sqt h1, hl.1, hl.2.1, by rw [h2.length]; exact hl.2.2, .inl ⟨c', k _ _ _ I Stp.refl (Rep.tup h1 h2)⟩⟩
        · rw [not_or] at c
          have c' : vs ≠ [] := fun z => c.1 (by have := h2.length; rw [z] at this; exact List.eq_nil_of_length_eq_zero this.symm)
          refine .inr ⟨a, j, vs, rfl, rfl, I.ext.sqt h1, hl.1, hl.2.1, by rw [h2.length]; exact hl.2.2, .inr ⟨c', c.2, fun p hp => ?_⟩⟩
          have hB : B p = none := I.ext.no hp
          exact k _ _ _ (I.laidB hp) (Stp.laidB I hp) (Rep.tup (.inl (.inl upd_same)) (RepAll.mono (Ext.up hB) _ _ (h2.rep _)))
    · cases hz
theorem opd_fdiv : OpD K mg (rI CDivN fun i j => .int (i.fdiv j)) (evBin .fdiv) := by
  intro L B H H0 σ ρ s x y d e z Q I h0 hx hy hz k
  cases d <;> cases e <;> first | (cases hz; done) | skip
  simp only [evBin] at hz
  split at hz
  · rename_i hl
    cases hz
    rw [hx.int, hy.int]
    exact ⟨_, _, rfl, rfl, hl, k _ _ _ I Stp.refl (Rep.int _)⟩
  · cases hz
theorem opd_mod : OpD K mg (rI (fun _ j => j ≠ 0) fun i j => .int (i.fmod j)) (evBin .mod) := by
  intro L B H H0 σ ρ s x y d e z Q I h0 hx hy hz k
  cases d <;> cases e <;> first | (cases hz; done) | skip
  simp only [evBin] at hz
  split at hz
  · rename_i hl
    cases hz
    rw [hx.int, hy.int]
    exact ⟨_, _, rfl, rfl, hl, k _ _ _ I Stp.refl (Rep.int _)⟩
  · cases hz

def rIx2 (K : PySem.W.Frag) : R2 := fun x y H Q => rIxL K x y H Q ∨ rIxT K x y H Q
theorem ix_2 {X : Cx} : IxR X (rIx2 X.K) := ix_list.or ix_tup
theorem atI_rep {vs : List V} {ds : List PyData} {i : Int} {d : PyData} (h : RepAll K B vs ds) (e : atI ds i = some d) : ∃ v, atI vs i = some v ∧ Rep K B v d := by
  unfold atI at e ⊢
  rw [h.length]
  cases hj : ixN ds.length i with
  | none => simp [hj] at e
  | some j =>
    simp only [hj, Option.bind_some] at e ⊢
    exact h.get e
theorem opd_ix : OpD K mg (rIx2 K) fun x y => (evIx x y).map R.val := by
  intro L B H H0 σ ρ s x y d e z Q I h0 hx hy hz k
  obtain ⟨w, hw, rfl⟩ := Option.map_eq_some_iff.mp hz
  cases d <;> cases e <;> first | (cases hw; done) | skip
  · rename_i xs i
    obtain ⟨a, vs, rfl, h1, h2⟩ := hx
    rw [hy.int]
    obtain ⟨v, q1, q2⟩ := atI_rep h2 hw
    exact .inl ⟨a, vs, i, v, rfl, rfl, SqL.of h1, q1, k _ _ _ I Stp.refl q2⟩
  · rename_i xs i
    obtain ⟨a, vs, rfl, h1, h2⟩ := hx.tup
    rw [hy.int]
    obtain ⟨v, q1, q2⟩ := atI_rep h2 hw
    exact .inr ⟨a, vs, i, v, rfl, rfl, I.ext.sqt h1, q1, k _ _ _ I Stp.refl q2⟩

/-! ### comparisons -/
theorem opd_eq : OpD K mg (rEqD K) fun x y => (evCmp .eq x y).map fun c => R.val (.bool c) := by
  intro L B H H0 σ ρ s x y d e z Q I h0 hx hy hz k
  obtain ⟨w, hw, rfl⟩ := Option.map_eq_some_iff.mp hz
  simp only [evCmp] at hw
  split at hw
  · rename_i hl
    cases hw
    exact ⟨d, e, hx.dp I.ext, hy.dp I.ext, hl.1, hl.2, k _ _ _ I Stp.refl (Rep.bl _)⟩
  · cases hw
theorem opd_ne : OpD K mg (rNeD K) fun x y => (evCmp .ne x y).map fun c => R.val (.bool c) := by
  intro L B H H0 σ ρ s x y d e z Q I h0 hx hy hz k
  obtain ⟨w, hw, rfl⟩ := Option.map_eq_some_iff.mp hz
  simp only [evCmp] at hw
  split at hw
  · rename_i hl
    cases hw
    exact ⟨d, e, hx.dp I.ext, hy.dp I.ext, hl.1, hl.2, k _ _ _ I Stp.refl (Rep.bl _)⟩
  · cases hw
theorem opd_lt : OpD K mg (rI0 fun i j => .bl (decide (i < j))) fun x y => (evCmp .lt x y).map fun c => R.val (.bool c) := by
  intro L B H H0 σ ρ s x y d e z Q I h0 hx hy hz k
  obtain ⟨w, hw, rfl⟩ := Option.map_eq_some_iff.mp hz
  cases d <;> cases e <;> first | (cases hw; done) | skip
  cases hw
  rw [hx.int, hy.int]
  exact ⟨_, _, rfl, rfl, k _ _ _ I Stp.refl (Rep.bl _)⟩
theorem opd_le : OpD K mg (rI0 fun i j => .bl (decide (i ≤ j))) fun x y => (evCmp .le x y).map fun c => R.val (.bool c) := by
  intro L B H H0 σ ρ s x y d e z Q I h0 hx hy hz k
  obtain ⟨w, hw, rfl⟩ := Option.map_eq_some_iff.mp hz
  cases d <;> cases e <;> first | (cases hw; done) | skip
  cases hw
  rw [hx.int, hy.int]
  exact ⟨_, _, rfl, rfl, k _ _ _ I Stp.refl (Rep.bl _)⟩
theorem opd_gt : OpD K mg (rI0 fun i j => .bl (decide (j < i))) fun x y => (evCmp .gt x y).map fun c => R.val (.bool c) := by
  intro L B H H0 σ ρ s x y d e z Q I h0 hx hy hz k
  obtain ⟨w, hw, rfl⟩ := Option.map_eq_some_iff.mp hz
  cases d <;> cases e <;> first | (cases hw; done) | skip
  cases hw
  rw [hx.int, hy.int]
  exact ⟨_, _, rfl, rfl, k _ _ _ I Stp.refl (Rep.bl _)⟩
theorem opd_ge : OpD K mg (rI0 fun i j => .bl (decide (j ≤ i))) fun x y => (evCmp .ge x y).map fun c => R.val (.bool c) := by
  intro L B H H0 σ ρ s x y d e z Q I h0 hx hy hz k
  obtain ⟨w, hw, rfl⟩ := Option.map_eq_some_iff.mp hz
  cases d <;> cases e <;> first | (cases hw; done) | skip
  cases hw
  rw [hx.int, hy.int]
  exact ⟨_, _, rfl, rfl, k _ _ _ I Stp.refl (Rep.bl _)⟩
theorem isNone_rd {x : V} {d : PyData} (h : RdD K B H x d) : decide (x = .non) = isNone d := by
  cases d with
  | none => rw [h.non]; rfl
  | bool b => rw [h.bl]; rfl
  | int i => rw [h.int]; rfl
  | str i => rw [h.str]; rfl
  | list xs => obtain ⟨a, vs, rfl, _⟩ := h; rfl
  | tuple xs => obtain ⟨a, vs, rfl, _⟩ := h.tup; rfl
  | dict _ => cases h
theorem opd_isN : OpD K mg (fun x y H Q => y = .non ∧ Q (.bl (decide (x = .non))) H) fun x y => (evCmp .isN x y).map fun c => R.val (.bool c) := by
  intro L B H H0 σ ρ s x y d e z Q I h0 hx hy hz k
  obtain ⟨w, hw, rfl⟩ := Option.map_eq_some_iff.mp hz
  have he : e = .none ∧ w = isNone d := by
    cases e <;> first | (simp [evCmp] at hw; done) | skip
    simp only [evCmp, Option.some.injEq] at hw
    exact ⟨rfl, hw.symm⟩
  obtain ⟨rfl, rfl⟩ := he
  exact ⟨hy.non, by rw [isNone_rd hx]; exact k _ _ _ I Stp.refl (Rep.bl _)⟩
theorem opd_notN : OpD K mg (fun x y H Q => y = .non ∧ Q (.bl (!decide (x = .non))) H) fun x y => (evCmp .notN x y).map fun c => R.val (.bool c) := by
  intro L B H H0 σ ρ s x y d e z Q I h0 hx hy hz k
  obtain ⟨w, hw, rfl⟩ := Option.map_eq_some_iff.mp hz
  have he : e = .none ∧ w = !isNone d := by
    cases e <;> first | (simp [evCmp] at hw; done) | skip
    simp only [evCmp, Option.some.injEq] at hw
    exact ⟨rfl, hw.symm⟩
  obtain ⟨rfl, rfl⟩ := he
  exact ⟨hy.non, by rw [isNone_rd hx]; exact k _ _ _ I Stp.refl (Rep.bl _)⟩
def rInT (K : PySem.W.Frag) (neg : Bool) : R2 := fun x y H Q => ∃ d ds, Dp K H x d ∧ Dp K H y (.tuple ds) ∧ SeqAt.shaped d = true ∧ SeqAt.shaped (.tuple ds) = true ∧ Q (.bl (if neg then !ds.any (fun z => PyData.eqv z d) else ds.any fun z => PyData.eqv z d)) H
theorem op_inT {X : Cx} (hu : X.A.units + 65 < cLine) : OpR X (compareOp .In) (rInT X.K false) := by
  intro pins s σ H x y v u Q I rx ry h
  obtain ⟨d, ds, hd, he, sd, se, q⟩ := h
  obtain ⟨as, r1⟩ := Dp.reads I d x v hd rx
  obtain ⟨bs, r2⟩ := Dp.reads I (.tuple ds) y u he ry
  exact SeqAt.in_tuple_reads r2 r1 (SeqAt.canLay_of_shaped se) (SeqAt.canLay_of_shaped sd) (PyProof.Rows.room_in_shaped sd hu) ⟨.bl _, H, I, rfl, q⟩
theorem op_notInT {X : Cx} (hu : X.A.units + 65 < cLine) : OpR X (compareOp .NotIn) (rInT X.K true) := by
  intro pins s σ H x y v u Q I rx ry h
  obtain ⟨d, ds, hd, he, sd, se, q⟩ := h
  obtain ⟨as, r1⟩ := Dp.reads I d x v hd rx
  obtain ⟨bs, r2⟩ := Dp.reads I (.tuple ds) y u he ry
  exact SeqAt.notIn_tuple_reads r2 r1 (SeqAt.canLay_of_shaped se) (SeqAt.canLay_of_shaped sd) (PyProof.Rows.room_in_shaped sd hu) ⟨.bl _, H, I, rfl, q⟩
def rMem (K : PySem.W.Frag) : R2 := fun x y H Q => rInD K x y H Q ∨ rInT K false x y H Q
def rNmem (K : PySem.W.Frag) : R2 := fun x y H Q => rNotInD K x y H Q ∨ rInT K true x y H Q
theorem op_mem {X : Cx} (hu : X.A.units + 65 < cLine) : OpR X (compareOp .In) (rMem X.K) := (op_inD hu).or (op_inT hu)
theorem op_nmem {X : Cx} (hu : X.A.units + 65 < cLine) : OpR X (compareOp .NotIn) (rNmem X.K) := (op_notInD hu).or (op_notInT hu)
theorem opd_mem : OpD K mg (rMem K) fun x y => (evCmp .mem x y).map fun c => R.val (.bool c) := by
  intro L B H H0 σ ρ s x y d e z Q I h0 hx hy hz k
  obtain ⟨w, hw, rfl⟩ := Option.map_eq_some_iff.mp hz
  cases e <;> first | (simp [evCmp] at hw; done) | skip
  · simp only [evCmp] at hw
    split at hw
    · rename_i hl
      cases hw
      exact .inl ⟨d, _, hx.dp I.ext, hy.dp I.ext, hl.1, hl.2, k _ _ _ I Stp.refl (Rep.bl _)⟩
    · cases hw
  · simp only [evCmp] at hw
    split at hw
    · rename_i hl
      cases hw
      exact .inr ⟨d, _, hx.dp I.ext, hy.dp I.ext, hl.1, hl.2, k _ _ _ I Stp.refl (Rep.bl _)⟩
    · cases hw
theorem opd_nmem : OpD K mg (rNmem K) fun x y => (evCmp .nmem x y).map fun c => R.val (.bool c) := by
  intro L B H H0 σ ρ s x y d e z Q I h0 hx hy hz k
  obtain ⟨w, hw, rfl⟩ := Option.map_eq_some_iff.mp hz
  cases e <;> first | (simp [evCmp] at hw; done) | skip
  · simp only [evCmp] at hw
    split at hw
    · rename_i hl
      cases hw
      exact .inl ⟨d, _, hx.dp I.ext, hy.dp I.ext, hl.1, hl.2, k _ _ _ I Stp.refl (Rep.bl _)⟩
    · cases hw
  · simp only [evCmp] at hw
    split at hw
    · rename_i hl
      cases hw
      exact .inr ⟨d, _, hx.dp I.ext, hy.dp I.ext, hl.1, hl.2, k _ _ _ I Stp.refl (Rep.bl _)⟩
    · cases hw

/-! ### slices -/
def rSlZ (K : PySem.W.Frag) : V → Option Int → Option Int → Hp → VK → Prop := fun x lo hi H Q => rSlL K x lo hi H Q ∨ rSlA K x lo hi H Q
theorem sl_z {X : Cx} : SlR X (rSlZ X.K) := sl_list.or sl_tupA
theorem cut_rep {vs : List V} {ds : List PyData} {lo hi : Option Int} (h : RepAll K B vs ds) : RepAll K B (cutV vs lo hi) (cut ds lo hi) := by
  unfold cutV cut
  rw [h.length]
  exact (h.drop _).take _
theorem cut_all {ds : List PyData} {lo hi : Option Int} (h : HT.sIx ds.length 0 lo = 0 ∧ HT.sIx ds.length ds.length hi = ds.length) : cut ds lo hi = ds := by
  unfold cut
  rw [h.1, h.2]
  simp
theorem le_sl {a : E} {lo hi : O} {Q : VK} (h : tE K mg F G (.sl a lo hi) σ H Q) : tSl (rSlZ K) (tE K mg F G a) (tO K mg F G lo) (tO K mg F G hi) σ H Q := by
  obtain ⟨L, B, ρ, s, z, s', I, e, k⟩ := h
  simp only [evE] at e
  cases ha : evE F G a ρ s with
  | none => simp [ha] at e
  | some p =>
    obtain ⟨ra, s1⟩ := p
    simp only [ha] at e
    cases hb : evO F G lo ρ s1 with
    | none => simp [hb] at e
    | some p =>
      obtain ⟨l, s2⟩ := p
      simp only [hb] at e
      cases hc : evO F G hi ρ s2 with
      | none => simp [hc] at e
      | some p =>
        obtain ⟨u, s3⟩ := p
        simp only [hc] at e
        cases hx : ra.dat with
        | none => simp [hx] at e
        | some d =>
          simp only [hx] at e
          cases hz : evSl d l u with
          | none => simp [hz] at e
          | some z' =>
            simp only [hz, Option.some.injEq, Prod.mk.injEq] at e
            obtain ⟨e1, e2⟩ := e
            subst e1 e2
            refine ⟨L, B, ρ, s, ra, s1, I, ha, fun x B1 H1 I1 st1 q1 => ?_⟩
            refine ⟨L, B1, ρ, s1, l, s2, I1, hb, fun B2 H2 I2 st2 => ?_⟩
            refine ⟨L, B2, ρ, s2, u, s3, I2, hc, fun B3 H3 I3 st3 => ?_⟩
            have st := (st1.trans st2).trans st3
            have q := (q1.step (st2.trans st3)).rd I3 hx
            cases d <;> first | (cases hz; done) | skip
            · cases hz
              obtain ⟨p, vs, rfl, h1, h2⟩ := q
              exact .inl ⟨p, vs, rfl, SqL.of h1, fun p hp => k _ _ _ (I3.laid hp) (st.trans (Stp.laid hp)) (RepR.new I3 hp (fun _ z => st.old z) (cut_rep h2))⟩
            · cases hz
              obtain ⟨p, vs, rfl, h1, h2⟩ := q.tup
              refine .inr ⟨p, vs, rfl, I3.ext.sqt h1, fun c => ?_, fun c p hp => ?_⟩
              · rw [h2.length] at c
                refine k _ _ _ I3 st ?_
                show Rep K B3 _ (.tuple (cut _ _ _))
                rw [cut_all c]
                exact Rep.tup h1 h2
              · have hB := I3.ext.no hp
                exact k _ _ _ (I3.laidB hp) (st.trans (Stp.laidB I3 hp)) (Rep.tup (.inl (.inl upd_same)) (RepAll.mono (Ext.up hB) _ _ (cut_rep h2)))
end

/-! ### built-ins by name -/
section
variable {K : PySem.W.Frag} {mg : Str → Option Value} {F : Str → List Slot → DS → Option (R × DS)} {G : Str → Option PyData}
def CaD (K : PySem.W.Frag) (mg : Str → Option Value) (r : List V → Hp → VK → Prop) (f : List R → Option R) : Prop :=
  ∀ (L : Addr) (B H H0 : Hp) (σ : L2.St) (ρ : Z.Env) (s : DS) (vs : List V) (rs : List R) (z : R) (Q : VK), Rl K mg L B H σ ρ s → (∀ q, H q = none → H0 q = none) → Paired (fun v (r : R) => RepA K mg L B σ ρ v r.fz) vs rs → f rs = some z →
    (∀ v B' H', Rl K mg L B' H' σ ρ s → Stp L B H B' H' → RepR K mg L H0 B' H' σ ρ v z → Q v H') → r vs H Q
theorem le_blt {b : Blt} {es : Es} {r : List V → Hp → VK → Prop} {σ : L2.St} {H : Hp} {Q : VK} (D : CaD K mg r (evBlt b)) (h : tE K mg F G (.blt b es) σ H Q) : tCB r (tEs K mg F G es) σ H Q := by
  obtain ⟨L, B, ρ, s, z, s', I, e, k⟩ := h
  simp only [evE] at e
  cases ha : evEs F G es ρ s with
  | none => simp [ha] at e
  | some p =>
    obtain ⟨rs, s1⟩ := p
    simp only [ha] at e
    cases hb : evBlt b rs with
    | none => simp [hb] at e
    | some z' =>
      simp only [hb, Option.some.injEq, Prod.mk.injEq] at e
      obtain ⟨e1, e2⟩ := e
      subst e1 e2
      exact ⟨L, B, ρ, s, rs, s1, I, ha, fun vs B1 H1 I1 st1 q1 => D L B1 H1 H σ ρ _ vs rs z' Q I1 (fun _ z => st1.old z) q1 hb fun v B' H' I' st' q' => k v B' H' I' (st1.trans st') q'⟩
theorem fz_dat (r : R) : r.fz.dat = r.dat := by cases r <;> rfl
theorem one_rd {L : Addr} {B H : Hp} {σ : L2.St} {ρ : Z.Env} {s : DS} {v : V} {r : R} {d : PyData} (I : Rl K mg L B H σ ρ s) (q : RepA K mg L B σ ρ v r.fz) (e : r.dat = some d) : RdD K B H v d :=
  RepR.rd (H0 := H) I (RepR.of q) (by rw [fz_dat]; exact e)
theorem ca_one {r : List V → Hp → VK → Prop} {b : Blt} (hb : ∀ rs z, evBlt b rs = some z → ∃ r0, rs = [r0])
    (h : ∀ (L : Addr) (B H H0 : Hp) (σ : L2.St) (ρ : Z.Env) (s : DS) (v : V) (r0 : R) (d : PyData) (z : R) (Q : VK), Rl K mg L B H σ ρ s → (∀ q, H q = none → H0 q = none) → r0.dat = some d → RdD K B H v d → RepA K mg L B σ ρ v r0.fz → evBlt b [r0] = some z →
      (∀ v B' H', Rl K mg L B' H' σ ρ s → Stp L B H B' H' → RepR K mg L H0 B' H' σ ρ v z → Q v H') → r [v] H Q) (hd : ∀ r0 z, evBlt b [r0] = some z → ∃ d, r0.dat = some d) : CaD K mg r (evBlt b) := by
  intro L B H H0 σ ρ s vs rs z Q I h0 q e k
  obtain ⟨r0, rfl⟩ := hb rs z e
  obtain ⟨d, hd'⟩ := hd r0 z e
  cases q with
  | cons q t =>
    cases t
    exact h L B H H0 σ ρ s _ r0 d z Q I h0 hd' (one_rd I q hd') q e k
theorem ca_two {r : List V → Hp → VK → Prop} {b : Blt} (hb : ∀ rs z, evBlt b rs = some z → ∃ r0 r1, rs = [r0, r1])
    (h : ∀ (L : Addr) (B H H0 : Hp) (σ : L2.St) (ρ : Z.Env) (s : DS) (v v' : V) (r0 r1 : R) (d d' : PyData) (z : R) (Q : VK), Rl K mg L B H σ ρ s → (∀ q, H q = none → H0 q = none) → r0.dat = some d → r1.dat = some d' → RdD K B H v d → RdD K B H v' d' → evBlt b [r0, r1] = some z →
      (∀ v B' H', Rl K mg L B' H' σ ρ s → Stp L B H B' H' → RepR K mg L H0 B' H' σ ρ v z → Q v H') → r [v, v'] H Q) (hd : ∀ r0 r1 z, evBlt b [r0, r1] = some z → ∃ d d', r0.dat = some d ∧ r1.dat = some d') : CaD K mg r (evBlt b) := by
  intro L B H H0 σ ρ s vs rs z Q I h0 q e k
  obtain ⟨r0, r1, rfl⟩ := hb rs z e
  obtain ⟨d, d', hd1, hd2⟩ := hd r0 r1 z e
  cases q with
  | cons q t =>
    cases t with
    | cons q' t =>
      cases t
      exact h L B H H0 σ ρ s _ _ r0 r1 d d' z Q I h0 hd1 hd2 (one_rd I q hd1) (one_rd I q' hd2) e k
theorem blt_one {b : Blt} (hm : b ≠ .max2) (hm' : b ≠ .min2) : ∀ rs z, evBlt b rs = some z → ∃ r0, rs = [r0] := by
  intro rs z h
  match rs, h with
  | [], h => cases b <;> cases h
  | [r], _ => exact ⟨r, rfl⟩
  | [_, _], h => cases b <;> first | exact absurd rfl hm | exact absurd rfl hm' | cases h
  | _ :: _ :: _ :: _, h => cases b <;> cases h
theorem blt_dat {b : Blt} : ∀ r0 z, evBlt b [r0] = some z → ∃ d, r0.dat = some d := by
  intro r z h
  cases hd : r.dat with
  | some d => exact ⟨d, rfl⟩
  | none => cases b <;> simp [evBlt, hd] at h
theorem ca_len : CaD K mg (fun xs H Q => ∃ p ys, xs = [.ref p] ∧ (SqL K H p ys ∨ SqT K H p ys) ∧ Q (.int ys.length) H) (evBlt .len) := by
  refine ca_one (blt_one (by decide) (by decide)) (fun L B H H0 σ ρ s v r0 d z Q I h0 hd rd qa e k => ?_) blt_dat
  simp only [evBlt, hd] at e
  cases d <;> first | (cases e; done) | skip
  · cases e
    obtain ⟨a, vs, rfl, h1, h2⟩ := rd
    exact ⟨a, vs, rfl, .inl (SqL.of h1), by rw [h2.length]; exact k _ _ _ I Stp.refl (Rep.int _)⟩
  · cases e
    obtain ⟨a, vs, rfl, h1, h2⟩ := rd.tup
    exact ⟨a, vs, rfl, .inr (I.ext.sqt h1), by rw [h2.length]; exact k _ _ _ I Stp.refl (Rep.int _)⟩
theorem ca_tuple : CaD K mg (fun xs H Q => ∃ p ys, xs = [.ref p] ∧ ((SqL K H p ys ∧ ∀ l, H l = none → Q (.ref l) (upd H l (.tup ys))) ∨ (SqT K H p ys ∧ Q (.ref p) H))) (evBlt .tuple) := by
  refine ca_one (blt_one (by decide) (by decide)) (fun L B H H0 σ ρ s v r0 d z Q I h0 hd rd qa e k => ?_) blt_dat
  simp only [evBlt, hd] at e
  cases d <;> first | (cases e; done) | skip
  · cases e
    obtain ⟨a, vs, rfl, h1, h2⟩ := rd
    refine ⟨a, vs, rfl, .inl ⟨SqL.of h1, fun p hp => ?_⟩⟩
    have hB := I.ext.no hp
    exact k _ _ _ (I.laidB hp) (Stp.laidB I hp) (Rep.tup (.inl (.inl upd_same)) (RepAll.mono (Ext.up hB) _ _ h2))
  · cases e
    obtain ⟨a, vs, rfl, h1, h2⟩ := rd.tup
    exact ⟨a, vs, rfl, .inr ⟨I.ext.sqt h1, k _ _ _ I Stp.refl (Rep.tup h1 h2)⟩⟩
theorem ca_list : CaD K mg (fun xs H Q => ∃ p ys, xs = [.ref p] ∧ (SqL K H p ys ∨ SqT K H p ys) ∧ ∀ l, H l = none → Q (.ref l) (upd H l (.lst ys))) (evBlt .list) := by
  refine ca_one (blt_one (by decide) (by decide)) (fun L B H H0 σ ρ s v r0 d z Q I h0 hd rd qa e k => ?_) blt_dat
  simp only [evBlt, hd] at e
  cases d <;> first | (cases e; done) | skip
  · cases e
    obtain ⟨a, vs, rfl, h1, h2⟩ := rd
    exact ⟨a, vs, rfl, .inl (SqL.of h1), fun p hp => k _ _ _ (I.laid hp) (Stp.laid hp) (RepR.new I hp h0 h2)⟩
  · cases e
    obtain ⟨a, vs, rfl, h1, h2⟩ := rd.tup
    exact ⟨a, vs, rfl, .inr (I.ext.sqt h1), fun p hp => k _ _ _ (I.laid hp) (Stp.laid hp) (RepR.new I hp h0 h2)⟩
theorem ca_int : CaD K mg (fun xs H Q => (∃ i, xs = [.int i] ∧ Q (.int i) H) ∨ ∃ k, xs = [.bl k] ∧ Q (.int (if k then 1 else 0)) H) (evBlt .int) := by
  refine ca_one (blt_one (by decide) (by decide)) (fun L B H H0 σ ρ s v r0 d z Q I h0 hd rd qa e k => ?_) blt_dat
  simp only [evBlt, hd] at e
  cases d <;> first | (cases e; done) | skip
  · cases e
    rw [rd.bl]
    exact .inr ⟨_, rfl, k _ _ _ I Stp.refl (Rep.int _)⟩
  · cases e
    rw [rd.int]
    exact .inl ⟨_, rfl, k _ _ _ I Stp.refl (Rep.int _)⟩
theorem ca_abs : CaD K mg (fun xs H Q => ∃ i, xs = [.int i] ∧ Q (.int (if i < 0 then -i else i)) H) (evBlt .abs) := by
  refine ca_one (blt_one (by decide) (by decide)) (fun L B H H0 σ ρ s v r0 d z Q I h0 hd rd qa e k => ?_) blt_dat
  simp only [evBlt, hd] at e
  cases d <;> first | (cases e; done) | skip
  cases e
  rw [rd.int]
  exact ⟨_, rfl, k _ _ _ I Stp.refl (Rep.int _)⟩
theorem ca_sum : CaD K mg (rSum K) (evBlt .sum) := by
  refine ca_one (blt_one (by decide) (by decide)) (fun L B H H0 σ ρ s v r0 d z Q I h0 hd rd qa e k => ?_) blt_dat
  simp only [evBlt, hd] at e
  cases d <;> first | (cases e; done) | skip
  rename_i xs
  obtain ⟨a, vs, rfl, h1, h2⟩ := rd
  cases hn : asInts xs with
  | none => simp [hn] at e
  | some ns =>
    simp only [hn, Option.some.injEq] at e
    subst e
    have q := h2.ints hn
    subst q
    exact ⟨a, ns, rfl, SqL.of h1, k _ _ _ I Stp.refl (Rep.int _)⟩
theorem ca_any : CaD K mg (rAny K) (evBlt .any) := by
  refine ca_one (blt_one (by decide) (by decide)) (fun L B H H0 σ ρ s v r0 d z Q I h0 hd rd qa e k => ?_) blt_dat
  simp only [evBlt, hd] at e
  cases d <;> first | (cases e; done) | skip
  rename_i xs
  obtain ⟨a, vs, rfl, h1, h2⟩ := rd
  cases hn : asBools xs with
  | none => simp [hn] at e
  | some ns =>
    simp only [hn, Option.some.injEq] at e
    subst e
    have q := h2.bools hn
    subst q
    exact ⟨a, ns, rfl, SqL.of h1, k _ _ _ I Stp.refl (Rep.bl _)⟩
theorem ca_all : CaD K mg (rAll K) (evBlt .all) := by
  refine ca_one (blt_one (by decide) (by decide)) (fun L B H H0 σ ρ s v r0 d z Q I h0 hd rd qa e k => ?_) blt_dat
  simp only [evBlt, hd] at e
  cases d <;> first | (cases e; done) | skip
  rename_i xs
  obtain ⟨a, vs, rfl, h1, h2⟩ := rd
  cases hn : asBools xs with
  | none => simp [hn] at e
  | some ns =>
    simp only [hn, Option.some.injEq] at e
    subst e
    have q := h2.bools hn
    subst q
    exact ⟨a, ns, rfl, SqL.of h1, k _ _ _ I Stp.refl (Rep.bl _)⟩
theorem maxI_mem : ∀ {ns : List Int} {m : Int}, m ∈ ns → (∀ y, y ∈ ns → y ≤ m) → maxI ns = m
  | [], _, h, _ => nomatch h
  | [x], m, h, _ => by simp at h; exact h.symm
  | x :: y :: r, m, h, k => by
    show max x (maxI (y :: r)) = m
    have hx := k x List.mem_cons_self
    have top : maxI (y :: r) ≤ m ∧ maxI (y :: r) ∈ y :: r := by
      have : ∀ (l : List Int) (z : Int), maxI (z :: l) ∈ z :: l := by
        intro l
        induction l with
        | nil => intro z; simp [maxI]
        | cons a l ih =>
          intro z
          show max z (maxI (a :: l)) ∈ _
          have q := ih a
          rcases Int.le_total z (maxI (a :: l)) with c | c
          · rw [Int.max_eq_right c]; exact List.mem_cons_of_mem _ q
          · rw [Int.max_eq_left c]; exact List.mem_cons_self
      exact ⟨k _ (List.mem_cons_of_mem _ (this r y)), this r y⟩
    rcases List.mem_cons.mp h with rfl | h
    · rw [Int.max_eq_left top.1]
    · have e := maxI_mem h fun z hz => k z (List.mem_cons_of_mem _ hz)
      rw [e, Int.max_eq_right hx]
theorem minI_mem : ∀ {ns : List Int} {m : Int}, m ∈ ns → (∀ y, y ∈ ns → m ≤ y) → minI ns = m
  | [], _, h, _ => nomatch h
  | [x], m, h, _ => by simp at h; exact h.symm
  | x :: y :: r, m, h, k => by
    show min x (minI (y :: r)) = m
    have hx := k x List.mem_cons_self
    have top : m ≤ minI (y :: r) ∧ minI (y :: r) ∈ y :: r := by
      have : ∀ (l : List Int) (z : Int), minI (z :: l) ∈ z :: l := by
        intro l
        induction l with
        | nil => intro z; simp [minI]
        | cons a l ih =>
          intro z
          show min z (minI (a :: l)) ∈ _
          have q := ih a
          rcases Int.le_total z (minI (a :: l)) with c | c
          · rw [Int.min_eq_left c]; exact List.mem_cons_self
          · rw [Int.min_eq_right c]; exact List.mem_cons_of_mem _ q
      exact ⟨k _ (List.mem_cons_of_mem _ (this r y)), this r y⟩
    rcases List.mem_cons.mp h with rfl | h
    · rw [Int.min_eq_left top.1]
    · have e := minI_mem h fun z hz => k z (List.mem_cons_of_mem _ hz)
      rw [e, Int.min_eq_right hx]
theorem ca_maxL : CaD K mg (rMax K) (evBlt .maxL) := by
  refine ca_one (blt_one (by decide) (by decide)) (fun L B H H0 σ ρ s v r0 d z Q I h0 hd rd qa e k => ?_) blt_dat
  simp only [evBlt, hd] at e
  cases d <;> first | (cases e; done) | skip
  rename_i xs
  obtain ⟨a, vs, rfl, h1, h2⟩ := rd
  cases hn : asInts xs with
  | none => simp [hn] at e
  | some ns =>
    simp only [hn] at e
    split at e
    · rename_i hne
      simp only [Option.some.injEq] at e
      subst e
      have q := h2.ints hn
      subst q
      refine ⟨a, ns, rfl, SqL.of h1, List.length_pos_iff.mpr hne, fun m hm hy => ?_⟩
      rw [← maxI_mem hm hy]
      exact k _ _ _ I Stp.refl (Rep.int _)
    · cases e
theorem ca_minL : CaD K mg (rMin K) (evBlt .minL) := by
  refine ca_one (blt_one (by decide) (by decide)) (fun L B H H0 σ ρ s v r0 d z Q I h0 hd rd qa e k => ?_) blt_dat
  simp only [evBlt, hd] at e
  cases d <;> first | (cases e; done) | skip
  rename_i xs
  obtain ⟨a, vs, rfl, h1, h2⟩ := rd
  cases hn : asInts xs with
  | none => simp [hn] at e
  | some ns =>
    simp only [hn] at e
    split at e
    · rename_i hne
      simp only [Option.some.injEq] at e
      subst e
      have q := h2.ints hn
      subst q
      refine ⟨a, ns, rfl, SqL.of h1, List.length_pos_iff.mpr hne, fun m hm hy => ?_⟩
      rw [← minI_mem hm hy]
      exact k _ _ _ I Stp.refl (Rep.int _)
    · cases e
theorem insI_perm (x : Int) : ∀ l : List Int, (insI x l).Perm (x :: l)
  | [] => List.Perm.refl _
  | y :: ys => by
    unfold insI
    split
    · exact List.Perm.refl _
    · exact ((insI_perm x ys).cons y).trans (List.Perm.swap x y ys)
theorem sortI_perm : ∀ l : List Int, (sortI l).Perm l
  | [] => List.Perm.refl _
  | x :: xs => (insI_perm x _).trans ((sortI_perm xs).cons x)
theorem insI_sorted (x : Int) : ∀ l : List Int, l.Pairwise (· ≤ ·) → (insI x l).Pairwise (· ≤ ·)
  | [], _ => by simp [insI]
  | y :: ys, h => by
    unfold insI
    split
    · rename_i c
      refine List.pairwise_cons.mpr ⟨fun z hz => ?_, h⟩
      rcases List.mem_cons.mp hz with rfl | hz
      · exact c
      · exact Int.le_trans c ((List.pairwise_cons.mp h).1 z hz)
    · rename_i c
      refine List.pairwise_cons.mpr ⟨fun z hz => ?_, insI_sorted x ys (List.pairwise_cons.mp h).2⟩
      rcases List.mem_cons.mp ((insI_perm x ys).mem_iff.mp hz) with rfl | hz
      · omega
      · exact (List.pairwise_cons.mp h).1 z hz
theorem sortI_sorted : ∀ l : List Int, (sortI l).Pairwise (· ≤ ·)
  | [] => List.Pairwise.nil
  | x :: xs => insI_sorted x _ (sortI_sorted xs)
theorem sorted_unique {l l' : List Int} (h : l.Perm l') (s : l.Pairwise (· ≤ ·)) (s' : l'.Pairwise (· ≤ ·)) : l = l' :=
  h.eq_of_pairwise (fun a b _ _ x y => Int.le_antisymm x y) s s'
theorem ca_sorted : CaD K mg (rSorted K) (evBlt .sorted) := by
  refine ca_one (blt_one (by decide) (by decide)) (fun L B H H0 σ ρ s v r0 d z Q I h0 hd rd qa e k => ?_) blt_dat
  simp only [evBlt, hd] at e
  cases d <;> first | (cases e; done) | skip
  rename_i xs
  obtain ⟨a, vs, rfl, h1, h2⟩ := rd
  cases hn : asInts xs with
  | none => simp [hn] at e
  | some ns =>
    simp only [hn] at e
    split at e
    · rename_i hl
      simp only [Option.some.injEq] at e
      subst e
      have q := h2.ints hn
      subst q
      refine ⟨a, ns, rfl, SqL.of h1, hl, fun ns' p hp hs hp' => ?_⟩
      have e2 : ns' = sortI ns := sorted_unique (hp.trans (sortI_perm ns).symm) hs (sortI_sorted ns)
      subst e2
      exact k _ _ _ (I.laid hp') (Stp.laid hp') (RepR.new I hp' h0 (RepAll.ofInts _))
    · cases e
theorem blt_two {b : Blt} (hm : b = .max2 ∨ b = .min2) : ∀ rs z, evBlt b rs = some z → ∃ r0 r1, rs = [r0, r1] := by
  intro rs z h
  match rs, h with
  | [], h => rcases hm with rfl | rfl <;> cases h
  | [_], h => rcases hm with rfl | rfl <;> cases h
  | [r, r'], _ => exact ⟨r, r', rfl⟩
  | _ :: _ :: _ :: _, h => rcases hm with rfl | rfl <;> cases h
theorem blt_dat2 {b : Blt} (hm : b = .max2 ∨ b = .min2) : ∀ r0 r1 z, evBlt b [r0, r1] = some z → ∃ d d', r0.dat = some d ∧ r1.dat = some d' := by
  intro r r' z h
  cases hd : r.dat with
  | some d =>
    cases hd' : r'.dat with
    | some d' => exact ⟨d, d', rfl, rfl⟩
    | none => rcases hm with rfl | rfl <;> simp [evBlt, hd, hd'] at h
  | none => rcases hm with rfl | rfl <;> simp [evBlt, hd] at h
theorem ca_max2 : CaD K mg (fun xs H Q => ∃ i j, xs = [.int i, .int j] ∧ Q (.int (if j > i then j else i)) H) (evBlt .max2) := by
  refine ca_two (blt_two (.inl rfl)) (fun L B H H0 σ ρ s v v' r0 r1 d d' z Q I h0 hd hd' rd rd' e k => ?_) (blt_dat2 (.inl rfl))
  simp only [evBlt, hd, hd'] at e
  cases d <;> cases d' <;> first | (cases e; done) | skip
  cases e
  rw [rd.int, rd'.int]
  exact ⟨_, _, rfl, k _ _ _ I Stp.refl (Rep.int _)⟩
theorem ca_min2 : CaD K mg (fun xs H Q => ∃ i j, xs = [.int i, .int j] ∧ Q (.int (if j < i then j else i)) H) (evBlt .min2) := by
  refine ca_two (blt_two (.inr rfl)) (fun L B H H0 σ ρ s v v' r0 r1 d d' z Q I h0 hd hd' rd rd' e k => ?_) (blt_dat2 (.inr rfl))
  simp only [evBlt, hd, hd'] at e
  cases d <;> cases d' <;> first | (cases e; done) | skip
  cases e
  rw [rd.int, rd'.int]
  exact ⟨_, _, rfl, k _ _ _ I Stp.refl (Rep.int _)⟩
end
end Z

namespace Z
open PySem L2
/-! ### calls -/
def ArgR (K : PySem.W.Frag) (mg : Str → Option Value) (L : Addr) (B : Hp) (v : V) : Slot → Prop
  | .val d => Rep K B v d
  | .hdl => v = .ref L
  | .fn f => ∃ a, v = .ref a ∧ mg f = some (.ref a)
  | _ => False
def spF (K : PySem.W.Frag) (mg : Str → Option Value) (f : List Slot → DS → Option (R × DS)) : Sp := fun vs H Q _ =>
  ∃ L B s args r s', Rl K mg L B H [] [] s ∧ Paired (ArgR K mg L B) vs args ∧ f args s = some (r, s') ∧ r.isHeld = false ∧
    ∀ v B' H', Rl K mg L B' H' [] [] s' → Stp L B H B' H' → RepR K mg L H B' H' [] [] v r → Q v H'
def isAl : List V → List R → Addr → Bool
  | v :: vs, r :: rs, a => (r.isHeld && decide (v = .ref a)) || isAl vs rs a
  | _, _, _ => false
section
variable {K : PySem.W.Frag} {mg : Str → Option Value} {F : Str → List Slot → DS → Option (R × DS)} {G : Str → Option PyData} {L : Addr} {B H B' H' H0 : Hp} {σ : L2.St} {ρ : Z.Env} {s s1 s2 s' : DS}
theorem al_own (I : Rl K mg L B H σ ρ s) {a : Addr} : ∀ {vs : List V} {rs : List R}, Paired (fun v (r : R) => RepA K mg L B σ ρ v r.fz) vs rs → isAl vs rs a = true → B a = none ∧ a ≠ L ∧ ∃ xs, H a = some (.lst xs)
  | _, _, .nil, h => by simp [isAl] at h
  | v :: vs, r :: rs, .cons q t, h => by
    simp only [isAl, Bool.or_eq_true, Bool.and_eq_true, decide_eq_true_eq] at h
    rcases h with ⟨h1, h2⟩ | h
    · cases r with
      | held i ds =>
        obtain ⟨q1, q2⟩ := q
        obtain ⟨l, ws, z1, z2, z3, z4, z5⟩ := I.own i ds q1
        rw [q2, h2] at z1
        cases z1
        exact ⟨z2, z3, ws, z4⟩
      | val _ => cases h1
      | fresh _ => cases h1
      | hdl => cases h1
      | fn _ => cases h1
    · exact al_own I t h
theorem al_none : ∀ {vs : List V} {rs : List R} {a : Addr}, rs.any R.isHeld = false → isAl vs rs a = false
  | [], _, _, _ => by simp [isAl]
  | _ :: _, [], _, _ => by simp [isAl]
  | v :: vs, r :: rs, a, h => by
    simp only [List.any_cons, Bool.or_eq_false_iff] at h
    simp [isAl, h.1, al_none (vs := vs) h.2]
theorem Rl.nil (I : Rl K mg L B H σ ρ s) : Rl K mg L B H [] [] s :=
  ⟨I.ext, I.nL, I.drw, rfl, fun _ _ h => by simp at h, fun _ _ h => by simp at h, fun _ h => by simp at h, fun _ _ h => by simp at h, fun _ _ _ _ _ _ h => by simp at h⟩
/-- the frame again, behind a step -/
theorem Rl.restore {σ2 : L2.St} {ρ2 : Z.Env} (I : Rl K mg L B H σ ρ s) (st : Stp L B H B' H') (J : Rl K mg L B' H' σ2 ρ2 s') : Rl K mg L B' H' σ ρ s' := by
  refine ⟨J.ext, J.nL, J.drw, I.len, fun i d q => ?_, fun i ds q => ?_, I.hdl, I.fn, I.inj⟩
  · obtain ⟨v, h1, h2⟩ := I.val i d q
    exact ⟨v, h1, Rep.mono st.b _ _ h2⟩
  · obtain ⟨l, vs, q1, q2, q3, q4, q5⟩ := I.own i ds q
    refine ⟨l, vs, q1, ?_, q3, st.h _ _ q3 q4, RepAll.mono st.b _ _ q5⟩
    cases z : B' l with
    | none => rfl
    | some o =>
      rcases st.n l o z with w | w
      · rw [q2] at w; cases w
      · rw [q4] at w; cases w
theorem args_of {Bc : Hp} (I : Rl K mg L B H σ ρ s) (e : Ext B Bc) : ∀ {vs : List V} {rs : List R}, (∀ a, isAl vs rs a = true → Bc a = H a) → Paired (fun v (r : R) => RepA K mg L B σ ρ v r.fz) vs rs → Paired (ArgR K mg L Bc) vs (rs.map R.arg)
  | _, _, _, .nil => .nil
  | v :: vs, r :: rs, hb, .cons q t => by
    refine .cons ?_ (args_of I e (fun a h => hb a (by simp [isAl, h])) t)
    cases r with
    | val d => exact Rep.mono e _ _ q
    | fresh ds => exact Rep.mono e _ _ q
    | held i ds =>
      obtain ⟨q1, q2⟩ := q
      obtain ⟨l, ws, z1, z2, z3, z4, z5⟩ := I.own i ds q1
      rw [q2] at z1
      cases z1
      refine Rep.lst ?_ (RepAll.mono e _ _ z5)
      rw [hb l (by simp [isAl, R.isHeld])]
      exact z4
    | hdl => exact q
    | fn f => exact q
theorem call_core {f : List Slot → DS → Option (R × DS)} {vs : List V} {rs : List R} {r : R} {Q : VK} {E : XK} {B0 : Hp} (I : Rl K mg L B H σ ρ s1) (st0 : Stp L B0 H0 B H) (q : Paired (fun v (r : R) => RepA K mg L B σ ρ v r.fz) vs rs)
    (e : f (rs.map R.arg) s1 = some (r, s2)) (c : (r.indep || !rs.any R.isHeld) = true) (c2 : r.isHeld = false)
    (k : ∀ v B' H', Rl K mg L B' H' σ ρ s2 → Stp L B0 H0 B' H' → RepR K mg L H0 B' H' σ ρ v r → Q v H') : spF K mg f (vs ++ []) H Q E := by
  rw [List.append_nil]
  generalize hBc : (fun a => if isAl vs rs a = true then H a else B a : Hp) = Bc
  have hAl : ∀ a, isAl vs rs a = true → Bc a = H a := fun a h => by rw [← hBc]; exact if_pos h
  have hNo : ∀ a, isAl vs rs a ≠ true → Bc a = B a := fun a h => by rw [← hBc]; exact if_neg h
  have hB : ∀ a o, B a = some o → isAl vs rs a ≠ true := fun a o h z => by
    have := (al_own I q z).1
    rw [h] at this; cases this
  have eB : Ext B Bc := fun a o h => by rw [hNo a (hB a o h)]; exact h
  have eH : Ext Bc H := fun a o h => by
    by_cases z : isAl vs rs a = true
    · rw [hAl a z] at h; exact h
    · rw [hNo a z] at h; exact I.ext a o h
  have nL : Bc L = none := by
    by_cases z : isAl vs rs L = true
    · exact absurd rfl (al_own I q z).2.1
    · rw [hNo L z]; exact I.nL
  obtain ⟨l1, d1, d2⟩ := I.drw
  have Ic : Rl K mg L Bc H [] [] s1 := ⟨eH, nL, ⟨l1, eB _ _ d1, d2⟩, rfl, fun _ _ h => by simp at h, fun _ _ h => by simp at h, fun _ h => by simp at h, fun _ _ h => by simp at h, fun _ _ _ _ _ _ h => by simp at h⟩
  refine ⟨L, Bc, s1, rs.map R.arg, r, s2, Ic, args_of I eB hAl q, e, c2, fun v B1 H1 I1 st qv => ?_⟩
  generalize hB2 : (fun a => if isAl vs rs a = true then none else B1 a : Hp) = B2
  have kAl : ∀ a, isAl vs rs a = true → B2 a = none := fun a h => by rw [← hB2]; exact if_pos h
  have kNo : ∀ a, isAl vs rs a ≠ true → B2 a = B1 a := fun a h => by rw [← hB2]; exact if_neg h
  have sub : ∀ a o, B2 a = some o → isAl vs rs a ≠ true ∧ B1 a = some o := fun a o h => by
    by_cases z : isAl vs rs a = true
    · rw [kAl a z] at h; cases h
    · rw [kNo a z] at h; exact ⟨z, h⟩
  have e2 : Ext B B2 := fun a o h => by
    have z := hB a o h
    rw [kNo a z]
    exact st.b a o (by rw [hNo a z]; exact h)
  have st2 : Stp L B H B2 H1 := ⟨e2, st.h, fun a o h => by
    obtain ⟨z, h⟩ := sub a o h
    rcases st.n a o h with w | w
    · rw [hNo a z] at w; exact .inl w
    · exact .inr w, st.l, st.c⟩
  obtain ⟨m1, g1, g2⟩ := I1.drw
  have hm : m1 = l1 := by
    obtain ⟨r', z⟩ := st.c _ _ d2
    rw [g2] at z
    cases z
    rfl
  subst hm
  have I2 : Rl K mg L B2 H1 [] [] s2 := ⟨fun a o h => I1.ext a o (sub a o h).2, by
      by_cases z : isAl vs rs L = true
      · exact kAl L z
      · rw [kNo L z]; exact I1.nL, ⟨m1, by rw [kNo m1 (hB _ _ d1)]; exact g1, g2⟩, rfl, fun _ _ h => by simp at h, fun _ _ h => by simp at h, fun _ h => by simp at h, fun _ _ h => by simp at h, fun _ _ _ _ _ _ h => by simp at h⟩
  have I3 := I.restore st2 I2
  refine k v B2 H1 I3 (st0.trans st2) ?_
  have apart : ∀ l, H l = none → ∀ (i : Nat) (es : List PyData), ρ[i]? = some (.own es) → σ[i]? ≠ some (some (.ref l)) := fun l hl i es h z => by
    obtain ⟨m, ws, z1, z2, z3, z4, z5⟩ := I.own i es h
    rw [z] at z1
    cases z1
    rw [hl] at z4; cases z4
  have tup : Ext (Tups B1) B2 := fun a o h => by
    unfold Tups at h
    cases z : B1 a with
    | none => rw [z] at h; cases h
    | some u =>
      have hu : u = o ∧ ∀ xs, u ≠ .lst xs := by
        rw [z] at h
        cases u <;> first | (cases h; done) | (refine ⟨Option.some.inj h, fun xs w => ?_⟩; cases w)
      obtain ⟨rfl, nl⟩ := hu
      by_cases w : isAl vs rs a = true
      · obtain ⟨_, w2, xs, w3⟩ := al_own I q w
        have w4 := st.h a _ w2 w3
        rw [I1.ext a _ z] at w4
        exact absurd (Option.some.inj w4) (nl xs)
      · rw [kNo a w]; exact z
  cases hr : rs.any R.isHeld with
  | false =>
    have eq : B2 = B1 := funext fun a => kNo a (by rw [al_none hr]; exact Bool.false_ne_true)
    rw [eq]
    cases r with
    | val d => exact qv
    | fresh ds =>
      obtain ⟨l, ws, z1, z2, z3, z4, z5, z6, z7⟩ := qv
      exact ⟨l, ws, z1, st0.old z2, z3, z4, z5, z6, apart l z2⟩
    | held _ _ => cases c2
    | hdl => exact qv
    | fn f => exact qv
  | true =>
    rw [hr] at c
    simp only [Bool.not_true, Bool.or_false] at c
    cases r with
    | val d => exact Rep.mono tup _ _ (Rep.tups d v c qv)
    | fresh ds =>
      obtain ⟨l, ws, z1, z2, z3, z4, z5, z6, z7⟩ := qv
      refine ⟨l, ws, z1, st0.old z2, ?_, z4, z5, RepAll.mono tup _ _ (RepAll.tups ds ws c z6), apart l z2⟩
      by_cases w : isAl vs rs l = true
      · exact kAl l w
      · rw [kNo l w]; exact z3
    | held _ _ => cases c2
    | hdl => exact qv
    | fn f => exact qv
theorem le_call {f : Str} {es : Es} {Q : VK} {E : XK} (h : tE K mg F G (.call f es) σ H Q) : tCall (spF K mg (F f)) [] E (tEs K mg F G es) σ H Q := by
  obtain ⟨L, B, ρ, s, z, s', I, e, k⟩ := h
  simp only [evE] at e
  cases ha : evEs F G es ρ s with
  | none => simp [ha] at e
  | some p =>
    obtain ⟨rs, s1⟩ := p
    simp only [ha] at e
    cases hf : F f (rs.map R.arg) s1 with
    | none => simp [hf] at e
    | some p =>
      obtain ⟨r, s2⟩ := p
      simp only [hf] at e
      split at e
      · rename_i hc
        simp only [Option.some.injEq, Prod.mk.injEq] at e
        obtain ⟨e1, e2⟩ := e
        subst e1 e2
        exact ⟨L, B, ρ, s, rs, s1, I, ha, fun vs B1 H1 I1 st1 q1 => call_core I1 st1 q1 hf hc.1 hc.2 k⟩
      · cases e

/-! ### slots changed -/
theorem set_same {α : Type} {l : List α} {i : Nat} {x y : α} (h : (l.set i x)[i]? = some y) : y = x := by
  rw [List.getElem?_set] at h
  simp at h
  exact h.2.symm
theorem set_lt {α : Type} {l : List α} {i : Nat} {x y : α} (h : (l.set i x)[i]? = some y) : i < l.length := by
  by_cases c : i < l.length
  · exact c
  · rw [List.getElem?_eq_none (by simp; omega)] at h; cases h
theorem Rl.setNo (I : Rl K mg L B H σ ρ s) (i : Nat) : Rl K mg L B H (σ.set i none) (ρ.set i .no) s := by
  have key : ∀ (j : Nat) (x : Slot), (ρ.set i .no)[j]? = some x → x ≠ .no → j ≠ i ∧ ρ[j]? = some x := fun j x h n => by
    by_cases e : i = j
    · subst e; exact absurd (set_same h) n
    · rw [List.getElem?_set_ne e] at h; exact ⟨Ne.symm e, h⟩
  have get : ∀ (j : Nat), j ≠ i → (σ.set i none)[j]? = σ[j]? := fun j h => List.getElem?_set_ne (Ne.symm h)
  refine ⟨I.ext, I.nL, I.drw, by simp [I.len], fun j d h => ?_, fun j ds h => ?_, fun j h => ?_, fun j f h => ?_, fun a b ds es l n h1 h2 h3 h4 => ?_⟩
  · obtain ⟨n, h⟩ := key _ _ h (by simp)
    rw [get _ n]; exact I.val j d h
  · obtain ⟨n, h⟩ := key _ _ h (by simp)
    rw [get _ n]; exact I.own j ds h
  · obtain ⟨n, h⟩ := key _ _ h (by simp)
    rw [get _ n]; exact I.hdl j h
  · obtain ⟨n, h⟩ := key _ _ h (by simp)
    rw [get _ n]; exact I.fn j f h
  · obtain ⟨n1, h1⟩ := key _ _ h1 (by simp)
    obtain ⟨n2, h2⟩ := key _ _ h2 (by simp)
    rw [get _ n1] at h3
    rw [get _ n2] at h4
    exact I.inj a b ds es l n h1 h2 h3 h4
theorem Rl.setVal {v : V} {d : PyData} (I : Rl K mg L B H σ ρ s) (i : Nat) (r : Rep K B v d) : Rl K mg L B H (σ.set i (some v)) (ρ.set i (.val d)) s := by
  have key : ∀ (j : Nat) (x : Slot), (ρ.set i (.val d))[j]? = some x → (∀ d, x ≠ .val d) → j ≠ i ∧ ρ[j]? = some x := fun j x h n => by
    by_cases e : i = j
    · subst e; exact absurd (set_same h) (n d)
    · rw [List.getElem?_set_ne e] at h; exact ⟨Ne.symm e, h⟩
  have get : ∀ (j : Nat), j ≠ i → (σ.set i (some v))[j]? = σ[j]? := fun j h => List.getElem?_set_ne (Ne.symm h)
  refine ⟨I.ext, I.nL, I.drw, by simp [I.len], fun j d' h => ?_, fun j ds h => ?_, fun j h => ?_, fun j f h => ?_, fun a b ds es l n h1 h2 h3 h4 => ?_⟩
  · by_cases e : i = j
    · subst e
      have q := set_same h
      cases q
      exact ⟨v, by rw [List.getElem?_set_self (by rw [I.len]; exact set_lt h)], r⟩
    · rw [List.getElem?_set_ne e] at h
      rw [List.getElem?_set_ne e]; exact I.val j d' h
  · obtain ⟨n, h⟩ := key _ _ h (by simp)
    rw [get _ n]; exact I.own j ds h
  · obtain ⟨n, h⟩ := key _ _ h (by simp)
    rw [get _ n]; exact I.hdl j h
  · obtain ⟨n, h⟩ := key _ _ h (by simp)
    rw [get _ n]; exact I.fn j f h
  · obtain ⟨n1, h1⟩ := key _ _ h1 (by simp)
    obtain ⟨n2, h2⟩ := key _ _ h2 (by simp)
    rw [get _ n1] at h3
    rw [get _ n2] at h4
    exact I.inj a b ds es l n h1 h2 h3 h4
theorem Rl.wipe (I : Rl K mg L B H σ ρ s) : ∀ vs : List Nat, Rl K mg L B H (L2.wipe σ vs) (wipeE ρ vs) s
  | [] => I
  | v :: vs => (I.wipe vs).setNo v
mutual
def Tg.slots : Tg → List Nat
  | .name i => [i]
  | .tup ts => ts.slots
def Tgs.slots : Tgs → List Nat
  | .nil => []
  | .cons t ts => t.slots ++ ts.slots
end
def Tgs.len : Tgs → Nat
  | .nil => 0
  | .cons _ ts => ts.len + 1
mutual
def gTg (K : PySem.W.Frag) : Tg → TG
  | .name i => gName i
  | .tup ts => gTup K ts.len (gTgs K ts)
def gTgs (K : PySem.W.Frag) : Tgs → TGs
  | .nil => gNil
  | .cons t ts => gCons (gTg K t) (gTgs K ts)
end
theorem wipe_set {v : Option V} : ∀ {vs : List Nat} {σ : L2.St} {i : Nat}, i ∈ vs → L2.wipe (σ.set i v) vs = L2.wipe σ vs
  | [], _, _, h => nomatch h
  | w :: ws, σ, i, h => by
    unfold L2.wipe
    by_cases e : i ∈ ws
    · rw [wipe_set e]
    · rcases List.mem_cons.mp h with rfl | h
      · have : ∀ ws' : List Nat, i ∉ ws' → L2.wipe (σ.set i v) ws' = (L2.wipe σ ws').set i v := fun ws' => by
          induction ws' with
          | nil => intro _; rfl
          | cons a as ih =>
            intro hn
            unfold L2.wipe
            rw [ih fun z => hn (List.mem_cons_of_mem _ z)]
            exact List.set_comm _ _ fun z => hn (by rw [z]; exact List.mem_cons_self)
        rw [this ws e, List.set_set]
      · exact absurd h e
theorem wipe_wipe {σ : L2.St} {vs : List Nat} : L2.wipe (L2.wipe σ vs) vs = L2.wipe σ vs := by
  have : ∀ ws : List Nat, (∀ x ∈ ws, x ∈ vs) → L2.wipe (L2.wipe σ ws) vs = L2.wipe σ vs := fun ws => by
    induction ws with
    | nil => intro _; rfl
    | cons a as ih =>
      intro h
      show L2.wipe ((L2.wipe σ as).set a none) vs = _
      rw [wipe_set (h a List.mem_cons_self)]
      exact ih fun x hx => h x (List.mem_cons_of_mem _ hx)
  exact this vs fun _ h => h
mutual
theorem asg_ok {vs : List Nat} : ∀ (t : Tg) (σ : L2.St) (ρ ρ' : Z.Env) (v : V) (d : PyData) (Q : L2.St → Hp → Prop), Rl K mg L B H σ ρ s → Rep K B v d → asgTg t d ρ = some ρ' →
    (∀ σ', Rl K mg L B H σ' ρ' s → ((∀ i ∈ t.slots, i ∈ vs) → L2.wipe σ' vs = L2.wipe σ vs) → (∀ i, i ∉ t.slots → σ'[i]? = σ[i]? ∧ ρ'[i]? = ρ[i]?) → Q σ' H) → gTg K t v σ H Q
  | .name i, σ, ρ, ρ', v, d, Q, I, r, e, k => by
    simp only [asgTg, Option.some.injEq] at e
    subst e
    exact k _ (I.setVal i r) (fun h => wipe_set (h i (by simp [Tg.slots]))) fun j hj => by
      have : i ≠ j := fun z => hj (by simp [Tg.slots, z])
      exact ⟨List.getElem?_set_ne this, List.getElem?_set_ne this⟩
  | .tup ts, σ, ρ, ρ', v, .tuple ds, Q, I, r, e, k => by
    simp only [asgTg] at e
    cases r with
    | tup h1 h2 =>
      rename_i a xs
      have hl : xs.length = ts.len := by
        rw [h2.length]; exact asgs_len ts ds ρ ρ' e
      exact ⟨a, xs, rfl, I.ext.sqt h1, hl, asgs_ok (vs := vs) ts σ ρ ρ' xs ds Q I h2 e fun σ' I' w g => k σ' I' w g⟩
  | .tup ts, _, _, _, _, .none, _, _, _, e, _ => by simp [asgTg] at e
  | .tup ts, _, _, _, _, .bool _, _, _, _, e, _ => by simp [asgTg] at e
  | .tup ts, _, _, _, _, .int _, _, _, _, e, _ => by simp [asgTg] at e
  | .tup ts, _, _, _, _, .str _, _, _, _, e, _ => by simp [asgTg] at e
  | .tup ts, _, _, _, _, .list _, _, _, _, e, _ => by simp [asgTg] at e
  | .tup ts, _, _, _, _, .dict _, _, _, _, e, _ => by simp [asgTg] at e
theorem asgs_ok {vs : List Nat} : ∀ (ts : Tgs) (σ : L2.St) (ρ ρ' : Z.Env) (ws : List V) (ds : List PyData) (Q : L2.St → Hp → Prop), Rl K mg L B H σ ρ s → RepAll K B ws ds → asgTgs ts ds ρ = some ρ' →
    (∀ σ', Rl K mg L B H σ' ρ' s → ((∀ i ∈ ts.slots, i ∈ vs) → L2.wipe σ' vs = L2.wipe σ vs) → (∀ i, i ∉ ts.slots → σ'[i]? = σ[i]? ∧ ρ'[i]? = ρ[i]?) → Q σ' H) → gTgs K ts ws σ H Q
  | .nil, σ, ρ, ρ', ws, [], Q, I, r, e, k => by
    simp only [asgTgs, Option.some.injEq] at e
    subst e
    cases r
    exact ⟨rfl, k σ I (fun _ => rfl) fun _ _ => ⟨rfl, rfl⟩⟩
  | .cons t ts, σ, ρ, ρ', ws, d :: ds, Q, I, r, e, k => by
    simp only [asgTgs] at e
    cases r with
    | cons r rr =>
      rename_i v ws
      cases h : asgTg t d ρ with
      | none => simp [h] at e
      | some ρ1 =>
        simp only [h] at e
        refine ⟨v, ws, rfl, asg_ok (vs := vs) t σ ρ ρ1 v d _ I r h fun σ1 I1 w1 g1 => ?_⟩
        refine asgs_ok (vs := vs) ts σ1 ρ1 ρ' ws ds Q I1 rr e fun σ' I' w2 g2 => k σ' I' (fun hs => ?_) fun i hi => ?_
        · rw [w2 fun i hi => hs i (by simp [Tgs.slots, hi]), w1 fun i hi => hs i (by simp [Tgs.slots, hi])]
        · simp only [Tgs.slots, List.mem_append, not_or] at hi
          exact ⟨(g2 i hi.2).1.trans (g1 i hi.1).1, (g2 i hi.2).2.trans (g1 i hi.1).2⟩
  | .nil, _, _, _, _, _ :: _, _, _, _, e, _ => by simp [asgTgs] at e
  | .cons _ _, _, _, _, _, [], _, _, _, e, _ => by simp [asgTgs] at e
theorem asgs_len : ∀ (ts : Tgs) (ds : List PyData) (ρ ρ' : Z.Env), asgTgs ts ds ρ = some ρ' → ds.length = ts.len
  | .nil, [], _, _, _ => rfl
  | .cons t ts, d :: ds, ρ, ρ', e => by
    simp only [asgTgs] at e
    cases h : asgTg t d ρ with
    | none => simp [h] at e
    | some ρ1 =>
      simp only [h] at e
      simp [Tgs.len, asgs_len ts ds ρ1 ρ' e]
  | .nil, _ :: _, _, _, e => by simp [asgTgs] at e
  | .cons _ _, [], _, _, e => by simp [asgTgs] at e
end

/-! ### what is walked -/
def iSeq (K : PySem.W.Frag) (tl : TE) : TI := fun σ H R => tl σ H fun x H1 => ∃ a, x = .ref a ∧ (((∃ xs, SqL K H1 a xs) ∧ R (Itl K a) H1) ∨ ((∃ xs, SqT K H1 a xs) ∧ R (Itt K a) H1))
theorem pi_seq {X : Cx} {tg l : Expr} {tl : TE} (hl : PE X l tl) : PI X tg l (iSeq X.K tl) := by
  refine ⟨fun pins s σ H R I h => ?_⟩
  refine thn (hl.run pins s σ H _ I h) fun v s1 ⟨x, H1, I1, r1, q1⟩ => ?_
  obtain ⟨a, e, ⟨⟨xs, hq⟩, q⟩ | ⟨⟨xs, hq⟩, q⟩⟩ := q1
  · subst e
    cases r1
    obtain ⟨its, rv, p, hz⟩ := I1.list hq
    refine wpAny_pyIter_list p.isList ?_
    refine ⟨s1.heap.objs.size, [s1.heap.objs.size], _, _, H1, rfl, I1.kept (t' := s1.toks) fun b o e => Heap.get?_push_of_some _ e, turn_list a _, ⟨_, Heap.get?_push_size _ rfl, rfl, rfl⟩, fun b hb => ?_, q⟩
    have e : b = s1.heap.objs.size := by simpa using hb
    subst e
    exact I1.fpOk (Nat.le_refl _) (I1.hok.fresh (Nat.le_refl _))
  · subst e
    cases r1
    obtain ⟨its, rv, p, hz⟩ := I1.tuple hq
    refine wpAny_pyIter_tuple (show s1.heap.IsTuple a its.toArray from p) ?_
    refine ⟨s1.heap.objs.size, [s1.heap.objs.size], _, _, H1, rfl, I1.kept (t' := s1.toks) fun b o e => Heap.get?_push_of_some _ e, turn_tuple a _, ⟨_, Heap.get?_push_size _ rfl, rfl, rfl⟩, fun b hb => ?_, q⟩
    have e : b = s1.heap.objs.size := by simpa using hb
    subst e
    exact I1.fpOk (Nat.le_refl _) (I1.hok.fresh (Nat.le_refl _))
theorem good_list {a : Addr} {vs : List V} {ds : List PyData} {B0 Bs : Hp} (h : Bs a = some (.lst vs)) (r : RepAll K B0 vs ds) : Good K mg L B0 Bs ds (Itl K a) := by
  refine ⟨fun i H hi e => ?_, fun H e => ⟨vs, SqL.of (e _ _ h), by rw [r.length]; exact Nat.le_refl _⟩, fun i H x H' hi e y B σ ρ s eB I => ?_⟩
  · have hi' : i < vs.length := by rw [r.length]; exact hi
    exact ⟨vs, vs[i], SqL.of (e _ _ h), by simp [hi']⟩
  · obtain ⟨e1, y⟩ := y
    subst e1
    obtain ⟨d, h1, h2⟩ := r.getV (y vs (SqL.of (e _ _ h)))
    exact ⟨B, d, I, Stp.refl, h1, Rep.mono eB _ _ h2⟩
theorem good_tup {a : Addr} {vs : List V} {ds : List PyData} {B0 Bs : Hp} (h : SqT K Bs a vs) (r : RepAll K B0 vs ds) : Good K mg L B0 Bs ds (Itt K a) := by
  refine ⟨fun i H hi e => ?_, fun H e => ⟨vs, e.sqt h, by rw [r.length]; exact Nat.le_refl _⟩, fun i H x H' hi e y B σ ρ s eB I => ?_⟩
  · have hi' : i < vs.length := by rw [r.length]; exact hi
    exact ⟨vs, vs[i], e.sqt h, by simp [hi']⟩
  · obtain ⟨e1, y⟩ := y
    subst e1
    obtain ⟨d, h1, h2⟩ := r.getV (y vs (e.sqt h))
    exact ⟨B, d, I, Stp.refl, h1, Rep.mono eB _ _ h2⟩
theorem le_seq {a : E} {R0} (h : tIt K mg F G (.seq a) σ H R0) : iSeq K (tE K mg F G a) σ H R0 := by
  obtain ⟨L, B, ρ, s, xs, al, s', I, e, k⟩ := h
  simp only [evIt] at e
  cases ha : evE F G a ρ s with
  | none => simp [ha] at e
  | some p =>
    obtain ⟨r, s1⟩ := p
    simp only [ha] at e
    cases hd : r.dat with
    | none => simp [hd] at e
    | some d =>
      simp only [hd] at e
      cases hs : seqOf d with
      | none => simp [hs] at e
      | some ys =>
        simp only [hs, Option.some.injEq, Prod.mk.injEq] at e
        obtain ⟨⟨e1, e2⟩, e3⟩ := e
        subst e1 e2 e3
        refine ⟨L, B, ρ, s, r, _, I, ha, fun v B1 H1 I1 st1 q1 => ?_⟩
        obtain ⟨B2, I2, st2, q2⟩ := I1.fzS q1 st1
        have go : ∀ d', Rep K B2 v d' → d = d' → ∃ a, v = .ref a ∧ (((∃ xs, SqL K H1 a xs) ∧ R0 (Itl K a) H1) ∨ ((∃ xs, SqT K H1 a xs) ∧ R0 (Itt K a) H1)) := fun d' hr ed => by
          subst ed
          cases d with
          | list ds =>
            cases hs
            cases hr with
            | lst h1 h2 => exact ⟨_, rfl, .inl ⟨⟨_, SqL.of (I2.ext _ _ h1)⟩, k _ _ _ B2 I2 st2 I2.ext I2.nL (fun _ => rfl) (good_list h1 h2)⟩⟩
          | tuple ds =>
            cases hs
            cases hr with
            | tup h1 h2 => exact ⟨_, rfl, .inr ⟨⟨_, I2.ext.sqt h1⟩, k _ _ _ B2 I2 st2 I2.ext I2.nL (fun _ => rfl) (good_tup h1 h2)⟩⟩
          | none => cases hs
          | bool _ => cases hs
          | int _ => cases hs
          | str _ => cases hs
          | dict _ => cases hs
        cases r with
        | val d' => exact go d' q2 (Option.some.inj hd).symm
        | fresh ds => exact go _ q2 (Option.some.inj hd).symm
        | held i ds =>
          have ed : PyData.list ds = d := Option.some.inj hd
          subst ed
          cases hs
          obtain ⟨z1, z2⟩ := q2
          obtain ⟨l, ws, w1, w2, w3, w4, w5⟩ := I2.own i _ z1
          rw [z2] at w1
          cases w1
          refine ⟨l, rfl, .inl ⟨⟨_, SqL.of w4⟩, k _ _ _ (fun b => if b = l then H1 b else none) I2 st2 (fun b o h => ?_) ?_ (fun h => by cases h) (good_list (by simp [w4]) w5)⟩⟩
          · by_cases c : b = l
            · subst c; simpa using h
            · simp [c] at h
          · show (if L = l then H1 L else none) = none
            rw [if_neg (Ne.symm w3)]
        | hdl => cases hd
        | fn _ => cases hd
theorem good_range {lo hi : Int} {B0 Bs : Hp} : Good K mg L B0 Bs (rangeD lo hi) (Itr lo (hi - lo).toNat) := by
  have hl : (rangeD lo hi).length = (hi - lo).toNat := by simp [rangeD]
  refine ⟨fun i H h _ => by rw [hl] at h; exact h, fun H _ => by show (hi - lo).toNat ≤ (rangeD lo hi).length; rw [hl]; exact Nat.le_refl _, fun i H x H' h _ y B σ ρ s eB I => ?_⟩
  obtain ⟨e1, e2⟩ := y
  subst e1 e2
  rw [hl] at h
  exact ⟨B, .int (lo + i), I, Stp.refl, by simp [rangeD, h], Rep.int _⟩
theorem okR_iff {i : Int} (h : okR i = true) : -(2 ^ 62) ≤ i ∧ i < 2 ^ 62 := by
  unfold okR at h
  rw [Bool.and_eq_true, decide_eq_true_eq, decide_eq_true_eq] at h
  exact h
theorem le_range1 {a : E} {R0} (h : tIt K mg F G (.range (.cons a .nil)) σ H R0) : iRng1 (tEs K mg F G (.cons a .nil)) σ H R0 := by
  obtain ⟨L, B, ρ, s, xs, al, s', I, e, k⟩ := h
  simp only [evIt] at e
  cases ha : evEs F G (.cons a .nil) ρ s with
  | none => simp [ha] at e
  | some p =>
    obtain ⟨rs, s1⟩ := p
    simp only [ha] at e
    cases hd : evRange rs with
    | none => simp [hd] at e
    | some ys =>
      simp only [hd, Option.some.injEq, Prod.mk.injEq] at e
      obtain ⟨⟨e1, e2⟩, e3⟩ := e
      subst e1 e2 e3
      refine ⟨L, B, ρ, s, rs, _, I, ha, fun vs B1 H1 I1 st1 q1 => ?_⟩
      have hlen : ∃ r, rs = [r] := by
        simp only [evEs] at ha
        cases h0 : evE F G a ρ s with
        | none => simp [h0] at ha
        | some p => simp only [h0, Option.some.injEq, Prod.mk.injEq] at ha; exact ⟨_, ha.1.symm⟩
      obtain ⟨r, rfl⟩ := hlen
      cases q1 with
      | cons q t =>
        cases t
        simp only [evRange] at hd
        cases hr : r.dat with
        | none => simp [hr] at hd
        | some d =>
          have rd := one_rd I1 q hr
          cases d <;> first | (simp [hr] at hd; done) | skip
          rename_i j
          simp only [hr] at hd
          split at hd
          · rename_i c
            cases hd
            obtain ⟨c1, c2⟩ := okR_iff c
            have gg := good_range (K := K) (mg := mg) (L := L) (B0 := B1) (Bs := B1) (lo := 0) (hi := j)
            rw [Int.sub_zero] at gg
            exact ⟨j, by rw [rd.int], c1, c2, k _ _ _ B1 I1 st1 I1.ext I1.nL (fun _ => rfl) gg⟩
          · cases hd
theorem le_range2 {a b : E} {R0} (h : tIt K mg F G (.range (.cons a (.cons b .nil))) σ H R0) : iRng2 (tEs K mg F G (.cons a (.cons b .nil))) σ H R0 := by
  obtain ⟨L, B, ρ, s, xs, al, s', I, e, k⟩ := h
  simp only [evIt] at e
  cases ha : evEs F G (.cons a (.cons b .nil)) ρ s with
  | none => simp [ha] at e
  | some p =>
    obtain ⟨rs, s1⟩ := p
    simp only [ha] at e
    cases hd : evRange rs with
    | none => simp [hd] at e
    | some ys =>
      simp only [hd, Option.some.injEq, Prod.mk.injEq] at e
      obtain ⟨⟨e1, e2⟩, e3⟩ := e
      subst e1 e2 e3
      refine ⟨L, B, ρ, s, rs, _, I, ha, fun vs B1 H1 I1 st1 q1 => ?_⟩
      have hlen : ∃ r r', rs = [r, r'] := by
        simp only [evEs] at ha
        cases h0 : evE F G a ρ s with
        | none => simp [h0] at ha
        | some p =>
          obtain ⟨p1, p2⟩ := p
          simp only [h0] at ha
          cases h1 : evE F G b ρ p2 with
          | none => simp [h1] at ha
          | some p => simp only [h1, Option.some.injEq, Prod.mk.injEq] at ha; exact ⟨_, _, ha.1.symm⟩
      obtain ⟨r, r', rfl⟩ := hlen
      cases q1 with
      | cons q t =>
        cases t with
        | cons q' t =>
          cases t
          simp only [evRange] at hd
          cases hr : r.dat with
          | none => simp [hr] at hd
          | some d =>
            cases hr' : r'.dat with
            | none => simp [hr, hr'] at hd
            | some d' =>
              have rd := one_rd I1 q hr
              have rd' := one_rd I1 q' hr'
              cases d <;> cases d' <;> first | (simp [hr, hr'] at hd; done) | skip
              rename_i i j
              simp only [hr, hr'] at hd
              split at hd
              · rename_i c
                cases hd
                obtain ⟨c1, c2⟩ := okR_iff c.1
                obtain ⟨c3, c4⟩ := okR_iff c.2
                exact ⟨i, j, by rw [rd.int, rd'.int], ⟨c1, c2, c3, c4⟩, k _ _ _ B1 I1 st1 I1.ext I1.nL (fun _ => rfl) good_range⟩
              · cases hd
end
end Z

namespace Z
open PySem L2
section
variable {K : PySem.W.Frag} {mg : Str → Option Value} {F : Str → List Slot → DS → Option (R × DS)} {G : Str → Option PyData} {L : Addr} {B H B' H' H0 : Hp} {σ : L2.St} {ρ : Z.Env} {s s1 s2 s' : DS}
/-- an object that is not laid for good is changed -/
theorem Rl.mut {D : Addr} {o : HO} (I : Rl K mg L B H σ ρ s) (h1 : B D = none) (h2 : D ≠ L) (h3 : ∀ (i : Nat) (es : List PyData), ρ[i]? = some (.own es) → σ[i]? ≠ some (some (.ref D))) : Rl K mg L B (upd H D o) σ ρ s := by
  obtain ⟨l1, d1, d2⟩ := I.drw
  refine ⟨I.ext.upd2 h1, I.nL, ⟨l1, d1, by rw [upd_ne h2.symm]; exact d2⟩, I.len, I.val, fun i ds q => ?_, I.hdl, I.fn, I.inj⟩
  obtain ⟨l, vs, q1, q2, q3, q4, q5⟩ := I.own i ds q
  have ne : l ≠ D := fun z => h3 i ds q (z ▸ q1)
  exact ⟨l, vs, q1, q2, q3, by rw [upd_ne ne]; exact q4, q5⟩
theorem Stp.mut {D : Addr} {o : HO} {B0 : Hp} (st : Stp L B0 H0 B H) (hD : H0 D = none) (h2 : D ≠ L) : Stp L B0 H0 B (upd H D o) :=
  ⟨st.b, fun a u ha h => by rw [upd_ne (ne_of_none h hD)]; exact st.h a u ha h, st.n, fun u h => by
    obtain ⟨u', q⟩ := st.l u h
    exact ⟨u', by rw [upd_ne h2.symm]; exact q⟩, fun p r h => by
    obtain ⟨r', q⟩ := st.c p r h
    exact ⟨r', by rw [upd_ne h2.symm]; exact q⟩⟩
def lcStep (F : Str → List Slot → DS → Option (R × DS)) (G : Str → Option PyData) (e : E) (tg : Tg) (ifs : Ts) (own : List Nat) (ρ : Z.Env) (x : PyData) (s : DS) : Option (Option PyData × DS) :=
  match asgTg tg x (wipeE ρ own) with
  | some ρ' => match evTs F G ifs ρ' s with
    | some (true, s1) => match evE F G e ρ' s1 with
      | some (r, s2) => match r.emb with
        | some d => some (some d, s2)
        | none => none
      | none => none
    | some (false, s1) => some (none, s1)
    | none => none
  | none => none
theorem lcLoop_len {step : PyData → DS → Option (Option PyData × DS)} : ∀ (xs : List PyData) (s s' : DS) (ys : List PyData), lcLoop step xs s = some (ys, s') → ys.length ≤ xs.length
  | [], s, s', ys, h => by
    simp only [lcLoop, Option.some.injEq, Prod.mk.injEq] at h
    rw [← h.1]; exact Nat.le_refl _
  | x :: xs, s, s', ys, h => by
    simp only [lcLoop] at h
    cases h1 : step x s with
    | none => simp [h1] at h
    | some p =>
      obtain ⟨o, s1⟩ := p
      simp only [h1] at h
      cases h2 : lcLoop step xs s1 with
      | none => simp [h2] at h
      | some p =>
        obtain ⟨zs, s2⟩ := p
        simp only [h2, Option.some.injEq, Prod.mk.injEq] at h
        rw [← h.1]
        have := lcLoop_len xs s1 s2 zs h2
        cases o <;> simp <;> omega
theorem le_lc {e : E} {tg : Tg} {it : Z.It} {ifs : Ts} {own : List Nat} {Q : VK} (hs : ∀ i ∈ tg.slots, i ∈ own) (h : tE K mg F G (.lc e tg it ifs own) σ H Q) :
    tLc (tIt K mg F G it) (gTg K tg) (tTs K mg F G ifs) (tE K mg F G e) own σ H Q := by
  obtain ⟨L, B, ρ, s, z, s', I, he, k⟩ := h
  simp only [evE] at he
  cases ha : evIt F G it ρ s with
  | none => simp [ha] at he
  | some p =>
    obtain ⟨⟨xs, al⟩, s1⟩ := p
    simp only [ha] at he
    split at he
    · rename_i hl
      have he : (match lcLoop (lcStep F G e tg ifs own ρ) xs s1 with
        | some (ys, s2) => some (R.fresh ys, s2)
        | none => none) = some (z, s') := he
      cases hb : lcLoop (lcStep F G e tg ifs own ρ) xs s1 with
      | none => simp [hb] at he
      | some p =>
        obtain ⟨ys, s2⟩ := p
        simp only [hb, Option.some.injEq, Prod.mk.injEq] at he
        obtain ⟨e1, e2⟩ := he
        subst e1 e2
        refine ⟨L, B, ρ, s, xs, al, s1, I, ha, fun J B1 H1 Bs I1 st1 eBs nBs _ gd D hD => ?_⟩
        have DL : D ≠ L := I1.neL hD
        have apart : ∀ (i : Nat) (es : List PyData), ρ[i]? = some (.own es) → σ[i]? ≠ some (some (.ref D)) := fun i es q z => by
          obtain ⟨l, vs, q1, q2, q3, q4, q5⟩ := I1.own i es q
          rw [z] at q1
          cases q1
          rw [hD] at q4; cases q4
        refine ⟨fun i m H => m = xs.length - i ∧ i ≤ xs.length ∧ ∃ B si acc ds rest, Rl K mg L B H σ ρ si ∧ Stp L B1 H1 B H ∧ B D = none ∧ H D = some (.lst acc) ∧ RepAll K B acc ds ∧ ds.length ≤ i ∧ lcLoop (lcStep F G e tg ifs own ρ) (xs.drop i) si = some (rest, s2) ∧ ds ++ rest = ys,
          ⟨xs.length, rfl, Nat.zero_le _, B1, s1, [], [], ys, I1.laid hD, Stp.laid hD, I1.ext.no hD, upd_same, .nil, Nat.le_refl _, hb, rfl⟩, ?_⟩
        rintro i m H2 ⟨rfl, hi, B2, si, acc, ds, rest, I2, st2, nD, hDa, ra, hdl, hlp, hcat⟩
        have eB2 : Ext Bs H2 := fun a o h => st2.h a o (fun z => by rw [z, nBs] at h; cases h) (eBs a o h)
        by_cases hlt : i < xs.length
        · refine .inr ⟨gd.go i H2 hlt eB2, fun H => ∃ B si acc ds rest, Rl K mg L B H σ ρ si ∧ Stp L B1 H1 B H ∧ B D = none ∧ H D = some (.lst acc) ∧ RepAll K B acc ds ∧ ds.length ≤ i + 1 ∧ lcLoop (lcStep F G e tg ifs own ρ) (xs.drop (i + 1)) si = some (rest, s2) ∧ ds ++ rest = ys,
            fun H' n => ⟨xs.length - (i + 1), by omega, rfl, hlt, n⟩, fun x H3 y => ?_⟩
          obtain ⟨B3, d, I3, st3, hd, rx⟩ := gd.yld i H2 x H3 hlt eB2 y B2 σ ρ si st2.b I2
          have hdrop : xs.drop i = d :: xs.drop (i + 1) := by
            rw [List.drop_eq_getElem_cons hlt]
            rw [List.getElem?_eq_getElem hlt] at hd
            rw [Option.some.inj hd]
          rw [hdrop] at hlp
          simp only [lcLoop] at hlp
          cases hst : lcStep F G e tg ifs own ρ d si with
          | none => simp [hst] at hlp
          | some p =>
            obtain ⟨o, sj⟩ := p
            simp only [hst] at hlp
            cases hrest : lcLoop (lcStep F G e tg ifs own ρ) (xs.drop (i + 1)) sj with
            | none => simp [hrest] at hlp
            | some p =>
              obtain ⟨rest', sk⟩ := p
              simp only [hrest, Option.some.injEq, Prod.mk.injEq] at hlp
              obtain ⟨hr1, hr2⟩ := hlp
              subst hr2
              unfold lcStep at hst
              cases hasg : asgTg tg d (wipeE ρ own) with
              | none => simp [hasg] at hst
              | some ρ' =>
                simp only [hasg] at hst
                refine asg_ok (vs := own) tg _ _ ρ' x d _ (I3.wipe own) rx hasg fun σ' I4 hw _ => ?_
                refine ⟨(hw hs).trans wipe_wipe, ?_⟩
                have nD3 : B3 D = none := by
                  cases q : B3 D with
                  | none => rfl
                  | some o =>
                    rcases st3.n D o q with w | w
                    · rw [nD] at w; cases w
                    · rw [hDa] at w; cases w
                have hDa3 := st3.h D _ DL hDa
                have fin : ∀ B5 H5 sx, Rl K mg L B5 H5 σ' ρ' sx → Stp L B3 H3 B5 H5 → Rl K mg L B5 H5 σ ρ sx ∧ Stp L B1 H1 B5 H5 ∧ B5 D = none ∧ H5 D = some (.lst acc) ∧ RepAll K B5 acc ds := fun B5 H5 sx I5 st5 => by
                  refine ⟨I3.restore st5 I5, (st2.trans st3).trans st5, ?_, st5.h D _ DL hDa3, RepAll.mono (st3.trans st5).b _ _ ra⟩
                  cases q : B5 D with
                  | none => rfl
                  | some o =>
                    rcases st5.n D o q with w | w
                    · rw [nD3] at w; cases w
                    · rw [hDa3] at w; cases w
                cases ht : evTs F G ifs ρ' si with
                | none => simp [ht] at hst
                | some p =>
                  obtain ⟨b, sb⟩ := p
                  refine ⟨L, B3, ρ', si, b, sb, I4, ht, fun B5 H5 I5 st5 => ?_⟩
                  cases b with
                  | false =>
                    simp only [ht, Option.some.injEq, Prod.mk.injEq] at hst
                    obtain ⟨q1, q2⟩ := hst
                    subst q1 q2
                    refine iteF ?_
                    obtain ⟨f1, f2, f3, f4, f5⟩ := fin B5 H5 sb I5 st5
                    refine ⟨B5, sb, acc, ds, rest', f1, f2, f3, f4, f5, by omega, hrest, ?_⟩
                    rw [← hcat, ← hr1]; rfl
                  | true =>
                    refine iteT ?_
                    simp only [ht] at hst
                    cases hev : evE F G e ρ' sb with
                    | none => simp [hev] at hst
                    | some p =>
                      obtain ⟨r, sc⟩ := p
                      simp only [hev] at hst
                      cases hem : r.emb with
                      | none => simp [hem] at hst
                      | some dy =>
                        simp only [hem, Option.some.injEq, Prod.mk.injEq] at hst
                        obtain ⟨q1, q2⟩ := hst
                        subst q1 q2
                        refine ⟨L, B5, ρ', sb, r, sc, I5, hev, fun y B6 H6 I6 st6 qy => ?_⟩
                        obtain ⟨B7, I7, st7, qy7⟩ := I6.fzS qy st6
                        obtain ⟨f1, f2, f3, f4, f5⟩ := fin B7 H6 sc I7 (st5.trans st7)
                        have ry : Rep K B7 y dy := by
                          cases r with
                          | val d' => cases hem; exact qy7
                          | fresh ds => cases hem; exact qy7
                          | held _ _ => cases hem
                          | hdl => cases hem
                          | fn _ => cases hem
                        have hla : acc.length < sizeLine := by rw [ra.length]; omega
                        refine ⟨acc, f4, hla, ?_⟩
                        refine ⟨B7, sc, acc ++ [y], ds ++ [dy], rest', f1.mut f3 DL apart, f2.mut hD DL, f3, upd_same, f5.append (.cons ry .nil), by simp; omega, hrest, ?_⟩
                        rw [← hcat, ← hr1]; simp
        · have e : i = xs.length := by omega
          subst e
          rw [List.drop_length] at hlp
          simp only [lcLoop, Option.some.injEq, Prod.mk.injEq] at hlp
          obtain ⟨q1, q2⟩ := hlp
          subst q1 q2
          rw [List.append_nil] at hcat
          subst hcat
          exact .inl ⟨gd.stop H2 eB2, k _ B2 H2 I2 (st1.trans st2) ⟨D, acc, rfl, st1.old hD, nD, DL, hDa, ra, apart⟩⟩
    · cases he
end
end Z

namespace PySem
open Sem (wp)
theorem meetsEnum1 {v : Value} {o : Obj} {H : Heap → Prop} (B : Begins v o H) :
    Meets (Builtin.«enumerate.__new__» ⟨[.type "enumerate", v], []⟩) (fun _ R s => H s.heap ∧
      R (.ok (.ret (.ref (s.heap.push o).objs.size))) { s with heap := (s.heap.push o).push { cls := .type "enumerate", data := .fields #[.none, .bool false, .ref s.heap.objs.size, rawInt 0, .none, .none] } }) :=
  .of_wp fun prog w A R s h => by
    obtain ⟨hp, g, d, tk, os⟩ := s; obtain ⟨h1, h⟩ := h
    have hsub := sub_enumerate
    have q1 : ∀ {A' : Around} {E : Value → Shared → Prop} {Q : Value → Shared → Prop}, Q (.ref hp.objs.size) ⟨hp.push o, g, d, tk, os⟩ → wpAny (model prog w) A' (pyIter v) Q E ⟨hp, g, d, tk, os⟩ :=
      fun q => B.iter prog w _ _ ⟨hp, g, d, tk, os⟩ _ h1 q
    wp_walk using q1
    refine wpAny_stack_any fun st => wpAny_pure ?_
    split
    · rename_i c _ _ _ _ _
      cases (c == Value.type "enumerate")
      · wp_walk using q1
        exact ⟨_, rfl, h⟩
      · wp_walk using q1
        exact ⟨_, rfl, h⟩
    · wp_walk using q1
      exact ⟨_, rfl, h⟩
theorem callEnumB {prog : Program} {w : World} {A : Around} {E : Value → Shared → Prop} {s : Shared} {v : Value} {o : Obj} {H : Heap → Prop} {Q : Value → Shared → Prop} (B : Begins v o H) (h1 : H s.heap)
    (h : ∀ h', IsEnum h' (s.heap.objs.size + 1) s.heap.objs.size 0 .none → h'.get? s.heap.objs.size = some o → h'.objs.size = s.heap.objs.size + 2 →
      (∀ b o, s.heap.get? b = some o → h'.get? b = some o) → Q (.ref (s.heap.objs.size + 1)) { s with heap := h' }) :
    wpAny (model prog w) A (call (.type "enumerate") [v]) Q E s := by
  refine callType_new F.called_enumerate (by decide) (F.typeCall_enumerate_1 _) (F.newCall_enumerate_1 _) (fun obj => F.args_object_init_2 obj _) F.entry_enumerate_new
    (meetsEnum1 B) ⟨h1, ?_⟩
  have hz : (s.heap.push o).objs.size = s.heap.objs.size + 1 := Heap.size_push ..
  show _ ∧ _
  rw [hz]
  have he : IsEnum ((s.heap.push o).push { cls := .type "enumerate", data := .fields #[.none, .bool false, .ref s.heap.objs.size, rawInt 0, .none, .none] }) (s.heap.objs.size + 1) s.heap.objs.size 0 .none := by
    have := Heap.get?_push_size (s.heap.push o) (o := { cls := .type "enumerate", data := .fields #[.none, .bool false, .ref s.heap.objs.size, rawInt 0, .none, .none] }) rfl
    rw [hz] at this; exact this
  refine ⟨⟨_, he, rfl⟩, h _ he (Heap.get?_push_of_some _ (Heap.get?_push_size _ B.free)) (by rw [Heap.size_push, hz]) fun b o x => Heap.get?_push_of_some _ (Heap.get?_push_of_some _ x)⟩
end PySem
namespace Z
open PySem PySem.Spec PyProof.Rows L2
/-- the tuple at a, each item in a new pair -/
def IteT (K : PySem.W.Frag) (a : Addr) : L2.It :=
  ⟨fun i H => ∃ (xs : List V) (x : V), SqT K H a xs ∧ xs[i]? = some x, fun i H v H' => ∃ T x, v = .ref T ∧ H T = none ∧ H' = upd H T (.tup [.int (i : Nat), x]) ∧ ∀ xs, SqT K H a xs → xs[i]? = some x, fun i H => ∃ xs : List V, SqT K H a xs ∧ xs.length ≤ i⟩
theorem tup_apart {h : Heap} {a it : Addr} {i : Nat} {xs : Array Value} (h1 : h.IsTuple a xs) (h2 : h.IsTupleIter it a i) : a ≠ it := by
  rintro rfl
  obtain ⟨o, ho, hc, _⟩ := h1
  obtain ⟨o', ho', hc', _⟩ := h2
  rw [ho] at ho'
  cases ho'
  rw [hc] at hc'
  injection hc' with z
  exact absurd z (by decide)
theorem tup_enum {h : Heap} {a e it : Addr} {i : Int} {old : Value} {xs : Array Value} (h1 : h.IsTuple a xs) (h2 : IsEnum h e it i old) : e ≠ a := by
  rintro rfl
  obtain ⟨o, ho, hc, _⟩ := h1
  rw [h2] at ho
  cases ho
  injection hc with z
  exact absurd z (by decide)
theorem turn_enumT {P : Program} {w : World} {K : PySem.W.Frag} {elts : List Expr} {kk : Nat} {tpos : Pos} (a e it : Addr) :
    Turn P w K (.Tuple elts kk tpos) (IteT K a) [e, it] e (fun i h => (∃ old, IsEnum h e it ((i : Nat) : Int) old) ∧ h.IsTupleIter it a i ∧ e ≠ it) where
  mem := by simp
  obj := fun i h st b hb => by
    obtain ⟨⟨old, he⟩, ⟨o, ho, hc, hd⟩, _⟩ := st
    have e' : b = e ∨ b = it := by simpa using hb
    rcases e' with z | z
    · rw [z]; exact ⟨_, he, fun v q => nomatch q⟩
    · rw [z]; exact ⟨o, ho, fun v q => by rw [hd] at q; cases q⟩
  keep := fun i h h' st k => let ⟨⟨old, he⟩, hi, hne⟩ := st; ⟨⟨old, k e (by simp) _ he⟩, hi.at fun o q => k it (by simp) o q, hne⟩
  item := by
    intro X hP hw hK hc i pins s σ H E I hf st hg
    subst hP hw hK
    obtain ⟨⟨old, he⟩, hit, hne⟩ := st
    obtain ⟨xs, x, hq, hx⟩ := hg
    obtain ⟨its, rv, p, hz⟩ := I.tuple hq
    have p : s.heap.IsTuple a its.toArray := p
    obtain ⟨u, hu, ru⟩ := rv.get hx
    have hel : e < s.heap.objs.size := Heap.lt_size he
    have hil : it < s.heap.objs.size := by obtain ⟨_, q, _⟩ := hit; exact Heap.lt_size q
    have hlt : i < its.toArray.size := by
      have := List.getElem?_eq_some_iff.mp hu
      obtain ⟨z, _⟩ := this
      simpa using z
    refine wpAny_pyNext_enum_itemD (Draws.tuple (show X.A.in1.handled = none from I.ok.hd hc) it a (tup_apart p hit) its.toArray) he ⟨hit, p⟩ hlt hne (by
      simp only [List.mem_cons, List.not_mem_nil, or_false, not_or]
      exact ⟨hne, tup_enum p he⟩) fun x' h' tk hPx ho hst hT hsz hk => ?_
    obtain rfl : x' = u := by
      have h2 : its.toArray[i]? = some u := by simpa using hu
      rw [h2] at hPx
      exact (Option.some.inj hPx).symm
    obtain ⟨hit', _⟩ := hst
    refine ⟨_, rfl, wpAny_letOwnedTupleGo_enum (s := { s with heap := h', toks := tk + 1 }) ho fun h'' he' sb => ?_⟩
    have hT2 : h''.get? s.heap.objs.size = some { cls := .type "tuple", data := .seq #[.int i tk, x'] } := (sb.2 _ (Nat.ne_of_gt hel)).trans hT
    have new : ObjOk X.prog X.w (upd H s.heap.objs.size (.tup [.int (i : Nat), x])) h'' s.heap.objs.size (.tup [.int (i : Nat), x]) :=
      ⟨by show 2 ≤ sizeLine; decide, [.int i tk, x'], .cons ⟨_, rfl⟩ (.cons ru .nil), ⟨_, hT2, rfl, _, rfl⟩⟩
    have I1 : Inv X pins σ (upd H s.heap.objs.size (.tup [.int (i : Nat), x])) { s with heap := h'', toks := tk + 1 } :=
      I.turnedNew (ch := [e, it]) (fun b ob hb q => (sb.2 b (fun z => hb (by simp [z]))).trans (hk b ob (fun z => hb (by simp [z])) (fun z => hb (by simp [z])) q)) hf (Nat.le_refl _) new
    refine ⟨.ref s.heap.objs.size, _, I1, rfl, ⟨_, x, rfl, I.hok.fresh (Nat.le_refl _), rfl, fun ys hy => by rw [I.tuple_inj hy hq]; exact hx⟩, ⟨⟨x', ?_⟩, hit'.at fun o q => (sb.2 it (Ne.symm hne)).trans q, hne⟩, fun b hb => ?_⟩
    · have e1 : ((i + 1 : Nat) : Int) = (i : Int) + 1 := by omega
      rw [e1]; exact he'
    · have hb' : b < s.heap.objs.size := by
        have e' : b = e ∨ b = it := by simpa using hb
        rcases e' with z | z
        · rw [z]; exact hel
        · rw [z]; exact hil
      rw [upd_ne (Nat.ne_of_lt hb')]
      exact (hf b hb).1
  done := by
    intro X hP hw hK hc i pins s σ H E I hf st hg
    subst hP hw hK
    obtain ⟨⟨old, he⟩, hit, hne⟩ := st
    obtain ⟨xs, hq, hx⟩ := hg
    obtain ⟨its, rv, p, hz⟩ := I.tuple hq
    have p : s.heap.IsTuple a its.toArray := p
    obtain ⟨f0, f1, f2, f3, f4, f5⟩ := hf it (by simp)
    have hl := rv.length
    refine wpAny_pyNext_enum_endD (n := i) (P := fun _ _ => True) (St := fun j h => j = i ∧ h.IsTupleIter it a i ∧ h.IsTuple a its.toArray) (fp := [it, a]) ?_ he ⟨rfl, hit, p⟩ fun h' eb => ⟨rfl, I.turned (t' := s.toks) (fun b o hb q => eb b o hb q) f0 f1 f3 f4 f5⟩
    refine ⟨fun j h st => ?_, fun j h h' st k => ?_, fun j s Q E hj st => ?_, fun s Q E st hE => ?_⟩
    · obtain ⟨_, ⟨o, ho, _⟩, _⟩ := st; exact ⟨o, ho⟩
    · exact ⟨st.1, st.2.1.at fun o q => k it (by simp) o q, st.2.2.at fun o q => k a (by simp) o q⟩
    · exact absurd st.1 (Nat.ne_of_lt hj)
    · exact wpAny_nextOf_tuple_end (show X.A.in1.handled = none from I.ok.hd hc) st.2.1 st.2.2 (by simp; omega) hE
  self := fun A i s Q E st h => let ⟨⟨_, he⟩, _⟩ := st; wpAny_pyIter_enum he h
def iEnumA (K : PySem.W.Frag) (ta : TA) : TI := fun σ H R => ta σ H fun vs H1 => ∃ a, vs = [.ref a] ∧ (((∃ xs, SqL K H1 a xs) ∧ R (Ite K a) H1) ∨ ((∃ xs, SqT K H1 a xs) ∧ R (IteT K a) H1))
theorem pi_enumA {X : Cx} {e : Expr} {ta : TA} {p pos tpos : Pos} {elts : List Expr} {kk : Nat} (hg : Gl X "enumerate") (hm : X.mg "enumerate" = none) (ha : PA X [e] ta) (hs : starEach [e] X.env = [(false, eval e X.env)]) :
    PI X (.Tuple elts kk tpos) (.Call (.Name "enumerate" p) [e] [] pos) (iEnumA X.K ta) := by
  refine ⟨fun pins s σ H R I h => ?_⟩
  refine Call_ (ld_blt I hg hm boot_enumerate (PyProof.Rows.callWith_type1 (thn (ha.run pos pins s σ H _ I h) fun us s1 ⟨vs, H1, I1, r1, q1⟩ => ?_) hs rfl))
  obtain ⟨a, ex, ⟨⟨xs, hq⟩, q⟩ | ⟨⟨xs, hq⟩, q⟩⟩ := q1
  · subst ex
    cases r1 with
    | cons r rr =>
      cases rr
      cases r
      obtain ⟨its, rv, p', hz⟩ := I1.list hq
      refine call_enumerate_list p'.isList fun h' he hit hsz hk => wpAny_pyIter_enum he ?_
      have I2 : Inv X pins σ H1 { s1 with heap := h' } := I1.kept (t' := s1.toks) hk
      refine ⟨s1.heap.objs.size + 1, [s1.heap.objs.size + 1, s1.heap.objs.size], _, _, H1, rfl, I2, turn_enum a (s1.heap.objs.size + 1) s1.heap.objs.size, ⟨⟨.none, he⟩, hit, Nat.succ_ne_self _⟩, fun b hb => ?_, q⟩
      have e' : b = s1.heap.objs.size + 1 ∨ b = s1.heap.objs.size := by simpa using hb
      have hle : s1.heap.objs.size ≤ b := by
        rcases e' with z | z
        · rw [z]; exact Nat.le_add_right _ _
        · rw [z]; exact Nat.le_refl _
      exact I1.fpOk hle (I1.hok.fresh hle)
  · subst ex
    cases r1 with
    | cons r rr =>
      cases rr
      cases r
      obtain ⟨its, rv, p', hz⟩ := I1.tuple hq
      refine callEnumB (begins_tuple a its.toArray) p' fun h' he hit hsz hk => wpAny_pyIter_enum he ?_
      have I2 : Inv X pins σ H1 { s1 with heap := h' } := I1.kept (t' := s1.toks) hk
      refine ⟨s1.heap.objs.size + 1, [s1.heap.objs.size + 1, s1.heap.objs.size], _, _, H1, rfl, I2, turn_enumT a (s1.heap.objs.size + 1) s1.heap.objs.size, ⟨⟨.none, he⟩, ⟨_, hit, rfl, rfl⟩, Nat.succ_ne_self _⟩, fun b hb => ?_, q⟩
      have e' : b = s1.heap.objs.size + 1 ∨ b = s1.heap.objs.size := by simpa using hb
      have hle : s1.heap.objs.size ≤ b := by
        rcases e' with z | z
        · rw [z]; exact Nat.le_add_right _ _
        · rw [z]; exact Nat.le_refl _
      exact I1.fpOk hle (I1.hok.fresh hle)
end Z
namespace Z
open PySem L2
section
variable {K : PySem.W.Frag} {mg : Str → Option Value} {F : Str → List Slot → DS → Option (R × DS)} {G : Str → Option PyData} {L : Addr} {B H B' H' H0 : Hp} {σ : L2.St} {ρ : Z.Env} {s s1 s2 s' : DS}
theorem enumD_len : ∀ (k : Nat) (ds : List PyData), (enumD k ds).length = ds.length
  | _, [] => rfl
  | k, _ :: ds => by simp [enumD, enumD_len (k + 1) ds]
theorem enumD_get : ∀ (k : Nat) (ds : List PyData) (i : Nat) (d : PyData), ds[i]? = some d → (enumD k ds)[i]? = some (.tuple [.int ((k + i : Nat) : Int), d])
  | _, [], _, _, h => by simp at h
  | k, x :: ds, 0, d, h => by
    simp at h
    subst h
    simp [enumD]
  | k, x :: ds, i + 1, d, h => by
    simp only [List.getElem?_cons_succ] at h
    simp only [enumD, List.getElem?_cons_succ]
    rw [enumD_get (k + 1) ds i d h, show k + 1 + i = k + (i + 1) by omega]
theorem zipD_len : ∀ (xs ys : List PyData), (zipD xs ys).length = min xs.length ys.length
  | [], _ => by simp [zipD]
  | _ :: _, [] => by simp [zipD]
  | _ :: xs, _ :: ys => by simp [zipD, zipD_len xs ys]
theorem zipD_get : ∀ (xs ys : List PyData) (i : Nat) (d e : PyData), xs[i]? = some d → ys[i]? = some e → (zipD xs ys)[i]? = some (.tuple [d, e])
  | [], _, _, _, _, h, _ => by simp at h
  | _ :: _, [], _, _, _, _, h => by simp at h
  | x :: xs, y :: ys, 0, d, e, h, h2 => by
    simp at h h2
    subst h h2
    simp [zipD]
  | x :: xs, y :: ys, i + 1, d, e, h, h2 => by
    simp only [List.getElem?_cons_succ] at h h2
    simp only [zipD, List.getElem?_cons_succ]
    exact zipD_get xs ys i d e h h2
theorem good_enumL {a : Addr} {vs : List V} {ds : List PyData} {B0 Bs : Hp} (h : Bs a = some (.lst vs)) (r : RepAll K B0 vs ds) : Good K mg L B0 Bs (enumD 0 ds) (Ite K a) := by
  refine ⟨fun i H hi e => ?_, fun H e => ⟨vs, SqL.of (e _ _ h), by rw [enumD_len, r.length]; exact Nat.le_refl _⟩, fun i H x H' hi e y B σ ρ s eB I => ?_⟩
  · have hi' : i < vs.length := by rw [r.length]; rw [enumD_len] at hi; exact hi
    exact ⟨vs, vs[i], SqL.of (e _ _ h), by simp [hi']⟩
  · obtain ⟨T, z, rfl, hT, rfl, hz⟩ := y
    obtain ⟨d, h1, h2⟩ := r.getV (hz vs (SqL.of (e _ _ h)))
    refine ⟨upd B T (.tup [.int (i : Nat), z]), .tuple [.int ((0 + i : Nat) : Int), d], I.laidB hT, Stp.laidB I hT, enumD_get 0 ds i d h1, Rep.tup (.inl (.inl upd_same)) ?_⟩
    rw [Nat.zero_add]
    have hB : B T = none := I.ext.no hT
    exact .cons (Rep.int _) (.cons (Rep.mono (Ext.up hB) _ _ (Rep.mono eB _ _ h2)) .nil)
theorem good_enumT {a : Addr} {vs : List V} {ds : List PyData} {B0 Bs : Hp} (h : SqT K Bs a vs) (r : RepAll K B0 vs ds) : Good K mg L B0 Bs (enumD 0 ds) (IteT K a) := by
  refine ⟨fun i H hi e => ?_, fun H e => ⟨vs, e.sqt h, by rw [enumD_len, r.length]; exact Nat.le_refl _⟩, fun i H x H' hi e y B σ ρ s eB I => ?_⟩
  · have hi' : i < vs.length := by rw [r.length]; rw [enumD_len] at hi; exact hi
    exact ⟨vs, vs[i], e.sqt h, by simp [hi']⟩
  · obtain ⟨T, z, rfl, hT, rfl, hz⟩ := y
    obtain ⟨d, h1, h2⟩ := r.getV (hz vs (e.sqt h))
    refine ⟨upd B T (.tup [.int (i : Nat), z]), .tuple [.int ((0 + i : Nat) : Int), d], I.laidB hT, Stp.laidB I hT, enumD_get 0 ds i d h1, Rep.tup (.inl (.inl upd_same)) ?_⟩
    rw [Nat.zero_add]
    have hB : B T = none := I.ext.no hT
    exact .cons (Rep.int _) (.cons (Rep.mono (Ext.up hB) _ _ (Rep.mono eB _ _ h2)) .nil)
theorem good_zipL {a b : Addr} {vs us : List V} {ds es : List PyData} {B0 Bs : Hp} (h : Bs a = some (.lst vs)) (r : RepAll K B0 vs ds) (h' : Bs b = some (.lst us)) (r' : RepAll K B0 us es) : Good K mg L B0 Bs (zipD ds es) (Itz K a b) := by
  refine ⟨fun i H hi e => ?_, fun H e => ⟨vs, us, SqL.of (e _ _ h), SqL.of (e _ _ h'), by rw [zipD_len, r.length, r'.length]; omega⟩, fun i H x H' hi e y B σ ρ s eB I => ?_⟩
  · rw [zipD_len, ← r.length, ← r'.length] at hi
    exact ⟨vs, us, vs[i], us[i], SqL.of (e _ _ h), SqL.of (e _ _ h'), List.getElem?_eq_getElem _, List.getElem?_eq_getElem _⟩
  · obtain ⟨T, z, z', rfl, hT, rfl, hz, hz'⟩ := y
    obtain ⟨d, h1, h2⟩ := r.getV (hz vs (SqL.of (e _ _ h)))
    obtain ⟨d', h1', h2'⟩ := r'.getV (hz' us (SqL.of (e _ _ h')))
    have hB : B T = none := I.ext.no hT
    exact ⟨upd B T (.tup [z, z']), .tuple [d, d'], I.laidB hT, Stp.laidB I hT, zipD_get ds es i d d' h1 h1', Rep.tup (.inl (.inl upd_same)) (.cons (Rep.mono (Ext.up hB) _ _ (Rep.mono eB _ _ h2)) (.cons (Rep.mono (Ext.up hB) _ _ (Rep.mono eB _ _ h2')) .nil))⟩
theorem good_zipT {a b : Addr} {vs us : List V} {ds es : List PyData} {B0 Bs : Hp} (h : SqT K Bs a vs) (r : RepAll K B0 vs ds) (h' : SqT K Bs b us) (r' : RepAll K B0 us es) : Good K mg L B0 Bs (zipD ds es) (RZ.ItzT K a b) := by
  refine ⟨fun i H hi e => ?_, fun H e => ⟨vs, us, e.sqt h, e.sqt h', by rw [zipD_len, r.length, r'.length]; omega⟩, fun i H x H' hi e y B σ ρ s eB I => ?_⟩
  · rw [zipD_len, ← r.length, ← r'.length] at hi
    exact ⟨vs, us, vs[i], us[i], e.sqt h, e.sqt h', List.getElem?_eq_getElem _, List.getElem?_eq_getElem _⟩
  · obtain ⟨T, z, z', rfl, hT, rfl, hz, hz'⟩ := y
    obtain ⟨d, h1, h2⟩ := r.getV (hz vs (e.sqt h))
    obtain ⟨d', h1', h2'⟩ := r'.getV (hz' us (e.sqt h'))
    have hB : B T = none := I.ext.no hT
    exact ⟨upd B T (.tup [z, z']), .tuple [d, d'], I.laidB hT, Stp.laidB I hT, zipD_get ds es i d d' h1 h1', Rep.tup (.inl (.inl upd_same)) (.cons (Rep.mono (Ext.up hB) _ _ (Rep.mono eB _ _ h2)) (.cons (Rep.mono (Ext.up hB) _ _ (Rep.mono eB _ _ h2')) .nil))⟩
theorem le_enum {a : E} {R0} (h : tIt K mg F G (.enum a) σ H R0) : iEnumA K (tEs K mg F G (.cons a .nil)) σ H R0 := by
  obtain ⟨L, B, ρ, s, xs, al, s', I, e, k⟩ := h
  simp only [evIt] at e
  cases ha : evE F G a ρ s with
  | none => simp [ha] at e
  | some p =>
    obtain ⟨r, s1⟩ := p
    simp only [ha] at e
    cases hd : r.dat with
    | none => simp [hd] at e
    | some d =>
      simp only [hd] at e
      cases hs : seqOf d with
      | none => simp [hs] at e
      | some ys =>
        simp only [hs, Option.some.injEq, Prod.mk.injEq] at e
        obtain ⟨⟨e1, e2⟩, e3⟩ := e
        subst e1 e2 e3
        refine ⟨L, B, ρ, s, [r], s1, I, by simp only [evEs, ha], fun vs B2 H1 I2 st2 q1 => ?_⟩
        cases q1 with
        | cons q t =>
          cases t
          rename_i v
          have go : ∀ d', Rep K B2 v d' → d = d' → ∃ a, [v] = [.ref a] ∧ (((∃ xs, SqL K H1 a xs) ∧ R0 (Ite K a) H1) ∨ ((∃ xs, SqT K H1 a xs) ∧ R0 (IteT K a) H1)) := fun d' hr ed => by
            subst ed
            cases d with
            | list ds =>
              cases hs
              cases hr with
              | lst h1 h2 => exact ⟨_, rfl, .inl ⟨⟨_, SqL.of (I2.ext _ _ h1)⟩, k _ _ _ B2 I2 st2 I2.ext I2.nL (fun _ => rfl) (good_enumL h1 h2)⟩⟩
            | tuple ds =>
              cases hs
              cases hr with
              | tup h1 h2 => exact ⟨_, rfl, .inr ⟨⟨_, I2.ext.sqt h1⟩, k _ _ _ B2 I2 st2 I2.ext I2.nL (fun _ => rfl) (good_enumT h1 h2)⟩⟩
            | none => cases hs
            | bool _ => cases hs
            | int _ => cases hs
            | str _ => cases hs
            | dict _ => cases hs
          cases r with
          | val d' => exact go d' q (Option.some.inj hd).symm
          | fresh ds => exact go _ q (Option.some.inj hd).symm
          | held i ds =>
            have ed : PyData.list ds = d := Option.some.inj hd
            subst ed
            cases hs
            obtain ⟨z1, z2⟩ := q
            obtain ⟨l, ws, w1, w2, w3, w4, w5⟩ := I2.own i _ z1
            rw [z2] at w1
            cases w1
            refine ⟨l, rfl, .inl ⟨⟨_, SqL.of w4⟩, k _ _ _ (fun b => if b = l then H1 b else none) I2 st2 (fun b o h => ?_) ?_ (fun h => by cases h) (good_enumL (by simp [w4]) w5)⟩⟩
            · by_cases c : b = l
              · subst c; simpa using h
              · simp [c] at h
            · show (if L = l then H1 L else none) = none
              rw [if_neg (Ne.symm w3)]
          | hdl => cases hd
          | fn _ => cases hd
theorem le_zip {a b : E} {R0} (h : tIt K mg F G (.zip a b) σ H R0) : RZ.iZipA K (tEs K mg F G (.cons a (.cons b .nil))) σ H R0 := by
  obtain ⟨L, B, ρ, s, xs, al, s', I, e, k⟩ := h
  simp only [evIt] at e
  cases ha : evE F G a ρ s with
  | none => simp [ha] at e
  | some p =>
    obtain ⟨ra, s1⟩ := p
    simp only [ha] at e
    cases hb : evE F G b ρ s1 with
    | none => simp [hb] at e
    | some p =>
      obtain ⟨rb, s2⟩ := p
      simp only [hb] at e
      refine ⟨L, B, ρ, s, [ra, rb], s2, I, by simp only [evEs, ha, hb], fun vs B2 H1 I2 st2 q1 => ?_⟩
      cases q1 with
      | cons q t =>
        cases t with
        | cons q' t =>
          cases t
          split at e
          · rename_i ds es
            simp only [Option.some.injEq, Prod.mk.injEq] at e
            obtain ⟨⟨e1, e2⟩, e3⟩ := e
            subst e1 e2 e3
            cases q with
            | tup h1 h2 =>
              cases q' with
              | tup h3 h4 => exact ⟨_, _, _, _, rfl, .inr ⟨I2.ext.sqt h1, I2.ext.sqt h3, k _ _ _ B2 I2 st2 I2.ext I2.nL (fun _ => rfl) (good_zipT h1 h2 h3 h4)⟩⟩
          · rename_i ds es
            simp only [Option.some.injEq, Prod.mk.injEq] at e
            obtain ⟨⟨e1, e2⟩, e3⟩ := e
            subst e1 e2 e3
            cases q with
            | lst h1 h2 =>
              cases q' with
              | lst h3 h4 => exact ⟨_, _, _, _, rfl, .inl ⟨SqL.of (I2.ext _ _ h1), SqL.of (I2.ext _ _ h3), k _ _ _ B2 I2 st2 I2.ext I2.nL (fun _ => rfl) (good_zipL h1 h2 h3 h4)⟩⟩
          · cases e
end
end Z

namespace Z
open PySem L2
/-! ## from the text to the small language -/
structure Sx where
  N : List Str
  sc : Scope
  fns : List Str
  glos : List Str
  cok : Str → Bool
def idx : List Str → Str → Option Nat
  | [], _ => none
  | y :: ys, x => if x = y then some 0 else match idx ys x with
    | some i => some (i + 1)
    | none => none
theorem idx_get : ∀ {N : List Str} {x : Str} {i : Nat}, idx N x = some i → N[i]? = some x
  | [], _, _, h => by simp [idx] at h
  | y :: ys, x, i, h => by
    unfold idx at h
    split at h
    · rename_i e
      cases h
      simp [e]
    · cases q : idx ys x with
      | none => simp [q] at h
      | some j =>
        simp only [q, Option.some.injEq] at h
        subst h
        simpa using idx_get q
def visB (sc : Scope) (x : Str) : Bool := match sc.names.lookup x with
  | some .local => true
  | some .cell => true
  | some .free => true
  | _ => false
def glB (sc : Scope) (x : Str) : Bool := match sc.names.lookup x with
  | some .globalImplicit => true
  | _ => false
def okName (x : Str) : Bool := !(x == ("__debug__" : Str)) && !(x == ("__classdict__" : Str)) && !decide (x = ("__name__" : Str))
def locB (S : Sx) (x : Str) : Bool := match S.sc.names.lookup x with
  | some .local => true
  | some .cell => S.cok x
  | _ => false
def bop : Operator → Option BOp
  | .Add => some .add
  | .Sub => some .sub
  | .Mult => some .mul
  | .FloorDiv => some .fdiv
  | .Mod => some .mod
  | _ => none
def copOf : CmpOp → COp
  | .Eq => .eq
  | .NotEq => .ne
  | .Lt => .lt
  | .LtE => .le
  | .Gt => .gt
  | .GtE => .ge
  | .Is => .isN
  | .IsNot => .notN
  | .In => .mem
  | .NotIn => .nmem
def bltNames : List Str := ["len", "tuple", "list", "int", "abs", "max", "min", "sum", "any", "all", "sorted", "range", "isinstance", "bool", "str", "enumerate", "zip"]
def bltOf (x : Str) (n : Nat) : Option Blt :=
  if x = "len" then (if n = 1 then some .len else none)
  else if x = "tuple" then (if n = 1 then some .tuple else none)
  else if x = "list" then (if n = 1 then some .list else none)
  else if x = "int" then (if n = 1 then some .int else none)
  else if x = "abs" then (if n = 1 then some .abs else none)
  else if x = "max" then (if n = 1 then some .maxL else if n = 2 then some .max2 else none)
  else if x = "min" then (if n = 1 then some .minL else if n = 2 then some .min2 else none)
  else if x = "sum" then (if n = 1 then some .sum else none)
  else if x = "any" then (if n = 1 then some .any else none)
  else if x = "all" then (if n = 1 then some .all else none)
  else if x = "sorted" then (if n = 1 then some .sorted else none)
  else none
def tyOf (x : Str) : Option Ty :=
  if x = "bool" then some .bool else if x = "int" then some .int else if x = "tuple" then some .tuple else if x = "str" then some .str else if x = "list" then some .list else none
def ownOf (N : List Str) : List (Str × NameKind) → List (Str × Nat)
  | [] => []
  | (x, k) :: r => if k = .local ∨ k = .cell then (match idx N x with
    | some i => (x, i) :: ownOf N r
    | none => ownOf N r) else ownOf N r
def subs (a b : List Nat) : Bool := a.all fun i => b.any fun j => i == j
mutual
def cmpTg : Nat → Sx → Expr → Option Tg
  | 0, _, _ => none
  | n + 1, S, e => match e with
    | .Name x _ => if locB S x = true then (match idx S.N x with
      | some i => some (.name i)
      | none => none) else none
    | .Tuple es _ _ => match cmpTgs n S es with
      | some ts => some (.tup ts)
      | none => none
    | _ => none
def cmpTgs : Nat → Sx → List Expr → Option Tgs
  | 0, _, _ => none
  | n + 1, S, es => match es with
    | [] => some .nil
    | e :: r => match cmpTg n S e with
      | some t => match cmpTgs n S r with
        | some ts => some (.cons t ts)
        | none => none
      | none => none
end
def tupE : Expr → Bool
  | .Tuple _ _ _ => true
  | _ => false
theorem tupE_eq {e : Expr} (h : tupE e = true) : ∃ es k p, e = .Tuple es k p := by
  cases e <;> first | exact ⟨_, _, _, rfl⟩ | cases h
def cst : Const → Option Cst
  | .none => some .non
  | .bool b => some (.bl b)
  | .int i => some (.int i)
  | .str x => some (.str x)
  | _ => none
mutual
def cmpE : Nat → Sx → Expr → Option E
  | 0, _, _ => none
  | n + 1, S, e => match e with
    | .Name x _ => if okName x = true then
        (if visB S.sc x = true then (match idx S.N x with
          | some i => some (.var i)
          | none => none)
        else if glB S.sc x = true then (if x ∈ S.fns then some (.fnv x) else if x ∈ S.glos then some (.glo x) else none)
        else none) else none
    | .Constant c _ _ => match cst c with
      | some c => some (.cst c)
      | none => none
    | .Tuple es _ _ => match cmpEs n S es with
      | some cs => some (.tup cs)
      | none => none
    | .List es _ => match cmpEs n S es with
      | some cs => some (.lst cs)
      | none => none
    | .BinOp a op b _ => match bop op with
      | some o => match cmpE n S a with
        | some x => match cmpE n S b with
          | some y => some (.bin o x y)
          | none => none
        | none => none
      | none => none
    | .UnaryOp .USub a _ => match cmpE n S a with
      | some x => some (.neg x)
      | none => none
    | .UnaryOp .Not a _ => match cmpE n S a with
      | some x => some (.notV x)
      | none => none
    | .Compare a [op] [b] _ => match cmpE n S a with
      | some x => match cmpE n S b with
        | some y => some (.cmp (copOf op) x y)
        | none => none
      | none => none
    | .Compare a [op, op'] [b, c] _ => match cmpE n S a with
      | some x => match cmpE n S b with
        | some y => match cmpE n S c with
          | some z => some (.chn (copOf op) (copOf op') x y z)
          | none => none
        | none => none
      | none => none
    | .BoolOp op es _ => cmpB n S op es
    | .IfExp t a b _ => match cmpT n S t with
      | some w => match cmpE n S a with
        | some x => match cmpE n S b with
          | some y => some (.ite w x y)
          | none => none
        | none => none
      | none => none
    | .Subscript a i _ => match i with
      | .Slice lo hi none _ => match cmpE n S a with
        | some x => match cmpO n S lo with
          | some l => match cmpO n S hi with
            | some h => some (.sl x l h)
            | none => none
          | none => none
        | none => none
      | _ => match cmpE n S a with
        | some x => match cmpE n S i with
          | some y => some (.ix x y)
          | none => none
        | none => none
    | .Call (.Name f _) (a :: as) [] _ => if okName f = true ∧ glB S.sc f = true then
        (if f ∈ S.fns then (match cmpEs n S (a :: as) with
          | some cs => some (.call f cs)
          | none => none)
        else if f = "isinstance" then (match as with
          | [.Name t _] => match tyOf t with
            | some ty => if glB S.sc t = true ∧ okName t = true then (match cmpE n S a with
              | some x => some (.isi x ty)
              | none => none) else none
            | none => none
          | _ => none)
        else match bltOf f (as.length + 1) with
          | some b => match cmpEs n S (a :: as) with
            | some cs => some (.blt b cs)
            | none => none
          | none => none) else none
    | .ListComp elt [⟨tg, it, ifs, 0⟩] scope _ =>
      if blkC S.N S.sc scope (ownOf S.N scope.names) = true then
        match cmpIt n S tg it with
        | some i => match cmpTg n { S with sc := relS scope S.sc, cok := fun x => scope.names.lookup x == some .cell } tg with
          | some g => if subs g.slots ((ownOf S.N scope.names).map (·.2)) = true then
              match cmpTs n { S with sc := relS scope S.sc, cok := fun x => scope.names.lookup x == some .cell } ifs with
              | some t => match cmpE n { S with sc := relS scope S.sc, cok := fun x => scope.names.lookup x == some .cell } elt with
                | some c => some (.lc c g i t ((ownOf S.N scope.names).map (·.2)))
                | none => none
              | none => none
            else none
          | none => none
        | none => none
      else none
    | _ => none
def cmpEs : Nat → Sx → List Expr → Option Es
  | 0, _, _ => none
  | n + 1, S, es => match es with
    | [] => some .nil
    | e :: r => match cmpE n S e with
      | some t => match cmpEs n S r with
        | some ts => some (.cons t ts)
        | none => none
      | none => none
def cmpB : Nat → Sx → BoolOp → List Expr → Option E
  | 0, _, _, _ => none
  | n + 1, S, op, es => match es with
    | [] => none
    | [a] => cmpE n S a
    | a :: b :: r => match cmpE n S a with
      | some x => match cmpB n S op (b :: r) with
        | some y => match op with
          | .And => some (.andV x y)
          | .Or => some (.orV x y)
        | none => none
      | none => none
def cmpT : Nat → Sx → Expr → Option T
  | 0, _, _ => none
  | n + 1, S, e => match e with
    | .UnaryOp .Not a _ => match cmpT n S a with
      | some x => some (.not x)
      | none => none
    | .BoolOp op es _ => cmpTB n S op es
    | .IfExp _ _ _ _ => none
    | e => match cmpE n S e with
      | some x => some (.e x)
      | none => none
def cmpTB : Nat → Sx → BoolOp → List Expr → Option T
  | 0, _, _, _ => none
  | n + 1, S, op, es => match es with
    | [] => none
    | [a] => cmpT n S a
    | a :: b :: r => match cmpT n S a with
      | some x => match cmpTB n S op (b :: r) with
        | some y => match op with
          | .And => some (.and x y)
          | .Or => some (.or x y)
        | none => none
      | none => none
def cmpTs : Nat → Sx → List Expr → Option Ts
  | 0, _, _ => none
  | n + 1, S, es => match es with
    | [] => some .nil
    | [e] => match cmpT n S e with
      | some t => some (.cons t .nil)
      | none => none
    | _ => none
def cmpO : Nat → Sx → Option Expr → Option O
  | 0, _, _ => none
  | n + 1, S, e => match e with
    | none => some .none
    | some e => match cmpE n S e with
      | some c => some (.some c)
      | none => none
def cmpIt : Nat → Sx → Expr → Expr → Option Z.It
  | 0, _, _, _ => none
  | n + 1, S, tg, e => match e with
    | .Call (.Name f fp) as [] cp => if f = "range" ∧ glB S.sc f = true ∧ f ∉ S.fns then (match as with
        | [a] => match cmpEs n S [a] with
          | some cs => some (.range cs)
          | none => none
        | [a, b] => match cmpEs n S [a, b] with
          | some cs => some (.range cs)
          | none => none
        | _ => none)
      else if f = "enumerate" ∧ glB S.sc f = true ∧ f ∉ S.fns ∧ tupE tg = true then (match as with
        | [a] => match cmpEs n S [a] with
          | some (.cons x .nil) => some (.enum x)
          | _ => none
        | _ => none)
      else if f = "zip" ∧ glB S.sc f = true ∧ f ∉ S.fns ∧ tupE tg = true then (match as with
        | [a, b] => match cmpEs n S [a, b] with
          | some (.cons x (.cons y .nil)) => some (.zip x y)
          | _ => none
        | _ => none)
      else match cmpE n S (.Call (.Name f fp) as [] cp) with
        | some c => some (.seq c)
        | none => none
    | e => match cmpE n S e with
      | some c => some (.seq c)
      | none => none
end
end Z

namespace Z
open PySem L2
structure XR (S : Sx) (X : Cx) : Prop where
  N : X.N = S.N
  nd : S.N.Nodup
  sc : X.env.scope = S.sc
  calm : X.calm = true
  fn : ∀ x, S.cok x = true → X.fn x = true
structure Wd (F : Str → List Slot → DS → Option (R × DS)) (G : Str → Option PyData) (fns glos : List Str) (k : Nat) (X : Cx) : Prop where
  room : Room k X.A
  blt : ∀ x ∈ bltNames, X.mg x = none
  fns : ∀ f ∈ fns, ∃ a fd ps, X.mg f = some (.ref a) ∧ PySem.W.keepIn X.K (.ref a) = true ∧ Binds X.K fd ps [] ∧ FnOk X.prog X.w X.K X.mg X.base CX0 k a fd ps (spF X.K X.mg (F f))
  glos : ∀ x ∈ glos, ∃ u v, X.mg x = some u ∧ RelV v u ∧ ∀ d, G x = some d → ∀ B, Rep X.K B v d
section
variable {F : Str → List Slot → DS → Option (R × DS)} {G : Str → Option PyData} {k : Nat} {S : Sx} {X : Cx}

theorem vis_of {x : Str} (R : XR S X) (h : visB S.sc x = true) : Vis X.env.scope x := by
  unfold visB at h
  rw [R.sc]
  unfold Vis
  cases q : S.sc.names.lookup x with
  | none => simp [q] at h
  | some k => cases k <;> simp_all
theorem gl_of {x : Str} (R : XR S X) (h : glB S.sc x = true) : Gl X x := by
  unfold glB at h
  unfold Gl Env.kindOf
  rw [R.sc]
  cases q : S.sc.names.lookup x with
  | none => simp [q] at h
  | some k => cases k <;> simp_all
theorem ok_dbg {x : Str} (h : okName x = true) : (x == ("__debug__" : Str)) = false ∧ (x == ("__classdict__" : Str)) = false ∧ x ≠ "__name__" := by
  unfold okName at h
  simp only [Bool.and_eq_true, Bool.not_eq_true', decide_eq_false_iff_not] at h
  exact ⟨h.1.1, h.1.2, h.2⟩
/-! ### targets -/
theorem tg_noStar {n : Nat} {e : Expr} {t : Tg} (h : cmpTg n S e = some t) : ∀ (es : List Expr) (env : PySem.Env), assignEach (e :: es) env = (false, assign e env) :: assignEach es env := by
  intro es env
  cases n with
  | zero => simp [cmpTg] at h
  | succ n => cases e <;> first | rfl | (simp [cmpTg] at h; done)
theorem tgs_len {n : Nat} : ∀ {es : List Expr} {ts : Tgs} {env : PySem.Env}, cmpTgs n S es = some ts → (assignEach es env).length = ts.len ∧ (assignEach es env).findIdx? (·.1) = none := by
  induction n with
  | zero => intro es ts env h; simp [cmpTgs] at h
  | succ n ih =>
    intro es ts env h
    cases es with
    | nil =>
      simp only [cmpTgs, Option.some.injEq] at h
      subst h
      exact ⟨rfl, rfl⟩
    | cons e r =>
      simp only [cmpTgs] at h
      cases h1 : cmpTg n S e with
      | none => simp [h1] at h
      | some t =>
        simp only [h1] at h
        cases h2 : cmpTgs n S r with
        | none => simp [h2] at h
        | some ts' =>
          simp only [h2, Option.some.injEq] at h
          subst h
          obtain ⟨q1, q2⟩ := ih (env := env) h2
          rw [tg_noStar h1]
          refine ⟨by simp [Tgs.len, q1], ?_⟩
          rw [List.findIdx?_cons]
          simp [q2]
theorem tg_ok : ∀ (n : Nat), (∀ (S : Sx) (X : Cx) (e : Expr) (t : Tg), XR S X → cmpTg n S e = some t → PG X e (gTg X.K t)) ∧
    (∀ (S : Sx) (X : Cx) (es : List Expr) (ts : Tgs), XR S X → cmpTgs n S es = some ts → PGs X es (gTgs X.K ts)) := by
  intro n
  induction n with
  | zero => exact ⟨fun S X e t R h => by simp [cmpTg] at h, fun S X e t R h => by simp [cmpTgs] at h⟩
  | succ n ih =>
    refine ⟨fun S X e t R h => ?_, fun S X es ts R h => ?_⟩
    · cases e <;> first | (simp [cmpTg] at h; done) | skip
      · rename_i x pos
        simp only [cmpTg] at h
        split at h
        · rename_i hl
          cases hi : idx S.N x with
          | none => simp [hi] at h
          | some i =>
            simp only [hi, Option.some.injEq] at h
            subst h
            have hN : X.N[i]? = some x := by rw [R.N]; exact idx_get hi
            have hl2 : X.env.scope.names.lookup x = some .local ∨ (X.env.scope.names.lookup x = some .cell ∧ X.fn x = true) := by
              rw [R.sc]
              unfold locB at hl
              cases q : S.sc.names.lookup x with
              | none => simp [q] at hl
              | some kk =>
                simp only [q] at hl
                cases kk <;> first | (cases hl; done) | skip
                · exact .inl rfl
                · exact .inr ⟨rfl, R.fn x hl⟩
            refine pg_name (by rw [R.N]; exact R.nd) hN ?_ ?_
            · rcases hl2 with q | q
              · exact .inl q
              · exact .inr q.1
            · rcases hl2 with q | q
              · exact .inr q
              · exact .inl q.2
        · cases h
      · rename_i es kk pos
        simp only [cmpTg] at h
        cases h1 : cmpTgs n S es with
        | none => simp [h1] at h
        | some ts =>
          simp only [h1, Option.some.injEq] at h
          subst h
          obtain ⟨q1, q2⟩ := tgs_len (env := X.env) h1
          exact pg_tup R.calm (ih.2 S X es ts R h1) q1 q2
    · cases es with
      | nil =>
        simp only [cmpTgs, Option.some.injEq] at h
        subst h
        exact pgs_nil
      | cons e r =>
        simp only [cmpTgs] at h
        cases h1 : cmpTg n S e with
        | none => simp [h1] at h
        | some t =>
          simp only [h1] at h
          cases h2 : cmpTgs n S r with
          | none => simp [h2] at h
          | some ts' =>
            simp only [h2, Option.some.injEq] at h
            subst h
            exact pgs_cons (ih.1 S X e t R h1) (ih.2 S X r ts' R h2) (by rw [tg_noStar h1]; rfl)
/-! ### what the text's side conditions ask -/
theorem e_noStar {n : Nat} {e : Expr} {c : E} (h : cmpE n S e = some c) : ∀ (es : List Expr) (env : PySem.Env), starEach (e :: es) env = (false, eval e env) :: starEach es env := by
  intro es env
  cases n with
  | zero => simp [cmpE] at h
  | succ n => cases e <;> first | rfl | (simp [cmpE] at h; done)
theorem e_noMark {n : Nat} {e : Expr} {c : E} (h : cmpE n S e = some c) (op : CmpOp) : behindInMarks op e = false := by
  cases n with
  | zero => simp [cmpE] at h
  | succ n => cases e <;> first | rfl | (simp [cmpE] at h; done)
theorem e_plainIx {n : Nat} {e : Expr} {c : E} (h : cmpE n S e = some c) : PlainIx e := by
  cases n with
  | zero => simp [cmpE] at h
  | succ n => cases e <;> first | (intro _ _; rfl) | (simp [cmpE] at h; done)
theorem e_noFold {n : Nat} {e : Expr} {c : E} (h : cmpE n S e = some c) (env : PySem.Env) : ∀ x, foldedSetIterable e env x = pure x := by
  cases n with
  | zero => simp [cmpE] at h
  | succ n => cases e <;> first | (intro _; rfl) | (simp [cmpE] at h; done)
theorem it_noFold {n : Nat} {tg e : Expr} {c : Z.It} (h : cmpIt n S tg e = some c) (env : PySem.Env) : ∀ x, foldedSetIterable e env x = pure x := by
  cases n with
  | zero => simp [cmpIt] at h
  | succ n =>
    cases e <;> first | (intro _; rfl) | skip
    all_goals
      simp only [cmpIt] at h
      split at h
      · rename_i hc; exact e_noFold hc env
      · cases h
theorem es_noStar {n : Nat} : ∀ {es : List Expr} {cs : Es} {env : PySem.Env} {pos : Pos}, cmpEs n S es = some cs → (backTo pos (starEach es env)).any (·.1) = false := by
  induction n with
  | zero => intro es ts env pos h; simp [cmpEs] at h
  | succ n ih =>
    intro es ts env pos h
    cases es with
    | nil => rfl
    | cons e r =>
      simp only [cmpEs] at h
      cases h1 : cmpE n S e with
      | none => simp [h1] at h
      | some t =>
        simp only [h1] at h
        cases h2 : cmpEs n S r with
        | none => simp [h2] at h
        | some ts' =>
          have q := ih (env := env) (pos := pos) h2
          rw [e_noStar h1]
          show ((false, _) :: backTo pos (starEach r env)).any (·.1) = false
          rw [List.any_cons, q]
          rfl
theorem opr (o : CmpOp) (hu : X.A.units + 65 < cLine) : ∃ r, OpR X (compareOp o) r ∧ OpD X.K X.mg r fun x y => (evCmp (copOf o) x y).map fun c => R.val (.bool c) := by
  cases o with
  | Eq => exact ⟨_, op_eqD (by omega), opd_eq⟩
  | NotEq => exact ⟨_, op_neD (by omega), opd_ne⟩
  | Lt => exact ⟨_, op_lt, opd_lt⟩
  | LtE => exact ⟨_, op_le, opd_le⟩
  | Gt => exact ⟨_, op_gt, opd_gt⟩
  | GtE => exact ⟨_, op_ge, opd_ge⟩
  | Is => exact ⟨_, op_isN, opd_isN⟩
  | IsNot => exact ⟨_, op_notN, opd_notN⟩
  | In => exact ⟨_, op_mem hu, opd_mem⟩
  | NotIn => exact ⟨_, op_nmem hu, opd_nmem⟩
theorem bopr {op : Operator} {o : BOp} (h : bop op = some o) : ∃ r, OpR X (binaryOp op) r ∧ OpD X.K X.mg r (evBin o) := by
  cases op <;> first | (simp [bop] at h; done) | skip
  · cases h; exact ⟨_, op_addZ, opd_add⟩
  · cases h; exact ⟨_, op_sub, opd_sub⟩
  · cases h; exact ⟨_, op_mulZ, opd_mul⟩
  · cases h; exact ⟨_, op_modN, opd_mod⟩
  · cases h; exact ⟨_, op_fdivN, opd_fdiv⟩
/-- the built-ins: each by its name -/
theorem bltr {x : Str} {n : Nat} {b : Blt} (h : bltOf x n = some b) (hc : X.calm = true) : x ∈ bltNames ∧ ∃ u r, bootBuiltins x = some u ∧ CaD X.K X.mg r (evBlt b) ∧ ((∃ id, u = .builtin id ∧ CallR X (.builtin id) r) ∨ ∃ T, u = .type T ∧ CallR X (.type T) r) := by
  unfold bltOf at h
  by_cases e : x = "len"
  · rw [if_pos e] at h
    subst e
    by_cases hn : n = 1
    · rw [if_pos hn] at h
      have hb := Option.some.inj h
      subst hb
      exact ⟨by decide +kernel, _, _, PySem.boot_len, ca_len, .inl ⟨_, rfl, call_len_seq⟩⟩
    rw [if_neg hn] at h
    cases h
  rw [if_neg e] at h
  clear e
  by_cases e : x = "tuple"
  · rw [if_pos e] at h
    subst e
    by_cases hn : n = 1
    · rw [if_pos hn] at h
      have hb := Option.some.inj h
      subst hb
      exact ⟨by decide +kernel, _, _, by decide +kernel, ca_tuple, .inr ⟨_, rfl, call_tuple_of⟩⟩
    rw [if_neg hn] at h
    cases h
  rw [if_neg e] at h
  clear e
  by_cases e : x = "list"
  · rw [if_pos e] at h
    subst e
    by_cases hn : n = 1
    · rw [if_pos hn] at h
      have hb := Option.some.inj h
      subst hb
      exact ⟨by decide +kernel, _, _, by decide +kernel, ca_list, .inr ⟨_, rfl, call_list_of⟩⟩
    rw [if_neg hn] at h
    cases h
  rw [if_neg e] at h
  clear e
  by_cases e : x = "int"
  · rw [if_pos e] at h
    subst e
    by_cases hn : n = 1
    · rw [if_pos hn] at h
      have hb := Option.some.inj h
      subst hb
      exact ⟨by decide +kernel, _, _, by decide +kernel, ca_int, .inr ⟨_, rfl, call_int1⟩⟩
    rw [if_neg hn] at h
    cases h
  rw [if_neg e] at h
  clear e
  by_cases e : x = "abs"
  · rw [if_pos e] at h
    subst e
    by_cases hn : n = 1
    · rw [if_pos hn] at h
      have hb := Option.some.inj h
      subst hb
      exact ⟨by decide +kernel, _, _, by decide +kernel, ca_abs, .inl ⟨_, rfl, call_abs⟩⟩
    rw [if_neg hn] at h
    cases h
  rw [if_neg e] at h
  clear e
  by_cases e : x = "max"
  · rw [if_pos e] at h
    subst e
    by_cases hn : n = 1
    · rw [if_pos hn] at h
      have hb := Option.some.inj h
      subst hb
      exact ⟨by decide +kernel, _, _, by decide +kernel, ca_maxL, .inl ⟨_, rfl, cr_max hc⟩⟩
    rw [if_neg hn] at h
    by_cases hn : n = 2
    · rw [if_pos hn] at h
      have hb := Option.some.inj h
      subst hb
      exact ⟨by decide +kernel, _, _, by decide +kernel, ca_max2, .inl ⟨_, rfl, call_max2 hc⟩⟩
    rw [if_neg hn] at h
    cases h
  rw [if_neg e] at h
  clear e
  by_cases e : x = "min"
  · rw [if_pos e] at h
    subst e
    by_cases hn : n = 1
    · rw [if_pos hn] at h
      have hb := Option.some.inj h
      subst hb
      exact ⟨by decide +kernel, _, _, by decide +kernel, ca_minL, .inl ⟨_, rfl, cr_min hc⟩⟩
    rw [if_neg hn] at h
    by_cases hn : n = 2
    · rw [if_pos hn] at h
      have hb := Option.some.inj h
      subst hb
      exact ⟨by decide +kernel, _, _, by decide +kernel, ca_min2, .inl ⟨_, rfl, call_min2 hc⟩⟩
    rw [if_neg hn] at h
    cases h
  rw [if_neg e] at h
  clear e
  by_cases e : x = "sum"
  · rw [if_pos e] at h
    subst e
    by_cases hn : n = 1
    · rw [if_pos hn] at h
      have hb := Option.some.inj h
      subst hb
      exact ⟨by decide +kernel, _, _, by decide +kernel, ca_sum, .inl ⟨_, rfl, cr_sum hc⟩⟩
    rw [if_neg hn] at h
    cases h
  rw [if_neg e] at h
  clear e
  by_cases e : x = "any"
  · rw [if_pos e] at h
    subst e
    by_cases hn : n = 1
    · rw [if_pos hn] at h
      have hb := Option.some.inj h
      subst hb
      exact ⟨by decide +kernel, _, _, by decide +kernel, ca_any, .inl ⟨_, rfl, cr_any hc⟩⟩
    rw [if_neg hn] at h
    cases h
  rw [if_neg e] at h
  clear e
  by_cases e : x = "all"
  · rw [if_pos e] at h
    subst e
    by_cases hn : n = 1
    · rw [if_pos hn] at h
      have hb := Option.some.inj h
      subst hb
      exact ⟨by decide +kernel, _, _, by decide +kernel, ca_all, .inl ⟨_, rfl, cr_all hc⟩⟩
    rw [if_neg hn] at h
    cases h
  rw [if_neg e] at h
  clear e
  by_cases e : x = "sorted"
  · rw [if_pos e] at h
    subst e
    by_cases hn : n = 1
    · rw [if_pos hn] at h
      have hb := Option.some.inj h
      subst hb
      exact ⟨by decide +kernel, _, _, by decide +kernel, ca_sorted, .inl ⟨_, rfl, cr_sorted⟩⟩
    rw [if_neg hn] at h
    cases h
  rw [if_neg e] at h
  clear e
  cases h
/-! ### isinstance -/
def Ty.name : Ty → String
  | .bool => "bool"
  | .int => "int"
  | .tuple => "tuple"
  | .str => "str"
  | .list => "list"
theorem tyOf_name {x : Str} {t : Ty} (h : tyOf x = some t) : x = Str.ofString t.name ∧ x ∈ bltNames ∧ bootBuiltins x = some (.type t.name) := by
  unfold tyOf at h
  split at h
  · rename_i e; cases h; subst e; exact ⟨rfl, by decide +kernel, by decide +kernel⟩
  split at h
  · rename_i e; cases h; subst e; exact ⟨rfl, by decide +kernel, by decide +kernel⟩
  split at h
  · rename_i e; cases h; subst e; exact ⟨rfl, by decide +kernel, by decide +kernel⟩
  split at h
  · rename_i e; cases h; subst e; exact ⟨rfl, by decide +kernel, by decide +kernel⟩
  split at h
  · rename_i e; cases h; subst e; exact ⟨rfl, by decide +kernel, by decide +kernel⟩
  cases h
def tyD : PyData → Option String
  | .none => some "NoneType"
  | .bool _ => some "bool"
  | .int _ => some "int"
  | .str _ => some "str"
  | .list _ => some "list"
  | .tuple _ => some "tuple"
  | .dict _ => none
theorem ty_x {K : PySem.W.Frag} {B H : Hp} {v : V} {d : PyData} {t : String} (x : Ext B H) (h : RdD K B H v d) (e : tyD d = some t) : TyX K H v (.type t) := by
  cases d with
  | none => cases e; cases h; exact .base .non
  | bool b => cases e; cases h; exact .base (.bl b)
  | int i => cases e; cases h; exact .base (.int i)
  | str i => cases e; cases h; exact .base (.str i)
  | list xs =>
    cases e
    obtain ⟨a, vs, rfl, h1, _⟩ := h
    exact .base (.lst h1)
  | tuple xs =>
    cases e
    obtain ⟨a, vs, rfl, h1, _⟩ := h.tup
    rcases x.sqt h1 with (h | ⟨o, h⟩) | ⟨o, its, n, hk, hc, _⟩
    · exact .base (.tup h)
    · exact .fTuple h
    · exact .kTuple hk hc
  | dict _ => cases e
theorem isi_kit {d : PyData} {t : Ty} {s : String} (e : tyD d = some s) : kitB s t.name = some (evIsi d t) := by
  have k1 : ∀ t : Ty, kitB "bool" t.name = some (match t with | .bool => true | .int => true | _ => false) := fun t => by cases t <;> decide +kernel
  have k2 : ∀ t : Ty, kitB "int" t.name = some (match t with | .int => true | _ => false) := fun t => by cases t <;> decide +kernel
  have k3 : ∀ t : Ty, kitB "str" t.name = some (match t with | .str => true | _ => false) := fun t => by cases t <;> decide +kernel
  have k4 : ∀ t : Ty, kitB "list" t.name = some (match t with | .list => true | _ => false) := fun t => by cases t <;> decide +kernel
  have k5 : ∀ t : Ty, kitB "tuple" t.name = some (match t with | .tuple => true | _ => false) := fun t => by cases t <;> decide +kernel
  have k6 : ∀ t : Ty, kitB "NoneType" t.name = some false := fun t => by cases t <;> decide +kernel
  cases d <;> cases e
  · cases t <;> exact k6 _
  · cases t <;> exact k1 _
  · cases t <;> exact k2 _
  · cases t <;> exact k3 _
  · cases t <;> exact k4 _
  · cases t <;> exact k5 _
theorem le_isi {K : PySem.W.Frag} {mg : Str → Option Value} {a : E} {ty : Ty} {σ : L2.St} {H : Hp} {Q : VK} (h : tE K mg F G (.isi a ty) σ H Q) : tCB (rIsi K) (tCons (tE K mg F G a) (tCons (tC (.ty ty.name)) tNil)) σ H Q := by
  obtain ⟨L, B, ρ, s, z, s', I, e, k⟩ := h
  simp only [evE] at e
  cases ha : evE F G a ρ s with
  | none => simp [ha] at e
  | some p =>
    obtain ⟨ra, s1⟩ := p
    simp only [ha] at e
    cases hx : ra.dat with
    | none => simp [hx] at e
    | some d =>
      simp only [hx, Option.some.injEq, Prod.mk.injEq] at e
      obtain ⟨e1, e2⟩ := e
      subst e1 e2
      refine ⟨L, B, ρ, s, ra, s1, I, ha, fun v B1 H1 I1 st1 q1 => ?_⟩
      have rd := q1.rd I1 hx
      have : ∃ t, tyD d = some t := by
        cases d <;> first | exact ⟨_, rfl⟩ | skip
        cases rd
      obtain ⟨t, ht⟩ := this
      exact ⟨v, .ty ty.name, .type t, .type ty.name, evIsi d ty, rfl, .ty _, ty_x I1.ext rd ht, kit_ty (isi_kit ht), k _ _ _ I1 st1 (Rep.bl _)⟩
/-! ### expressions -/
theorem isTrue_plainE {n : Nat} {e : Expr} {c : E} (h : cmpE n S e = some c) (h1 : ∀ a pos, e ≠ .UnaryOp .Not a pos) (h2 : ∀ o es pos, e ≠ .BoolOp o es pos) (h3 : ∀ a b c pos, e ≠ .IfExp a b c pos) (h4 : ∀ a o b pos, e ≠ .Compare a o b pos) (env : PySem.Env) :
    ∀ whole, isTrue e env whole = (do let v ← whole; standAt e.pos; holding [v] (truthy v)) := by
  intro whole
  cases n with
  | zero => simp [cmpE] at h
  | succ n =>
    cases e <;> first | rfl | (simp [cmpE] at h; done) | (exact absurd rfl (h2 _ _ _)) | (exact absurd rfl (h3 _ _ _ _)) | (exact absurd rfl (h4 _ _ _ _)) | skip
    rename_i op a pos
    cases op <;> first | rfl | (exact absurd rfl (h1 _ _))
structure Snd (F : Str → List Slot → DS → Option (R × DS)) (G : Str → Option PyData) (fns glos : List Str) (k n : Nat) : Prop where
  e : ∀ (S : Sx) (X : Cx) (e : Expr) (c : E), S.fns = fns → S.glos = glos → XR S X → Wd F G fns glos k X → cmpE n S e = some c → PE X e (tE X.K X.mg F G c)
  es : ∀ (S : Sx) (X : Cx) (e : List Expr) (c : Es), S.fns = fns → S.glos = glos → XR S X → Wd F G fns glos k X → cmpEs n S e = some c → PA X e (tEs X.K X.mg F G c)
  b : ∀ (S : Sx) (X : Cx) (o : BoolOp) (e : List Expr) (c : E) (pos : Pos), S.fns = fns → S.glos = glos → XR S X → Wd F G fns glos k X → cmpB n S o e = some c → PE X (.BoolOp o e pos) (tE X.K X.mg F G c)
  t : ∀ (S : Sx) (X : Cx) (e : Expr) (c : T), S.fns = fns → S.glos = glos → XR S X → Wd F G fns glos k X → cmpT n S e = some c → PT X e (tT X.K X.mg F G c)
  tb : ∀ (S : Sx) (X : Cx) (o : BoolOp) (e : List Expr) (c : T) (pos : Pos), S.fns = fns → S.glos = glos → XR S X → Wd F G fns glos k X → cmpTB n S o e = some c → PW X (.BoolOp o e pos) (tT X.K X.mg F G c)
  ts : ∀ (S : Sx) (X : Cx) (e : List Expr) (c : Ts), S.fns = fns → S.glos = glos → XR S X → Wd F G fns glos k X → cmpTs n S e = some c → PTs X e (tTs X.K X.mg F G c)
  o : ∀ (S : Sx) (X : Cx) (e : Option Expr) (c : O), S.fns = fns → S.glos = glos → XR S X → Wd F G fns glos k X → cmpO n S e = some c → PO X e (tO X.K X.mg F G c)
  it : ∀ (S : Sx) (X : Cx) (tg e : Expr) (c : Z.It), S.fns = fns → S.glos = glos → XR S X → Wd F G fns glos k X → cmpIt n S tg e = some c → PI X tg e (tIt X.K X.mg F G c)
theorem Wd.hu {fns glos : List Str} (W : Wd F G fns glos k X) : X.A.units + 65 < cLine := by have := W.room.un; omega
theorem snd_zero {fns glos : List Str} : Snd F G fns glos k 0 :=
  ⟨fun S X e c _ _ _ _ h => by simp [cmpE] at h, fun S X e c _ _ _ _ h => by simp [cmpEs] at h, fun S X o e c p _ _ _ _ h => by simp [cmpB] at h, fun S X e c _ _ _ _ h => by simp [cmpT] at h,
    fun S X o e c p _ _ _ _ h => by simp [cmpTB] at h, fun S X e c _ _ _ _ h => by simp [cmpTs] at h, fun S X e c _ _ _ _ h => by simp [cmpO] at h, fun S X t e c _ _ _ _ h => by simp [cmpIt] at h⟩
section
variable {fns glos : List Str} {n : Nat}
theorem snd_es (ih : Snd F G fns glos k n) (S : Sx) (X : Cx) (e : List Expr) (c : Es) (h1 : S.fns = fns) (h2 : S.glos = glos) (R : XR S X) (W : Wd F G fns glos k X) (h : cmpEs (n + 1) S e = some c) : PA X e (tEs X.K X.mg F G c) := by
  cases e with
  | nil =>
    simp only [cmpEs, Option.some.injEq] at h
    subst h
    exact pa_mono pa_nil fun _ _ _ => le_nil
  | cons e r =>
    simp only [cmpEs] at h
    cases q1 : cmpE n S e with
    | none => simp [q1] at h
    | some t =>
      simp only [q1] at h
      cases q2 : cmpEs n S r with
      | none => simp [q2] at h
      | some ts =>
        simp only [q2, Option.some.injEq] at h
        subst h
        exact pa_mono (pa_cons (ih.e S X e t h1 h2 R W q1) (ih.es S X r ts h1 h2 R W q2) (e_noStar q1 _ _)) fun _ _ _ => le_cons
theorem snd_b (ih : Snd F G fns glos k n) (S : Sx) (X : Cx) (o : BoolOp) (e : List Expr) (c : E) (pos : Pos) (h1 : S.fns = fns) (h2 : S.glos = glos) (R : XR S X) (W : Wd F G fns glos k X) (h : cmpB (n + 1) S o e = some c) : PE X (.BoolOp o e pos) (tE X.K X.mg F G c) := by
  match e, h with
  | [], h => simp [cmpB] at h
  | [a], h =>
    simp only [cmpB] at h
    exact pe_one (ih.e S X a c h1 h2 R W h)
  | a :: b :: r, h =>
    simp only [cmpB] at h
    cases q1 : cmpE n S a with
    | none => simp [q1] at h
    | some x =>
      simp only [q1] at h
      cases q2 : cmpB n S o (b :: r) with
      | none => simp [q2] at h
      | some y =>
        simp only [q2] at h
        cases o with
        | And =>
          cases h
          exact pe_mono (pe_and (ih.e S X a x h1 h2 R W q1) (ih.b S X .And (b :: r) y pos h1 h2 R W q2)) fun _ _ _ => le_andV
        | Or =>
          cases h
          exact pe_mono (pe_or (ih.e S X a x h1 h2 R W q1) (ih.b S X .Or (b :: r) y pos h1 h2 R W q2)) fun _ _ _ => le_orV
theorem snd_tb (ih : Snd F G fns glos k n) (S : Sx) (X : Cx) (o : BoolOp) (e : List Expr) (c : T) (pos : Pos) (h1 : S.fns = fns) (h2 : S.glos = glos) (R : XR S X) (W : Wd F G fns glos k X) (h : cmpTB (n + 1) S o e = some c) : PW X (.BoolOp o e pos) (tT X.K X.mg F G c) := by
  match e, h with
  | [], h => simp [cmpTB] at h
  | [a], h =>
    have h : cmpT n S a = some c := by simpa only [cmpTB] using h
    cases o with
    | And => exact pw_and1 (ih.t S X a c h1 h2 R W h)
    | Or => exact pw_or1 (ih.t S X a c h1 h2 R W h)
  | a :: b :: r, h =>
    simp only [cmpTB] at h
    cases q1 : cmpT n S a with
    | none => simp [q1] at h
    | some x =>
      simp only [q1] at h
      cases q2 : cmpTB n S o (b :: r) with
      | none => simp [q2] at h
      | some y =>
        simp only [q2] at h
        cases o with
        | And =>
          cases h
          exact pw_mono (pw_and (ih.t S X a x h1 h2 R W q1) (ih.tb S X .And (b :: r) y pos h1 h2 R W q2)) fun _ _ _ => le_and
        | Or =>
          cases h
          exact pw_mono (pw_or (ih.t S X a x h1 h2 R W q1) (ih.tb S X .Or (b :: r) y pos h1 h2 R W q2)) fun _ _ _ => le_or
theorem snd_ts (ih : Snd F G fns glos k n) (S : Sx) (X : Cx) (e : List Expr) (c : Ts) (h1 : S.fns = fns) (h2 : S.glos = glos) (R : XR S X) (W : Wd F G fns glos k X) (h : cmpTs (n + 1) S e = some c) : PTs X e (tTs X.K X.mg F G c) := by
  match e, h with
  | [], h =>
    simp only [cmpTs, Option.some.injEq] at h
    subst h
    exact pts_mono pts_nil fun _ _ _ => le_tsnil
  | [a], h =>
    simp only [cmpTs] at h
    cases q1 : cmpT n S a with
    | none => simp [q1] at h
    | some x =>
      simp only [q1, Option.some.injEq] at h
      subst h
      exact pts_mono (pts_one (ih.t S X a x h1 h2 R W q1)) fun _ _ _ => le_tsone
  | a :: b :: r, h => simp [cmpTs] at h
theorem snd_o (ih : Snd F G fns glos k n) (S : Sx) (X : Cx) (e : Option Expr) (c : O) (h1 : S.fns = fns) (h2 : S.glos = glos) (R : XR S X) (W : Wd F G fns glos k X) (h : cmpO (n + 1) S e = some c) : PO X e (tO X.K X.mg F G c) := by
  cases e with
  | none =>
    simp only [cmpO, Option.some.injEq] at h
    subst h
    exact po_mono po_none fun _ _ _ => le_none
  | some a =>
    simp only [cmpO] at h
    cases q1 : cmpE n S a with
    | none => simp [q1] at h
    | some x =>
      simp only [q1, Option.some.injEq] at h
      subst h
      exact po_mono (po_some (ih.e S X a x h1 h2 R W q1)) fun _ _ _ => le_some
theorem es1_of {n : Nat} {a : Expr} {x : E} (q : cmpEs n S [a] = some (.cons x .nil)) : ∃ m, cmpE m S a = some x := by
  cases n with
  | zero => simp [cmpEs] at q
  | succ n =>
    simp only [cmpEs] at q
    cases q1 : cmpE n S a with
    | none => simp [q1] at q
    | some y =>
      simp only [q1] at q
      cases n with
      | zero => simp [cmpEs] at q
      | succ n =>
        simp only [cmpEs, Option.some.injEq, Es.cons.injEq, and_true] at q
        subst q
        exact ⟨_, q1⟩
theorem es2_of {n : Nat} {a b : Expr} {x y : E} (q : cmpEs n S [a, b] = some (.cons x (.cons y .nil))) : (∃ m, cmpE m S a = some x) ∧ ∃ m, cmpE m S b = some y := by
  cases n with
  | zero => simp [cmpEs] at q
  | succ n =>
    simp only [cmpEs] at q
    cases q1 : cmpE n S a with
    | none => simp [q1] at q
    | some z =>
      simp only [q1] at q
      cases q2 : cmpEs n S [b] with
      | none => simp [q2] at q
      | some cs =>
        simp only [q2, Option.some.injEq, Es.cons.injEq] at q
        obtain ⟨e1, e2⟩ := q
        subst e1 e2
        exact ⟨⟨_, q1⟩, es1_of q2⟩
theorem snd_it (ih : Snd F G fns glos k n) (S : Sx) (X : Cx) (tg e : Expr) (c : Z.It) (h1 : S.fns = fns) (h2 : S.glos = glos) (R : XR S X) (W : Wd F G fns glos k X) (h : cmpIt (n + 1) S tg e = some c) : PI X tg e (tIt X.K X.mg F G c) := by
  have gen : ∀ c', cmpE n S e = some c' → c = .seq c' → PI X tg e (tIt X.K X.mg F G c) := fun c' q e1 => by
    subst e1
    exact pi_mono (pi_seq (ih.e S X e c' h1 h2 R W q)) fun _ _ _ => le_seq
  have plain : (match cmpE n S e with | some c => some (Z.It.seq c) | none => none) = some c → PI X tg e (tIt X.K X.mg F G c) := fun h => by
    cases q : cmpE n S e with
    | none => simp [q] at h
    | some c' =>
      simp only [q, Option.some.injEq] at h
      exact gen c' q h.symm
  unfold cmpIt at h
  split at h
  · rename_i f fp as cp
    split at h
    · rename_i hc
      obtain ⟨hf, hg, hn⟩ := hc
      subst hf
      split at h
      · rename_i a
        cases q : cmpEs n S [a] with
        | none => simp [q] at h
        | some cs =>
          simp only [q, Option.some.injEq] at h
          subst h
          have hcs : ∃ x, cs = .cons x .nil ∧ ∃ m, cmpE m S a = some x := by
            cases n with
            | zero => simp [cmpEs] at q
            | succ n =>
              simp only [cmpEs] at q
              cases q1 : cmpE n S a with
              | none => simp [q1] at q
              | some x =>
                simp only [q1] at q
                cases n with
                | zero => simp [cmpEs] at q
                | succ n => simp only [cmpEs, Option.some.injEq] at q; exact ⟨x, q.symm, _, q1⟩
          obtain ⟨x, rfl, m, hm⟩ := hcs
          exact pi_mono (pi_range1 (gl_of R hg) (W.blt _ (by decide +kernel)) (ih.es S X [a] _ h1 h2 R W q) (e_noStar hm _ _)) fun _ _ _ => le_range1
      · rename_i a b
        cases q : cmpEs n S [a, b] with
        | none => simp [q] at h
        | some cs =>
          simp only [q, Option.some.injEq] at h
          subst h
          have hcs : ∃ x y, cs = .cons x (.cons y .nil) ∧ ∃ m m', cmpE m S a = some x ∧ cmpE m' S b = some y := by
            cases n with
            | zero => simp [cmpEs] at q
            | succ n =>
              simp only [cmpEs] at q
              cases q1 : cmpE n S a with
              | none => simp [q1] at q
              | some x =>
                simp only [q1] at q
                cases n with
                | zero => simp [cmpEs] at q
                | succ n =>
                  simp only [cmpEs] at q
                  cases q2 : cmpE n S b with
                  | none => simp [q2] at q
                  | some y =>
                    simp only [q2] at q
                    cases n with
                    | zero => simp [cmpEs] at q
                    | succ n => simp only [cmpEs, Option.some.injEq] at q; exact ⟨x, y, q.symm, _, _, q1, q2⟩
          obtain ⟨x, y, rfl, m, m', hm, hm'⟩ := hcs
          exact pi_mono (pi_range2 (gl_of R hg) (W.blt _ (by decide +kernel)) (ih.es S X [a, b] _ h1 h2 R W q) (by rw [e_noStar hm, e_noStar hm']; rfl) (e_noStar hm' _ _)) fun _ _ _ => le_range2
      · cases h
    · split at h
      · rename_i hc
        obtain ⟨hf, hg, hn, ht⟩ := hc
        subst hf
        obtain ⟨es, kk, pp, rfl⟩ := tupE_eq ht
        split at h
        · rename_i a
          split at h
          · rename_i x q
            cases h
            obtain ⟨m, hm⟩ := es1_of q
            exact pi_mono (pi_enumA (gl_of R hg) (W.blt _ (by decide +kernel)) (ih.es S X [a] _ h1 h2 R W q) (by rw [e_noStar hm]; rfl)) fun _ _ _ => le_enum
          · cases h
        · cases h
      · split at h
        · rename_i hc
          obtain ⟨hf, hg, hn, ht⟩ := hc
          subst hf
          obtain ⟨es, kk, pp, rfl⟩ := tupE_eq ht
          split at h
          · rename_i a b
            split at h
            · rename_i x y q
              cases h
              obtain ⟨⟨m, hm⟩, m', hm'⟩ := es2_of q
              exact pi_mono (RZ.pi_zipA (gl_of R hg) (W.blt _ (by decide +kernel)) (ih.es S X [a, b] _ h1 h2 R W q) (e_noStar hm _ _) (by rw [e_noStar hm']; rfl)) fun _ _ _ => le_zip
            · cases h
          · cases h
        · exact plain h
  · exact plain h
theorem cmp_bool (o : COp) (a b : E) : ∀ ρ s r s', evE F G (.cmp o a b) ρ s = some (r, s') → ∃ c, r = .val (.bool c) := by
  intro ρ s r s' e
  simp only [evE] at e
  cases ha : evE F G a ρ s with
  | none => simp [ha] at e
  | some p =>
    obtain ⟨ra, s1⟩ := p
    simp only [ha] at e
    cases hb : evE F G b ρ s1 with
    | none => simp [hb] at e
    | some p =>
      obtain ⟨rb, s2⟩ := p
      simp only [hb] at e
      cases hx : ra.dat with
      | none => simp [hx] at e
      | some d =>
        cases hy : rb.dat with
        | none => simp [hx, hy] at e
        | some d' =>
          simp only [hx, hy] at e
          cases hz : evCmp o d d' with
          | none => simp [hz] at e
          | some z' =>
            simp only [hz, Option.some.injEq, Prod.mk.injEq] at e
            exact ⟨_, e.1.symm⟩
theorem chn_bool (o p : COp) (a b c : E) : ∀ ρ s r s', evE F G (.chn o p a b c) ρ s = some (r, s') → ∃ c, r = .val (.bool c) := by
  intro ρ s r s' e
  simp only [evE] at e
  cases ha : evE F G a ρ s with
  | none => simp [ha] at e
  | some q =>
    obtain ⟨ra, s1⟩ := q
    simp only [ha] at e
    cases hb : evE F G b ρ s1 with
    | none => simp [hb] at e
    | some q =>
      obtain ⟨rb, s2⟩ := q
      simp only [hb] at e
      cases hx : ra.dat with
      | none => simp [hx] at e
      | some d =>
        cases hy : rb.dat with
        | none => simp [hx, hy] at e
        | some d' =>
          simp only [hx, hy] at e
          cases hz : evCmp o d d' with
          | none => simp [hz] at e
          | some z' =>
            cases z' with
            | false =>
              simp only [hz, Option.some.injEq, Prod.mk.injEq] at e
              exact ⟨_, e.1.symm⟩
            | true =>
              simp only [hz] at e
              cases hc : evE F G c ρ s2 with
              | none => simp [hc] at e
              | some q =>
                obtain ⟨rc, s3⟩ := q
                simp only [hc] at e
                cases hw : rc.dat with
                | none => simp [hw] at e
                | some d3 =>
                  simp only [hw] at e
                  cases hu : evCmp p d' d3 with
                  | none => simp [hu] at e
                  | some u =>
                    simp only [hu, Option.some.injEq, Prod.mk.injEq] at e
                    exact ⟨_, e.1.symm⟩
theorem snd_t (ihs : ∀ m, m ≤ n → Snd F G fns glos k m) (S : Sx) (X : Cx) (e : Expr) (c : T) (h1 : S.fns = fns) (h2 : S.glos = glos) (R : XR S X) (W : Wd F G fns glos k X) (h : cmpT (n + 1) S e = some c) : PT X e (tT X.K X.mg F G c) := by
  have ih := ihs n (Nat.le_refl _)
  unfold cmpT at h
  split at h
  · rename_i a pos
    cases q1 : cmpT n S a with
    | none => simp [q1] at h
    | some x =>
      simp only [q1, Option.some.injEq] at h
      subst h
      exact pt_mono (pt_not (ih.t S X a x h1 h2 R W q1)) fun _ _ _ => le_not
  · rename_i op es pos
    exact (ih.tb S X op es c pos h1 h2 R W h).pt
  · cases h
  · rename_i n1 n2 n3
    cases q1 : cmpE n S e with
    | none => simp [q1] at h
    | some x =>
      simp only [q1, Option.some.injEq] at h
      subst h
      by_cases hc : ∃ a o b pos, e = .Compare a o b pos
      · obtain ⟨a, o, b, pos, rfl⟩ := hc
        cases n with
        | zero => simp [cmpE] at q1
        | succ n =>
          match o, b, q1 with
          | [op], [b], q1 =>
            simp only [cmpE] at q1
            cases q2 : cmpE n S a with
            | none => simp [q2] at q1
            | some x1 =>
              simp only [q2] at q1
              cases q3 : cmpE n S b with
              | none => simp [q3] at q1
              | some x2 =>
                simp only [q3, Option.some.injEq] at q1
                subst q1
                obtain ⟨r, o1, o2⟩ := opr (X := X) op W.hu
                have ih' := ihs n (Nat.le_succ _)
                exact pt_mono (pt_cmpR o1 (ih'.e S X a x1 h1 h2 R W q2) (ih'.e S X b x2 h1 h2 R W q3) (e_noMark q3 op)) fun σ H Q q => le_cmp o2 (le_eB (cmp_bool _ _ _) q)
          | [op, op'], [b, c], q1 =>
            simp only [cmpE] at q1
            cases q2 : cmpE n S a with
            | none => simp [q2] at q1
            | some x1 =>
              simp only [q2] at q1
              cases q3 : cmpE n S b with
              | none => simp [q3] at q1
              | some x2 =>
                simp only [q3] at q1
                cases q4 : cmpE n S c with
                | none => simp [q4] at q1
                | some x3 =>
                  simp only [q4, Option.some.injEq] at q1
                  subst q1
                  obtain ⟨r, o1, o2⟩ := opr (X := X) op W.hu
                  obtain ⟨r', o3, o4⟩ := opr (X := X) op' W.hu
                  have ih' := ihs n (Nat.le_succ _)
                  exact pt_mono (pt_chain o1 o3 (ih'.e S X a x1 h1 h2 R W q2) (ih'.e S X b x2 h1 h2 R W q3) (ih'.e S X c x3 h1 h2 R W q4) (by show behindInMarks op' c = false; exact e_noMark q4 op')) fun σ H Q q => le_chn o2 o4 (le_eB (chn_bool _ _ _ _ _) q)
          | [], _, q1 => simp [cmpE] at q1
          | _ :: _ :: _ :: _, _, q1 => simp [cmpE] at q1
          | [_], [], q1 => simp [cmpE] at q1
          | [_], _ :: _ :: _, q1 => simp [cmpE] at q1
          | [_, _], [], q1 => simp [cmpE] at q1
          | [_, _], [_], q1 => simp [cmpE] at q1
          | [_, _], _ :: _ :: _ :: _, q1 => simp [cmpE] at q1
      · exact pt_mono (pt_truth (ih.e S X e x h1 h2 R W q1) (isTrue_plainE q1 (fun a pos z => n1 a pos z) (fun o es pos z => n2 o es pos z) (fun a b c pos z => n3 a b c pos z) (fun a o b pos z => hc ⟨a, o, b, pos, z⟩) X.env)) fun _ _ _ => le_e
end
end
end Z

namespace Z
open PySem L2
section
variable {F : Str → List Slot → DS → Option (R × DS)} {G : Str → Option PyData} {k : Nat} {fns glos : List Str} {n : Nat}
theorem snd_name (S : Sx) (X : Cx) (x : Str) (pos : Pos) (c : E) (h1 : S.fns = fns) (h2 : S.glos = glos) (R : XR S X) (W : Wd F G fns glos k X) (h : cmpE (n + 1) S (.Name x pos) = some c) : PE X (.Name x pos) (tE X.K X.mg F G c) := by
  simp only [cmpE] at h
  split at h
  · rename_i hok
    obtain ⟨d1, d2, d3⟩ := ok_dbg hok
    split at h
    · rename_i hv
      cases hi : idx S.N x with
      | none => simp [hi] at h
      | some i =>
        simp only [hi, Option.some.injEq] at h
        subst h
        exact pe_mono (pe_var (by rw [R.N]; exact idx_get hi) (vis_of R hv) d1 d2) fun _ _ _ => le_var
    · split at h
      · rename_i hg
        split at h
        · rename_i hf
          simp only [Option.some.injEq] at h
          subst h
          rw [h1] at hf
          obtain ⟨a, fd, ps, q1, _⟩ := W.fns x hf
          exact pe_mono (pe_glob (v := .ref a) (gl_of R hg) q1 rfl d1) fun _ _ _ => le_fnv q1
        · split at h
          · rename_i hf
            simp only [Option.some.injEq] at h
            subst h
            rw [h2] at hf
            obtain ⟨u, v, q1, q2, q3⟩ := W.glos x hf
            exact pe_mono (pe_glob (gl_of R hg) q1 q2 d1) fun _ _ _ => le_glo q3
          · cases h
      · cases h
  · cases h
theorem pe_cst {cc : Const} {c : Cst} {X : Cx} {kk : Nat} {pos : Pos} (h : cst cc = some c) : PE X (.Constant cc kk pos) (tC c.v) := by
  cases cc <;> first | (simp [cst] at h; done) | skip
  · cases h; exact pe_non
  · cases h; exact pe_bl
  · cases h; exact pe_int
  · cases h; exact pe_str
theorem pe_bltC {X : Cx} {x : Str} {u : Value} {r : List V → Hp → VK → Prop} {e : Expr} {es : List Expr} {t : TA} {p pos : Pos} (hu : bootBuiltins x = some u) (hr : (∃ id, u = .builtin id ∧ CallR X (.builtin id) r) ∨ ∃ T, u = .type T ∧ CallR X (.type T) r)
    (hg : Gl X x) (hm : X.mg x = none) (ha : PA X (e :: es) t) (hn : x ≠ "__name__") (hdb : (x == ("__debug__" : Str)) = false)
    (he : starEach (e :: es) X.env = (false, eval e X.env) :: starEach es X.env) (hpl : (backTo pos (starEach es X.env)).any (·.1) = false) : PE X (.Call (.Name x p) (e :: es) [] pos) (tCB r t) := by
  rcases hr with ⟨id, rfl, hr⟩ | ⟨T, rfl, hr⟩
  · exact pe_callB hr hg hm hu ha hn hdb he hpl
  · exact pe_callTy hr hg hm hu ha hn hdb he hpl
theorem es_parts {S : Sx} {e : Expr} {es : List Expr} {cs : Es} (h : cmpEs n S (e :: es) = some cs) : (∃ m c, cmpE m S e = some c) ∧ ∃ m c, cmpEs m S es = some c := by
  cases n with
  | zero => simp [cmpEs] at h
  | succ n =>
    simp only [cmpEs] at h
    cases q1 : cmpE n S e with
    | none => simp [q1] at h
    | some x =>
      simp only [q1] at h
      cases q2 : cmpEs n S es with
      | none => simp [q2] at h
      | some y => exact ⟨⟨_, _, q1⟩, _, _, q2⟩
theorem snd_callE (ih : Snd F G fns glos k n) (S : Sx) (X : Cx) (f : Str) (p pos : Pos) (a : Expr) (as : List Expr) (c : E) (h1 : S.fns = fns) (h2 : S.glos = glos) (R : XR S X) (W : Wd F G fns glos k X) (h : cmpE (n + 1) S (.Call (.Name f p) (a :: as) [] pos) = some c) :
    PE X (.Call (.Name f p) (a :: as) [] pos) (tE X.K X.mg F G c) := by
  simp only [cmpE] at h
  split at h
  · rename_i hok
    obtain ⟨hok, hg⟩ := hok
    obtain ⟨d1, d2, d3⟩ := ok_dbg hok
    split at h
    · rename_i hf
      cases q : cmpEs n S (a :: as) with
      | none => simp [q] at h
      | some cs =>
        simp only [q, Option.some.injEq] at h
        subst h
        rw [h1] at hf
        obtain ⟨ad, fd, ps, q1, q2, q3, q4⟩ := W.fns f hf
        obtain ⟨⟨m, x, hm⟩, m', y, hm'⟩ := es_parts q
        exact pe_mono (pe_call q4 W.room (gl_of R hg) q1 q2 q3 .nil (show Passes CX0 X (fun _ _ _ => False) from pass0) (ih.es S X _ cs h1 h2 R W q) d1 (e_noStar hm _ _) (es_noStar hm')) fun _ _ _ => le_call
    · split at h
      · rename_i hf
        subst hf
        split at h
        · rename_i t tp
          cases q : tyOf t with
          | none => simp [q] at h
          | some ty =>
            simp only [q] at h
            split at h
            · rename_i ht
              cases q2 : cmpE n S a with
              | none => simp [q2] at h
              | some x =>
                simp only [q2, Option.some.injEq] at h
                subst h
                obtain ⟨e1, e2, e3⟩ := tyOf_name q
                obtain ⟨z1, z2, z3⟩ := ok_dbg ht.2
                have pt : PE X (.Name t tp) (tC (.ty ty.name)) := pe_bltn (gl_of R ht.1) (W.blt _ e2) e3 rfl z3 z1
                have pa : PA X [a, .Name t tp] (tCons (tE X.K X.mg F G x) (tCons (tC (.ty ty.name)) tNil)) := pa_cons (ih.e S X a x h1 h2 R W q2) (pa_cons pt pa_nil) (e_noStar q2 _ _)
                exact pe_mono (pe_callB call_isi (gl_of R hg) (W.blt _ (by decide +kernel)) (by decide +kernel) pa d3 d1 (e_noStar q2 _ _) rfl) fun _ _ _ => le_isi
            · cases h
        · cases h
      · cases q : bltOf f (as.length + 1) with
        | none => simp [q] at h
        | some b =>
          simp only [q] at h
          cases q2 : cmpEs n S (a :: as) with
          | none => simp [q2] at h
          | some cs =>
            simp only [q2, Option.some.injEq] at h
            subst h
            obtain ⟨b1, u, r, b2, b3, b4⟩ := bltr (X := X) q R.calm
            obtain ⟨⟨m, x, hm⟩, m', y, hm'⟩ := es_parts q2
            exact pe_mono (pe_bltC b2 b4 (gl_of R hg) (W.blt _ b1) (ih.es S X _ cs h1 h2 R W q2) d3 d1 (e_noStar hm _ _) (es_noStar hm')) fun _ _ _ => le_blt b3
  · cases h
theorem subs_mem {a b : List Nat} (h : subs a b = true) : ∀ i ∈ a, i ∈ b := by
  intro i hi
  unfold subs at h
  rw [List.all_eq_true] at h
  have q := h i hi
  rw [List.any_eq_true] at q
  obtain ⟨j, hj, e⟩ := q
  have e' : i = j := by simpa using e
  rw [e']; exact hj
theorem snd_lcE (ih : Snd F G fns glos k n) (S : Sx) (X : Cx) (elt tg it : Expr) (ifs : List Expr) (scope : Scope) (pos : Pos) (c : E) (h1 : S.fns = fns) (h2 : S.glos = glos) (R : XR S X) (W : Wd F G fns glos k X)
    (h : cmpE (n + 1) S (.ListComp elt [⟨tg, it, ifs, 0⟩] scope pos) = some c) : ∃ (g : Tg) (i : Z.It) (ct : Ts) (ce : E), c = .lc ce g i ct ((ownOf S.N scope.names).map (·.2)) ∧ (∀ j ∈ g.slots, j ∈ (ownOf S.N scope.names).map (·.2)) ∧ cmpIt n S tg it = some i ∧ PI X tg it (tIt X.K X.mg F G i) ∧ BlkOk X.N X.env.scope scope (ownOf S.N scope.names) ∧
      (∀ (s : Shared) (H : Hp) (C : Addr) (cl : List (Str × Addr)) (fp : List Addr), PG (X.blk s H scope (compEnvC scope cl C X.env) fp) tg (gTg X.K g)) ∧ (∀ (s : Shared) (H : Hp) (C : Addr) (cl : List (Str × Addr)) (fp : List Addr), PTs (X.blk s H scope (compEnvC scope cl C X.env) fp) ifs (tTs X.K X.mg F G ct)) ∧
      (∀ (s : Shared) (H : Hp) (C : Addr) (cl : List (Str × Addr)) (fp : List Addr), PE (X.blk s H scope (compEnvC scope cl C X.env) fp) elt (tE X.K X.mg F G ce)) := by
  simp only [cmpE] at h
  split at h
  · rename_i hb
    cases q1 : cmpIt n S tg it with
    | none => simp [q1] at h
    | some i =>
      simp only [q1] at h
      cases q2 : cmpTg n { S with sc := relS scope S.sc, cok := fun x => scope.names.lookup x == some .cell } tg with
      | none => simp [q2] at h
      | some g =>
        simp only [q2] at h
        split at h
        · rename_i hs
          cases q3 : cmpTs n { S with sc := relS scope S.sc, cok := fun x => scope.names.lookup x == some .cell } ifs with
          | none => simp [q3] at h
          | some ct =>
            simp only [q3] at h
            cases q4 : cmpE n { S with sc := relS scope S.sc, cok := fun x => scope.names.lookup x == some .cell } elt with
            | none => simp [q4] at h
            | some ce =>
              simp only [q4, Option.some.injEq] at h
              have RB : ∀ (s : Shared) (H : Hp) (C : Addr) (cl : List (Str × Addr)) (fp : List Addr), XR { S with sc := relS scope S.sc, cok := fun x => scope.names.lookup x == some .cell } (X.blk s H scope (compEnvC scope cl C X.env) fp) := fun s H C cl fp =>
                ⟨R.N, R.nd, by show relS scope X.env.scope = relS scope S.sc; rw [R.sc], R.calm, fun x hx => hx⟩
              have WB : ∀ (s : Shared) (H : Hp) (C : Addr) (cl : List (Str × Addr)) (fp : List Addr), Wd F G fns glos k (X.blk s H scope (compEnvC scope cl C X.env) fp) := fun s H C cl fp => ⟨W.room, W.blt, W.fns, W.glos⟩
              exact ⟨g, i, ct, ce, h.symm, subs_mem hs, rfl, ih.it S X tg it i h1 h2 R W q1, by rw [R.N, R.sc]; exact blkOk_by hb,
                fun s H C cl fp => (tg_ok n).1 _ _ tg g (RB s H C cl fp) q2, fun s H C cl fp => ih.ts { S with sc := relS scope S.sc, cok := fun x => scope.names.lookup x == some .cell } _ ifs ct h1 h2 (RB s H C cl fp) (WB s H C cl fp) q3, fun s H C cl fp => ih.e { S with sc := relS scope S.sc, cok := fun x => scope.names.lookup x == some .cell } _ elt ce h1 h2 (RB s H C cl fp) (WB s H C cl fp) q4⟩
        · cases h
  · cases h
theorem snd_e (ih : Snd F G fns glos k n) (S : Sx) (X : Cx) (e : Expr) (c : E) (h1 : S.fns = fns) (h2 : S.glos = glos) (R : XR S X) (W : Wd F G fns glos k X) (h : cmpE (n + 1) S e = some c) : PE X e (tE X.K X.mg F G c) := by
  have h0 := h
  unfold cmpE at h
  split at h
  · exact snd_name S X _ _ c h1 h2 R W h0
  · rename_i cc kk pos
    cases q : cst cc with
    | none => simp [q] at h
    | some c' =>
      simp only [q, Option.some.injEq] at h
      subst h
      exact pe_mono (pe_cst q) fun _ _ _ => le_cst
  · rename_i es kk pos
    cases q : cmpEs n S es with
    | none => simp [q] at h
    | some cs =>
      simp only [q, Option.some.injEq] at h
      subst h
      exact pe_mono (pe_tup (ih.es S X es cs h1 h2 R W q)) fun _ _ _ => le_tup
  · rename_i es pos
    cases q : cmpEs n S es with
    | none => simp [q] at h
    | some cs =>
      simp only [q, Option.some.injEq] at h
      subst h
      exact pe_mono (pe_lst (ih.es S X es cs h1 h2 R W q)) fun _ _ _ => le_lst
  · rename_i a op b pos
    cases q0 : bop op with
    | none => simp [q0] at h
    | some o =>
      simp only [q0] at h
      cases q1 : cmpE n S a with
      | none => simp [q1] at h
      | some x =>
        simp only [q1] at h
        cases q2 : cmpE n S b with
        | none => simp [q2] at h
        | some y =>
          simp only [q2, Option.some.injEq] at h
          subst h
          obtain ⟨r, o1, o2⟩ := bopr (X := X) q0
          exact pe_mono (pe_op o1 (ih.e S X a x h1 h2 R W q1) (ih.e S X b y h1 h2 R W q2)) fun _ _ _ => le_bin o2
  · rename_i a pos
    cases q1 : cmpE n S a with
    | none => simp [q1] at h
    | some x =>
      simp only [q1, Option.some.injEq] at h
      subst h
      exact pe_mono (pe_un un_neg (ih.e S X a x h1 h2 R W q1)) fun _ _ _ => le_neg
  · rename_i a pos
    cases q1 : cmpE n S a with
    | none => simp [q1] at h
    | some x =>
      simp only [q1, Option.some.injEq] at h
      subst h
      exact pe_mono (pe_not (ih.e S X a x h1 h2 R W q1)) fun _ _ _ => le_notV
  · rename_i a op b pos
    cases q1 : cmpE n S a with
    | none => simp [q1] at h
    | some x =>
      simp only [q1] at h
      cases q2 : cmpE n S b with
      | none => simp [q2] at h
      | some y =>
        simp only [q2, Option.some.injEq] at h
        subst h
        obtain ⟨r, o1, o2⟩ := opr (X := X) op W.hu
        exact pe_mono (pe_cmpR o1 (ih.e S X a x h1 h2 R W q1) (ih.e S X b y h1 h2 R W q2) (e_noMark q2 op)) fun _ _ _ => le_cmp o2
  · rename_i a op op' b c' pos
    cases q1 : cmpE n S a with
    | none => simp [q1] at h
    | some x =>
      simp only [q1] at h
      cases q2 : cmpE n S b with
      | none => simp [q2] at h
      | some y =>
        simp only [q2] at h
        cases q3 : cmpE n S c' with
        | none => simp [q3] at h
        | some z =>
          simp only [q3, Option.some.injEq] at h
          subst h
          obtain ⟨r, o1, o2⟩ := opr (X := X) op W.hu
          obtain ⟨r', o3, o4⟩ := opr (X := X) op' W.hu
          exact pe_mono (pe_chain o1 o3 (ih.e S X a x h1 h2 R W q1) (ih.e S X b y h1 h2 R W q2) (ih.e S X c' z h1 h2 R W q3) (by show behindInMarks op' c' = false; exact e_noMark q3 op')) fun _ _ _ => le_chn o2 o4
  · rename_i op es pos
    exact ih.b S X op es c pos h1 h2 R W h
  · rename_i t a b pos
    cases q0 : cmpT n S t with
    | none => simp [q0] at h
    | some w =>
      simp only [q0] at h
      cases q1 : cmpE n S a with
      | none => simp [q1] at h
      | some x =>
        simp only [q1] at h
        cases q2 : cmpE n S b with
        | none => simp [q2] at h
        | some y =>
          simp only [q2, Option.some.injEq] at h
          subst h
          exact pe_mono (pe_ifExp (ih.t S X t w h1 h2 R W q0) (ih.e S X a x h1 h2 R W q1) (ih.e S X b y h1 h2 R W q2)) fun _ _ _ => le_ite
  · rename_i a i pos
    split at h
    · rename_i lo hi p2
      cases q1 : cmpE n S a with
      | none => simp [q1] at h
      | some x =>
        simp only [q1] at h
        cases q2 : cmpO n S lo with
        | none => simp [q2] at h
        | some l =>
          simp only [q2] at h
          cases q3 : cmpO n S hi with
          | none => simp [q3] at h
          | some u =>
            simp only [q3, Option.some.injEq] at h
            subst h
            exact pe_mono (pe_slice sl_z (ih.e S X a x h1 h2 R W q1) (ih.o S X lo l h1 h2 R W q2) (ih.o S X hi u h1 h2 R W q3)) fun _ _ _ => le_sl
    · cases q1 : cmpE n S a with
      | none => simp [q1] at h
      | some x =>
        simp only [q1] at h
        cases q2 : cmpE n S i with
        | none => simp [q2] at h
        | some y =>
          simp only [q2, Option.some.injEq] at h
          subst h
          exact pe_mono (pe_ix ix_2 (ih.e S X a x h1 h2 R W q1) (ih.e S X i y h1 h2 R W q2) (e_plainIx q2)) fun _ _ _ => le_ix opd_ix
  · exact snd_callE ih S X _ _ _ _ _ c h1 h2 R W h0
  · rename_i elt tg it ifs scope pos
    obtain ⟨g, i, ct, ce, rfl, hs, hi, p1, p2, p3, p4, p5⟩ := snd_lcE ih S X elt tg it ifs scope pos c h1 h2 R W h0
    exact pe_mono (pe_lc R.calm (by rw [R.N]; exact R.nd) p1 p2 p3 p4 p5 (it_noFold hi X.env)) fun _ _ _ => le_lc hs
  · cases h
theorem snd_all : ∀ n m, m ≤ n → Snd F G fns glos k m := by
  intro n
  induction n with
  | zero =>
    intro m hm
    have : m = 0 := by omega
    subst this
    exact snd_zero
  | succ n ih =>
    intro m hm
    by_cases c : m ≤ n
    · exact ih m c
    · have : m = n + 1 := by omega
      subst this
      have i0 := ih n (Nat.le_refl _)
      exact ⟨snd_e i0, snd_es i0, snd_b i0, snd_t ih, snd_tb i0, snd_ts i0, snd_o i0, snd_it i0⟩
theorem sndN (n : Nat) : Snd F G fns glos k n := snd_all n n (Nat.le_refl _)
end
end Z

namespace Z
open PySem L2
/-! ## statements -/
inductive Out where
  | nx (ρ : Env) (s : DS)
  | rt (r : R) (s : DS)
  | bk (ρ : Env) (s : DS)
  | ct (ρ : Env) (s : DS)
def R.ret : R → R
  | .held _ ds => .fresh ds
  | r => r
def frzE : List Nat → Env → Env
  | [], ρ => ρ
  | i :: is, ρ => match ρ[i]? with
    | some (.own ds) => frzE is (ρ.set i (.val (.list ds)))
    | _ => frzE is ρ
def idxOfI : List Int → Int → Option Nat
  | [], _ => none
  | x :: xs, k => if x = k then some 0 else match idxOfI xs k with
    | some j => some (j + 1)
    | none => none
def evMt : Mt → List PyData → List PyData → Option (List PyData)
  | .append, xs, [d] => if xs.length < sizeLine then some (xs ++ [d]) else none
  | .extend, xs, [.list ys] => if xs.length + ys.length ≤ sizeLine then some (xs ++ ys) else none
  | .insert, xs, [.int i, d] => if xs.length < sizeLine ∧ 0 ≤ i ∧ i < 2 ^ 63 then some (xs.take i.toNat ++ [d] ++ xs.drop i.toNat) else none
  | .remove, xs, [.int k] => match asInts xs with
    | some ns => match idxOfI ns k with
      | some j => some ((ns.eraseIdx j).map .int)
      | none => none
    | none => none
  | _, _, _ => none
def forLoop (step : PyData → Env → DS → Option Out) : List PyData → Env → DS → Option Out
  | [], ρ, s => some (.nx ρ s)
  | x :: xs, ρ, s => match step x ρ s with
    | some (.nx ρ' s') => forLoop step xs ρ' s'
    | some (.ct ρ' s') => forLoop step xs ρ' s'
    | some (.bk ρ' s') => some (.nx ρ' s')
    | some (.rt r s') => some (.rt r s')
    | none => none
def whileLoop (test : Env → DS → Option (Bool × DS)) (body : Env → DS → Option Out) : Nat → Env → DS → Option Out
  | 0, _, _ => none
  | n + 1, ρ, s => match test ρ s with
    | some (false, s1) => some (.nx ρ s1)
    | some (true, s1) => match body ρ s1 with
      | some (.nx ρ' s') => whileLoop test body n ρ' s'
      | some (.ct ρ' s') => whileLoop test body n ρ' s'
      | some (.bk ρ' s') => some (.nx ρ' s')
      | some (.rt r s') => some (.rt r s')
      | none => none
    | none => none
def whileFuel : Nat := 1000000
section
variable (F : Str → List Slot → DS → Option (R × DS)) (G : Str → Option PyData)
mutual
def evS : S → Env → DS → Option Out
  | .pass, ρ, s => some (.nx ρ s)
  | .asg tg e, ρ, s => match evE F G e ρ s with
    | some (r, s1) => match tg with
      | .name i => match r.slot with
        | some sl => some (.nx (ρ.set i sl) s1)
        | none => none
      | .tup ts => match r with
        | .val d => match asgTg (.tup ts) d ρ with
          | some ρ' => some (.nx ρ' s1)
          | none => none
        | _ => none
    | none => none
  | .par i j a b, ρ, s => match evE F G a ρ s with
    | some (ra, s1) => match evE F G b ρ s1 with
      | some (rb, s2) => match ra.slot, rb.slot with
        | some x, some y => some (.nx ((ρ.set i x).set j y) s2)
        | _, _ => none
      | none => none
    | none => none
  | .par3 i j l a b c, ρ, s => match evE F G a ρ s with
    | some (ra, s1) => match evE F G b ρ s1 with
      | some (rb, s2) => match evE F G c ρ s2 with
        | some (rc, s3) => match ra.slot, rb.slot, rc.slot with
          | some x, some y, some z => some (.nx (((ρ.set i x).set j y).set l z) s3)
          | _, _, _ => none
        | none => none
      | none => none
    | none => none
  | .setix i k e, ρ, s => match evE F G e ρ s with
    | some (r, s1) => match r.emb with
      | some d => match ρ[i]? with
        | some (.own ds) => match evE F G k ρ s1 with
          | some (.val (.int n), s2) => match ixN ds.length n with
            | some j => some (.nx (ρ.set i (.own (ds.set j d))) s2)
            | none => none
          | _ => none
        | _ => none
      | none => none
    | none => none
  | .aug i o e, ρ, s => match ρ[i]? with
    | some (.val (.int a)) => match evE F G e ρ s with
      | some (.val (.int b), s1) => match o with
        | .add => some (.nx (ρ.set i (.val (.int (a + b)))) s1)
        | .sub => some (.nx (ρ.set i (.val (.int (a - b)))) s1)
        | _ => none
      | _ => none
    | _ => none
  | .expr e, ρ, s => match evE F G e ρ s with
    | some (_, s1) => some (.nx ρ s1)
    | none => none
  | .meth m i es, ρ, s => match ρ[i]? with
    | some (.own _) => match evEs F G es ρ s with
      | some (rs, s1) => match embs rs with
        | some as => match ρ[i]? with
          | some (.own ds) => match evMt m ds as with
            | some ds' => some (.nx (ρ.set i (.own ds')) s1)
            | none => none
          | _ => none
        | none => none
      | none => none
    | _ => none
  | .ret e, ρ, s => match evE F G e ρ s with
    | some (r, s1) => some (.rt r.ret s1)
    | none => none
  | .retN, _, s => some (.rt (.val .none) s)
  | .if t a b, ρ, s => match evT F G t ρ s with
    | some (true, s1) => evSs a ρ s1
    | some (false, s1) => evSs b ρ s1
    | none => none
  | .for tg it b, ρ, s => match evIt F G it ρ s with
    | some ((xs, false), s1) => forLoop (fun x ρ s => match asgTg tg x ρ with
      | some ρ' => evSs b ρ' s
      | none => none) xs ρ s1
    | _ => none
  | .while t b, ρ, s => whileLoop (fun ρ s => evT F G t ρ s) (fun ρ s => evSs b ρ s) whileFuel ρ s
  | .brk, ρ, s => some (.bk ρ s)
  | .cont, ρ, s => some (.ct ρ s)
  | .never, _, _ => none
def evSs : Ss → Env → DS → Option Out
  | .nil, ρ, s => some (.nx ρ s)
  | .cons c cs, ρ, s => match evS c ρ s with
    | some (.nx ρ' s') => evSs cs ρ' s'
    | o => o
  | .frz is cs, ρ, s => evSs cs (frzE is ρ) s
end
end
section
variable (K : PySem.W.Frag) (mg : Str → Option Value) (F : Str → List Slot → DS → Option (R × DS)) (G : Str → Option PyData)
structure RlS (L : Addr) (B0 H0 B H : Hp) (σ : L2.St) (ρ : Z.Env) (s : DS) : Prop where
  rl : Rl K mg L B H σ ρ s
  st : Stp L B0 H0 B H
  nw : ∀ (i : Nat) (ds : List PyData) (l : Addr), ρ[i]? = some (.own ds) → σ[i]? = some (some (.ref l)) → H0 l = none
def OutR (L : Addr) (B0 H0 : Hp) (D : Ends) : Out → Prop
  | .nx ρ s => ∀ σ B H, RlS K mg L B0 H0 B H σ ρ s → D.nx σ H
  | .bk ρ s => ∀ σ B H, RlS K mg L B0 H0 B H σ ρ s → D.bk σ H
  | .ct ρ s => ∀ σ B H, RlS K mg L B0 H0 B H σ ρ s → D.ct σ H
  | .rt r s => ∀ v B H, Rl K mg L B H [] [] s → Stp L B0 H0 B H → RepR K mg L H0 B H [] [] v r → D.rt v H
def tS (c : S) : TS := fun D σ H => ∃ L B0 H0 B ρ s out, RlS K mg L B0 H0 B H σ ρ s ∧ evS F G c ρ s = some out ∧ OutR K mg L B0 H0 D out
def tSs (c : Ss) : TS := fun D σ H => ∃ L B0 H0 B ρ s out, RlS K mg L B0 H0 B H σ ρ s ∧ evSs F G c ρ s = some out ∧ OutR K mg L B0 H0 D out
end
section
variable {K : PySem.W.Frag} {mg : Str → Option Value} {F : Str → List Slot → DS → Option (R × DS)} {G : Str → Option PyData} {L : Addr} {B0 H0 B H B' H' H1 : Hp} {σ : L2.St} {ρ : Z.Env} {s s1 s2 s' : DS} {D : Ends}
/-- behind an expression -/
theorem RlS.step (I : RlS K mg L B0 H0 B H σ ρ s) (I' : Rl K mg L B' H' σ ρ s') (st : Stp L B H B' H') : RlS K mg L B0 H0 B' H' σ ρ s' := ⟨I', I.st.trans st, I.nw⟩
theorem Stp.rebase {B3 H3 : Hp} (a : Stp L B0 H0 B3 H3) (b : Stp L B3 H0 B H) : Stp L B0 H0 B H :=
  ⟨a.b.trans b.b, b.h, fun x o q => by
    rcases b.n x o q with z | z
    · exact a.n x o z
    · exact .inr z, b.l, b.c⟩
theorem RlS.rebase {B3 H3 : Hp} (I : RlS K mg L B3 H0 B H σ ρ s) (a : Stp L B0 H0 B3 H3) : RlS K mg L B0 H0 B H σ ρ s := ⟨I.rl, Stp.rebase a I.st, I.nw⟩
/-- a slot takes what an expression gave -/
theorem Rl.setR {v : V} {r : R} {sl : Slot} (I : Rl K mg L B H σ ρ s) (i : Nat) (q : RepR K mg L H1 B H σ ρ v r) (e : r.slot = some sl) : Rl K mg L B H (σ.set i (some v)) (ρ.set i sl) s := by
  cases r with
  | val d => cases e; exact I.setVal i q
  | held _ _ => cases e
  | fresh ds =>
    cases e
    obtain ⟨l, vs, rfl, h0, h1, h2, h3, h4, h5⟩ := q
    have get : ∀ (j : Nat), j ≠ i → (σ.set i (some (V.ref l)))[j]? = σ[j]? := fun j h => List.getElem?_set_ne (Ne.symm h)
    have key : ∀ (j : Nat) (x : Slot), (ρ.set i (.own ds))[j]? = some x → (j = i ∧ x = .own ds ∧ i < ρ.length) ∨ (j ≠ i ∧ ρ[j]? = some x) := fun j x h => by
      by_cases e : i = j
      · subst e; exact .inl ⟨rfl, set_same h, set_lt h⟩
      · rw [List.getElem?_set_ne e] at h; exact .inr ⟨Ne.symm e, h⟩
    refine ⟨I.ext, I.nL, I.drw, by simp [I.len], fun j d' h => ?_, fun j es h => ?_, fun j h => ?_, fun j f h => ?_, fun a b es fs m n q1 q2 q3 q4 => ?_⟩
    · rcases key j _ h with ⟨_, e, _⟩ | ⟨n, h⟩
      · cases e
      · rw [get _ n]; exact I.val j d' h
    · rcases key j _ h with ⟨rfl, e, hl⟩ | ⟨n, h⟩
      · cases e
        exact ⟨l, vs, by rw [List.getElem?_set_self (by rw [I.len]; exact hl)], h1, h2, h3, h4⟩
      · rw [get _ n]; exact I.own j es h
    · rcases key j _ h with ⟨_, e, _⟩ | ⟨n, h⟩
      · cases e
      · rw [get _ n]; exact I.hdl j h
    · rcases key j _ h with ⟨_, e, _⟩ | ⟨n, h⟩
      · cases e
      · rw [get _ n]; exact I.fn j f h
    · rcases key a _ q1 with ⟨ea, e, hl⟩ | ⟨na, z1⟩
      · rcases key b _ q2 with ⟨eb, _, _⟩ | ⟨nb, z2⟩
        · exact n (ea.trans eb.symm)
        · rw [ea, List.getElem?_set_self (by rw [I.len]; exact hl)] at q3
          cases q3
          rw [get _ nb] at q4
          exact h5 b fs z2 q4
      · rcases key b _ q2 with ⟨eb, e, hl⟩ | ⟨nb, z2⟩
        · rw [eb, List.getElem?_set_self (by rw [I.len]; exact hl)] at q4
          cases q4
          rw [get _ na] at q3
          exact h5 a es z1 q3
        · rw [get _ na] at q3
          rw [get _ nb] at q4
          exact I.inj a b es fs m n z1 z2 q3 q4
  | hdl =>
    cases e
    have e : v = .ref L := q
    subst e
    have get : ∀ (j : Nat), j ≠ i → (σ.set i (some (V.ref L)))[j]? = σ[j]? := fun j h => List.getElem?_set_ne (Ne.symm h)
    have key : ∀ (j : Nat) (x : Slot), (ρ.set i .hdl)[j]? = some x → (j = i ∧ x = .hdl ∧ i < ρ.length) ∨ (j ≠ i ∧ ρ[j]? = some x) := fun j x h => by
      by_cases e : i = j
      · subst e; exact .inl ⟨rfl, set_same h, set_lt h⟩
      · rw [List.getElem?_set_ne e] at h; exact .inr ⟨Ne.symm e, h⟩
    refine ⟨I.ext, I.nL, I.drw, by simp [I.len], fun j d' h => ?_, fun j es h => ?_, fun j h => ?_, fun j f h => ?_, fun a b es fs m n q1 q2 q3 q4 => ?_⟩
    · rcases key j _ h with ⟨_, e, _⟩ | ⟨n, h⟩
      · cases e
      · rw [get _ n]; exact I.val j d' h
    · rcases key j _ h with ⟨rfl, e, hl⟩ | ⟨n, h⟩
      · cases e
      · rw [get _ n]; exact I.own j es h
    · rcases key j _ h with ⟨rfl, e, hl⟩ | ⟨n, h⟩
      · rw [List.getElem?_set_self (by rw [I.len]; exact hl)]
      · rw [get _ n]; exact I.hdl j h
    · rcases key j _ h with ⟨_, e, _⟩ | ⟨n, h⟩
      · cases e
      · rw [get _ n]; exact I.fn j f h
    · rcases key a _ q1 with ⟨_, e, _⟩ | ⟨na, q1⟩
      · cases e
      · rcases key b _ q2 with ⟨_, e, _⟩ | ⟨nb, q2⟩
        · cases e
        · rw [get _ na] at q3
          rw [get _ nb] at q4
          exact I.inj a b es fs m n q1 q2 q3 q4
  | fn g =>
    cases e
    obtain ⟨ad, rfl, hm⟩ := (show ∃ a, v = V.ref a ∧ mg g = some (.ref a) from q)
    have get : ∀ (j : Nat), j ≠ i → (σ.set i (some (V.ref ad)))[j]? = σ[j]? := fun j h => List.getElem?_set_ne (Ne.symm h)
    have key : ∀ (j : Nat) (x : Slot), (ρ.set i (.fn g))[j]? = some x → (j = i ∧ x = .fn g ∧ i < ρ.length) ∨ (j ≠ i ∧ ρ[j]? = some x) := fun j x h => by
      by_cases e : i = j
      · subst e; exact .inl ⟨rfl, set_same h, set_lt h⟩
      · rw [List.getElem?_set_ne e] at h; exact .inr ⟨Ne.symm e, h⟩
    refine ⟨I.ext, I.nL, I.drw, by simp [I.len], fun j d' h => ?_, fun j es h => ?_, fun j h => ?_, fun j f h => ?_, fun a b es fs m n q1 q2 q3 q4 => ?_⟩
    · rcases key j _ h with ⟨_, e, _⟩ | ⟨n, h⟩
      · cases e
      · rw [get _ n]; exact I.val j d' h
    · rcases key j _ h with ⟨rfl, e, hl⟩ | ⟨n, h⟩
      · cases e
      · rw [get _ n]; exact I.own j es h
    · rcases key j _ h with ⟨_, e, _⟩ | ⟨n, h⟩
      · cases e
      · rw [get _ n]; exact I.hdl j h
    · rcases key j _ h with ⟨rfl, e, hl⟩ | ⟨n, h⟩
      · cases e
        exact ⟨ad, by rw [List.getElem?_set_self (by rw [I.len]; exact hl)], hm⟩
      · rw [get _ n]; exact I.fn j f h
    · rcases key a _ q1 with ⟨_, e, _⟩ | ⟨na, q1⟩
      · cases e
      · rcases key b _ q2 with ⟨_, e, _⟩ | ⟨nb, q2⟩
        · cases e
        · rw [get _ na] at q3
          rw [get _ nb] at q4
          exact I.inj a b es fs m n q1 q2 q3 q4
theorem RlS.setR {v : V} {r : R} {sl : Slot} (I : RlS K mg L B0 H0 B H σ ρ s) (i : Nat) (q : RepR K mg L H1 B H σ ρ v r) (h1 : ∀ p, H1 p = none → p ≠ L → H0 p = none) (e : r.slot = some sl) : RlS K mg L B0 H0 B H (σ.set i (some v)) (ρ.set i sl) s := by
  refine ⟨I.rl.setR i q e, I.st, fun j ds l a b => ?_⟩
  by_cases c : i = j
  · subst c
    have e1 := set_same a
    cases r with
    | fresh ds' =>
      obtain ⟨m, vs, rfl, z0, z1, z2, z3⟩ := q
      rw [List.getElem?_set_self (by rw [I.rl.len]; exact set_lt a)] at b
      cases b
      exact h1 _ z0 z2
    | val _ => cases e; cases e1
    | held _ _ => cases e
    | hdl => cases e; cases e1
    | fn _ => cases e; cases e1
  · rw [List.getElem?_set_ne c] at a b
    exact I.nw j ds l a b
/-- an own list is changed -/
theorem Rl.mutOwn {i : Nat} {l : Addr} {ds ds' : List PyData} {vs' : List V} (I : Rl K mg L B H σ ρ s) (h : ρ[i]? = some (.own ds)) (hs : σ[i]? = some (some (.ref l))) (r : RepAll K B vs' ds') : Rl K mg L B (upd H l (.lst vs')) σ (ρ.set i (.own ds')) s := by
  obtain ⟨m, ws, q1, q2, q3, q4, q5⟩ := I.own i ds h
  rw [hs] at q1
  cases q1
  obtain ⟨l1, d1, d2⟩ := I.drw
  have key : ∀ (j : Nat) (x : Slot), (ρ.set i (.own ds'))[j]? = some x → (j = i ∧ x = .own ds') ∨ (j ≠ i ∧ ρ[j]? = some x) := fun j x h => by
    by_cases e : i = j
    · subst e; exact .inl ⟨rfl, set_same h⟩
    · rw [List.getElem?_set_ne e] at h; exact .inr ⟨Ne.symm e, h⟩
  refine ⟨I.ext.upd2 q2, I.nL, ⟨l1, d1, by rw [upd_ne q3.symm]; exact d2⟩, by simp [I.len], fun j d' h' => ?_, fun j es h' => ?_, fun j h' => ?_, fun j f h' => ?_, fun a b es fs m n z1 z2 z3 z4 => ?_⟩
  · rcases key j _ h' with ⟨_, e⟩ | ⟨n, h'⟩
    · cases e
    · exact I.val j d' h'
  · rcases key j _ h' with ⟨rfl, e⟩ | ⟨n, h'⟩
    · cases e
      exact ⟨l, vs', hs, q2, q3, upd_same, r⟩
    · obtain ⟨m, us, w1, w2, w3, w4, w5⟩ := I.own j es h'
      have ne : m ≠ l := fun z => I.inj j i es ds l n h' h (z ▸ w1) hs
      exact ⟨m, us, w1, w2, w3, by rw [upd_ne ne]; exact w4, w5⟩
  · rcases key j _ h' with ⟨_, e⟩ | ⟨n, h'⟩
    · cases e
    · exact I.hdl j h'
  · rcases key j _ h' with ⟨_, e⟩ | ⟨n, h'⟩
    · cases e
    · exact I.fn j f h'
  · have back : ∀ (j : Nat) (gs : List PyData), (ρ.set i (.own ds'))[j]? = some (.own gs) → ∃ gs', ρ[j]? = some (.own gs') := fun j gs hj => by
      rcases key j _ hj with ⟨rfl, _⟩ | ⟨_, hj⟩
      · exact ⟨ds, h⟩
      · exact ⟨gs, hj⟩
    obtain ⟨_, y1⟩ := back a es z1
    obtain ⟨_, y2⟩ := back b fs z2
    exact I.inj a b _ _ m n y1 y2 z3 z4
theorem RlS.mutOwn {i : Nat} {l : Addr} {ds ds' : List PyData} {vs' : List V} (I : RlS K mg L B0 H0 B H σ ρ s) (h : ρ[i]? = some (.own ds)) (hs : σ[i]? = some (some (.ref l))) (r : RepAll K B vs' ds') : RlS K mg L B0 H0 B (upd H l (.lst vs')) σ (ρ.set i (.own ds')) s := by
  have lL : l ≠ L := by
    obtain ⟨m, ws, q1, q2, q3, q4, q5⟩ := I.rl.own i ds h
    rw [hs] at q1
    cases q1
    exact q3
  refine ⟨I.rl.mutOwn h hs r, I.st.mut (I.nw i ds l h hs) lL, fun j es m a b => ?_⟩
  by_cases c : i = j
  · subst c
    rw [hs] at b
    cases b
    exact I.nw i ds _ h hs
  · rw [List.getElem?_set_ne c] at a
    exact I.nw j es m a b
/-- own lists are laid for good -/
theorem Rl.frz1 {i : Nat} {ds : List PyData} (I : RlS K mg L B0 H0 B H σ ρ s) (h : ρ[i]? = some (.own ds)) : ∃ B', RlS K mg L B0 H0 B' H σ (ρ.set i (.val (.list ds))) s := by
  obtain ⟨l, vs, q1, q2, q3, q4, q5⟩ := I.rl.own i ds h
  have x : Ext B (upd B l (.lst vs)) := Ext.up q2
  obtain ⟨l1, d1, d2⟩ := I.rl.drw
  have key : ∀ (j : Nat) (y : Slot), (ρ.set i (.val (.list ds)))[j]? = some y → (j = i ∧ y = .val (.list ds)) ∨ (j ≠ i ∧ ρ[j]? = some y) := fun j y h => by
    by_cases e : i = j
    · subst e; exact .inl ⟨rfl, set_same h⟩
    · rw [List.getElem?_set_ne e] at h; exact .inr ⟨Ne.symm e, h⟩
  refine ⟨upd B l (.lst vs), ⟨I.rl.ext.updB q4, by rw [upd_ne q3.symm]; exact I.rl.nL, ⟨l1, x _ _ d1, d2⟩, by simp [I.rl.len], fun j d' h' => ?_, fun j es h' => ?_, fun j h' => ?_, fun j f h' => ?_, fun a b es fs m n z1 z2 z3 z4 => ?_⟩,
    ⟨I.st.b.trans x, I.st.h, fun a o e => ?_, I.st.l, I.st.c⟩, fun j es m a b => ?_⟩
  · rcases key j _ h' with ⟨rfl, e⟩ | ⟨n, h'⟩
    · cases e
      exact ⟨_, q1, Rep.lst upd_same (RepAll.mono x _ _ q5)⟩
    · obtain ⟨v, w1, w2⟩ := I.rl.val j d' h'
      exact ⟨v, w1, Rep.mono x _ _ w2⟩
  · rcases key j _ h' with ⟨rfl, e⟩ | ⟨n, h'⟩
    · cases e
    · obtain ⟨m, us, w1, w2, w3, w4, w5⟩ := I.rl.own j es h'
      have ne : m ≠ l := fun z => I.rl.inj j i es ds l n h' h (z ▸ w1) q1
      exact ⟨m, us, w1, by rw [upd_ne ne]; exact w2, w3, w4, RepAll.mono x _ _ w5⟩
  · rcases key j _ h' with ⟨_, e⟩ | ⟨n, h'⟩
    · cases e
    · exact I.rl.hdl j h'
  · rcases key j _ h' with ⟨_, e⟩ | ⟨n, h'⟩
    · cases e
    · exact I.rl.fn j f h'
  · rcases key a _ z1 with ⟨_, e⟩ | ⟨na, z1⟩
    · cases e
    · rcases key b _ z2 with ⟨_, e⟩ | ⟨nb, z2⟩
      · cases e
      · exact I.rl.inj a b es fs m n z1 z2 z3 z4
  · by_cases ha : a = l
    · exact .inr (ha ▸ I.nw i ds l h q1)
    · rw [upd_ne ha] at e; exact I.st.n a o e
  · rcases key j _ a with ⟨_, e⟩ | ⟨n, a⟩
    · cases e
    · exact I.nw j es m a b
theorem RlS.frz : ∀ (is : List Nat) {ρ : Z.Env} {B : Hp}, RlS K mg L B0 H0 B H σ ρ s → ∃ B', RlS K mg L B0 H0 B' H σ (frzE is ρ) s
  | [], _, B, I => ⟨B, I⟩
  | i :: is, ρ, B, I => by
    unfold frzE
    split
    · rename_i ds h
      obtain ⟨B', I'⟩ := Rl.frz1 I h
      exact RlS.frz is I'
    · exact RlS.frz is I
mutual
theorem asg_own : ∀ (t : Tg) (d : PyData) (ρ ρ' : Z.Env), asgTg t d ρ = some ρ' → ∀ (j : Nat) (ds : List PyData), ρ'[j]? = some (.own ds) → ρ[j]? = some (.own ds) ∧ j ∉ t.slots
  | .name i, d, ρ, ρ', e, j, ds, h => by
    simp only [asgTg, Option.some.injEq] at e
    subst e
    by_cases c : i = j
    · subst c; have := set_same h; cases this
    · rw [List.getElem?_set_ne c] at h
      exact ⟨h, by simp [Tg.slots, Ne.symm c]⟩
  | .tup ts, .tuple es, ρ, ρ', e, j, ds, h => by
    simp only [asgTg] at e
    exact asgs_own ts es ρ ρ' e j ds h
  | .tup ts, .none, _, _, e, _, _, _ => by simp [asgTg] at e
  | .tup ts, .bool _, _, _, e, _, _, _ => by simp [asgTg] at e
  | .tup ts, .int _, _, _, e, _, _, _ => by simp [asgTg] at e
  | .tup ts, .str _, _, _, e, _, _, _ => by simp [asgTg] at e
  | .tup ts, .list _, _, _, e, _, _, _ => by simp [asgTg] at e
  | .tup ts, .dict _, _, _, e, _, _, _ => by simp [asgTg] at e
theorem asgs_own : ∀ (ts : Tgs) (es : List PyData) (ρ ρ' : Z.Env), asgTgs ts es ρ = some ρ' → ∀ (j : Nat) (ds : List PyData), ρ'[j]? = some (.own ds) → ρ[j]? = some (.own ds) ∧ j ∉ ts.slots
  | .nil, [], ρ, ρ', e, j, ds, h => by
    simp only [asgTgs, Option.some.injEq] at e
    subst e
    exact ⟨h, by simp [Tgs.slots]⟩
  | .cons t ts, d :: es, ρ, ρ', e, j, ds, h => by
    simp only [asgTgs] at e
    cases h1 : asgTg t d ρ with
    | none => simp [h1] at e
    | some ρ1 =>
      simp only [h1] at e
      obtain ⟨a, b⟩ := asgs_own ts es ρ1 ρ' e j ds h
      obtain ⟨a', b'⟩ := asg_own t d ρ ρ1 h1 j ds a
      exact ⟨a', by simp [Tgs.slots, b, b']⟩
  | .nil, _ :: _, _, _, e, _, _, _ => by simp [asgTgs] at e
  | .cons _ _, [], _, _, e, _, _, _ => by simp [asgTgs] at e
end
theorem asg_S {t : Tg} {d : PyData} {v : V} {ρ' : Z.Env} {Q : L2.St → Hp → Prop} (I : RlS K mg L B0 H0 B H σ ρ s) (r : Rep K B v d) (e : asgTg t d ρ = some ρ') (k : ∀ σ', RlS K mg L B0 H0 B H σ' ρ' s → Q σ' H) : gTg K t v σ H Q :=
  asg_ok (vs := []) t σ ρ ρ' v d Q I.rl r e fun σ' I' _ g => k σ' ⟨I', I.st, fun j ds l a b => by
    obtain ⟨z1, z2⟩ := asg_own t d ρ ρ' e j ds a
    rw [(g j z2).1] at b
    exact I.nw j ds l z1 b⟩
/-! ### each statement -/
theorem ls_nil {σ : L2.St} (h : tSs K mg F G .nil D σ H) : tNext D σ H := by
  obtain ⟨L, B0, H0, B, ρ, s, out, I, e, k⟩ := h
  simp only [evSs, Option.some.injEq] at e
  subst e
  exact k σ B H I
theorem ls_pass (h : tS K mg F G .pass D σ H) : tNext D σ H := by
  obtain ⟨L, B0, H0, B, ρ, s, out, I, e, k⟩ := h
  simp only [evS, Option.some.injEq] at e
  subst e
  exact k σ B H I
theorem ls_brk (h : tS K mg F G .brk D σ H) : tBreak D σ H := by
  obtain ⟨L, B0, H0, B, ρ, s, out, I, e, k⟩ := h
  simp only [evS, Option.some.injEq] at e
  subst e
  exact k σ B H I
theorem ls_cont (h : tS K mg F G .cont D σ H) : tCont D σ H := by
  obtain ⟨L, B0, H0, B, ρ, s, out, I, e, k⟩ := h
  simp only [evS, Option.some.injEq] at e
  subst e
  exact k σ B H I
theorem ls_never (h : tS K mg F G .never D σ H) : tNever D σ H := by
  obtain ⟨L, B0, H0, B, ρ, s, out, I, e, k⟩ := h
  simp [evS] at e
theorem ls_cons {c : S} {cs : Ss} (h : tSs K mg F G (.cons c cs) D σ H) : tSeq (tS K mg F G c) (tSs K mg F G cs) D σ H := by
  obtain ⟨L, B0, H0, B, ρ, s, out, I, e, k⟩ := h
  simp only [evSs] at e
  cases h1 : evS F G c ρ s with
  | none => simp [h1] at e
  | some o =>
    refine ⟨L, B0, H0, B, ρ, s, o, I, h1, ?_⟩
    cases o with
    | nx ρ' s' =>
      simp only [h1] at e
      exact fun σ B H I' => ⟨L, B0, H0, B, ρ', s', out, I', e, k⟩
    | rt r s' =>
      simp only [h1, Option.some.injEq] at e
      subst e
      exact k
    | bk ρ' s' =>
      simp only [h1, Option.some.injEq] at e
      subst e
      exact k
    | ct ρ' s' =>
      simp only [h1, Option.some.injEq] at e
      subst e
      exact k
theorem ls_frz {is : List Nat} {cs : Ss} (h : tSs K mg F G (.frz is cs) D σ H) : tSs K mg F G cs D σ H := by
  obtain ⟨L, B0, H0, B, ρ, s, out, I, e, k⟩ := h
  simp only [evSs] at e
  obtain ⟨B', I'⟩ := RlS.frz is I
  exact ⟨L, B0, H0, B', _, s, out, I', e, k⟩
theorem ls_asgN {i : Nat} {e : E} (h : tS K mg F G (.asg (.name i) e) D σ H) : tAsg (tE K mg F G e) (gName i) D σ H := by
  obtain ⟨L, B0, H0, B, ρ, s, out, I, he, k⟩ := h
  simp only [evS] at he
  cases h1 : evE F G e ρ s with
  | none => simp [h1] at he
  | some p =>
    obtain ⟨r, s1⟩ := p
    simp only [h1] at he
    cases h2 : r.slot with
    | none => simp [h2] at he
    | some sl =>
      simp only [h2, Option.some.injEq] at he
      subst he
      exact ⟨L, B, ρ, s, r, s1, I.rl, h1, fun v B1 H1 I1 st1 q1 => k _ B1 H1 ((I.step I1 st1).setR i q1 (fun _ z _ => I.st.old z) h2)⟩
theorem ls_asgT {ts : Tgs} {e : E} (h : tS K mg F G (.asg (.tup ts) e) D σ H) : tAsg (tE K mg F G e) (gTg K (.tup ts)) D σ H := by
  obtain ⟨L, B0, H0, B, ρ, s, out, I, he, k⟩ := h
  simp only [evS] at he
  cases h1 : evE F G e ρ s with
  | none => simp [h1] at he
  | some p =>
    obtain ⟨r, s1⟩ := p
    simp only [h1] at he
    cases r with
    | val d =>
      simp only at he
      cases h2 : asgTg (.tup ts) d ρ with
      | none => simp [h2] at he
      | some ρ' =>
        simp only [h2, Option.some.injEq] at he
        subst he
        exact ⟨L, B, ρ, s, _, s1, I.rl, h1, fun v B1 H1 I1 st1 q1 => asg_S (I.step I1 st1) q1 h2 fun σ' I' => k σ' B1 H1 I'⟩
    | _ => cases he
theorem ls_drop {e : E} (h : tS K mg F G (.expr e) D σ H) : tDrop (tE K mg F G e) D σ H := by
  obtain ⟨L, B0, H0, B, ρ, s, out, I, he, k⟩ := h
  simp only [evS] at he
  cases h1 : evE F G e ρ s with
  | none => simp [h1] at he
  | some p =>
    obtain ⟨r, s1⟩ := p
    simp only [h1, Option.some.injEq] at he
    subst he
    exact ⟨L, B, ρ, s, r, s1, I.rl, h1, fun v B1 H1 I1 st1 q1 => k _ B1 H1 (I.step I1 st1)⟩
theorem ret_rep {v : V} {r : R} (I : RlS K mg L B0 H0 B H σ ρ s) (q : RepR K mg L H0 B H σ ρ v r) : RepR K mg L H0 B H [] [] v r.ret := by
  cases r with
  | val _ => exact q
  | hdl => exact q
  | fn _ => exact q
  | fresh ds =>
    obtain ⟨l, vs, z1, z2, z3, z4, z5, z6, z7⟩ := q
    exact ⟨l, vs, z1, z2, z3, z4, z5, z6, fun i es h => by simp at h⟩
  | held i ds =>
    obtain ⟨q1, q2⟩ := q
    obtain ⟨l, vs, w1, w2, w3, w4, w5⟩ := I.rl.own i ds q1
    rw [w1] at q2
    cases q2
    exact ⟨l, vs, rfl, I.nw i ds l q1 w1, w2, w3, w4, w5, fun i es h => by simp at h⟩
theorem ls_ret {e : E} (h : tS K mg F G (.ret e) D σ H) : tRet (tE K mg F G e) D σ H := by
  obtain ⟨L, B0, H0, B, ρ, s, out, I, he, k⟩ := h
  simp only [evS] at he
  cases h1 : evE F G e ρ s with
  | none => simp [h1] at he
  | some p =>
    obtain ⟨r, s1⟩ := p
    simp only [h1, Option.some.injEq] at he
    subst he
    refine ⟨L, B, ρ, s, r, s1, I.rl, h1, fun v B1 H1 I1 st1 q1 => ?_⟩
    have I2 := I.step I1 st1
    exact k v B1 H1 I1.nil I2.st (ret_rep I2 (q1.back' I.st))
theorem ls_retN (h : tS K mg F G .retN D σ H) : tRetN D σ H := by
  obtain ⟨L, B0, H0, B, ρ, s, out, I, he, k⟩ := h
  simp only [evS, Option.some.injEq] at he
  subst he
  exact k .non B H I.rl.nil I.st Rep.non
theorem ls_if {t : T} {a b : Ss} (h : tS K mg F G (.if t a b) D σ H) : tIfS (tT K mg F G t) (tSs K mg F G a) (tSs K mg F G b) D σ H := by
  obtain ⟨L, B0, H0, B, ρ, s, out, I, he, k⟩ := h
  simp only [evS] at he
  split at he
  · rename_i s1 h1
    refine ⟨L, B, ρ, s, _, s1, I.rl, h1, fun B1 H1 I1 st1 => ?_⟩
    exact iteT ⟨L, B0, H0, B1, ρ, s1, out, I.step I1 st1, he, k⟩
  · rename_i s1 h1
    refine ⟨L, B, ρ, s, _, s1, I.rl, h1, fun B1 H1 I1 st1 => ?_⟩
    exact iteF ⟨L, B0, H0, B1, ρ, s1, out, I.step I1 st1, he, k⟩
  · cases he
theorem ls_while {t : T} {b : Ss} (h : tS K mg F G (.while t b) D σ H) : tWhile (tT K mg F G t) (tSs K mg F G b) D σ H := by
  obtain ⟨L, B0, H0, B, ρ, s, out, I, he, k⟩ := h
  simp only [evS] at he
  refine ⟨fun m σ H => ∃ B ρ s, RlS K mg L B0 H0 B H σ ρ s ∧ whileLoop (fun ρ s => evT F G t ρ s) (fun ρ s => evSs F G b ρ s) m ρ s = some out, ⟨whileFuel, B, ρ, s, I, he⟩, ?_⟩
  rintro m σ H ⟨B, ρ, s, I, he⟩
  cases m with
  | zero => simp [whileLoop] at he
  | succ m =>
    simp only [whileLoop] at he
    split at he
    · rename_i s1 h1
      simp only [Option.some.injEq] at he
      subst he
      exact ⟨L, B, ρ, s, _, s1, I.rl, h1, fun B1 H1 I1 st1 => iteF (k σ B1 H1 (I.step I1 st1))⟩
    · rename_i s1 h1
      refine ⟨L, B, ρ, s, _, s1, I.rl, h1, fun B1 H1 I1 st1 => iteT ?_⟩
      refine ⟨fun σ H => ∃ B ρ s, RlS K mg L B0 H0 B H σ ρ s ∧ whileLoop (fun ρ s => evT F G t ρ s) (fun ρ s => evSs F G b ρ s) m ρ s = some out, fun σ' H' q => ⟨m, Nat.lt_succ_self _, q⟩, ?_⟩
      cases hb : evSs F G b ρ s1 with
      | none => simp [hb] at he
      | some o =>
        refine ⟨L, B0, H0, B1, ρ, s1, o, I.step I1 st1, hb, ?_⟩
        cases o with
        | nx ρ' s' =>
          simp only [hb] at he
          exact fun σ B H I' => ⟨B, ρ', s', I', he⟩
        | ct ρ' s' =>
          simp only [hb] at he
          exact fun σ B H I' => ⟨B, ρ', s', I', he⟩
        | bk ρ' s' =>
          simp only [hb, Option.some.injEq] at he
          subst he
          exact k
        | rt r s' =>
          simp only [hb, Option.some.injEq] at he
          subst he
          exact k
    · cases he
def forStep (F : Str → List Slot → DS → Option (R × DS)) (G : Str → Option PyData) (tg : Tg) (b : Ss) (x : PyData) (ρ : Z.Env) (s : DS) : Option Out :=
  match asgTg tg x ρ with
  | some ρ' => evSs F G b ρ' s
  | none => none
theorem ls_for {tg : Tg} {it : Z.It} {b : Ss} (h : tS K mg F G (.for tg it b) D σ H) : tFor (tIt K mg F G it) (gTg K tg) (tSs K mg F G b) D σ H := by
  obtain ⟨L, B0, H0, B, ρ, s, out, I, he, k⟩ := h
  simp only [evS] at he
  cases h1 : evIt F G it ρ s with
  | none => simp [h1] at he
  | some p =>
    obtain ⟨⟨xs, al⟩, s1⟩ := p
    cases al with
    | true => simp [h1] at he
    | false =>
      simp only [h1] at he
      have he : forLoop (forStep F G tg b) xs ρ s1 = some out := he
      refine ⟨L, B, ρ, s, xs, false, s1, I.rl, h1, fun J B1 H1 Bs I1 st1 eBs nBs hBs gd => ?_⟩
      have hBs := hBs rfl
      subst hBs
      refine ⟨fun i m σ H => m = xs.length - i ∧ i ≤ xs.length ∧ ∃ B ρ s, Ext Bs B ∧ RlS K mg L B0 H0 B H σ ρ s ∧ forLoop (forStep F G tg b) (xs.drop i) ρ s = some out,
        ⟨xs.length, rfl, Nat.zero_le _, Bs, ρ, s1, Ext.refl _, I.step I1 st1, he⟩, ?_⟩
      rintro i m σ2 H2 ⟨rfl, hi, B2, ρ2, si, x2, I2, hl⟩
      have eB2 : Ext Bs H2 := x2.trans I2.rl.ext
      by_cases hlt : i < xs.length
      · refine .inr ⟨gd.go i H2 hlt eB2, fun σ H => ∃ B ρ s, Ext Bs B ∧ RlS K mg L B0 H0 B H σ ρ s ∧ forLoop (forStep F G tg b) (xs.drop (i + 1)) ρ s = some out,
          fun σ' H' n => ⟨xs.length - (i + 1), by omega, rfl, hlt, n⟩, fun x H3 y => ?_⟩
        obtain ⟨B3, d, I3, st3, hd, rx⟩ := gd.yld i H2 x H3 hlt eB2 y B2 σ2 ρ2 si x2 I2.rl
        have hdrop : xs.drop i = d :: xs.drop (i + 1) := by
          rw [List.drop_eq_getElem_cons hlt]
          rw [List.getElem?_eq_getElem hlt] at hd
          rw [Option.some.inj hd]
        rw [hdrop] at hl
        simp only [forLoop] at hl
        cases hst : forStep F G tg b d ρ2 si with
        | none => simp [hst] at hl
        | some o =>
          have hst' := hst
          unfold forStep at hst'
          cases hasg : asgTg tg d ρ2 with
          | none => simp [hasg] at hst'
          | some ρ' =>
            simp only [hasg] at hst'
            refine asg_S (I2.step I3 st3) rx hasg fun σ' I4 => ?_
            have x3 : Ext Bs B3 := x2.trans st3.b
            have I5 : RlS K mg L B3 H0 B3 H3 σ' ρ' si := ⟨I4.rl, ⟨Ext.refl _, I4.st.h, fun _ _ q => .inl q, I4.st.l, I4.st.c⟩, I4.nw⟩
            refine ⟨L, B3, H0, B3, ρ', si, o, I5, hst', ?_⟩
            cases o with
            | nx ρ6 s6 =>
              simp only [hst] at hl
              exact fun σ B H I' => ⟨B, ρ6, s6, x3.trans I'.st.b, I'.rebase I4.st, hl⟩
            | ct ρ6 s6 =>
              simp only [hst] at hl
              exact fun σ B H I' => ⟨B, ρ6, s6, x3.trans I'.st.b, I'.rebase I4.st, hl⟩
            | bk ρ6 s6 =>
              simp only [hst, Option.some.injEq] at hl
              subst hl
              exact fun σ B H I' => k σ B H (I'.rebase I4.st)
            | rt r s6 =>
              simp only [hst, Option.some.injEq] at hl
              subst hl
              exact fun v B H J st q => k v B H J (Stp.rebase I4.st st) q
      · have e : i = xs.length := by omega
        subst e
        rw [List.drop_length] at hl
        simp only [forLoop, Option.some.injEq] at hl
        subst hl
        exact .inl ⟨gd.stop H2 eB2, k σ2 B2 H2 I2⟩
end
end Z

namespace Z
open PySem L2
section
variable {K : PySem.W.Frag} {mg : Str → Option Value} {F : Str → List Slot → DS → Option (R × DS)} {G : Str → Option PyData} {L : Addr} {B0 H0 B H B' H' H1 : Hp} {σ : L2.St} {ρ : Z.Env} {s s1 s2 s' : DS} {D : Ends}
/-- another slot took a value meanwhile -/
theorem RepR.setEnv {v w : V} {x : Slot} {r : R} {y : Slot} {i : Nat} (q : RepR K mg L H1 B H σ ρ w r) (e : r.slot = some y) (hl : σ.length = ρ.length) (h : ∀ es l, x = .own es → v = .ref l → H1 l ≠ none) : RepR K mg L H1 B H (σ.set i (some v)) (ρ.set i x) w r := by
  cases r with
  | val _ => exact q
  | held _ _ => cases e
  | hdl => exact q
  | fn _ => exact q
  | fresh ds =>
    obtain ⟨l, vs, z1, z2, z3, z4, z5, z6, z7⟩ := q
    refine ⟨l, vs, z1, z2, z3, z4, z5, z6, fun j es a b => ?_⟩
    by_cases c : i = j
    · subst c
      have e1 := set_same a
      rw [List.getElem?_set_self (by rw [hl]; exact set_lt a)] at b
      exact h es l e1.symm (Option.some.inj (Option.some.inj b)) z2
    · rw [List.getElem?_set_ne c] at a b
      exact z7 j es a b
theorem slot_own {v : V} {r : R} {sl : Slot} (q : RepR K mg L H1 B H σ ρ v r) (e : r.slot = some sl) : ∀ es l, sl = .own es → v = .ref l → H l ≠ none := by
  intro es l h1 h2
  subst h1
  cases r with
  | fresh ds =>
    obtain ⟨m, vs, z1, z2, z3, z4, z5, z6⟩ := q
    rw [h2] at z1
    cases z1
    rw [z5]; simp
  | val _ => cases e
  | held _ _ => cases e
  | hdl => cases e
  | fn _ => cases e
theorem ls_par {i j : Nat} {a b : E} (h : tS K mg F G (.par i j a b) D σ H) : tPar i j (tCons (tE K mg F G a) (tCons (tE K mg F G b) tNil)) D σ H := by
  obtain ⟨L, B0, H0, B, ρ, s, out, I, he, k⟩ := h
  simp only [evS] at he
  cases h1 : evE F G a ρ s with
  | none => simp [h1] at he
  | some p =>
    obtain ⟨ra, s1⟩ := p
    simp only [h1] at he
    cases h2 : evE F G b ρ s1 with
    | none => simp [h2] at he
    | some p =>
      obtain ⟨rb, s2⟩ := p
      simp only [h2] at he
      cases hx : ra.slot with
      | none => simp [hx] at he
      | some x =>
        cases hy : rb.slot with
        | none => simp [hx, hy] at he
        | some y =>
          simp only [hx, hy, Option.some.injEq] at he
          subst he
          refine ⟨L, B, ρ, s, ra, s1, I.rl, h1, fun v B1 H1 I1 st1 q1 => ?_⟩
          refine ⟨L, B1, ρ, s1, rb, s2, I1, h2, fun w B2 H2 I2 st2 q2 => ?_⟩
          refine ⟨v, w, rfl, k _ B2 H2 ?_⟩
          have J := (I.step I1 st1).step I2 st2
          have J1 := J.setR i (q1.step st2) (fun _ z _ => I.st.old z) hx
          exact J1.setR j (q2.setEnv hy J.rl.len (slot_own q1 hx)) (fun _ z _ => I.st.old (st1.old z)) hy
theorem ls_par3 {i j l : Nat} {a b c : E} (h : tS K mg F G (.par3 i j l a b c) D σ H) : tPar3 i j l (tCons (tE K mg F G a) (tCons (tE K mg F G b) (tCons (tE K mg F G c) tNil))) D σ H := by
  obtain ⟨L, B0, H0, B, ρ, s, out, I, he, k⟩ := h
  simp only [evS] at he
  cases h1 : evE F G a ρ s with
  | none => simp [h1] at he
  | some p =>
    obtain ⟨ra, s1⟩ := p
    simp only [h1] at he
    cases h2 : evE F G b ρ s1 with
    | none => simp [h2] at he
    | some p =>
      obtain ⟨rb, s2⟩ := p
      simp only [h2] at he
      cases h3 : evE F G c ρ s2 with
      | none => simp [h3] at he
      | some p =>
        obtain ⟨rc, s3⟩ := p
        simp only [h3] at he
        cases hx : ra.slot with
        | none => simp [hx] at he
        | some x =>
          cases hy : rb.slot with
          | none => simp [hx, hy] at he
          | some y =>
            cases hz : rc.slot with
            | none => simp [hx, hy, hz] at he
            | some z =>
              simp only [hx, hy, hz, Option.some.injEq] at he
              subst he
              refine ⟨L, B, ρ, s, ra, s1, I.rl, h1, fun v B1 H1 I1 st1 q1 => ?_⟩
              refine ⟨L, B1, ρ, s1, rb, s2, I1, h2, fun w B2 H2 I2 st2 q2 => ?_⟩
              refine ⟨L, B2, ρ, s2, rc, s3, I2, h3, fun u B3 H3 I3 st3 q3 => ?_⟩
              refine ⟨v, w, u, rfl, k _ B3 H3 ?_⟩
              have J := ((I.step I1 st1).step I2 st2).step I3 st3
              have J1 := J.setR i (q1.step (st2.trans st3)) (fun _ z _ => I.st.old z) hx
              have J2 := J1.setR j ((q2.step st3).setEnv hy J.rl.len (slot_own q1 hx)) (fun _ z _ => I.st.old (st1.old z)) hy
              exact J2.setR l ((q3.setEnv hz J.rl.len (slot_own (q1.step st2) hx)).setEnv hz J1.rl.len (slot_own q2 hy)) (fun _ z _ => I.st.old (st1.old (st2.old z))) hz
theorem ls_setix {i : Nat} {kk e : E} (h : tS K mg F G (.setix i kk e) D σ H) : tAsg (tE K mg F G e) (gSub (tVar i) (tE K mg F G kk) rSetL) D σ H := by
  obtain ⟨L, B0, H0, B, ρ, s, out, I, he, k⟩ := h
  simp only [evS] at he
  cases h1 : evE F G e ρ s with
  | none => simp [h1] at he
  | some p =>
    obtain ⟨r, s1⟩ := p
    simp only [h1] at he
    cases hd : r.emb with
    | none => simp [hd] at he
    | some d =>
      simp only [hd] at he
      split at he
      · rename_i ds ho
        split at he
        · rename_i n s2 hk
          cases hj : ixN ds.length n with
          | none => simp [hj] at he
          | some j =>
            simp only [hj, Option.some.injEq] at he
            subst he
            refine ⟨L, B, ρ, s, r, s1, I.rl, h1, fun v B1 H1 I1 st1 q1 => ?_⟩
            obtain ⟨B2, I2, st2, q2⟩ := I1.fzS q1 st1
            have rv : Rep K B2 v d := by
              cases r with
              | val d' => cases hd; exact q2
              | fresh ds => cases hd; exact q2
              | held _ _ => cases hd
              | hdl => cases hd
              | fn _ => cases hd
            have J2 := I.step I2 st2
            obtain ⟨l, vs, w1, w2, w3, w4, w5⟩ := I2.own i ds ho
            refine ⟨.ref l, w1, L, B2, ρ, s1, _, s2, I2, hk, fun iv B3 H3 I3 st3 q3 => ?_⟩
            cases q3
            have w4' := st3.h l _ w3 w4
            refine ⟨l, vs, n, j, rfl, rfl, w4', by rw [w5.length]; exact hj, ?_⟩
            have J3 := J2.step I3 st3
            exact k σ B3 _ (J3.mutOwn ho w1 (RepAll.set (Rep.mono st3.b _ _ rv) j (RepAll.mono st3.b _ _ w5)))
        · cases he
      · cases he
theorem ls_aug {i : Nat} {o : BOp} {e : E} (h : tS K mg F G (.aug i o e) D σ H) : (o = .add ∧ tAug i (tE K mg F G e) (ipI fun i j => i + j) D σ H) ∨ (o = .sub ∧ tAug i (tE K mg F G e) (ipI fun i j => i - j) D σ H) := by
  obtain ⟨L, B0, H0, B, ρ, s, out, I, he, k⟩ := h
  simp only [evS] at he
  split at he
  · rename_i a ha
    obtain ⟨v, hv, rv⟩ := I.rl.val i _ ha
    cases rv
    split at he
    · rename_i b s1 hb
      cases o <;> first | (cases he; done) | skip
      · simp only [Option.some.injEq] at he
        subst he
        refine .inl ⟨rfl, _, hv, L, B, ρ, s, _, s1, I.rl, hb, fun w B1 H1 I1 st1 q1 => ?_⟩
        cases q1
        have q : RepR K mg L H1 B1 H1 σ ρ (V.int (a + b)) (.val (.int (a + b))) := Rep.int _
        exact ⟨a, b, rfl, rfl, k _ B1 H1 ((I.step I1 st1).setR i q (fun _ z _ => I.st.old (st1.old z)) rfl)⟩
      · simp only [Option.some.injEq] at he
        subst he
        refine .inr ⟨rfl, _, hv, L, B, ρ, s, _, s1, I.rl, hb, fun w B1 H1 I1 st1 q1 => ?_⟩
        cases q1
        have q : RepR K mg L H1 B1 H1 σ ρ (V.int (a - b)) (.val (.int (a - b))) := Rep.int _
        exact ⟨a, b, rfl, rfl, k _ B1 H1 ((I.step I1 st1).setR i q (fun _ z _ => I.st.old (st1.old z)) rfl)⟩
    · cases he
  · cases he
/-! methods of a list of one's own -/
def rMt : Mt → V → List V → Hp → VK → Prop
  | .append => rAppend
  | .extend => rExtend
  | .insert => fun x vs H Q => ∃ (l : Addr) (xs : List V) (i : Int) (y : V), x = .ref l ∧ vs = [.int i, y] ∧ H l = some (.lst xs) ∧ xs.length < sizeLine ∧ 0 ≤ i ∧ i < 2 ^ 63 ∧ Q .non (upd H l (.lst (xs.take i.toNat ++ [y] ++ xs.drop i.toNat)))
  | .remove => rRemI
  | _ => fun _ _ _ _ => False
theorem idxOfI_ok : ∀ {ns : List Int} {k : Int} {j : Nat}, idxOfI ns k = some j → ns[j]? = some k ∧ ∀ m, m < j → ns[m]? ≠ some k
  | [], _, _, h => by simp [idxOfI] at h
  | x :: xs, k, j, h => by
    simp only [idxOfI] at h
    split at h
    · rename_i e
      cases h
      exact ⟨by simp [e], fun m hm => absurd hm (Nat.not_lt_zero _)⟩
    · rename_i ne
      cases q : idxOfI xs k with
      | none => simp [q] at h
      | some j' =>
        simp only [q, Option.some.injEq] at h
        subst h
        obtain ⟨a, b⟩ := idxOfI_ok q
        refine ⟨by simpa using a, fun m hm => ?_⟩
        cases m with
        | zero => simp [ne]
        | succ m => simpa using b m (by omega)
theorem RepAll.eraseInts {ns : List Int} {j : Nat} : RepAll K B ((ns.eraseIdx j).map V.int) ((ns.eraseIdx j).map PyData.int) := RepAll.ofInts _
theorem mt_core {m : Mt} {l : Addr} {vs as' : List V} {ds as ds' : List PyData} {Q : VK} (hl : H l = some (.lst vs)) (hB : Ext B H) (r : RepAll K B vs ds) (ra : RepAll K B as' as) (e : evMt m ds as = some ds')
    (k : ∀ vs', RepAll K B vs' ds' → Q .non (upd H l (.lst vs'))) : rMt m (.ref l) as' H Q := by
  cases m with
  | append =>
    match as, ra, e with
    | [d], .cons q .nil, e =>
      simp only [evMt] at e
      split at e
      · rename_i c
        cases e
        exact ⟨l, vs, _, rfl, rfl, hl, by rw [r.length]; exact c, k _ (r.append (.cons q .nil))⟩
      · cases e
    | [], _, e => simp [evMt] at e
    | _ :: _ :: _, _, e => simp [evMt] at e
  | extend =>
    match as, ra, e with
    | [.list ys], .cons q .nil, e =>
      simp only [evMt] at e
      split at e
      · rename_i c
        cases e
        cases q with
        | lst h1 h2 => exact ⟨l, _, vs, _, rfl, rfl, hl, hB _ _ h1, by rw [r.length, h2.length]; exact c, k _ (r.append h2)⟩
      · cases e
    | [], _, e => simp [evMt] at e
    | [.none], _, e => simp [evMt] at e
    | [.bool _], _, e => simp [evMt] at e
    | [.int _], _, e => simp [evMt] at e
    | [.str _], _, e => simp [evMt] at e
    | [.tuple _], _, e => simp [evMt] at e
    | [.dict _], _, e => simp [evMt] at e
    | _ :: _ :: _, _, e => simp [evMt] at e
  | insert =>
    match as, ra, e with
    | [.int i, d], .cons q (.cons q' .nil), e =>
      simp only [evMt] at e
      split at e
      · rename_i c
        cases e
        cases q
        refine ⟨l, vs, i, _, rfl, rfl, hl, by rw [r.length]; exact c.1, c.2.1, c.2.2, k _ (((r.take _).append (.cons q' .nil)).append (r.drop _))⟩
      · cases e
    | [], _, e => simp [evMt] at e
    | [_], _, e => simp [evMt] at e
    | [.none, _], _, e => simp [evMt] at e
    | [.bool _, _], _, e => simp [evMt] at e
    | [.str _, _], _, e => simp [evMt] at e
    | [.list _, _], _, e => simp [evMt] at e
    | [.tuple _, _], _, e => simp [evMt] at e
    | [.dict _, _], _, e => simp [evMt] at e
    | _ :: _ :: _ :: _, _, e => simp [evMt] at e
  | remove =>
    match as, ra, e with
    | [.int kk], .cons q .nil, e =>
      simp only [evMt] at e
      cases hn : asInts ds with
      | none => simp [hn] at e
      | some ns =>
        simp only [hn] at e
        cases hj : idxOfI ns kk with
        | none => simp [hj] at e
        | some j =>
          simp only [hj, Option.some.injEq] at e
          subst e
          cases q
          obtain ⟨z1, z2⟩ := idxOfI_ok hj
          have hv := r.ints hn
          subst hv
          exact ⟨l, ns, kk, j, rfl, rfl, hl, z1, z2, k _ RepAll.eraseInts⟩
    | [], _, e => simp [evMt] at e
    | [.none], _, e => simp [evMt] at e
    | [.bool _], _, e => simp [evMt] at e
    | [.list _], _, e => simp [evMt] at e
    | [.str _], _, e => simp [evMt] at e
    | [.tuple _], _, e => simp [evMt] at e
    | [.dict _], _, e => simp [evMt] at e
    | _ :: _ :: _, _, e => simp [evMt] at e
  | pop => simp [evMt] at e
  | popAt => simp [evMt] at e
theorem ls_meth {m : Mt} {i : Nat} {es : Es} (h : tS K mg F G (.meth m i es) D σ H) : tDrop (tBM K "list" (rMt m) (tVar i) (tEs K mg F G es)) D σ H := by
  obtain ⟨L, B0, H0, B, ρ, s, out, I, he, k⟩ := h
  simp only [evS] at he
  split at he
  · rename_i ds0 ho
    cases h1 : evEs F G es ρ s with
    | none => simp [h1] at he
    | some p =>
      obtain ⟨rs, s1⟩ := p
      simp only [h1] at he
      cases hm : embs rs with
      | none => simp [hm] at he
      | some as =>
        simp only [hm] at he
        cases hmt : evMt m ds0 as with
        | none => simp [ho, hmt] at he
        | some ds' =>
          simp only [ho, hmt, Option.some.injEq] at he
          subst he
          obtain ⟨l, vs, w1, w2, w3, w4, w5⟩ := I.rl.own i ds0 ho
          refine ⟨.ref l, w1, .inl ⟨rfl, vs, SqL.of w4⟩, L, B, ρ, s, rs, s1, I.rl, h1, fun xs B1 H1 I1 st1 q1 => ?_⟩
          have J := I.step I1 st1
          exact mt_core (st1.h l _ w3 w4) I1.ext (RepAll.mono st1.b _ _ w5) (emb_of q1 hm) hmt fun vs' r' => k σ B1 _ (J.mutOwn ho w1 r')
  · cases he
end
end Z

namespace Z
open PySem L2
/-! ## statements of the text -/
mutual
/-- the slots whose lists go into something that is kept -/
def escE : Bool → E → List Nat
  | t, .var i => if t then [i] else []
  | _, .cst _ => []
  | _, .glo _ => []
  | _, .fnv _ => []
  | _, .tup es => escEs true es
  | _, .lst es => escEs true es
  | _, .bin _ a b => escE false a ++ escE false b
  | _, .neg a => escE false a
  | _, .cmp _ a b => escE false a ++ escE false b
  | _, .chn _ _ a b c => escE false a ++ escE false b ++ escE false c
  | _, .andV a b => escE false a ++ escE false b
  | _, .orV a b => escE false a ++ escE false b
  | _, .notV a => escE false a
  | t, .ite w a b => escT w ++ escE t a ++ escE t b
  | _, .ix a b => escE false a ++ escE false b
  | _, .sl a _ _ => escE false a
  | _, .call _ es => escEs false es
  | _, .callV _ es => escEs false es
  | _, .blt _ es => escEs false es
  | _, .isi a _ => escE false a
  | _, .lc e _ it ifs own => (escE true e ++ escTs ifs).filter (fun i => !own.contains i) ++ escIt it
def escEs : Bool → Es → List Nat
  | _, .nil => []
  | t, .cons e es => escE t e ++ escEs t es
def escT : T → List Nat
  | .and a b => escT a ++ escT b
  | .or a b => escT a ++ escT b
  | .not a => escT a
  | .e a => escE false a
def escTs : Ts → List Nat
  | .nil => []
  | .cons t ts => escT t ++ escTs ts
def escIt : Z.It → List Nat
  | .range es => escEs false es
  | .seq e => escE false e
  | .enum e => escE false e
  | .zip a b => escE false a ++ escE false b
end
def mtOf (x : Str) (n : Nat) : Option Mt :=
  if x = "append" ∧ n = 1 then some .append else if x = "extend" ∧ n = 1 then some .extend else if x = "insert" ∧ n = 2 then some .insert else if x = "remove" ∧ n = 1 then some .remove else none
def mtStr : Mt → Str
  | .append => "append"
  | .extend => "extend"
  | .insert => "insert"
  | .remove => "remove"
  | _ => "pop"
def isTup : Expr → Bool
  | .Tuple _ _ _ => true
  | _ => false
def isStar : Expr → Bool
  | .Starred _ _ => true
  | _ => false
/-- a, b = x, y that is stored name by name -/
def swapB (S : Sx) (ts vs : List Expr) (xs : List Str) : Bool :=
  (match S.sc.kind with | .function => true | _ => false) && (!(vs.any isStar)) && (!vs.all (foldedForSure 8)) && (!vs.all (constantsAlone 8)) && (xs.all fun x => match S.sc.names.lookup x with | some .local => true | _ => false) && (xs.eraseDups.length == xs.length) &&
    (match ts with
      | [.Name x p, .Name y q] => decide (xs = [x, y]) && (q.line == p.line) && (vs.length == 2)
      | [.Name x p, .Name y q, .Name z r] => decide (xs = [x, y, z]) && (q.line == p.line) && (r.line == p.line) && (vs.length == 3)
      | _ => false)
mutual
def cmpS : Nat → Sx → Stmt → Option (List Nat × S)
  | 0, _, _ => none
  | n + 1, S, st => match st with
    | .Pass _ => some ([], .pass)
    | .Assign [.Name x px] e _ => if locB S x = true then (match idx S.N x with
      | some i => match cmpE n S e with
        | some c => some (escE true c, .asg (.name i) c)
        | none => none
      | none => none) else none
    | .Assign [.Tuple ts kt pt] e pos => match cmpTg n S (.Tuple ts kt pt) with
      | some (.tup g) =>
        if isTup e = true then (match ts, e with
          | [.Name x px, .Name y py], .Tuple [a, b] k2 pt2 =>
            if swapB S ts [a, b] [x, y] = true then (match idx S.N x with
              | some i => match idx S.N y with
                | some j => if i = j then none else match cmpE n S a with
                  | some ca => match cmpE n S b with
                    | some cb => some (escE true ca ++ escE true cb, .par i j ca cb)
                    | none => none
                  | none => none
                | none => none
              | none => none)
            else if [a, b].all (foldedForSure 8) = true then (match cmpE n S (.Tuple [a, b] k2 pt2) with
              | some c => some (escE true c, .asg (.tup g) c)
              | none => none) else none
          | [.Name x px, .Name y py, .Name z pz], .Tuple [a, b, d] k2 pt2 =>
            if swapB S ts [a, b, d] [x, y, z] = true then (match idx S.N x with
              | some i => match idx S.N y with
                | some j => match idx S.N z with
                  | some l => if i = j ∨ i = l ∨ j = l then none else match cmpE n S a with
                    | some ca => match cmpE n S b with
                      | some cb => match cmpE n S d with
                        | some cd => some (escE true ca ++ escE true cb ++ escE true cd, .par3 i j l ca cb cd)
                        | none => none
                      | none => none
                    | none => none
                  | none => none
                | none => none
              | none => none)
            else none
          | _, _ => none)
        else (match cmpE n S e with
          | some c => some (escE true c, .asg (.tup g) c)
          | none => none)
      | _ => none
    | .Assign [.Subscript (.Name x px) kx ps] e _ => if okName x = true ∧ visB S.sc x = true then (match idx S.N x with
      | some i => match cmpE n S kx with
        | some ck => match cmpE n S e with
          | some c => some (escE true c, .setix i ck c)
          | none => none
        | none => none
      | none => none) else none
    | .AugAssign (.Name x px) op e _ => if locB S x = true then (match idx S.N x with
      | some i => match cmpE n S e with
        | some c => match op with
          | .Add => some ([], .aug i .add c)
          | .Sub => some ([], .aug i .sub c)
          | _ => none
        | none => none
      | none => none) else none
    | .Expr (.Call (.Attribute (.Name x px) m ap) (a :: as) [] cp) _ => if okName x = true ∧ visB S.sc x = true ∧ (ap.endLine == cp.line) = true ∧ as.length ≤ 1 then (match idx S.N x with
      | some i => match mtOf m (as.length + 1) with
        | some mm => match cmpEs n S (a :: as) with
          | some cs => some (escEs true cs, .meth mm i cs)
          | none => none
        | none => none
      | none => none) else none
    | .Return (some e) _ => match cmpE n S e with
      | some c => some (escE false c, .ret c)
      | none => none
    | .Return none _ => some ([], .retN)
    | .If t a b _ => match cmpT n S t with
      | some ct => match cmpSs n S a with
        | some ca => match cmpSs n S b with
          | some cb => some (escT ct, .if ct ca cb)
          | none => none
        | none => none
      | none => none
    | .For tg it b [] _ => match cmpTg n S tg with
      | some g => match cmpIt n S tg it with
        | some ci => match cmpSs n S b with
          | some cb => some ((match ci with | .seq e => escE true e | .enum e => escE true e | .zip e f => escE true e ++ escE true f | c => escIt c), .for g ci cb)
          | none => none
        | none => none
      | none => none
    | .While t b [] _ => match cmpT n S t with
      | some ct => match cmpSs n S b with
        | some cb => some ([], .while ct cb)
        | none => none
      | none => none
    | .Break _ => some ([], .brk)
    | .Continue _ => some ([], .cont)
    | .Raise _ _ _ => some ([], .never)
    | _ => none
def cmpSs : Nat → Sx → List Stmt → Option Ss
  | 0, _, _ => none
  | n + 1, S, sts => match sts with
    | [] => some .nil
    | st :: r => match cmpS n S st with
      | some ([], c) => match cmpSs n S r with
        | some cs => some (.cons c cs)
        | none => none
      | some (is, c) => match cmpSs n S r with
        | some cs => some (.frz is (.cons c cs))
        | none => none
      | none => some (.cons .never .nil)
end
/-! ## sound -/
theorem swaps_ne {e tg : Expr} {l : Nat} {env : PySem.Env} (h : ∀ x p, tg ≠ .Name x p) : swapsWithSole [tg] e l env = pure false := by
  show swapsWith e (some tg) l env = pure false
  unfold swapsWith
  cases e <;> first | rfl | skip
  all_goals (cases tg <;> first | rfl | exact absurd rfl (h _ _))
theorem swapped_no {ts : List Expr} {kt : Nat} {pt : Pos} {e : Expr} {env : PySem.Env} (h : isTup e = false) : swappedStores [.Tuple ts kt pt] e env = pure none := by
  cases e <;> first | rfl | (cases h; done)
def namesOf (env : PySem.Env) (ts : List Expr) : List Str :=
  let line := (ts.head?.map (·.pos.line)).getD 0
  ts.filterMap fun
    | .Name id pos => if env.kindOf id == some .local && pos.line == line then some id else none
    | _ => none
theorem sw_eq {ts vs : List Expr} {kt k2 : Nat} {pt pt2 : Pos} {env : PySem.Env} : swappedStores [.Tuple ts kt pt] (.Tuple vs k2 pt2) env =
  (if (!(ts.length == 2 || ts.length == 3) || vs.length != ts.length || env.blockKind != .function) = true then pure none else
   if (vs.any fun | .Starred .. => true | _ => false) = true then pure none else
   if ((namesOf env ts).length != ts.length || (namesOf env ts).eraseDups.length != (namesOf env ts).length) = true then pure none else
   if vs.all (foldedForSure 8) = true then pure none else
   if vs.all (constantsAlone 8) = true then (do unsupported "assign.tuple-of-constant-expressions:order-of-the-stores"; pure (some (namesOf env ts))) else pure (some (namesOf env ts))) := by
  rfl
theorem swapped_const {ts vs : List Expr} {kt k2 : Nat} {pt pt2 : Pos} {env : PySem.Env} (h : vs.all (foldedForSure 8) = true) : swappedStores [.Tuple ts kt pt] (.Tuple vs k2 pt2) env = pure none := by
  rw [sw_eq]
  split
  · rfl
  split
  · rfl
  split
  · rfl
  first | rfl | rw [if_pos h]
theorem swapB_local {S : Sx} {ts vs : List Expr} {xs : List Str} {env : PySem.Env} (hs : env.scope = S.sc) (h : swapB S ts vs xs = true) : env.scope.kind = .function ∧ (vs.any fun | .Starred .. => true | _ => false) = false ∧ vs.all (foldedForSure 8) = false ∧ vs.all (constantsAlone 8) = false ∧
    (∀ x ∈ xs, env.scope.names.lookup x = some .local) ∧ xs.eraseDups.length = xs.length := by
  unfold swapB at h
  simp only [Bool.and_eq_true] at h
  obtain ⟨⟨⟨⟨⟨⟨h1, h2⟩, h3⟩, h4⟩, h5⟩, h6⟩, _⟩ := h
  refine ⟨?_, ?_, ?_, ?_, fun x hx => ?_, by simpa using h6⟩
  · rw [hs]; cases q : S.sc.kind <;> simp [q] at h1; rfl
  · have : vs.any isStar = false := by simpa only [Bool.not_eq_true'] using h2
    have e : (fun | .Starred .. => true | _ => false : Expr → Bool) = isStar := by funext e; cases e <;> rfl
    exact (congrArg (fun f => vs.any f) e).trans this
  · simpa only [Bool.not_eq_true'] using h3
  · simpa only [Bool.not_eq_true'] using h4
  · rw [hs]
    rw [List.all_eq_true] at h5
    have := h5 x hx
    cases q : S.sc.names.lookup x with
    | none => simp [q] at this
    | some k => cases k <;> simp [q] at this ⊢
theorem swapped_yes2 {S : Sx} {x y : Str} {px py : Pos} {a b : Expr} {kt k2 : Nat} {pt pt2 : Pos} {env : PySem.Env} (hs : env.scope = S.sc) (h : swapB S [.Name x px, .Name y py] [a, b] [x, y] = true) :
    swappedStores [.Tuple [.Name x px, .Name y py] kt pt] (.Tuple [a, b] k2 pt2) env = pure (some [x, y]) := by
  obtain ⟨h1, h2, h3, h4, h5, h6⟩ := swapB_local hs h
  have kx : (env.kindOf x == some .local) = true := by have : env.kindOf x = some .local := h5 x (by simp); rw [this]; rfl
  have ky : (env.kindOf y == some .local) = true := by have : env.kindOf y = some .local := h5 y (by simp); rw [this]; rfl
  have hb : env.blockKind = .function := by unfold Env.blockKind; rw [h1]; rfl
  have h8 : (py.line == px.line) = true := by
    unfold swapB at h
    simp only [Bool.and_eq_true] at h
    exact h.2.1.2
  have hn : namesOf env [Expr.Name x px, .Name y py] = [x, y] := by
    show (List.filterMap (fun | .Name id pos => if (env.kindOf id == some .local && pos.line == px.line) = true then some id else none | _ => none) [Expr.Name x px, .Name y py]) = _
    simp only [List.filterMap_cons, List.filterMap_nil, kx, ky, h8, beq_self_eq_true, Bool.and_self, if_true]
  rw [sw_eq]
  rw [if_neg (by simp [hb]), if_neg (by rw [h2]; exact Bool.false_ne_true)]
  rw [hn, if_neg (by rw [h6]; simp), if_neg (by rw [h3]; exact Bool.false_ne_true), if_neg (by rw [h4]; exact Bool.false_ne_true)]
theorem swapped_yes3 {S : Sx} {x y z : Str} {px py pz : Pos} {a b c : Expr} {kt k2 : Nat} {pt pt2 : Pos} {env : PySem.Env} (hs : env.scope = S.sc) (h : swapB S [.Name x px, .Name y py, .Name z pz] [a, b, c] [x, y, z] = true) :
    swappedStores [.Tuple [.Name x px, .Name y py, .Name z pz] kt pt] (.Tuple [a, b, c] k2 pt2) env = pure (some [x, y, z]) := by
  obtain ⟨h1, h2, h3, h4, h5, h6⟩ := swapB_local hs h
  have kx : (env.kindOf x == some .local) = true := by have : env.kindOf x = some .local := h5 x (by simp); rw [this]; rfl
  have ky : (env.kindOf y == some .local) = true := by have : env.kindOf y = some .local := h5 y (by simp); rw [this]; rfl
  have kz : (env.kindOf z == some .local) = true := by have : env.kindOf z = some .local := h5 z (by simp); rw [this]; rfl
  have hb : env.blockKind = .function := by unfold Env.blockKind; rw [h1]; rfl
  have h8 : (py.line == px.line) = true ∧ (pz.line == px.line) = true := by
    unfold swapB at h
    simp only [Bool.and_eq_true] at h
    exact ⟨h.2.1.1.2, h.2.1.2⟩
  have hn : namesOf env [Expr.Name x px, .Name y py, .Name z pz] = [x, y, z] := by
    show (List.filterMap (fun | .Name id pos => if (env.kindOf id == some .local && pos.line == px.line) = true then some id else none | _ => none) [Expr.Name x px, .Name y py, .Name z pz]) = _
    simp only [List.filterMap_cons, List.filterMap_nil, kx, ky, kz, h8, beq_self_eq_true, Bool.and_self, if_true]
  rw [sw_eq]
  rw [if_neg (by simp [hb]), if_neg (by rw [h2]; exact Bool.false_ne_true)]
  rw [hn, if_neg (by rw [h6]; simp), if_neg (by rw [h3]; exact Bool.false_ne_true), if_neg (by rw [h4]; exact Bool.false_ne_true)]
section
variable {F : Str → List Slot → DS → Option (R × DS)} {G : Str → Option PyData} {k : Nat} {fns glos : List Str} {n : Nat} {S : Sx} {X : Cx}
structure SndS (F : Str → List Slot → DS → Option (R × DS)) (G : Str → Option PyData) (fns glos : List Str) (k n : Nat) : Prop where
  s : ∀ (S : Sx) (X : Cx) (st : Stmt) (is : List Nat) (c : Z.S), S.fns = fns → S.glos = glos → XR S X → Wd F G fns glos k X → PassesOwn (model X.prog X.w) X.A X.env X.xe → cmpS n S st = some (is, c) → PS X st (tS X.K X.mg F G c)
  ss : ∀ (S : Sx) (X : Cx) (st : List Stmt) (c : Ss), S.fns = fns → S.glos = glos → XR S X → Wd F G fns glos k X → PassesOwn (model X.prog X.w) X.A X.env X.xe → cmpSs n S st = some c → PSs X st (tSs X.K X.mg F G c)
theorem loc_of {x : Str} (R : XR S X) (h : locB S x = true) : L2.Loc X.env.scope x ∧ (X.fn x = true ∨ X.env.scope.names.lookup x = some .local) := by
  unfold locB at h
  unfold L2.Loc
  rw [R.sc]
  cases q : S.sc.names.lookup x with
  | none => simp [q] at h
  | some kk =>
    simp only [q] at h
    cases kk <;> first | (cases h; done) | skip
    · exact ⟨.inl rfl, .inr rfl⟩
    · exact ⟨.inr rfl, .inl (R.fn x h)⟩
theorem ps_setE {x : Str} {i : Nat} {e : Expr} {c : E} {px pos : Pos} {m : Nat} (R : XR S X) (hl : locB S x = true) (hi : idx S.N x = some i) (he : PE X e (tE X.K X.mg F G c)) (hlc : ∀ elt gs scope p, e = .ListComp elt gs scope p → PS X (.Assign [.Name x px] e pos) (tAsg (tE X.K X.mg F G c) (gName i)))
    (hc : cmpE m S e = some c) : PS X (.Assign [.Name x px] e pos) (tAsg (tE X.K X.mg F G c) (gName i)) := by
  obtain ⟨l1, l2⟩ := loc_of R hl
  have hN : X.N[i]? = some x := by rw [R.N]; exact idx_get hi
  cases m with
  | zero => simp [cmpE] at hc
  | succ m =>
    cases e <;> first | (exact hlc _ _ _ _ rfl) | (simp [cmpE] at hc; done) | (exact ps_set (by rw [R.N]; exact R.nd) hN l1 he rfl l2)
theorem snd_asgN (S : Sx) (X : Cx) (x : Str) (px pos : Pos) (e : Expr) (i : Nat) (c : E) (h1 : S.fns = fns) (h2 : S.glos = glos) (R : XR S X) (W : Wd F G fns glos k X) (hl : locB S x = true) (hi : idx S.N x = some i) (hc : cmpE n S e = some c) :
    PS X (.Assign [.Name x px] e pos) (tS X.K X.mg F G (.asg (.name i) c)) := by
  refine ps_mono (ps_setE R hl hi ((sndN n).e S X e c h1 h2 R W hc) (fun elt gs scope p he => ?_) hc) fun _ _ _ => ls_asgN
  subst he
  obtain ⟨l1, l2⟩ := loc_of R hl
  have hN : X.N[i]? = some x := by rw [R.N]; exact idx_get hi
  cases n with
  | zero => simp [cmpE] at hc
  | succ n =>
    obtain ⟨tg, it, ifs, rfl⟩ : ∃ tg it ifs, gs = [⟨tg, it, ifs, 0⟩] := by
      unfold cmpE at hc
      split at hc
      all_goals first | (cases hc; done) | skip
      all_goals (rename_i hx; cases hx)
      exact ⟨_, _, _, rfl⟩
    obtain ⟨g, ci, ct, ce, rfl, hs, hit, p1, p2, p3, p4, p5⟩ := snd_lcE (sndN n) S X elt tg it ifs scope p c h1 h2 R W hc
    cases hsw : (X.env.blockKind == .function && X.env.kindOf x == some .local && px.line == p.line && !(scope.names.any fun (n, k) => n == x && (k == .local || k == .cell))) with
    | true =>
      have hw : swapsWith (.ListComp elt [⟨tg, it, ifs, 0⟩] scope p) (some (.Name x px)) pos.line X.env = pure true := by
        show (pure (X.env.blockKind == .function && X.env.kindOf x == some .local && px.line == p.line && !(scope.names.any fun (n, k) => n == x && (k == .local || k == .cell))) : Sem Bool) = pure true
        rw [hsw]
      have hloc : X.env.scope.names.lookup x = some .local := by
        simp only [Bool.and_eq_true] at hsw
        have q := hsw.1.1.2
        have q' : X.env.kindOf x = some .local := by simpa using q
        exact q'
      exact ps_mono (ps_setLc R.calm (by rw [R.N]; exact R.nd) hN hloc hw p1 p2 p3 p4 p5 (it_noFold hit X.env)) fun D σ H q => le_lc hs q
    | false =>
      have hw : swapsWith (.ListComp elt [⟨tg, it, ifs, 0⟩] scope p) (some (.Name x px)) pos.line X.env = pure false := by
        show (pure (X.env.blockKind == .function && X.env.kindOf x == some .local && px.line == p.line && !(scope.names.any fun (n, k) => n == x && (k == .local || k == .cell))) : Sem Bool) = pure false
        rw [hsw]
      exact ps_set (by rw [R.N]; exact R.nd) hN l1 ((sndN (n + 1)).e S X _ _ h1 h2 R W hc) hw l2
end
end Z

namespace Z
open PySem L2
section
variable {F : Str → List Slot → DS → Option (R × DS)} {G : Str → Option PyData} {k : Nat} {fns glos : List Str} {n : Nat}
theorem tg_tup {n : Nat} {S : Sx} {ts : List Expr} {kt : Nat} {pt : Pos} {t : Tg} (h : cmpTg n S (.Tuple ts kt pt) = some t) : ∃ g, t = .tup g := by
  cases n with
  | zero => simp [cmpTg] at h
  | succ n =>
    simp only [cmpTg] at h
    cases h1 : cmpTgs n S ts with
    | none => simp [h1] at h
    | some g =>
      simp only [h1, Option.some.injEq] at h
      exact ⟨g, h.symm⟩
theorem snd_asgT (S : Sx) (X : Cx) (ts : List Expr) (kt : Nat) (pt pos : Pos) (e : Expr) (g : Tgs) (c : E) (h1 : S.fns = fns) (h2 : S.glos = glos) (R : XR S X) (W : Wd F G fns glos k X) (ht : cmpTg n S (.Tuple ts kt pt) = some (.tup g)) (hc : cmpE n S e = some c)
    (hw : swappedStores [.Tuple ts kt pt] e X.env = pure none) : PS X (.Assign [.Tuple ts kt pt] e pos) (tS X.K X.mg F G (.asg (.tup g) c)) :=
  ps_mono (ps_asg ((sndN n).e S X e c h1 h2 R W hc) ((tg_ok n).1 S X _ _ R ht) (swaps_ne fun _ _ z => by cases z) hw rfl) fun _ _ _ => ls_asgT
theorem assign_sub {o i : Expr} {pos : Pos} {env : PySem.Env} (h : ∀ lo hi st p, i ≠ .Slice lo hi st p) : ∀ v, assign (.Subscript o i pos) env v = (do
      let ov ← holding [v] (eval o env)
      let iv ← holding [v, ov] (eval i env)
      standAt pos
      holding [v, ov, iv] (setItem ov iv v)
      release [v, ov, iv] []) := by
  intro v
  cases i <;> first | rfl | exact absurd rfl (h _ _ _ _)
theorem e_noSlice {n : Nat} {S : Sx} {e : Expr} {c : E} (h : cmpE n S e = some c) : ∀ lo hi st p, e ≠ .Slice lo hi st p := by
  intro lo hi st p z
  subst z
  cases n with
  | zero => simp [cmpE] at h
  | succ n => simp [cmpE] at h
theorem snd_setix (S : Sx) (X : Cx) (x : Str) (px ps pos : Pos) (kx e : Expr) (i : Nat) (ck c : E) (h1 : S.fns = fns) (h2 : S.glos = glos) (R : XR S X) (W : Wd F G fns glos k X) (hok : okName x = true) (hv : visB S.sc x = true) (hi : idx S.N x = some i) (hk : cmpE n S kx = some ck) (hc : cmpE n S e = some c) :
    PS X (.Assign [.Subscript (.Name x px) kx ps] e pos) (tS X.K X.mg F G (.setix i ck c)) := by
  obtain ⟨d1, d2, d3⟩ := ok_dbg hok
  have ho : PE X (.Name x px) (tVar i) := pe_var (by rw [R.N]; exact idx_get hi) (vis_of R hv) d1 d2
  refine ps_mono (ps_asg ((sndN n).e S X e c h1 h2 R W hc) (pg_sub ho ((sndN n).e S X kx ck h1 h2 R W hk) set_list (assign_sub (e_noSlice hk))) (swaps_ne fun _ _ z => by cases z) ?_ rfl) fun _ _ _ => ls_setix
  unfold swappedStores
  cases e <;> rfl
theorem snd_aug (S : Sx) (X : Cx) (x : Str) (px pos : Pos) (e : Expr) (i : Nat) (c : E) (op : Operator) (o : BOp) (h1 : S.fns = fns) (h2 : S.glos = glos) (R : XR S X) (W : Wd F G fns glos k X) (hl : locB S x = true) (hi : idx S.N x = some i) (hc : cmpE n S e = some c)
    (ho : (op = .Add ∧ o = .add) ∨ (op = .Sub ∧ o = .sub)) : PS X (.AugAssign (.Name x px) op e pos) (tS X.K X.mg F G (.aug i o c)) := by
  obtain ⟨l1, l2⟩ := loc_of R hl
  have hN : X.N[i]? = some x := by rw [R.N]; exact idx_get hi
  have he := (sndN n).e S X e c h1 h2 R W hc
  rcases ho with ⟨rfl, rfl⟩ | ⟨rfl, rfl⟩
  · refine ps_mono (ps_aug (by rw [R.N]; exact R.nd) hN l1 he ip_add l2) fun D σ H q => ?_
    rcases ls_aug q with ⟨_, q⟩ | ⟨z, _⟩
    · exact q
    · cases z
  · refine ps_mono (ps_aug (by rw [R.N]; exact R.nd) hN l1 he ip_sub l2) fun D σ H q => ?_
    rcases ls_aug q with ⟨z, _⟩ | ⟨_, q⟩
    · cases z
    · exact q
theorem snd_meth (S : Sx) (X : Cx) (x m : Str) (px ap cp pos : Pos) (a : Expr) (as : List Expr) (i : Nat) (mm : Mt) (cs : Es) (h1 : S.fns = fns) (h2 : S.glos = glos) (R : XR S X) (W : Wd F G fns glos k X) (hok : okName x = true) (hv : visB S.sc x = true) (hln : (ap.endLine == cp.line) = true) (hla : as.length ≤ 1)
    (hi : idx S.N x = some i) (hm : mtOf m (as.length + 1) = some mm) (hc : cmpEs n S (a :: as) = some cs) : PS X (.Expr (.Call (.Attribute (.Name x px) m ap) (a :: as) [] cp) pos) (tS X.K X.mg F G (.meth mm i cs)) := by
  obtain ⟨d1, d2, d3⟩ := ok_dbg hok
  have ho : PE X (.Name x px) (tVar i) := pe_var (by rw [R.N]; exact idx_get hi) (vis_of R hv) d1 d2
  have pa := (sndN n).es S X (a :: as) cs h1 h2 R W hc
  obtain ⟨⟨q, ca, hca⟩, q', cb, hcb⟩ := es_parts hc
  have s1 : starEach (a :: as) X.env = (false, eval a X.env) :: starEach as X.env := e_noStar hca _ _
  have s2 : (backTo cp (starEach as X.env)).any (·.1) = false := es_noStar hcb
  have few : ((backTo cp (starEach (a :: as) X.env)).all (fun x => !x.1) && (backToKw cp (keywordEach [] X.env)).all (fun x => x.1.isSome) && decide ((a :: as).length + ([] : List Keyword).length + (if ([] : List Keyword).isEmpty then 0 else 1) < 30)) = true := by
    match as, hla, hcb with
    | [], _, _ => rw [s1]; rfl
    | [b], _, hcb =>
      obtain ⟨⟨q2, cc, hcc⟩, _⟩ := es_parts hcb
      rw [s1, e_noStar hcc]; rfl
    | _ :: _ :: _, h, _ => simp at h
  unfold mtOf at hm
  split at hm
  · rename_i e; cases hm; obtain ⟨e, _⟩ := e; subst e
    exact ps_mono (ps_expr (pe_bm PySem.F.plainAttrs_list PySem.F.slot_list_append PySem.F.type_list_append mt_append ho pa rfl few hln s1 s2)) fun _ _ _ => ls_meth
  split at hm
  · rename_i e; cases hm; obtain ⟨e, _⟩ := e; subst e
    exact ps_mono (ps_expr (pe_bm PySem.F.plainAttrs_list PySem.F.slot_list_extend PySem.F.type_list_extend mt_extend ho pa rfl few hln s1 s2)) fun _ _ _ => ls_meth
  split at hm
  · rename_i e; cases hm; obtain ⟨e, _⟩ := e; subst e
    exact ps_mono (ps_expr (pe_bm PySem.F.plainAttrs_list PySem.F.slot_list_insert PySem.F.type_list_insert mt_insert ho pa rfl few hln s1 s2)) fun _ _ _ => ls_meth
  split at hm
  · rename_i e; cases hm; obtain ⟨e, _⟩ := e; subst e
    exact ps_mono (ps_expr (pe_bm PySem.F.plainAttrs_list PySem.F.slot_list_remove PySem.F.type_list_remove mt_remove ho pa rfl few hln s1 s2)) fun _ _ _ => ls_meth
  cases hm
theorem snd_tuple (S : Sx) (X : Cx) (ts : List Expr) (kt : Nat) (pt pos : Pos) (e : Expr) (is : List Nat) (c : Z.S) (h1 : S.fns = fns) (h2 : S.glos = glos) (R : XR S X) (W : Wd F G fns glos k X) (h : cmpS (n + 1) S (.Assign [.Tuple ts kt pt] e pos) = some (is, c)) :
    PS X (.Assign [.Tuple ts kt pt] e pos) (tS X.K X.mg F G c) := by
  simp only [cmpS] at h
  cases ht : cmpTg n S (.Tuple ts kt pt) with
  | none => simp [ht] at h
  | some t =>
    obtain ⟨g, rfl⟩ := tg_tup ht
    simp only [ht] at h
    split at h
    · rename_i hte
      split at h
      · rename_i x px y py a b k2 pt2
        split at h
        · rename_i hsw
          cases hi : idx S.N x with
          | none => simp [hi] at h
          | some i =>
            cases hj : idx S.N y with
            | none => simp [hi, hj] at h
            | some j =>
              simp only [hi, hj] at h
              split at h
              · cases h
              · rename_i hij
                cases ha : cmpE n S a with
                | none => simp [ha] at h
                | some ca =>
                  cases hb : cmpE n S b with
                  | none => simp [ha, hb] at h
                  | some cb =>
                    simp only [ha, hb, Option.some.injEq, Prod.mk.injEq] at h
                    obtain ⟨_, rfl⟩ := h
                    obtain ⟨z1, z2, z3, z4, z5, z6⟩ := swapB_local R.sc hsw
                    have N1 : X.N[i]? = some x := by rw [R.N]; exact idx_get hi
                    have N2 : X.N[j]? = some y := by rw [R.N]; exact idx_get hj
                    have pa : PA X [a, b] (tCons (tE X.K X.mg F G ca) (tCons (tE X.K X.mg F G cb) tNil)) := pa_cons ((sndN n).e S X a ca h1 h2 R W ha) (pa_cons ((sndN n).e S X b cb h1 h2 R W hb) pa_nil (e_noStar hb _ _)) (e_noStar ha _ _)
                    exact ps_mono (ps_par R.calm (by rw [R.N]; exact R.nd) N1 N2 hij (z5 x (by simp)) (z5 y (by simp)) pa (swapped_yes2 R.sc hsw)) fun _ _ _ => ls_par
        · split at h
          · rename_i hf
            cases hc : cmpE n S (.Tuple [a, b] k2 pt2) with
            | none => simp [hc] at h
            | some c' =>
              simp only [hc, Option.some.injEq, Prod.mk.injEq] at h
              obtain ⟨_, rfl⟩ := h
              exact snd_asgT S X _ _ _ _ _ g c' h1 h2 R W ht hc (swapped_const hf)
          · cases h
      · rename_i x px y py z pz a b d k2 pt2
        split at h
        · rename_i hsw
          cases hi : idx S.N x with
          | none => simp [hi] at h
          | some i =>
            cases hj : idx S.N y with
            | none => simp [hi, hj] at h
            | some j =>
              cases hl : idx S.N z with
              | none => simp [hi, hj, hl] at h
              | some l =>
                simp only [hi, hj, hl] at h
                split at h
                · cases h
                · rename_i hij
                  simp only [not_or] at hij
                  cases ha : cmpE n S a with
                  | none => simp [ha] at h
                  | some ca =>
                    cases hb : cmpE n S b with
                    | none => simp [ha, hb] at h
                    | some cb =>
                      cases hd : cmpE n S d with
                      | none => simp [ha, hb, hd] at h
                      | some cd =>
                        simp only [ha, hb, hd, Option.some.injEq, Prod.mk.injEq] at h
                        obtain ⟨_, rfl⟩ := h
                        obtain ⟨z1, z2, z3, z4, z5, z6⟩ := swapB_local R.sc hsw
                        have N1 : X.N[i]? = some x := by rw [R.N]; exact idx_get hi
                        have N2 : X.N[j]? = some y := by rw [R.N]; exact idx_get hj
                        have N3 : X.N[l]? = some z := by rw [R.N]; exact idx_get hl
                        have pa : PA X [a, b, d] (tCons (tE X.K X.mg F G ca) (tCons (tE X.K X.mg F G cb) (tCons (tE X.K X.mg F G cd) tNil))) :=
                          pa_cons ((sndN n).e S X a ca h1 h2 R W ha) (pa_cons ((sndN n).e S X b cb h1 h2 R W hb) (pa_cons ((sndN n).e S X d cd h1 h2 R W hd) pa_nil (e_noStar hd _ _)) (e_noStar hb _ _)) (e_noStar ha _ _)
                        exact ps_mono (ps_par3 R.calm (by rw [R.N]; exact R.nd) N1 N2 N3 hij.1 hij.2.1 hij.2.2 (z5 x (by simp)) (z5 y (by simp)) (z5 z (by simp)) pa (swapped_yes3 R.sc hsw)) fun _ _ _ => ls_par3
        · cases h
      · cases h
    · rename_i hte
      cases hc : cmpE n S e with
      | none => simp [hc] at h
      | some c' =>
        simp only [hc, Option.some.injEq, Prod.mk.injEq] at h
        obtain ⟨_, rfl⟩ := h
        exact snd_asgT S X _ _ _ _ _ g c' h1 h2 R W ht hc (swapped_no (Bool.eq_false_iff.mpr hte))
theorem snd_s (ih : SndS F G fns glos k n) (S : Sx) (X : Cx) (st : Stmt) (is : List Nat) (c : Z.S) (h1 : S.fns = fns) (h2 : S.glos = glos) (R : XR S X) (W : Wd F G fns glos k X) (po : PassesOwn (model X.prog X.w) X.A X.env X.xe) (h : cmpS (n + 1) S st = some (is, c)) : PS X st (tS X.K X.mg F G c) := by
  have h0 := h
  unfold cmpS at h
  split at h
  · cases h; exact ps_mono ps_pass fun _ _ _ => ls_pass
  · rename_i x px e pos
    split at h
    · rename_i hl
      cases hi : idx S.N x with
      | none => simp [hi] at h
      | some i =>
        cases hc : cmpE n S e with
        | none => simp [hi, hc] at h
        | some c' =>
          simp only [hi, hc, Option.some.injEq, Prod.mk.injEq] at h
          obtain ⟨_, rfl⟩ := h
          exact snd_asgN S X x px pos e i c' h1 h2 R W hl hi hc
    · cases h
  · exact snd_tuple S X _ _ _ _ _ is c h1 h2 R W h0
  · rename_i x px kx ps e pos
    split at h
    · rename_i hl
      cases hi : idx S.N x with
      | none => simp [hi] at h
      | some i =>
        cases hk : cmpE n S kx with
        | none => simp [hi, hk] at h
        | some ck =>
          cases hc : cmpE n S e with
          | none => simp [hi, hk, hc] at h
          | some c' =>
            simp only [hi, hk, hc, Option.some.injEq, Prod.mk.injEq] at h
            obtain ⟨_, rfl⟩ := h
            exact snd_setix S X x px ps pos kx e i ck c' h1 h2 R W hl.1 hl.2 hi hk hc
    · cases h
  · rename_i x px op e pos
    split at h
    · rename_i hl
      cases hi : idx S.N x with
      | none => simp [hi] at h
      | some i =>
        cases hc : cmpE n S e with
        | none => simp [hi, hc] at h
        | some c' =>
          simp only [hi, hc] at h
          cases op <;> first | (cases h; done) | skip
          · cases h; exact snd_aug S X x px pos e i c' _ _ h1 h2 R W hl hi hc (.inl ⟨rfl, rfl⟩)
          · cases h; exact snd_aug S X x px pos e i c' _ _ h1 h2 R W hl hi hc (.inr ⟨rfl, rfl⟩)
    · cases h
  · rename_i x px m ap a as cp pos
    split at h
    · rename_i hl
      cases hi : idx S.N x with
      | none => simp [hi] at h
      | some i =>
        cases hm : mtOf m (as.length + 1) with
        | none => simp [hi, hm] at h
        | some mm =>
          cases hc : cmpEs n S (a :: as) with
          | none => simp [hi, hm, hc] at h
          | some cs =>
            simp only [hi, hm, hc, Option.some.injEq, Prod.mk.injEq] at h
            obtain ⟨_, rfl⟩ := h
            exact snd_meth S X x m px ap cp pos a as i mm cs h1 h2 R W hl.1 hl.2.1 hl.2.2.1 hl.2.2.2 hi hm hc
    · cases h
  · rename_i e pos
    cases hc : cmpE n S e with
    | none => simp [hc] at h
    | some c' =>
      simp only [hc, Option.some.injEq, Prod.mk.injEq] at h
      obtain ⟨_, rfl⟩ := h
      exact ps_mono (ps_ret ((sndN n).e S X e c' h1 h2 R W hc)) fun _ _ _ => ls_ret
  · cases h; exact ps_mono ps_retN fun _ _ _ => ls_retN
  · rename_i t a b pos
    cases ht : cmpT n S t with
    | none => simp [ht] at h
    | some ct =>
      cases ha : cmpSs n S a with
      | none => simp [ht, ha] at h
      | some ca =>
        cases hb : cmpSs n S b with
        | none => simp [ht, ha, hb] at h
        | some cb =>
          simp only [ht, ha, hb, Option.some.injEq, Prod.mk.injEq] at h
          obtain ⟨_, rfl⟩ := h
          exact ps_mono (ps_if ((sndN n).t S X t ct h1 h2 R W ht) (ih.ss S X a ca h1 h2 R W po ha) (ih.ss S X b cb h1 h2 R W po hb)) fun _ _ _ => ls_if
  · rename_i tg it b pos
    cases hg : cmpTg n S tg with
    | none => simp [hg] at h
    | some g =>
      cases hi : cmpIt n S tg it with
      | none => simp [hg, hi] at h
      | some ci =>
        cases hb : cmpSs n S b with
        | none => simp [hg, hi, hb] at h
        | some cb =>
          simp only [hg, hi, hb, Option.some.injEq, Prod.mk.injEq] at h
          obtain ⟨_, rfl⟩ := h
          exact ps_mono (ps_for po R.calm ((sndN n).it S X tg it ci h1 h2 R W hi) ((tg_ok n).1 S X tg g R hg) (ih.ss S X b cb h1 h2 R W po hb) (it_noFold hi X.env)) fun _ _ _ => ls_for
  · rename_i t b pos
    cases ht : cmpT n S t with
    | none => simp [ht] at h
    | some ct =>
      cases hb : cmpSs n S b with
      | none => simp [ht, hb] at h
      | some cb =>
        simp only [ht, hb, Option.some.injEq, Prod.mk.injEq] at h
        obtain ⟨_, rfl⟩ := h
        exact ps_mono (ps_while po ((sndN n).t S X t ct h1 h2 R W ht) (ih.ss S X b cb h1 h2 R W po hb)) fun _ _ _ => ls_while
  · cases h; exact ps_mono ps_break fun _ _ _ => ls_brk
  · cases h; exact ps_mono ps_continue fun _ _ _ => ls_cont
  · cases h; exact ps_mono ps_never fun _ _ _ => ls_never
  · cases h
theorem snd_ss (ih : SndS F G fns glos k n) (S : Sx) (X : Cx) (st : List Stmt) (c : Ss) (h1 : S.fns = fns) (h2 : S.glos = glos) (R : XR S X) (W : Wd F G fns glos k X) (po : PassesOwn (model X.prog X.w) X.A X.env X.xe) (h : cmpSs (n + 1) S st = some c) : PSs X st (tSs X.K X.mg F G c) := by
  cases st with
  | nil =>
    simp only [cmpSs, Option.some.injEq] at h
    subst h
    exact pss_mono pss_nil fun _ _ _ => ls_nil
  | cons st r =>
    simp only [cmpSs] at h
    cases hs : cmpS n S st with
    | none =>
      simp only [hs, Option.some.injEq] at h
      subst h
      refine ⟨fun pins s σ H D I q => ?_⟩
      obtain ⟨L, B0, H0, B, ρ, s', out, _, q, _⟩ := q
      simp [evSs, evS] at q
    | some p =>
      obtain ⟨is, c1⟩ := p
      cases hr : cmpSs n S r with
      | none => cases is <;> simp [hs, hr] at h
      | some cs =>
        have core : PSs X (st :: r) (tSs X.K X.mg F G (.cons c1 cs)) := pss_mono (pss_cons (ih.s S X st is c1 h1 h2 R W po hs) (ih.ss S X r cs h1 h2 R W po hr)) fun _ _ _ => ls_cons
        cases is with
        | nil =>
          simp only [hs, hr, Option.some.injEq] at h
          subst h
          exact core
        | cons i is =>
          simp only [hs, hr, Option.some.injEq] at h
          subst h
          exact pss_mono core fun _ _ _ => ls_frz
theorem sndS : ∀ n, SndS F G fns glos k n
  | 0 => ⟨fun S X st is c _ _ _ _ _ h => by simp [cmpS] at h, fun S X st c _ _ _ _ _ h => by simp [cmpSs] at h⟩
  | n + 1 => ⟨snd_s (sndS n), snd_ss (sndS n)⟩
end
end Z

namespace Z
open PySem L2
/-! ## defs -/
structure Def where
  ps : Nat
  ns : Nat
  body : Ss
structure Ent where
  f : Str
  st : Stmt
  N : List Str
  ps : List Str
  body : Ss
def evDef (F : Str → List Slot → DS → Option (R × DS)) (G : Str → Option PyData) (np nn : Nat) (body : Ss) (args : List Slot) (s : DS) : Option (R × DS) :=
  if args.length = np then
    match evSs F G body (args ++ List.replicate (nn - np) .no) s with
    | some (.rt r s') => some (r, s')
    | some (.nx _ s') => some (.val .none, s')
    | _ => none
  else none
def takeF (args : List Slot) (s : DS) : Option (R × DS) :=
  match args with
  | [.hdl, .val (.int m)] => if 0 < m ∧ m < 1073741824 then some (.val (.int (s.take m).1), (s.take m).2) else none
  | _ => none
def takeName : Str := "_law_take"
def look (f : Str) : List Ent → Option Ent
  | [] => none
  | e :: es => if f = e.f then some e else look f es
def callT (G : Str → Option PyData) (tab : List Ent) : Nat → Str → List Slot → DS → Option (R × DS)
  | 0, _, _, _ => none
  | k + 1, f, args, s => if f = takeName then takeF args s else match look f tab with
    | some e => evDef (callT G tab k) G e.ps.length e.N.length e.body args s
    | none => none
section
variable {P : Program} {w : World} {K : PySem.W.Frag} {mg : Str → Option Value} {base : Heap} {F : Str → List Slot → DS → Option (R × DS)} {G : Str → Option PyData} {fns glos : List Str} {k : Nat}
theorem start_eq {N : List Str} {vs : List V} : start N vs = vs.map some ++ List.replicate (N.length - vs.length) none := rfl
theorem start_rl {L : Addr} {B H : Hp} {s : DS} {vs : List V} {args : List Slot} (m : Nat) (I : Rl K mg L B H [] [] s) (h : Paired (ArgR K mg L B) vs args) : Rl K mg L B H (vs.map some ++ List.replicate m none) (args ++ List.replicate m .no) s := by
  have hl : vs.length = args.length := Paired.length h
  have get : ∀ (i : Nat) (x : Slot), (args ++ List.replicate m Slot.no)[i]? = some x → x ≠ .no → ∃ v, (vs.map some ++ List.replicate m none)[i]? = some (some v) ∧ ArgR K mg L B v x := by
    intro i x hx hn
    by_cases c : i < args.length
    · rw [List.getElem?_append_left c] at hx
      rw [List.getElem?_append_left (by simpa [hl] using c)]
      have : ∀ {vs : List V} {args : List Slot} {i : Nat}, Paired (ArgR K mg L B) vs args → args[i]? = some x → ∃ v, (vs.map some)[i]? = some (some v) ∧ ArgR K mg L B v x := by
        intro vs args i h
        induction h generalizing i with
        | nil => intro e; simp at e
        | cons a _ ih =>
          intro e
          cases i with
          | zero => simp at e; subst e; exact ⟨_, rfl, a⟩
          | succ i => exact ih (by simpa using e)
      exact this h hx
    · rw [List.getElem?_append_right (by omega)] at hx
      have := List.getElem?_replicate (a := Slot.no) (n := m) (i := i - args.length)
      rw [hx] at this
      split at this
      · exact absurd (Option.some.inj this) hn
      · cases this
  have noOwn : ∀ (i : Nat) (ds : List PyData), (args ++ List.replicate m Slot.no)[i]? = some (.own ds) → False := fun i ds h => by
    obtain ⟨v, _, q⟩ := get i _ h (by simp)
    exact q
  refine ⟨I.ext, I.nL, I.drw, by simp [hl], fun i d h => ?_, fun i ds h => (noOwn i ds h).elim, fun i h => ?_, fun i f h => ?_, fun i j ds es l _ h => (noOwn i ds h).elim⟩
  · obtain ⟨v, q1, q2⟩ := get i _ h (by simp)
    exact ⟨v, q1, q2⟩
  · obtain ⟨v, q1, q2⟩ := get i _ h (by simp)
    have q2 : v = .ref L := q2
    rw [q1, q2]
  · obtain ⟨v, q1, q2⟩ := get i _ h (by simp)
    obtain ⟨a, rfl, q3⟩ := (show ∃ a, v = .ref a ∧ mg f = some (.ref a) from q2)
    exact ⟨a, q1, q3⟩
theorem start_nw {args : List Slot} {L : Addr} {B : Hp} {vs : List V} (h : Paired (ArgR K mg L B) vs args) (m : Nat) (i : Nat) (ds : List PyData) (q : (args ++ List.replicate m Slot.no)[i]? = some (.own ds)) : False := by
  by_cases c : i < args.length
  · rw [List.getElem?_append_left c] at q
    have : ∀ {vs : List V} {args : List Slot} {i : Nat}, Paired (ArgR K mg L B) vs args → args[i]? = some (.own ds) → False := by
      intro vs args i h
      induction h generalizing i with
      | nil => intro e; simp at e
      | cons a _ ih =>
        intro e
        cases i with
        | zero => simp at e; subst e; exact a
        | succ i => exact ih (by simpa using e)
    exact this h q
  · rw [List.getElem?_append_right (by omega)] at q
    have := List.getElem?_replicate (a := Slot.no) (n := m) (i := i - args.length)
    rw [q] at this
    split at this
    · cases this
    · cases this
/-- what the world must hold of the defs: each of fns stands, and keeps what F says -/
structure Base (F : Str → List Slot → DS → Option (R × DS)) (G : Str → Option PyData) (fns glos : List Str) (k : Nat) (P : Program) (w : World) (K : PySem.W.Frag) (mg : Str → Option Value) (base : Heap) : Prop where
  blt : ∀ x ∈ bltNames, mg x = none
  fns : ∀ f ∈ fns, ∃ a fd ps, mg f = some (.ref a) ∧ PySem.W.keepIn K (.ref a) = true ∧ Binds K fd ps [] ∧ FnOk P w K mg base CX0 k a fd ps (spF K mg (F f))
  glos : ∀ x ∈ glos, ∃ u v, mg x = some u ∧ RelV v u ∧ ∀ d, G x = some d → ∀ B, Rep K B v d
def sxOf (st : Stmt) (N : List Str) (fns glos : List Str) : Sx := { N := N, sc := defScope st, fns := fns, glos := glos, cok := fun _ => true }
theorem def_ok {qual : Str} {st : Stmt} {f : Addr} {fd : FuncData} {N ps : List Str} {body : Ss} {n : Nat} {sp : Sp} (Fn : Fun K qual qual st f fd) (Sc : FnScope N ps (defScope st)) (hc : cmpSs n (sxOf st N fns glos) (defBody st) = some body)
    (Bs : Base F G fns glos k P w K mg base) : FnOk P w K mg base CX0 (k + 1) f fd ps (spF K mg (evDef F G ps.length N.length body)) := by
  refine Fn.ok Sc (fun vs H Q E h => ?_) (fun cdv A outer s H vs Q E hr h => ?_)
  · obtain ⟨L, B, s, args, r, s', I, pa, e, _⟩ := h
    unfold evDef at e
    split at e
    · rename_i hl
      rw [Paired.length pa, hl]
    · cases e
  · obtain ⟨L, B, s0, args, r, s', I, pa, e, ha, kk⟩ := h
    unfold evDef at e
    split at e
    · rename_i hl
      have R : XR (sxOf st N fns glos) (cxOf CX0 P w K mg base N qual (defScope st) f cdv A outer s H E).nox := ⟨rfl, Sc.nd, rfl, rfl, fun _ _ => rfl⟩
      have W : Wd F G fns glos k (cxOf CX0 P w K mg base N qual (defScope st) f cdv A outer s H E).nox := ⟨hr, Bs.blt, Bs.fns, Bs.glos⟩
      refine ⟨_, (sndS n).ss (sxOf st N fns glos) _ (defBody st) body rfl rfl R W PassesOwn.never hc, ?_⟩
      have hlen : vs.length = args.length := Paired.length pa
      have hst : start N vs = vs.map some ++ List.replicate (N.length - ps.length) none := by rw [start_eq, hlen, hl]
      rw [hst]
      have I0 : RlS K mg L B H B H (vs.map some ++ List.replicate (N.length - ps.length) none) (args ++ List.replicate (N.length - ps.length) .no) s0 :=
        ⟨start_rl _ I pa, Stp.refl, fun i ds l q _ => (start_nw pa _ i ds q).elim⟩
      cases ho : evSs F G body (args ++ List.replicate (N.length - ps.length) .no) s0 with
      | none => simp [ho] at e
      | some out =>
        refine ⟨L, B, H, B, _, s0, out, I0, ho, ?_⟩
        cases out with
        | nx ρ' s1 =>
          simp only [ho, Option.some.injEq, Prod.mk.injEq] at e
          obtain ⟨e1, e2⟩ := e
          subst e1 e2
          exact fun σ B' H' I' => kk .non B' H' I'.rl.nil I'.st Rep.non
        | rt r1 s1 =>
          simp only [ho, Option.some.injEq, Prod.mk.injEq] at e
          obtain ⟨e1, e2⟩ := e
          subst e1 e2
          exact fun v B' H' I' st' q => kk v B' H' I' st' q
        | bk _ _ => simp [ho] at e
        | ct _ _ => simp [ho] at e
    · cases e
theorem none_ok {a : Addr} {fd : FuncData} {ps : List Str} {f : List Slot → DS → Option (R × DS)} (h : ∀ args s, f args s = none) : FnOk P w K mg base CX0 k a fd ps (spF K mg f) := by
  have no : ∀ vs H Q E, ¬ spF K mg f vs H Q E := fun vs H Q E q => by
    obtain ⟨L, B, s0, args, r, s', I, pa, e, _⟩ := q
    rw [h] at e; cases e
  exact ⟨fun vs H Q E h => absurd h (no vs H Q E), fun A outer s H args us vs Q E _ _ _ _ h => absurd h (no vs H Q E)⟩
/-- a def of the text stands there -/
structure Stands (K : PySem.W.Frag) (mg : Str → Option Value) (f : Str) (st : Stmt) (ps : List Str) : Prop where
  it : ∃ a fd, mg f = some (.ref a) ∧ Fun K f f st a fd ∧ Binds K fd ps []
structure EntOk (tab : List Ent) (glos : List Str) (e : Ent) : Prop where
  sc : FnScope e.N e.ps (defScope e.st)
  cm : ∃ n, cmpSs n (sxOf e.st e.N (takeName :: tab.map (·.f)) glos) (defBody e.st) = some e.body
theorem look_mem : ∀ {tab : List Ent} {f : Str} {e : Ent}, look f tab = some e → e ∈ tab ∧ e.f = f
  | [], _, _, h => by simp [look] at h
  | x :: xs, f, e, h => by
    unfold look at h
    split at h
    · rename_i q
      cases h
      exact ⟨List.mem_cons_self, q.symm⟩
    · obtain ⟨a, b⟩ := look_mem h
      exact ⟨List.mem_cons_of_mem _ a, b⟩
theorem all_ok {tab : List Ent} (hb : ∀ x ∈ bltNames, mg x = none) (hg : ∀ x ∈ glos, ∃ u v, mg x = some u ∧ RelV v u ∧ ∀ d, G x = some d → ∀ B, Rep K B v d)
    (ht : ∃ a fd, mg takeName = some (.ref a) ∧ PySem.W.keepIn K (.ref a) = true ∧ Binds K fd ["draw", "many"] [] ∧ FnOk P w K mg base CX0 1 a fd ["draw", "many"] (spF K mg takeF))
    (hs : ∀ e ∈ tab, Stands K mg e.f e.st e.ps) (he : ∀ e ∈ tab, EntOk tab glos e) (hd : ∀ e ∈ tab, ∀ e' ∈ tab, e.f = e'.f → e = e') : ∀ k, Base (callT G tab k) G (takeName :: tab.map (·.f)) glos k P w K mg base
  | 0 => ⟨hb, fun f hf => by
      rcases List.mem_cons.mp hf with rfl | hf
      · obtain ⟨a, fd, h1, h2, h3, h4⟩ := ht
        exact ⟨a, fd, _, h1, h2, h3, none_ok fun _ _ => rfl⟩
      · obtain ⟨e, he', rfl⟩ := List.mem_map.mp hf
        obtain ⟨a, fd, h1, h2, h3⟩ := (hs e he').it
        exact ⟨a, fd, e.ps, h1, h2.kp, h3, none_ok fun _ _ => rfl⟩, hg⟩
  | k + 1 => ⟨hb, fun f hf => by
      have ih := all_ok hb hg ht hs he hd k
      by_cases ft : f = takeName
      · subst ft
        obtain ⟨a, fd, h1, h2, h3, h4⟩ := ht
        have e : callT G tab (k + 1) takeName = takeF := by funext args s; simp [callT]
        exact ⟨a, fd, _, h1, h2, h3, by rw [e]; exact h4.mono (Nat.succ_le_succ (Nat.zero_le _))⟩
      · rcases List.mem_cons.mp hf with rfl | hf
        · exact absurd rfl ft
        · obtain ⟨e, he', rfl⟩ := List.mem_map.mp hf
          obtain ⟨a, fd, h1, h2, h3⟩ := (hs e he').it
          have lk : look e.f tab = some e := by
            cases q : look e.f tab with
            | none =>
              exfalso
              have : ∀ (l : List Ent), e ∈ l → look e.f l ≠ none := by
                intro l
                induction l with
                | nil => intro h; cases h
                | cons x xs ih =>
                  intro h z
                  unfold look at z
                  split at z
                  · cases z
                  · rename_i ne
                    rcases List.mem_cons.mp h with rfl | h
                    · exact ne rfl
                    · exact ih h z
              exact this tab he' q
            | some e2 =>
              obtain ⟨m, n⟩ := look_mem q
              rw [hd e2 m e he' n]
          have eq : callT G tab (k + 1) e.f = evDef (callT G tab k) G e.ps.length e.N.length e.body := by
            funext args s
            simp only [callT, if_neg ft, lk]
          obtain ⟨n, hc⟩ := (he e he').cm
          exact ⟨a, fd, e.ps, h1, h2.kp, h3, by rw [eq]; exact def_ok (sp := spF K mg takeF) h2 (he e he').sc hc ih⟩, hg⟩
end
end Z

namespace Z
open PySem L2
theorem inj_of {l : List Ent} (h : (l.map (·.f)).Nodup) : ∀ {e e' : Ent}, e ∈ l → e' ∈ l → e.f = e'.f → e = e' := by
  induction l with
  | nil => intro e e' h; cases h
  | cons x xs ih =>
    intro e e' h1 h2 q
    rw [List.map_cons, List.nodup_cons] at h
    rcases List.mem_cons.mp h1 with z1 | z1
    · rcases List.mem_cons.mp h2 with z2 | z2
      · exact z1.trans z2.symm
      · exact absurd (List.mem_map.mpr ⟨e', z2, by rw [← q, z1]⟩) h.1
    · rcases List.mem_cons.mp h2 with z2 | z2
      · exact absurd (List.mem_map.mpr ⟨e, z1, by rw [q, z2]⟩) h.1
      · exact ih h.2 z1 z2 q
def absI (i : Int) : Int := if i < 0 then -i else i
def spDraw (K : PySem.W.Frag) : Sp := fun vs H Q _ => ∃ (a : Addr) (ns : List Int), vs = [.ref a] ∧ SqL K H a (ns.map V.int) ∧ ns.length ≤ 63 ∧
  ∀ (L l1 : Addr) (q : Int) (H' : Hp), Same H H' → H L = none → H l1 = none → l1 ≠ L → H' l1 = some (.lst ((ns.map absI).map V.int)) → H' L = some (.lst [.ref l1, .int (-1), .int 0, .int q]) → Q (.ref L) H'
def spLaw (K : PySem.W.Frag) : Sp := fun vs H Q _ => ∃ (a : Addr) (ns : List Int), vs = [.ref a] ∧ SqL K H a (ns.map V.int) ∧ ns.length ≤ 63 ∧ ∀ H', Q (.bl true) H'
section
variable {K : PySem.W.Frag} {mg : Str → Option Value} {F : Str → List Slot → DS → Option (R × DS)} {G : Str → Option PyData}
/-- the rest of a law, behind draw = _law_draw(script) -/
theorem law_rest {a L l1 : Addr} {m : Nat} {ns : List Int} {q : Int} {H : Hp} {body : Ss} {Q : VK} (h1 : H l1 = some (.lst (ns.map V.int))) (h2 : H L = some (.lst [.ref l1, .int (-1), .int 0, .int q])) (hne : l1 ≠ L)
    (hb : ∀ s : DS, ∃ s', evSs F G body (.no :: .hdl :: List.replicate m .no) s = some (.rt (.val (.bool true)) s')) (hq : ∀ H', Q (.bl true) H') :
    tSs K mg F G body { nx := fun _ H' => Q .non H', rt := Q } (some (.ref a) :: some (.ref L) :: List.replicate m none) H := by
  obtain ⟨s', he⟩ := hb ⟨ns, 0, 0, q⟩
  have key : ∀ (i : Nat) (x : Slot), (Slot.no :: .hdl :: List.replicate m .no)[i]? = some x → (x = .no) ∨ (x = .hdl ∧ i = 1) := by
    intro i x h
    match i, h with
    | 0, h => simp at h; exact .inl h.symm
    | 1, h => simp at h; exact .inr ⟨h.symm, rfl⟩
    | i + 2, h =>
      simp only [List.getElem?_cons_succ] at h
      have := List.getElem?_replicate (a := Slot.no) (n := m) (i := i)
      rw [h] at this
      split at this
      · exact .inl (Option.some.inj this)
      · cases this
  refine ⟨L, upd (fun _ => none) l1 (.lst (ns.map V.int)), H, upd (fun _ => none) l1 (.lst (ns.map V.int)), _, ⟨ns, 0, 0, q⟩, _, ⟨⟨fun b o h => ?_, by rw [upd_ne hne.symm], ⟨l1, upd_same, h2⟩, by simp, fun i d h => ?_, fun i ds h => ?_, fun i h => ?_, fun i f h => ?_, fun i j ds es l _ h => ?_⟩, Stp.refl, fun i ds l h => ?_⟩, he, ?_⟩
  · by_cases c : b = l1
    · subst c; rw [upd_same] at h; cases h; exact h1
    · rw [upd_ne c] at h; cases h
  · rcases key i _ h with z | ⟨z, _⟩ <;> cases z
  · rcases key i _ h with z | ⟨z, _⟩ <;> cases z
  · rcases key i _ h with z | ⟨_, rfl⟩
    · cases z
    · rfl
  · rcases key i _ h with z | ⟨z, _⟩ <;> cases z
  · rcases key i _ h with z | ⟨z, _⟩ <;> cases z
  · rcases key i _ h with z | ⟨z, _⟩ <;> cases z
  · intro v B' H' I' st' r
    cases r
    exact hq H'
end
end Z
namespace Z
open PySem L2
/-! ## for the plain side -/
theorem ix0 {a : PyData} {l : List PyData} : evIx (.tuple (a :: l)) (.int 0) = some a := by
  simp [evIx, atI, ixN]
theorem ix1 {a b : PyData} {l : List PyData} : evIx (.tuple (a :: b :: l)) (.int 1) = some b := by
  simp [evIx, atI, ixN]
  rw [if_pos (by omega)]; rfl
theorem ix2 {a b c : PyData} {l : List PyData} : evIx (.tuple (a :: b :: c :: l)) (.int 2) = some c := by
  simp [evIx, atI, ixN]
  rw [if_pos (by omega)]; rfl
theorem ix3 {a b c d : PyData} {l : List PyData} : evIx (.tuple (a :: b :: c :: d :: l)) (.int 3) = some d := by
  simp [evIx, atI, ixN]
  rw [if_pos (by omega)]; rfl
theorem ix4 {a b c d e : PyData} {l : List PyData} : evIx (.tuple (a :: b :: c :: d :: e :: l)) (.int 4) = some e := by
  simp [evIx, atI, ixN]
  rw [if_pos (by omega)]; rfl
end Z

namespace Z
open PySem L2
/-! ## the plain side: rules -/
section
variable {F : Str → List Slot → DS → Option (R × DS)} {G : Str → Option PyData} {ρ ρ' : Env} {s s1 s2 s3 : DS} {e a b : E} {es : Es} {o : BOp} {co : COp} {r ra rb rc : R} {rs : List R} {d x y z : PyData} {ds xs : List PyData} {i j : Nat} {c c' : Bool} {out out' : Option Out} {ss : Ss} {q : Option (R × DS)} {qb : Option (Bool × DS)}
theorem rV {sl : Slot} (h : ρ[i]? = some sl) (h2 : sl.r i = some r) : evE F G (.var i) ρ s = some (r, s) := by simp only [evE, h, h2]
theorem rC {k : Cst} : evE F G (.cst k) ρ s = some (.val k.d, s) := by simp only [evE]
theorem rG {x : Str} (h : G x = some d) : evE F G (.glo x) ρ s = some (.val d, s) := by simp only [evE, h]
theorem rF {f : Str} : evE F G (.fnv f) ρ s = some (.fn f, s) := by simp only [evE]
theorem rTup (h : evEs F G es ρ s = some (rs, s1)) (h2 : embs rs = some ds) (h3 : ds.length ≤ sizeLine) : evE F G (.tup es) ρ s = some (.val (.tuple ds), s1) := by simp only [evE, h, h2, if_pos h3]
theorem rLst (h : evEs F G es ρ s = some (rs, s1)) (h2 : embs rs = some ds) (h3 : ds.length ≤ sizeLine) : evE F G (.lst es) ρ s = some (.fresh ds, s1) := by simp only [evE, h, h2, if_pos h3]
theorem rBin (h : evE F G a ρ s = some (ra, s1)) (h2 : evE F G b ρ s1 = some (rb, s2)) (h3 : ra.dat = some x) (h4 : rb.dat = some y) (h5 : evBin o x y = some r) : evE F G (.bin o a b) ρ s = some (r, s2) := by simp only [evE, h, h2, h3, h4, h5]
theorem rNeg {n : Int} (h : evE F G a ρ s = some (.val (.int n), s1)) : evE F G (.neg a) ρ s = some (.val (.int (-n)), s1) := by simp only [evE, h]
theorem rCmp (h : evE F G a ρ s = some (ra, s1)) (h2 : evE F G b ρ s1 = some (rb, s2)) (h3 : ra.dat = some x) (h4 : rb.dat = some y) (h5 : evCmp co x y = some c) : evE F G (.cmp co a b) ρ s = some (.val (.bool c), s2) := by simp only [evE, h, h2, h3, h4, h5]
theorem rAnd (h : evE F G a ρ s = some (.val (.bool c), s1)) (h2 : cond c (evE F G b ρ s1) (some (.val (.bool false), s1)) = q) : evE F G (.andV a b) ρ s = q := by cases c <;> simp only [evE, h] <;> simpa using h2
theorem rAnd2 (h : evE F G a ρ s = some (.val (.bool c), s1)) (h2 : evE F G b ρ s1 = some (.val (.bool c'), s1)) : evE F G (.andV a b) ρ s = some (.val (.bool (c && c')), s1) := by cases c <;> simp only [evE, h, h2, Bool.true_and, Bool.false_and]
theorem rOr (h : evE F G a ρ s = some (.val (.bool c), s1)) (h2 : cond c (some (.val (.bool true), s1)) (evE F G b ρ s1) = q) : evE F G (.orV a b) ρ s = q := by cases c <;> simp only [evE, h] <;> simpa using h2
theorem rOr2 (h : evE F G a ρ s = some (.val (.bool c), s1)) (h2 : evE F G b ρ s1 = some (.val (.bool c'), s1)) : evE F G (.orV a b) ρ s = some (.val (.bool (c || c')), s1) := by cases c <;> simp only [evE, h, h2, Bool.true_or, Bool.false_or]
theorem rNot (h : evE F G a ρ s = some (.val (.bool c), s1)) : evE F G (.notV a) ρ s = some (.val (.bool (!c)), s1) := by simp only [evE, h]
theorem rIte {t : T} (h : evT F G t ρ s = some (c, s1)) (h2 : cond c (evE F G a ρ s1) (evE F G b ρ s1) = q) : evE F G (.ite t a b) ρ s = q := by cases c <;> simp only [evE, h] <;> simpa using h2
theorem rIx (h : evE F G a ρ s = some (ra, s1)) (h2 : evE F G b ρ s1 = some (rb, s2)) (h3 : ra.dat = some x) (h4 : rb.dat = some y) (h5 : evIx x y = some d) : evE F G (.ix a b) ρ s = some (.val d, s2) := by simp only [evE, h, h2, h3, h4, h5]
theorem rSl {lo hi : O} {l m : Option Int} (h : evE F G a ρ s = some (ra, s1)) (h2 : evO F G lo ρ s1 = some (l, s2)) (h3 : evO F G hi ρ s2 = some (m, s3)) (h4 : ra.dat = some x) (h5 : evSl x l m = some r) : evE F G (.sl a lo hi) ρ s = some (r, s3) := by simp only [evE, h, h2, h3, h4, h5]
theorem rCall {f : Str} {args : List Slot} (h : evEs F G es ρ s = some (rs, s1)) (h1 : rs.map R.arg = args) (h2 : F f args s1 = some (r, s2)) (h3 : (r.indep || !rs.any R.isHeld) = true ∧ r.isHeld = false) : evE F G (.call f es) ρ s = some (r, s2) := by subst h1; simp only [evE, h, h2, if_pos h3]
theorem rCallV {f : Str} {args : List Slot} (h0 : ρ[i]? = some (.fn f)) (h : evEs F G es ρ s = some (rs, s1)) (h1 : rs.map R.arg = args) (h2 : F f args s1 = some (r, s2)) (h3 : (r.indep || !rs.any R.isHeld) = true ∧ r.isHeld = false) : evE F G (.callV i es) ρ s = some (r, s2) := by subst h1; simp only [evE, h0, h, h2, if_pos h3]
theorem rBlt {bl : Blt} (h : evEs F G es ρ s = some (rs, s1)) (h2 : evBlt bl rs = some r) : evE F G (.blt bl es) ρ s = some (r, s1) := by simp only [evE, h, h2]
theorem rIsi {ty : Ty} (h : evE F G a ρ s = some (ra, s1)) (h2 : ra.dat = some d) : evE F G (.isi a ty) ρ s = some (.val (.bool (evIsi d ty)), s1) := by simp only [evE, h, h2]
/-- one turn of a comprehension -/
def lcSt (F : Str → List Slot → DS → Option (R × DS)) (G : Str → Option PyData) (e : E) (tg : Tg) (ifs : Ts) (ρ : Env) (x : PyData) (s : DS) : Option (Option PyData × DS) := match asgTg tg x ρ with
          | some ρ' => match evTs F G ifs ρ' s with
            | some (true, s1) => match evE F G e ρ' s1 with
              | some (r, s2) => match r.emb with
                | some d => some (some d, s2)
                | none => none
              | none => none
            | some (false, s1) => some (none, s1)
            | none => none
          | none => none
theorem rLc {tg : Tg} {it : It} {ifs : Ts} {own : List Nat} {al : Bool} (h : evIt F G it ρ s = some ((xs, al), s1)) (h2 : xs.length ≤ sizeLine) (h3 : wipeE ρ own = ρ') (h4 : lcLoop (lcSt F G e tg ifs ρ') xs s1 = some (ds, s2)) : evE F G (.lc e tg it ifs own) ρ s = some (.fresh ds, s2) := by
  subst h3
  simp only [evE, h, if_pos h2]
  exact congrArg (fun o => match o with | some (ys, s2) => some (R.fresh ys, s2) | none => none) h4
theorem lc_fm {step : PyData → DS → Option (Option PyData × DS)} {f : PyData → Option PyData} : ∀ (xs : List PyData), (∀ x ∈ xs, step x s = some (f x, s)) → lcLoop step xs s = some (xs.filterMap f, s)
  | [], _ => rfl
  | x :: xs, h => by
    have h1 := h x (.head _)
    have h2 := lc_fm xs fun y hy => h y (.tail _ hy)
    simp only [lcLoop, h1, h2, List.filterMap_cons]
    cases f x <;> rfl
theorem lc_map {α : Type} {step : PyData → DS → Option (Option PyData × DS)} {g : α → PyData} {f : α → PyData} {l : List α} (h : ∀ x ∈ l, step (g x) s = some (some (f x), s)) : lcLoop step (l.map g) s = some (l.map f, s) := by
  induction l with
  | nil => rfl
  | cons x xs ih =>
    have h1 := h x (.head _)
    have h2 := ih fun y hy => h y (.tail _ hy)
    simp only [List.map_cons, lcLoop, h1, h2, Option.toList_some, List.singleton_append]
theorem lc_fil {α : Type} {step : PyData → DS → Option (Option PyData × DS)} {g : α → PyData} {f : α → PyData} {p : α → Bool} {l : List α} (h : ∀ x ∈ l, step (g x) s = some (if p x = true then some (f x) else none, s)) : lcLoop step (l.map g) s = some ((l.filter p).map f, s) := by
  induction l with
  | nil => rfl
  | cons x xs ih =>
    have h1 := h x (.head _)
    have h2 := ih fun y hy => h y (.tail _ hy)
    simp only [List.map_cons, lcLoop, h1, h2]
    by_cases c : p x = true
    · simp only [c, if_true, Option.toList_some, List.singleton_append, List.filter_cons_of_pos, List.map_cons]
    · simp only [c, if_false, Option.toList_none, List.nil_append, Bool.false_eq_true, not_false_eq_true, List.filter_cons_of_neg]
theorem lcS {tg : Tg} {ifs : Ts} (h : asgTg tg x ρ = some ρ') (h2 : evTs F G ifs ρ' s = some (c, s1)) (h3 : evE F G e ρ' s1 = some (r, s1)) (h4 : r.emb = some d) : lcSt F G e tg ifs ρ x s = some (if c = true then some d else none, s1) := by
  unfold lcSt
  cases c <;> simp [h, h2, h3, h4]
theorem rNil : evEs F G .nil ρ s = some ([], s) := by simp only [evEs]
theorem rCons (h : evE F G e ρ s = some (r, s1)) (h2 : evEs F G es ρ s1 = some (rs, s2)) : evEs F G (.cons e es) ρ s = some (r :: rs, s2) := by simp only [evEs, h, h2]
theorem rTand {t u : T} (h : evT F G t ρ s = some (c, s1)) (h2 : cond c (evT F G u ρ s1) (some (false, s1)) = qb) : evT F G (.and t u) ρ s = qb := by cases c <;> simp only [evT, h] <;> simpa using h2
theorem rTor {t u : T} (h : evT F G t ρ s = some (c, s1)) (h2 : cond c (some (true, s1)) (evT F G u ρ s1) = qb) : evT F G (.or t u) ρ s = qb := by cases c <;> simp only [evT, h] <;> simpa using h2
theorem rTand2 {t u : T} (h : evT F G t ρ s = some (c, s1)) (h2 : evT F G u ρ s1 = some (c', s1)) : evT F G (.and t u) ρ s = some (c && c', s1) := by cases c <;> simp only [evT, h, h2, Bool.true_and, Bool.false_and]
theorem rTor2 {t u : T} (h : evT F G t ρ s = some (c, s1)) (h2 : evT F G u ρ s1 = some (c', s1)) : evT F G (.or t u) ρ s = some (c || c', s1) := by cases c <;> simp only [evT, h, h2, Bool.true_or, Bool.false_or]
theorem rTnot {t : T} (h : evT F G t ρ s = some (c, s1)) : evT F G (.not t) ρ s = some (!c, s1) := by simp only [evT, h]
theorem rTe (h : evE F G e ρ s = some (r, s1)) (h2 : r.dat = some d) (h3 : evTru d = some c) : evT F G (.e e) ρ s = some (c, s1) := by simp only [evT, h, h2, h3]
theorem rTsN : evTs F G .nil ρ s = some (true, s) := by simp only [evTs]
theorem rTsC {t : T} {ts : Ts} (h : evT F G t ρ s = some (c, s1)) (h2 : evTs F G ts ρ s1 = some (c', s1)) : evTs F G (.cons t ts) ρ s = some (c && c', s1) := by cases c <;> simp only [evTs, h, h2, Bool.true_and, Bool.false_and]
theorem rOn : evO F G .none ρ s = some (none, s) := by simp only [evO]
theorem rOs {n : Int} (h : evE F G e ρ s = some (.val (.int n), s1)) : evO F G (.some e) ρ s = some (some n, s1) := by simp only [evO, h]
theorem rRange (h : evEs F G es ρ s = some (rs, s1)) (h2 : evRange rs = some xs) : evIt F G (.range es) ρ s = some ((xs, false), s1) := by simp only [evIt, h, h2]
theorem rSeq {al : Bool} (h : evE F G e ρ s = some (r, s1)) (h2 : r.dat = some d) (h3 : seqOf d = some xs) (h4 : r.isHeld = al) : evIt F G (.seq e) ρ s = some ((xs, al), s1) := by subst h4; simp only [evIt, h, h2, h3]
theorem rEnum {al : Bool} (h : evE F G e ρ s = some (r, s1)) (h2 : r.dat = some d) (h3 : seqOf d = some xs) (h4 : r.isHeld = al) : evIt F G (.enum e) ρ s = some ((enumD 0 xs, al), s1) := by subst h4; simp only [evIt, h, h2, h3]
theorem rZipT {ys : List PyData} (h : evE F G a ρ s = some (.val (.tuple xs), s1)) (h2 : evE F G b ρ s1 = some (.val (.tuple ys), s2)) : evIt F G (.zip a b) ρ s = some ((zipD xs ys, false), s2) := by simp only [evIt, h, h2]
theorem rZipL {ys : List PyData} (h : evE F G a ρ s = some (.val (.list xs), s1)) (h2 : evE F G b ρ s1 = some (.val (.list ys), s2)) : evIt F G (.zip a b) ρ s = some ((zipD xs ys, false), s2) := by simp only [evIt, h, h2]
theorem sPass : evS F G .pass ρ s = some (.nx ρ s) := by simp only [evS]
theorem sAsg {sl : Slot} (h : evE F G e ρ s = some (r, s1)) (h2 : r.slot = some sl) : evS F G (.asg (.name i) e) ρ s = some (.nx (ρ.set i sl) s1) := by simp only [evS, h, h2]
theorem sAsgT {ts : Tgs} (h : evE F G e ρ s = some (.val d, s1)) (h2 : asgTg (.tup ts) d ρ = some ρ') : evS F G (.asg (.tup ts) e) ρ s = some (.nx ρ' s1) := by simp only [evS, h, h2]
theorem sPar {x y : Slot} (h : evE F G a ρ s = some (ra, s1)) (h2 : evE F G b ρ s1 = some (rb, s2)) (h3 : ra.slot = some x) (h4 : rb.slot = some y) : evS F G (.par i j a b) ρ s = some (.nx ((ρ.set i x).set j y) s2) := by simp only [evS, h, h2, h3, h4]
theorem sPar3 {x y z : Slot} {l : Nat} {e3 : E} (h : evE F G a ρ s = some (ra, s1)) (h2 : evE F G b ρ s1 = some (rb, s2)) (h2' : evE F G e3 ρ s2 = some (rc, s3)) (h3 : ra.slot = some x) (h4 : rb.slot = some y) (h5 : rc.slot = some z) : evS F G (.par3 i j l a b e3) ρ s = some (.nx (((ρ.set i x).set j y).set l z) s3) := by simp only [evS, h, h2, h2', h3, h4, h5]
theorem sSetix {k : E} {n : Int} (h : evE F G e ρ s = some (r, s1)) (h2 : r.emb = some d) (h3 : ρ[i]? = some (.own ds)) (h4 : evE F G k ρ s1 = some (.val (.int n), s2)) (h5 : ixN ds.length n = some j) : evS F G (.setix i k e) ρ s = some (.nx (ρ.set i (.own (ds.set j d))) s2) := by simp only [evS, h, h2, h3, h4, h5]
theorem sAugA {m n : Int} (h : ρ[i]? = some (.val (.int m))) (h2 : evE F G e ρ s = some (.val (.int n), s1)) : evS F G (.aug i .add e) ρ s = some (.nx (ρ.set i (.val (.int (m + n)))) s1) := by simp only [evS, h, h2]
theorem sAugS {m n : Int} (h : ρ[i]? = some (.val (.int m))) (h2 : evE F G e ρ s = some (.val (.int n), s1)) : evS F G (.aug i .sub e) ρ s = some (.nx (ρ.set i (.val (.int (m - n)))) s1) := by simp only [evS, h, h2]
theorem sExpr (h : evE F G e ρ s = some (r, s1)) : evS F G (.expr e) ρ s = some (.nx ρ s1) := by simp only [evS, h]
theorem sMeth {m : Mt} {as ds' : List PyData} (h : ρ[i]? = some (.own ds)) (h2 : evEs F G es ρ s = some (rs, s1)) (h3 : embs rs = some as) (h4 : evMt m ds as = some ds') : evS F G (.meth m i es) ρ s = some (.nx (ρ.set i (.own ds')) s1) := by simp only [evS, h, h2, h3, h4]
theorem sRet (h : evE F G e ρ s = some (r, s1)) (h2 : r.ret = ra) : evS F G (.ret e) ρ s = some (.rt ra s1) := by subst h2; simp only [evS, h]
theorem sRetN : evS F G .retN ρ s = some (.rt (.val .none) s) := by simp only [evS]
theorem sIf {t : T} {ta tb : Ss} (h : evT F G t ρ s = some (c, s1)) (h2 : cond c (evSs F G ta ρ s1) (evSs F G tb ρ s1) = out) : evS F G (.if t ta tb) ρ s = out := by cases c <;> simp only [evS, h] <;> simpa using h2
/-- one turn of a for -/
def forSt (F : Str → List Slot → DS → Option (R × DS)) (G : Str → Option PyData) (tg : Tg) (b : Ss) (x : PyData) (ρ : Env) (s : DS) : Option Out := match asgTg tg x ρ with
      | some ρ' => evSs F G b ρ' s
      | none => none
theorem sFor {tg : Tg} {it : It} {bd : Ss} (h : evIt F G it ρ s = some ((xs, false), s1)) (h2 : forLoop (forSt F G tg bd) xs ρ s1 = out) : evS F G (.for tg it bd) ρ s = out := by
  simp only [evS, h]
  exact h2
theorem sFor2 {tg : Tg} {it : It} {bd bd2 : Ss} {ρ2 : Env} {xs2 : List PyData} (h : evIt F G it ρ s = some ((xs, false), s1)) (h0 : ρ = ρ2) (h00 : xs = xs2) (h000 : bd = bd2) (h2 : forLoop (forSt F G tg bd2) xs2 ρ2 s1 = out) : evS F G (.for tg it bd) ρ s = out := by subst h0; subst h00; subst h000; exact sFor h h2
theorem fStep {tg : Tg} {bd : Ss} (h : asgTg tg x ρ = some ρ') (h2 : evSs F G bd ρ' s = out) : forSt F G tg bd x ρ s = out := by simp only [forSt, h, h2]
theorem sBrk : evS F G .brk ρ s = some (.bk ρ s) := by simp only [evS]
theorem sCont : evS F G .cont ρ s = some (.ct ρ s) := by simp only [evS]
def contO (F : Str → List Slot → DS → Option (R × DS)) (G : Str → Option PyData) (ss : Ss) : Option Out → Option Out
  | some (.nx ρ' s') => evSs F G ss ρ' s'
  | o => o
theorem ssN : evSs F G .nil ρ s = some (.nx ρ s) := by simp only [evSs]
theorem ssC {st : S} (h : evS F G st ρ s = out') (h2 : contO F G ss out' = out) : evSs F G (.cons st ss) ρ s = out := by
  rw [← h2]
  simp only [evSs, h]
  cases out' with
  | none => rfl
  | some o => cases o <;> rfl
theorem ssF {is : List Nat} (h : frzE is ρ = ρ') (h2 : evSs F G ss ρ' s = out) : evSs F G (.frz is ss) ρ s = out := by subst h; simp only [evSs, h2]
theorem coN (h : evSs F G ss ρ s = out) : contO F G ss (some (.nx ρ s)) = out := h
theorem coR : contO F G ss (some (.rt r s)) = some (.rt r s) := rfl
theorem coC : contO F G ss (some (.ct ρ s)) = some (.ct ρ s) := rfl
theorem coB : contO F G ss (some (.bk ρ s)) = some (.bk ρ s) := rfl
theorem cT {α : Type} {u v w : α} (h : u = w) : cond true u v = w := h
theorem cF {α : Type} {u v w : α} (h : v = w) : cond false u v = w := h
theorem cGt {α : Type} {u v w : α} (h : c = true) (h2 : u = w) : cond c u v = w := by subst h; exact h2
theorem cGf {α : Type} {u v w : α} (h : c = false) (h2 : v = w) : cond c u v = w := by subst h; exact h2
theorem dRt {np nn : Nat} {bd : Ss} {args : List Slot} (h : args.length = np) (h1 : args ++ List.replicate (nn - np) .no = ρ) (h2 : evSs F G bd ρ s = some (.rt r s1)) : evDef F G np nn bd args s = some (r, s1) := by subst h1; simp only [evDef, h, if_true, h2]
theorem dNx {np nn : Nat} {bd : Ss} {args : List Slot} (h : args.length = np) (h2 : evSs F G bd (args ++ List.replicate (nn - np) .no) s = some (.nx ρ s1)) : evDef F G np nn bd args s = some (.val .none, s1) := by simp only [evDef, h, if_true, h2]
/-- a for, by what stands at each turn -/
theorem for_ind {step : PyData → Env → DS → Option Out} (I : List PyData → Env → DS → Prop) (Q : Out → Prop)
    (hs : ∀ x xs ρ s, I (x :: xs) ρ s → ∃ o, step x ρ s = some o ∧ (match o with
      | .nx ρ' s' => I xs ρ' s'
      | .ct ρ' s' => I xs ρ' s'
      | .bk ρ' s' => Q (.nx ρ' s')
      | .rt r s' => Q (.rt r s')))
    (hn : ∀ ρ s, I [] ρ s → Q (.nx ρ s)) : ∀ (xs : List PyData) (ρ : Env) (s : DS), I xs ρ s → ∃ o, forLoop step xs ρ s = some o ∧ Q o
  | [], ρ, s, h => ⟨_, rfl, hn ρ s h⟩
  | x :: xs, ρ, s, h => by
    obtain ⟨o, h1, h2⟩ := hs x xs ρ s h
    cases o with
    | nx ρ' s' => simp only [forLoop, h1]; exact for_ind I Q hs hn xs ρ' s' h2
    | ct ρ' s' => simp only [forLoop, h1]; exact for_ind I Q hs hn xs ρ' s' h2
    | bk ρ' s' => simp only [forLoop, h1]; exact ⟨_, rfl, h2⟩
    | rt r s' => simp only [forLoop, h1]; exact ⟨_, rfl, h2⟩
/-- a for over things of a kind whose turns end plainly -/
theorem for_map {α : Type} {step : PyData → Env → DS → Option Out} {g : α → PyData} {l : List α} (I : List α → Env → DS → Prop) 
    (hs : ∀ x xs ρ s, I (x :: xs) ρ s → ∃ ρ' s', step (g x) ρ s = some (.nx ρ' s') ∧ I xs ρ' s') {ρ : Env} {s : DS} (h : I l ρ s) : ∃ ρ' s', forLoop step (l.map g) ρ s = some (.nx ρ' s') ∧ I [] ρ' s' := by
  induction l generalizing ρ s with
  | nil => exact ⟨ρ, s, rfl, h⟩
  | cons x xs ih =>
    obtain ⟨ρ', s', h1, h2⟩ := hs x xs ρ s h
    simp only [List.map_cons, forLoop, h1]
    exact ih h2
/-- a for that gives back at the first thing of a kind -/
theorem for_find {α : Type} {step : PyData → Env → DS → Option Out} {g : α → PyData} {p : α → Bool} {rr : α → R} {l : List α} (I : Env → Prop)
    (hs : ∀ x ∈ l, ∀ ρ, I ρ → (p x = true → step (g x) ρ s = some (.rt (rr x) s)) ∧ (p x = false → ∃ ρ', step (g x) ρ s = some (.nx ρ' s) ∧ I ρ')) {ρ : Env} (h : I ρ) :
    (∀ x, l.find? p = some x → forLoop step (l.map g) ρ s = some (.rt (rr x) s)) ∧ (l.find? p = none → ∃ ρ', forLoop step (l.map g) ρ s = some (.nx ρ' s) ∧ I ρ') := by
  induction l generalizing ρ with
  | nil => exact ⟨fun x h => by simp at h, fun _ => ⟨ρ, rfl, h⟩⟩
  | cons y ys ih =>
    cases c : p y with
    | true =>
      have := (hs y (.head _) ρ h).1 c
      simp only [List.map_cons, forLoop, this, List.find?_cons, c]
      exact ⟨fun x e => by cases e; rfl, fun e => by cases e⟩
    | false =>
      obtain ⟨ρ', h1, h2⟩ := (hs y (.head _) ρ h).2 c
      simp only [List.map_cons, forLoop, h1, List.find?_cons, c]
      exact ih (fun x hx => hs x (.tail _ hx)) h2
theorem szL {α : Type} {l : List α} (h : Nat.ble l.length 1000000 = true) : l.length ≤ sizeLine := Nat.le_trans (Nat.le_of_ble_eq_true h) (by decide)
section
variable {l : Nat} {is : List Nat} {tg : Tg} {n m : Int} {as bs : List PyData} {sl : Slot} {f : Str} {args : List Slot} {ra : R} {ns : List Int}
theorem gSo {α : Type} {x : α} : some x = some x := rfl
theorem gEqE {x y : Env} (h : x = y) : x = y := h
theorem gEqX {x y : List PyData} (h : x = y) : x = y := h
theorem gEqB {x y : Ss} (h : x = y) : x = y := h
theorem gFrz (h : frzE is ρ = ρ') : frzE is ρ = ρ' := h
theorem gGet (h : ρ[i]? = some sl) : ρ[i]? = some sl := h
theorem gAsg (h : asgTg tg d ρ = some ρ') : asgTg tg d ρ = some ρ' := h
theorem gWipe (h : wipeE ρ is = ρ') : wipeE ρ is = ρ' := h
theorem gGlo {f : Str → Option PyData} {k : Str} (h : f k = some d) : f k = some d := h
theorem iaV : R.isHeld (.val d) = false := rfl
theorem iaF : R.isHeld (.fresh ds) = false := rfl
theorem iaA : R.isHeld (.held i ds) = true := rfl
theorem srV : Slot.r i (.val d) = some (.val d) := rfl
theorem srO : Slot.r i (.own ds) = some (.held i ds) := rfl
theorem srH : Slot.r i .hdl = some .hdl := rfl
theorem srF : Slot.r i (.fn f) = some (.fn f) := rfl
theorem daV : R.dat (.val d) = some d := rfl
theorem daF : R.dat (.fresh ds) = some (.list ds) := rfl
theorem daA : R.dat (.held i ds) = some (.list ds) := rfl
theorem slV : R.slot (.val d) = some (.val d) := rfl
theorem slF : R.slot (.fresh ds) = some (.own ds) := rfl
theorem slH : R.slot .hdl = some .hdl := rfl
theorem slFn : R.slot (.fn f) = some (.fn f) := rfl
theorem emV : R.emb (.val d) = some d := rfl
theorem emF : R.emb (.fresh ds) = some (.list ds) := rfl
theorem ebN : embs [] = some [] := rfl
theorem ebC (h : ra.emb = some d) (h2 : embs rs = some ds) : embs (ra :: rs) = some (d :: ds) := by simp only [embs, h, h2]
theorem reV : R.ret (.val d) = .val d := rfl
theorem reF : R.ret (.fresh ds) = .fresh ds := rfl
theorem reA : R.ret (.held i ds) = .fresh ds := rfl
theorem agN : List.map R.arg [] = [] := rfl
theorem agC (h : R.arg ra = sl) (h2 : List.map R.arg rs = args) : List.map R.arg (ra :: rs) = sl :: args := by rw [List.map_cons, h, h2]
theorem arV : R.arg (.val d) = .val d := rfl
theorem arF : R.arg (.fresh ds) = .val (.list ds) := rfl
theorem arA : R.arg (.held i ds) = .val (.list ds) := rfl
theorem arH : R.arg .hdl = .hdl := rfl
theorem arFn : R.arg (.fn f) = .fn f := rfl
theorem inB : ((R.val (.bool c)).indep || !rs.any R.isHeld) = true ∧ (R.val (.bool c)).isHeld = false := ⟨rfl, rfl⟩
theorem inI : ((R.val (.int n)).indep || !rs.any R.isHeld) = true ∧ (R.val (.int n)).isHeld = false := ⟨rfl, rfl⟩
theorem inN : ((R.val .none).indep || !rs.any R.isHeld) = true ∧ (R.val .none).isHeld = false := ⟨rfl, rfl⟩
theorem gIn (h : (r.indep || !rs.any R.isHeld) = true) (h2 : r.isHeld = false) : (r.indep || !rs.any R.isHeld) = true ∧ r.isHeld = false := ⟨h, h2⟩
theorem gIn1 (h : rs.any R.isHeld = false) : (r.indep || !rs.any R.isHeld) = true := by simp [h]
theorem gIn2 (h : r.indep = true) : (r.indep || !rs.any R.isHeld) = true := by simp [h]
theorem trB : evTru (.bool c) = some c := rfl
theorem trI : evTru (.int n) = some (n != 0) := rfl
theorem trL : evTru (.list ds) = some (!ds.isEmpty) := rfl
theorem trT : evTru (.tuple ds) = some (!ds.isEmpty) := rfl
theorem trN : evTru .none = some false := rfl
theorem bnAdd : evBin .add (.int n) (.int m) = some (.val (.int (n + m))) := rfl
theorem bnSub : evBin .sub (.int n) (.int m) = some (.val (.int (n - m))) := rfl
theorem bnAddT (h : as.length + bs.length ≤ sizeLine) : evBin .add (.tuple as) (.tuple bs) = some (.val (.tuple (as ++ bs))) := by simp [evBin, h]
theorem bnAddL (h : as.length + bs.length ≤ sizeLine) : evBin .add (.list as) (.list bs) = some (.fresh (as ++ bs)) := by simp [evBin, h]
theorem bnMulT {k : Int} (h : -(2 ^ 62) ≤ k ∧ k ≤ 1000 ∧ as.length ≤ 1000) : evBin .mul (.tuple as) (.int k) = some (.val (.tuple (List.replicate k.toNat as).flatten)) := by simp only [evBin, if_pos h]
theorem bnMulL {k : Int} (h : -(2 ^ 63) ≤ k ∧ k < 2 ^ 63 ∧ as.length * k.toNat ≤ sizeLine) : evBin .mul (.list as) (.int k) = some (.fresh (List.replicate k.toNat as).flatten) := by simp only [evBin, if_pos h]
theorem cpLt : evCmp .lt (.int n) (.int m) = some (decide (n < m)) := rfl
theorem cpLe : evCmp .le (.int n) (.int m) = some (decide (n ≤ m)) := rfl
theorem cpGt : evCmp .gt (.int n) (.int m) = some (decide (m < n)) := rfl
theorem cpGe : evCmp .ge (.int n) (.int m) = some (decide (m ≤ n)) := rfl
theorem cpIs : evCmp .isN d .none = some (isNone d) := by cases d <;> rfl
theorem cpNo : evCmp .notN d .none = some (!isNone d) := by cases d <;> rfl
theorem sqL : seqOf (.list ds) = some ds := rfl
theorem sqT : seqOf (.tuple ds) = some ds := rfl
theorem blLL (h : ra.dat = some (.list ds)) : evBlt .len [ra] = some (.val (.int ds.length)) := by simp only [evBlt, h]
theorem blLT (h : ra.dat = some (.tuple ds)) : evBlt .len [ra] = some (.val (.int ds.length)) := by simp only [evBlt, h]
theorem blMx {rb : R} (h : ra.dat = some (.int n)) (h2 : rb.dat = some (.int m)) : evBlt .max2 [ra, rb] = some (.val (.int (if m > n then m else n))) := by simp only [evBlt, h, h2]
theorem blMn {rb : R} (h : ra.dat = some (.int n)) (h2 : rb.dat = some (.int m)) : evBlt .min2 [ra, rb] = some (.val (.int (if m < n then m else n))) := by simp only [evBlt, h, h2]
theorem nLtT {i j : Nat} (h : i < j) : evCmp .lt (.int i) (.int j) = some true := by simp [evCmp, h]
theorem nLtF {i j : Nat} (h : ¬ i < j) : evCmp .lt (.int i) (.int j) = some false := by simp [evCmp]; omega
theorem iGtT {n m : Int} (h : m < n) : evCmp .gt (.int n) (.int m) = some true := by simp [evCmp, h]
theorem iGtF {n m : Int} (h : ¬ m < n) : evCmp .gt (.int n) (.int m) = some false := by simp [evCmp]; omega
theorem iLtT {n m : Int} (h : n < m) : evCmp .lt (.int n) (.int m) = some true := by simp [evCmp, h]
theorem iLtF {n m : Int} (h : ¬ n < m) : evCmp .lt (.int n) (.int m) = some false := by simp [evCmp]; omega
theorem iGeT {n m : Int} (h : m ≤ n) : evCmp .ge (.int n) (.int m) = some true := by simp [evCmp, h]
theorem iGeF {n m : Int} (h : ¬ m ≤ n) : evCmp .ge (.int n) (.int m) = some false := by simp [evCmp]; omega
theorem iLeT {n m : Int} (h : n ≤ m) : evCmp .le (.int n) (.int m) = some true := by simp [evCmp, h]
theorem iLeF {n m : Int} (h : ¬ n ≤ m) : evCmp .le (.int n) (.int m) = some false := by simp [evCmp]; omega
theorem iEqT {n m : Int} (h : n = m) : evCmp .eq (.int n) (.int m) = some true := by simp [evCmp, SeqAt.shaped, PyData.canLay0, PyData.depth, PyData.eqv, h]
theorem iEqF {n m : Int} (h : n ≠ m) : evCmp .eq (.int n) (.int m) = some false := by simp [evCmp, SeqAt.shaped, PyData.canLay0, PyData.depth, PyData.eqv, h]
theorem iNeF {n m : Int} (h : n = m) : evCmp .ne (.int n) (.int m) = some false := by simp [evCmp, SeqAt.shaped, PyData.canLay0, PyData.depth, PyData.eqv, h]
theorem iNeT {n m : Int} (h : n ≠ m) : evCmp .ne (.int n) (.int m) = some true := by simp [evCmp, SeqAt.shaped, PyData.canLay0, PyData.depth, PyData.eqv, h]
theorem ixL {as : List PyData} {k : Nat} {x : PyData} (h : as[k]? = some x) : evIx (.list as) (.int (k : Nat)) = some x := by
  have := (List.getElem?_eq_some_iff.mp h).1
  unfold evIx atI ixN
  simp only [Int.natCast_nonneg, if_true, Int.ofNat_lt, this, Int.toNat_natCast, Option.bind_some]
  exact h
theorem ixT {as : List PyData} {k : Nat} {x : PyData} (h : as[k]? = some x) : evIx (.tuple as) (.int (k : Nat)) = some x := by
  have := (List.getElem?_eq_some_iff.mp h).1
  unfold evIx atI ixN
  simp only [Int.natCast_nonneg, if_true, Int.ofNat_lt, this, Int.toNat_natCast, Option.bind_some]
  exact h
theorem ixN_of {m k : Nat} (h : k < m) : ixN m (k : Int) = some k := by
  unfold ixN
  simp [h]
theorem rgI (h : 0 ≤ n) (h2 : n < 1000000) : evRange [.val (.int n)] = some ((List.range n.toNat).map fun (k : Nat) => PyData.int (k : Int)) := by
  have : okR n = true := by simp [okR]; omega
  simp only [evRange, R.dat, this, if_true, rangeD]
  simp
theorem mtApp (h : as.length < sizeLine) : evMt .append as [d] = some (as ++ [d]) := by simp [evMt, h]
theorem mtExt (h : as.length + bs.length ≤ sizeLine) : evMt .extend as [.list bs] = some (as ++ bs) := by simp [evMt, h]
theorem rCs {k : Str} : evE F G (.cst (.str k)) ρ s = some (.val (.str k), s) := rC
theorem rCi {k : Int} : evE F G (.cst (.int k)) ρ s = some (.val (.int k), s) := rC
theorem rCb {k : Bool} : evE F G (.cst (.bl k)) ρ s = some (.val (.bool k), s) := rC
theorem rCn : evE F G (.cst .non) ρ s = some (.val .none, s) := rC
end
theorem cEqI {i j : Int} : evCmp .eq (.int i) (.int j) = some (i == j) := by simp [evCmp, SeqAt.shaped, PyData.canLay0, PyData.depth, PyData.eqv]
theorem cNeI {i j : Int} : evCmp .ne (.int i) (.int j) = some (i != j) := by simp [evCmp, SeqAt.shaped, PyData.canLay0, PyData.depth, PyData.eqv, bne]
theorem cEqB {i j : Bool} : evCmp .eq (.bool i) (.bool j) = some (i == j) := by simp [evCmp, SeqAt.shaped, PyData.canLay0, PyData.depth, PyData.eqv]
theorem cNeB {i j : Bool} : evCmp .ne (.bool i) (.bool j) = some (i != j) := by simp [evCmp, SeqAt.shaped, PyData.canLay0, PyData.depth, PyData.eqv, bne]
end
end Z

namespace Z57
open PySem L2 Z
def top (i : Nat) : Stmt := PySem.Challenge.pw_everydelay_k57_races_of_one_are_ways.main.body.getD i (.Pass ⟨0, 0, 0, 0⟩)
def ir_lowered : Ss := (.cons (.asg (.name 3) (.blt .list (.cons (.var 2) .nil)))
  (.cons (.for (.name 4) (.range (.cons (.bin .add (.var 0) (.cst (.int 1))) .nil)) (.cons (.asg (.name 5) (.cst (.bl false)))
  (.frz [1] (.cons (.for (.tup (.cons (.name 6) (.cons (.name 7) (.cons (.name 8) .nil)))) (.seq (.var 1)) (.cons (.if (.and (.e (.cmp .notN (.ix (.var 3) (.var 6)) (.cst .non))) (.or (.e (.cmp .isN (.ix (.var 3) (.var 7)) (.cst .non))) (.e (.cmp .lt (.bin .add (.ix (.var 3) (.var 6)) (.var 8)) (.ix (.var 3) (.var 7)))))) (.cons (.setix 3 (.var 7) (.bin .add (.ix (.var 3) (.var 6)) (.var 8)))
  (.cons (.asg (.name 5) (.cst (.bl true)))
  .nil)) .nil)
  .nil))
  (.cons (.if (.not (.e (.var 5))) (.cons (.ret (.var 3))
  .nil) .nil)
  .nil)))))
  (.cons (.ret (.cst .non))
  .nil)))
def en_lowered : Ent := ⟨"lowered", top 4, [("n" : Str), ("bounds" : Str), ("times" : Str), ("found" : Str), ("_" : Str), ("changed" : Str), ("a" : Str), ("b" : Str), ("w" : Str)], [("n" : Str), ("bounds" : Str), ("times" : Str)], ir_lowered⟩
def ir_has_schedule : Ss := (.cons (.ret (.cmp .notN (.call "lowered" (.cons (.ix (.var 0) (.cst (.int 0))) (.cons (.ix (.var 0) (.cst (.int 1))) (.cons (.bin .mul (.lst (.cons (.cst (.int 0)) .nil)) (.ix (.var 0) (.cst (.int 0)))) .nil)))) (.cst .non)))
  .nil)
def en_has_schedule : Ent := ⟨"has_schedule", top 5, [("plan" : Str)], [("plan" : Str)], ir_has_schedule⟩
def ir_table_of : Ss := (.cons (.if (.not (.e (.call "has_schedule" (.cons (.var 0) .nil)))) (.cons .never
  .nil) .nil)
  (.frz [0] (.cons (.asg (.tup (.cons (.name 1) (.cons (.name 2) .nil))) (.var 0))
  (.cons (.asg (.name 3) (.lst .nil))
  (.cons (.for (.name 4) (.range (.cons (.var 1) .nil)) (.cons (.meth .append 3 (.cons (.blt .tuple (.cons (.call "lowered" (.cons (.var 1) (.cons (.var 2) (.cons (.lc (.ite (.e (.cmp .eq (.var 5) (.var 4))) (.cst (.int 0)) (.cst .non)) (.name 5) (.range (.cons (.var 1) .nil)) .nil [5]) .nil)))) .nil)) .nil))
  .nil))
  (.cons (.ret (.blt .tuple (.cons (.var 3) .nil)))
  .nil))))))
def en_table_of : Ent := ⟨"table_of", top 6, [("plan" : Str), ("n" : Str), ("bounds" : Str), ("rows" : Str), ("a" : Str), ("b" : Str)], [("plan" : Str)], ir_table_of⟩
def ir_leading : Ss := (.cons (.ret (.lc (.var 2) (.tup (.cons (.name 2) (.cons (.name 3) .nil))) (.enum (.ix (.var 0) (.cst (.int 1)))) (.cons (.e (.cmp .eq (.ix (.var 3) (.cst (.int 0))) (.var 1))) .nil) [2, 3]))
  .nil)
def en_leading : Ent := ⟨"leading", top 8, [("value" : Str), ("spot" : Str), ("k" : Str), ("edge" : Str)], [("value" : Str), ("spot" : Str)], ir_leading⟩
def ir_told_by : Ss := (.cons (.asg (.tup (.cons (.name 3) (.cons (.name 4) (.cons (.name 5) .nil)))) (.ix (.ix (.var 0) (.cst (.int 1))) (.var 2)))
  (.cons (.ret (.ite (.e (.cmp .isN (.ix (.var 1) (.var 4)) (.cst .non))) (.cst .non) (.bin .add (.ix (.var 1) (.var 4)) (.var 5))))
  .nil))
def en_told_by : Ent := ⟨"told_by", top 9, [("value" : Str), ("times" : Str), ("k" : Str), ("_" : Str), ("other" : Str), ("time" : Str)], [("value" : Str), ("times" : Str), ("k" : Str)], ir_told_by⟩
def ir_time_at : Ss := (.cons (.asg (.name 3) (.lc (.call "told_by" (.cons (.var 0) (.cons (.var 1) (.cons (.var 4) .nil)))) (.name 4) (.seq (.call "leading" (.cons (.var 0) (.cons (.var 2) .nil)))) .nil [4]))
  (.cons (.if (.e (.cmp .eq (.ix (.ix (.var 0) (.cst (.int 0))) (.var 2)) (.cst (.int 0)))) (.cons (.asg (.name 3) (.lc (.var 5) (.name 5) (.seq (.var 3)) (.cons (.e (.cmp .notN (.var 5) (.cst .non))) .nil) [5]))
  (.cons (.ret (.ite (.e (.var 3)) (.blt .minL (.cons (.var 3) .nil)) (.cst .non)))
  .nil)) .nil)
  (.cons (.if (.or (.not (.e (.var 3))) (.e (.cmp .mem (.cst .non) (.var 3)))) (.cons (.ret (.cst .non))
  .nil) .nil)
  (.cons (.ret (.blt .maxL (.cons (.var 3) .nil)))
  .nil))))
def en_time_at : Ent := ⟨"time_at", top 10, [("value" : Str), ("times" : Str), ("spot" : Str), ("rows" : Str), ("k" : Str), ("row" : Str)], [("value" : Str), ("times" : Str), ("spot" : Str)], ir_time_at⟩
def ir_least_times : Ss := (.cons (.asg (.name 1) (.blt .len (.cons (.ix (.var 0) (.cst (.int 0))) .nil)))
  (.cons (.asg (.name 2) (.lc (.ite (.e (.cmp .mem (.var 3) (.ix (.var 0) (.cst (.int 2))))) (.cst (.int 0)) (.cst .non)) (.name 3) (.range (.cons (.var 1) .nil)) .nil [3]))
  (.cons (.for (.name 4) (.range (.cons (.var 1) .nil)) (.cons (.asg (.name 5) (.cst .non))
  (.cons (.for (.name 3) (.range (.cons (.var 1) .nil)) (.cons (.if (.e (.cmp .isN (.ix (.var 2) (.var 3)) (.cst .non))) (.cons (.asg (.name 6) (.call "time_at" (.cons (.var 0) (.cons (.var 2) (.cons (.var 3) .nil)))))
  (.cons (.if (.and (.e (.cmp .notN (.var 6) (.cst .non))) (.or (.e (.cmp .isN (.var 5) (.cst .non))) (.e (.cmp .lt (.var 6) (.ix (.var 5) (.cst (.int 0))))))) (.frz [6, 3] (.cons (.asg (.name 5) (.tup (.cons (.var 6) (.cons (.var 3) .nil))))
  .nil)) .nil)
  .nil)) .nil)
  .nil))
  (.cons (.if (.e (.cmp .notN (.var 5) (.cst .non))) (.cons (.setix 2 (.ix (.var 5) (.cst (.int 1))) (.ix (.var 5) (.cst (.int 0))))
  .nil) .nil)
  .nil))))
  (.cons (.ret (.blt .tuple (.cons (.var 2) .nil)))
  .nil))))
def en_least_times : Ent := ⟨"least_times", top 11, [("value" : Str), ("n" : Str), ("times" : Str), ("spot" : Str), ("_" : Str), ("best" : Str), ("told" : Str)], [("value" : Str)], ir_least_times⟩
def ir__law_pairs_below : Ss := (.cons (.asg (.name 1) (.lst .nil))
  (.cons (.for (.name 2) (.range (.cons (.var 0) .nil)) (.frz [2] (.cons (.asg (.name 1) (.bin .add (.var 1) (.lc (.tup (.cons (.var 2) (.cons (.var 3) .nil))) (.name 3) (.range (.cons (.var 0) .nil)) .nil [3])))
  .nil)))
  (.cons (.ret (.var 1))
  .nil)))
def en__law_pairs_below : Ent := ⟨"_law_pairs_below", top 15, [("many" : Str), ("found" : Str), ("i" : Str), ("j" : Str)], [("many" : Str)], ir__law_pairs_below⟩
def ir__law_longest : Ss := (.cons (.if (.e (.cmp .mem (.var 2) (.var 1))) (.cons (.ret (.cst (.int 0)))
  .nil) .nil)
  (.cons (.asg (.name 4) (.lc (.tup (.cons (.var 6) (.cons (.var 7) .nil))) (.tup (.cons (.name 5) (.cons (.name 6) (.cons (.name 7) .nil)))) (.seq (.var 0)) (.cons (.e (.cmp .eq (.var 5) (.var 2))) .nil) [5, 6, 7]))
  (.cons (.if (.or (.e (.cmp .eq (.var 4) (.lst .nil))) (.e (.cmp .eq (.var 3) (.cst (.int 0))))) (.cons (.ret (.cst .non))
  .nil) .nil)
  (.cons (.asg (.name 8) (.lc (.tup (.cons (.call "_law_longest" (.cons (.var 0) (.cons (.var 1) (.cons (.var 6) (.cons (.bin .sub (.var 3) (.cst (.int 1))) .nil))))) (.cons (.var 7) .nil))) (.tup (.cons (.name 6) (.cons (.name 7) .nil))) (.seq (.var 4)) .nil [6, 7]))
  (.cons (.ret (.ite (.e (.cmp .mem (.cst .non) (.lc (.var 9) (.tup (.cons (.name 9) (.cons (.name 7) .nil))) (.seq (.var 8)) .nil [9, 7]))) (.cst .non) (.blt .maxL (.cons (.lc (.bin .add (.var 9) (.var 7)) (.tup (.cons (.name 9) (.cons (.name 7) .nil))) (.seq (.var 8)) .nil [9, 7]) .nil))))
  .nil)))))
def en__law_longest : Ent := ⟨"_law_longest", top 16, [("edges" : Str), ("goals" : Str), ("spot" : Str), ("turns" : Str), ("rows" : Str), ("i" : Str), ("j" : Str), ("time" : Str), ("told" : Str), ("one" : Str)], [("edges" : Str), ("goals" : Str), ("spot" : Str), ("turns" : Str)], ir__law_longest⟩
def ir_law : Ss := (.cons (.asg (.name 2) (.bin .add (.cst (.int 1)) (.call "_law_take" (.cons (.var 1) (.cons (.cst (.int 5)) .nil)))))
  (.cons (.asg (.name 3) (.blt .tuple (.cons (.lc (.tup (.cons (.var 4) (.cons (.var 5) (.cons (.bin .add (.cst (.int 1)) (.call "_law_take" (.cons (.var 1) (.cons (.cst (.int 6)) .nil)))) .nil)))) (.tup (.cons (.name 4) (.cons (.name 5) .nil))) (.seq (.call "_law_pairs_below" (.cons (.var 2) .nil))) (.cons (.e (.cmp .lt (.call "_law_take" (.cons (.var 1) (.cons (.cst (.int 5)) .nil))) (.cst (.int 2)))) .nil) [4, 5]) .nil)))
  (.cons (.asg (.name 6) (.blt .tuple (.cons (.lc (.var 7) (.name 7) (.range (.cons (.var 2) .nil)) (.cons (.e (.cmp .eq (.call "_law_take" (.cons (.var 1) (.cons (.cst (.int 3)) .nil))) (.cst (.int 0)))) .nil) [7]) .nil)))
  (.frz [2] (.cons (.asg (.name 8) (.call "table_of" (.cons (.tup (.cons (.var 2) (.cons (.blt .tuple (.cons (.lc (.var 9) (.name 9) (.seq (.var 3)) (.cons (.e (.cmp .ne (.ix (.var 9) (.cst (.int 0))) (.ix (.var 9) (.cst (.int 1))))) .nil) [9]) .nil)) .nil))) .nil)))
  (.cons (.asg (.name 10) (.lst .nil))
  (.cons (.for (.name 7) (.range (.cons (.var 2) .nil)) (.cons (.asg (.name 11) (.lc (.ix (.ix (.var 8) (.var 7)) (.var 12)) (.name 12) (.seq (.var 6)) (.cons (.e (.cmp .notN (.ix (.ix (.var 8) (.var 7)) (.var 12)) (.cst .non))) .nil) [12]))
  (.cons (.meth .append 10 (.cons (.ite (.e (.cmp .ne (.var 11) (.lst .nil))) (.blt .minL (.cons (.var 11) .nil)) (.cst .non)) .nil))
  .nil)))
  (.frz [3, 6] (.cons (.asg (.name 13) (.call "least_times" (.cons (.tup (.cons (.bin .mul (.tup (.cons (.cst (.int 0)) .nil)) (.var 2)) (.cons (.var 3) (.cons (.var 6) .nil)))) .nil)))
  (.cons (.if (.or (.e (.cmp .ne (.var 13) (.blt .tuple (.cons (.var 10) .nil)))) (.not (.e (.isi (.var 13) .tuple)))) (.cons (.ret (.cst (.bl false)))
  .nil) .nil)
  (.frz [3, 6] (.cons (.asg (.name 14) (.call "least_times" (.cons (.tup (.cons (.bin .mul (.tup (.cons (.cst (.int 1)) .nil)) (.var 2)) (.cons (.var 3) (.cons (.var 6) .nil)))) .nil)))
  (.cons (.if (.e (.cmp .ne (.var 14) (.blt .tuple (.cons (.lc (.call "_law_longest" (.cons (.var 3) (.cons (.var 6) (.cons (.var 7) (.cons (.var 2) .nil))))) (.name 7) (.range (.cons (.var 2) .nil)) .nil [7]) .nil)))) (.cons (.ret (.cst (.bl false)))
  .nil) .nil)
  (.cons (.asg (.name 15) (.blt .tuple (.cons (.lc (.call "_law_take" (.cons (.var 1) (.cons (.cst (.int 2)) .nil))) (.name 7) (.range (.cons (.var 2) .nil)) .nil [7]) .nil)))
  (.frz [15, 3, 6] (.cons (.asg (.name 16) (.call "least_times" (.cons (.tup (.cons (.var 15) (.cons (.var 3) (.cons (.var 6) .nil)))) .nil)))
  (.cons (.for (.name 7) (.range (.cons (.var 2) .nil)) (.frz [3, 6] (.cons (.asg (.name 17) (.call "least_times" (.cons (.tup (.cons (.bin .add (.bin .add (.sl (.var 15) .none (.some (.var 7))) (.tup (.cons (.cst (.int 1)) .nil))) (.sl (.var 15) (.some (.bin .add (.var 7) (.cst (.int 1)))) .none)) (.cons (.var 3) (.cons (.var 6) .nil)))) .nil)))
  (.frz [16, 17] (.cons (.for (.tup (.cons (.name 18) (.cons (.name 19) .nil))) (.zip (.var 16) (.var 17)) (.cons (.if (.and (.e (.cmp .notN (.var 19) (.cst .non))) (.and (.or (.e (.cmp .isN (.var 18) (.cst .non))) (.e (.cmp .lt (.var 19) (.var 18)))) (.e (.cmp .eq (.lc (.var 20) (.name 20) (.range (.cons (.var 2) .nil)) (.cons (.and (.e (.cmp .eq (.lc (.var 9) (.name 9) (.seq (.var 3)) (.cons (.e (.cmp .eq (.ix (.var 9) (.cst (.int 0))) (.var 20))) .nil) [9]) (.lst .nil))) (.e (.cmp .nmem (.var 20) (.var 6)))) .nil) [20]) (.lst .nil))))) (.cons (.ret (.cst (.bl false)))
  .nil) .nil)
  .nil))
  .nil)))))
  (.frz [13, 16] (.cons (.for (.tup (.cons (.name 21) (.cons (.name 22) .nil))) (.zip (.var 13) (.var 16)) (.cons (.if (.and (.e (.cmp .notN (.var 22) (.cst .non))) (.or (.e (.cmp .isN (.var 21) (.cst .non))) (.e (.cmp .gt (.var 21) (.var 22))))) (.cons (.ret (.cst (.bl false)))
  .nil) .nil)
  .nil))
  (.cons (.ret (.cst (.bl true)))
  .nil))))))))))))))))))))
def tab : List Ent := [en_lowered, en_has_schedule, en_table_of, en_leading, en_told_by, en_time_at, en_least_times, en__law_pairs_below, en__law_longest]
def glosL : List Str := []



section
variable {P : Program} {w : World} {K : PySem.W.Frag} {mg : Str → Option Value} {base : Heap}
abbrev tI (K : PySem.W.Frag) (i : Int) : TE := tOp (rIxL K) (tVar 0) (tC (.int i))
abbrev rIntC : List V → Hp → VK → Prop := fun xs H Q => (∃ i, xs = [.int i] ∧ Q (.int i) H) ∨ ∃ k, xs = [.bl k] ∧ Q (.int (if k then 1 else 0)) H
def tEnd (K : PySem.W.Frag) : TS := tSeq (tAsg (tOp (rI (fun _ j => 0 < j) fun i j => .int (i % j)) (tCB rIntC (tCons (tI K 2) tNil)) (tVar 1)) (gName 2))
  (tSeq (tAsg (tOp (rI CDiv fun i j => .int (i / j)) (tI K 2) (tVar 1)) (gSub (tVar 0) (tC (.int 2)) rSetL)) (tRet (tVar 2)))
def tMid (K : PySem.W.Frag) : TS := tIfS (tTest (tOp rEq (tI K 2) (tC (.int 0)))) (tSeq (tAsg (tOp (rI (fun _ j => 0 < j) fun i j => .int (i % j)) (tCB rIntC (tCons (tOp (rI0 fun i j => .int (i + j)) (tOp (rI CMul fun i j => .int (i * j)) (tI K 3) (tC (.int 48271))) (tC (.int 11))) tNil)) (tC (.int 2147483647))) (gSub (tVar 0) (tC (.int 3)) rSetL))
  (tAsg (tI K 3) (gSub (tVar 0) (tC (.int 2)) rSetL))) tNext
def dl (l1 : Addr) (a r q : Int) : HO := .lst [.ref l1, .int a, .int r, .int q]
theorem scT : FnScope ["draw", "many", "found"] ["draw", "many"] (defScope (top 14)) := ⟨rfl, rfl, rfl, by decide +kernel, rfl, by decide +kernel, by decide +kernel⟩
theorem take_shape {args : List Slot} {s s' : DS} {r : R} (e : takeF args s = some (r, s')) : ∃ m, args = [.hdl, .val (.int m)] ∧ 0 < m ∧ m < 1073741824 ∧ r = .val (.int (s.take m).1) ∧ s' = (s.take m).2 := by
  unfold takeF at e
  split at e
  · rename_i m
    split at e
    · rename_i c
      simp only [Option.some.injEq, Prod.mk.injEq] at e
      exact ⟨m, rfl, c.1, c.2, e.1.symm, e.2.symm⟩
    · cases e
  · cases e
theorem ok_take {f : Addr} {fd : FuncData} (Fn : Fun K "_law_take" "_law_take" (top 14) f fd) (gi : mg "int" = none) (gl : mg "len" = none) : FnOk P w K mg base CX0 1 f fd ["draw", "many"] (spF K mg takeF) := by
  refine Fn.ok scT (fun vs H Q E h => ?_) (fun cdv A outer s H vs Q E hr h => ?_)
  · obtain ⟨L, B, s0, args, r, s', I, pa, e, _⟩ := h
    obtain ⟨m, rfl, _⟩ := take_shape e
    rw [Paired.length pa]; rfl
  obtain ⟨L, B, s0, args, r, s', I, pa, e, _, k⟩ := h
  obtain ⟨m, rfl, m1, m2, rfl, rfl⟩ := take_shape e
  obtain ⟨l1, d1, d2⟩ := I.drw
  have hv : vs = [.ref L, .int m] := by
    cases pa with
    | cons a t =>
      cases t with
      | cons b t =>
        cases t
        cases b
        rw [show _ = V.ref L from a]
  subst hv
  have hl1 : l1 ≠ L := fun z => by rw [z, I.nL] at d1; cases d1
  refine ⟨_, pss_cons (ps_if (pt_cmpR op_eq (pe_ix ix_list (pv 0) pe_int (fun _ _ => rfl)) pe_int (nomark _))
      (pss_cons (ps_asg (pe_op op_add (pe_ix ix_list (pv 0) pe_int (fun _ _ => rfl)) pe_int) (pg_sub (pv 0) pe_int set_list))
      (pss_cons (ps_if (pt_cmpR op_lt (pe_ix ix_list (pv 0) pe_int (fun _ _ => rfl)) (pe_callB call_len_seq (by rfl) gl PySem.boot_len (pa_cons (pe_ix ix_list (pv 0) pe_int (fun _ _ => rfl)) pa_nil)) (nomark _)) (pss_one (ps_asg (pe_ix ix_list (pe_ix ix_list (pv 0) pe_int (fun _ _ => rfl)) (pe_ix ix_list (pv 0) pe_int (fun _ _ => rfl)) (fun _ _ => rfl)) (pg_sub (pv 0) pe_int set_list))) pss_nil)
      (pss_one (ps_if (pt_cmpR op_eq (pe_ix ix_list (pv 0) pe_int (fun _ _ => rfl)) pe_int (nomark _)) (pss_cons (ps_asg (pe_op op_mod (pe_callTy call_int1 (by rfl) gi (by decide +kernel) (pa_cons (pe_op op_add (pe_op op_mul (pe_ix ix_list (pv 0) pe_int (fun _ _ => rfl)) pe_int) pe_int) pa_nil)) pe_int) (pg_sub (pv 0) pe_int set_list)) (pss_one (ps_asg (pe_ix ix_list (pv 0) pe_int (fun _ _ => rfl)) (pg_sub (pv 0) pe_int set_list)))) pss_nil)))) pss_nil)
    (pss_cons (ps_set (i := 2) scT.nd rfl (Or.inl rfl) (pe_op op_mod (pe_callTy call_int1 (by rfl) gi (by decide +kernel) (pa_cons (pe_ix ix_list (pv 0) pe_int (fun _ _ => rfl)) pa_nil)) (pv 1)))
    (pss_cons (ps_asg (pe_op op_fdiv (pe_ix ix_list (pv 0) pe_int (fun _ _ => rfl)) (pv 1)) (pg_sub (pv 0) pe_int set_list)) (pss_one (ps_ret (pv 2))))), ?_⟩
  have at1 : ∀ a r q : Int, atI [V.ref l1, .int a, .int r, .int q] 1 = some (.int a) := fun _ _ _ => rfl
  have at2 : ∀ a r q : Int, atI [V.ref l1, .int a, .int r, .int q] 2 = some (.int r) := fun _ _ _ => rfl
  have at3 : ∀ a r q : Int, atI [V.ref l1, .int a, .int r, .int q] 3 = some (.int q) := fun _ _ _ => rfl
  have at0 : ∀ a r q : Int, atI [V.ref l1, .int a, .int r, .int q] 0 = some (.ref l1) := fun _ _ _ => rfl
  -- the end, from any state of the draw
  have fin : ∀ (n : Nat) (r q : Int) (H' : Hp) (D : Ends) (σ2 : Option V), (∀ v H, Q v H → D.rt v H) → (∀ b o, b ≠ L → H b = some o → H' b = some o) → (∀ b o, b ≠ L → H' b = some o → H b = some o) → H' L = some (dl l1 ((n : Int) - 1) r q) → s0.take m = (r % m, ⟨s0.cells, n, r / m, q⟩) →
      tEnd K D [some (.ref L), some (.int m), σ2] H' := by
    intro n r q H' D σ2 hD hk hk2 hL ht
    refine ⟨_, rfl, L, _, _, _, rfl, rfl, SqL.of hL, at2 _ _ _, .inl ⟨_, rfl, ?_⟩⟩
    refine ⟨_, rfl, _, _, rfl, rfl, m1, ?_⟩
    refine ⟨_, rfl, L, _, _, _, rfl, rfl, SqL.of hL, at2 _ _ _, _, rfl, _, _, rfl, rfl, ⟨m1, m2⟩, ?_⟩
    refine ⟨_, rfl, L, _, _, 2, rfl, rfl, hL, rfl, ?_⟩
    refine ⟨_, rfl, hD _ _ ?_⟩
    have hL2 : upd H' L (.lst ([V.ref l1, .int ((n : Int) - 1), .int r, .int q].set 2 (.int (r / m)))) L = some (.lst [.ref l1, .int ((n : Int) - 1), .int (r / m), .int q]) := upd_same
    have e1 : (s0.take m).1 = r % m := by rw [ht]
    have e2 : (s0.take m).2 = ⟨s0.cells, n, r / m, q⟩ := by rw [ht]
    have kb : ∀ b o, b ≠ L → H b = some o → upd H' L (.lst ([V.ref l1, .int ((n : Int) - 1), .int r, .int q].set 2 (.int (r / m)))) b = some o := fun b o hb h => by rw [upd_ne hb]; exact hk b o hb h
    refine k _ B _ ?_ ?_ (by rw [e1]; exact Rep.int _)
    · rw [e2]
      exact ⟨fun b o h => kb b o (fun z => by rw [z, I.nL] at h; cases h) (I.ext b o h), I.nL, ⟨l1, d1, hL2⟩, rfl, fun _ _ h => by simp at h, fun _ _ h => by simp at h, fun _ h => by simp at h, fun _ _ h => by simp at h, fun _ _ _ _ _ _ h => by simp at h⟩
    · exact ⟨Ext.refl _, fun b o hb h => kb b o hb h, fun _ _ h => .inl h, fun o _ => ⟨_, hL2⟩, fun p r' h => by rw [d2] at h; cases h; exact ⟨_, hL2⟩⟩
  refine ⟨_, rfl, L, _, _, _, rfl, rfl, SqL.of d2, at2 _ _ _, rfl, _, rfl, ?_⟩
  refine ite2 (fun c => ?_) (fun c => ?_)
  · have c0 : s0.rest = 0 := V.int.inj (of_decide_eq_true c)
    -- draw[1] = draw[1] + 1
    refine ⟨_, rfl, L, _, _, _, rfl, rfl, SqL.of d2, at1 _ _ _, _, _, rfl, rfl, ?_⟩
    refine ⟨_, rfl, L, _, _, 1, rfl, rfl, d2, rfl, ?_⟩
    generalize hH1 : upd H L (.lst ([V.ref l1, .int ((s0.at_ : Int) - 1), .int s0.rest, .int s0.seed].set 1 (.int ((s0.at_ : Int) - 1 + 1)))) = H1
    have ea : (s0.at_ : Int) - 1 + 1 = (s0.at_ : Int) := by omega
    have h1L : H1 L = some (dl l1 (s0.at_ : Int) 0 s0.seed) := by
      rw [← hH1, upd_same, ea, c0]; rfl
    have h1k : ∀ b, b ≠ L → H1 b = H b := fun b hb => by rw [← hH1, upd_ne hb]
    have hcell : H1 l1 = some (.lst (s0.cells.map V.int)) := by rw [h1k l1 hl1]; exact I.ext _ _ d1
    have en : ((s0.at_ + 1 : Nat) : Int) - 1 = (s0.at_ : Int) := by omega
    -- if draw[1] < len(draw[0])
    refine ⟨_, rfl, L, _, _, _, rfl, rfl, SqL.of h1L, at1 _ _ _, _, rfl, L, _, _, _, rfl, rfl, SqL.of h1L, at0 _ _ _, l1, _, rfl, .inl (SqL.of hcell), _, _, rfl, rfl, _, rfl, ?_⟩
    have tail : ∀ (r : Int) (H2 : Hp) (D : Ends), (∀ v H, Q v H → D.rt v H) → (∀ b, b ≠ L → H2 b = H b) → H2 L = some (dl l1 (s0.at_ : Int) r s0.seed) → r = (if s0.at_ < s0.cells.length then s0.cells.getD s0.at_ 0 else 0) → tMid K { D with nx := tEnd K D } [some (.ref L), some (.int m), none] H2 := by
      intro r H2 D hD h2k h2L hr
      refine ⟨_, rfl, L, _, _, _, rfl, rfl, SqL.of h2L, at2 _ _ _, rfl, _, rfl, ?_⟩
      refine ite2 (fun c => ?_) (fun c => ?_)
      · have cr : r = 0 := V.int.inj (of_decide_eq_true c)
        refine ⟨_, rfl, L, _, _, _, rfl, rfl, SqL.of h2L, at3 _ _ _, _, _, rfl, rfl, .inr ⟨by decide, by decide⟩, _, _, rfl, rfl, .inl ⟨_, rfl, _, _, rfl, rfl, (by show (0 : Int) < 2147483647; decide), ?_⟩⟩
        refine ⟨_, rfl, L, _, _, 3, rfl, rfl, h2L, rfl, ?_⟩
        refine ⟨_, rfl, L, _, _, _, rfl, rfl, SqL.of upd_same, at3 _ _ _, ?_⟩
        refine ⟨_, rfl, L, _, _, 2, rfl, rfl, upd_same, rfl, ?_⟩
        refine fin (s0.at_ + 1) ((s0.seed * 48271 + 11) % 2147483647) ((s0.seed * 48271 + 11) % 2147483647) _ D none hD (fun b o hb h => ?_) (fun b o hb h => ?_) ?_ ?_
        · rw [upd_ne hb, upd_ne hb, h2k b hb]; exact h
        · rw [upd_ne hb, upd_ne hb, h2k b hb] at h; exact h
        · rw [upd_same, en]; rfl
        · rw [cr] at hr
          unfold DS.take
          rw [if_pos c0]
          simp only [← hr, if_true]
      · have cr : r ≠ 0 := fun z => c (by rw [z]; rfl)
        refine fin (s0.at_ + 1) r s0.seed _ D none hD (fun b o hb h => ?_) (fun b o hb h => ?_) (by rw [en]; exact h2L) ?_
        · rw [h2k b hb]; exact h
        · rw [h2k b hb] at h; exact h
        · unfold DS.take
          rw [if_pos c0]
          simp only [← hr, if_neg cr]
    refine ite2 (fun c => ?_) (fun c => ?_)
    · have c1 : (s0.at_ : Int) < ((s0.cells.map V.int).length : Int) := of_decide_eq_true c
      rw [List.length_map] at c1
      have c2 : s0.at_ < s0.cells.length := by omega
      have hget : atI (s0.cells.map V.int) (s0.at_ : Int) = some (.int (s0.cells.getD s0.at_ 0)) := atI_nat (by rw [List.getElem?_map, List.getElem?_eq_getElem c2, List.getD_eq_getElem?_getD, List.getElem?_eq_getElem c2]; rfl)
      refine ⟨_, rfl, L, _, _, _, rfl, rfl, SqL.of h1L, at0 _ _ _, _, rfl, L, _, _, _, rfl, rfl, SqL.of h1L, at1 _ _ _, l1, _, _, _, rfl, rfl, SqL.of hcell, hget, ?_⟩
      refine ⟨_, rfl, L, _, _, 2, rfl, rfl, h1L, rfl, ?_⟩
      exact tail (s0.cells.getD s0.at_ 0) _ _ (fun _ _ h => h) (fun b hb => by rw [upd_ne hb, h1k b hb]) upd_same (by rw [if_pos c2])
    · have c1 : ¬ (s0.at_ : Int) < ((s0.cells.map V.int).length : Int) := of_decide_eq_false (Bool.eq_false_iff.mpr c)
      rw [List.length_map] at c1
      have c2 : ¬ s0.at_ < s0.cells.length := by omega
      exact tail 0 H1 _ (fun _ _ h => h) h1k h1L (by rw [if_neg c2])
  · have c0 : s0.rest ≠ 0 := fun z => c (by rw [z]; rfl)
    refine fin s0.at_ s0.rest s0.seed H _ none (fun _ _ h => h) (fun b o _ h => h) (fun b o _ h => h) d2 ?_
    unfold DS.take
    rw [if_neg c0]
theorem scD : FnScope ["script", "seed", "cell"] ["script"] (defScope (top 13)) := ⟨rfl, rfl, rfl, by decide +kernel, rfl, by decide +kernel, by decide +kernel⟩
theorem ok_draw {f : Addr} {fd : FuncData} (Fn : Fun K "_law_draw" "_law_draw" (top 13) f fd) (gi : mg "int" = none) (ga : mg "abs" = none) : FnOk P w K mg base CX0 1 f fd ["script"] (spDraw K) := by
  refine Fn.ok scD (fun vs H Q E h => ?_) (fun cdv A outer s H vs Q E hr h => ?_)
  · obtain ⟨a, ns, rfl, _⟩ := h
    rfl
  obtain ⟨a, ns, rfl, hS, h63, q⟩ := h
  refine ⟨_, pss_cons (ps_set (i := 1) scD.nd rfl (Or.inl rfl) pe_int)
    (pss_cons (ps_for PassesOwn.never rfl (pi_list (pv 0)) (pg_name (i := 2) scD.nd rfl (Or.inl rfl))
      (pss_one (ps_set (i := 1) scD.nd rfl (Or.inl rfl) (pe_op op_mod (pe_callTy call_int1 (by rfl) gi (by decide +kernel) (pa_cons (pe_op op_add (pe_op op_add (pe_op op_mul (pv 1) pe_int)
        (pe_op op_mod (pe_callB call_abs (by rfl) ga (by decide +kernel) (pa_cons (pe_callTy call_int1 (by rfl) gi (by decide +kernel) (pa_cons (pv 2) pa_nil)) pa_nil)) pe_int)) pe_int) pa_nil)) pe_int))))
    (pss_one (ps_ret (pe_lst (pa_cons (pe_lc (own := [("cell", 2)]) (g := gName 2) (tt := tYes) rfl scD.nd (pi_list (pv 0)) (blkOk_by (N := ["script", "seed", "cell"]) (sc := defScope (top 13)) (by decide +kernel)) (fun _ _ _ _ _ => pg_name (i := 2) scD.nd rfl (Or.inl rfl)) (fun _ _ _ _ _ => pts_nil)
      (fun _ _ _ _ _ => pe_callB call_abs (by rfl) ga (by decide +kernel) (pa_cons (pe_callTy call_int1 (by rfl) gi (by decide +kernel) (pa_cons (pv 2) pa_nil)) pa_nil))) (pa_cons (pe_un un_neg pe_int) (pa_cons pe_int (pa_cons (pv 1) pa_nil)))))))), ?_⟩
  have item : ∀ (i : Nat) (y : V), (ns.map V.int)[i]? = some y → ∃ u, y = V.int u ∧ ns[i]? = some u := fun i y hi => by
    rw [List.getElem?_map] at hi
    cases e : ns[i]? with
    | none => rw [e] at hi; cases hi
    | some u => rw [e] at hi; exact ⟨u, (Option.some.inj hi).symm, rfl⟩
  refine ⟨_, rfl, a, rfl, ⟨_, hS⟩, for_list (K := K) (a := a) (xs := ns.map V.int) (fun i σ H' => ∃ (z : Int) (v : Option V), σ = [some (.ref a), some (.int z), v] ∧ H' = H)
    ⟨7, none, rfl, rfl⟩ (fun i σ H' _ ⟨_, _, _, e⟩ => by rw [e]; exact hS) ?_ ?_⟩
  · rintro i y σ H' hi ⟨z, v, rfl, rfl⟩
    obtain ⟨u, rfl, _⟩ := item i y hi
    refine ⟨_, rfl, _, _, rfl, rfl, .inr ⟨by decide, by decide⟩, _, rfl, .inl ⟨_, rfl, _, rfl, _, _, rfl, rfl, (by show (0 : Int) < 65521; decide), _, _, rfl, rfl, _, _, rfl, rfl, .inl ⟨_, rfl, _, _, rfl, rfl, (by show (0 : Int) < 2147483647; decide), _, _, rfl, rfl⟩⟩⟩
  · rintro σ H' ⟨z, v, rfl, rfl⟩
    refine ⟨_, rfl, a, rfl, ⟨_, hS⟩, fun D hD => ?_⟩
    refine lc_list (K := K) (a := a) (xs := ns.map V.int) (fun i H2 => Same H' (upd H' D (.lst [])) ∧ ∃ acc, acc = ((ns.take i).map absI).map V.int ∧ H2 = upd H' D (.lst acc)) ?_ ?_ ?_ ?_
    · exact ⟨fun b o h => by rw [upd_ne (ne_of_none h hD)]; exact h, [], by simp, rfl⟩
    · rintro i H2 _ ⟨_, acc, _, rfl⟩
      have sm : Same H' (upd H' D (.lst acc)) := fun b o h => by rw [upd_ne (ne_of_none h hD)]; exact h
      exact sm.seq hS
    · rintro i y H2 hi ⟨sm, acc, ea, rfl⟩
      obtain ⟨u, rfl, hu⟩ := item i y hi
      have hlt : i < ns.length := (List.getElem?_eq_some_iff.mp hu).1
      refine ⟨rfl, ?_⟩
      refine ⟨_, rfl, .inl ⟨_, rfl, _, rfl, acc, upd_same, ?_, ?_⟩⟩
      · rw [ea, List.length_map, List.length_map, List.length_take]
        exact Nat.lt_of_le_of_lt (Nat.le_trans (Nat.min_le_right _ _) h63) (by decide)
      · refine ⟨sm, _, ?_, upd_upd⟩
        rw [ea, List.take_add_one, hu]
        simp [absI]
    · rintro H2 ⟨sm, acc, ea, rfl⟩
      have sm2 : Same H' (upd H' D (.lst acc)) := fun b o h => by rw [upd_ne (ne_of_none h hD)]; exact h
      refine ⟨1, rfl, _, rfl, (by show 4 ≤ sizeLine; decide), fun L hL => ?_⟩
      have nDL : D ≠ L := fun z => by rw [← z, upd_same] at hL; cases hL
      refine q L D _ _ (fun b o h => ?_) (sm2.free hL) hD nDL ?_ upd_same
      · rw [upd_ne (ne_of_none (sm2 _ _ h) hL)]; exact sm2 _ _ h
      · rw [upd_ne nDL, upd_same, ea]
        rw [List.length_map, List.take_length]
theorem scL : FnScope ["script", "draw", "n", "edges", "i", "j", "goals", "spot", "table", "edge", "due", "rows", "goal", "alone", "against", "owners", "told", "other", "before", "behind", "k", "low", "here"] ["script"] (defScope (top 17)) := ⟨rfl, rfl, rfl, by decide +kernel, rfl, by decide +kernel, by decide +kernel⟩
theorem ok_law {f fD : Addr} {fd fdD : FuncData} {G : Str → Option PyData} (plain : ∀ s : DS, ∃ s', evSs (callT G tab 100) G ir_law (.no :: .hdl :: List.replicate 21 .no) s = some (.rt (.val (.bool true)) s'))
    (Fn : Fun K "law" "law" (top 17) f fd) (FD : FnOk P w K mg base CX0 1 fD fdD ["script"] (spDraw K)) (bD : Binds K fdD ["script"] []) (kD : PySem.W.keepIn K (.ref fD) = true) (mD : mg "_law_draw" = some (.ref fD))
    (Bs : Base (callT G tab 100) G (takeName :: tab.map (·.f)) glosL 100 P w K mg base) : FnOk P w K mg base CX0 101 f fd ["script"] (spLaw K) := by
  refine Fn.ok scL (fun vs H Q E h => ?_) (fun cdv A outer s H vs Q E hr h => ?_)
  · obtain ⟨a, ns, rfl, _⟩ := h
    rfl
  obtain ⟨a, ns, rfl, hS, h63, q⟩ := h
  have hb : defBody (top 17) = (defBody (top 17)).getD 0 (.Pass ⟨0, 0, 0, 0⟩) :: (defBody (top 17)).drop 1 := by kernel_rfl
  rw [hb]
  have R : XR (sxOf (top 17) ["script", "draw", "n", "edges", "i", "j", "goals", "spot", "table", "edge", "due", "rows", "goal", "alone", "against", "owners", "told", "other", "before", "behind", "k", "low", "here"] (takeName :: tab.map (·.f)) glosL) (cxOf CX0 P w K mg base ["script", "draw", "n", "edges", "i", "j", "goals", "spot", "table", "edge", "due", "rows", "goal", "alone", "against", "owners", "told", "other", "before", "behind", "k", "low", "here"] "law" (defScope (top 17)) f cdv A outer s H E).nox := ⟨rfl, scL.nd, rfl, rfl, fun _ _ => rfl⟩
  have W : Wd (callT G tab 100) G (takeName :: tab.map (·.f)) glosL 100 (cxOf CX0 P w K mg base ["script", "draw", "n", "edges", "i", "j", "goals", "spot", "table", "edge", "due", "rows", "goal", "alone", "against", "owners", "told", "other", "before", "behind", "k", "low", "here"] "law" (defScope (top 17)) f cdv A outer s H E).nox := ⟨hr, Bs.blt, Bs.fns, Bs.glos⟩
  refine ⟨_, pss_cons (ps_set (i := 1) scL.nd rfl (by first | exact Or.inl rfl | exact Or.inr rfl | exact Or.inr (Or.inl rfl)) (pe_call FD (hr.mono (by decide)) rfl mD kD bD .nil pass0 (pa_cons (pv 0) pa_nil)))
    ((sndS 400).ss (sxOf (top 17) ["script", "draw", "n", "edges", "i", "j", "goals", "spot", "table", "edge", "due", "rows", "goal", "alone", "against", "owners", "told", "other", "before", "behind", "k", "low", "here"] (takeName :: tab.map (·.f)) glosL) _ _ ir_law rfl rfl R W PassesOwn.never (by kernel_rfl)), ?_⟩
  refine ⟨_, rfl, a, ns, rfl, hS, h63, fun L l1 z H' sm hL hl1 ne e1 e2 => ?_⟩
  exact law_rest e1 e2 ne plain q
end


def gD_of : List (Str × PyData) := []
def Gf (x : Str) : Option PyData := gD_of.lookup x
end Z57

namespace Z57
open Z
/-! ## games of one clock: the plain theory -/
abbrev Ed := Nat × Nat × Int
abbrev Tm := Nat → Option Int
theorem minI_mem : ∀ l : List Int, l ≠ [] → minI l ∈ l
  | [x], _ => by simp [minI]
  | x :: y :: l, _ => by
    have ih := minI_mem (y :: l) (by simp)
    have e : minI (x :: y :: l) = min x (minI (y :: l)) := rfl
    rw [e]
    by_cases c : x ≤ minI (y :: l)
    · rw [Int.min_eq_left c]; exact .head _
    · rw [Int.min_eq_right (by omega)]; exact .tail _ ih
theorem minI_le : ∀ l : List Int, ∀ x ∈ l, minI l ≤ x
  | [x], y, h => by simp at h; subst h; simp [minI]
  | x :: y :: l, z, h => by
    have e : minI (x :: y :: l) = min x (minI (y :: l)) := rfl
    rw [e]
    rcases List.mem_cons.mp h with rfl | h
    · exact Int.min_le_left _ _
    · exact Int.le_trans (Int.min_le_right _ _) (minI_le (y :: l) z h)
theorem maxI_mem : ∀ l : List Int, l ≠ [] → maxI l ∈ l
  | [x], _ => by simp [maxI]
  | x :: y :: l, _ => by
    have ih := maxI_mem (y :: l) (by simp)
    have e : maxI (x :: y :: l) = max x (maxI (y :: l)) := rfl
    rw [e]
    by_cases c : maxI (y :: l) ≤ x
    · rw [Int.max_eq_left c]; exact .head _
    · rw [Int.max_eq_right (by omega)]; exact .tail _ ih
theorem maxI_ge : ∀ l : List Int, ∀ x ∈ l, x ≤ maxI l
  | [x], y, h => by simp at h; subst h; simp [maxI]
  | x :: y :: l, z, h => by
    have e : maxI (x :: y :: l) = max x (maxI (y :: l)) := rfl
    rw [e]
    rcases List.mem_cons.mp h with rfl | h
    · exact Int.le_max_left _ _
    · exact Int.le_trans (maxI_ge (y :: l) z h) (Int.le_max_right _ _)
def minO (r : List (Option Int)) : Option Int := if r.filterMap id = [] then none else some (minI (r.filterMap id))
def maxO (r : List (Option Int)) : Option Int := if r = [] ∨ none ∈ r then none else some (maxI (r.filterMap id))
theorem fm_mem {r : List (Option Int)} {x : Int} : x ∈ r.filterMap id ↔ some x ∈ r := by simp
theorem minO_some {r : List (Option Int)} {t : Int} : minO r = some t ↔ some t ∈ r ∧ ∀ u, some u ∈ r → t ≤ u := by
  unfold minO
  by_cases c : r.filterMap id = []
  · rw [if_pos c]
    refine ⟨fun h => (by cases h), fun h => ?_⟩
    have := fm_mem.mpr h.1
    rw [c] at this; cases this
  · rw [if_neg c]
    have m1 := minI_mem _ c
    have m2 := minI_le (r.filterMap id)
    constructor
    · intro h
      cases h
      exact ⟨fm_mem.mp m1, fun u hu => m2 u (fm_mem.mpr hu)⟩
    · intro h
      have a1 := m2 t (fm_mem.mpr h.1)
      have a2 := h.2 _ (fm_mem.mp m1)
      congr 1; omega
theorem minO_none {r : List (Option Int)} : minO r = none ↔ ∀ u, some u ∉ r := by
  unfold minO
  by_cases c : r.filterMap id = []
  · rw [if_pos c]
    refine ⟨fun _ u hu => ?_, fun _ => rfl⟩
    have := fm_mem.mpr hu
    rw [c] at this; cases this
  · rw [if_neg c]
    exact ⟨fun h => (by cases h), fun h => absurd (fm_mem.mp (minI_mem _ c)) (h _)⟩
theorem maxO_some {r : List (Option Int)} {t : Int} : maxO r = some t ↔ some t ∈ r ∧ none ∉ r ∧ ∀ u, some u ∈ r → u ≤ t := by
  unfold maxO
  by_cases c : r = [] ∨ none ∈ r
  · rw [if_pos c]
    refine ⟨fun h => (by cases h), fun h => ?_⟩
    rcases c with c | c
    · rw [c] at h; cases h.1
    · exact absurd c h.2.1
  · rw [if_neg c]
    have c1 : r ≠ [] := fun z => c (.inl z)
    have c2 : none ∉ r := fun z => c (.inr z)
    have c3 : r.filterMap id ≠ [] := by
      cases r with
      | nil => exact absurd rfl c1
      | cons x xs =>
        cases x with
        | none => exact absurd (.head _) c2
        | some x => simp
    have m1 := maxI_mem _ c3
    have m2 := maxI_ge (r.filterMap id)
    constructor
    · intro h
      cases h
      exact ⟨fm_mem.mp m1, c2, fun u hu => m2 u (fm_mem.mpr hu)⟩
    · intro h
      have a1 := m2 t (fm_mem.mpr h.1)
      have a2 := h.2.2 _ (fm_mem.mp m1)
      congr 1; omega
def rows (E : List Ed) (T : Tm) (s : Nat) : List (Option Int) := (E.filter fun e => e.1 == s).map fun e => (T e.2.1).map (· + e.2.2)
def timeAt (own : Nat → Bool) (E : List Ed) (T : Tm) (s : Nat) : Option Int := if own s = true then maxO (rows E T s) else minO (rows E T s)
theorem rows_some {E : List Ed} {T : Tm} {s : Nat} {u : Int} : some u ∈ rows E T s ↔ ∃ j w t, (s, j, w) ∈ E ∧ T j = some t ∧ u = t + w := by
  unfold rows
  simp only [List.mem_map, List.mem_filter, beq_iff_eq]
  constructor
  · rintro ⟨⟨i, j, w⟩, ⟨h1, h2⟩, h3⟩
    simp only at h2 h3
    subst h2
    cases q : T j with
    | none => rw [q] at h3; cases h3
    | some t =>
      rw [q] at h3
      simp only [Option.map_some, Option.some.injEq] at h3
      exact ⟨j, w, t, h1, q, h3.symm⟩
  · rintro ⟨j, w, t, h1, h2, rfl⟩
    exact ⟨(s, j, w), ⟨h1, rfl⟩, by simp [h2]⟩
theorem rows_none {E : List Ed} {T : Tm} {s : Nat} : none ∈ rows E T s ↔ ∃ j w, (s, j, w) ∈ E ∧ T j = none := by
  unfold rows
  simp only [List.mem_map, List.mem_filter, beq_iff_eq]
  constructor
  · rintro ⟨⟨i, j, w⟩, ⟨h1, h2⟩, h3⟩
    simp only at h2 h3
    subst h2
    cases q : T j with
    | none => exact ⟨j, w, h1, q⟩
    | some t => rw [q] at h3; cases h3
  · rintro ⟨j, w, h1, h2⟩
    exact ⟨(s, j, w), ⟨h1, rfl⟩, by simp [h2]⟩
/-- the times of a game: what each spot's time is by those of the others -/
structure Fix (own : Nat → Bool) (E : List Ed) (goal : Nat → Bool) (T : Tm) : Prop where
  eq : ∀ s, T s = if goal s = true then some 0 else timeAt own E T s
  nn : ∀ s t, T s = some t → 0 ≤ t
def Pos1 (E : List Ed) : Prop := ∀ e ∈ E, 0 < e.2.2
section
variable {own own' : Nat → Bool} {E : List Ed} {goal : Nat → Bool} {T T' : Tm}
/-- giving a spot to 1 never makes a time less -/
theorem Fix.mono (f : Fix own E goal T) (f' : Fix own' E goal T') (p : Pos1 E) (ho : ∀ s, own s = true → own' s = true) : ∀ (m : Nat) (s : Nat) (t : Int), t < m → T' s = some t → ∃ u, T s = some u ∧ u ≤ t
  | 0, s, t, h1, h => absurd (f'.nn s t h) (by omega)
  | m + 1, s, t, h1, h => by
    have e' := f'.eq s
    have e := f.eq s
    rw [h] at e'
    by_cases g : goal s = true
    · rw [if_pos g] at e e'
      cases e'
      exact ⟨0, e, Int.le_refl _⟩
    · rw [if_neg g] at e e'
      unfold timeAt at e'
      by_cases o' : own' s = true
      · rw [if_pos o'] at e'
        obtain ⟨a, b, c⟩ := maxO_some.mp e'.symm
        -- all that follow are finite
        have all : ∀ j w, (s, j, w) ∈ E → ∃ u, T j = some u ∧ u + w ≤ t := fun j w he => by
          cases q : T' j with
          | none => exact absurd (rows_none.mpr ⟨j, w, he, q⟩) b
          | some v =>
            have hv := c _ (rows_some.mpr ⟨j, w, v, he, q, rfl⟩)
            have := p _ he
            simp only at this
            obtain ⟨u, h3, h4⟩ := Fix.mono f f' p ho m j v (by omega) q
            exact ⟨u, h3, by omega⟩
        obtain ⟨j, w, v, he, q, ev⟩ := rows_some.mp a
        obtain ⟨u, hu, hut⟩ := all j w he
        unfold timeAt at e
        by_cases o : own s = true
        · rw [if_pos o] at e
          cases z : T s with
          | none =>
            rw [z] at e
            have := e.symm
            unfold maxO at this
            split at this
            · rename_i c1
              rcases c1 with c1 | c1
              · have := rows_some.mpr ⟨j, w, u, he, hu, rfl⟩
                rw [c1] at this; cases this
              · obtain ⟨j', w', he', q'⟩ := rows_none.mp c1
                obtain ⟨u', hu', _⟩ := all j' w' he'
                rw [q'] at hu'; cases hu'
            · cases this
          | some x =>
            rw [z] at e
            obtain ⟨a', b', c'⟩ := maxO_some.mp e.symm
            obtain ⟨j', w', v', he', q', ev'⟩ := rows_some.mp a'
            obtain ⟨u', hu', hut'⟩ := all j' w' he'
            rw [q'] at hu'
            cases hu'
            exact ⟨x, rfl, by omega⟩
        · rw [if_neg o] at e
          cases z : T s with
          | none =>
            rw [z] at e
            exact absurd (rows_some.mpr ⟨j, w, u, he, hu, rfl⟩) (minO_none.mp e.symm _)
          | some x =>
            rw [z] at e
            have := (minO_some.mp e.symm).2 _ (rows_some.mpr ⟨j, w, u, he, hu, rfl⟩)
            exact ⟨x, rfl, by omega⟩
      · rw [if_neg o'] at e'
        obtain ⟨a, b⟩ := minO_some.mp e'.symm
        obtain ⟨j, w, v, he, q, ev⟩ := rows_some.mp a
        have := p _ he
        simp only at this
        obtain ⟨u, hu, hut⟩ := Fix.mono f f' p ho m j v (by omega) q
        have o : ¬ own s = true := fun z => o' (ho s z)
        unfold timeAt at e
        rw [if_neg o] at e
        cases z : T s with
        | none =>
          rw [z] at e
          exact absurd (rows_some.mpr ⟨j, w, u, he, hu, rfl⟩) (minO_none.mp e.symm _)
        | some x =>
          rw [z] at e
          have := (minO_some.mp e.symm).2 _ (rows_some.mpr ⟨j, w, u, he, hu, rfl⟩)
          exact ⟨x, rfl, by omega⟩
theorem Fix.le (f : Fix own E goal T) (f' : Fix own' E goal T') (p : Pos1 E) (ho : ∀ s, own s = true → own' s = true) {s : Nat} {t : Int} (h : T' s = some t) : ∃ u, T s = some u ∧ u ≤ t :=
  Fix.mono f f' p ho (t.toNat + 1) s t (by omega) h
theorem Fix.uniq (f : Fix own E goal T) (f' : Fix own E goal T') (p : Pos1 E) : T = T' := by
  funext s
  cases h : T s with
  | none =>
    cases h' : T' s with
    | none => rfl
    | some t =>
      obtain ⟨u, h1, _⟩ := Fix.le f f' p (fun _ z => z) h'
      rw [h] at h1; cases h1
  | some t =>
    obtain ⟨u, h1, h2⟩ := Fix.le f' f p (fun _ z => z) h
    obtain ⟨v, h3, h4⟩ := Fix.le f f' p (fun _ z => z) h1
    rw [h] at h3
    cases h3
    rw [h1]
    congr 1; omega
end
end Z57

namespace Z57
open Z
/-! ## counting -/
theorem cnt_lt {α : Type} {p q : α → Bool} : ∀ {l : List α}, (∀ x ∈ l, p x = true → q x = true) → (∃ x ∈ l, q x = true ∧ p x = false) → l.countP p < l.countP q
  | [], _, h => by obtain ⟨x, h, _⟩ := h; cases h
  | y :: ys, h1, h2 => by
    have mono : ∀ {l : List α}, (∀ x ∈ l, p x = true → q x = true) → l.countP p ≤ l.countP q := by
      intro l
      induction l with
      | nil => intro _; exact Nat.le_refl _
      | cons z zs ih =>
        intro h
        have := ih fun x hx => h x (.tail _ hx)
        rw [List.countP_cons, List.countP_cons]
        by_cases c : p z = true
        · rw [if_pos c, if_pos (h z (.head _) c)]; omega
        · rw [if_neg c]; omega
    rw [List.countP_cons, List.countP_cons]
    obtain ⟨x, hx, hq, hp⟩ := h2
    rcases List.mem_cons.mp hx with rfl | hx
    · rw [if_neg (by simp [hp]), if_pos hq]
      have := mono fun x hx => h1 x (.tail _ hx)
      omega
    · have := cnt_lt (fun x hx => h1 x (.tail _ hx)) ⟨x, hx, hq, hp⟩
      by_cases c : p y = true
      · rw [if_pos c, if_pos (h1 y (.head _) c)]; omega
      · rw [if_neg c]; omega
def below (T : Tm) (t : Int) (x : Nat) : Bool := match T x with
  | some v => decide (v < t)
  | none => false
def rk (n : Nat) (T : Tm) (t : Int) : Nat := (List.range n).countP (below T t)
theorem rk_lt {n : Nat} {T : Tm} {x : Nat} {v t : Int} (hx : x < n) (h : T x = some v) (hv : v < t) : rk n T v < rk n T t := by
  refine cnt_lt (fun y _ hy => ?_) ⟨x, List.mem_range.mpr hx, by simp [below, h, hv], by simp [below, h]⟩
  unfold below at hy ⊢
  split at hy
  · simp at hy ⊢; omega
  · cases hy
theorem rk_n {n : Nat} {T : Tm} {x : Nat} {t : Int} (hx : x < n) (h : T x = some t) : rk n T t < n := by
  have := cnt_lt (p := below T t) (q := fun _ => true) (l := List.range n) (fun _ _ _ => rfl) ⟨x, List.mem_range.mpr hx, rfl, by simp [below, h]⟩
  have e : (List.range n).countP (fun _ => true) = n := by simp
  rw [e] at this
  exact this
/-! ## the longest ways -/
def longest (E : List Ed) (goal : Nat → Bool) : Nat → Tm
  | 0, s => if goal s = true then some 0 else none
  | k + 1, s => if goal s = true then some 0 else maxO (rows E (longest E goal k) s)
def In (n : Nat) (E : List Ed) : Prop := ∀ e ∈ E, e.1 < n ∧ e.2.1 < n
theorem rows_congr {E : List Ed} {T T' : Tm} {s : Nat} (h : ∀ j w, (s, j, w) ∈ E → T j = T' j) : rows E T s = rows E T' s := by
  unfold rows
  refine List.map_congr_left fun e he => ?_
  obtain ⟨h1, h2⟩ := List.mem_filter.mp he
  obtain ⟨i, j, w⟩ := e
  have : i = s := by simpa using h2
  subst this
  rw [h j w h1]
theorem longest_ok {n : Nat} {E : List Ed} {goal : Nat → Bool} {T : Tm} (f : Fix (fun _ => true) E goal T) (p : Pos1 E) (hE : In n E) : ∀ (k s : Nat), s < n →
    (∀ t, T s = some t → rk n T t ≤ k → longest E goal k s = some t) ∧ (T s = none → longest E goal k s = none)
  | 0, s, hs => by
    have e := f.eq s
    simp only [longest]
    refine ⟨fun t h hk => ?_, fun h => ?_⟩
    · rw [h] at e
      split at e
      · rename_i g; rw [if_pos g]; exact e.symm
      · rename_i g
        unfold timeAt at e
        rw [if_pos rfl] at e
        obtain ⟨a, _, _⟩ := maxO_some.mp e.symm
        obtain ⟨j, w, v, he, q, ev⟩ := rows_some.mp a
        have := p _ he
        simp only at this
        have := rk_lt (t := t) (hE _ he).2 q (by omega)
        omega
    · rw [h] at e
      split at e
      · cases e
      · rename_i g; rw [if_neg g]
  | k + 1, s, hs => by
    have e := f.eq s
    simp only [longest]
    by_cases g : goal s = true
    · rw [if_pos g] at e ⊢
      exact ⟨fun t h _ => by rw [← h, e], fun h => by rw [e] at h; cases h⟩
    · rw [if_neg g] at e ⊢
      unfold timeAt at e
      rw [if_pos rfl] at e
      refine ⟨fun t h hk => ?_, fun h => ?_⟩
      · rw [h] at e
        obtain ⟨a, b, c⟩ := maxO_some.mp e.symm
        rw [rows_congr (T' := T) fun j w he => ?_]
        · exact e.symm
        · cases q : T j with
          | none => exact absurd (rows_none.mpr ⟨j, w, he, q⟩) b
          | some v =>
            have hv := c _ (rows_some.mpr ⟨j, w, v, he, q, rfl⟩)
            have := p _ he
            simp only at this
            have := rk_lt (t := t) (hE _ he).2 q (by omega)
            exact (longest_ok f p hE k j (hE _ he).2).1 v q (by omega)
      · rw [h] at e
        have e' := e.symm
        unfold maxO at e' ⊢
        split at e'
        · rename_i c
          rcases c with c | c
          · rw [if_pos]
            left
            unfold rows at c ⊢
            rw [List.map_eq_nil_iff] at c ⊢
            exact c
          · obtain ⟨j, w, he, q⟩ := rows_none.mp c
            rw [if_pos (.inr (rows_none.mpr ⟨j, w, he, (longest_ok f p hE k j (hE _ he).2).2 q⟩))]
        · cases e'
theorem longest_eq {n : Nat} {E : List Ed} {goal : Nat → Bool} {T : Tm} (f : Fix (fun _ => true) E goal T) (p : Pos1 E) (hE : In n E) {s : Nat} (hs : s < n) : longest E goal n s = T s := by
  have := longest_ok f p hE n s hs
  cases h : T s with
  | none => exact this.2 h
  | some t => exact this.1 t h (Nat.le_of_lt (rk_n hs h))
/-! ## the times, one spot after the other -/
def bstep (own : Nat → Bool) (E : List Ed) (T : Tm) (best : Option (Int × Nat)) (s : Nat) : Option (Int × Nat) :=
  match T s with
  | some _ => best
  | none => match timeAt own E T s with
    | none => best
    | some t => match best with
      | none => some (t, s)
      | some (b, k) => if t < b then some (t, s) else some (b, k)
def bestOf (n : Nat) (own : Nat → Bool) (E : List Ed) (T : Tm) : Option (Int × Nat) := (List.range n).foldl (bstep own E T) none
def put (T : Tm) (s : Nat) (t : Int) : Tm := fun x => if x = s then some t else T x
def round (n : Nat) (own : Nat → Bool) (E : List Ed) (T : Tm) : Tm := match bestOf n own E T with
  | none => T
  | some (t, s) => put T s t
def rounds (n : Nat) (own : Nat → Bool) (E : List Ed) : Nat → Tm → Tm
  | 0, T => T
  | k + 1, T => rounds n own E k (round n own E T)
def start (goal : Nat → Bool) : Tm := fun s => if goal s = true then some 0 else none
section
variable {n : Nat} {own : Nat → Bool} {E : List Ed} {goal : Nat → Bool} {T : Tm} {M : Int}
theorem best_fold : ∀ (l : List Nat) (b : Option (Int × Nat)) (r : Option (Int × Nat)), l.foldl (bstep own E T) b = r →
    (r = none → b = none ∧ ∀ s ∈ l, T s = none → timeAt own E T s = none) ∧
    (∀ t s, r = some (t, s) → ((b = some (t, s)) ∨ (s ∈ l ∧ T s = none ∧ timeAt own E T s = some t)) ∧ (∀ t' s', b = some (t', s') → t ≤ t') ∧ ∀ s' ∈ l, T s' = none → ∀ t', timeAt own E T s' = some t' → t ≤ t')
  | [], b, r, h => by
    simp only [List.foldl_nil] at h
    subst h
    exact ⟨fun h => ⟨h, fun s hs => by cases hs⟩, fun t s h => ⟨.inl h, fun t' s' h' => by rw [h] at h'; cases h'; exact Int.le_refl _, fun s' hs => by cases hs⟩⟩
  | x :: l, b, r, h => by
    rw [List.foldl_cons] at h
    obtain ⟨i1, i2⟩ := best_fold l _ r h
    have key : ∀ b', bstep own E T b x = b' → 
      ((b' = none → b = none ∧ (T x = none → timeAt own E T x = none)) ∧ (∀ t s, b' = some (t, s) → (b = some (t, s) ∨ (s = x ∧ T x = none ∧ timeAt own E T x = some t)) ∧ (∀ t' s', b = some (t', s') → t ≤ t') ∧ (T x = none → ∀ t', timeAt own E T x = some t' → t ≤ t'))) := by
      intro b' hb
      unfold bstep at hb
      cases hx : T x with
      | some v =>
        simp only [hx] at hb
        subst hb
        exact ⟨fun h => ⟨h, fun h => by cases h⟩, fun t s h => ⟨.inl h, fun t' s' h' => by rw [h] at h'; cases h'; exact Int.le_refl _, fun h => by cases h⟩⟩
      | none =>
        simp only [hx] at hb
        cases ht : timeAt own E T x with
        | none =>
          simp only [ht] at hb
          subst hb
          exact ⟨fun h => ⟨h, fun _ => rfl⟩, fun t s h => ⟨.inl h, fun t' s' h' => by rw [h] at h'; cases h'; exact Int.le_refl _, fun _ t' h => by cases h⟩⟩
        | some u =>
          simp only [ht] at hb
          cases b with
          | none =>
            simp only at hb
            subst hb
            exact ⟨fun h => (by cases h), fun t s h => by cases h; exact ⟨.inr ⟨rfl, rfl, rfl⟩, fun t' s' h' => (by cases h'), fun _ t' h => by cases h; exact Int.le_refl _⟩⟩
          | some bk =>
            obtain ⟨b0, k0⟩ := bk
            simp only at hb
            by_cases c : u < b0
            · rw [if_pos c] at hb
              subst hb
              exact ⟨fun h => (by cases h), fun t s h => by cases h; exact ⟨.inr ⟨rfl, rfl, rfl⟩, fun t' s' h' => (by cases h'; omega), fun _ t' h => by cases h; exact Int.le_refl _⟩⟩
            · rw [if_neg c] at hb
              subst hb
              exact ⟨fun h => (by cases h), fun t s h => by cases h; exact ⟨.inl rfl, fun t' s' h' => (by cases h'; exact Int.le_refl _), fun _ t' h => by cases h; omega⟩⟩
    obtain ⟨k1, k2⟩ := key _ rfl
    refine ⟨fun hr => ?_, fun t s hr => ?_⟩
    · obtain ⟨j1, j2⟩ := i1 hr
      obtain ⟨m1, m2⟩ := k1 j1
      refine ⟨m1, fun s hs => ?_⟩
      rcases List.mem_cons.mp hs with rfl | hs
      · exact m2
      · exact j2 s hs
    · obtain ⟨j1, j2, j3⟩ := i2 t s hr
      cases hb : bstep own E T b x with
      | none =>
        obtain ⟨m1, m2⟩ := k1 hb
        rw [hb] at j1
        rcases j1 with j1 | ⟨j1, j1', j1''⟩
        · cases j1
        · refine ⟨.inr ⟨List.mem_cons_of_mem _ j1, j1', j1''⟩, fun t' s' h' => (by rw [m1] at h'; cases h'), fun s' hs' hn t' ht' => ?_⟩
          rcases List.mem_cons.mp hs' with rfl | hs'
          · rw [m2 hn] at ht'; cases ht'
          · exact j3 s' hs' hn t' ht'
      | some q =>
        obtain ⟨t1, s1⟩ := q
        obtain ⟨m1, m2, m3⟩ := k2 t1 s1 hb
        have l1 := j2 t1 s1 hb
        refine ⟨?_, fun t' s' h' => Int.le_trans l1 (m2 t' s' h'), fun s' hs' hn t' ht' => ?_⟩
        · rcases j1 with j1 | ⟨j1, j1', j1''⟩
          · rw [hb] at j1
            cases j1
            rcases m1 with m1 | ⟨rfl, m1, m1'⟩
            · exact .inl m1
            · exact .inr ⟨.head _, m1, m1'⟩
          · exact .inr ⟨.tail _ j1, j1', j1''⟩
        · rcases List.mem_cons.mp hs' with rfl | hs'
          · exact Int.le_trans l1 (m3 hn t' ht')
          · exact j3 s' hs' hn t' ht'
theorem best_none (h : bestOf n own E T = none) : ∀ s < n, T s = none → timeAt own E T s = none :=
  fun s hs => ((best_fold _ _ _ h).1 rfl).2 s (List.mem_range.mpr hs)
theorem best_some {t : Int} {s : Nat} (h : bestOf n own E T = some (t, s)) : s < n ∧ T s = none ∧ timeAt own E T s = some t ∧ ∀ s' < n, T s' = none → ∀ t', timeAt own E T s' = some t' → t ≤ t' := by
  obtain ⟨h1, _, h3⟩ := (best_fold _ _ _ h).2 t s rfl
  rcases h1 with h1 | ⟨h1, h2, h4⟩
  · cases h1
  · exact ⟨List.mem_range.mp h1, h2, h4, fun s' hs => h3 s' (List.mem_range.mpr hs)⟩
end
end Z57

namespace Z57
open Z
section
variable {n : Nat} {own : Nat → Bool} {E : List Ed} {goal : Nat → Bool} {T : Tm} {M : Int}
structure Dj (n : Nat) (own : Nat → Bool) (E : List Ed) (goal : Nat → Bool) (T : Tm) (M : Int) : Prop where
  nn : ∀ s t, T s = some t → 0 ≤ t
  M0 : 0 ≤ M
  le : ∀ s t, T s = some t → t ≤ M
  gl : ∀ s, goal s = true → T s = some 0
  eq : ∀ s t, T s = some t → goal s = false → timeAt own E T s = some t
  nx : ∀ s t, T s = none → timeAt own E T s = some t → M ≤ t
  dm : ∀ s t, T s = some t → s < n
theorem put_same {T : Tm} {s : Nat} {t : Int} : put T s t s = some t := by simp [put]
theorem put_ne {T : Tm} {s x : Nat} {t : Int} (h : x ≠ s) : put T s t x = T x := by simp [put, h]
theorem rows_put {T : Tm} {s x : Nat} {t u : Int} (h : T x = none) : some u ∈ rows E (put T x t) s ↔ (some u ∈ rows E T s ∨ ∃ w, (s, x, w) ∈ E ∧ u = t + w) := by
  rw [rows_some, rows_some]
  constructor
  · rintro ⟨j, w, v, h1, h2, h3⟩
    by_cases c : j = x
    · subst c
      rw [put_same] at h2
      cases h2
      exact .inr ⟨w, h1, h3⟩
    · rw [put_ne c] at h2
      exact .inl ⟨j, w, v, h1, h2, h3⟩
  · rintro (⟨j, w, v, h1, h2, h3⟩ | ⟨w, h1, h3⟩)
    · have c : j ≠ x := fun c => by rw [c, h] at h2; cases h2
      exact ⟨j, w, v, h1, by rw [put_ne c]; exact h2, h3⟩
    · exact ⟨x, w, t, h1, put_same, h3⟩
theorem rows_put_none {T : Tm} {s x : Nat} {t : Int} (h : T x = none) (hn : none ∉ rows E T s) : rows E (put T x t) s = rows E T s := by
  refine rows_congr fun j w he => put_ne fun c => ?_
  subst c
  exact hn (rows_none.mpr ⟨_, w, he, h⟩)
/-- what is known stays so -/
theorem timeAt_put {T : Tm} {s x : Nat} {t v : Int} (p : Pos1 E) (h : T x = none) (hv : v ≤ t) (e : timeAt own E T s = some v) : timeAt own E (put T x t) s = some v := by
  unfold timeAt at e ⊢
  by_cases o : own s = true
  · rw [if_pos o] at e ⊢
    obtain ⟨a, b, c⟩ := maxO_some.mp e
    rw [rows_put_none h b]; exact e
  · rw [if_neg o] at e ⊢
    obtain ⟨a, b⟩ := minO_some.mp e
    refine minO_some.mpr ⟨(rows_put h).mpr (.inl a), fun u hu => ?_⟩
    rcases (rows_put h).mp hu with z | ⟨w, he, z⟩
    · exact b u z
    · have := p _ he
      simp only at this
      omega
theorem Dj.step (D : Dj n own E goal T M) (p : Pos1 E) {t : Int} {x : Nat} (hx : x < n) (h : T x = none) (ht : timeAt own E T x = some t) (best : ∀ s' < n, T s' = none → ∀ t', timeAt own E T s' = some t' → t ≤ t') (hE : In n E) : Dj n own E goal (put T x t) t := by
  have hMt := D.nx x t h ht
  have hM0 := D.M0
  have gx : goal x = false := by
    cases c : goal x with
    | false => rfl
    | true => have := D.gl x c; rw [h] at this; cases this
  refine ⟨fun s v hv => ?_, by omega, fun s v hv => ?_, fun s g => ?_, fun s v hv g => ?_, fun s v hn hv => ?_, fun s v hv => ?_⟩
  · by_cases c : s = x
    · subst c; rw [put_same] at hv; cases hv; omega
    · rw [put_ne c] at hv; exact D.nn s v hv
  · by_cases c : s = x
    · subst c; rw [put_same] at hv; cases hv; exact Int.le_refl _
    · rw [put_ne c] at hv; have := D.le s v hv; omega
  · have c : s ≠ x := fun c => by rw [c, gx] at g; cases g
    rw [put_ne c]; exact D.gl s g
  · by_cases c : s = x
    · subst c
      rw [put_same] at hv; cases hv
      exact timeAt_put p h (Int.le_refl _) ht
    · rw [put_ne c] at hv
      exact timeAt_put p h (by have := D.le s v hv; omega) (D.eq s v hv g)
  · have c : s ≠ x := fun c => by rw [c, put_same] at hn; cases hn
    rw [put_ne c] at hn
    have hs : s < n := by
      unfold timeAt at hv
      have : ∃ u, some u ∈ rows E (put T x t) s := by
        split at hv
        · exact ⟨_, (maxO_some.mp hv).1⟩
        · exact ⟨_, (minO_some.mp hv).1⟩
      obtain ⟨u, hu⟩ := this
      obtain ⟨j, w, _, he, _⟩ := rows_some.mp hu
      exact (hE _ he).1
    unfold timeAt at hv
    by_cases o : own s = true
    · rw [if_pos o] at hv
      obtain ⟨a, b, d⟩ := maxO_some.mp hv
      by_cases z : ∃ w, (s, x, w) ∈ E
      · obtain ⟨w, he⟩ := z
        have := d _ ((rows_put h).mpr (.inr ⟨w, he, rfl⟩))
        have := p _ he
        simp only at this
        omega
      · have e : rows E (put T x t) s = rows E T s := rows_congr fun j w he => put_ne fun c => z ⟨w, c ▸ he⟩
        rw [e] at hv
        exact best s hs hn v (by unfold timeAt; rw [if_pos o]; exact hv)
    · rw [if_neg o] at hv
      obtain ⟨a, b⟩ := minO_some.mp hv
      rcases (rows_put h).mp a with z | ⟨w, he, z⟩
      · cases q : timeAt own E T s with
        | none =>
          unfold timeAt at q
          rw [if_neg o] at q
          exact absurd z (minO_none.mp q _)
        | some v' =>
          have b1 := best s hs hn v' q
          unfold timeAt at q
          rw [if_neg o] at q
          have := (minO_some.mp q).2 _ z
          omega
      · have := p _ he
        simp only at this
        omega
  · by_cases c : s = x
    · subst c; exact hx
    · rw [put_ne c] at hv; exact D.dm s v hv
theorem Dj.round (D : Dj n own E goal T M) (p : Pos1 E) (hE : In n E) : ∃ M', Dj n own E goal (round n own E T) M' := by
  unfold Z57.round
  cases q : bestOf n own E T with
  | none => exact ⟨M, D⟩
  | some b =>
    obtain ⟨t, x⟩ := b
    obtain ⟨h1, h2, h3, h4⟩ := best_some q
    exact ⟨t, D.step p h1 h2 h3 h4 hE⟩
theorem Dj.rounds (p : Pos1 E) (hE : In n E) : ∀ (k : Nat) {T : Tm} {M : Int}, Dj n own E goal T M → ∃ M', Dj n own E goal (rounds n own E k T) M'
  | 0, _, M, D => ⟨M, D⟩
  | k + 1, _, _, D => by
    obtain ⟨M', D'⟩ := D.round p hE
    exact Dj.rounds p hE k D'
theorem Dj.start (p : Pos1 E) (hg : ∀ s, goal s = true → s < n) : Dj n own E goal (start goal) 0 := by
  have v0 : ∀ s t, Z57.start goal s = some t → t = 0 ∧ goal s = true := fun s t h => by
    unfold Z57.start at h
    split at h
    · rename_i g; cases h; exact ⟨rfl, g⟩
    · cases h
  refine ⟨fun s t h => by rw [(v0 s t h).1]; exact Int.le_refl _, Int.le_refl _, fun s t h => by rw [(v0 s t h).1]; exact Int.le_refl _, fun s g => by simp [Z57.start, g], fun s t h g => (by rw [(v0 s t h).2] at g; cases g), fun s t _ h => ?_, fun s t h => hg s (v0 s t h).2⟩
  unfold timeAt at h
  have : some t ∈ rows E (Z57.start goal) s := by
    split at h
    · exact (maxO_some.mp h).1
    · exact (minO_some.mp h).1
  obtain ⟨j, w, v, he, q, z⟩ := rows_some.mp this
  have := p _ he
  simp only at this
  have := (v0 j v q).1
  omega
def known (n : Nat) (T : Tm) : Nat := (List.range n).countP fun s => (T s).isSome
theorem rounds_stop : ∀ (k : Nat) {T : Tm}, bestOf n own E T = none → rounds n own E k T = T
  | 0, _, _ => rfl
  | k + 1, T, h => by
    have : round n own E T = T := by unfold round; rw [h]
    simp only [rounds, this]
    exact rounds_stop k h
theorem rounds_end : ∀ (k : Nat) {T : Tm}, n ≤ known n T + k → bestOf n own E (rounds n own E k T) = none
  | 0, T, h => by
    cases q : bestOf n own E T with
    | none => exact q
    | some b =>
      obtain ⟨t, x⟩ := b
      obtain ⟨h1, h2, _⟩ := best_some q
      have := cnt_lt (p := fun s => (T s).isSome) (q := fun _ => true) (l := List.range n) (fun _ _ _ => rfl) ⟨x, List.mem_range.mpr h1, rfl, by simp [h2]⟩
      have e : (List.range n).countP (fun _ => true) = n := by simp
      rw [e] at this
      unfold known at h
      omega
  | k + 1, T, h => by
    simp only [rounds]
    cases q : bestOf n own E T with
    | none =>
      have : round n own E T = T := by unfold round; rw [q]
      rw [this, rounds_stop k q]; exact q
    | some b =>
      obtain ⟨t, x⟩ := b
      obtain ⟨h1, h2, _⟩ := best_some q
      refine rounds_end k ?_
      have e : round n own E T = put T x t := by unfold round; rw [q]
      rw [e]
      have : known n T < known n (put T x t) := by
        refine cnt_lt (fun y _ hy => ?_) ⟨x, List.mem_range.mpr h1, by simp [put_same], by simp [h2]⟩
        by_cases c : y = x
        · subst c; simp [put_same]
        · rw [put_ne c]; exact hy
      omega
/-- the least times are times of the game -/
theorem rounds_fix (p : Pos1 E) (hE : In n E) (hg : ∀ s, goal s = true → s < n) : Fix own E goal (rounds n own E n (start goal)) := by
  obtain ⟨M, D⟩ := Dj.rounds p hE n (Dj.start (own := own) p hg)
  have hn := best_none (rounds_end (n := n) n (own := own) (E := E) (T := start goal) (by omega))
  refine ⟨fun s => ?_, D.nn⟩
  by_cases g : goal s = true
  · rw [if_pos g]; exact D.gl s g
  · rw [if_neg g]
    cases q : rounds n own E n (start goal) s with
    | some t => exact (D.eq s t q (by simpa using g)).symm
    | none =>
      by_cases hs : s < n
      · exact (hn s hs q).symm
      · unfold timeAt
        have e : rows E (rounds n own E n (start goal)) s = [] := by
          unfold rows
          rw [List.map_eq_nil_iff, List.filter_eq_nil_iff]
          intro e he c
          have := (hE e he).1
          have : e.1 = s := by simpa using c
          omega
        rw [e]
        split <;> rfl
theorem rounds_dm (p : Pos1 E) (hE : In n E) (hg : ∀ s, goal s = true → s < n) {s : Nat} {t : Int} (h : rounds n own E n (start goal) s = some t) : s < n := by
  obtain ⟨M, D⟩ := Dj.rounds p hE n (Dj.start (own := own) p hg)
  exact D.dm s t h
end
/-! ## ways there and back -/
def rev (E : List Ed) : List Ed := E.map fun e => (e.2.1, e.1, e.2.2)
theorem rev_mem {E : List Ed} {i j : Nat} {w : Int} : (i, j, w) ∈ rev E ↔ (j, i, w) ∈ E := by
  unfold rev
  simp only [List.mem_map]
  constructor
  · rintro ⟨⟨a, b, c⟩, h, e⟩
    simp only [Prod.mk.injEq] at e
    obtain ⟨rfl, rfl, rfl⟩ := e
    exact h
  · intro h
    exact ⟨(j, i, w), h, rfl⟩
def free : Nat → Bool := fun _ => false
section
variable {E : List Ed} {goal : Nat → Bool} {T D : Tm} {s : Nat}
/-- closed -/
theorem Fix.cl (f : Fix free E goal T) {i j : Nat} {w u : Int} (p : Pos1 E) (he : (i, j, w) ∈ E) (h : T j = some u) : ∃ v, T i = some v ∧ v ≤ u + w := by
  have e := f.eq i
  by_cases g : goal i = true
  · rw [if_pos g] at e
    have := f.nn j u h
    have := p _ he
    simp only at this
    exact ⟨0, e, by omega⟩
  · rw [if_neg g] at e
    unfold timeAt free at e
    rw [if_neg (by simp)] at e
    cases q : T i with
    | none =>
      rw [q] at e
      exact absurd (rows_some.mpr ⟨j, w, u, he, h, rfl⟩) (minO_none.mp e.symm _)
    | some v =>
      rw [q] at e
      exact ⟨v, rfl, (minO_some.mp e.symm).2 _ (rows_some.mpr ⟨j, w, u, he, h, rfl⟩)⟩
/-- where it comes from -/
theorem Fix.fr (f : Fix free E goal T) {i : Nat} {v : Int} (h : T i = some v) : (goal i = true ∧ v = 0) ∨ ∃ j w u, (i, j, w) ∈ E ∧ T j = some u ∧ v = u + w := by
  have e := f.eq i
  rw [h] at e
  by_cases g : goal i = true
  · rw [if_pos g] at e
    exact .inl ⟨g, Option.some.inj e⟩
  · rw [if_neg g] at e
    unfold timeAt free at e
    rw [if_neg (by simp)] at e
    exact .inr (rows_some.mp (minO_some.mp e.symm).1)
/-- D are the lengths from s on, T those to a goal -/
theorem dual1 (f : Fix free E goal T) (d : Fix free (rev E) (fun x => x == s) D) (p : Pos1 E) : ∀ (m x : Nat) (t u : Int), t < m → D x = some t → T x = some u → ∃ v, T s = some v ∧ v ≤ t + u
  | 0, x, t, u, h, hd, _ => absurd (d.nn x t hd) (by omega)
  | m + 1, x, t, u, h, hd, ht => by
    rcases d.fr hd with ⟨g, rfl⟩ | ⟨j, w, t', he, hj, rfl⟩
    · have : x = s := by simpa using g
      subst this
      exact ⟨u, ht, by omega⟩
    · have he := rev_mem.mp he
      have hw := p _ he
      simp only at hw
      obtain ⟨v, h1, h2⟩ := f.cl p he ht
      obtain ⟨v', h3, h4⟩ := dual1 f d p m j t' v (by omega) hj h1
      exact ⟨v', h3, by omega⟩
theorem dual2 (f : Fix free E goal T) (d : Fix free (rev E) (fun x => x == s) D) (p : Pos1 E) : ∀ (m x : Nat) (t u : Int), u < m → D x = some t → T x = some u → ∃ g v, goal g = true ∧ D g = some v ∧ v ≤ t + u
  | 0, x, t, u, h, _, ht => absurd (f.nn x u ht) (by omega)
  | m + 1, x, t, u, h, hd, ht => by
    rcases f.fr ht with ⟨g, rfl⟩ | ⟨j, w, u', he, hj, rfl⟩
    · exact ⟨x, t, g, hd, by omega⟩
    · have hw := p _ he
      simp only at hw
      have pr : Pos1 (rev E) := fun e he => by
        obtain ⟨a, b, c⟩ := e
        have := p _ (rev_mem.mp he)
        exact this
      obtain ⟨v, h1, h2⟩ := d.cl pr (rev_mem.mpr he) hd
      obtain ⟨g, v', h3, h4, h5⟩ := dual2 f d p m j v u' (by omega) h1 hj
      exact ⟨g, v', h3, h4, by omega⟩
/-- the time of a spot is the least length to a goal -/
theorem dual (f : Fix free E goal T) (d : Fix free (rev E) (fun x => x == s) D) (p : Pos1 E) {L : List (Option Int)} (hL : ∀ x, x ∈ L ↔ ∃ g, goal g = true ∧ D g = x) : T s = minO L := by
  have d0 : D s = some 0 := by have := d.eq s; simpa using this
  cases h : T s with
  | none =>
    symm
    rw [minO_none]
    intro u hu
    obtain ⟨g, hg, hd⟩ := (hL _).mp hu
    have tg : T g = some 0 := by have := f.eq g; rw [if_pos hg] at this; exact this
    obtain ⟨v, h1, _⟩ := dual1 f d p (u.toNat + 1) g u 0 (by have := d.nn g u hd; omega) hd tg
    rw [h] at h1; cases h1
  | some t =>
    symm
    rw [minO_some]
    have low : ∀ u, some u ∈ L → t ≤ u := fun u hu => by
      obtain ⟨g, hg, hd⟩ := (hL _).mp hu
      have tg : T g = some 0 := by have := f.eq g; rw [if_pos hg] at this; exact this
      obtain ⟨v, h1, h2⟩ := dual1 f d p (u.toNat + 1) g u 0 (by have := d.nn g u hd; omega) hd tg
      rw [h] at h1; cases h1; omega
    obtain ⟨g, v, h1, h2, h3⟩ := dual2 f d p (t.toNat + 1) s 0 t (by have := f.nn s t h; omega) d0 h
    have h4 := low v ((hL _).mpr ⟨g, h1, h2⟩)
    have : v = t := by omega
    subst this
    exact ⟨(hL _).mpr ⟨g, h1, h2⟩, low⟩
end
end Z57

namespace Z57
open Z
/-! ## lowering along the edges -/
def relax (q : Tm × Bool) (e : Ed) : Tm × Bool := match q.1 e.1 with
  | none => q
  | some x => match q.1 e.2.1 with
    | none => (put q.1 e.2.1 (x + e.2.2), true)
    | some y => if x + e.2.2 < y then (put q.1 e.2.1 (x + e.2.2), true) else q
def pass (E : List Ed) (T : Tm) : Tm × Bool := E.foldl relax (T, false)
def low (E : List Ed) : Nat → Tm → Option Tm
  | 0, _ => none
  | k + 1, T => if (pass E T).2 = true then low E k (pass E T).1 else some (pass E T).1
theorem relax_flag : ∀ (l : List Ed) (q : Tm × Bool), (l.foldl relax q).2 = false → q.2 = false ∧ (l.foldl relax q).1 = q.1
  | [], q, h => ⟨h, rfl⟩
  | e :: l, q, h => by
    rw [List.foldl_cons] at h ⊢
    obtain ⟨h1, h2⟩ := relax_flag l _ h
    have : relax q e = q := by
      unfold relax at h1 ⊢
      split
      · rfl
      · rename_i x hx
        rw [hx] at h1
        simp only at h1
        split at h1
        · cases h1
        · rename_i y hy
          split at h1
          · cases h1
          · rename_i c
            rw [if_neg c]
    rw [this] at h1 h2 ⊢
    exact ⟨h1, h2⟩
section
variable {n : Nat} {E : List Ed} {D : Tm} {s : Nat}
def Snd (D T : Tm) : Prop := ∀ b u, T b = some u → ∃ v, D b = some v ∧ v ≤ u
def Ex (n : Nat) (D : Tm) (k : Nat) (T : Tm) : Prop := ∀ b t, D b = some t → rk n D t ≤ k → T b = some t
theorem Pos1.rev (p : Pos1 E) : Pos1 (rev E) := fun e he => by
  obtain ⟨a, b, c⟩ := e
  have := p _ (rev_mem.mp he)
  exact this
theorem relax_snd (d : Fix free (rev E) (fun x => x == s) D) (p : Pos1 E) {q : Tm × Bool} {e : Ed} (he : e ∈ E) (h : Snd D q.1) : Snd D (relax q e).1 := by
  obtain ⟨a, b, w⟩ := e
  unfold relax
  simp only
  have key : ∀ x, q.1 a = some x → Snd D (put q.1 b (x + w)) := fun x hx c u hu => by
    by_cases z : c = b
    · subst z
      rw [put_same] at hu
      cases hu
      obtain ⟨v, h1, h2⟩ := h a x hx
      obtain ⟨v', h3, h4⟩ := d.cl p.rev (rev_mem.mpr he) h1
      exact ⟨v', h3, by omega⟩
    · rw [put_ne z] at hu; exact h c u hu
  split
  · exact h
  · rename_i x hx
    split
    · exact key x hx
    · split
      · exact key x hx
      · exact h
/-- what is exact stays -/
theorem relax_keep (d : Fix free (rev E) (fun x => x == s) D) (p : Pos1 E) {q : Tm × Bool} {e : Ed} (he : e ∈ E) (h : Snd D q.1) {b : Nat} {t : Int} (hb : D b = some t) (hq : q.1 b = some t) : (relax q e).1 b = some t := by
  have h' := relax_snd d p he h
  obtain ⟨a, c, w⟩ := e
  unfold relax at h' ⊢
  simp only at h' ⊢
  split
  · exact hq
  · rename_i x hx
    rw [hx] at h'
    simp only at h'
    split
    · rename_i hc
      have z : b ≠ c := fun z => by rw [← z, hq] at hc; cases hc
      show put q.1 c (x + w) b = some t
      rw [put_ne z]; exact hq
    · rename_i y hy
      rw [hy] at h'
      simp only at h'
      split
      · rename_i lt
        rw [if_pos lt] at h'
        show put q.1 c (x + w) b = some t
        by_cases z : b = c
        · subst z
          obtain ⟨v, h1, h2⟩ := h' b (x + w) put_same
          rw [hb] at h1; cases h1
          rw [hq] at hy; cases hy
          omega
        · rw [put_ne z]; exact hq
      · exact hq
theorem fold_snd (d : Fix free (rev E) (fun x => x == s) D) (p : Pos1 E) : ∀ (l : List Ed) (q : Tm × Bool), (∀ e ∈ l, e ∈ E) → Snd D q.1 → Snd D (l.foldl relax q).1
  | [], _, _, h => h
  | e :: l, q, hl, h => by
    rw [List.foldl_cons]
    exact fold_snd d p l _ (fun e he => hl e (.tail _ he)) (relax_snd d p (hl e (.head _)) h)
theorem fold_keep (d : Fix free (rev E) (fun x => x == s) D) (p : Pos1 E) {b : Nat} {t : Int} (hb : D b = some t) : ∀ (l : List Ed) (q : Tm × Bool), (∀ e ∈ l, e ∈ E) → Snd D q.1 → q.1 b = some t → (l.foldl relax q).1 b = some t
  | [], _, _, _, h => h
  | e :: l, q, hl, h, hq => by
    rw [List.foldl_cons]
    exact fold_keep d p hb l _ (fun e he => hl e (.tail _ he)) (relax_snd d p (hl e (.head _)) h) (relax_keep d p (hl e (.head _)) h hb hq)
theorem fold_get (d : Fix free (rev E) (fun x => x == s) D) (p : Pos1 E) {j b : Nat} {u w : Int} (hj : D j = some u) (hb : D b = some (u + w)) : ∀ (l : List Ed) (q : Tm × Bool), (∀ e ∈ l, e ∈ E) → Snd D q.1 → q.1 j = some u → (j, b, w) ∈ l → (l.foldl relax q).1 b = some (u + w)
  | [], _, _, _, _, h => by cases h
  | e :: l, q, hl, h, hq, hm => by
    rw [List.foldl_cons]
    have hl' : ∀ e ∈ l, e ∈ E := fun e he => hl e (.tail _ he)
    have h1 := relax_snd d p (hl e (.head _)) h
    rcases List.mem_cons.mp hm with z | z
    · subst z
      refine fold_keep d p hb l _ hl' h1 ?_
      unfold relax at h1 ⊢
      simp only [hq] at h1 ⊢
      split
      · exact put_same
      · rename_i y hy
        split
        · exact put_same
        · rename_i c
          obtain ⟨v, k1, k2⟩ := h b y hy
          rw [hb] at k1; cases k1
          rw [hy]; congr 1; omega
    · exact fold_get d p hj hb l _ hl' h1 (relax_keep d p (hl e (.head _)) h hj hq) z
theorem pass_ex (d : Fix free (rev E) (fun x => x == s) D) (p : Pos1 E) (dm : ∀ x t, D x = some t → x < n) {k : Nat} {T : Tm} (h : Snd D T) (hk : Ex n D k T) : Ex n D (k + 1) (pass E T).1 := by
  intro b t hb hr
  have d0 : ∀ x t, D x = some t → x < n := dm
  by_cases c : rk n D t ≤ k
  · exact fold_keep d p hb E _ (fun _ z => z) h (hk b t hb c)
  · rcases d.fr hb with ⟨g, rfl⟩ | ⟨j, w, u, he, hj, rfl⟩
    · exfalso
      apply c
      have : rk n D 0 = 0 := by
        unfold rk
        rw [List.countP_eq_zero]
        intro x _ hx
        unfold below at hx
        split at hx
        · rename_i v hv
          have := d.nn x v hv
          simp at hx; omega
        · cases hx
      omega
    · have he := rev_mem.mp he
      have hw := p _ he
      simp only at hw
      have := rk_lt (dm j u hj) hj (show u < u + w by omega)
      exact fold_get d p hj hb E _ (fun _ z => z) h (hk j u hj (by omega)) he
theorem low_ok (d : Fix free (rev E) (fun x => x == s) D) (p : Pos1 E) (dm : ∀ x t, D x = some t → x < n) : ∀ (m k : Nat) (T : Tm), n ≤ k + m → Snd D T → Ex n D k T → low E (m + 1) T = some D := by
  have all : ∀ (k : Nat) (T : Tm), n ≤ k → Snd D T → Ex n D k T → T = D := fun k T hk h e => by
    funext b
    cases q : D b with
    | some t => exact e b t q (Nat.le_trans (Nat.le_of_lt (rk_n (dm b t q) q)) hk)
    | none =>
      cases q' : T b with
      | none => rfl
      | some u =>
        obtain ⟨v, h1, _⟩ := h b u q'
        rw [q] at h1; cases h1
  have fixd : ∀ (k : Nat) (T : Tm), (pass E T).2 = false → Snd D T → Ex n D k T → T = D := by
    intro k T hf h e
    have ht : (pass E T).1 = T := (relax_flag E (T, false) hf).2
    have up : ∀ i, Ex n D (k + i) T := by
      intro i
      induction i with
      | zero => exact e
      | succ i ih =>
        have := pass_ex d p dm h ih
        rw [ht] at this
        exact this
    exact all (k + n) T (by omega) h (up n)
  intro m
  induction m with
  | zero =>
    intro k T hk h e
    have ht := all k T (by omega) h e
    have hp := fold_snd d p E (T, false) (fun _ z => z) h
    have he := pass_ex d p dm h e
    have h2 := all (k + 1) (pass E T).1 (by omega) hp he
    simp only [low]
    by_cases c : (pass E T).2 = true
    · -- a change lowers
      exfalso
      have key : ∀ (l : List Ed) (q : Tm × Bool), (∀ e ∈ l, e ∈ E) → q.1 = D → q.2 = false → (l.foldl relax q).2 = false := by
        intro l
        induction l with
        | nil => intro q _ _ h; exact h
        | cons e l ih =>
          intro q hl hq hf
          rw [List.foldl_cons]
          have : relax q e = q := by
            obtain ⟨a, b, w⟩ := e
            unfold relax
            simp only [hq]
            split
            · rfl
            · rename_i x hx
              obtain ⟨v, k1, k2⟩ := d.cl p.rev (rev_mem.mpr (hl _ (.head _))) hx
              rw [k1]
              simp only
              rw [if_neg (by omega)]
          rw [this]
          exact ih q (fun e he => hl e (.tail _ he)) hq hf
      have := key E (T, false) (fun _ z => z) ht rfl
      unfold pass at c
      rw [this] at c; cases c
    · rw [if_neg c, h2]
  | succ m ih =>
    intro k T hk h e
    have hp := fold_snd d p E (T, false) (fun _ z => z) h
    have he := pass_ex d p dm h e
    rw [low]
    by_cases c : (pass E T).2 = true
    · rw [if_pos c]
      exact ih (k + 1) _ (by omega) hp he
    · rw [if_neg c]
      have ht : (pass E T).1 = T := (relax_flag E (T, false) (show (pass E T).2 = false by simpa using c)).2
      rw [ht]
      congr 1
      exact fixd k T (by simpa using c) h e
theorem low_eq (d : Fix free (rev E) (fun x => x == s) D) (p : Pos1 E) (dm : ∀ x t, D x = some t → x < n) : low E (n + 1) (start fun x => x == s) = some D := by
  refine low_ok d p dm n 0 _ (by omega) (fun b u h => ?_) (fun b t h hr => ?_)
  · unfold start at h
    split at h
    · rename_i g
      cases h
      have := d.eq b
      rw [if_pos g] at this
      exact ⟨0, this, Int.le_refl _⟩
    · cases h
  · rcases d.fr h with ⟨g, rfl⟩ | ⟨j, w, u, he, hj, rfl⟩
    · unfold start; rw [if_pos g]
    · have hw := p _ (rev_mem.mp he)
      simp only at hw
      have := rk_lt (dm j u hj) hj (show u < u + w by omega)
      omega
end
end Z57

namespace Z57
open PySem L2 Z
def encE (e : Ed) : PyData := .tuple [.int e.1, .int e.2.1, .int e.2.2]
def encO : Option Int → PyData
  | none => .none
  | some t => .int t
def enumN {α : Type} : Nat → List α → List (Nat × α)
  | _, [] => []
  | k, x :: xs => (k, x) :: enumN (k + 1) xs
theorem enumN_snd {α : Type} : ∀ (k : Nat) (l : List α), (enumN k l).map (·.2) = l
  | _, [] => rfl
  | k, x :: xs => by simp [enumN, enumN_snd (k + 1) xs]
theorem enumN_get {α : Type} : ∀ (k : Nat) (l : List α) (q : Nat × α), q ∈ enumN k l → k ≤ q.1 ∧ l[q.1 - k]? = some q.2
  | _, [], _, h => by cases h
  | k, x :: xs, q, h => by
    rcases List.mem_cons.mp h with rfl | h
    · simp
    · obtain ⟨h1, h2⟩ := enumN_get (k + 1) xs q h
      refine ⟨by omega, ?_⟩
      rw [show q.1 - k = (q.1 - (k + 1)) + 1 by omega, List.getElem?_cons_succ]
      exact h2
theorem enumD_map {α : Type} {g : α → PyData} : ∀ (k : Nat) (l : List α), enumD k (l.map g) = (enumN k l).map fun q => PyData.tuple [.int (q.1 : Nat), g q.2]
  | _, [] => rfl
  | k, x :: xs => by simp [enumN, enumD, enumD_map (k + 1) xs]
def ownD (own : Nat → Bool) (n : Nat) : PyData := .tuple ((List.range n).map fun s => PyData.int (if own s = true then 1 else 0))
def val (own : Nat → Bool) (E : List Ed) (gl : List Nat) (n : Nat) : PyData := .tuple [ownD own n, .tuple (E.map encE), .tuple (gl.map fun g => PyData.int (g : Nat))]
def lead (E : List Ed) (s : Nat) : List (Nat × Ed) := (enumN 0 E).filter fun q => q.2.1 == s
def tmL (T : Tm) (n : Nat) : List PyData := (List.range n).map fun s => encO (T s)
theorem tm_get {T : Tm} {n s : Nat} (h : s < n) : (tmL T n)[s]? = some (encO (T s)) := by simp [tmL, h]
theorem call_leading {k : Nat} {args : List Slot} {s : DS} : callT Gf tab (k + 1) "leading" args s = evDef (callT Gf tab k) Gf 2 4 ir_leading args s := by kernel_rfl
theorem call_told_by {k : Nat} {args : List Slot} {s : DS} : callT Gf tab (k + 1) "told_by" args s = evDef (callT Gf tab k) Gf 3 6 ir_told_by args s := by kernel_rfl
theorem call_time_at {k : Nat} {args : List Slot} {s : DS} : callT Gf tab (k + 1) "time_at" args s = evDef (callT Gf tab k) Gf 3 6 ir_time_at args s := by kernel_rfl
section
variable {own : Nat → Bool} {E : List Ed} {gl : List Nat} {n : Nat} {T : Tm}
theorem run_leading {k : Nat} {sp : Nat} {s : DS} (hz : E.length ≤ 1000) : callT Gf tab (k + 1) "leading" [.val (val own E gl n), .val (.int sp)] s = some (.fresh ((lead E sp).map fun q => PyData.int (q.1 : Nat)), s) := by
  rw [call_leading]
  refine dRt rfl rfl ?_
  unfold ir_leading
  rw [show val own E gl n = .tuple [ownD own n, .tuple (E.map encE), .tuple (gl.map fun g => PyData.int (g : Nat))] from rfl]
  have lp : lcLoop (lcSt (callT Gf tab k) Gf (.var 2) (.tup (.cons (.name 2) (.cons (.name 3) .nil))) (.cons (.e (.cmp .eq (.ix (.var 3) (.cst (.int 0))) (.var 1))) .nil) [.val (.tuple [ownD own n, .tuple (E.map encE), .tuple (gl.map fun g => PyData.int (g : Nat))]), .val (.int sp), .no, .no]) (enumD 0 (E.map encE)) s = some ((lead E sp).map fun q => PyData.int (q.1 : Nat), s) := by
    rw [enumD_map]
    refine lc_fil (α := Nat × Ed) (p := fun q => q.2.1 == sp) fun q _ => ?_
    have e : ((q.2.1 : Int) == (sp : Int)) = (q.2.1 == sp) := by
      rw [Bool.eq_iff_iff]; simp only [beq_iff_eq]; omega
    have t : evTs (callT Gf tab k) Gf (.cons (.e (.cmp .eq (.ix (.var 3) (.cst (.int 0))) (.var 1))) .nil) [.val (.tuple [ownD own n, .tuple (E.map encE), .tuple (gl.map fun g => PyData.int (g : Nat))]), .val (.int sp), .val (.int (q.1 : Nat)), .val (.tuple [.int q.2.1, .int q.2.2.1, .int q.2.2.2])] s = some ((q.2.1 == sp) && true, s) := by
      rw [← e]
      (repeat first | with_reducible exact Z.gSo | with_reducible exact Z.rCs | with_reducible exact Z.rCi | with_reducible exact Z.rCb | with_reducible exact Z.rCn | with_reducible exact Z.rF | with_reducible exact Z.srV | with_reducible exact Z.iaV | with_reducible exact Z.iaF | with_reducible exact Z.iaA | with_reducible exact Z.srO | with_reducible exact Z.srH | with_reducible exact Z.srF | with_reducible exact Z.daV | with_reducible exact Z.daF | with_reducible exact Z.daA | with_reducible exact Z.slV | with_reducible exact Z.slF | with_reducible exact Z.slH | with_reducible exact Z.slFn | with_reducible exact Z.emV | with_reducible exact Z.emF | with_reducible exact Z.ebN | with_reducible exact Z.reV | with_reducible exact Z.reF | with_reducible exact Z.reA | with_reducible exact Z.agN | with_reducible exact Z.arV | with_reducible exact Z.arF | with_reducible exact Z.arA | with_reducible exact Z.arH | with_reducible exact Z.arFn | with_reducible exact Z.inB | with_reducible exact Z.inI | with_reducible exact Z.inN | with_reducible exact Z.trB | with_reducible exact Z.trI | with_reducible exact Z.trL | with_reducible exact Z.trT | with_reducible exact Z.trN | with_reducible exact Z.bnAdd | with_reducible exact Z.bnSub | with_reducible exact Z.cpLt | with_reducible exact Z.cpLe | with_reducible exact Z.cpGt | with_reducible exact Z.cpGe | with_reducible exact Z.cpIs | with_reducible exact Z.cpNo | with_reducible exact Z.cEqI | with_reducible exact Z.cNeI | with_reducible exact Z.cEqB | with_reducible exact Z.cNeB | with_reducible exact Z.sqL | with_reducible exact Z.sqT | with_reducible exact Z.ix0 | with_reducible exact Z.ix1 | with_reducible exact Z.ix2 | with_reducible exact Z.ix3 | with_reducible exact Z.ix4 | with_reducible exact Z.rNil | with_reducible exact Z.rTsN | with_reducible exact Z.rOn | with_reducible exact Z.ssN | with_reducible exact Z.coR | with_reducible exact Z.coC | with_reducible exact Z.coB | with_reducible exact Z.sRetN | with_reducible exact Z.sCont | with_reducible exact Z.sBrk | with_reducible exact Z.sPass | with_reducible apply Z.ebC | with_reducible apply Z.agC | with_reducible apply Z.rV | with_reducible apply Z.rG | with_reducible apply Z.ssF | with_reducible apply Z.ssC | with_reducible apply Z.coN | with_reducible apply Z.sRet | with_reducible apply Z.sIf | with_reducible apply Z.cT | with_reducible apply Z.cF | with_reducible apply Z.sAsg | with_reducible apply Z.sAsgT | with_reducible apply Z.sPar | with_reducible apply Z.sPar3 | with_reducible apply Z.sExpr | with_reducible apply Z.sMeth | with_reducible apply Z.sSetix | with_reducible apply Z.sAugA | with_reducible apply Z.sAugS | with_reducible apply Z.rTe | with_reducible apply Z.rTnot | with_reducible apply Z.rTand | with_reducible apply Z.rTor | with_reducible apply Z.rTsC | with_reducible apply Z.rCons | with_reducible apply Z.rCmp | with_reducible apply Z.rBin | with_reducible apply Z.rIx | with_reducible apply Z.rSl | with_reducible apply Z.rOs | with_reducible apply Z.rNeg | with_reducible apply Z.rNot | with_reducible apply Z.rAnd | with_reducible apply Z.rOr | with_reducible apply Z.rIte | with_reducible apply Z.rCall | with_reducible apply Z.rCallV | with_reducible apply Z.rBlt | with_reducible apply Z.rIsi | with_reducible apply Z.rTup | with_reducible apply Z.rLst | with_reducible apply Z.rRange | with_reducible apply Z.rSeq | with_reducible apply Z.rEnum | with_reducible apply Z.bnAddT | with_reducible apply Z.bnAddL | with_reducible apply Z.blLL | with_reducible apply Z.blLT | with_reducible apply Z.blMx | with_reducible apply Z.blMn | with_reducible apply Z.mtApp | with_reducible apply Z.mtExt | ((with_reducible apply Z.cGt); · rfl) | ((with_reducible apply Z.cGf); · rfl) | ((with_reducible apply Z.gFrz); rfl) | ((with_reducible apply Z.gEqE); rfl) | ((with_reducible apply Z.gEqX); rfl) | ((with_reducible apply Z.gEqB); rfl) | ((with_reducible apply Z.gGet); rfl) | ((with_reducible apply Z.gAsg); rfl) | ((with_reducible apply Z.gWipe); rfl) | ((with_reducible apply Z.gGlo); rfl) | ((with_reducible apply Z.szL); rfl) | ((with_reducible apply Z.gIn) <;> first | rfl | ((with_reducible apply Z.gIn1); rfl)))
    rw [Bool.and_true] at t
    exact lcS (ρ' := [.val (.tuple [ownD own n, .tuple (E.map encE), .tuple (gl.map fun g => PyData.int (g : Nat))]), .val (.int sp), .val (.int (q.1 : Nat)), .val (.tuple [.int q.2.1, .int q.2.2.1, .int q.2.2.2])]) rfl t (rV rfl rfl) rfl
  have hl : (enumD 0 (E.map encE)).length ≤ sizeLine := by rw [enumD_len, List.length_map]; exact Nat.le_trans hz (by decide)
  (repeat first | with_reducible exact hl | with_reducible apply Z.rLc (h4 := lp) | with_reducible exact Z.gSo | with_reducible exact Z.rCs | with_reducible exact Z.rCi | with_reducible exact Z.rCb | with_reducible exact Z.rCn | with_reducible exact Z.rF | with_reducible exact Z.srV | with_reducible exact Z.iaV | with_reducible exact Z.iaF | with_reducible exact Z.iaA | with_reducible exact Z.srO | with_reducible exact Z.srH | with_reducible exact Z.srF | with_reducible exact Z.daV | with_reducible exact Z.daF | with_reducible exact Z.daA | with_reducible exact Z.slV | with_reducible exact Z.slF | with_reducible exact Z.slH | with_reducible exact Z.slFn | with_reducible exact Z.emV | with_reducible exact Z.emF | with_reducible exact Z.ebN | with_reducible exact Z.reV | with_reducible exact Z.reF | with_reducible exact Z.reA | with_reducible exact Z.agN | with_reducible exact Z.arV | with_reducible exact Z.arF | with_reducible exact Z.arA | with_reducible exact Z.arH | with_reducible exact Z.arFn | with_reducible exact Z.inB | with_reducible exact Z.inI | with_reducible exact Z.inN | with_reducible exact Z.trB | with_reducible exact Z.trI | with_reducible exact Z.trL | with_reducible exact Z.trT | with_reducible exact Z.trN | with_reducible exact Z.bnAdd | with_reducible exact Z.bnSub | with_reducible exact Z.cpLt | with_reducible exact Z.cpLe | with_reducible exact Z.cpGt | with_reducible exact Z.cpGe | with_reducible exact Z.cpIs | with_reducible exact Z.cpNo | with_reducible exact Z.cEqI | with_reducible exact Z.cNeI | with_reducible exact Z.cEqB | with_reducible exact Z.cNeB | with_reducible exact Z.sqL | with_reducible exact Z.sqT | with_reducible exact Z.ix0 | with_reducible exact Z.ix1 | with_reducible exact Z.ix2 | with_reducible exact Z.ix3 | with_reducible exact Z.ix4 | with_reducible exact Z.rNil | with_reducible exact Z.rTsN | with_reducible exact Z.rOn | with_reducible exact Z.ssN | with_reducible exact Z.coR | with_reducible exact Z.coC | with_reducible exact Z.coB | with_reducible exact Z.sRetN | with_reducible exact Z.sCont | with_reducible exact Z.sBrk | with_reducible exact Z.sPass | with_reducible apply Z.ebC | with_reducible apply Z.agC | with_reducible apply Z.rV | with_reducible apply Z.rG | with_reducible apply Z.ssF | with_reducible apply Z.ssC | with_reducible apply Z.coN | with_reducible apply Z.sRet | with_reducible apply Z.sIf | with_reducible apply Z.cT | with_reducible apply Z.cF | with_reducible apply Z.sAsg | with_reducible apply Z.sAsgT | with_reducible apply Z.sPar | with_reducible apply Z.sPar3 | with_reducible apply Z.sExpr | with_reducible apply Z.sMeth | with_reducible apply Z.sSetix | with_reducible apply Z.sAugA | with_reducible apply Z.sAugS | with_reducible apply Z.rTe | with_reducible apply Z.rTnot | with_reducible apply Z.rTand | with_reducible apply Z.rTor | with_reducible apply Z.rTsC | with_reducible apply Z.rCons | with_reducible apply Z.rCmp | with_reducible apply Z.rBin | with_reducible apply Z.rIx | with_reducible apply Z.rSl | with_reducible apply Z.rOs | with_reducible apply Z.rNeg | with_reducible apply Z.rNot | with_reducible apply Z.rAnd | with_reducible apply Z.rOr | with_reducible apply Z.rIte | with_reducible apply Z.rCall | with_reducible apply Z.rCallV | with_reducible apply Z.rBlt | with_reducible apply Z.rIsi | with_reducible apply Z.rTup | with_reducible apply Z.rLst | with_reducible apply Z.rRange | with_reducible apply Z.rSeq | with_reducible apply Z.rEnum | with_reducible apply Z.bnAddT | with_reducible apply Z.bnAddL | with_reducible apply Z.blLL | with_reducible apply Z.blLT | with_reducible apply Z.blMx | with_reducible apply Z.blMn | with_reducible apply Z.mtApp | with_reducible apply Z.mtExt | ((with_reducible apply Z.cGt); · rfl) | ((with_reducible apply Z.cGf); · rfl) | ((with_reducible apply Z.gFrz); rfl) | ((with_reducible apply Z.gEqE); rfl) | ((with_reducible apply Z.gEqX); rfl) | ((with_reducible apply Z.gEqB); rfl) | ((with_reducible apply Z.gGet); rfl) | ((with_reducible apply Z.gAsg); rfl) | ((with_reducible apply Z.gWipe); rfl) | ((with_reducible apply Z.gGlo); rfl) | ((with_reducible apply Z.szL); rfl) | ((with_reducible apply Z.gIn) <;> first | rfl | ((with_reducible apply Z.gIn1); rfl)))
  all_goals first | rfl | exact lp
theorem run_told_by {k : Nat} {q : Nat × Ed} {s : DS} {L : PyData} (hq : q ∈ enumN 0 E) (hL : L = .list (tmL T n) ∨ L = .tuple (tmL T n)) (hj : q.2.2.1 < n) :
    callT Gf tab (k + 1) "told_by" [.val (val own E gl n), .val L, .val (.int (q.1 : Nat))] s = some (.val (encO ((T q.2.2.1).map (· + q.2.2.2))), s) := by
  rw [call_told_by]
  refine dRt rfl rfl ?_
  unfold ir_told_by
  rw [show val own E gl n = .tuple [ownD own n, .tuple (E.map encE), .tuple (gl.map fun g => PyData.int (g : Nat))] from rfl]
  have hg := (enumN_get 0 E q hq).2
  have ix : evIx (.tuple (E.map encE)) (.int (q.1 : Nat)) = some (.tuple [.int q.2.1, .int q.2.2.1, .int q.2.2.2]) := ixT (by
    rw [List.getElem?_map, show E[q.1]? = some q.2 from hg]; rfl)
  have it : evIx L (.int (q.2.2.1 : Nat)) = some (encO (T q.2.2.1)) := by
    rcases hL with rfl | rfl
    · exact ixL (tm_get hj)
    · exact ixT (tm_get hj)
  cases c : T q.2.2.1 with
  | none =>
    rw [c] at it
    have it : evIx L (.int (q.2.2.1 : Nat)) = some .none := it
    apply Eq.trans
    (repeat first | with_reducible exact ix | with_reducible exact it | with_reducible exact Z.gSo | with_reducible exact Z.rCs | with_reducible exact Z.rCi | with_reducible exact Z.rCb | with_reducible exact Z.rCn | with_reducible exact Z.rF | with_reducible exact Z.srV | with_reducible exact Z.iaV | with_reducible exact Z.iaF | with_reducible exact Z.iaA | with_reducible exact Z.srO | with_reducible exact Z.srH | with_reducible exact Z.srF | with_reducible exact Z.daV | with_reducible exact Z.daF | with_reducible exact Z.daA | with_reducible exact Z.slV | with_reducible exact Z.slF | with_reducible exact Z.slH | with_reducible exact Z.slFn | with_reducible exact Z.emV | with_reducible exact Z.emF | with_reducible exact Z.ebN | with_reducible exact Z.reV | with_reducible exact Z.reF | with_reducible exact Z.reA | with_reducible exact Z.agN | with_reducible exact Z.arV | with_reducible exact Z.arF | with_reducible exact Z.arA | with_reducible exact Z.arH | with_reducible exact Z.arFn | with_reducible exact Z.inB | with_reducible exact Z.inI | with_reducible exact Z.inN | with_reducible exact Z.trB | with_reducible exact Z.trI | with_reducible exact Z.trL | with_reducible exact Z.trT | with_reducible exact Z.trN | with_reducible exact Z.bnAdd | with_reducible exact Z.bnSub | with_reducible exact Z.cpLt | with_reducible exact Z.cpLe | with_reducible exact Z.cpGt | with_reducible exact Z.cpGe | with_reducible exact Z.cpIs | with_reducible exact Z.cpNo | with_reducible exact Z.cEqI | with_reducible exact Z.cNeI | with_reducible exact Z.cEqB | with_reducible exact Z.cNeB | with_reducible exact Z.sqL | with_reducible exact Z.sqT | with_reducible exact Z.ix0 | with_reducible exact Z.ix1 | with_reducible exact Z.ix2 | with_reducible exact Z.ix3 | with_reducible exact Z.ix4 | with_reducible exact Z.rNil | with_reducible exact Z.rTsN | with_reducible exact Z.rOn | with_reducible exact Z.ssN | with_reducible exact Z.coR | with_reducible exact Z.coC | with_reducible exact Z.coB | with_reducible exact Z.sRetN | with_reducible exact Z.sCont | with_reducible exact Z.sBrk | with_reducible exact Z.sPass | with_reducible apply Z.ebC | with_reducible apply Z.agC | with_reducible apply Z.rV | with_reducible apply Z.rG | with_reducible apply Z.ssF | with_reducible apply Z.ssC | with_reducible apply Z.coN | with_reducible apply Z.sRet | with_reducible apply Z.sIf | with_reducible apply Z.cT | with_reducible apply Z.cF | with_reducible apply Z.sAsg | with_reducible apply Z.sAsgT | with_reducible apply Z.sPar | with_reducible apply Z.sPar3 | with_reducible apply Z.sExpr | with_reducible apply Z.sMeth | with_reducible apply Z.sSetix | with_reducible apply Z.sAugA | with_reducible apply Z.sAugS | with_reducible apply Z.rTe | with_reducible apply Z.rTnot | with_reducible apply Z.rTand | with_reducible apply Z.rTor | with_reducible apply Z.rTsC | with_reducible apply Z.rCons | with_reducible apply Z.rCmp | with_reducible apply Z.rBin | with_reducible apply Z.rIx | with_reducible apply Z.rSl | with_reducible apply Z.rOs | with_reducible apply Z.rNeg | with_reducible apply Z.rNot | with_reducible apply Z.rAnd | with_reducible apply Z.rOr | with_reducible apply Z.rIte | with_reducible apply Z.rCall | with_reducible apply Z.rCallV | with_reducible apply Z.rBlt | with_reducible apply Z.rIsi | with_reducible apply Z.rTup | with_reducible apply Z.rLst | with_reducible apply Z.rRange | with_reducible apply Z.rSeq | with_reducible apply Z.rEnum | with_reducible apply Z.bnAddT | with_reducible apply Z.bnAddL | with_reducible apply Z.blLL | with_reducible apply Z.blLT | with_reducible apply Z.blMx | with_reducible apply Z.blMn | with_reducible apply Z.mtApp | with_reducible apply Z.mtExt | ((with_reducible apply Z.cGt); · rfl) | ((with_reducible apply Z.cGf); · rfl) | ((with_reducible apply Z.gFrz); rfl) | ((with_reducible apply Z.gEqE); rfl) | ((with_reducible apply Z.gEqX); rfl) | ((with_reducible apply Z.gEqB); rfl) | ((with_reducible apply Z.gGet); rfl) | ((with_reducible apply Z.gAsg); rfl) | ((with_reducible apply Z.gWipe); rfl) | ((with_reducible apply Z.gGlo); rfl) | ((with_reducible apply Z.szL); rfl) | ((with_reducible apply Z.gIn) <;> first | rfl | ((with_reducible apply Z.gIn1); rfl)))
    rfl
  | some t =>
    rw [c] at it
    have it : evIx L (.int (q.2.2.1 : Nat)) = some (.int t) := it
    apply Eq.trans
    (repeat first | with_reducible exact ix | with_reducible exact it | with_reducible exact Z.gSo | with_reducible exact Z.rCs | with_reducible exact Z.rCi | with_reducible exact Z.rCb | with_reducible exact Z.rCn | with_reducible exact Z.rF | with_reducible exact Z.srV | with_reducible exact Z.iaV | with_reducible exact Z.iaF | with_reducible exact Z.iaA | with_reducible exact Z.srO | with_reducible exact Z.srH | with_reducible exact Z.srF | with_reducible exact Z.daV | with_reducible exact Z.daF | with_reducible exact Z.daA | with_reducible exact Z.slV | with_reducible exact Z.slF | with_reducible exact Z.slH | with_reducible exact Z.slFn | with_reducible exact Z.emV | with_reducible exact Z.emF | with_reducible exact Z.ebN | with_reducible exact Z.reV | with_reducible exact Z.reF | with_reducible exact Z.reA | with_reducible exact Z.agN | with_reducible exact Z.arV | with_reducible exact Z.arF | with_reducible exact Z.arA | with_reducible exact Z.arH | with_reducible exact Z.arFn | with_reducible exact Z.inB | with_reducible exact Z.inI | with_reducible exact Z.inN | with_reducible exact Z.trB | with_reducible exact Z.trI | with_reducible exact Z.trL | with_reducible exact Z.trT | with_reducible exact Z.trN | with_reducible exact Z.bnAdd | with_reducible exact Z.bnSub | with_reducible exact Z.cpLt | with_reducible exact Z.cpLe | with_reducible exact Z.cpGt | with_reducible exact Z.cpGe | with_reducible exact Z.cpIs | with_reducible exact Z.cpNo | with_reducible exact Z.cEqI | with_reducible exact Z.cNeI | with_reducible exact Z.cEqB | with_reducible exact Z.cNeB | with_reducible exact Z.sqL | with_reducible exact Z.sqT | with_reducible exact Z.ix0 | with_reducible exact Z.ix1 | with_reducible exact Z.ix2 | with_reducible exact Z.ix3 | with_reducible exact Z.ix4 | with_reducible exact Z.rNil | with_reducible exact Z.rTsN | with_reducible exact Z.rOn | with_reducible exact Z.ssN | with_reducible exact Z.coR | with_reducible exact Z.coC | with_reducible exact Z.coB | with_reducible exact Z.sRetN | with_reducible exact Z.sCont | with_reducible exact Z.sBrk | with_reducible exact Z.sPass | with_reducible apply Z.ebC | with_reducible apply Z.agC | with_reducible apply Z.rV | with_reducible apply Z.rG | with_reducible apply Z.ssF | with_reducible apply Z.ssC | with_reducible apply Z.coN | with_reducible apply Z.sRet | with_reducible apply Z.sIf | with_reducible apply Z.cT | with_reducible apply Z.cF | with_reducible apply Z.sAsg | with_reducible apply Z.sAsgT | with_reducible apply Z.sPar | with_reducible apply Z.sPar3 | with_reducible apply Z.sExpr | with_reducible apply Z.sMeth | with_reducible apply Z.sSetix | with_reducible apply Z.sAugA | with_reducible apply Z.sAugS | with_reducible apply Z.rTe | with_reducible apply Z.rTnot | with_reducible apply Z.rTand | with_reducible apply Z.rTor | with_reducible apply Z.rTsC | with_reducible apply Z.rCons | with_reducible apply Z.rCmp | with_reducible apply Z.rBin | with_reducible apply Z.rIx | with_reducible apply Z.rSl | with_reducible apply Z.rOs | with_reducible apply Z.rNeg | with_reducible apply Z.rNot | with_reducible apply Z.rAnd | with_reducible apply Z.rOr | with_reducible apply Z.rIte | with_reducible apply Z.rCall | with_reducible apply Z.rCallV | with_reducible apply Z.rBlt | with_reducible apply Z.rIsi | with_reducible apply Z.rTup | with_reducible apply Z.rLst | with_reducible apply Z.rRange | with_reducible apply Z.rSeq | with_reducible apply Z.rEnum | with_reducible apply Z.bnAddT | with_reducible apply Z.bnAddL | with_reducible apply Z.blLL | with_reducible apply Z.blLT | with_reducible apply Z.blMx | with_reducible apply Z.blMn | with_reducible apply Z.mtApp | with_reducible apply Z.mtExt | ((with_reducible apply Z.cGt); · rfl) | ((with_reducible apply Z.cGf); · rfl) | ((with_reducible apply Z.gFrz); rfl) | ((with_reducible apply Z.gEqE); rfl) | ((with_reducible apply Z.gEqX); rfl) | ((with_reducible apply Z.gEqB); rfl) | ((with_reducible apply Z.gGet); rfl) | ((with_reducible apply Z.gAsg); rfl) | ((with_reducible apply Z.gWipe); rfl) | ((with_reducible apply Z.gGlo); rfl) | ((with_reducible apply Z.szL); rfl) | ((with_reducible apply Z.gIn) <;> first | rfl | ((with_reducible apply Z.gIn1); rfl)))
    rfl
end
end Z57

namespace Z57
open PySem L2 Z
theorem asInts_map : ∀ l : List Int, asInts (l.map .int) = some l
  | [] => rfl
  | x :: l => by simp [asInts, asInts_map l]
theorem encO_lay (o : Option Int) : PyData.canLay0 (encO o) = true ∧ PyData.depth (encO o) = 0 := by
  cases o <;> exact ⟨rfl, rfl⟩
theorem encO_all : ∀ r : List (Option Int), PyData.canLayAll0 (r.map encO) = true ∧ PyData.depthAll (r.map encO) = 0
  | [] => ⟨rfl, rfl⟩
  | o :: r => by
    obtain ⟨h1, h2⟩ := encO_lay o
    obtain ⟨h3, h4⟩ := encO_all r
    exact ⟨by simp [PyData.canLayAll0, h1, h3], by simp [PyData.depthAll, h2, h4]⟩
theorem shL (r : List (Option Int)) : SeqAt.shaped (.list (r.map encO)) = true := by
  obtain ⟨h3, h4⟩ := encO_all r
  simp [SeqAt.shaped, PyData.canLay0, PyData.depth, h3, h4]
theorem shT (r : List (Option Int)) : SeqAt.shaped (.tuple (r.map encO)) = true := by
  obtain ⟨h3, h4⟩ := encO_all r
  simp [SeqAt.shaped, PyData.canLay0, PyData.depth, h3, h4]
theorem eqvN : ∀ r : List (Option Int), ((r.map encO).any fun z => PyData.eqv z .none) = decide (none ∈ r)
  | [] => rfl
  | o :: r => by
    rw [List.map_cons, List.any_cons, eqvN r]
    cases o with
    | none => simp [encO, PyData.eqv]
    | some t => simp [encO, PyData.eqv]
theorem memN (r : List (Option Int)) : evCmp .mem .none (.list (r.map encO)) = some (decide (none ∈ r)) := by
  show (if SeqAt.shaped .none = true ∧ SeqAt.shaped (.list (r.map encO)) = true then some ((r.map encO).any fun z => PyData.eqv z .none) else none) = _
  rw [if_pos ⟨rfl, shL r⟩, eqvN]
theorem rows_lead {E : List Ed} {T : Tm} {sp : Nat} : (lead E sp).map (fun q => (T q.2.2.1).map (· + q.2.2.2)) = rows E T sp := by
  unfold lead rows
  have h : ∀ (l : List (Nat × Ed)), (l.filter fun q => q.2.1 == sp).map (fun q => (T q.2.2.1).map (· + q.2.2.2)) = ((l.map (·.2)).filter fun e => e.1 == sp).map fun e => (T e.2.1).map (· + e.2.2) := by
    intro l
    induction l with
    | nil => rfl
    | cons q l ih =>
      rw [List.map_cons, List.filter_cons, List.filter_cons]
      by_cases c : (q.2.1 == sp) = true
      · rw [if_pos c, if_pos c, List.map_cons, List.map_cons, ih]
      · rw [if_neg c, if_neg c, ih]
  rw [h, enumN_snd]
theorem somes (r : List (Option Int)) : (r.filter fun o => o.isSome).map encO = (r.filterMap id).map .int := by
  induction r with
  | nil => rfl
  | cons o r ih => cases o <;> simp [encO, ih]
section
variable {own : Nat → Bool} {E : List Ed} {gl : List Nat} {n : Nat} {T : Tm}
theorem run_time_at {k : Nat} {sp : Nat} {s : DS} {L : PyData} (hz : E.length ≤ 1000) (hE : In n E) (hs : sp < n) (hL : L = .list (tmL T n) ∨ L = .tuple (tmL T n)) :
    callT Gf tab (k + 2) "time_at" [.val (val own E gl n), .val L, .val (.int sp)] s = some (.val (encO (timeAt own E T sp)), s) := by
  rw [call_time_at]
  refine dRt rfl rfl ?_
  unfold ir_time_at
  have A := @run_leading own E gl n k sp s hz
  have lp1 : lcLoop (lcSt (callT Gf tab (k + 1)) Gf (.call "told_by" (.cons (.var 0) (.cons (.var 1) (.cons (.var 4) .nil)))) (.name 4) .nil [.val (val own E gl n), .val L, .val (.int sp), .no, .no, .no]) ((lead E sp).map fun q => PyData.int (q.1 : Nat)) s = some ((rows E T sp).map encO, s) := by
    rw [← rows_lead, List.map_map]
    refine lc_map fun q hq => ?_
    obtain ⟨hq1, hq2⟩ := List.mem_filter.mp hq
    have hj : q.2.2.1 < n := by
      have := (enumN_get 0 E q hq1).2
      have := List.mem_of_getElem? this
      exact (hE _ this).2
    have B := @run_told_by own E gl n T k q s L hq1 hL hj
    have e : evE (callT Gf tab (k + 1)) Gf (.call "told_by" (.cons (.var 0) (.cons (.var 1) (.cons (.var 4) .nil)))) [.val (val own E gl n), .val L, .val (.int sp), .no, .val (.int (q.1 : Nat)), .no] s = some (.val (encO ((T q.2.2.1).map (· + q.2.2.2))), s) := by
      (repeat first | with_reducible exact B | with_reducible exact Z.gSo | with_reducible exact Z.rCs | with_reducible exact Z.rCi | with_reducible exact Z.rCb | with_reducible exact Z.rCn | with_reducible exact Z.rF | with_reducible exact Z.srV | with_reducible exact Z.iaV | with_reducible exact Z.iaF | with_reducible exact Z.iaA | with_reducible exact Z.srO | with_reducible exact Z.srH | with_reducible exact Z.srF | with_reducible exact Z.daV | with_reducible exact Z.daF | with_reducible exact Z.daA | with_reducible exact Z.slV | with_reducible exact Z.slF | with_reducible exact Z.slH | with_reducible exact Z.slFn | with_reducible exact Z.emV | with_reducible exact Z.emF | with_reducible exact Z.ebN | with_reducible exact Z.reV | with_reducible exact Z.reF | with_reducible exact Z.reA | with_reducible exact Z.agN | with_reducible exact Z.arV | with_reducible exact Z.arF | with_reducible exact Z.arA | with_reducible exact Z.arH | with_reducible exact Z.arFn | with_reducible exact Z.inB | with_reducible exact Z.inI | with_reducible exact Z.inN | with_reducible exact Z.trB | with_reducible exact Z.trI | with_reducible exact Z.trL | with_reducible exact Z.trT | with_reducible exact Z.trN | with_reducible exact Z.bnAdd | with_reducible exact Z.bnSub | with_reducible exact Z.cpLt | with_reducible exact Z.cpLe | with_reducible exact Z.cpGt | with_reducible exact Z.cpGe | with_reducible exact Z.cpIs | with_reducible exact Z.cpNo | with_reducible exact Z.cEqI | with_reducible exact Z.cNeI | with_reducible exact Z.cEqB | with_reducible exact Z.cNeB | with_reducible exact Z.sqL | with_reducible exact Z.sqT | with_reducible exact Z.ix0 | with_reducible exact Z.ix1 | with_reducible exact Z.ix2 | with_reducible exact Z.ix3 | with_reducible exact Z.ix4 | with_reducible exact Z.rNil | with_reducible exact Z.rTsN | with_reducible exact Z.rOn | with_reducible exact Z.ssN | with_reducible exact Z.coR | with_reducible exact Z.coC | with_reducible exact Z.coB | with_reducible exact Z.sRetN | with_reducible exact Z.sCont | with_reducible exact Z.sBrk | with_reducible exact Z.sPass | with_reducible apply Z.ebC | with_reducible apply Z.agC | with_reducible apply Z.rV | with_reducible apply Z.rG | with_reducible apply Z.ssF | with_reducible apply Z.ssC | with_reducible apply Z.coN | with_reducible apply Z.sRet | with_reducible apply Z.sIf | with_reducible apply Z.cT | with_reducible apply Z.cF | with_reducible apply Z.sAsg | with_reducible apply Z.sAsgT | with_reducible apply Z.sPar | with_reducible apply Z.sPar3 | with_reducible apply Z.sExpr | with_reducible apply Z.sMeth | with_reducible apply Z.sSetix | with_reducible apply Z.sAugA | with_reducible apply Z.sAugS | with_reducible apply Z.rTe | with_reducible apply Z.rTnot | with_reducible apply Z.rTand | with_reducible apply Z.rTor | with_reducible apply Z.rTsC | with_reducible apply Z.rCons | with_reducible apply Z.rCmp | with_reducible apply Z.rBin | with_reducible apply Z.rIx | with_reducible apply Z.rSl | with_reducible apply Z.rOs | with_reducible apply Z.rNeg | with_reducible apply Z.rNot | with_reducible apply Z.rAnd | with_reducible apply Z.rOr | with_reducible apply Z.rIte | with_reducible apply Z.rCall | with_reducible apply Z.rCallV | with_reducible apply Z.rBlt | with_reducible apply Z.rIsi | with_reducible apply Z.rTup | with_reducible apply Z.rLst | with_reducible apply Z.rRange | with_reducible apply Z.rSeq | with_reducible apply Z.rEnum | with_reducible apply Z.bnAddT | with_reducible apply Z.bnAddL | with_reducible apply Z.blLL | with_reducible apply Z.blLT | with_reducible apply Z.blMx | with_reducible apply Z.blMn | with_reducible apply Z.mtApp | with_reducible apply Z.mtExt | ((with_reducible apply Z.cGt); · rfl) | ((with_reducible apply Z.cGf); · rfl) | ((with_reducible apply Z.gFrz); rfl) | ((with_reducible apply Z.gEqE); rfl) | ((with_reducible apply Z.gEqX); rfl) | ((with_reducible apply Z.gEqB); rfl) | ((with_reducible apply Z.gGet); rfl) | ((with_reducible apply Z.gAsg); rfl) | ((with_reducible apply Z.gWipe); rfl) | ((with_reducible apply Z.gGlo); rfl) | ((with_reducible apply Z.szL); rfl) | ((with_reducible apply Z.gIn) <;> first | rfl | ((with_reducible apply Z.gIn1); rfl)))
    have := lcS (F := callT Gf tab (k + 1)) (G := Gf) (c := true) (ifs := .nil) (tg := .name 4) (x := .int (q.1 : Nat)) (ρ := [.val (val own E gl n), .val L, .val (.int sp), .no, .no, .no]) (ρ' := [.val (val own E gl n), .val L, .val (.int sp), .no, .val (.int (q.1 : Nat)), .no]) rfl rTsN e rfl
    simpa using this
  have hl : ((lead E sp).map fun q => PyData.int (q.1 : Nat)).length ≤ sizeLine := by
    rw [List.length_map]
    have h1 : (lead E sp).length ≤ (enumN 0 E).length := List.length_filter_le _ _
    have h2 : (enumN 0 E).length = E.length := by have := congrArg List.length (enumN_snd 0 E); simpa using this
    exact Nat.le_trans (Nat.le_trans h1 (by rw [h2]; exact hz)) (by decide)
  have hr : ((rows E T sp).map encO).length ≤ sizeLine := by
    rw [← rows_lead, List.length_map, List.length_map]
    rw [List.length_map] at hl; exact hl
  have ow : evIx (ownD own n) (.int sp) = some (.int (if own sp = true then 1 else 0)) := ixT (by simp [hs])
  rw [show val own E gl n = .tuple [ownD own n, .tuple (E.map encE), .tuple (gl.map fun g => PyData.int (g : Nat))] from rfl] at A lp1 ⊢
  unfold timeAt
  by_cases o : own sp = true
  · rw [if_pos o] at ow ⊢
    have e1 : evCmp .eq (.int 1) (.int 0) = some false := iEqF (by decide)
    unfold maxO
    by_cases c : rows E T sp = []
    · rw [if_pos (.inl c)]
      have tr : evTru (.list ((rows E T sp).map encO)) = some false := by rw [c]; rfl
      (repeat first | with_reducible exact A | with_reducible exact hl | with_reducible exact ow | with_reducible exact e1 | with_reducible exact tr | with_reducible apply Z.rLc (h4 := lp1) | with_reducible exact Z.gSo | with_reducible exact Z.rCs | with_reducible exact Z.rCi | with_reducible exact Z.rCb | with_reducible exact Z.rCn | with_reducible exact Z.rF | with_reducible exact Z.srV | with_reducible exact Z.iaV | with_reducible exact Z.iaF | with_reducible exact Z.iaA | with_reducible exact Z.srO | with_reducible exact Z.srH | with_reducible exact Z.srF | with_reducible exact Z.daV | with_reducible exact Z.daF | with_reducible exact Z.daA | with_reducible exact Z.slV | with_reducible exact Z.slF | with_reducible exact Z.slH | with_reducible exact Z.slFn | with_reducible exact Z.emV | with_reducible exact Z.emF | with_reducible exact Z.ebN | with_reducible exact Z.reV | with_reducible exact Z.reF | with_reducible exact Z.reA | with_reducible exact Z.agN | with_reducible exact Z.arV | with_reducible exact Z.arF | with_reducible exact Z.arA | with_reducible exact Z.arH | with_reducible exact Z.arFn | with_reducible exact Z.inB | with_reducible exact Z.inI | with_reducible exact Z.inN | with_reducible exact Z.trB | with_reducible exact Z.trI | with_reducible exact Z.trL | with_reducible exact Z.trT | with_reducible exact Z.trN | with_reducible exact Z.bnAdd | with_reducible exact Z.bnSub | with_reducible exact Z.cpLt | with_reducible exact Z.cpLe | with_reducible exact Z.cpGt | with_reducible exact Z.cpGe | with_reducible exact Z.cpIs | with_reducible exact Z.cpNo | with_reducible exact Z.cEqI | with_reducible exact Z.cNeI | with_reducible exact Z.cEqB | with_reducible exact Z.cNeB | with_reducible exact Z.sqL | with_reducible exact Z.sqT | with_reducible exact Z.ix0 | with_reducible exact Z.ix1 | with_reducible exact Z.ix2 | with_reducible exact Z.ix3 | with_reducible exact Z.ix4 | with_reducible exact Z.rNil | with_reducible exact Z.rTsN | with_reducible exact Z.rOn | with_reducible exact Z.ssN | with_reducible exact Z.coR | with_reducible exact Z.coC | with_reducible exact Z.coB | with_reducible exact Z.sRetN | with_reducible exact Z.sCont | with_reducible exact Z.sBrk | with_reducible exact Z.sPass | with_reducible apply Z.ebC | with_reducible apply Z.agC | with_reducible apply Z.rV | with_reducible apply Z.rG | with_reducible apply Z.ssF | with_reducible apply Z.ssC | with_reducible apply Z.coN | with_reducible apply Z.sRet | with_reducible apply Z.sIf | with_reducible apply Z.cT | with_reducible apply Z.cF | with_reducible apply Z.sAsg | with_reducible apply Z.sAsgT | with_reducible apply Z.sPar | with_reducible apply Z.sPar3 | with_reducible apply Z.sExpr | with_reducible apply Z.sMeth | with_reducible apply Z.sSetix | with_reducible apply Z.sAugA | with_reducible apply Z.sAugS | with_reducible apply Z.rTe | with_reducible apply Z.rTnot | with_reducible apply Z.rTand | with_reducible apply Z.rTor | with_reducible apply Z.rTsC | with_reducible apply Z.rCons | with_reducible apply Z.rCmp | with_reducible apply Z.rBin | with_reducible apply Z.rIx | with_reducible apply Z.rSl | with_reducible apply Z.rOs | with_reducible apply Z.rNeg | with_reducible apply Z.rNot | with_reducible apply Z.rAnd | with_reducible apply Z.rOr | with_reducible apply Z.rIte | with_reducible apply Z.rCall | with_reducible apply Z.rCallV | with_reducible apply Z.rBlt | with_reducible apply Z.rIsi | with_reducible apply Z.rTup | with_reducible apply Z.rLst | with_reducible apply Z.rRange | with_reducible apply Z.rSeq | with_reducible apply Z.rEnum | with_reducible apply Z.bnAddT | with_reducible apply Z.bnAddL | with_reducible apply Z.blLL | with_reducible apply Z.blLT | with_reducible apply Z.blMx | with_reducible apply Z.blMn | with_reducible apply Z.mtApp | with_reducible apply Z.mtExt | ((with_reducible apply Z.cGt); · rfl) | ((with_reducible apply Z.cGf); · rfl) | ((with_reducible apply Z.gFrz); rfl) | ((with_reducible apply Z.gEqE); rfl) | ((with_reducible apply Z.gEqX); rfl) | ((with_reducible apply Z.gEqB); rfl) | ((with_reducible apply Z.gGet); rfl) | ((with_reducible apply Z.gAsg); rfl) | ((with_reducible apply Z.gWipe); rfl) | ((with_reducible apply Z.gGlo); rfl) | ((with_reducible apply Z.szL); rfl) | ((with_reducible apply Z.gIn) <;> first | rfl | ((with_reducible apply Z.gIn1); rfl)))
      all_goals first | rfl | exact lp1
    · have tr : evTru (.list ((rows E T sp).map encO)) = some true := by
        show some (!((rows E T sp).map encO).isEmpty) = _
        cases q : rows E T sp with
        | nil => exact absurd q c
        | cons _ _ => rfl
      by_cases d : none ∈ rows E T sp
      · rw [if_pos (.inr d)]
        have mm : evCmp .mem .none (.list ((rows E T sp).map encO)) = some true := by rw [memN, decide_eq_true d]
        (repeat first | with_reducible exact A | with_reducible exact hl | with_reducible exact ow | with_reducible exact e1 | with_reducible exact tr | with_reducible exact mm | with_reducible apply Z.rLc (h4 := lp1) | with_reducible exact Z.gSo | with_reducible exact Z.rCs | with_reducible exact Z.rCi | with_reducible exact Z.rCb | with_reducible exact Z.rCn | with_reducible exact Z.rF | with_reducible exact Z.srV | with_reducible exact Z.iaV | with_reducible exact Z.iaF | with_reducible exact Z.iaA | with_reducible exact Z.srO | with_reducible exact Z.srH | with_reducible exact Z.srF | with_reducible exact Z.daV | with_reducible exact Z.daF | with_reducible exact Z.daA | with_reducible exact Z.slV | with_reducible exact Z.slF | with_reducible exact Z.slH | with_reducible exact Z.slFn | with_reducible exact Z.emV | with_reducible exact Z.emF | with_reducible exact Z.ebN | with_reducible exact Z.reV | with_reducible exact Z.reF | with_reducible exact Z.reA | with_reducible exact Z.agN | with_reducible exact Z.arV | with_reducible exact Z.arF | with_reducible exact Z.arA | with_reducible exact Z.arH | with_reducible exact Z.arFn | with_reducible exact Z.inB | with_reducible exact Z.inI | with_reducible exact Z.inN | with_reducible exact Z.trB | with_reducible exact Z.trI | with_reducible exact Z.trL | with_reducible exact Z.trT | with_reducible exact Z.trN | with_reducible exact Z.bnAdd | with_reducible exact Z.bnSub | with_reducible exact Z.cpLt | with_reducible exact Z.cpLe | with_reducible exact Z.cpGt | with_reducible exact Z.cpGe | with_reducible exact Z.cpIs | with_reducible exact Z.cpNo | with_reducible exact Z.cEqI | with_reducible exact Z.cNeI | with_reducible exact Z.cEqB | with_reducible exact Z.cNeB | with_reducible exact Z.sqL | with_reducible exact Z.sqT | with_reducible exact Z.ix0 | with_reducible exact Z.ix1 | with_reducible exact Z.ix2 | with_reducible exact Z.ix3 | with_reducible exact Z.ix4 | with_reducible exact Z.rNil | with_reducible exact Z.rTsN | with_reducible exact Z.rOn | with_reducible exact Z.ssN | with_reducible exact Z.coR | with_reducible exact Z.coC | with_reducible exact Z.coB | with_reducible exact Z.sRetN | with_reducible exact Z.sCont | with_reducible exact Z.sBrk | with_reducible exact Z.sPass | with_reducible apply Z.ebC | with_reducible apply Z.agC | with_reducible apply Z.rV | with_reducible apply Z.rG | with_reducible apply Z.ssF | with_reducible apply Z.ssC | with_reducible apply Z.coN | with_reducible apply Z.sRet | with_reducible apply Z.sIf | with_reducible apply Z.cT | with_reducible apply Z.cF | with_reducible apply Z.sAsg | with_reducible apply Z.sAsgT | with_reducible apply Z.sPar | with_reducible apply Z.sPar3 | with_reducible apply Z.sExpr | with_reducible apply Z.sMeth | with_reducible apply Z.sSetix | with_reducible apply Z.sAugA | with_reducible apply Z.sAugS | with_reducible apply Z.rTe | with_reducible apply Z.rTnot | with_reducible apply Z.rTand | with_reducible apply Z.rTor | with_reducible apply Z.rTsC | with_reducible apply Z.rCons | with_reducible apply Z.rCmp | with_reducible apply Z.rBin | with_reducible apply Z.rIx | with_reducible apply Z.rSl | with_reducible apply Z.rOs | with_reducible apply Z.rNeg | with_reducible apply Z.rNot | with_reducible apply Z.rAnd | with_reducible apply Z.rOr | with_reducible apply Z.rIte | with_reducible apply Z.rCall | with_reducible apply Z.rCallV | with_reducible apply Z.rBlt | with_reducible apply Z.rIsi | with_reducible apply Z.rTup | with_reducible apply Z.rLst | with_reducible apply Z.rRange | with_reducible apply Z.rSeq | with_reducible apply Z.rEnum | with_reducible apply Z.bnAddT | with_reducible apply Z.bnAddL | with_reducible apply Z.blLL | with_reducible apply Z.blLT | with_reducible apply Z.blMx | with_reducible apply Z.blMn | with_reducible apply Z.mtApp | with_reducible apply Z.mtExt | ((with_reducible apply Z.cGt); · rfl) | ((with_reducible apply Z.cGf); · rfl) | ((with_reducible apply Z.gFrz); rfl) | ((with_reducible apply Z.gEqE); rfl) | ((with_reducible apply Z.gEqX); rfl) | ((with_reducible apply Z.gEqB); rfl) | ((with_reducible apply Z.gGet); rfl) | ((with_reducible apply Z.gAsg); rfl) | ((with_reducible apply Z.gWipe); rfl) | ((with_reducible apply Z.gGlo); rfl) | ((with_reducible apply Z.szL); rfl) | ((with_reducible apply Z.gIn) <;> first | rfl | ((with_reducible apply Z.gIn1); rfl)))
        all_goals first | rfl | exact lp1
      · rw [if_neg (by rintro (z | z); exact c z; exact d z)]
        have mm : evCmp .mem .none (.list ((rows E T sp).map encO)) = some false := by rw [memN, decide_eq_false d]
        have ei : (rows E T sp).map encO = ((rows E T sp).filterMap id).map .int := by
          rw [← somes]
          congr 1
          symm
          rw [List.filter_eq_self]
          intro x hx
          cases x with
          | none => exact absurd hx d
          | some _ => rfl
        have ne : (rows E T sp).filterMap id ≠ [] := fun z => by
          rw [z] at ei
          exact c (List.map_eq_nil_iff.mp ei)
        have mx : evBlt .maxL [.held 3 ((rows E T sp).map encO)] = some (.val (.int (maxI ((rows E T sp).filterMap id)))) := by
          show (match asInts ((rows E T sp).map encO) with | some ns => if ns ≠ [] then some (R.val (.int (maxI ns))) else none | none => none) = _
          rw [ei, asInts_map]
          simp only [ne, ne_eq, not_false_eq_true, if_true]
        (repeat first | with_reducible exact A | with_reducible exact hl | with_reducible exact ow | with_reducible exact e1 | with_reducible exact tr | with_reducible exact mm | with_reducible exact mx | with_reducible apply Z.rLc (h4 := lp1) | with_reducible exact Z.gSo | with_reducible exact Z.rCs | with_reducible exact Z.rCi | with_reducible exact Z.rCb | with_reducible exact Z.rCn | with_reducible exact Z.rF | with_reducible exact Z.srV | with_reducible exact Z.iaV | with_reducible exact Z.iaF | with_reducible exact Z.iaA | with_reducible exact Z.srO | with_reducible exact Z.srH | with_reducible exact Z.srF | with_reducible exact Z.daV | with_reducible exact Z.daF | with_reducible exact Z.daA | with_reducible exact Z.slV | with_reducible exact Z.slF | with_reducible exact Z.slH | with_reducible exact Z.slFn | with_reducible exact Z.emV | with_reducible exact Z.emF | with_reducible exact Z.ebN | with_reducible exact Z.reV | with_reducible exact Z.reF | with_reducible exact Z.reA | with_reducible exact Z.agN | with_reducible exact Z.arV | with_reducible exact Z.arF | with_reducible exact Z.arA | with_reducible exact Z.arH | with_reducible exact Z.arFn | with_reducible exact Z.inB | with_reducible exact Z.inI | with_reducible exact Z.inN | with_reducible exact Z.trB | with_reducible exact Z.trI | with_reducible exact Z.trL | with_reducible exact Z.trT | with_reducible exact Z.trN | with_reducible exact Z.bnAdd | with_reducible exact Z.bnSub | with_reducible exact Z.cpLt | with_reducible exact Z.cpLe | with_reducible exact Z.cpGt | with_reducible exact Z.cpGe | with_reducible exact Z.cpIs | with_reducible exact Z.cpNo | with_reducible exact Z.cEqI | with_reducible exact Z.cNeI | with_reducible exact Z.cEqB | with_reducible exact Z.cNeB | with_reducible exact Z.sqL | with_reducible exact Z.sqT | with_reducible exact Z.ix0 | with_reducible exact Z.ix1 | with_reducible exact Z.ix2 | with_reducible exact Z.ix3 | with_reducible exact Z.ix4 | with_reducible exact Z.rNil | with_reducible exact Z.rTsN | with_reducible exact Z.rOn | with_reducible exact Z.ssN | with_reducible exact Z.coR | with_reducible exact Z.coC | with_reducible exact Z.coB | with_reducible exact Z.sRetN | with_reducible exact Z.sCont | with_reducible exact Z.sBrk | with_reducible exact Z.sPass | with_reducible apply Z.ebC | with_reducible apply Z.agC | with_reducible apply Z.rV | with_reducible apply Z.rG | with_reducible apply Z.ssF | with_reducible apply Z.ssC | with_reducible apply Z.coN | with_reducible apply Z.sRet | with_reducible apply Z.sIf | with_reducible apply Z.cT | with_reducible apply Z.cF | with_reducible apply Z.sAsg | with_reducible apply Z.sAsgT | with_reducible apply Z.sPar | with_reducible apply Z.sPar3 | with_reducible apply Z.sExpr | with_reducible apply Z.sMeth | with_reducible apply Z.sSetix | with_reducible apply Z.sAugA | with_reducible apply Z.sAugS | with_reducible apply Z.rTe | with_reducible apply Z.rTnot | with_reducible apply Z.rTand | with_reducible apply Z.rTor | with_reducible apply Z.rTsC | with_reducible apply Z.rCons | with_reducible apply Z.rCmp | with_reducible apply Z.rBin | with_reducible apply Z.rIx | with_reducible apply Z.rSl | with_reducible apply Z.rOs | with_reducible apply Z.rNeg | with_reducible apply Z.rNot | with_reducible apply Z.rAnd | with_reducible apply Z.rOr | with_reducible apply Z.rIte | with_reducible apply Z.rCall | with_reducible apply Z.rCallV | with_reducible apply Z.rBlt | with_reducible apply Z.rIsi | with_reducible apply Z.rTup | with_reducible apply Z.rLst | with_reducible apply Z.rRange | with_reducible apply Z.rSeq | with_reducible apply Z.rEnum | with_reducible apply Z.bnAddT | with_reducible apply Z.bnAddL | with_reducible apply Z.blLL | with_reducible apply Z.blLT | with_reducible apply Z.blMx | with_reducible apply Z.blMn | with_reducible apply Z.mtApp | with_reducible apply Z.mtExt | ((with_reducible apply Z.cGt); · rfl) | ((with_reducible apply Z.cGf); · rfl) | ((with_reducible apply Z.gFrz); rfl) | ((with_reducible apply Z.gEqE); rfl) | ((with_reducible apply Z.gEqX); rfl) | ((with_reducible apply Z.gEqB); rfl) | ((with_reducible apply Z.gGet); rfl) | ((with_reducible apply Z.gAsg); rfl) | ((with_reducible apply Z.gWipe); rfl) | ((with_reducible apply Z.gGlo); rfl) | ((with_reducible apply Z.szL); rfl) | ((with_reducible apply Z.gIn) <;> first | rfl | ((with_reducible apply Z.gIn1); rfl)))
        all_goals first | rfl | exact lp1
  · rw [if_neg o] at ow ⊢
    have e1 : evCmp .eq (.int 0) (.int 0) = some true := iEqT rfl
    have lp2 : ∀ ρ3 : Slot, lcLoop (lcSt (callT Gf tab (k + 1)) Gf (.var 5) (.name 5) (.cons (.e (.cmp .notN (.var 5) (.cst .non))) .nil) [.val (.tuple [ownD own n, .tuple (E.map encE), .tuple (gl.map fun g => PyData.int (g : Nat))]), .val L, .val (.int sp), ρ3, .no, .no]) ((rows E T sp).map encO) s = some (((rows E T sp).filterMap id).map .int, s) := by
      intro ρ3
      rw [← somes]
      refine lc_fil (p := fun (o : Option Int) => o.isSome) fun x _ => ?_
      have t : evTs (callT Gf tab (k + 1)) Gf (.cons (.e (.cmp .notN (.var 5) (.cst .non))) .nil) [.val (.tuple [ownD own n, .tuple (E.map encE), .tuple (gl.map fun g => PyData.int (g : Nat))]), .val L, .val (.int sp), ρ3, .no, .val (encO x)] s = some ((!isNone (encO x)) && true, s) := by
        (repeat first | with_reducible exact Z.gSo | with_reducible exact Z.rCs | with_reducible exact Z.rCi | with_reducible exact Z.rCb | with_reducible exact Z.rCn | with_reducible exact Z.rF | with_reducible exact Z.srV | with_reducible exact Z.iaV | with_reducible exact Z.iaF | with_reducible exact Z.iaA | with_reducible exact Z.srO | with_reducible exact Z.srH | with_reducible exact Z.srF | with_reducible exact Z.daV | with_reducible exact Z.daF | with_reducible exact Z.daA | with_reducible exact Z.slV | with_reducible exact Z.slF | with_reducible exact Z.slH | with_reducible exact Z.slFn | with_reducible exact Z.emV | with_reducible exact Z.emF | with_reducible exact Z.ebN | with_reducible exact Z.reV | with_reducible exact Z.reF | with_reducible exact Z.reA | with_reducible exact Z.agN | with_reducible exact Z.arV | with_reducible exact Z.arF | with_reducible exact Z.arA | with_reducible exact Z.arH | with_reducible exact Z.arFn | with_reducible exact Z.inB | with_reducible exact Z.inI | with_reducible exact Z.inN | with_reducible exact Z.trB | with_reducible exact Z.trI | with_reducible exact Z.trL | with_reducible exact Z.trT | with_reducible exact Z.trN | with_reducible exact Z.bnAdd | with_reducible exact Z.bnSub | with_reducible exact Z.cpLt | with_reducible exact Z.cpLe | with_reducible exact Z.cpGt | with_reducible exact Z.cpGe | with_reducible exact Z.cpIs | with_reducible exact Z.cpNo | with_reducible exact Z.cEqI | with_reducible exact Z.cNeI | with_reducible exact Z.cEqB | with_reducible exact Z.cNeB | with_reducible exact Z.sqL | with_reducible exact Z.sqT | with_reducible exact Z.ix0 | with_reducible exact Z.ix1 | with_reducible exact Z.ix2 | with_reducible exact Z.ix3 | with_reducible exact Z.ix4 | with_reducible exact Z.rNil | with_reducible exact Z.rTsN | with_reducible exact Z.rOn | with_reducible exact Z.ssN | with_reducible exact Z.coR | with_reducible exact Z.coC | with_reducible exact Z.coB | with_reducible exact Z.sRetN | with_reducible exact Z.sCont | with_reducible exact Z.sBrk | with_reducible exact Z.sPass | with_reducible apply Z.ebC | with_reducible apply Z.agC | with_reducible apply Z.rV | with_reducible apply Z.rG | with_reducible apply Z.ssF | with_reducible apply Z.ssC | with_reducible apply Z.coN | with_reducible apply Z.sRet | with_reducible apply Z.sIf | with_reducible apply Z.cT | with_reducible apply Z.cF | with_reducible apply Z.sAsg | with_reducible apply Z.sAsgT | with_reducible apply Z.sPar | with_reducible apply Z.sPar3 | with_reducible apply Z.sExpr | with_reducible apply Z.sMeth | with_reducible apply Z.sSetix | with_reducible apply Z.sAugA | with_reducible apply Z.sAugS | with_reducible apply Z.rTe | with_reducible apply Z.rTnot | with_reducible apply Z.rTand | with_reducible apply Z.rTor | with_reducible apply Z.rTsC | with_reducible apply Z.rCons | with_reducible apply Z.rCmp | with_reducible apply Z.rBin | with_reducible apply Z.rIx | with_reducible apply Z.rSl | with_reducible apply Z.rOs | with_reducible apply Z.rNeg | with_reducible apply Z.rNot | with_reducible apply Z.rAnd | with_reducible apply Z.rOr | with_reducible apply Z.rIte | with_reducible apply Z.rCall | with_reducible apply Z.rCallV | with_reducible apply Z.rBlt | with_reducible apply Z.rIsi | with_reducible apply Z.rTup | with_reducible apply Z.rLst | with_reducible apply Z.rRange | with_reducible apply Z.rSeq | with_reducible apply Z.rEnum | with_reducible apply Z.bnAddT | with_reducible apply Z.bnAddL | with_reducible apply Z.blLL | with_reducible apply Z.blLT | with_reducible apply Z.blMx | with_reducible apply Z.blMn | with_reducible apply Z.mtApp | with_reducible apply Z.mtExt | ((with_reducible apply Z.cGt); · rfl) | ((with_reducible apply Z.cGf); · rfl) | ((with_reducible apply Z.gFrz); rfl) | ((with_reducible apply Z.gEqE); rfl) | ((with_reducible apply Z.gEqX); rfl) | ((with_reducible apply Z.gEqB); rfl) | ((with_reducible apply Z.gGet); rfl) | ((with_reducible apply Z.gAsg); rfl) | ((with_reducible apply Z.gWipe); rfl) | ((with_reducible apply Z.gGlo); rfl) | ((with_reducible apply Z.szL); rfl) | ((with_reducible apply Z.gIn) <;> first | rfl | ((with_reducible apply Z.gIn1); rfl)))
      have e : ((!isNone (encO x)) && true) = x.isSome := by cases x <;> rfl
      rw [e] at t
      exact lcS (ρ' := [.val (.tuple [ownD own n, .tuple (E.map encE), .tuple (gl.map fun g => PyData.int (g : Nat))]), .val L, .val (.int sp), ρ3, .no, .val (encO x)]) rfl t (rV rfl rfl) rfl
    have lp2 := lp2 (.own ((rows E T sp).map encO))
    unfold minO
    by_cases c : (rows E T sp).filterMap id = []
    · rw [if_pos c]
      have tr : evTru (.list (((rows E T sp).filterMap id).map .int)) = some false := by rw [c]; rfl
      (repeat first | with_reducible exact A | with_reducible exact hl | with_reducible exact hr | with_reducible exact ow | with_reducible exact e1 | with_reducible exact tr | with_reducible apply Z.rLc (h4 := lp1) | with_reducible apply Z.rLc (h4 := lp2) | with_reducible exact Z.gSo | with_reducible exact Z.rCs | with_reducible exact Z.rCi | with_reducible exact Z.rCb | with_reducible exact Z.rCn | with_reducible exact Z.rF | with_reducible exact Z.srV | with_reducible exact Z.iaV | with_reducible exact Z.iaF | with_reducible exact Z.iaA | with_reducible exact Z.srO | with_reducible exact Z.srH | with_reducible exact Z.srF | with_reducible exact Z.daV | with_reducible exact Z.daF | with_reducible exact Z.daA | with_reducible exact Z.slV | with_reducible exact Z.slF | with_reducible exact Z.slH | with_reducible exact Z.slFn | with_reducible exact Z.emV | with_reducible exact Z.emF | with_reducible exact Z.ebN | with_reducible exact Z.reV | with_reducible exact Z.reF | with_reducible exact Z.reA | with_reducible exact Z.agN | with_reducible exact Z.arV | with_reducible exact Z.arF | with_reducible exact Z.arA | with_reducible exact Z.arH | with_reducible exact Z.arFn | with_reducible exact Z.inB | with_reducible exact Z.inI | with_reducible exact Z.inN | with_reducible exact Z.trB | with_reducible exact Z.trI | with_reducible exact Z.trL | with_reducible exact Z.trT | with_reducible exact Z.trN | with_reducible exact Z.bnAdd | with_reducible exact Z.bnSub | with_reducible exact Z.cpLt | with_reducible exact Z.cpLe | with_reducible exact Z.cpGt | with_reducible exact Z.cpGe | with_reducible exact Z.cpIs | with_reducible exact Z.cpNo | with_reducible exact Z.cEqI | with_reducible exact Z.cNeI | with_reducible exact Z.cEqB | with_reducible exact Z.cNeB | with_reducible exact Z.sqL | with_reducible exact Z.sqT | with_reducible exact Z.ix0 | with_reducible exact Z.ix1 | with_reducible exact Z.ix2 | with_reducible exact Z.ix3 | with_reducible exact Z.ix4 | with_reducible exact Z.rNil | with_reducible exact Z.rTsN | with_reducible exact Z.rOn | with_reducible exact Z.ssN | with_reducible exact Z.coR | with_reducible exact Z.coC | with_reducible exact Z.coB | with_reducible exact Z.sRetN | with_reducible exact Z.sCont | with_reducible exact Z.sBrk | with_reducible exact Z.sPass | with_reducible apply Z.ebC | with_reducible apply Z.agC | with_reducible apply Z.rV | with_reducible apply Z.rG | with_reducible apply Z.ssF | with_reducible apply Z.ssC | with_reducible apply Z.coN | with_reducible apply Z.sRet | with_reducible apply Z.sIf | with_reducible apply Z.cT | with_reducible apply Z.cF | with_reducible apply Z.sAsg | with_reducible apply Z.sAsgT | with_reducible apply Z.sPar | with_reducible apply Z.sPar3 | with_reducible apply Z.sExpr | with_reducible apply Z.sMeth | with_reducible apply Z.sSetix | with_reducible apply Z.sAugA | with_reducible apply Z.sAugS | with_reducible apply Z.rTe | with_reducible apply Z.rTnot | with_reducible apply Z.rTand | with_reducible apply Z.rTor | with_reducible apply Z.rTsC | with_reducible apply Z.rCons | with_reducible apply Z.rCmp | with_reducible apply Z.rBin | with_reducible apply Z.rIx | with_reducible apply Z.rSl | with_reducible apply Z.rOs | with_reducible apply Z.rNeg | with_reducible apply Z.rNot | with_reducible apply Z.rAnd | with_reducible apply Z.rOr | with_reducible apply Z.rIte | with_reducible apply Z.rCall | with_reducible apply Z.rCallV | with_reducible apply Z.rBlt | with_reducible apply Z.rIsi | with_reducible apply Z.rTup | with_reducible apply Z.rLst | with_reducible apply Z.rRange | with_reducible apply Z.rSeq | with_reducible apply Z.rEnum | with_reducible apply Z.bnAddT | with_reducible apply Z.bnAddL | with_reducible apply Z.blLL | with_reducible apply Z.blLT | with_reducible apply Z.blMx | with_reducible apply Z.blMn | with_reducible apply Z.mtApp | with_reducible apply Z.mtExt | ((with_reducible apply Z.cGt); · rfl) | ((with_reducible apply Z.cGf); · rfl) | ((with_reducible apply Z.gFrz); rfl) | ((with_reducible apply Z.gEqE); rfl) | ((with_reducible apply Z.gEqX); rfl) | ((with_reducible apply Z.gEqB); rfl) | ((with_reducible apply Z.gGet); rfl) | ((with_reducible apply Z.gAsg); rfl) | ((with_reducible apply Z.gWipe); rfl) | ((with_reducible apply Z.gGlo); rfl) | ((with_reducible apply Z.szL); rfl) | ((with_reducible apply Z.gIn) <;> first | rfl | ((with_reducible apply Z.gIn1); rfl)))
      all_goals first | rfl | exact lp1 | exact lp2
    · rw [if_neg c]
      have tr : evTru (.list (((rows E T sp).filterMap id).map .int)) = some true := by
        show some (!(((rows E T sp).filterMap id).map PyData.int).isEmpty) = _
        cases q : (rows E T sp).filterMap id with
        | nil => exact absurd q c
        | cons _ _ => rfl
      have mn : evBlt .minL [.held 3 (((rows E T sp).filterMap id).map .int)] = some (.val (.int (minI ((rows E T sp).filterMap id)))) := by
        show (match asInts (((rows E T sp).filterMap id).map .int) with | some ns => if ns ≠ [] then some (R.val (.int (minI ns))) else none | none => none) = _
        rw [asInts_map]
        simp only [c, ne_eq, not_false_eq_true, if_true]
      (repeat first | with_reducible exact A | with_reducible exact hl | with_reducible exact hr | with_reducible exact ow | with_reducible exact e1 | with_reducible exact tr | with_reducible exact mn | with_reducible apply Z.rLc (h4 := lp1) | with_reducible apply Z.rLc (h4 := lp2) | with_reducible exact Z.gSo | with_reducible exact Z.rCs | with_reducible exact Z.rCi | with_reducible exact Z.rCb | with_reducible exact Z.rCn | with_reducible exact Z.rF | with_reducible exact Z.srV | with_reducible exact Z.iaV | with_reducible exact Z.iaF | with_reducible exact Z.iaA | with_reducible exact Z.srO | with_reducible exact Z.srH | with_reducible exact Z.srF | with_reducible exact Z.daV | with_reducible exact Z.daF | with_reducible exact Z.daA | with_reducible exact Z.slV | with_reducible exact Z.slF | with_reducible exact Z.slH | with_reducible exact Z.slFn | with_reducible exact Z.emV | with_reducible exact Z.emF | with_reducible exact Z.ebN | with_reducible exact Z.reV | with_reducible exact Z.reF | with_reducible exact Z.reA | with_reducible exact Z.agN | with_reducible exact Z.arV | with_reducible exact Z.arF | with_reducible exact Z.arA | with_reducible exact Z.arH | with_reducible exact Z.arFn | with_reducible exact Z.inB | with_reducible exact Z.inI | with_reducible exact Z.inN | with_reducible exact Z.trB | with_reducible exact Z.trI | with_reducible exact Z.trL | with_reducible exact Z.trT | with_reducible exact Z.trN | with_reducible exact Z.bnAdd | with_reducible exact Z.bnSub | with_reducible exact Z.cpLt | with_reducible exact Z.cpLe | with_reducible exact Z.cpGt | with_reducible exact Z.cpGe | with_reducible exact Z.cpIs | with_reducible exact Z.cpNo | with_reducible exact Z.cEqI | with_reducible exact Z.cNeI | with_reducible exact Z.cEqB | with_reducible exact Z.cNeB | with_reducible exact Z.sqL | with_reducible exact Z.sqT | with_reducible exact Z.ix0 | with_reducible exact Z.ix1 | with_reducible exact Z.ix2 | with_reducible exact Z.ix3 | with_reducible exact Z.ix4 | with_reducible exact Z.rNil | with_reducible exact Z.rTsN | with_reducible exact Z.rOn | with_reducible exact Z.ssN | with_reducible exact Z.coR | with_reducible exact Z.coC | with_reducible exact Z.coB | with_reducible exact Z.sRetN | with_reducible exact Z.sCont | with_reducible exact Z.sBrk | with_reducible exact Z.sPass | with_reducible apply Z.ebC | with_reducible apply Z.agC | with_reducible apply Z.rV | with_reducible apply Z.rG | with_reducible apply Z.ssF | with_reducible apply Z.ssC | with_reducible apply Z.coN | with_reducible apply Z.sRet | with_reducible apply Z.sIf | with_reducible apply Z.cT | with_reducible apply Z.cF | with_reducible apply Z.sAsg | with_reducible apply Z.sAsgT | with_reducible apply Z.sPar | with_reducible apply Z.sPar3 | with_reducible apply Z.sExpr | with_reducible apply Z.sMeth | with_reducible apply Z.sSetix | with_reducible apply Z.sAugA | with_reducible apply Z.sAugS | with_reducible apply Z.rTe | with_reducible apply Z.rTnot | with_reducible apply Z.rTand | with_reducible apply Z.rTor | with_reducible apply Z.rTsC | with_reducible apply Z.rCons | with_reducible apply Z.rCmp | with_reducible apply Z.rBin | with_reducible apply Z.rIx | with_reducible apply Z.rSl | with_reducible apply Z.rOs | with_reducible apply Z.rNeg | with_reducible apply Z.rNot | with_reducible apply Z.rAnd | with_reducible apply Z.rOr | with_reducible apply Z.rIte | with_reducible apply Z.rCall | with_reducible apply Z.rCallV | with_reducible apply Z.rBlt | with_reducible apply Z.rIsi | with_reducible apply Z.rTup | with_reducible apply Z.rLst | with_reducible apply Z.rRange | with_reducible apply Z.rSeq | with_reducible apply Z.rEnum | with_reducible apply Z.bnAddT | with_reducible apply Z.bnAddL | with_reducible apply Z.blLL | with_reducible apply Z.blLT | with_reducible apply Z.blMx | with_reducible apply Z.blMn | with_reducible apply Z.mtApp | with_reducible apply Z.mtExt | ((with_reducible apply Z.cGt); · rfl) | ((with_reducible apply Z.cGf); · rfl) | ((with_reducible apply Z.gFrz); rfl) | ((with_reducible apply Z.gEqE); rfl) | ((with_reducible apply Z.gEqX); rfl) | ((with_reducible apply Z.gEqB); rfl) | ((with_reducible apply Z.gGet); rfl) | ((with_reducible apply Z.gAsg); rfl) | ((with_reducible apply Z.gWipe); rfl) | ((with_reducible apply Z.gGlo); rfl) | ((with_reducible apply Z.szL); rfl) | ((with_reducible apply Z.gIn) <;> first | rfl | ((with_reducible apply Z.gIn1); rfl)))
      all_goals first | rfl | exact lp1 | exact lp2
end
end Z57

namespace Z57
open PySem L2 Z
theorem call_least_times {k : Nat} {args : List Slot} {s : DS} : callT Gf tab (k + 1) "least_times" args s = evDef (callT Gf tab k) Gf 1 7 ir_least_times args s := by kernel_rfl
def encB : Option (Int × Nat) → PyData
  | none => .none
  | some (t, s) => .tuple [.int t, .int (s : Nat)]
def tenv (v : PyData) (n : Nat) (T : Tm) (x3 x4 x5 x6 : Slot) : Z.Env := [.val v, .val (.int n), .own (tmL T n), x3, x4, x5, x6]
def ibody : Ss := (.cons (.if (.e (.cmp .isN (.ix (.var 2) (.var 3)) (.cst .non))) (.cons (.asg (.name 6) (.call "time_at" (.cons (.var 0) (.cons (.var 2) (.cons (.var 3) .nil)))))
  (.cons (.if (.and (.e (.cmp .notN (.var 6) (.cst .non))) (.or (.e (.cmp .isN (.var 5) (.cst .non))) (.e (.cmp .lt (.var 6) (.ix (.var 5) (.cst (.int 0))))))) (.frz [6, 3] (.cons (.asg (.name 5) (.tup (.cons (.var 6) (.cons (.var 3) .nil))))
  .nil)) .nil)
  .nil)) .nil)
  .nil)
def obody : Ss := (.cons (.asg (.name 5) (.cst .non))
  (.cons (.for (.name 3) (.range (.cons (.var 1) .nil)) ibody)
  (.cons (.if (.e (.cmp .notN (.var 5) (.cst .non))) (.cons (.setix 2 (.ix (.var 5) (.cst (.int 1))) (.ix (.var 5) (.cst (.int 0))))
  .nil) .nil)
  .nil)))
theorem tm_put {T : Tm} {n s : Nat} {t : Int} (h : s < n) : (tmL T n).set s (.int t) = tmL (put T s t) n := by
  unfold tmL
  apply List.ext_getElem?
  intro i
  by_cases c : i = s
  · subst c
    rw [List.getElem?_set_self (by simp [h])]
    simp [h, put_same, encO]
  · rw [List.getElem?_set_ne (Ne.symm c)]
    simp only [List.getElem?_map]
    cases q : (List.range n)[i]? with
    | none => rfl
    | some j =>
      have : j = i := by
        have := List.getElem?_eq_some_iff.mp q
        obtain ⟨_, z⟩ := this
        simpa using z.symm
      subst this
      simp only [Option.map_some, put_ne c]
section
variable {F : Str → List Slot → DS → Option (R × DS)} {own : Nat → Bool} {E : List Ed} {v : PyData} {n : Nat} {T : Tm} {σ : DS} {x3 x4 x6 : Slot}
theorem istep {s : Nat} (hs : s < n) (b : Option (Int × Nat)) (H : F "time_at" [.val v, .val (.list (tmL T n)), .val (.int s)] σ = some (.val (encO (timeAt own E T s)), σ)) :
    ∃ x6', forSt F Gf (.name 3) ibody (.int s) (tenv v n T x3 x4 (.val (encB b)) x6) σ = some (.nx (tenv v n T (.val (.int s)) x4 (.val (encB (bstep own E T b s))) x6') σ) := by
  have it : evIx (.list (tmL T n)) (.int s) = some (encO (T s)) := ixL (tm_get hs)
  unfold bstep
  cases c : T s with
  | some t =>
    rw [c] at it
    have it : evIx (.list (tmL T n)) (.int s) = some (.int t) := it
    refine ⟨x6, fStep (ρ' := tenv v n T (.val (.int s)) x4 (.val (encB b)) x6) rfl ?_⟩
    unfold ibody
    (repeat first | with_reducible exact it | with_reducible exact Z.gSo | with_reducible exact Z.rCs | with_reducible exact Z.rCi | with_reducible exact Z.rCb | with_reducible exact Z.rCn | with_reducible exact Z.rF | with_reducible exact Z.srV | with_reducible exact Z.iaV | with_reducible exact Z.iaF | with_reducible exact Z.iaA | with_reducible exact Z.srO | with_reducible exact Z.srH | with_reducible exact Z.srF | with_reducible exact Z.daV | with_reducible exact Z.daF | with_reducible exact Z.daA | with_reducible exact Z.slV | with_reducible exact Z.slF | with_reducible exact Z.slH | with_reducible exact Z.slFn | with_reducible exact Z.emV | with_reducible exact Z.emF | with_reducible exact Z.ebN | with_reducible exact Z.reV | with_reducible exact Z.reF | with_reducible exact Z.reA | with_reducible exact Z.agN | with_reducible exact Z.arV | with_reducible exact Z.arF | with_reducible exact Z.arA | with_reducible exact Z.arH | with_reducible exact Z.arFn | with_reducible exact Z.inB | with_reducible exact Z.inI | with_reducible exact Z.inN | with_reducible exact Z.trB | with_reducible exact Z.trI | with_reducible exact Z.trL | with_reducible exact Z.trT | with_reducible exact Z.trN | with_reducible exact Z.bnAdd | with_reducible exact Z.bnSub | with_reducible exact Z.cpLt | with_reducible exact Z.cpLe | with_reducible exact Z.cpGt | with_reducible exact Z.cpGe | with_reducible exact Z.cpIs | with_reducible exact Z.cpNo | with_reducible exact Z.cEqI | with_reducible exact Z.cNeI | with_reducible exact Z.cEqB | with_reducible exact Z.cNeB | with_reducible exact Z.sqL | with_reducible exact Z.sqT | with_reducible exact Z.ix0 | with_reducible exact Z.ix1 | with_reducible exact Z.ix2 | with_reducible exact Z.ix3 | with_reducible exact Z.ix4 | with_reducible exact Z.rNil | with_reducible exact Z.rTsN | with_reducible exact Z.rOn | with_reducible exact Z.ssN | with_reducible exact Z.coR | with_reducible exact Z.coC | with_reducible exact Z.coB | with_reducible exact Z.sRetN | with_reducible exact Z.sCont | with_reducible exact Z.sBrk | with_reducible exact Z.sPass | with_reducible apply Z.ebC | with_reducible apply Z.agC | with_reducible apply Z.rV | with_reducible apply Z.rG | with_reducible apply Z.ssF | with_reducible apply Z.ssC | with_reducible apply Z.coN | with_reducible apply Z.sRet | with_reducible apply Z.sIf | with_reducible apply Z.cT | with_reducible apply Z.cF | with_reducible apply Z.sAsg | with_reducible apply Z.sAsgT | with_reducible apply Z.sPar | with_reducible apply Z.sPar3 | with_reducible apply Z.sExpr | with_reducible apply Z.sMeth | with_reducible apply Z.sSetix | with_reducible apply Z.sAugA | with_reducible apply Z.sAugS | with_reducible apply Z.rTe | with_reducible apply Z.rTnot | with_reducible apply Z.rTand | with_reducible apply Z.rTor | with_reducible apply Z.rTsC | with_reducible apply Z.rCons | with_reducible apply Z.rCmp | with_reducible apply Z.rBin | with_reducible apply Z.rIx | with_reducible apply Z.rSl | with_reducible apply Z.rOs | with_reducible apply Z.rNeg | with_reducible apply Z.rNot | with_reducible apply Z.rAnd | with_reducible apply Z.rOr | with_reducible apply Z.rIte | with_reducible apply Z.rCall | with_reducible apply Z.rCallV | with_reducible apply Z.rBlt | with_reducible apply Z.rIsi | with_reducible apply Z.rTup | with_reducible apply Z.rLst | with_reducible apply Z.rRange | with_reducible apply Z.rSeq | with_reducible apply Z.rEnum | with_reducible apply Z.bnAddT | with_reducible apply Z.bnAddL | with_reducible apply Z.blLL | with_reducible apply Z.blLT | with_reducible apply Z.blMx | with_reducible apply Z.blMn | with_reducible apply Z.mtApp | with_reducible apply Z.mtExt | ((with_reducible apply Z.cGt); · rfl) | ((with_reducible apply Z.cGf); · rfl) | ((with_reducible apply Z.gFrz); rfl) | ((with_reducible apply Z.gEqE); rfl) | ((with_reducible apply Z.gEqX); rfl) | ((with_reducible apply Z.gEqB); rfl) | ((with_reducible apply Z.gGet); rfl) | ((with_reducible apply Z.gAsg); rfl) | ((with_reducible apply Z.gWipe); rfl) | ((with_reducible apply Z.gGlo); rfl) | ((with_reducible apply Z.szL); rfl) | ((with_reducible apply Z.gIn) <;> first | rfl | ((with_reducible apply Z.gIn1); rfl)))
    all_goals rfl
  | none =>
    rw [c] at it
    have it : evIx (.list (tmL T n)) (.int s) = some .none := it
    cases d : timeAt own E T s with
    | none =>
      rw [d] at H
      have H : F "time_at" [.val v, .val (.list (tmL T n)), .val (.int s)] σ = some (.val .none, σ) := H
      refine ⟨.val .none, fStep (ρ' := tenv v n T (.val (.int s)) x4 (.val (encB b)) x6) rfl ?_⟩
      unfold ibody
      (repeat first | with_reducible exact it | with_reducible exact H | with_reducible exact Z.gSo | with_reducible exact Z.rCs | with_reducible exact Z.rCi | with_reducible exact Z.rCb | with_reducible exact Z.rCn | with_reducible exact Z.rF | with_reducible exact Z.srV | with_reducible exact Z.iaV | with_reducible exact Z.iaF | with_reducible exact Z.iaA | with_reducible exact Z.srO | with_reducible exact Z.srH | with_reducible exact Z.srF | with_reducible exact Z.daV | with_reducible exact Z.daF | with_reducible exact Z.daA | with_reducible exact Z.slV | with_reducible exact Z.slF | with_reducible exact Z.slH | with_reducible exact Z.slFn | with_reducible exact Z.emV | with_reducible exact Z.emF | with_reducible exact Z.ebN | with_reducible exact Z.reV | with_reducible exact Z.reF | with_reducible exact Z.reA | with_reducible exact Z.agN | with_reducible exact Z.arV | with_reducible exact Z.arF | with_reducible exact Z.arA | with_reducible exact Z.arH | with_reducible exact Z.arFn | with_reducible exact Z.inB | with_reducible exact Z.inI | with_reducible exact Z.inN | with_reducible exact Z.trB | with_reducible exact Z.trI | with_reducible exact Z.trL | with_reducible exact Z.trT | with_reducible exact Z.trN | with_reducible exact Z.bnAdd | with_reducible exact Z.bnSub | with_reducible exact Z.cpLt | with_reducible exact Z.cpLe | with_reducible exact Z.cpGt | with_reducible exact Z.cpGe | with_reducible exact Z.cpIs | with_reducible exact Z.cpNo | with_reducible exact Z.cEqI | with_reducible exact Z.cNeI | with_reducible exact Z.cEqB | with_reducible exact Z.cNeB | with_reducible exact Z.sqL | with_reducible exact Z.sqT | with_reducible exact Z.ix0 | with_reducible exact Z.ix1 | with_reducible exact Z.ix2 | with_reducible exact Z.ix3 | with_reducible exact Z.ix4 | with_reducible exact Z.rNil | with_reducible exact Z.rTsN | with_reducible exact Z.rOn | with_reducible exact Z.ssN | with_reducible exact Z.coR | with_reducible exact Z.coC | with_reducible exact Z.coB | with_reducible exact Z.sRetN | with_reducible exact Z.sCont | with_reducible exact Z.sBrk | with_reducible exact Z.sPass | with_reducible apply Z.ebC | with_reducible apply Z.agC | with_reducible apply Z.rV | with_reducible apply Z.rG | with_reducible apply Z.ssF | with_reducible apply Z.ssC | with_reducible apply Z.coN | with_reducible apply Z.sRet | with_reducible apply Z.sIf | with_reducible apply Z.cT | with_reducible apply Z.cF | with_reducible apply Z.sAsg | with_reducible apply Z.sAsgT | with_reducible apply Z.sPar | with_reducible apply Z.sPar3 | with_reducible apply Z.sExpr | with_reducible apply Z.sMeth | with_reducible apply Z.sSetix | with_reducible apply Z.sAugA | with_reducible apply Z.sAugS | with_reducible apply Z.rTe | with_reducible apply Z.rTnot | with_reducible apply Z.rTand | with_reducible apply Z.rTor | with_reducible apply Z.rTsC | with_reducible apply Z.rCons | with_reducible apply Z.rCmp | with_reducible apply Z.rBin | with_reducible apply Z.rIx | with_reducible apply Z.rSl | with_reducible apply Z.rOs | with_reducible apply Z.rNeg | with_reducible apply Z.rNot | with_reducible apply Z.rAnd | with_reducible apply Z.rOr | with_reducible apply Z.rIte | with_reducible apply Z.rCall | with_reducible apply Z.rCallV | with_reducible apply Z.rBlt | with_reducible apply Z.rIsi | with_reducible apply Z.rTup | with_reducible apply Z.rLst | with_reducible apply Z.rRange | with_reducible apply Z.rSeq | with_reducible apply Z.rEnum | with_reducible apply Z.bnAddT | with_reducible apply Z.bnAddL | with_reducible apply Z.blLL | with_reducible apply Z.blLT | with_reducible apply Z.blMx | with_reducible apply Z.blMn | with_reducible apply Z.mtApp | with_reducible apply Z.mtExt | ((with_reducible apply Z.cGt); · rfl) | ((with_reducible apply Z.cGf); · rfl) | ((with_reducible apply Z.gFrz); rfl) | ((with_reducible apply Z.gEqE); rfl) | ((with_reducible apply Z.gEqX); rfl) | ((with_reducible apply Z.gEqB); rfl) | ((with_reducible apply Z.gGet); rfl) | ((with_reducible apply Z.gAsg); rfl) | ((with_reducible apply Z.gWipe); rfl) | ((with_reducible apply Z.gGlo); rfl) | ((with_reducible apply Z.szL); rfl) | ((with_reducible apply Z.gIn) <;> first | rfl | ((with_reducible apply Z.gIn1); rfl)))
      all_goals rfl
    | some t =>
      rw [d] at H
      have H : F "time_at" [.val v, .val (.list (tmL T n)), .val (.int s)] σ = some (.val (.int t), σ) := H
      cases b with
      | none =>
        refine ⟨.val (.int t), fStep (ρ' := tenv v n T (.val (.int s)) x4 (.val .none) x6) rfl ?_⟩
        unfold ibody
        (repeat first | with_reducible exact it | with_reducible exact H | with_reducible exact Z.gSo | with_reducible exact Z.rCs | with_reducible exact Z.rCi | with_reducible exact Z.rCb | with_reducible exact Z.rCn | with_reducible exact Z.rF | with_reducible exact Z.srV | with_reducible exact Z.iaV | with_reducible exact Z.iaF | with_reducible exact Z.iaA | with_reducible exact Z.srO | with_reducible exact Z.srH | with_reducible exact Z.srF | with_reducible exact Z.daV | with_reducible exact Z.daF | with_reducible exact Z.daA | with_reducible exact Z.slV | with_reducible exact Z.slF | with_reducible exact Z.slH | with_reducible exact Z.slFn | with_reducible exact Z.emV | with_reducible exact Z.emF | with_reducible exact Z.ebN | with_reducible exact Z.reV | with_reducible exact Z.reF | with_reducible exact Z.reA | with_reducible exact Z.agN | with_reducible exact Z.arV | with_reducible exact Z.arF | with_reducible exact Z.arA | with_reducible exact Z.arH | with_reducible exact Z.arFn | with_reducible exact Z.inB | with_reducible exact Z.inI | with_reducible exact Z.inN | with_reducible exact Z.trB | with_reducible exact Z.trI | with_reducible exact Z.trL | with_reducible exact Z.trT | with_reducible exact Z.trN | with_reducible exact Z.bnAdd | with_reducible exact Z.bnSub | with_reducible exact Z.cpLt | with_reducible exact Z.cpLe | with_reducible exact Z.cpGt | with_reducible exact Z.cpGe | with_reducible exact Z.cpIs | with_reducible exact Z.cpNo | with_reducible exact Z.cEqI | with_reducible exact Z.cNeI | with_reducible exact Z.cEqB | with_reducible exact Z.cNeB | with_reducible exact Z.sqL | with_reducible exact Z.sqT | with_reducible exact Z.ix0 | with_reducible exact Z.ix1 | with_reducible exact Z.ix2 | with_reducible exact Z.ix3 | with_reducible exact Z.ix4 | with_reducible exact Z.rNil | with_reducible exact Z.rTsN | with_reducible exact Z.rOn | with_reducible exact Z.ssN | with_reducible exact Z.coR | with_reducible exact Z.coC | with_reducible exact Z.coB | with_reducible exact Z.sRetN | with_reducible exact Z.sCont | with_reducible exact Z.sBrk | with_reducible exact Z.sPass | with_reducible apply Z.ebC | with_reducible apply Z.agC | with_reducible apply Z.rV | with_reducible apply Z.rG | with_reducible apply Z.ssF | with_reducible apply Z.ssC | with_reducible apply Z.coN | with_reducible apply Z.sRet | with_reducible apply Z.sIf | with_reducible apply Z.cT | with_reducible apply Z.cF | with_reducible apply Z.sAsg | with_reducible apply Z.sAsgT | with_reducible apply Z.sPar | with_reducible apply Z.sPar3 | with_reducible apply Z.sExpr | with_reducible apply Z.sMeth | with_reducible apply Z.sSetix | with_reducible apply Z.sAugA | with_reducible apply Z.sAugS | with_reducible apply Z.rTe | with_reducible apply Z.rTnot | with_reducible apply Z.rTand | with_reducible apply Z.rTor | with_reducible apply Z.rTsC | with_reducible apply Z.rCons | with_reducible apply Z.rCmp | with_reducible apply Z.rBin | with_reducible apply Z.rIx | with_reducible apply Z.rSl | with_reducible apply Z.rOs | with_reducible apply Z.rNeg | with_reducible apply Z.rNot | with_reducible apply Z.rAnd | with_reducible apply Z.rOr | with_reducible apply Z.rIte | with_reducible apply Z.rCall | with_reducible apply Z.rCallV | with_reducible apply Z.rBlt | with_reducible apply Z.rIsi | with_reducible apply Z.rTup | with_reducible apply Z.rLst | with_reducible apply Z.rRange | with_reducible apply Z.rSeq | with_reducible apply Z.rEnum | with_reducible apply Z.bnAddT | with_reducible apply Z.bnAddL | with_reducible apply Z.blLL | with_reducible apply Z.blLT | with_reducible apply Z.blMx | with_reducible apply Z.blMn | with_reducible apply Z.mtApp | with_reducible apply Z.mtExt | ((with_reducible apply Z.cGt); · rfl) | ((with_reducible apply Z.cGf); · rfl) | ((with_reducible apply Z.gFrz); rfl) | ((with_reducible apply Z.gEqE); rfl) | ((with_reducible apply Z.gEqX); rfl) | ((with_reducible apply Z.gEqB); rfl) | ((with_reducible apply Z.gGet); rfl) | ((with_reducible apply Z.gAsg); rfl) | ((with_reducible apply Z.gWipe); rfl) | ((with_reducible apply Z.gGlo); rfl) | ((with_reducible apply Z.szL); rfl) | ((with_reducible apply Z.gIn) <;> first | rfl | ((with_reducible apply Z.gIn1); rfl)))
        all_goals rfl
      | some q =>
        obtain ⟨b0, k0⟩ := q
        by_cases e : t < b0
        · refine ⟨.val (.int t), fStep (ρ' := tenv v n T (.val (.int s)) x4 (.val (.tuple [.int b0, .int (k0 : Nat)])) x6) rfl ?_⟩
          simp only [if_pos e]
          unfold ibody
          (repeat first | with_reducible exact it | with_reducible exact H | with_reducible exact iLtT e | with_reducible exact Z.gSo | with_reducible exact Z.rCs | with_reducible exact Z.rCi | with_reducible exact Z.rCb | with_reducible exact Z.rCn | with_reducible exact Z.rF | with_reducible exact Z.srV | with_reducible exact Z.iaV | with_reducible exact Z.iaF | with_reducible exact Z.iaA | with_reducible exact Z.srO | with_reducible exact Z.srH | with_reducible exact Z.srF | with_reducible exact Z.daV | with_reducible exact Z.daF | with_reducible exact Z.daA | with_reducible exact Z.slV | with_reducible exact Z.slF | with_reducible exact Z.slH | with_reducible exact Z.slFn | with_reducible exact Z.emV | with_reducible exact Z.emF | with_reducible exact Z.ebN | with_reducible exact Z.reV | with_reducible exact Z.reF | with_reducible exact Z.reA | with_reducible exact Z.agN | with_reducible exact Z.arV | with_reducible exact Z.arF | with_reducible exact Z.arA | with_reducible exact Z.arH | with_reducible exact Z.arFn | with_reducible exact Z.inB | with_reducible exact Z.inI | with_reducible exact Z.inN | with_reducible exact Z.trB | with_reducible exact Z.trI | with_reducible exact Z.trL | with_reducible exact Z.trT | with_reducible exact Z.trN | with_reducible exact Z.bnAdd | with_reducible exact Z.bnSub | with_reducible exact Z.cpLt | with_reducible exact Z.cpLe | with_reducible exact Z.cpGt | with_reducible exact Z.cpGe | with_reducible exact Z.cpIs | with_reducible exact Z.cpNo | with_reducible exact Z.cEqI | with_reducible exact Z.cNeI | with_reducible exact Z.cEqB | with_reducible exact Z.cNeB | with_reducible exact Z.sqL | with_reducible exact Z.sqT | with_reducible exact Z.ix0 | with_reducible exact Z.ix1 | with_reducible exact Z.ix2 | with_reducible exact Z.ix3 | with_reducible exact Z.ix4 | with_reducible exact Z.rNil | with_reducible exact Z.rTsN | with_reducible exact Z.rOn | with_reducible exact Z.ssN | with_reducible exact Z.coR | with_reducible exact Z.coC | with_reducible exact Z.coB | with_reducible exact Z.sRetN | with_reducible exact Z.sCont | with_reducible exact Z.sBrk | with_reducible exact Z.sPass | with_reducible apply Z.ebC | with_reducible apply Z.agC | with_reducible apply Z.rV | with_reducible apply Z.rG | with_reducible apply Z.ssF | with_reducible apply Z.ssC | with_reducible apply Z.coN | with_reducible apply Z.sRet | with_reducible apply Z.sIf | with_reducible apply Z.cT | with_reducible apply Z.cF | with_reducible apply Z.sAsg | with_reducible apply Z.sAsgT | with_reducible apply Z.sPar | with_reducible apply Z.sPar3 | with_reducible apply Z.sExpr | with_reducible apply Z.sMeth | with_reducible apply Z.sSetix | with_reducible apply Z.sAugA | with_reducible apply Z.sAugS | with_reducible apply Z.rTe | with_reducible apply Z.rTnot | with_reducible apply Z.rTand | with_reducible apply Z.rTor | with_reducible apply Z.rTsC | with_reducible apply Z.rCons | with_reducible apply Z.rCmp | with_reducible apply Z.rBin | with_reducible apply Z.rIx | with_reducible apply Z.rSl | with_reducible apply Z.rOs | with_reducible apply Z.rNeg | with_reducible apply Z.rNot | with_reducible apply Z.rAnd | with_reducible apply Z.rOr | with_reducible apply Z.rIte | with_reducible apply Z.rCall | with_reducible apply Z.rCallV | with_reducible apply Z.rBlt | with_reducible apply Z.rIsi | with_reducible apply Z.rTup | with_reducible apply Z.rLst | with_reducible apply Z.rRange | with_reducible apply Z.rSeq | with_reducible apply Z.rEnum | with_reducible apply Z.bnAddT | with_reducible apply Z.bnAddL | with_reducible apply Z.blLL | with_reducible apply Z.blLT | with_reducible apply Z.blMx | with_reducible apply Z.blMn | with_reducible apply Z.mtApp | with_reducible apply Z.mtExt | ((with_reducible apply Z.cGt); · rfl) | ((with_reducible apply Z.cGf); · rfl) | ((with_reducible apply Z.gFrz); rfl) | ((with_reducible apply Z.gEqE); rfl) | ((with_reducible apply Z.gEqX); rfl) | ((with_reducible apply Z.gEqB); rfl) | ((with_reducible apply Z.gGet); rfl) | ((with_reducible apply Z.gAsg); rfl) | ((with_reducible apply Z.gWipe); rfl) | ((with_reducible apply Z.gGlo); rfl) | ((with_reducible apply Z.szL); rfl) | ((with_reducible apply Z.gIn) <;> first | rfl | ((with_reducible apply Z.gIn1); rfl)))
          all_goals rfl
        · refine ⟨.val (.int t), fStep (ρ' := tenv v n T (.val (.int s)) x4 (.val (.tuple [.int b0, .int (k0 : Nat)])) x6) rfl ?_⟩
          simp only [if_neg e]
          unfold ibody
          (repeat first | with_reducible exact it | with_reducible exact H | with_reducible exact iLtF e | with_reducible exact Z.gSo | with_reducible exact Z.rCs | with_reducible exact Z.rCi | with_reducible exact Z.rCb | with_reducible exact Z.rCn | with_reducible exact Z.rF | with_reducible exact Z.srV | with_reducible exact Z.iaV | with_reducible exact Z.iaF | with_reducible exact Z.iaA | with_reducible exact Z.srO | with_reducible exact Z.srH | with_reducible exact Z.srF | with_reducible exact Z.daV | with_reducible exact Z.daF | with_reducible exact Z.daA | with_reducible exact Z.slV | with_reducible exact Z.slF | with_reducible exact Z.slH | with_reducible exact Z.slFn | with_reducible exact Z.emV | with_reducible exact Z.emF | with_reducible exact Z.ebN | with_reducible exact Z.reV | with_reducible exact Z.reF | with_reducible exact Z.reA | with_reducible exact Z.agN | with_reducible exact Z.arV | with_reducible exact Z.arF | with_reducible exact Z.arA | with_reducible exact Z.arH | with_reducible exact Z.arFn | with_reducible exact Z.inB | with_reducible exact Z.inI | with_reducible exact Z.inN | with_reducible exact Z.trB | with_reducible exact Z.trI | with_reducible exact Z.trL | with_reducible exact Z.trT | with_reducible exact Z.trN | with_reducible exact Z.bnAdd | with_reducible exact Z.bnSub | with_reducible exact Z.cpLt | with_reducible exact Z.cpLe | with_reducible exact Z.cpGt | with_reducible exact Z.cpGe | with_reducible exact Z.cpIs | with_reducible exact Z.cpNo | with_reducible exact Z.cEqI | with_reducible exact Z.cNeI | with_reducible exact Z.cEqB | with_reducible exact Z.cNeB | with_reducible exact Z.sqL | with_reducible exact Z.sqT | with_reducible exact Z.ix0 | with_reducible exact Z.ix1 | with_reducible exact Z.ix2 | with_reducible exact Z.ix3 | with_reducible exact Z.ix4 | with_reducible exact Z.rNil | with_reducible exact Z.rTsN | with_reducible exact Z.rOn | with_reducible exact Z.ssN | with_reducible exact Z.coR | with_reducible exact Z.coC | with_reducible exact Z.coB | with_reducible exact Z.sRetN | with_reducible exact Z.sCont | with_reducible exact Z.sBrk | with_reducible exact Z.sPass | with_reducible apply Z.ebC | with_reducible apply Z.agC | with_reducible apply Z.rV | with_reducible apply Z.rG | with_reducible apply Z.ssF | with_reducible apply Z.ssC | with_reducible apply Z.coN | with_reducible apply Z.sRet | with_reducible apply Z.sIf | with_reducible apply Z.cT | with_reducible apply Z.cF | with_reducible apply Z.sAsg | with_reducible apply Z.sAsgT | with_reducible apply Z.sPar | with_reducible apply Z.sPar3 | with_reducible apply Z.sExpr | with_reducible apply Z.sMeth | with_reducible apply Z.sSetix | with_reducible apply Z.sAugA | with_reducible apply Z.sAugS | with_reducible apply Z.rTe | with_reducible apply Z.rTnot | with_reducible apply Z.rTand | with_reducible apply Z.rTor | with_reducible apply Z.rTsC | with_reducible apply Z.rCons | with_reducible apply Z.rCmp | with_reducible apply Z.rBin | with_reducible apply Z.rIx | with_reducible apply Z.rSl | with_reducible apply Z.rOs | with_reducible apply Z.rNeg | with_reducible apply Z.rNot | with_reducible apply Z.rAnd | with_reducible apply Z.rOr | with_reducible apply Z.rIte | with_reducible apply Z.rCall | with_reducible apply Z.rCallV | with_reducible apply Z.rBlt | with_reducible apply Z.rIsi | with_reducible apply Z.rTup | with_reducible apply Z.rLst | with_reducible apply Z.rRange | with_reducible apply Z.rSeq | with_reducible apply Z.rEnum | with_reducible apply Z.bnAddT | with_reducible apply Z.bnAddL | with_reducible apply Z.blLL | with_reducible apply Z.blLT | with_reducible apply Z.blMx | with_reducible apply Z.blMn | with_reducible apply Z.mtApp | with_reducible apply Z.mtExt | ((with_reducible apply Z.cGt); · rfl) | ((with_reducible apply Z.cGf); · rfl) | ((with_reducible apply Z.gFrz); rfl) | ((with_reducible apply Z.gEqE); rfl) | ((with_reducible apply Z.gEqX); rfl) | ((with_reducible apply Z.gEqB); rfl) | ((with_reducible apply Z.gGet); rfl) | ((with_reducible apply Z.gAsg); rfl) | ((with_reducible apply Z.gWipe); rfl) | ((with_reducible apply Z.gGlo); rfl) | ((with_reducible apply Z.szL); rfl) | ((with_reducible apply Z.gIn) <;> first | rfl | ((with_reducible apply Z.gIn1); rfl)))
          all_goals rfl
theorem ostep {i : Nat} {x5 : Slot} (hn : n ≤ 1000) (H : ∀ s, s < n → F "time_at" [.val v, .val (.list (tmL T n)), .val (.int s)] σ = some (.val (encO (timeAt own E T s)), σ)) :
    ∃ x3' x5' x6', forSt F Gf (.name 4) obody (.int i) (tenv v n T x3 x4 x5 x6) σ = some (.nx (tenv v n (round n own E T) x3' (.val (.int i)) x5' x6') σ) := by
  obtain ⟨ρ', s', lp, rfl, _, b, y3, y6, rfl, hb⟩ := for_map (step := forSt F Gf (.name 3) ibody) (g := fun (k : Nat) => PyData.int (k : Int)) (l := List.range n) (ρ := tenv v n T x3 (.val (.int i)) (.val .none) x6) (s := σ)
    (fun rem ρ s' => σ = s' ∧ (∀ k ∈ rem, k < n) ∧ ∃ b y3 y6, ρ = tenv v n T y3 (.val (.int i)) (.val (encB b)) y6 ∧ rem.foldl (bstep own E T) b = bestOf n own E T)
    (fun s rem ρ s' h => by
      obtain ⟨rfl, hr, b, y3, y6, rfl, hb⟩ := h
      obtain ⟨x6', e⟩ := istep (x3 := y3) (x4 := .val (.int i)) (x6 := y6) (hr s (.head _)) b (H s (hr s (.head _)))
      exact ⟨_, _, e, rfl, fun k hk => hr k (.tail _ hk), _, _, _, rfl, hb⟩)
    ⟨rfl, fun k hk => List.mem_range.mp hk, none, _, _, rfl, rfl⟩
  rw [List.foldl_nil] at hb
  have rg : evRange [.val (.int (n : Int))] = some ((List.range n).map fun (k : Nat) => PyData.int (k : Int)) := rgI (by omega) (by omega)
  unfold round
  rw [← hb]
  cases b with
  | none =>
    refine ⟨y3, .val .none, y6, fStep (ρ' := tenv v n T x3 (.val (.int i)) x5 x6) rfl ?_⟩
    unfold obody
    (repeat first | with_reducible exact rg | with_reducible apply Z.sFor2 (h2 := lp) | with_reducible exact Z.gSo | with_reducible exact Z.rCs | with_reducible exact Z.rCi | with_reducible exact Z.rCb | with_reducible exact Z.rCn | with_reducible exact Z.rF | with_reducible exact Z.srV | with_reducible exact Z.iaV | with_reducible exact Z.iaF | with_reducible exact Z.iaA | with_reducible exact Z.srO | with_reducible exact Z.srH | with_reducible exact Z.srF | with_reducible exact Z.daV | with_reducible exact Z.daF | with_reducible exact Z.daA | with_reducible exact Z.slV | with_reducible exact Z.slF | with_reducible exact Z.slH | with_reducible exact Z.slFn | with_reducible exact Z.emV | with_reducible exact Z.emF | with_reducible exact Z.ebN | with_reducible exact Z.reV | with_reducible exact Z.reF | with_reducible exact Z.reA | with_reducible exact Z.agN | with_reducible exact Z.arV | with_reducible exact Z.arF | with_reducible exact Z.arA | with_reducible exact Z.arH | with_reducible exact Z.arFn | with_reducible exact Z.inB | with_reducible exact Z.inI | with_reducible exact Z.inN | with_reducible exact Z.trB | with_reducible exact Z.trI | with_reducible exact Z.trL | with_reducible exact Z.trT | with_reducible exact Z.trN | with_reducible exact Z.bnAdd | with_reducible exact Z.bnSub | with_reducible exact Z.cpLt | with_reducible exact Z.cpLe | with_reducible exact Z.cpGt | with_reducible exact Z.cpGe | with_reducible exact Z.cpIs | with_reducible exact Z.cpNo | with_reducible exact Z.cEqI | with_reducible exact Z.cNeI | with_reducible exact Z.cEqB | with_reducible exact Z.cNeB | with_reducible exact Z.sqL | with_reducible exact Z.sqT | with_reducible exact Z.ix0 | with_reducible exact Z.ix1 | with_reducible exact Z.ix2 | with_reducible exact Z.ix3 | with_reducible exact Z.ix4 | with_reducible exact Z.rNil | with_reducible exact Z.rTsN | with_reducible exact Z.rOn | with_reducible exact Z.ssN | with_reducible exact Z.coR | with_reducible exact Z.coC | with_reducible exact Z.coB | with_reducible exact Z.sRetN | with_reducible exact Z.sCont | with_reducible exact Z.sBrk | with_reducible exact Z.sPass | with_reducible apply Z.ebC | with_reducible apply Z.agC | with_reducible apply Z.rV | with_reducible apply Z.rG | with_reducible apply Z.ssF | with_reducible apply Z.ssC | with_reducible apply Z.coN | with_reducible apply Z.sRet | with_reducible apply Z.sIf | with_reducible apply Z.cT | with_reducible apply Z.cF | with_reducible apply Z.sAsg | with_reducible apply Z.sAsgT | with_reducible apply Z.sPar | with_reducible apply Z.sPar3 | with_reducible apply Z.sExpr | with_reducible apply Z.sMeth | with_reducible apply Z.sSetix | with_reducible apply Z.sAugA | with_reducible apply Z.sAugS | with_reducible apply Z.rTe | with_reducible apply Z.rTnot | with_reducible apply Z.rTand | with_reducible apply Z.rTor | with_reducible apply Z.rTsC | with_reducible apply Z.rCons | with_reducible apply Z.rCmp | with_reducible apply Z.rBin | with_reducible apply Z.rIx | with_reducible apply Z.rSl | with_reducible apply Z.rOs | with_reducible apply Z.rNeg | with_reducible apply Z.rNot | with_reducible apply Z.rAnd | with_reducible apply Z.rOr | with_reducible apply Z.rIte | with_reducible apply Z.rCall | with_reducible apply Z.rCallV | with_reducible apply Z.rBlt | with_reducible apply Z.rIsi | with_reducible apply Z.rTup | with_reducible apply Z.rLst | with_reducible apply Z.rRange | with_reducible apply Z.rSeq | with_reducible apply Z.rEnum | with_reducible apply Z.bnAddT | with_reducible apply Z.bnAddL | with_reducible apply Z.blLL | with_reducible apply Z.blLT | with_reducible apply Z.blMx | with_reducible apply Z.blMn | with_reducible apply Z.mtApp | with_reducible apply Z.mtExt | ((with_reducible apply Z.cGt); · rfl) | ((with_reducible apply Z.cGf); · rfl) | ((with_reducible apply Z.gFrz); rfl) | ((with_reducible apply Z.gEqE); rfl) | ((with_reducible apply Z.gEqX); rfl) | ((with_reducible apply Z.gEqB); rfl) | ((with_reducible apply Z.gGet); rfl) | ((with_reducible apply Z.gAsg); rfl) | ((with_reducible apply Z.gWipe); rfl) | ((with_reducible apply Z.gGlo); rfl) | ((with_reducible apply Z.szL); rfl) | ((with_reducible apply Z.gIn) <;> first | rfl | ((with_reducible apply Z.gIn1); rfl)))
    all_goals rfl
  | some q =>
    obtain ⟨t, s⟩ := q
    obtain ⟨hs, _⟩ := best_some hb.symm
    refine ⟨y3, .val (.tuple [.int t, .int (s : Nat)]), y6, fStep (ρ' := tenv v n T x3 (.val (.int i)) x5 x6) rfl ?_⟩
    have jx : ixN (tmL T n).length (s : Int) = some s := ixN_of (by simp [tmL, hs])
    have e : tenv v n (put T s t) y3 (.val (.int i)) (.val (.tuple [.int t, .int (s : Nat)])) y6 = (tenv v n T y3 (.val (.int i)) (.val (.tuple [.int t, .int (s : Nat)])) y6).set 2 (.own ((tmL T n).set s (.int t))) := by
      rw [tm_put hs]; rfl
    simp only []
    rw [e]
    unfold obody
    (repeat first | with_reducible exact rg | with_reducible exact jx | with_reducible apply Z.sFor2 (h2 := lp) | with_reducible exact Z.gSo | with_reducible exact Z.rCs | with_reducible exact Z.rCi | with_reducible exact Z.rCb | with_reducible exact Z.rCn | with_reducible exact Z.rF | with_reducible exact Z.srV | with_reducible exact Z.iaV | with_reducible exact Z.iaF | with_reducible exact Z.iaA | with_reducible exact Z.srO | with_reducible exact Z.srH | with_reducible exact Z.srF | with_reducible exact Z.daV | with_reducible exact Z.daF | with_reducible exact Z.daA | with_reducible exact Z.slV | with_reducible exact Z.slF | with_reducible exact Z.slH | with_reducible exact Z.slFn | with_reducible exact Z.emV | with_reducible exact Z.emF | with_reducible exact Z.ebN | with_reducible exact Z.reV | with_reducible exact Z.reF | with_reducible exact Z.reA | with_reducible exact Z.agN | with_reducible exact Z.arV | with_reducible exact Z.arF | with_reducible exact Z.arA | with_reducible exact Z.arH | with_reducible exact Z.arFn | with_reducible exact Z.inB | with_reducible exact Z.inI | with_reducible exact Z.inN | with_reducible exact Z.trB | with_reducible exact Z.trI | with_reducible exact Z.trL | with_reducible exact Z.trT | with_reducible exact Z.trN | with_reducible exact Z.bnAdd | with_reducible exact Z.bnSub | with_reducible exact Z.cpLt | with_reducible exact Z.cpLe | with_reducible exact Z.cpGt | with_reducible exact Z.cpGe | with_reducible exact Z.cpIs | with_reducible exact Z.cpNo | with_reducible exact Z.cEqI | with_reducible exact Z.cNeI | with_reducible exact Z.cEqB | with_reducible exact Z.cNeB | with_reducible exact Z.sqL | with_reducible exact Z.sqT | with_reducible exact Z.ix0 | with_reducible exact Z.ix1 | with_reducible exact Z.ix2 | with_reducible exact Z.ix3 | with_reducible exact Z.ix4 | with_reducible exact Z.rNil | with_reducible exact Z.rTsN | with_reducible exact Z.rOn | with_reducible exact Z.ssN | with_reducible exact Z.coR | with_reducible exact Z.coC | with_reducible exact Z.coB | with_reducible exact Z.sRetN | with_reducible exact Z.sCont | with_reducible exact Z.sBrk | with_reducible exact Z.sPass | with_reducible apply Z.ebC | with_reducible apply Z.agC | with_reducible apply Z.rV | with_reducible apply Z.rG | with_reducible apply Z.ssF | with_reducible apply Z.ssC | with_reducible apply Z.coN | with_reducible apply Z.sRet | with_reducible apply Z.sIf | with_reducible apply Z.cT | with_reducible apply Z.cF | with_reducible apply Z.sAsg | with_reducible apply Z.sAsgT | with_reducible apply Z.sPar | with_reducible apply Z.sPar3 | with_reducible apply Z.sExpr | with_reducible apply Z.sMeth | with_reducible apply Z.sSetix | with_reducible apply Z.sAugA | with_reducible apply Z.sAugS | with_reducible apply Z.rTe | with_reducible apply Z.rTnot | with_reducible apply Z.rTand | with_reducible apply Z.rTor | with_reducible apply Z.rTsC | with_reducible apply Z.rCons | with_reducible apply Z.rCmp | with_reducible apply Z.rBin | with_reducible apply Z.rIx | with_reducible apply Z.rSl | with_reducible apply Z.rOs | with_reducible apply Z.rNeg | with_reducible apply Z.rNot | with_reducible apply Z.rAnd | with_reducible apply Z.rOr | with_reducible apply Z.rIte | with_reducible apply Z.rCall | with_reducible apply Z.rCallV | with_reducible apply Z.rBlt | with_reducible apply Z.rIsi | with_reducible apply Z.rTup | with_reducible apply Z.rLst | with_reducible apply Z.rRange | with_reducible apply Z.rSeq | with_reducible apply Z.rEnum | with_reducible apply Z.bnAddT | with_reducible apply Z.bnAddL | with_reducible apply Z.blLL | with_reducible apply Z.blLT | with_reducible apply Z.blMx | with_reducible apply Z.blMn | with_reducible apply Z.mtApp | with_reducible apply Z.mtExt | ((with_reducible apply Z.cGt); · rfl) | ((with_reducible apply Z.cGf); · rfl) | ((with_reducible apply Z.gFrz); rfl) | ((with_reducible apply Z.gEqE); rfl) | ((with_reducible apply Z.gEqX); rfl) | ((with_reducible apply Z.gEqB); rfl) | ((with_reducible apply Z.gGet); rfl) | ((with_reducible apply Z.gAsg); rfl) | ((with_reducible apply Z.gWipe); rfl) | ((with_reducible apply Z.gGlo); rfl) | ((with_reducible apply Z.szL); rfl) | ((with_reducible apply Z.gIn) <;> first | rfl | ((with_reducible apply Z.gIn1); rfl)))
    all_goals first | exact jx | rfl
end
theorem memI (gl : List Nat) (s : Nat) : evCmp .mem (.int s) (.tuple (gl.map fun g => PyData.int (g : Nat))) = some (decide (s ∈ gl)) := by
  have h1 : ∀ gl : List Nat, PyData.canLayAll0 (gl.map fun g => PyData.int (g : Nat)) = true ∧ PyData.depthAll (gl.map fun g => PyData.int (g : Nat)) = 0 := by
    intro gl
    induction gl with
    | nil => exact ⟨rfl, rfl⟩
    | cons g gl ih => exact ⟨by simp [PyData.canLayAll0, PyData.canLay0, ih.1], by simp [PyData.depthAll, PyData.depth, ih.2]⟩
  have h2 : ((gl.map fun g => PyData.int (g : Nat)).any fun z => PyData.eqv z (.int s)) = decide (s ∈ gl) := by
    induction gl with
    | nil => rfl
    | cons g gl ih =>
      rw [List.map_cons, List.any_cons, ih]
      simp only [PyData.eqv, List.mem_cons]
      by_cases c : s = g
      · subst c; simp
      · have : ((g : Int) == (s : Int)) = false := by simp; omega
        rw [this]; simp [c]
  show (if SeqAt.shaped (.int s) = true ∧ SeqAt.shaped (.tuple (gl.map fun g => PyData.int (g : Nat))) = true then some ((gl.map fun g => PyData.int (g : Nat)).any fun z => PyData.eqv z (.int s)) else none) = _
  rw [if_pos ⟨rfl, by simp [SeqAt.shaped, PyData.canLay0, PyData.depth, h1 gl]⟩, h2]
section
variable {own : Nat → Bool} {E : List Ed} {gl : List Nat} {n : Nat}
def goalOf (gl : List Nat) : Nat → Bool := fun s => decide (s ∈ gl)
theorem run_least_times {k : Nat} {s : DS} (hn : n ≤ 1000) (hz : E.length ≤ 1000) (hE : In n E) :
    callT Gf tab (k + 3) "least_times" [.val (val own E gl n)] s = some (.val (.tuple (tmL (rounds n own E n (start (goalOf gl))) n)), s) := by
  rw [call_least_times]
  refine dRt rfl rfl ?_
  unfold ir_least_times
  have H : ∀ (T : Tm) (sp : Nat), sp < n → callT Gf tab (k + 2) "time_at" [.val (val own E gl n), .val (.list (tmL T n)), .val (.int sp)] s = some (.val (encO (timeAt own E T sp)), s) := fun T sp hsp => run_time_at hz hE hsp (.inl rfl)
  have lp0 : lcLoop (lcSt (callT Gf tab (k + 2)) Gf (.ite (.e (.cmp .mem (.var 3) (.ix (.var 0) (.cst (.int 2))))) (.cst (.int 0)) (.cst .non)) (.name 3) .nil [.val (val own E gl n), .val (.int n), .no, .no, .no, .no, .no]) ((List.range n).map fun (k : Nat) => PyData.int (k : Int)) s = some (tmL (start (goalOf gl)) n, s) := by
    unfold tmL
    refine lc_map fun x _ => ?_
    have e : evE (callT Gf tab (k + 2)) Gf (.ite (.e (.cmp .mem (.var 3) (.ix (.var 0) (.cst (.int 2))))) (.cst (.int 0)) (.cst .non)) [.val (val own E gl n), .val (.int n), .no, .val (.int (x : Nat)), .no, .no, .no] s = some (.val (encO (start (goalOf gl) x)), s) := by
      rw [show val own E gl n = .tuple [ownD own n, .tuple (E.map encE), .tuple (gl.map fun g => PyData.int (g : Nat))] from rfl]
      unfold start goalOf
      by_cases c : x ∈ gl
      · have mm : evCmp .mem (.int (x : Nat)) (.tuple (gl.map fun g => PyData.int (g : Nat))) = some true := by rw [memI, decide_eq_true c]
        rw [if_pos (by simpa using c)]
        (repeat first | with_reducible exact mm | with_reducible exact Z.gSo | with_reducible exact Z.rCs | with_reducible exact Z.rCi | with_reducible exact Z.rCb | with_reducible exact Z.rCn | with_reducible exact Z.rF | with_reducible exact Z.srV | with_reducible exact Z.iaV | with_reducible exact Z.iaF | with_reducible exact Z.iaA | with_reducible exact Z.srO | with_reducible exact Z.srH | with_reducible exact Z.srF | with_reducible exact Z.daV | with_reducible exact Z.daF | with_reducible exact Z.daA | with_reducible exact Z.slV | with_reducible exact Z.slF | with_reducible exact Z.slH | with_reducible exact Z.slFn | with_reducible exact Z.emV | with_reducible exact Z.emF | with_reducible exact Z.ebN | with_reducible exact Z.reV | with_reducible exact Z.reF | with_reducible exact Z.reA | with_reducible exact Z.agN | with_reducible exact Z.arV | with_reducible exact Z.arF | with_reducible exact Z.arA | with_reducible exact Z.arH | with_reducible exact Z.arFn | with_reducible exact Z.inB | with_reducible exact Z.inI | with_reducible exact Z.inN | with_reducible exact Z.trB | with_reducible exact Z.trI | with_reducible exact Z.trL | with_reducible exact Z.trT | with_reducible exact Z.trN | with_reducible exact Z.bnAdd | with_reducible exact Z.bnSub | with_reducible exact Z.cpLt | with_reducible exact Z.cpLe | with_reducible exact Z.cpGt | with_reducible exact Z.cpGe | with_reducible exact Z.cpIs | with_reducible exact Z.cpNo | with_reducible exact Z.cEqI | with_reducible exact Z.cNeI | with_reducible exact Z.cEqB | with_reducible exact Z.cNeB | with_reducible exact Z.sqL | with_reducible exact Z.sqT | with_reducible exact Z.ix0 | with_reducible exact Z.ix1 | with_reducible exact Z.ix2 | with_reducible exact Z.ix3 | with_reducible exact Z.ix4 | with_reducible exact Z.rNil | with_reducible exact Z.rTsN | with_reducible exact Z.rOn | with_reducible exact Z.ssN | with_reducible exact Z.coR | with_reducible exact Z.coC | with_reducible exact Z.coB | with_reducible exact Z.sRetN | with_reducible exact Z.sCont | with_reducible exact Z.sBrk | with_reducible exact Z.sPass | with_reducible apply Z.ebC | with_reducible apply Z.agC | with_reducible apply Z.rV | with_reducible apply Z.rG | with_reducible apply Z.ssF | with_reducible apply Z.ssC | with_reducible apply Z.coN | with_reducible apply Z.sRet | with_reducible apply Z.sIf | with_reducible apply Z.cT | with_reducible apply Z.cF | with_reducible apply Z.sAsg | with_reducible apply Z.sAsgT | with_reducible apply Z.sPar | with_reducible apply Z.sPar3 | with_reducible apply Z.sExpr | with_reducible apply Z.sMeth | with_reducible apply Z.sSetix | with_reducible apply Z.sAugA | with_reducible apply Z.sAugS | with_reducible apply Z.rTe | with_reducible apply Z.rTnot | with_reducible apply Z.rTand | with_reducible apply Z.rTor | with_reducible apply Z.rTsC | with_reducible apply Z.rCons | with_reducible apply Z.rCmp | with_reducible apply Z.rBin | with_reducible apply Z.rIx | with_reducible apply Z.rSl | with_reducible apply Z.rOs | with_reducible apply Z.rNeg | with_reducible apply Z.rNot | with_reducible apply Z.rAnd | with_reducible apply Z.rOr | with_reducible apply Z.rIte | with_reducible apply Z.rCall | with_reducible apply Z.rCallV | with_reducible apply Z.rBlt | with_reducible apply Z.rIsi | with_reducible apply Z.rTup | with_reducible apply Z.rLst | with_reducible apply Z.rRange | with_reducible apply Z.rSeq | with_reducible apply Z.rEnum | with_reducible apply Z.bnAddT | with_reducible apply Z.bnAddL | with_reducible apply Z.blLL | with_reducible apply Z.blLT | with_reducible apply Z.blMx | with_reducible apply Z.blMn | with_reducible apply Z.mtApp | with_reducible apply Z.mtExt | ((with_reducible apply Z.cGt); · rfl) | ((with_reducible apply Z.cGf); · rfl) | ((with_reducible apply Z.gFrz); rfl) | ((with_reducible apply Z.gEqE); rfl) | ((with_reducible apply Z.gEqX); rfl) | ((with_reducible apply Z.gEqB); rfl) | ((with_reducible apply Z.gGet); rfl) | ((with_reducible apply Z.gAsg); rfl) | ((with_reducible apply Z.gWipe); rfl) | ((with_reducible apply Z.gGlo); rfl) | ((with_reducible apply Z.szL); rfl) | ((with_reducible apply Z.gIn) <;> first | rfl | ((with_reducible apply Z.gIn1); rfl)))
        all_goals rfl
      · have mm : evCmp .mem (.int (x : Nat)) (.tuple (gl.map fun g => PyData.int (g : Nat))) = some false := by rw [memI, decide_eq_false c]
        rw [if_neg (by simpa using c)]
        (repeat first | with_reducible exact mm | with_reducible exact Z.gSo | with_reducible exact Z.rCs | with_reducible exact Z.rCi | with_reducible exact Z.rCb | with_reducible exact Z.rCn | with_reducible exact Z.rF | with_reducible exact Z.srV | with_reducible exact Z.iaV | with_reducible exact Z.iaF | with_reducible exact Z.iaA | with_reducible exact Z.srO | with_reducible exact Z.srH | with_reducible exact Z.srF | with_reducible exact Z.daV | with_reducible exact Z.daF | with_reducible exact Z.daA | with_reducible exact Z.slV | with_reducible exact Z.slF | with_reducible exact Z.slH | with_reducible exact Z.slFn | with_reducible exact Z.emV | with_reducible exact Z.emF | with_reducible exact Z.ebN | with_reducible exact Z.reV | with_reducible exact Z.reF | with_reducible exact Z.reA | with_reducible exact Z.agN | with_reducible exact Z.arV | with_reducible exact Z.arF | with_reducible exact Z.arA | with_reducible exact Z.arH | with_reducible exact Z.arFn | with_reducible exact Z.inB | with_reducible exact Z.inI | with_reducible exact Z.inN | with_reducible exact Z.trB | with_reducible exact Z.trI | with_reducible exact Z.trL | with_reducible exact Z.trT | with_reducible exact Z.trN | with_reducible exact Z.bnAdd | with_reducible exact Z.bnSub | with_reducible exact Z.cpLt | with_reducible exact Z.cpLe | with_reducible exact Z.cpGt | with_reducible exact Z.cpGe | with_reducible exact Z.cpIs | with_reducible exact Z.cpNo | with_reducible exact Z.cEqI | with_reducible exact Z.cNeI | with_reducible exact Z.cEqB | with_reducible exact Z.cNeB | with_reducible exact Z.sqL | with_reducible exact Z.sqT | with_reducible exact Z.ix0 | with_reducible exact Z.ix1 | with_reducible exact Z.ix2 | with_reducible exact Z.ix3 | with_reducible exact Z.ix4 | with_reducible exact Z.rNil | with_reducible exact Z.rTsN | with_reducible exact Z.rOn | with_reducible exact Z.ssN | with_reducible exact Z.coR | with_reducible exact Z.coC | with_reducible exact Z.coB | with_reducible exact Z.sRetN | with_reducible exact Z.sCont | with_reducible exact Z.sBrk | with_reducible exact Z.sPass | with_reducible apply Z.ebC | with_reducible apply Z.agC | with_reducible apply Z.rV | with_reducible apply Z.rG | with_reducible apply Z.ssF | with_reducible apply Z.ssC | with_reducible apply Z.coN | with_reducible apply Z.sRet | with_reducible apply Z.sIf | with_reducible apply Z.cT | with_reducible apply Z.cF | with_reducible apply Z.sAsg | with_reducible apply Z.sAsgT | with_reducible apply Z.sPar | with_reducible apply Z.sPar3 | with_reducible apply Z.sExpr | with_reducible apply Z.sMeth | with_reducible apply Z.sSetix | with_reducible apply Z.sAugA | with_reducible apply Z.sAugS | with_reducible apply Z.rTe | with_reducible apply Z.rTnot | with_reducible apply Z.rTand | with_reducible apply Z.rTor | with_reducible apply Z.rTsC | with_reducible apply Z.rCons | with_reducible apply Z.rCmp | with_reducible apply Z.rBin | with_reducible apply Z.rIx | with_reducible apply Z.rSl | with_reducible apply Z.rOs | with_reducible apply Z.rNeg | with_reducible apply Z.rNot | with_reducible apply Z.rAnd | with_reducible apply Z.rOr | with_reducible apply Z.rIte | with_reducible apply Z.rCall | with_reducible apply Z.rCallV | with_reducible apply Z.rBlt | with_reducible apply Z.rIsi | with_reducible apply Z.rTup | with_reducible apply Z.rLst | with_reducible apply Z.rRange | with_reducible apply Z.rSeq | with_reducible apply Z.rEnum | with_reducible apply Z.bnAddT | with_reducible apply Z.bnAddL | with_reducible apply Z.blLL | with_reducible apply Z.blLT | with_reducible apply Z.blMx | with_reducible apply Z.blMn | with_reducible apply Z.mtApp | with_reducible apply Z.mtExt | ((with_reducible apply Z.cGt); · rfl) | ((with_reducible apply Z.cGf); · rfl) | ((with_reducible apply Z.gFrz); rfl) | ((with_reducible apply Z.gEqE); rfl) | ((with_reducible apply Z.gEqX); rfl) | ((with_reducible apply Z.gEqB); rfl) | ((with_reducible apply Z.gGet); rfl) | ((with_reducible apply Z.gAsg); rfl) | ((with_reducible apply Z.gWipe); rfl) | ((with_reducible apply Z.gGlo); rfl) | ((with_reducible apply Z.szL); rfl) | ((with_reducible apply Z.gIn) <;> first | rfl | ((with_reducible apply Z.gIn1); rfl)))
        all_goals rfl
    have := lcS (F := callT Gf tab (k + 2)) (G := Gf) (c := true) (ifs := .nil) (tg := .name 3) (x := .int (x : Nat)) (ρ := [.val (val own E gl n), .val (.int n), .no, .no, .no, .no, .no]) (ρ' := [.val (val own E gl n), .val (.int n), .no, .val (.int (x : Nat)), .no, .no, .no]) rfl rTsN e rfl
    simpa using this
  obtain ⟨ρ', s', lp, rfl, T', z3, z4, z5, z6, rfl, hT⟩ := for_map (step := forSt (callT Gf tab (k + 2)) Gf (.name 4) obody) (g := fun (k : Nat) => PyData.int (k : Int)) (l := List.range n) (ρ := tenv (val own E gl n) n (start (goalOf gl)) .no .no .no .no) (s := s)
    (fun rem ρ s' => s = s' ∧ ∃ T' z3 z4 z5 z6, ρ = tenv (val own E gl n) n T' z3 z4 z5 z6 ∧ rounds n own E rem.length T' = rounds n own E n (start (goalOf gl)))
    (fun i rem ρ s' h => by
      obtain ⟨rfl, T', z3, z4, z5, z6, rfl, hT⟩ := h
      obtain ⟨y3, y5, y6, e⟩ := ostep (F := callT Gf tab (k + 2)) (own := own) (E := E) (v := val own E gl n) (T := T') (σ := s) (x3 := z3) (x4 := z4) (x6 := z6) (i := i) (x5 := z5) hn (H T')
      exact ⟨_, _, e, rfl, _, _, _, _, _, rfl, hT⟩)
    ⟨rfl, _, _, _, _, _, rfl, by rw [List.length_range]⟩
  have hT : T' = rounds n own E n (start (goalOf gl)) := hT
  rw [← hT]
  have rg : evRange [.val (.int (n : Int))] = some ((List.range n).map fun (k : Nat) => PyData.int (k : Int)) := rgI (by omega) (by omega)
  have hl : ((List.range n).map fun (k : Nat) => PyData.int (k : Int)).length ≤ sizeLine := by rw [List.length_map, List.length_range]; exact Nat.le_trans hn (by decide)
  have ln : evBlt .len [.val (ownD own n)] = some (.val (.int (n : Nat))) := by
    show some (R.val (.int (((List.range n).map fun s => PyData.int (if own s = true then 1 else 0)).length : Nat))) = _
    rw [List.length_map, List.length_range]
  have tp : evBlt .tuple [.held 2 (tmL T' n)] = some (.val (.tuple (tmL T' n))) := rfl
  have i0 : evIx (val own E gl n) (.int 0) = some (ownD own n) := ix0
  (repeat first | with_reducible exact rg | with_reducible exact hl | with_reducible exact ln | with_reducible exact tp | with_reducible exact i0 | with_reducible apply Z.rLc (h4 := lp0) | with_reducible apply Z.sFor2 (h2 := lp) | with_reducible exact Z.gSo | with_reducible exact Z.rCs | with_reducible exact Z.rCi | with_reducible exact Z.rCb | with_reducible exact Z.rCn | with_reducible exact Z.rF | with_reducible exact Z.srV | with_reducible exact Z.iaV | with_reducible exact Z.iaF | with_reducible exact Z.iaA | with_reducible exact Z.srO | with_reducible exact Z.srH | with_reducible exact Z.srF | with_reducible exact Z.daV | with_reducible exact Z.daF | with_reducible exact Z.daA | with_reducible exact Z.slV | with_reducible exact Z.slF | with_reducible exact Z.slH | with_reducible exact Z.slFn | with_reducible exact Z.emV | with_reducible exact Z.emF | with_reducible exact Z.ebN | with_reducible exact Z.reV | with_reducible exact Z.reF | with_reducible exact Z.reA | with_reducible exact Z.agN | with_reducible exact Z.arV | with_reducible exact Z.arF | with_reducible exact Z.arA | with_reducible exact Z.arH | with_reducible exact Z.arFn | with_reducible exact Z.inB | with_reducible exact Z.inI | with_reducible exact Z.inN | with_reducible exact Z.trB | with_reducible exact Z.trI | with_reducible exact Z.trL | with_reducible exact Z.trT | with_reducible exact Z.trN | with_reducible exact Z.bnAdd | with_reducible exact Z.bnSub | with_reducible exact Z.cpLt | with_reducible exact Z.cpLe | with_reducible exact Z.cpGt | with_reducible exact Z.cpGe | with_reducible exact Z.cpIs | with_reducible exact Z.cpNo | with_reducible exact Z.cEqI | with_reducible exact Z.cNeI | with_reducible exact Z.cEqB | with_reducible exact Z.cNeB | with_reducible exact Z.sqL | with_reducible exact Z.sqT | with_reducible exact Z.ix0 | with_reducible exact Z.ix1 | with_reducible exact Z.ix2 | with_reducible exact Z.ix3 | with_reducible exact Z.ix4 | with_reducible exact Z.rNil | with_reducible exact Z.rTsN | with_reducible exact Z.rOn | with_reducible exact Z.ssN | with_reducible exact Z.coR | with_reducible exact Z.coC | with_reducible exact Z.coB | with_reducible exact Z.sRetN | with_reducible exact Z.sCont | with_reducible exact Z.sBrk | with_reducible exact Z.sPass | with_reducible apply Z.ebC | with_reducible apply Z.agC | with_reducible apply Z.rV | with_reducible apply Z.rG | with_reducible apply Z.ssF | with_reducible apply Z.ssC | with_reducible apply Z.coN | with_reducible apply Z.sRet | with_reducible apply Z.sIf | with_reducible apply Z.cT | with_reducible apply Z.cF | with_reducible apply Z.sAsg | with_reducible apply Z.sAsgT | with_reducible apply Z.sPar | with_reducible apply Z.sPar3 | with_reducible apply Z.sExpr | with_reducible apply Z.sMeth | with_reducible apply Z.sSetix | with_reducible apply Z.sAugA | with_reducible apply Z.sAugS | with_reducible apply Z.rTe | with_reducible apply Z.rTnot | with_reducible apply Z.rTand | with_reducible apply Z.rTor | with_reducible apply Z.rTsC | with_reducible apply Z.rCons | with_reducible apply Z.rCmp | with_reducible apply Z.rBin | with_reducible apply Z.rIx | with_reducible apply Z.rSl | with_reducible apply Z.rOs | with_reducible apply Z.rNeg | with_reducible apply Z.rNot | with_reducible apply Z.rAnd | with_reducible apply Z.rOr | with_reducible apply Z.rIte | with_reducible apply Z.rCall | with_reducible apply Z.rCallV | with_reducible apply Z.rBlt | with_reducible apply Z.rIsi | with_reducible apply Z.rTup | with_reducible apply Z.rLst | with_reducible apply Z.rRange | with_reducible apply Z.rSeq | with_reducible apply Z.rEnum | with_reducible apply Z.bnAddT | with_reducible apply Z.bnAddL | with_reducible apply Z.blLL | with_reducible apply Z.blLT | with_reducible apply Z.blMx | with_reducible apply Z.blMn | with_reducible apply Z.mtApp | with_reducible apply Z.mtExt | ((with_reducible apply Z.cGt); · rfl) | ((with_reducible apply Z.cGf); · rfl) | ((with_reducible apply Z.gFrz); rfl) | ((with_reducible apply Z.gEqE); rfl) | ((with_reducible apply Z.gEqX); rfl) | ((with_reducible apply Z.gEqB); rfl) | ((with_reducible apply Z.gGet); rfl) | ((with_reducible apply Z.gAsg); rfl) | ((with_reducible apply Z.gWipe); rfl) | ((with_reducible apply Z.gGlo); rfl) | ((with_reducible apply Z.szL); rfl) | ((with_reducible apply Z.gIn) <;> first | rfl | ((with_reducible apply Z.gIn1); rfl)))
  all_goals first | rfl | exact lp0
end
end Z57

namespace Z57
open PySem L2 Z
theorem call_lowered {k : Nat} {args : List Slot} {s : DS} : callT Gf tab (k + 1) "lowered" args s = evDef (callT Gf tab k) Gf 3 9 ir_lowered args s := by kernel_rfl
theorem call_has_schedule {k : Nat} {args : List Slot} {s : DS} : callT Gf tab (k + 1) "has_schedule" args s = evDef (callT Gf tab k) Gf 1 1 ir_has_schedule args s := by kernel_rfl
theorem call_table_of {k : Nat} {args : List Slot} {s : DS} : callT Gf tab (k + 1) "table_of" args s = evDef (callT Gf tab k) Gf 1 6 ir_table_of args s := by kernel_rfl
def wenv (n : Nat) (E : List Ed) (t : PyData) (q : Tm × Bool) (x4 x6 x7 x8 : Slot) : Z.Env := [.val (.int n), .val (.tuple (E.map encE)), .val t, .own (tmL q.1 n), x4, .val (.bool q.2), x6, x7, x8]
def rbody : Ss := (.cons (.if (.and (.e (.cmp .notN (.ix (.var 3) (.var 6)) (.cst .non))) (.or (.e (.cmp .isN (.ix (.var 3) (.var 7)) (.cst .non))) (.e (.cmp .lt (.bin .add (.ix (.var 3) (.var 6)) (.var 8)) (.ix (.var 3) (.var 7)))))) (.cons (.setix 3 (.var 7) (.bin .add (.ix (.var 3) (.var 6)) (.var 8)))
  (.cons (.asg (.name 5) (.cst (.bl true)))
  .nil)) .nil)
  .nil)
def pbody : Ss := (.cons (.asg (.name 5) (.cst (.bl false)))
  (.frz [1] (.cons (.for (.tup (.cons (.name 6) (.cons (.name 7) (.cons (.name 8) .nil)))) (.seq (.var 1)) rbody)
  (.cons (.if (.not (.e (.var 5))) (.cons (.ret (.var 3))
  .nil) .nil)
  .nil))))
section
variable {F : Str → List Slot → DS → Option (R × DS)} {E : List Ed} {t : PyData} {n : Nat} {T : Tm} {σ : DS} {x4 x5 x6 x7 x8 : Slot}
theorem rstep {e : Ed} {q : Tm × Bool} (h1 : e.1 < n) (h2 : e.2.1 < n) : forSt F Gf (.tup (.cons (.name 6) (.cons (.name 7) (.cons (.name 8) .nil)))) rbody (encE e) (wenv n E t q x4 x6 x7 x8) σ = some (.nx (wenv n E t (relax q e) x4 (.val (.int e.1)) (.val (.int e.2.1)) (.val (.int e.2.2))) σ) := by
  obtain ⟨a, b, w⟩ := e
  obtain ⟨T, c⟩ := q
  simp only at h1 h2
  have ia : evIx (.list (tmL T n)) (.int a) = some (encO (T a)) := ixL (tm_get h1)
  have ib : evIx (.list (tmL T n)) (.int b) = some (encO (T b)) := ixL (tm_get h2)
  have jx : ixN (tmL T n).length (b : Int) = some b := ixN_of (by simp [tmL, h2])
  refine fStep (ρ' := wenv n E t (T, c) x4 (.val (.int a)) (.val (.int b)) (.val (.int w))) rfl ?_
  unfold relax rbody
  simp only
  cases ha : T a with
  | none =>
    rw [ha] at ia
    have ia : evIx (.list (tmL T n)) (.int a) = some .none := ia
    (repeat first | with_reducible exact ia | with_reducible exact Z.gSo | with_reducible exact Z.rCs | with_reducible exact Z.rCi | with_reducible exact Z.rCb | with_reducible exact Z.rCn | with_reducible exact Z.rF | with_reducible exact Z.srV | with_reducible exact Z.iaV | with_reducible exact Z.iaF | with_reducible exact Z.iaA | with_reducible exact Z.srO | with_reducible exact Z.srH | with_reducible exact Z.srF | with_reducible exact Z.daV | with_reducible exact Z.daF | with_reducible exact Z.daA | with_reducible exact Z.slV | with_reducible exact Z.slF | with_reducible exact Z.slH | with_reducible exact Z.slFn | with_reducible exact Z.emV | with_reducible exact Z.emF | with_reducible exact Z.ebN | with_reducible exact Z.reV | with_reducible exact Z.reF | with_reducible exact Z.reA | with_reducible exact Z.agN | with_reducible exact Z.arV | with_reducible exact Z.arF | with_reducible exact Z.arA | with_reducible exact Z.arH | with_reducible exact Z.arFn | with_reducible exact Z.inB | with_reducible exact Z.inI | with_reducible exact Z.inN | with_reducible exact Z.trB | with_reducible exact Z.trI | with_reducible exact Z.trL | with_reducible exact Z.trT | with_reducible exact Z.trN | with_reducible exact Z.bnAdd | with_reducible exact Z.bnSub | with_reducible exact Z.cpLt | with_reducible exact Z.cpLe | with_reducible exact Z.cpGt | with_reducible exact Z.cpGe | with_reducible exact Z.cpIs | with_reducible exact Z.cpNo | with_reducible exact Z.cEqI | with_reducible exact Z.cNeI | with_reducible exact Z.cEqB | with_reducible exact Z.cNeB | with_reducible exact Z.sqL | with_reducible exact Z.sqT | with_reducible exact Z.ix0 | with_reducible exact Z.ix1 | with_reducible exact Z.ix2 | with_reducible exact Z.ix3 | with_reducible exact Z.ix4 | with_reducible exact Z.rNil | with_reducible exact Z.rTsN | with_reducible exact Z.rOn | with_reducible exact Z.ssN | with_reducible exact Z.coR | with_reducible exact Z.coC | with_reducible exact Z.coB | with_reducible exact Z.sRetN | with_reducible exact Z.sCont | with_reducible exact Z.sBrk | with_reducible exact Z.sPass | with_reducible apply Z.ebC | with_reducible apply Z.agC | with_reducible apply Z.rV | with_reducible apply Z.rG | with_reducible apply Z.ssF | with_reducible apply Z.ssC | with_reducible apply Z.coN | with_reducible apply Z.sRet | with_reducible apply Z.sIf | with_reducible apply Z.cT | with_reducible apply Z.cF | with_reducible apply Z.sAsg | with_reducible apply Z.sAsgT | with_reducible apply Z.sPar | with_reducible apply Z.sPar3 | with_reducible apply Z.sExpr | with_reducible apply Z.sMeth | with_reducible apply Z.sSetix | with_reducible apply Z.sAugA | with_reducible apply Z.sAugS | with_reducible apply Z.rTe | with_reducible apply Z.rTnot | with_reducible apply Z.rTand | with_reducible apply Z.rTor | with_reducible apply Z.rTsC | with_reducible apply Z.rCons | with_reducible apply Z.rCmp | with_reducible apply Z.rBin | with_reducible apply Z.rIx | with_reducible apply Z.rSl | with_reducible apply Z.rOs | with_reducible apply Z.rNeg | with_reducible apply Z.rNot | with_reducible apply Z.rAnd | with_reducible apply Z.rOr | with_reducible apply Z.rIte | with_reducible apply Z.rCall | with_reducible apply Z.rCallV | with_reducible apply Z.rBlt | with_reducible apply Z.rIsi | with_reducible apply Z.rTup | with_reducible apply Z.rLst | with_reducible apply Z.rRange | with_reducible apply Z.rSeq | with_reducible apply Z.rEnum | with_reducible apply Z.bnAddT | with_reducible apply Z.bnAddL | with_reducible apply Z.blLL | with_reducible apply Z.blLT | with_reducible apply Z.blMx | with_reducible apply Z.blMn | with_reducible apply Z.mtApp | with_reducible apply Z.mtExt | ((with_reducible apply Z.cGt); · rfl) | ((with_reducible apply Z.cGf); · rfl) | ((with_reducible apply Z.gFrz); rfl) | ((with_reducible apply Z.gEqE); rfl) | ((with_reducible apply Z.gEqX); rfl) | ((with_reducible apply Z.gEqB); rfl) | ((with_reducible apply Z.gGet); rfl) | ((with_reducible apply Z.gAsg); rfl) | ((with_reducible apply Z.gWipe); rfl) | ((with_reducible apply Z.gGlo); rfl) | ((with_reducible apply Z.szL); rfl) | ((with_reducible apply Z.gIn) <;> first | rfl | ((with_reducible apply Z.gIn1); rfl)))
    all_goals rfl
  | some x =>
    rw [ha] at ia
    have ia : evIx (.list (tmL T n)) (.int a) = some (.int x) := ia
    simp only
    have put_e : ∀ y8 : Slot, wenv n E t (put T b (x + w), true) x4 (.val (.int a)) (.val (.int b)) y8 = ((wenv n E t (T, c) x4 (.val (.int a)) (.val (.int b)) y8).set 3 (.own ((tmL T n).set b (.int (x + w))))).set 5 (.val (.bool true)) := fun y8 => by
      rw [tm_put h2]; rfl
    cases hb : T b with
    | none =>
      rw [hb] at ib
      have ib : evIx (.list (tmL T n)) (.int b) = some .none := ib
      simp only
      rw [put_e]
      by_cases hab : a = b
      · subst hab; rw [ha] at hb; cases hb
      · (repeat first | with_reducible exact ia | with_reducible exact ib | with_reducible exact jx | with_reducible exact Z.gSo | with_reducible exact Z.rCs | with_reducible exact Z.rCi | with_reducible exact Z.rCb | with_reducible exact Z.rCn | with_reducible exact Z.rF | with_reducible exact Z.srV | with_reducible exact Z.iaV | with_reducible exact Z.iaF | with_reducible exact Z.iaA | with_reducible exact Z.srO | with_reducible exact Z.srH | with_reducible exact Z.srF | with_reducible exact Z.daV | with_reducible exact Z.daF | with_reducible exact Z.daA | with_reducible exact Z.slV | with_reducible exact Z.slF | with_reducible exact Z.slH | with_reducible exact Z.slFn | with_reducible exact Z.emV | with_reducible exact Z.emF | with_reducible exact Z.ebN | with_reducible exact Z.reV | with_reducible exact Z.reF | with_reducible exact Z.reA | with_reducible exact Z.agN | with_reducible exact Z.arV | with_reducible exact Z.arF | with_reducible exact Z.arA | with_reducible exact Z.arH | with_reducible exact Z.arFn | with_reducible exact Z.inB | with_reducible exact Z.inI | with_reducible exact Z.inN | with_reducible exact Z.trB | with_reducible exact Z.trI | with_reducible exact Z.trL | with_reducible exact Z.trT | with_reducible exact Z.trN | with_reducible exact Z.bnAdd | with_reducible exact Z.bnSub | with_reducible exact Z.cpLt | with_reducible exact Z.cpLe | with_reducible exact Z.cpGt | with_reducible exact Z.cpGe | with_reducible exact Z.cpIs | with_reducible exact Z.cpNo | with_reducible exact Z.cEqI | with_reducible exact Z.cNeI | with_reducible exact Z.cEqB | with_reducible exact Z.cNeB | with_reducible exact Z.sqL | with_reducible exact Z.sqT | with_reducible exact Z.ix0 | with_reducible exact Z.ix1 | with_reducible exact Z.ix2 | with_reducible exact Z.ix3 | with_reducible exact Z.ix4 | with_reducible exact Z.rNil | with_reducible exact Z.rTsN | with_reducible exact Z.rOn | with_reducible exact Z.ssN | with_reducible exact Z.coR | with_reducible exact Z.coC | with_reducible exact Z.coB | with_reducible exact Z.sRetN | with_reducible exact Z.sCont | with_reducible exact Z.sBrk | with_reducible exact Z.sPass | with_reducible apply Z.ebC | with_reducible apply Z.agC | with_reducible apply Z.rV | with_reducible apply Z.rG | with_reducible apply Z.ssF | with_reducible apply Z.ssC | with_reducible apply Z.coN | with_reducible apply Z.sRet | with_reducible apply Z.sIf | with_reducible apply Z.cT | with_reducible apply Z.cF | with_reducible apply Z.sAsg | with_reducible apply Z.sAsgT | with_reducible apply Z.sPar | with_reducible apply Z.sPar3 | with_reducible apply Z.sExpr | with_reducible apply Z.sMeth | with_reducible apply Z.sSetix | with_reducible apply Z.sAugA | with_reducible apply Z.sAugS | with_reducible apply Z.rTe | with_reducible apply Z.rTnot | with_reducible apply Z.rTand | with_reducible apply Z.rTor | with_reducible apply Z.rTsC | with_reducible apply Z.rCons | with_reducible apply Z.rCmp | with_reducible apply Z.rBin | with_reducible apply Z.rIx | with_reducible apply Z.rSl | with_reducible apply Z.rOs | with_reducible apply Z.rNeg | with_reducible apply Z.rNot | with_reducible apply Z.rAnd | with_reducible apply Z.rOr | with_reducible apply Z.rIte | with_reducible apply Z.rCall | with_reducible apply Z.rCallV | with_reducible apply Z.rBlt | with_reducible apply Z.rIsi | with_reducible apply Z.rTup | with_reducible apply Z.rLst | with_reducible apply Z.rRange | with_reducible apply Z.rSeq | with_reducible apply Z.rEnum | with_reducible apply Z.bnAddT | with_reducible apply Z.bnAddL | with_reducible apply Z.blLL | with_reducible apply Z.blLT | with_reducible apply Z.blMx | with_reducible apply Z.blMn | with_reducible apply Z.mtApp | with_reducible apply Z.mtExt | ((with_reducible apply Z.cGt); · rfl) | ((with_reducible apply Z.cGf); · rfl) | ((with_reducible apply Z.gFrz); rfl) | ((with_reducible apply Z.gEqE); rfl) | ((with_reducible apply Z.gEqX); rfl) | ((with_reducible apply Z.gEqB); rfl) | ((with_reducible apply Z.gGet); rfl) | ((with_reducible apply Z.gAsg); rfl) | ((with_reducible apply Z.gWipe); rfl) | ((with_reducible apply Z.gGlo); rfl) | ((with_reducible apply Z.szL); rfl) | ((with_reducible apply Z.gIn) <;> first | rfl | ((with_reducible apply Z.gIn1); rfl)))
        all_goals first | exact jx | rfl
    | some y =>
      rw [hb] at ib
      have ib : evIx (.list (tmL T n)) (.int b) = some (.int y) := ib
      simp only
      by_cases l : x + w < y
      · rw [if_pos l, put_e]
        have lt := iLtT l
        by_cases hab : a = b
        · subst hab
          rw [ha] at hb
          cases hb
          (repeat first | with_reducible exact ia | with_reducible exact jx | with_reducible exact lt | with_reducible exact Z.gSo | with_reducible exact Z.rCs | with_reducible exact Z.rCi | with_reducible exact Z.rCb | with_reducible exact Z.rCn | with_reducible exact Z.rF | with_reducible exact Z.srV | with_reducible exact Z.iaV | with_reducible exact Z.iaF | with_reducible exact Z.iaA | with_reducible exact Z.srO | with_reducible exact Z.srH | with_reducible exact Z.srF | with_reducible exact Z.daV | with_reducible exact Z.daF | with_reducible exact Z.daA | with_reducible exact Z.slV | with_reducible exact Z.slF | with_reducible exact Z.slH | with_reducible exact Z.slFn | with_reducible exact Z.emV | with_reducible exact Z.emF | with_reducible exact Z.ebN | with_reducible exact Z.reV | with_reducible exact Z.reF | with_reducible exact Z.reA | with_reducible exact Z.agN | with_reducible exact Z.arV | with_reducible exact Z.arF | with_reducible exact Z.arA | with_reducible exact Z.arH | with_reducible exact Z.arFn | with_reducible exact Z.inB | with_reducible exact Z.inI | with_reducible exact Z.inN | with_reducible exact Z.trB | with_reducible exact Z.trI | with_reducible exact Z.trL | with_reducible exact Z.trT | with_reducible exact Z.trN | with_reducible exact Z.bnAdd | with_reducible exact Z.bnSub | with_reducible exact Z.cpLt | with_reducible exact Z.cpLe | with_reducible exact Z.cpGt | with_reducible exact Z.cpGe | with_reducible exact Z.cpIs | with_reducible exact Z.cpNo | with_reducible exact Z.cEqI | with_reducible exact Z.cNeI | with_reducible exact Z.cEqB | with_reducible exact Z.cNeB | with_reducible exact Z.sqL | with_reducible exact Z.sqT | with_reducible exact Z.ix0 | with_reducible exact Z.ix1 | with_reducible exact Z.ix2 | with_reducible exact Z.ix3 | with_reducible exact Z.ix4 | with_reducible exact Z.rNil | with_reducible exact Z.rTsN | with_reducible exact Z.rOn | with_reducible exact Z.ssN | with_reducible exact Z.coR | with_reducible exact Z.coC | with_reducible exact Z.coB | with_reducible exact Z.sRetN | with_reducible exact Z.sCont | with_reducible exact Z.sBrk | with_reducible exact Z.sPass | with_reducible apply Z.ebC | with_reducible apply Z.agC | with_reducible apply Z.rV | with_reducible apply Z.rG | with_reducible apply Z.ssF | with_reducible apply Z.ssC | with_reducible apply Z.coN | with_reducible apply Z.sRet | with_reducible apply Z.sIf | with_reducible apply Z.cT | with_reducible apply Z.cF | with_reducible apply Z.sAsg | with_reducible apply Z.sAsgT | with_reducible apply Z.sPar | with_reducible apply Z.sPar3 | with_reducible apply Z.sExpr | with_reducible apply Z.sMeth | with_reducible apply Z.sSetix | with_reducible apply Z.sAugA | with_reducible apply Z.sAugS | with_reducible apply Z.rTe | with_reducible apply Z.rTnot | with_reducible apply Z.rTand | with_reducible apply Z.rTor | with_reducible apply Z.rTsC | with_reducible apply Z.rCons | with_reducible apply Z.rCmp | with_reducible apply Z.rBin | with_reducible apply Z.rIx | with_reducible apply Z.rSl | with_reducible apply Z.rOs | with_reducible apply Z.rNeg | with_reducible apply Z.rNot | with_reducible apply Z.rAnd | with_reducible apply Z.rOr | with_reducible apply Z.rIte | with_reducible apply Z.rCall | with_reducible apply Z.rCallV | with_reducible apply Z.rBlt | with_reducible apply Z.rIsi | with_reducible apply Z.rTup | with_reducible apply Z.rLst | with_reducible apply Z.rRange | with_reducible apply Z.rSeq | with_reducible apply Z.rEnum | with_reducible apply Z.bnAddT | with_reducible apply Z.bnAddL | with_reducible apply Z.blLL | with_reducible apply Z.blLT | with_reducible apply Z.blMx | with_reducible apply Z.blMn | with_reducible apply Z.mtApp | with_reducible apply Z.mtExt | ((with_reducible apply Z.cGt); · rfl) | ((with_reducible apply Z.cGf); · rfl) | ((with_reducible apply Z.gFrz); rfl) | ((with_reducible apply Z.gEqE); rfl) | ((with_reducible apply Z.gEqX); rfl) | ((with_reducible apply Z.gEqB); rfl) | ((with_reducible apply Z.gGet); rfl) | ((with_reducible apply Z.gAsg); rfl) | ((with_reducible apply Z.gWipe); rfl) | ((with_reducible apply Z.gGlo); rfl) | ((with_reducible apply Z.szL); rfl) | ((with_reducible apply Z.gIn) <;> first | rfl | ((with_reducible apply Z.gIn1); rfl)))
          all_goals first | exact jx | rfl
        · (repeat first | with_reducible exact ia | with_reducible exact ib | with_reducible exact jx | with_reducible exact lt | with_reducible exact Z.gSo | with_reducible exact Z.rCs | with_reducible exact Z.rCi | with_reducible exact Z.rCb | with_reducible exact Z.rCn | with_reducible exact Z.rF | with_reducible exact Z.srV | with_reducible exact Z.iaV | with_reducible exact Z.iaF | with_reducible exact Z.iaA | with_reducible exact Z.srO | with_reducible exact Z.srH | with_reducible exact Z.srF | with_reducible exact Z.daV | with_reducible exact Z.daF | with_reducible exact Z.daA | with_reducible exact Z.slV | with_reducible exact Z.slF | with_reducible exact Z.slH | with_reducible exact Z.slFn | with_reducible exact Z.emV | with_reducible exact Z.emF | with_reducible exact Z.ebN | with_reducible exact Z.reV | with_reducible exact Z.reF | with_reducible exact Z.reA | with_reducible exact Z.agN | with_reducible exact Z.arV | with_reducible exact Z.arF | with_reducible exact Z.arA | with_reducible exact Z.arH | with_reducible exact Z.arFn | with_reducible exact Z.inB | with_reducible exact Z.inI | with_reducible exact Z.inN | with_reducible exact Z.trB | with_reducible exact Z.trI | with_reducible exact Z.trL | with_reducible exact Z.trT | with_reducible exact Z.trN | with_reducible exact Z.bnAdd | with_reducible exact Z.bnSub | with_reducible exact Z.cpLt | with_reducible exact Z.cpLe | with_reducible exact Z.cpGt | with_reducible exact Z.cpGe | with_reducible exact Z.cpIs | with_reducible exact Z.cpNo | with_reducible exact Z.cEqI | with_reducible exact Z.cNeI | with_reducible exact Z.cEqB | with_reducible exact Z.cNeB | with_reducible exact Z.sqL | with_reducible exact Z.sqT | with_reducible exact Z.ix0 | with_reducible exact Z.ix1 | with_reducible exact Z.ix2 | with_reducible exact Z.ix3 | with_reducible exact Z.ix4 | with_reducible exact Z.rNil | with_reducible exact Z.rTsN | with_reducible exact Z.rOn | with_reducible exact Z.ssN | with_reducible exact Z.coR | with_reducible exact Z.coC | with_reducible exact Z.coB | with_reducible exact Z.sRetN | with_reducible exact Z.sCont | with_reducible exact Z.sBrk | with_reducible exact Z.sPass | with_reducible apply Z.ebC | with_reducible apply Z.agC | with_reducible apply Z.rV | with_reducible apply Z.rG | with_reducible apply Z.ssF | with_reducible apply Z.ssC | with_reducible apply Z.coN | with_reducible apply Z.sRet | with_reducible apply Z.sIf | with_reducible apply Z.cT | with_reducible apply Z.cF | with_reducible apply Z.sAsg | with_reducible apply Z.sAsgT | with_reducible apply Z.sPar | with_reducible apply Z.sPar3 | with_reducible apply Z.sExpr | with_reducible apply Z.sMeth | with_reducible apply Z.sSetix | with_reducible apply Z.sAugA | with_reducible apply Z.sAugS | with_reducible apply Z.rTe | with_reducible apply Z.rTnot | with_reducible apply Z.rTand | with_reducible apply Z.rTor | with_reducible apply Z.rTsC | with_reducible apply Z.rCons | with_reducible apply Z.rCmp | with_reducible apply Z.rBin | with_reducible apply Z.rIx | with_reducible apply Z.rSl | with_reducible apply Z.rOs | with_reducible apply Z.rNeg | with_reducible apply Z.rNot | with_reducible apply Z.rAnd | with_reducible apply Z.rOr | with_reducible apply Z.rIte | with_reducible apply Z.rCall | with_reducible apply Z.rCallV | with_reducible apply Z.rBlt | with_reducible apply Z.rIsi | with_reducible apply Z.rTup | with_reducible apply Z.rLst | with_reducible apply Z.rRange | with_reducible apply Z.rSeq | with_reducible apply Z.rEnum | with_reducible apply Z.bnAddT | with_reducible apply Z.bnAddL | with_reducible apply Z.blLL | with_reducible apply Z.blLT | with_reducible apply Z.blMx | with_reducible apply Z.blMn | with_reducible apply Z.mtApp | with_reducible apply Z.mtExt | ((with_reducible apply Z.cGt); · rfl) | ((with_reducible apply Z.cGf); · rfl) | ((with_reducible apply Z.gFrz); rfl) | ((with_reducible apply Z.gEqE); rfl) | ((with_reducible apply Z.gEqX); rfl) | ((with_reducible apply Z.gEqB); rfl) | ((with_reducible apply Z.gGet); rfl) | ((with_reducible apply Z.gAsg); rfl) | ((with_reducible apply Z.gWipe); rfl) | ((with_reducible apply Z.gGlo); rfl) | ((with_reducible apply Z.szL); rfl) | ((with_reducible apply Z.gIn) <;> first | rfl | ((with_reducible apply Z.gIn1); rfl)))
          all_goals first | exact jx | rfl
      · rw [if_neg l]
        have lt := iLtF l
        (repeat first | with_reducible exact ia | with_reducible exact ib | with_reducible exact lt | with_reducible exact Z.gSo | with_reducible exact Z.rCs | with_reducible exact Z.rCi | with_reducible exact Z.rCb | with_reducible exact Z.rCn | with_reducible exact Z.rF | with_reducible exact Z.srV | with_reducible exact Z.iaV | with_reducible exact Z.iaF | with_reducible exact Z.iaA | with_reducible exact Z.srO | with_reducible exact Z.srH | with_reducible exact Z.srF | with_reducible exact Z.daV | with_reducible exact Z.daF | with_reducible exact Z.daA | with_reducible exact Z.slV | with_reducible exact Z.slF | with_reducible exact Z.slH | with_reducible exact Z.slFn | with_reducible exact Z.emV | with_reducible exact Z.emF | with_reducible exact Z.ebN | with_reducible exact Z.reV | with_reducible exact Z.reF | with_reducible exact Z.reA | with_reducible exact Z.agN | with_reducible exact Z.arV | with_reducible exact Z.arF | with_reducible exact Z.arA | with_reducible exact Z.arH | with_reducible exact Z.arFn | with_reducible exact Z.inB | with_reducible exact Z.inI | with_reducible exact Z.inN | with_reducible exact Z.trB | with_reducible exact Z.trI | with_reducible exact Z.trL | with_reducible exact Z.trT | with_reducible exact Z.trN | with_reducible exact Z.bnAdd | with_reducible exact Z.bnSub | with_reducible exact Z.cpLt | with_reducible exact Z.cpLe | with_reducible exact Z.cpGt | with_reducible exact Z.cpGe | with_reducible exact Z.cpIs | with_reducible exact Z.cpNo | with_reducible exact Z.cEqI | with_reducible exact Z.cNeI | with_reducible exact Z.cEqB | with_reducible exact Z.cNeB | with_reducible exact Z.sqL | with_reducible exact Z.sqT | with_reducible exact Z.ix0 | with_reducible exact Z.ix1 | with_reducible exact Z.ix2 | with_reducible exact Z.ix3 | with_reducible exact Z.ix4 | with_reducible exact Z.rNil | with_reducible exact Z.rTsN | with_reducible exact Z.rOn | with_reducible exact Z.ssN | with_reducible exact Z.coR | with_reducible exact Z.coC | with_reducible exact Z.coB | with_reducible exact Z.sRetN | with_reducible exact Z.sCont | with_reducible exact Z.sBrk | with_reducible exact Z.sPass | with_reducible apply Z.ebC | with_reducible apply Z.agC | with_reducible apply Z.rV | with_reducible apply Z.rG | with_reducible apply Z.ssF | with_reducible apply Z.ssC | with_reducible apply Z.coN | with_reducible apply Z.sRet | with_reducible apply Z.sIf | with_reducible apply Z.cT | with_reducible apply Z.cF | with_reducible apply Z.sAsg | with_reducible apply Z.sAsgT | with_reducible apply Z.sPar | with_reducible apply Z.sPar3 | with_reducible apply Z.sExpr | with_reducible apply Z.sMeth | with_reducible apply Z.sSetix | with_reducible apply Z.sAugA | with_reducible apply Z.sAugS | with_reducible apply Z.rTe | with_reducible apply Z.rTnot | with_reducible apply Z.rTand | with_reducible apply Z.rTor | with_reducible apply Z.rTsC | with_reducible apply Z.rCons | with_reducible apply Z.rCmp | with_reducible apply Z.rBin | with_reducible apply Z.rIx | with_reducible apply Z.rSl | with_reducible apply Z.rOs | with_reducible apply Z.rNeg | with_reducible apply Z.rNot | with_reducible apply Z.rAnd | with_reducible apply Z.rOr | with_reducible apply Z.rIte | with_reducible apply Z.rCall | with_reducible apply Z.rCallV | with_reducible apply Z.rBlt | with_reducible apply Z.rIsi | with_reducible apply Z.rTup | with_reducible apply Z.rLst | with_reducible apply Z.rRange | with_reducible apply Z.rSeq | with_reducible apply Z.rEnum | with_reducible apply Z.bnAddT | with_reducible apply Z.bnAddL | with_reducible apply Z.blLL | with_reducible apply Z.blLT | with_reducible apply Z.blMx | with_reducible apply Z.blMn | with_reducible apply Z.mtApp | with_reducible apply Z.mtExt | ((with_reducible apply Z.cGt); · rfl) | ((with_reducible apply Z.cGf); · rfl) | ((with_reducible apply Z.gFrz); rfl) | ((with_reducible apply Z.gEqE); rfl) | ((with_reducible apply Z.gEqX); rfl) | ((with_reducible apply Z.gEqB); rfl) | ((with_reducible apply Z.gGet); rfl) | ((with_reducible apply Z.gAsg); rfl) | ((with_reducible apply Z.gWipe); rfl) | ((with_reducible apply Z.gGlo); rfl) | ((with_reducible apply Z.szL); rfl) | ((with_reducible apply Z.gIn) <;> first | rfl | ((with_reducible apply Z.gIn1); rfl)))
        all_goals rfl
theorem pstep {i : Nat} (hE : In n E) : ∃ y6 y7 y8, forSt F Gf (.name 4) pbody (.int i) [.val (.int n), .val (.tuple (E.map encE)), .val t, .own (tmL T n), x4, x5, x6, x7, x8] σ =
    some (if (pass E T).2 = true then .nx (wenv n E t ((pass E T).1, true) (.val (.int i)) y6 y7 y8) σ else .rt (.fresh (tmL (pass E T).1 n)) σ) := by
  obtain ⟨ρ', s', lp, rfl, _, q, y6, y7, y8, rfl, hq⟩ := for_map (step := forSt F Gf (.tup (.cons (.name 6) (.cons (.name 7) (.cons (.name 8) .nil)))) rbody) (g := encE) (l := E) (ρ := wenv n E t (T, false) (.val (.int i)) x6 x7 x8) (s := σ)
    (fun rem ρ s' => σ = s' ∧ (∀ e ∈ rem, e ∈ E) ∧ ∃ q y6 y7 y8, ρ = wenv n E t q (.val (.int i)) y6 y7 y8 ∧ rem.foldl relax q = pass E T)
    (fun e rem ρ s' h => by
      obtain ⟨rfl, hr, q, y6, y7, y8, rfl, hq⟩ := h
      have he := hE e (hr e (.head _))
      exact ⟨_, _, rstep he.1 he.2, rfl, fun k hk => hr k (.tail _ hk), _, _, _, _, rfl, hq⟩)
    ⟨rfl, fun _ h => h, _, _, _, _, rfl, rfl⟩
  rw [List.foldl_nil] at hq
  subst hq
  refine ⟨y6, y7, y8, fStep (ρ' := [.val (.int n), .val (.tuple (E.map encE)), .val t, .own (tmL T n), .val (.int i), x5, x6, x7, x8]) rfl ?_⟩
  unfold pbody
  cases c : (pass E T).2 with
  | true =>
    have lp : forLoop (forSt F Gf (.tup (.cons (.name 6) (.cons (.name 7) (.cons (.name 8) .nil)))) rbody) (E.map encE) (wenv n E t (T, false) (.val (.int i)) x6 x7 x8) σ = some (.nx (wenv n E t ((pass E T).1, true) (.val (.int i)) y6 y7 y8) σ) := by rw [lp, ← c]
    (repeat first | with_reducible apply Z.sFor2 (h2 := lp) | with_reducible exact Z.gSo | with_reducible exact Z.rCs | with_reducible exact Z.rCi | with_reducible exact Z.rCb | with_reducible exact Z.rCn | with_reducible exact Z.rF | with_reducible exact Z.srV | with_reducible exact Z.iaV | with_reducible exact Z.iaF | with_reducible exact Z.iaA | with_reducible exact Z.srO | with_reducible exact Z.srH | with_reducible exact Z.srF | with_reducible exact Z.daV | with_reducible exact Z.daF | with_reducible exact Z.daA | with_reducible exact Z.slV | with_reducible exact Z.slF | with_reducible exact Z.slH | with_reducible exact Z.slFn | with_reducible exact Z.emV | with_reducible exact Z.emF | with_reducible exact Z.ebN | with_reducible exact Z.reV | with_reducible exact Z.reF | with_reducible exact Z.reA | with_reducible exact Z.agN | with_reducible exact Z.arV | with_reducible exact Z.arF | with_reducible exact Z.arA | with_reducible exact Z.arH | with_reducible exact Z.arFn | with_reducible exact Z.inB | with_reducible exact Z.inI | with_reducible exact Z.inN | with_reducible exact Z.trB | with_reducible exact Z.trI | with_reducible exact Z.trL | with_reducible exact Z.trT | with_reducible exact Z.trN | with_reducible exact Z.bnAdd | with_reducible exact Z.bnSub | with_reducible exact Z.cpLt | with_reducible exact Z.cpLe | with_reducible exact Z.cpGt | with_reducible exact Z.cpGe | with_reducible exact Z.cpIs | with_reducible exact Z.cpNo | with_reducible exact Z.cEqI | with_reducible exact Z.cNeI | with_reducible exact Z.cEqB | with_reducible exact Z.cNeB | with_reducible exact Z.sqL | with_reducible exact Z.sqT | with_reducible exact Z.ix0 | with_reducible exact Z.ix1 | with_reducible exact Z.ix2 | with_reducible exact Z.ix3 | with_reducible exact Z.ix4 | with_reducible exact Z.rNil | with_reducible exact Z.rTsN | with_reducible exact Z.rOn | with_reducible exact Z.ssN | with_reducible exact Z.coR | with_reducible exact Z.coC | with_reducible exact Z.coB | with_reducible exact Z.sRetN | with_reducible exact Z.sCont | with_reducible exact Z.sBrk | with_reducible exact Z.sPass | with_reducible apply Z.ebC | with_reducible apply Z.agC | with_reducible apply Z.rV | with_reducible apply Z.rG | with_reducible apply Z.ssF | with_reducible apply Z.ssC | with_reducible apply Z.coN | with_reducible apply Z.sRet | with_reducible apply Z.sIf | with_reducible apply Z.cT | with_reducible apply Z.cF | with_reducible apply Z.sAsg | with_reducible apply Z.sAsgT | with_reducible apply Z.sPar | with_reducible apply Z.sPar3 | with_reducible apply Z.sExpr | with_reducible apply Z.sMeth | with_reducible apply Z.sSetix | with_reducible apply Z.sAugA | with_reducible apply Z.sAugS | with_reducible apply Z.rTe | with_reducible apply Z.rTnot | with_reducible apply Z.rTand | with_reducible apply Z.rTor | with_reducible apply Z.rTsC | with_reducible apply Z.rCons | with_reducible apply Z.rCmp | with_reducible apply Z.rBin | with_reducible apply Z.rIx | with_reducible apply Z.rSl | with_reducible apply Z.rOs | with_reducible apply Z.rNeg | with_reducible apply Z.rNot | with_reducible apply Z.rAnd | with_reducible apply Z.rOr | with_reducible apply Z.rIte | with_reducible apply Z.rCall | with_reducible apply Z.rCallV | with_reducible apply Z.rBlt | with_reducible apply Z.rIsi | with_reducible apply Z.rTup | with_reducible apply Z.rLst | with_reducible apply Z.rRange | with_reducible apply Z.rSeq | with_reducible apply Z.rEnum | with_reducible apply Z.bnAddT | with_reducible apply Z.bnAddL | with_reducible apply Z.blLL | with_reducible apply Z.blLT | with_reducible apply Z.blMx | with_reducible apply Z.blMn | with_reducible apply Z.mtApp | with_reducible apply Z.mtExt | ((with_reducible apply Z.cGt); · rfl) | ((with_reducible apply Z.cGf); · rfl) | ((with_reducible apply Z.gFrz); rfl) | ((with_reducible apply Z.gEqE); rfl) | ((with_reducible apply Z.gEqX); rfl) | ((with_reducible apply Z.gEqB); rfl) | ((with_reducible apply Z.gGet); rfl) | ((with_reducible apply Z.gAsg); rfl) | ((with_reducible apply Z.gWipe); rfl) | ((with_reducible apply Z.gGlo); rfl) | ((with_reducible apply Z.szL); rfl) | ((with_reducible apply Z.gIn) <;> first | rfl | ((with_reducible apply Z.gIn1); rfl)))
    all_goals rfl
  | false =>
    have lp : forLoop (forSt F Gf (.tup (.cons (.name 6) (.cons (.name 7) (.cons (.name 8) .nil)))) rbody) (E.map encE) (wenv n E t (T, false) (.val (.int i)) x6 x7 x8) σ = some (.nx (wenv n E t ((pass E T).1, false) (.val (.int i)) y6 y7 y8) σ) := by rw [lp, ← c]
    (repeat first | with_reducible apply Z.sFor2 (h2 := lp) | with_reducible exact Z.gSo | with_reducible exact Z.rCs | with_reducible exact Z.rCi | with_reducible exact Z.rCb | with_reducible exact Z.rCn | with_reducible exact Z.rF | with_reducible exact Z.srV | with_reducible exact Z.iaV | with_reducible exact Z.iaF | with_reducible exact Z.iaA | with_reducible exact Z.srO | with_reducible exact Z.srH | with_reducible exact Z.srF | with_reducible exact Z.daV | with_reducible exact Z.daF | with_reducible exact Z.daA | with_reducible exact Z.slV | with_reducible exact Z.slF | with_reducible exact Z.slH | with_reducible exact Z.slFn | with_reducible exact Z.emV | with_reducible exact Z.emF | with_reducible exact Z.ebN | with_reducible exact Z.reV | with_reducible exact Z.reF | with_reducible exact Z.reA | with_reducible exact Z.agN | with_reducible exact Z.arV | with_reducible exact Z.arF | with_reducible exact Z.arA | with_reducible exact Z.arH | with_reducible exact Z.arFn | with_reducible exact Z.inB | with_reducible exact Z.inI | with_reducible exact Z.inN | with_reducible exact Z.trB | with_reducible exact Z.trI | with_reducible exact Z.trL | with_reducible exact Z.trT | with_reducible exact Z.trN | with_reducible exact Z.bnAdd | with_reducible exact Z.bnSub | with_reducible exact Z.cpLt | with_reducible exact Z.cpLe | with_reducible exact Z.cpGt | with_reducible exact Z.cpGe | with_reducible exact Z.cpIs | with_reducible exact Z.cpNo | with_reducible exact Z.cEqI | with_reducible exact Z.cNeI | with_reducible exact Z.cEqB | with_reducible exact Z.cNeB | with_reducible exact Z.sqL | with_reducible exact Z.sqT | with_reducible exact Z.ix0 | with_reducible exact Z.ix1 | with_reducible exact Z.ix2 | with_reducible exact Z.ix3 | with_reducible exact Z.ix4 | with_reducible exact Z.rNil | with_reducible exact Z.rTsN | with_reducible exact Z.rOn | with_reducible exact Z.ssN | with_reducible exact Z.coR | with_reducible exact Z.coC | with_reducible exact Z.coB | with_reducible exact Z.sRetN | with_reducible exact Z.sCont | with_reducible exact Z.sBrk | with_reducible exact Z.sPass | with_reducible apply Z.ebC | with_reducible apply Z.agC | with_reducible apply Z.rV | with_reducible apply Z.rG | with_reducible apply Z.ssF | with_reducible apply Z.ssC | with_reducible apply Z.coN | with_reducible apply Z.sRet | with_reducible apply Z.sIf | with_reducible apply Z.cT | with_reducible apply Z.cF | with_reducible apply Z.sAsg | with_reducible apply Z.sAsgT | with_reducible apply Z.sPar | with_reducible apply Z.sPar3 | with_reducible apply Z.sExpr | with_reducible apply Z.sMeth | with_reducible apply Z.sSetix | with_reducible apply Z.sAugA | with_reducible apply Z.sAugS | with_reducible apply Z.rTe | with_reducible apply Z.rTnot | with_reducible apply Z.rTand | with_reducible apply Z.rTor | with_reducible apply Z.rTsC | with_reducible apply Z.rCons | with_reducible apply Z.rCmp | with_reducible apply Z.rBin | with_reducible apply Z.rIx | with_reducible apply Z.rSl | with_reducible apply Z.rOs | with_reducible apply Z.rNeg | with_reducible apply Z.rNot | with_reducible apply Z.rAnd | with_reducible apply Z.rOr | with_reducible apply Z.rIte | with_reducible apply Z.rCall | with_reducible apply Z.rCallV | with_reducible apply Z.rBlt | with_reducible apply Z.rIsi | with_reducible apply Z.rTup | with_reducible apply Z.rLst | with_reducible apply Z.rRange | with_reducible apply Z.rSeq | with_reducible apply Z.rEnum | with_reducible apply Z.bnAddT | with_reducible apply Z.bnAddL | with_reducible apply Z.blLL | with_reducible apply Z.blLT | with_reducible apply Z.blMx | with_reducible apply Z.blMn | with_reducible apply Z.mtApp | with_reducible apply Z.mtExt | ((with_reducible apply Z.cGt); · rfl) | ((with_reducible apply Z.cGf); · rfl) | ((with_reducible apply Z.gFrz); rfl) | ((with_reducible apply Z.gEqE); rfl) | ((with_reducible apply Z.gEqX); rfl) | ((with_reducible apply Z.gEqB); rfl) | ((with_reducible apply Z.gGet); rfl) | ((with_reducible apply Z.gAsg); rfl) | ((with_reducible apply Z.gWipe); rfl) | ((with_reducible apply Z.gGlo); rfl) | ((with_reducible apply Z.szL); rfl) | ((with_reducible apply Z.gIn) <;> first | rfl | ((with_reducible apply Z.gIn1); rfl)))
    all_goals rfl
theorem ploop (hE : In n E) {D : Tm} : ∀ (l : List Nat) (T : Tm) (x4 x5 x6 x7 x8 : Slot), low E l.length T = some D →
    forLoop (forSt F Gf (.name 4) pbody) (l.map fun (k : Nat) => PyData.int (k : Int)) [.val (.int n), .val (.tuple (E.map encE)), .val t, .own (tmL T n), x4, x5, x6, x7, x8] σ = some (.rt (.fresh (tmL D n)) σ)
  | [], T, _, _, _, _, _, h => by cases h
  | i :: l, T, x4, x5, x6, x7, x8, h => by
    obtain ⟨y6, y7, y8, e⟩ := pstep (F := F) (t := t) (T := T) (σ := σ) (x4 := x4) (x5 := x5) (x6 := x6) (x7 := x7) (x8 := x8) (i := i) hE
    rw [List.length_cons, low] at h
    rw [List.map_cons]
    by_cases c : (pass E T).2 = true
    · rw [if_pos c] at h e
      simp only [forLoop, e]
      exact ploop hE l (pass E T).1 _ _ _ _ _ h
    · rw [if_neg c] at h e
      simp only [forLoop, e]
      cases h
      rfl
end
theorem run_lowered {k : Nat} {E : List Ed} {n : Nat} {T D : Tm} {s : DS} (hn : n ≤ 1000) (hE : In n E) (h : low E (n + 1) T = some D) :
    callT Gf tab (k + 1) "lowered" [.val (.int n), .val (.tuple (E.map encE)), .val (.list (tmL T n))] s = some (.fresh (tmL D n), s) := by
  rw [call_lowered]
  refine dRt rfl rfl ?_
  unfold ir_lowered
  have lp := ploop (F := callT Gf tab k) (t := .list (tmL T n)) (σ := s) hE (List.range (n + 1)) T .no .no .no .no .no (by rw [List.length_range]; exact h)
  have rg : evRange [.val (.int ((n : Int) + 1))] = some ((List.range (n + 1)).map fun (k : Nat) => PyData.int (k : Int)) := by
    rw [rgI (by omega) (by omega), show ((n : Int) + 1).toNat = n + 1 by omega]
  have ls : evBlt .list [.val (.list (tmL T n))] = some (.fresh (tmL T n)) := rfl
  (repeat first | with_reducible exact rg | with_reducible exact ls | with_reducible apply Z.sFor2 (h2 := lp) | with_reducible exact Z.gSo | with_reducible exact Z.rCs | with_reducible exact Z.rCi | with_reducible exact Z.rCb | with_reducible exact Z.rCn | with_reducible exact Z.rF | with_reducible exact Z.srV | with_reducible exact Z.iaV | with_reducible exact Z.iaF | with_reducible exact Z.iaA | with_reducible exact Z.srO | with_reducible exact Z.srH | with_reducible exact Z.srF | with_reducible exact Z.daV | with_reducible exact Z.daF | with_reducible exact Z.daA | with_reducible exact Z.slV | with_reducible exact Z.slF | with_reducible exact Z.slH | with_reducible exact Z.slFn | with_reducible exact Z.emV | with_reducible exact Z.emF | with_reducible exact Z.ebN | with_reducible exact Z.reV | with_reducible exact Z.reF | with_reducible exact Z.reA | with_reducible exact Z.agN | with_reducible exact Z.arV | with_reducible exact Z.arF | with_reducible exact Z.arA | with_reducible exact Z.arH | with_reducible exact Z.arFn | with_reducible exact Z.inB | with_reducible exact Z.inI | with_reducible exact Z.inN | with_reducible exact Z.trB | with_reducible exact Z.trI | with_reducible exact Z.trL | with_reducible exact Z.trT | with_reducible exact Z.trN | with_reducible exact Z.bnAdd | with_reducible exact Z.bnSub | with_reducible exact Z.cpLt | with_reducible exact Z.cpLe | with_reducible exact Z.cpGt | with_reducible exact Z.cpGe | with_reducible exact Z.cpIs | with_reducible exact Z.cpNo | with_reducible exact Z.cEqI | with_reducible exact Z.cNeI | with_reducible exact Z.cEqB | with_reducible exact Z.cNeB | with_reducible exact Z.sqL | with_reducible exact Z.sqT | with_reducible exact Z.ix0 | with_reducible exact Z.ix1 | with_reducible exact Z.ix2 | with_reducible exact Z.ix3 | with_reducible exact Z.ix4 | with_reducible exact Z.rNil | with_reducible exact Z.rTsN | with_reducible exact Z.rOn | with_reducible exact Z.ssN | with_reducible exact Z.coR | with_reducible exact Z.coC | with_reducible exact Z.coB | with_reducible exact Z.sRetN | with_reducible exact Z.sCont | with_reducible exact Z.sBrk | with_reducible exact Z.sPass | with_reducible apply Z.ebC | with_reducible apply Z.agC | with_reducible apply Z.rV | with_reducible apply Z.rG | with_reducible apply Z.ssF | with_reducible apply Z.ssC | with_reducible apply Z.coN | with_reducible apply Z.sRet | with_reducible apply Z.sIf | with_reducible apply Z.cT | with_reducible apply Z.cF | with_reducible apply Z.sAsg | with_reducible apply Z.sAsgT | with_reducible apply Z.sPar | with_reducible apply Z.sPar3 | with_reducible apply Z.sExpr | with_reducible apply Z.sMeth | with_reducible apply Z.sSetix | with_reducible apply Z.sAugA | with_reducible apply Z.sAugS | with_reducible apply Z.rTe | with_reducible apply Z.rTnot | with_reducible apply Z.rTand | with_reducible apply Z.rTor | with_reducible apply Z.rTsC | with_reducible apply Z.rCons | with_reducible apply Z.rCmp | with_reducible apply Z.rBin | with_reducible apply Z.rIx | with_reducible apply Z.rSl | with_reducible apply Z.rOs | with_reducible apply Z.rNeg | with_reducible apply Z.rNot | with_reducible apply Z.rAnd | with_reducible apply Z.rOr | with_reducible apply Z.rIte | with_reducible apply Z.rCall | with_reducible apply Z.rCallV | with_reducible apply Z.rBlt | with_reducible apply Z.rIsi | with_reducible apply Z.rTup | with_reducible apply Z.rLst | with_reducible apply Z.rRange | with_reducible apply Z.rSeq | with_reducible apply Z.rEnum | with_reducible apply Z.bnAddT | with_reducible apply Z.bnAddL | with_reducible apply Z.blLL | with_reducible apply Z.blLT | with_reducible apply Z.blMx | with_reducible apply Z.blMn | with_reducible apply Z.mtApp | with_reducible apply Z.mtExt | ((with_reducible apply Z.cGt); · rfl) | ((with_reducible apply Z.cGf); · rfl) | ((with_reducible apply Z.gFrz); rfl) | ((with_reducible apply Z.gEqE); rfl) | ((with_reducible apply Z.gEqX); rfl) | ((with_reducible apply Z.gEqB); rfl) | ((with_reducible apply Z.gGet); rfl) | ((with_reducible apply Z.gAsg); rfl) | ((with_reducible apply Z.gWipe); rfl) | ((with_reducible apply Z.gGlo); rfl) | ((with_reducible apply Z.szL); rfl) | ((with_reducible apply Z.gIn) <;> first | rfl | ((with_reducible apply Z.gIn1); rfl)))
  all_goals rfl
end Z57

namespace Z57
open PySem L2 Z
theorem zero_pass {E : List Ed} (p : Pos1 E) : ∀ (l : List Ed), (∀ e ∈ l, e ∈ E) → l.foldl relax ((fun _ => some 0 : Tm), false) = ((fun _ => some 0 : Tm), false)
  | [], _ => rfl
  | e :: l, h => by
    rw [List.foldl_cons]
    have : relax ((fun _ => some 0 : Tm), false) e = ((fun _ => some 0 : Tm), false) := by
      have := p e (h e (.head _))
      unfold relax
      simp only
      rw [if_neg (by omega)]
    rw [this]
    exact zero_pass p l fun e he => h e (.tail _ he)
theorem low_zero {E : List Ed} (p : Pos1 E) (n : Nat) : low E (n + 1) (fun _ => some 0) = some fun _ => some 0 := by
  rw [low]
  unfold pass
  rw [zero_pass p E fun _ h => h]
  rfl
theorem zeros (n : Nat) : (List.replicate n [PyData.int 0]).flatten = tmL (fun _ => some 0) n := by
  unfold tmL
  induction n with
  | zero => rfl
  | succ n ih =>
    rw [List.replicate_succ', List.flatten_append, ih, List.range_succ, List.map_append]
    rfl
section
variable {E : List Ed} {n : Nat} {s : DS}
theorem run_has_schedule {k : Nat} (hn : n ≤ 1000) (hE : In n E) (p : Pos1 E) : callT Gf tab (k + 2) "has_schedule" [.val (.tuple [.int n, .tuple (E.map encE)])] s = some (.val (.bool true), s) := by
  rw [call_has_schedule]
  refine dRt rfl rfl ?_
  unfold ir_has_schedule
  have A : callT Gf tab (k + 1) "lowered" [.val (.int n), .val (.tuple (E.map encE)), .val (.list (tmL (fun _ => some 0) n))] s = some (.fresh (tmL (fun _ => some 0) n), s) := run_lowered hn hE (low_zero p n)
  have m : evBin .mul (.list [.int 0]) (.int n) = some (.fresh (tmL (fun _ => some 0) n)) := by
    rw [bnMulL ⟨by omega, by omega, by simp only [List.length_cons, List.length_nil]; exact Nat.le_trans (show (0 + 1) * ((n : Int)).toNat ≤ 1000 by omega) (by decide)⟩]
    rw [show ((n : Int)).toNat = n by omega, zeros]
  have e : evCmp .notN (.list (tmL (fun _ => some 0) n)) .none = some true := rfl
  (repeat first | with_reducible exact m | with_reducible exact A | with_reducible exact e | with_reducible exact Z.gSo | with_reducible exact Z.rCs | with_reducible exact Z.rCi | with_reducible exact Z.rCb | with_reducible exact Z.rCn | with_reducible exact Z.rF | with_reducible exact Z.srV | with_reducible exact Z.iaV | with_reducible exact Z.iaF | with_reducible exact Z.iaA | with_reducible exact Z.srO | with_reducible exact Z.srH | with_reducible exact Z.srF | with_reducible exact Z.daV | with_reducible exact Z.daF | with_reducible exact Z.daA | with_reducible exact Z.slV | with_reducible exact Z.slF | with_reducible exact Z.slH | with_reducible exact Z.slFn | with_reducible exact Z.emV | with_reducible exact Z.emF | with_reducible exact Z.ebN | with_reducible exact Z.reV | with_reducible exact Z.reF | with_reducible exact Z.reA | with_reducible exact Z.agN | with_reducible exact Z.arV | with_reducible exact Z.arF | with_reducible exact Z.arA | with_reducible exact Z.arH | with_reducible exact Z.arFn | with_reducible exact Z.inB | with_reducible exact Z.inI | with_reducible exact Z.inN | with_reducible exact Z.trB | with_reducible exact Z.trI | with_reducible exact Z.trL | with_reducible exact Z.trT | with_reducible exact Z.trN | with_reducible exact Z.bnAdd | with_reducible exact Z.bnSub | with_reducible exact Z.cpLt | with_reducible exact Z.cpLe | with_reducible exact Z.cpGt | with_reducible exact Z.cpGe | with_reducible exact Z.cpIs | with_reducible exact Z.cpNo | with_reducible exact Z.cEqI | with_reducible exact Z.cNeI | with_reducible exact Z.cEqB | with_reducible exact Z.cNeB | with_reducible exact Z.sqL | with_reducible exact Z.sqT | with_reducible exact Z.ix0 | with_reducible exact Z.ix1 | with_reducible exact Z.ix2 | with_reducible exact Z.ix3 | with_reducible exact Z.ix4 | with_reducible exact Z.rNil | with_reducible exact Z.rTsN | with_reducible exact Z.rOn | with_reducible exact Z.ssN | with_reducible exact Z.coR | with_reducible exact Z.coC | with_reducible exact Z.coB | with_reducible exact Z.sRetN | with_reducible exact Z.sCont | with_reducible exact Z.sBrk | with_reducible exact Z.sPass | with_reducible apply Z.ebC | with_reducible apply Z.agC | with_reducible apply Z.rV | with_reducible apply Z.rG | with_reducible apply Z.ssF | with_reducible apply Z.ssC | with_reducible apply Z.coN | with_reducible apply Z.sRet | with_reducible apply Z.sIf | with_reducible apply Z.cT | with_reducible apply Z.cF | with_reducible apply Z.sAsg | with_reducible apply Z.sAsgT | with_reducible apply Z.sPar | with_reducible apply Z.sPar3 | with_reducible apply Z.sExpr | with_reducible apply Z.sMeth | with_reducible apply Z.sSetix | with_reducible apply Z.sAugA | with_reducible apply Z.sAugS | with_reducible apply Z.rTe | with_reducible apply Z.rTnot | with_reducible apply Z.rTand | with_reducible apply Z.rTor | with_reducible apply Z.rTsC | with_reducible apply Z.rCons | with_reducible apply Z.rCmp | with_reducible apply Z.rBin | with_reducible apply Z.rIx | with_reducible apply Z.rSl | with_reducible apply Z.rOs | with_reducible apply Z.rNeg | with_reducible apply Z.rNot | with_reducible apply Z.rAnd | with_reducible apply Z.rOr | with_reducible apply Z.rIte | with_reducible apply Z.rCall | with_reducible apply Z.rCallV | with_reducible apply Z.rBlt | with_reducible apply Z.rIsi | with_reducible apply Z.rTup | with_reducible apply Z.rLst | with_reducible apply Z.rRange | with_reducible apply Z.rSeq | with_reducible apply Z.rEnum | with_reducible apply Z.bnAddT | with_reducible apply Z.bnAddL | with_reducible apply Z.blLL | with_reducible apply Z.blLT | with_reducible apply Z.blMx | with_reducible apply Z.blMn | with_reducible apply Z.mtApp | with_reducible apply Z.mtExt | ((with_reducible apply Z.cGt); · rfl) | ((with_reducible apply Z.cGf); · rfl) | ((with_reducible apply Z.gFrz); rfl) | ((with_reducible apply Z.gEqE); rfl) | ((with_reducible apply Z.gEqX); rfl) | ((with_reducible apply Z.gEqB); rfl) | ((with_reducible apply Z.gGet); rfl) | ((with_reducible apply Z.gAsg); rfl) | ((with_reducible apply Z.gWipe); rfl) | ((with_reducible apply Z.gGlo); rfl) | ((with_reducible apply Z.szL); rfl) | ((with_reducible apply Z.gIn) <;> first | rfl | ((with_reducible apply Z.gIn1); rfl)))
  all_goals rfl
def tbody : Ss := (.cons (.meth .append 3 (.cons (.blt .tuple (.cons (.call "lowered" (.cons (.var 1) (.cons (.var 2) (.cons (.lc (.ite (.e (.cmp .eq (.var 5) (.var 4))) (.cst (.int 0)) (.cst .non)) (.name 5) (.range (.cons (.var 1) .nil)) .nil [5]) .nil)))) .nil)) .nil))
  .nil)
theorem run_table_of {k : Nat} {D : Nat → Tm} (hn : n ≤ 1000) (hE : In n E) (p : Pos1 E) (hD : ∀ a < n, low E (n + 1) (start fun x => x == a) = some (D a)) :
    callT Gf tab (k + 3) "table_of" [.val (.tuple [.int n, .tuple (E.map encE)])] s = some (.val (.tuple ((List.range n).map fun a => PyData.tuple (tmL (D a) n))), s) := by
  rw [call_table_of]
  refine dRt rfl rfl ?_
  unfold ir_table_of
  have A := @run_has_schedule E n s k hn hE p
  have rg : evRange [.val (.int (n : Int))] = some ((List.range n).map fun (k : Nat) => PyData.int (k : Int)) := rgI (by omega) (by omega)
  have hl : ((List.range n).map fun (k : Nat) => PyData.int (k : Int)).length ≤ sizeLine := by rw [List.length_map, List.length_range]; exact Nat.le_trans hn (by decide)
  obtain ⟨ρ', s', lp, rfl, _, acc, y4, rfl, hacc, _⟩ := for_map (step := forSt (callT Gf tab (k + 2)) Gf (.name 4) tbody) (g := fun (k : Nat) => PyData.int (k : Int)) (l := List.range n)
    (ρ := [.val (.tuple [.int n, .tuple (E.map encE)]), .val (.int n), .val (.tuple (E.map encE)), .own [], .no, .no]) (s := s)
    (fun rem ρ s' => s = s' ∧ (∀ a ∈ rem, a < n) ∧ ∃ acc y4, ρ = [.val (.tuple [.int n, .tuple (E.map encE)]), .val (.int n), .val (.tuple (E.map encE)), .own acc, y4, .no] ∧ acc ++ (rem.map fun a => PyData.tuple (tmL (D a) n)) = ((List.range n).map fun a => PyData.tuple (tmL (D a) n)) ∧ acc.length + rem.length = n)
    (fun a rem ρ s' h => by
      obtain ⟨rfl, hr, acc, y4, rfl, hacc, hlen⟩ := h
      have ha := hr a (.head _)
      refine ⟨[.val (.tuple [.int n, .tuple (E.map encE)]), .val (.int n), .val (.tuple (E.map encE)), .own (acc ++ [PyData.tuple (tmL (D a) n)]), .val (.int a), .no], s, fStep (ρ' := [.val (.tuple [.int n, .tuple (E.map encE)]), .val (.int n), .val (.tuple (E.map encE)), .own acc, .val (.int a), .no]) rfl ?_, rfl, fun b hb => hr b (.tail _ hb), _, _, rfl, ?_, ?_⟩
      · have B : callT Gf tab (k + 2) "lowered" [.val (.int n), .val (.tuple (E.map encE)), .val (.list (tmL (start fun x => x == a) n))] s = some (.fresh (tmL (D a) n), s) := run_lowered hn hE (hD a ha)
        have lp1 : lcLoop (lcSt (callT Gf tab (k + 2)) Gf (.ite (.e (.cmp .eq (.var 5) (.var 4))) (.cst (.int 0)) (.cst .non)) (.name 5) .nil [.val (.tuple [.int n, .tuple (E.map encE)]), .val (.int n), .val (.tuple (E.map encE)), .own acc, .val (.int a), .no]) ((List.range n).map fun (k : Nat) => PyData.int (k : Int)) s = some (tmL (start fun x => x == a) n, s) := by
          unfold tmL
          refine lc_map fun x _ => ?_
          have e : evE (callT Gf tab (k + 2)) Gf (.ite (.e (.cmp .eq (.var 5) (.var 4))) (.cst (.int 0)) (.cst .non)) [.val (.tuple [.int n, .tuple (E.map encE)]), .val (.int n), .val (.tuple (E.map encE)), .own acc, .val (.int a), .val (.int (x : Nat))] s = some (.val (encO (start (fun x => x == a) x)), s) := by
            unfold start
            by_cases c : x = a
            · have mm := iEqT (show ((x : Nat) : Int) = (a : Int) by omega)
              rw [if_pos (by simpa using c)]
              (repeat first | with_reducible exact mm | with_reducible exact Z.gSo | with_reducible exact Z.rCs | with_reducible exact Z.rCi | with_reducible exact Z.rCb | with_reducible exact Z.rCn | with_reducible exact Z.rF | with_reducible exact Z.srV | with_reducible exact Z.iaV | with_reducible exact Z.iaF | with_reducible exact Z.iaA | with_reducible exact Z.srO | with_reducible exact Z.srH | with_reducible exact Z.srF | with_reducible exact Z.daV | with_reducible exact Z.daF | with_reducible exact Z.daA | with_reducible exact Z.slV | with_reducible exact Z.slF | with_reducible exact Z.slH | with_reducible exact Z.slFn | with_reducible exact Z.emV | with_reducible exact Z.emF | with_reducible exact Z.ebN | with_reducible exact Z.reV | with_reducible exact Z.reF | with_reducible exact Z.reA | with_reducible exact Z.agN | with_reducible exact Z.arV | with_reducible exact Z.arF | with_reducible exact Z.arA | with_reducible exact Z.arH | with_reducible exact Z.arFn | with_reducible exact Z.inB | with_reducible exact Z.inI | with_reducible exact Z.inN | with_reducible exact Z.trB | with_reducible exact Z.trI | with_reducible exact Z.trL | with_reducible exact Z.trT | with_reducible exact Z.trN | with_reducible exact Z.bnAdd | with_reducible exact Z.bnSub | with_reducible exact Z.cpLt | with_reducible exact Z.cpLe | with_reducible exact Z.cpGt | with_reducible exact Z.cpGe | with_reducible exact Z.cpIs | with_reducible exact Z.cpNo | with_reducible exact Z.cEqI | with_reducible exact Z.cNeI | with_reducible exact Z.cEqB | with_reducible exact Z.cNeB | with_reducible exact Z.sqL | with_reducible exact Z.sqT | with_reducible exact Z.ix0 | with_reducible exact Z.ix1 | with_reducible exact Z.ix2 | with_reducible exact Z.ix3 | with_reducible exact Z.ix4 | with_reducible exact Z.rNil | with_reducible exact Z.rTsN | with_reducible exact Z.rOn | with_reducible exact Z.ssN | with_reducible exact Z.coR | with_reducible exact Z.coC | with_reducible exact Z.coB | with_reducible exact Z.sRetN | with_reducible exact Z.sCont | with_reducible exact Z.sBrk | with_reducible exact Z.sPass | with_reducible apply Z.ebC | with_reducible apply Z.agC | with_reducible apply Z.rV | with_reducible apply Z.rG | with_reducible apply Z.ssF | with_reducible apply Z.ssC | with_reducible apply Z.coN | with_reducible apply Z.sRet | with_reducible apply Z.sIf | with_reducible apply Z.cT | with_reducible apply Z.cF | with_reducible apply Z.sAsg | with_reducible apply Z.sAsgT | with_reducible apply Z.sPar | with_reducible apply Z.sPar3 | with_reducible apply Z.sExpr | with_reducible apply Z.sMeth | with_reducible apply Z.sSetix | with_reducible apply Z.sAugA | with_reducible apply Z.sAugS | with_reducible apply Z.rTe | with_reducible apply Z.rTnot | with_reducible apply Z.rTand | with_reducible apply Z.rTor | with_reducible apply Z.rTsC | with_reducible apply Z.rCons | with_reducible apply Z.rCmp | with_reducible apply Z.rBin | with_reducible apply Z.rIx | with_reducible apply Z.rSl | with_reducible apply Z.rOs | with_reducible apply Z.rNeg | with_reducible apply Z.rNot | with_reducible apply Z.rAnd | with_reducible apply Z.rOr | with_reducible apply Z.rIte | with_reducible apply Z.rCall | with_reducible apply Z.rCallV | with_reducible apply Z.rBlt | with_reducible apply Z.rIsi | with_reducible apply Z.rTup | with_reducible apply Z.rLst | with_reducible apply Z.rRange | with_reducible apply Z.rSeq | with_reducible apply Z.rEnum | with_reducible apply Z.bnAddT | with_reducible apply Z.bnAddL | with_reducible apply Z.blLL | with_reducible apply Z.blLT | with_reducible apply Z.blMx | with_reducible apply Z.blMn | with_reducible apply Z.mtApp | with_reducible apply Z.mtExt | ((with_reducible apply Z.cGt); · rfl) | ((with_reducible apply Z.cGf); · rfl) | ((with_reducible apply Z.gFrz); rfl) | ((with_reducible apply Z.gEqE); rfl) | ((with_reducible apply Z.gEqX); rfl) | ((with_reducible apply Z.gEqB); rfl) | ((with_reducible apply Z.gGet); rfl) | ((with_reducible apply Z.gAsg); rfl) | ((with_reducible apply Z.gWipe); rfl) | ((with_reducible apply Z.gGlo); rfl) | ((with_reducible apply Z.szL); rfl) | ((with_reducible apply Z.gIn) <;> first | rfl | ((with_reducible apply Z.gIn1); rfl)))
              all_goals rfl
            · have mm := iEqF (show ((x : Nat) : Int) ≠ (a : Int) by omega)
              rw [if_neg (by simpa using c)]
              (repeat first | with_reducible exact mm | with_reducible exact Z.gSo | with_reducible exact Z.rCs | with_reducible exact Z.rCi | with_reducible exact Z.rCb | with_reducible exact Z.rCn | with_reducible exact Z.rF | with_reducible exact Z.srV | with_reducible exact Z.iaV | with_reducible exact Z.iaF | with_reducible exact Z.iaA | with_reducible exact Z.srO | with_reducible exact Z.srH | with_reducible exact Z.srF | with_reducible exact Z.daV | with_reducible exact Z.daF | with_reducible exact Z.daA | with_reducible exact Z.slV | with_reducible exact Z.slF | with_reducible exact Z.slH | with_reducible exact Z.slFn | with_reducible exact Z.emV | with_reducible exact Z.emF | with_reducible exact Z.ebN | with_reducible exact Z.reV | with_reducible exact Z.reF | with_reducible exact Z.reA | with_reducible exact Z.agN | with_reducible exact Z.arV | with_reducible exact Z.arF | with_reducible exact Z.arA | with_reducible exact Z.arH | with_reducible exact Z.arFn | with_reducible exact Z.inB | with_reducible exact Z.inI | with_reducible exact Z.inN | with_reducible exact Z.trB | with_reducible exact Z.trI | with_reducible exact Z.trL | with_reducible exact Z.trT | with_reducible exact Z.trN | with_reducible exact Z.bnAdd | with_reducible exact Z.bnSub | with_reducible exact Z.cpLt | with_reducible exact Z.cpLe | with_reducible exact Z.cpGt | with_reducible exact Z.cpGe | with_reducible exact Z.cpIs | with_reducible exact Z.cpNo | with_reducible exact Z.cEqI | with_reducible exact Z.cNeI | with_reducible exact Z.cEqB | with_reducible exact Z.cNeB | with_reducible exact Z.sqL | with_reducible exact Z.sqT | with_reducible exact Z.ix0 | with_reducible exact Z.ix1 | with_reducible exact Z.ix2 | with_reducible exact Z.ix3 | with_reducible exact Z.ix4 | with_reducible exact Z.rNil | with_reducible exact Z.rTsN | with_reducible exact Z.rOn | with_reducible exact Z.ssN | with_reducible exact Z.coR | with_reducible exact Z.coC | with_reducible exact Z.coB | with_reducible exact Z.sRetN | with_reducible exact Z.sCont | with_reducible exact Z.sBrk | with_reducible exact Z.sPass | with_reducible apply Z.ebC | with_reducible apply Z.agC | with_reducible apply Z.rV | with_reducible apply Z.rG | with_reducible apply Z.ssF | with_reducible apply Z.ssC | with_reducible apply Z.coN | with_reducible apply Z.sRet | with_reducible apply Z.sIf | with_reducible apply Z.cT | with_reducible apply Z.cF | with_reducible apply Z.sAsg | with_reducible apply Z.sAsgT | with_reducible apply Z.sPar | with_reducible apply Z.sPar3 | with_reducible apply Z.sExpr | with_reducible apply Z.sMeth | with_reducible apply Z.sSetix | with_reducible apply Z.sAugA | with_reducible apply Z.sAugS | with_reducible apply Z.rTe | with_reducible apply Z.rTnot | with_reducible apply Z.rTand | with_reducible apply Z.rTor | with_reducible apply Z.rTsC | with_reducible apply Z.rCons | with_reducible apply Z.rCmp | with_reducible apply Z.rBin | with_reducible apply Z.rIx | with_reducible apply Z.rSl | with_reducible apply Z.rOs | with_reducible apply Z.rNeg | with_reducible apply Z.rNot | with_reducible apply Z.rAnd | with_reducible apply Z.rOr | with_reducible apply Z.rIte | with_reducible apply Z.rCall | with_reducible apply Z.rCallV | with_reducible apply Z.rBlt | with_reducible apply Z.rIsi | with_reducible apply Z.rTup | with_reducible apply Z.rLst | with_reducible apply Z.rRange | with_reducible apply Z.rSeq | with_reducible apply Z.rEnum | with_reducible apply Z.bnAddT | with_reducible apply Z.bnAddL | with_reducible apply Z.blLL | with_reducible apply Z.blLT | with_reducible apply Z.blMx | with_reducible apply Z.blMn | with_reducible apply Z.mtApp | with_reducible apply Z.mtExt | ((with_reducible apply Z.cGt); · rfl) | ((with_reducible apply Z.cGf); · rfl) | ((with_reducible apply Z.gFrz); rfl) | ((with_reducible apply Z.gEqE); rfl) | ((with_reducible apply Z.gEqX); rfl) | ((with_reducible apply Z.gEqB); rfl) | ((with_reducible apply Z.gGet); rfl) | ((with_reducible apply Z.gAsg); rfl) | ((with_reducible apply Z.gWipe); rfl) | ((with_reducible apply Z.gGlo); rfl) | ((with_reducible apply Z.szL); rfl) | ((with_reducible apply Z.gIn) <;> first | rfl | ((with_reducible apply Z.gIn1); rfl)))
              all_goals rfl
          have := lcS (F := callT Gf tab (k + 2)) (G := Gf) (c := true) (ifs := .nil) (tg := .name 5) (x := .int (x : Nat)) (ρ := [.val (.tuple [.int n, .tuple (E.map encE)]), .val (.int n), .val (.tuple (E.map encE)), .own acc, .val (.int a), .no]) (ρ' := [.val (.tuple [.int n, .tuple (E.map encE)]), .val (.int n), .val (.tuple (E.map encE)), .own acc, .val (.int a), .val (.int (x : Nat))]) rfl rTsN e rfl
          simpa using this
        have tp : evBlt .tuple [.fresh (tmL (D a) n)] = some (.val (.tuple (tmL (D a) n))) := rfl
        have sz : acc.length < sizeLine := by
          rw [List.length_cons] at hlen
          exact Nat.lt_of_lt_of_le (show acc.length < 1001 by omega) (by decide)
        unfold tbody
        (repeat first | with_reducible exact B | with_reducible exact tp | with_reducible exact rg | with_reducible exact hl | with_reducible exact sz | with_reducible apply Z.rLc (h4 := lp1) | with_reducible exact Z.gSo | with_reducible exact Z.rCs | with_reducible exact Z.rCi | with_reducible exact Z.rCb | with_reducible exact Z.rCn | with_reducible exact Z.rF | with_reducible exact Z.srV | with_reducible exact Z.iaV | with_reducible exact Z.iaF | with_reducible exact Z.iaA | with_reducible exact Z.srO | with_reducible exact Z.srH | with_reducible exact Z.srF | with_reducible exact Z.daV | with_reducible exact Z.daF | with_reducible exact Z.daA | with_reducible exact Z.slV | with_reducible exact Z.slF | with_reducible exact Z.slH | with_reducible exact Z.slFn | with_reducible exact Z.emV | with_reducible exact Z.emF | with_reducible exact Z.ebN | with_reducible exact Z.reV | with_reducible exact Z.reF | with_reducible exact Z.reA | with_reducible exact Z.agN | with_reducible exact Z.arV | with_reducible exact Z.arF | with_reducible exact Z.arA | with_reducible exact Z.arH | with_reducible exact Z.arFn | with_reducible exact Z.inB | with_reducible exact Z.inI | with_reducible exact Z.inN | with_reducible exact Z.trB | with_reducible exact Z.trI | with_reducible exact Z.trL | with_reducible exact Z.trT | with_reducible exact Z.trN | with_reducible exact Z.bnAdd | with_reducible exact Z.bnSub | with_reducible exact Z.cpLt | with_reducible exact Z.cpLe | with_reducible exact Z.cpGt | with_reducible exact Z.cpGe | with_reducible exact Z.cpIs | with_reducible exact Z.cpNo | with_reducible exact Z.cEqI | with_reducible exact Z.cNeI | with_reducible exact Z.cEqB | with_reducible exact Z.cNeB | with_reducible exact Z.sqL | with_reducible exact Z.sqT | with_reducible exact Z.ix0 | with_reducible exact Z.ix1 | with_reducible exact Z.ix2 | with_reducible exact Z.ix3 | with_reducible exact Z.ix4 | with_reducible exact Z.rNil | with_reducible exact Z.rTsN | with_reducible exact Z.rOn | with_reducible exact Z.ssN | with_reducible exact Z.coR | with_reducible exact Z.coC | with_reducible exact Z.coB | with_reducible exact Z.sRetN | with_reducible exact Z.sCont | with_reducible exact Z.sBrk | with_reducible exact Z.sPass | with_reducible apply Z.ebC | with_reducible apply Z.agC | with_reducible apply Z.rV | with_reducible apply Z.rG | with_reducible apply Z.ssF | with_reducible apply Z.ssC | with_reducible apply Z.coN | with_reducible apply Z.sRet | with_reducible apply Z.sIf | with_reducible apply Z.cT | with_reducible apply Z.cF | with_reducible apply Z.sAsg | with_reducible apply Z.sAsgT | with_reducible apply Z.sPar | with_reducible apply Z.sPar3 | with_reducible apply Z.sExpr | with_reducible apply Z.sMeth | with_reducible apply Z.sSetix | with_reducible apply Z.sAugA | with_reducible apply Z.sAugS | with_reducible apply Z.rTe | with_reducible apply Z.rTnot | with_reducible apply Z.rTand | with_reducible apply Z.rTor | with_reducible apply Z.rTsC | with_reducible apply Z.rCons | with_reducible apply Z.rCmp | with_reducible apply Z.rBin | with_reducible apply Z.rIx | with_reducible apply Z.rSl | with_reducible apply Z.rOs | with_reducible apply Z.rNeg | with_reducible apply Z.rNot | with_reducible apply Z.rAnd | with_reducible apply Z.rOr | with_reducible apply Z.rIte | with_reducible apply Z.rCall | with_reducible apply Z.rCallV | with_reducible apply Z.rBlt | with_reducible apply Z.rIsi | with_reducible apply Z.rTup | with_reducible apply Z.rLst | with_reducible apply Z.rRange | with_reducible apply Z.rSeq | with_reducible apply Z.rEnum | with_reducible apply Z.bnAddT | with_reducible apply Z.bnAddL | with_reducible apply Z.blLL | with_reducible apply Z.blLT | with_reducible apply Z.blMx | with_reducible apply Z.blMn | with_reducible apply Z.mtApp | with_reducible apply Z.mtExt | ((with_reducible apply Z.cGt); · rfl) | ((with_reducible apply Z.cGf); · rfl) | ((with_reducible apply Z.gFrz); rfl) | ((with_reducible apply Z.gEqE); rfl) | ((with_reducible apply Z.gEqX); rfl) | ((with_reducible apply Z.gEqB); rfl) | ((with_reducible apply Z.gGet); rfl) | ((with_reducible apply Z.gAsg); rfl) | ((with_reducible apply Z.gWipe); rfl) | ((with_reducible apply Z.gGlo); rfl) | ((with_reducible apply Z.szL); rfl) | ((with_reducible apply Z.gIn) <;> first | rfl | ((with_reducible apply Z.gIn1); rfl)))
        all_goals first | rfl | exact lp1
      · rw [List.append_assoc]
        exact hacc
      · rw [List.length_cons] at hlen
        simp; omega)
    ⟨rfl, fun a ha => List.mem_range.mp ha, [], .no, rfl, rfl, by simp⟩
  rw [List.map_nil, List.append_nil] at hacc
  subst hacc
  have tp : ∀ xs, evBlt .tuple [.held 3 xs] = some (.val (.tuple xs)) := fun _ => rfl
  (repeat first | with_reducible exact A | with_reducible exact rg | with_reducible exact tp _ | with_reducible apply Z.sFor2 (h2 := lp) | with_reducible exact Z.gSo | with_reducible exact Z.rCs | with_reducible exact Z.rCi | with_reducible exact Z.rCb | with_reducible exact Z.rCn | with_reducible exact Z.rF | with_reducible exact Z.srV | with_reducible exact Z.iaV | with_reducible exact Z.iaF | with_reducible exact Z.iaA | with_reducible exact Z.srO | with_reducible exact Z.srH | with_reducible exact Z.srF | with_reducible exact Z.daV | with_reducible exact Z.daF | with_reducible exact Z.daA | with_reducible exact Z.slV | with_reducible exact Z.slF | with_reducible exact Z.slH | with_reducible exact Z.slFn | with_reducible exact Z.emV | with_reducible exact Z.emF | with_reducible exact Z.ebN | with_reducible exact Z.reV | with_reducible exact Z.reF | with_reducible exact Z.reA | with_reducible exact Z.agN | with_reducible exact Z.arV | with_reducible exact Z.arF | with_reducible exact Z.arA | with_reducible exact Z.arH | with_reducible exact Z.arFn | with_reducible exact Z.inB | with_reducible exact Z.inI | with_reducible exact Z.inN | with_reducible exact Z.trB | with_reducible exact Z.trI | with_reducible exact Z.trL | with_reducible exact Z.trT | with_reducible exact Z.trN | with_reducible exact Z.bnAdd | with_reducible exact Z.bnSub | with_reducible exact Z.cpLt | with_reducible exact Z.cpLe | with_reducible exact Z.cpGt | with_reducible exact Z.cpGe | with_reducible exact Z.cpIs | with_reducible exact Z.cpNo | with_reducible exact Z.cEqI | with_reducible exact Z.cNeI | with_reducible exact Z.cEqB | with_reducible exact Z.cNeB | with_reducible exact Z.sqL | with_reducible exact Z.sqT | with_reducible exact Z.ix0 | with_reducible exact Z.ix1 | with_reducible exact Z.ix2 | with_reducible exact Z.ix3 | with_reducible exact Z.ix4 | with_reducible exact Z.rNil | with_reducible exact Z.rTsN | with_reducible exact Z.rOn | with_reducible exact Z.ssN | with_reducible exact Z.coR | with_reducible exact Z.coC | with_reducible exact Z.coB | with_reducible exact Z.sRetN | with_reducible exact Z.sCont | with_reducible exact Z.sBrk | with_reducible exact Z.sPass | with_reducible apply Z.ebC | with_reducible apply Z.agC | with_reducible apply Z.rV | with_reducible apply Z.rG | with_reducible apply Z.ssF | with_reducible apply Z.ssC | with_reducible apply Z.coN | with_reducible apply Z.sRet | with_reducible apply Z.sIf | with_reducible apply Z.cT | with_reducible apply Z.cF | with_reducible apply Z.sAsg | with_reducible apply Z.sAsgT | with_reducible apply Z.sPar | with_reducible apply Z.sPar3 | with_reducible apply Z.sExpr | with_reducible apply Z.sMeth | with_reducible apply Z.sSetix | with_reducible apply Z.sAugA | with_reducible apply Z.sAugS | with_reducible apply Z.rTe | with_reducible apply Z.rTnot | with_reducible apply Z.rTand | with_reducible apply Z.rTor | with_reducible apply Z.rTsC | with_reducible apply Z.rCons | with_reducible apply Z.rCmp | with_reducible apply Z.rBin | with_reducible apply Z.rIx | with_reducible apply Z.rSl | with_reducible apply Z.rOs | with_reducible apply Z.rNeg | with_reducible apply Z.rNot | with_reducible apply Z.rAnd | with_reducible apply Z.rOr | with_reducible apply Z.rIte | with_reducible apply Z.rCall | with_reducible apply Z.rCallV | with_reducible apply Z.rBlt | with_reducible apply Z.rIsi | with_reducible apply Z.rTup | with_reducible apply Z.rLst | with_reducible apply Z.rRange | with_reducible apply Z.rSeq | with_reducible apply Z.rEnum | with_reducible apply Z.bnAddT | with_reducible apply Z.bnAddL | with_reducible apply Z.blLL | with_reducible apply Z.blLT | with_reducible apply Z.blMx | with_reducible apply Z.blMn | with_reducible apply Z.mtApp | with_reducible apply Z.mtExt | ((with_reducible apply Z.cGt); · rfl) | ((with_reducible apply Z.cGf); · rfl) | ((with_reducible apply Z.gFrz); rfl) | ((with_reducible apply Z.gEqE); rfl) | ((with_reducible apply Z.gEqX); rfl) | ((with_reducible apply Z.gEqB); rfl) | ((with_reducible apply Z.gGet); rfl) | ((with_reducible apply Z.gAsg); rfl) | ((with_reducible apply Z.gWipe); rfl) | ((with_reducible apply Z.gGlo); rfl) | ((with_reducible apply Z.szL); rfl) | ((with_reducible apply Z.gIn) <;> first | rfl | ((with_reducible apply Z.gIn1); rfl)))
  all_goals rfl
end
end Z57

namespace Z57
open PySem L2 Z
theorem call_longest {k : Nat} {args : List Slot} {s : DS} : callT Gf tab (k + 1) "_law_longest" args s = evDef (callT Gf tab k) Gf 4 10 ir__law_longest args s := by kernel_rfl
def pairs (n : Nat) : List (Nat × Nat) := (List.range n).flatMap fun i => (List.range n).map fun j => (i, j)
def encP (q : Nat × Nat) : PyData := .tuple [.int q.1, .int q.2]
theorem pb1 (k : Nat) (s : DS) : callT Gf tab (k + 1) "_law_pairs_below" [.val (.int 1)] s = some (.fresh ((pairs 1).map encP), s) := by kernel_rfl
theorem pb2 (k : Nat) (s : DS) : callT Gf tab (k + 1) "_law_pairs_below" [.val (.int 2)] s = some (.fresh ((pairs 2).map encP), s) := by kernel_rfl
theorem pb3 (k : Nat) (s : DS) : callT Gf tab (k + 1) "_law_pairs_below" [.val (.int 3)] s = some (.fresh ((pairs 3).map encP), s) := by kernel_rfl
theorem pb4 (k : Nat) (s : DS) : callT Gf tab (k + 1) "_law_pairs_below" [.val (.int 4)] s = some (.fresh ((pairs 4).map encP), s) := by kernel_rfl
theorem pb5 (k : Nat) (s : DS) : callT Gf tab (k + 1) "_law_pairs_below" [.val (.int 5)] s = some (.fresh ((pairs 5).map encP), s) := by kernel_rfl
theorem pb (k : Nat) (s : DS) (n : Nat) (h1 : 1 ≤ n) (h5 : n ≤ 5) : callT Gf tab (k + 1) "_law_pairs_below" [.val (.int n)] s = some (.fresh ((pairs n).map encP), s) := by
  match n, h1, h5 with
  | 1, _, _ => exact pb1 k s
  | 2, _, _ => exact pb2 k s
  | 3, _, _ => exact pb3 k s
  | 4, _, _ => exact pb4 k s
  | 5, _, _ => exact pb5 k s
def encR (e : Ed) : PyData := .tuple [.int e.2.1, .int e.2.2]
theorem shR (l : List Ed) : SeqAt.shaped (.list (l.map encR)) = true := by
  have h : PyData.canLayAll0 (l.map encR) = true ∧ PyData.depthAll (l.map encR) ≤ 1 := by
    induction l with
    | nil => exact ⟨rfl, by decide⟩
    | cons e l ih =>
      refine ⟨by simp [PyData.canLayAll0, encR, PyData.canLay0, ih.1], ?_⟩
      simp only [List.map_cons, PyData.depthAll, encR, PyData.depth]
      have := ih.2
      omega
  have := h.2
  simp only [SeqAt.shaped, PyData.canLay0, h.1, Bool.true_and, PyData.depth]
  exact decide_eq_true (by omega)
theorem eqNil (l : List Ed) : evCmp .eq (.list (l.map encR)) (.list []) = some l.isEmpty := by
  show (if SeqAt.shaped (.list (l.map encR)) = true ∧ SeqAt.shaped (.list []) = true then some (PyData.eqv (.list (l.map encR)) (.list [])) else none) = _
  rw [if_pos ⟨shR l, rfl⟩]
  cases l <;> rfl
section
variable {F : Str → List Slot → DS → Option (R × DS)} {E : List Ed} {s : DS}
def outs (E : List Ed) (sp : Nat) : List Ed := E.filter fun e => e.1 == sp
theorem lpR {g : Slot} {sp : Nat} {t : Slot} : lcLoop (lcSt F Gf (.tup (.cons (.var 6) (.cons (.var 7) .nil))) (.tup (.cons (.name 5) (.cons (.name 6) (.cons (.name 7) .nil)))) (.cons (.e (.cmp .eq (.var 5) (.var 2))) .nil) [.val (.tuple (E.map encE)), g, .val (.int sp), t, .no, .no, .no, .no, .no, .no]) (E.map encE) s = some ((outs E sp).map encR, s) := by
  refine lc_fil (α := Ed) (p := fun e => e.1 == sp) fun e _ => ?_
  have q : ((e.1 : Int) == (sp : Int)) = (e.1 == sp) := by
    rw [Bool.eq_iff_iff]; simp only [beq_iff_eq]; omega
  have h1 : evTs F Gf (.cons (.e (.cmp .eq (.var 5) (.var 2))) .nil) [.val (.tuple (E.map encE)), g, .val (.int sp), t, .no, .val (.int e.1), .val (.int e.2.1), .val (.int e.2.2), .no, .no] s = some ((e.1 == sp) && true, s) := by
    rw [← q]
    (repeat first | with_reducible exact Z.gSo | with_reducible exact Z.rCs | with_reducible exact Z.rCi | with_reducible exact Z.rCb | with_reducible exact Z.rCn | with_reducible exact Z.rF | with_reducible exact Z.srV | with_reducible exact Z.iaV | with_reducible exact Z.iaF | with_reducible exact Z.iaA | with_reducible exact Z.srO | with_reducible exact Z.srH | with_reducible exact Z.srF | with_reducible exact Z.daV | with_reducible exact Z.daF | with_reducible exact Z.daA | with_reducible exact Z.slV | with_reducible exact Z.slF | with_reducible exact Z.slH | with_reducible exact Z.slFn | with_reducible exact Z.emV | with_reducible exact Z.emF | with_reducible exact Z.ebN | with_reducible exact Z.reV | with_reducible exact Z.reF | with_reducible exact Z.reA | with_reducible exact Z.agN | with_reducible exact Z.arV | with_reducible exact Z.arF | with_reducible exact Z.arA | with_reducible exact Z.arH | with_reducible exact Z.arFn | with_reducible exact Z.inB | with_reducible exact Z.inI | with_reducible exact Z.inN | with_reducible exact Z.trB | with_reducible exact Z.trI | with_reducible exact Z.trL | with_reducible exact Z.trT | with_reducible exact Z.trN | with_reducible exact Z.bnAdd | with_reducible exact Z.bnSub | with_reducible exact Z.cpLt | with_reducible exact Z.cpLe | with_reducible exact Z.cpGt | with_reducible exact Z.cpGe | with_reducible exact Z.cpIs | with_reducible exact Z.cpNo | with_reducible exact Z.cEqI | with_reducible exact Z.cNeI | with_reducible exact Z.cEqB | with_reducible exact Z.cNeB | with_reducible exact Z.sqL | with_reducible exact Z.sqT | with_reducible exact Z.ix0 | with_reducible exact Z.ix1 | with_reducible exact Z.ix2 | with_reducible exact Z.ix3 | with_reducible exact Z.ix4 | with_reducible exact Z.rNil | with_reducible exact Z.rTsN | with_reducible exact Z.rOn | with_reducible exact Z.ssN | with_reducible exact Z.coR | with_reducible exact Z.coC | with_reducible exact Z.coB | with_reducible exact Z.sRetN | with_reducible exact Z.sCont | with_reducible exact Z.sBrk | with_reducible exact Z.sPass | with_reducible apply Z.ebC | with_reducible apply Z.agC | with_reducible apply Z.rV | with_reducible apply Z.rG | with_reducible apply Z.ssF | with_reducible apply Z.ssC | with_reducible apply Z.coN | with_reducible apply Z.sRet | with_reducible apply Z.sIf | with_reducible apply Z.cT | with_reducible apply Z.cF | with_reducible apply Z.sAsg | with_reducible apply Z.sAsgT | with_reducible apply Z.sPar | with_reducible apply Z.sPar3 | with_reducible apply Z.sExpr | with_reducible apply Z.sMeth | with_reducible apply Z.sSetix | with_reducible apply Z.sAugA | with_reducible apply Z.sAugS | with_reducible apply Z.rTe | with_reducible apply Z.rTnot | with_reducible apply Z.rTand | with_reducible apply Z.rTor | with_reducible apply Z.rTsC | with_reducible apply Z.rCons | with_reducible apply Z.rCmp | with_reducible apply Z.rBin | with_reducible apply Z.rIx | with_reducible apply Z.rSl | with_reducible apply Z.rOs | with_reducible apply Z.rNeg | with_reducible apply Z.rNot | with_reducible apply Z.rAnd | with_reducible apply Z.rOr | with_reducible apply Z.rIte | with_reducible apply Z.rCall | with_reducible apply Z.rCallV | with_reducible apply Z.rBlt | with_reducible apply Z.rIsi | with_reducible apply Z.rTup | with_reducible apply Z.rLst | with_reducible apply Z.rRange | with_reducible apply Z.rSeq | with_reducible apply Z.rEnum | with_reducible apply Z.bnAddT | with_reducible apply Z.bnAddL | with_reducible apply Z.blLL | with_reducible apply Z.blLT | with_reducible apply Z.blMx | with_reducible apply Z.blMn | with_reducible apply Z.mtApp | with_reducible apply Z.mtExt | ((with_reducible apply Z.cGt); · rfl) | ((with_reducible apply Z.cGf); · rfl) | ((with_reducible apply Z.gFrz); rfl) | ((with_reducible apply Z.gEqE); rfl) | ((with_reducible apply Z.gEqX); rfl) | ((with_reducible apply Z.gEqB); rfl) | ((with_reducible apply Z.gGet); rfl) | ((with_reducible apply Z.gAsg); rfl) | ((with_reducible apply Z.gWipe); rfl) | ((with_reducible apply Z.gGlo); rfl) | ((with_reducible apply Z.szL); rfl) | ((with_reducible apply Z.gIn) <;> first | rfl | ((with_reducible apply Z.gIn1); rfl)))
  rw [Bool.and_true] at h1
  have h2 : evE F Gf (.tup (.cons (.var 6) (.cons (.var 7) .nil))) [.val (.tuple (E.map encE)), g, .val (.int sp), t, .no, .val (.int e.1), .val (.int e.2.1), .val (.int e.2.2), .no, .no] s = some (.val (encR e), s) := by
    unfold encR
    (repeat first | with_reducible exact Z.gSo | with_reducible exact Z.rCs | with_reducible exact Z.rCi | with_reducible exact Z.rCb | with_reducible exact Z.rCn | with_reducible exact Z.rF | with_reducible exact Z.srV | with_reducible exact Z.iaV | with_reducible exact Z.iaF | with_reducible exact Z.iaA | with_reducible exact Z.srO | with_reducible exact Z.srH | with_reducible exact Z.srF | with_reducible exact Z.daV | with_reducible exact Z.daF | with_reducible exact Z.daA | with_reducible exact Z.slV | with_reducible exact Z.slF | with_reducible exact Z.slH | with_reducible exact Z.slFn | with_reducible exact Z.emV | with_reducible exact Z.emF | with_reducible exact Z.ebN | with_reducible exact Z.reV | with_reducible exact Z.reF | with_reducible exact Z.reA | with_reducible exact Z.agN | with_reducible exact Z.arV | with_reducible exact Z.arF | with_reducible exact Z.arA | with_reducible exact Z.arH | with_reducible exact Z.arFn | with_reducible exact Z.inB | with_reducible exact Z.inI | with_reducible exact Z.inN | with_reducible exact Z.trB | with_reducible exact Z.trI | with_reducible exact Z.trL | with_reducible exact Z.trT | with_reducible exact Z.trN | with_reducible exact Z.bnAdd | with_reducible exact Z.bnSub | with_reducible exact Z.cpLt | with_reducible exact Z.cpLe | with_reducible exact Z.cpGt | with_reducible exact Z.cpGe | with_reducible exact Z.cpIs | with_reducible exact Z.cpNo | with_reducible exact Z.cEqI | with_reducible exact Z.cNeI | with_reducible exact Z.cEqB | with_reducible exact Z.cNeB | with_reducible exact Z.sqL | with_reducible exact Z.sqT | with_reducible exact Z.ix0 | with_reducible exact Z.ix1 | with_reducible exact Z.ix2 | with_reducible exact Z.ix3 | with_reducible exact Z.ix4 | with_reducible exact Z.rNil | with_reducible exact Z.rTsN | with_reducible exact Z.rOn | with_reducible exact Z.ssN | with_reducible exact Z.coR | with_reducible exact Z.coC | with_reducible exact Z.coB | with_reducible exact Z.sRetN | with_reducible exact Z.sCont | with_reducible exact Z.sBrk | with_reducible exact Z.sPass | with_reducible apply Z.ebC | with_reducible apply Z.agC | with_reducible apply Z.rV | with_reducible apply Z.rG | with_reducible apply Z.ssF | with_reducible apply Z.ssC | with_reducible apply Z.coN | with_reducible apply Z.sRet | with_reducible apply Z.sIf | with_reducible apply Z.cT | with_reducible apply Z.cF | with_reducible apply Z.sAsg | with_reducible apply Z.sAsgT | with_reducible apply Z.sPar | with_reducible apply Z.sPar3 | with_reducible apply Z.sExpr | with_reducible apply Z.sMeth | with_reducible apply Z.sSetix | with_reducible apply Z.sAugA | with_reducible apply Z.sAugS | with_reducible apply Z.rTe | with_reducible apply Z.rTnot | with_reducible apply Z.rTand | with_reducible apply Z.rTor | with_reducible apply Z.rTsC | with_reducible apply Z.rCons | with_reducible apply Z.rCmp | with_reducible apply Z.rBin | with_reducible apply Z.rIx | with_reducible apply Z.rSl | with_reducible apply Z.rOs | with_reducible apply Z.rNeg | with_reducible apply Z.rNot | with_reducible apply Z.rAnd | with_reducible apply Z.rOr | with_reducible apply Z.rIte | with_reducible apply Z.rCall | with_reducible apply Z.rCallV | with_reducible apply Z.rBlt | with_reducible apply Z.rIsi | with_reducible apply Z.rTup | with_reducible apply Z.rLst | with_reducible apply Z.rRange | with_reducible apply Z.rSeq | with_reducible apply Z.rEnum | with_reducible apply Z.bnAddT | with_reducible apply Z.bnAddL | with_reducible apply Z.blLL | with_reducible apply Z.blLT | with_reducible apply Z.blMx | with_reducible apply Z.blMn | with_reducible apply Z.mtApp | with_reducible apply Z.mtExt | ((with_reducible apply Z.cGt); · rfl) | ((with_reducible apply Z.cGf); · rfl) | ((with_reducible apply Z.gFrz); rfl) | ((with_reducible apply Z.gEqE); rfl) | ((with_reducible apply Z.gEqX); rfl) | ((with_reducible apply Z.gEqB); rfl) | ((with_reducible apply Z.gGet); rfl) | ((with_reducible apply Z.gAsg); rfl) | ((with_reducible apply Z.gWipe); rfl) | ((with_reducible apply Z.gGlo); rfl) | ((with_reducible apply Z.szL); rfl) | ((with_reducible apply Z.gIn) <;> first | rfl | ((with_reducible apply Z.gIn1); rfl)))
  exact lcS (ρ' := [.val (.tuple (E.map encE)), g, .val (.int sp), t, .no, .val (.int e.1), .val (.int e.2.1), .val (.int e.2.2), .no, .no]) rfl h1 h2 rfl
end
theorem rows_outs {E : List Ed} {T : Tm} {sp : Nat} : rows E T sp = (outs E sp).map fun e => (T e.2.1).map (· + e.2.2) := rfl
theorem run_longest {E : List Ed} {gl : List Nat} {n : Nat} (hz : E.length ≤ 1000) (hE : In n E) : ∀ (t k : Nat) (sp : Nat) (s : DS), t < k → callT Gf tab k "_law_longest" [.val (.tuple (E.map encE)), .val (.tuple (gl.map fun g => PyData.int (g : Nat))), .val (.int sp), .val (.int t)] s = some (.val (encO (longest E (goalOf gl) t sp)), s) := by
  have hl : (E.map encE).length ≤ sizeLine := by rw [List.length_map]; exact Nat.le_trans hz (by decide)
  have ho : ∀ sp, ((outs E sp).map encR).length ≤ sizeLine := fun sp => by
    rw [List.length_map]; exact Nat.le_trans (List.length_filter_le _ _) (Nat.le_trans hz (by decide))
  intro t
  induction t with
  | zero =>
    intro k sp s hk
    obtain ⟨k, rfl⟩ : ∃ j, k = j + 1 := ⟨k - 1, by omega⟩
    rw [call_longest]
    refine dRt rfl rfl ?_
    unfold ir__law_longest
    unfold longest goalOf
    by_cases c : sp ∈ gl
    · have mm : evCmp .mem (.int sp) (.tuple (gl.map fun g => PyData.int (g : Nat))) = some true := by rw [memI, decide_eq_true c]
      rw [if_pos (by simpa using c)]
      (repeat first | with_reducible exact mm | with_reducible exact Z.gSo | with_reducible exact Z.rCs | with_reducible exact Z.rCi | with_reducible exact Z.rCb | with_reducible exact Z.rCn | with_reducible exact Z.rF | with_reducible exact Z.srV | with_reducible exact Z.iaV | with_reducible exact Z.iaF | with_reducible exact Z.iaA | with_reducible exact Z.srO | with_reducible exact Z.srH | with_reducible exact Z.srF | with_reducible exact Z.daV | with_reducible exact Z.daF | with_reducible exact Z.daA | with_reducible exact Z.slV | with_reducible exact Z.slF | with_reducible exact Z.slH | with_reducible exact Z.slFn | with_reducible exact Z.emV | with_reducible exact Z.emF | with_reducible exact Z.ebN | with_reducible exact Z.reV | with_reducible exact Z.reF | with_reducible exact Z.reA | with_reducible exact Z.agN | with_reducible exact Z.arV | with_reducible exact Z.arF | with_reducible exact Z.arA | with_reducible exact Z.arH | with_reducible exact Z.arFn | with_reducible exact Z.inB | with_reducible exact Z.inI | with_reducible exact Z.inN | with_reducible exact Z.trB | with_reducible exact Z.trI | with_reducible exact Z.trL | with_reducible exact Z.trT | with_reducible exact Z.trN | with_reducible exact Z.bnAdd | with_reducible exact Z.bnSub | with_reducible exact Z.cpLt | with_reducible exact Z.cpLe | with_reducible exact Z.cpGt | with_reducible exact Z.cpGe | with_reducible exact Z.cpIs | with_reducible exact Z.cpNo | with_reducible exact Z.cEqI | with_reducible exact Z.cNeI | with_reducible exact Z.cEqB | with_reducible exact Z.cNeB | with_reducible exact Z.sqL | with_reducible exact Z.sqT | with_reducible exact Z.ix0 | with_reducible exact Z.ix1 | with_reducible exact Z.ix2 | with_reducible exact Z.ix3 | with_reducible exact Z.ix4 | with_reducible exact Z.rNil | with_reducible exact Z.rTsN | with_reducible exact Z.rOn | with_reducible exact Z.ssN | with_reducible exact Z.coR | with_reducible exact Z.coC | with_reducible exact Z.coB | with_reducible exact Z.sRetN | with_reducible exact Z.sCont | with_reducible exact Z.sBrk | with_reducible exact Z.sPass | with_reducible apply Z.ebC | with_reducible apply Z.agC | with_reducible apply Z.rV | with_reducible apply Z.rG | with_reducible apply Z.ssF | with_reducible apply Z.ssC | with_reducible apply Z.coN | with_reducible apply Z.sRet | with_reducible apply Z.sIf | with_reducible apply Z.cT | with_reducible apply Z.cF | with_reducible apply Z.sAsg | with_reducible apply Z.sAsgT | with_reducible apply Z.sPar | with_reducible apply Z.sPar3 | with_reducible apply Z.sExpr | with_reducible apply Z.sMeth | with_reducible apply Z.sSetix | with_reducible apply Z.sAugA | with_reducible apply Z.sAugS | with_reducible apply Z.rTe | with_reducible apply Z.rTnot | with_reducible apply Z.rTand | with_reducible apply Z.rTor | with_reducible apply Z.rTsC | with_reducible apply Z.rCons | with_reducible apply Z.rCmp | with_reducible apply Z.rBin | with_reducible apply Z.rIx | with_reducible apply Z.rSl | with_reducible apply Z.rOs | with_reducible apply Z.rNeg | with_reducible apply Z.rNot | with_reducible apply Z.rAnd | with_reducible apply Z.rOr | with_reducible apply Z.rIte | with_reducible apply Z.rCall | with_reducible apply Z.rCallV | with_reducible apply Z.rBlt | with_reducible apply Z.rIsi | with_reducible apply Z.rTup | with_reducible apply Z.rLst | with_reducible apply Z.rRange | with_reducible apply Z.rSeq | with_reducible apply Z.rEnum | with_reducible apply Z.bnAddT | with_reducible apply Z.bnAddL | with_reducible apply Z.blLL | with_reducible apply Z.blLT | with_reducible apply Z.blMx | with_reducible apply Z.blMn | with_reducible apply Z.mtApp | with_reducible apply Z.mtExt | ((with_reducible apply Z.cGt); · rfl) | ((with_reducible apply Z.cGf); · rfl) | ((with_reducible apply Z.gFrz); rfl) | ((with_reducible apply Z.gEqE); rfl) | ((with_reducible apply Z.gEqX); rfl) | ((with_reducible apply Z.gEqB); rfl) | ((with_reducible apply Z.gGet); rfl) | ((with_reducible apply Z.gAsg); rfl) | ((with_reducible apply Z.gWipe); rfl) | ((with_reducible apply Z.gGlo); rfl) | ((with_reducible apply Z.szL); rfl) | ((with_reducible apply Z.gIn) <;> first | rfl | ((with_reducible apply Z.gIn1); rfl)))
      all_goals rfl
    · have mm : evCmp .mem (.int sp) (.tuple (gl.map fun g => PyData.int (g : Nat))) = some false := by rw [memI, decide_eq_false c]
      rw [if_neg (by simpa using c)]
      have lp := @lpR (callT Gf tab k) E s (.val (.tuple (gl.map fun g => PyData.int (g : Nat)))) sp (.val (.int (0 : Nat)))
      have z : evCmp .eq (.int ((0 : Nat) : Int)) (.int 0) = some true := iEqT rfl
      cases d : (outs E sp).isEmpty with
      | true =>
        have e := eqNil (outs E sp)
        rw [d] at e
        (repeat first | with_reducible exact mm | with_reducible exact hl | with_reducible exact e | with_reducible exact z | with_reducible apply Z.rLc (h4 := lp) | with_reducible exact Z.gSo | with_reducible exact Z.rCs | with_reducible exact Z.rCi | with_reducible exact Z.rCb | with_reducible exact Z.rCn | with_reducible exact Z.rF | with_reducible exact Z.srV | with_reducible exact Z.iaV | with_reducible exact Z.iaF | with_reducible exact Z.iaA | with_reducible exact Z.srO | with_reducible exact Z.srH | with_reducible exact Z.srF | with_reducible exact Z.daV | with_reducible exact Z.daF | with_reducible exact Z.daA | with_reducible exact Z.slV | with_reducible exact Z.slF | with_reducible exact Z.slH | with_reducible exact Z.slFn | with_reducible exact Z.emV | with_reducible exact Z.emF | with_reducible exact Z.ebN | with_reducible exact Z.reV | with_reducible exact Z.reF | with_reducible exact Z.reA | with_reducible exact Z.agN | with_reducible exact Z.arV | with_reducible exact Z.arF | with_reducible exact Z.arA | with_reducible exact Z.arH | with_reducible exact Z.arFn | with_reducible exact Z.inB | with_reducible exact Z.inI | with_reducible exact Z.inN | with_reducible exact Z.trB | with_reducible exact Z.trI | with_reducible exact Z.trL | with_reducible exact Z.trT | with_reducible exact Z.trN | with_reducible exact Z.bnAdd | with_reducible exact Z.bnSub | with_reducible exact Z.cpLt | with_reducible exact Z.cpLe | with_reducible exact Z.cpGt | with_reducible exact Z.cpGe | with_reducible exact Z.cpIs | with_reducible exact Z.cpNo | with_reducible exact Z.cEqI | with_reducible exact Z.cNeI | with_reducible exact Z.cEqB | with_reducible exact Z.cNeB | with_reducible exact Z.sqL | with_reducible exact Z.sqT | with_reducible exact Z.ix0 | with_reducible exact Z.ix1 | with_reducible exact Z.ix2 | with_reducible exact Z.ix3 | with_reducible exact Z.ix4 | with_reducible exact Z.rNil | with_reducible exact Z.rTsN | with_reducible exact Z.rOn | with_reducible exact Z.ssN | with_reducible exact Z.coR | with_reducible exact Z.coC | with_reducible exact Z.coB | with_reducible exact Z.sRetN | with_reducible exact Z.sCont | with_reducible exact Z.sBrk | with_reducible exact Z.sPass | with_reducible apply Z.ebC | with_reducible apply Z.agC | with_reducible apply Z.rV | with_reducible apply Z.rG | with_reducible apply Z.ssF | with_reducible apply Z.ssC | with_reducible apply Z.coN | with_reducible apply Z.sRet | with_reducible apply Z.sIf | with_reducible apply Z.cT | with_reducible apply Z.cF | with_reducible apply Z.sAsg | with_reducible apply Z.sAsgT | with_reducible apply Z.sPar | with_reducible apply Z.sPar3 | with_reducible apply Z.sExpr | with_reducible apply Z.sMeth | with_reducible apply Z.sSetix | with_reducible apply Z.sAugA | with_reducible apply Z.sAugS | with_reducible apply Z.rTe | with_reducible apply Z.rTnot | with_reducible apply Z.rTand | with_reducible apply Z.rTor | with_reducible apply Z.rTsC | with_reducible apply Z.rCons | with_reducible apply Z.rCmp | with_reducible apply Z.rBin | with_reducible apply Z.rIx | with_reducible apply Z.rSl | with_reducible apply Z.rOs | with_reducible apply Z.rNeg | with_reducible apply Z.rNot | with_reducible apply Z.rAnd | with_reducible apply Z.rOr | with_reducible apply Z.rIte | with_reducible apply Z.rCall | with_reducible apply Z.rCallV | with_reducible apply Z.rBlt | with_reducible apply Z.rIsi | with_reducible apply Z.rTup | with_reducible apply Z.rLst | with_reducible apply Z.rRange | with_reducible apply Z.rSeq | with_reducible apply Z.rEnum | with_reducible apply Z.bnAddT | with_reducible apply Z.bnAddL | with_reducible apply Z.blLL | with_reducible apply Z.blLT | with_reducible apply Z.blMx | with_reducible apply Z.blMn | with_reducible apply Z.mtApp | with_reducible apply Z.mtExt | ((with_reducible apply Z.cGt); · rfl) | ((with_reducible apply Z.cGf); · rfl) | ((with_reducible apply Z.gFrz); rfl) | ((with_reducible apply Z.gEqE); rfl) | ((with_reducible apply Z.gEqX); rfl) | ((with_reducible apply Z.gEqB); rfl) | ((with_reducible apply Z.gGet); rfl) | ((with_reducible apply Z.gAsg); rfl) | ((with_reducible apply Z.gWipe); rfl) | ((with_reducible apply Z.gGlo); rfl) | ((with_reducible apply Z.szL); rfl) | ((with_reducible apply Z.gIn) <;> first | rfl | ((with_reducible apply Z.gIn1); rfl)))
        all_goals first | rfl | exact lp
      | false =>
        have e := eqNil (outs E sp)
        rw [d] at e
        (repeat first | with_reducible exact mm | with_reducible exact hl | with_reducible exact e | with_reducible exact z | with_reducible apply Z.rLc (h4 := lp) | with_reducible exact Z.gSo | with_reducible exact Z.rCs | with_reducible exact Z.rCi | with_reducible exact Z.rCb | with_reducible exact Z.rCn | with_reducible exact Z.rF | with_reducible exact Z.srV | with_reducible exact Z.iaV | with_reducible exact Z.iaF | with_reducible exact Z.iaA | with_reducible exact Z.srO | with_reducible exact Z.srH | with_reducible exact Z.srF | with_reducible exact Z.daV | with_reducible exact Z.daF | with_reducible exact Z.daA | with_reducible exact Z.slV | with_reducible exact Z.slF | with_reducible exact Z.slH | with_reducible exact Z.slFn | with_reducible exact Z.emV | with_reducible exact Z.emF | with_reducible exact Z.ebN | with_reducible exact Z.reV | with_reducible exact Z.reF | with_reducible exact Z.reA | with_reducible exact Z.agN | with_reducible exact Z.arV | with_reducible exact Z.arF | with_reducible exact Z.arA | with_reducible exact Z.arH | with_reducible exact Z.arFn | with_reducible exact Z.inB | with_reducible exact Z.inI | with_reducible exact Z.inN | with_reducible exact Z.trB | with_reducible exact Z.trI | with_reducible exact Z.trL | with_reducible exact Z.trT | with_reducible exact Z.trN | with_reducible exact Z.bnAdd | with_reducible exact Z.bnSub | with_reducible exact Z.cpLt | with_reducible exact Z.cpLe | with_reducible exact Z.cpGt | with_reducible exact Z.cpGe | with_reducible exact Z.cpIs | with_reducible exact Z.cpNo | with_reducible exact Z.cEqI | with_reducible exact Z.cNeI | with_reducible exact Z.cEqB | with_reducible exact Z.cNeB | with_reducible exact Z.sqL | with_reducible exact Z.sqT | with_reducible exact Z.ix0 | with_reducible exact Z.ix1 | with_reducible exact Z.ix2 | with_reducible exact Z.ix3 | with_reducible exact Z.ix4 | with_reducible exact Z.rNil | with_reducible exact Z.rTsN | with_reducible exact Z.rOn | with_reducible exact Z.ssN | with_reducible exact Z.coR | with_reducible exact Z.coC | with_reducible exact Z.coB | with_reducible exact Z.sRetN | with_reducible exact Z.sCont | with_reducible exact Z.sBrk | with_reducible exact Z.sPass | with_reducible apply Z.ebC | with_reducible apply Z.agC | with_reducible apply Z.rV | with_reducible apply Z.rG | with_reducible apply Z.ssF | with_reducible apply Z.ssC | with_reducible apply Z.coN | with_reducible apply Z.sRet | with_reducible apply Z.sIf | with_reducible apply Z.cT | with_reducible apply Z.cF | with_reducible apply Z.sAsg | with_reducible apply Z.sAsgT | with_reducible apply Z.sPar | with_reducible apply Z.sPar3 | with_reducible apply Z.sExpr | with_reducible apply Z.sMeth | with_reducible apply Z.sSetix | with_reducible apply Z.sAugA | with_reducible apply Z.sAugS | with_reducible apply Z.rTe | with_reducible apply Z.rTnot | with_reducible apply Z.rTand | with_reducible apply Z.rTor | with_reducible apply Z.rTsC | with_reducible apply Z.rCons | with_reducible apply Z.rCmp | with_reducible apply Z.rBin | with_reducible apply Z.rIx | with_reducible apply Z.rSl | with_reducible apply Z.rOs | with_reducible apply Z.rNeg | with_reducible apply Z.rNot | with_reducible apply Z.rAnd | with_reducible apply Z.rOr | with_reducible apply Z.rIte | with_reducible apply Z.rCall | with_reducible apply Z.rCallV | with_reducible apply Z.rBlt | with_reducible apply Z.rIsi | with_reducible apply Z.rTup | with_reducible apply Z.rLst | with_reducible apply Z.rRange | with_reducible apply Z.rSeq | with_reducible apply Z.rEnum | with_reducible apply Z.bnAddT | with_reducible apply Z.bnAddL | with_reducible apply Z.blLL | with_reducible apply Z.blLT | with_reducible apply Z.blMx | with_reducible apply Z.blMn | with_reducible apply Z.mtApp | with_reducible apply Z.mtExt | ((with_reducible apply Z.cGt); · rfl) | ((with_reducible apply Z.cGf); · rfl) | ((with_reducible apply Z.gFrz); rfl) | ((with_reducible apply Z.gEqE); rfl) | ((with_reducible apply Z.gEqX); rfl) | ((with_reducible apply Z.gEqB); rfl) | ((with_reducible apply Z.gGet); rfl) | ((with_reducible apply Z.gAsg); rfl) | ((with_reducible apply Z.gWipe); rfl) | ((with_reducible apply Z.gGlo); rfl) | ((with_reducible apply Z.szL); rfl) | ((with_reducible apply Z.gIn) <;> first | rfl | ((with_reducible apply Z.gIn1); rfl)))
        all_goals first | rfl | exact lp
  | succ t ih =>
    intro k sp s hk
    obtain ⟨k, rfl⟩ : ∃ j, k = j + 1 := ⟨k - 1, by omega⟩
    rw [call_longest]
    refine dRt rfl rfl ?_
    unfold ir__law_longest
    unfold longest
    by_cases c : sp ∈ gl
    · have mm : evCmp .mem (.int sp) (.tuple (gl.map fun g => PyData.int (g : Nat))) = some true := by rw [memI, decide_eq_true c]
      rw [if_pos (by simpa [goalOf] using c)]
      (repeat first | with_reducible exact mm | with_reducible exact Z.gSo | with_reducible exact Z.rCs | with_reducible exact Z.rCi | with_reducible exact Z.rCb | with_reducible exact Z.rCn | with_reducible exact Z.rF | with_reducible exact Z.srV | with_reducible exact Z.iaV | with_reducible exact Z.iaF | with_reducible exact Z.iaA | with_reducible exact Z.srO | with_reducible exact Z.srH | with_reducible exact Z.srF | with_reducible exact Z.daV | with_reducible exact Z.daF | with_reducible exact Z.daA | with_reducible exact Z.slV | with_reducible exact Z.slF | with_reducible exact Z.slH | with_reducible exact Z.slFn | with_reducible exact Z.emV | with_reducible exact Z.emF | with_reducible exact Z.ebN | with_reducible exact Z.reV | with_reducible exact Z.reF | with_reducible exact Z.reA | with_reducible exact Z.agN | with_reducible exact Z.arV | with_reducible exact Z.arF | with_reducible exact Z.arA | with_reducible exact Z.arH | with_reducible exact Z.arFn | with_reducible exact Z.inB | with_reducible exact Z.inI | with_reducible exact Z.inN | with_reducible exact Z.trB | with_reducible exact Z.trI | with_reducible exact Z.trL | with_reducible exact Z.trT | with_reducible exact Z.trN | with_reducible exact Z.bnAdd | with_reducible exact Z.bnSub | with_reducible exact Z.cpLt | with_reducible exact Z.cpLe | with_reducible exact Z.cpGt | with_reducible exact Z.cpGe | with_reducible exact Z.cpIs | with_reducible exact Z.cpNo | with_reducible exact Z.cEqI | with_reducible exact Z.cNeI | with_reducible exact Z.cEqB | with_reducible exact Z.cNeB | with_reducible exact Z.sqL | with_reducible exact Z.sqT | with_reducible exact Z.ix0 | with_reducible exact Z.ix1 | with_reducible exact Z.ix2 | with_reducible exact Z.ix3 | with_reducible exact Z.ix4 | with_reducible exact Z.rNil | with_reducible exact Z.rTsN | with_reducible exact Z.rOn | with_reducible exact Z.ssN | with_reducible exact Z.coR | with_reducible exact Z.coC | with_reducible exact Z.coB | with_reducible exact Z.sRetN | with_reducible exact Z.sCont | with_reducible exact Z.sBrk | with_reducible exact Z.sPass | with_reducible apply Z.ebC | with_reducible apply Z.agC | with_reducible apply Z.rV | with_reducible apply Z.rG | with_reducible apply Z.ssF | with_reducible apply Z.ssC | with_reducible apply Z.coN | with_reducible apply Z.sRet | with_reducible apply Z.sIf | with_reducible apply Z.cT | with_reducible apply Z.cF | with_reducible apply Z.sAsg | with_reducible apply Z.sAsgT | with_reducible apply Z.sPar | with_reducible apply Z.sPar3 | with_reducible apply Z.sExpr | with_reducible apply Z.sMeth | with_reducible apply Z.sSetix | with_reducible apply Z.sAugA | with_reducible apply Z.sAugS | with_reducible apply Z.rTe | with_reducible apply Z.rTnot | with_reducible apply Z.rTand | with_reducible apply Z.rTor | with_reducible apply Z.rTsC | with_reducible apply Z.rCons | with_reducible apply Z.rCmp | with_reducible apply Z.rBin | with_reducible apply Z.rIx | with_reducible apply Z.rSl | with_reducible apply Z.rOs | with_reducible apply Z.rNeg | with_reducible apply Z.rNot | with_reducible apply Z.rAnd | with_reducible apply Z.rOr | with_reducible apply Z.rIte | with_reducible apply Z.rCall | with_reducible apply Z.rCallV | with_reducible apply Z.rBlt | with_reducible apply Z.rIsi | with_reducible apply Z.rTup | with_reducible apply Z.rLst | with_reducible apply Z.rRange | with_reducible apply Z.rSeq | with_reducible apply Z.rEnum | with_reducible apply Z.bnAddT | with_reducible apply Z.bnAddL | with_reducible apply Z.blLL | with_reducible apply Z.blLT | with_reducible apply Z.blMx | with_reducible apply Z.blMn | with_reducible apply Z.mtApp | with_reducible apply Z.mtExt | ((with_reducible apply Z.cGt); · rfl) | ((with_reducible apply Z.cGf); · rfl) | ((with_reducible apply Z.gFrz); rfl) | ((with_reducible apply Z.gEqE); rfl) | ((with_reducible apply Z.gEqX); rfl) | ((with_reducible apply Z.gEqB); rfl) | ((with_reducible apply Z.gGet); rfl) | ((with_reducible apply Z.gAsg); rfl) | ((with_reducible apply Z.gWipe); rfl) | ((with_reducible apply Z.gGlo); rfl) | ((with_reducible apply Z.szL); rfl) | ((with_reducible apply Z.gIn) <;> first | rfl | ((with_reducible apply Z.gIn1); rfl)))
      all_goals rfl
    · have mm : evCmp .mem (.int sp) (.tuple (gl.map fun g => PyData.int (g : Nat))) = some false := by rw [memI, decide_eq_false c]
      rw [if_neg (by simpa [goalOf] using c)]
      have lp := @lpR (callT Gf tab k) E s (.val (.tuple (gl.map fun g => PyData.int (g : Nat)))) sp (.val (.int ((t + 1 : Nat) : Int)))
      have z : evCmp .eq (.int ((t + 1 : Nat) : Int)) (.int 0) = some false := iEqF (by omega)
      cases d : (outs E sp).isEmpty with
      | true =>
        have e := eqNil (outs E sp)
        rw [d] at e
        have r0 : rows E (longest E (goalOf gl) t) sp = [] := by rw [rows_outs, List.isEmpty_iff.mp d]; rfl
        rw [r0]
        (repeat first | with_reducible exact mm | with_reducible exact hl | with_reducible exact e | with_reducible exact z | with_reducible apply Z.rLc (h4 := lp) | with_reducible exact Z.gSo | with_reducible exact Z.rCs | with_reducible exact Z.rCi | with_reducible exact Z.rCb | with_reducible exact Z.rCn | with_reducible exact Z.rF | with_reducible exact Z.srV | with_reducible exact Z.iaV | with_reducible exact Z.iaF | with_reducible exact Z.iaA | with_reducible exact Z.srO | with_reducible exact Z.srH | with_reducible exact Z.srF | with_reducible exact Z.daV | with_reducible exact Z.daF | with_reducible exact Z.daA | with_reducible exact Z.slV | with_reducible exact Z.slF | with_reducible exact Z.slH | with_reducible exact Z.slFn | with_reducible exact Z.emV | with_reducible exact Z.emF | with_reducible exact Z.ebN | with_reducible exact Z.reV | with_reducible exact Z.reF | with_reducible exact Z.reA | with_reducible exact Z.agN | with_reducible exact Z.arV | with_reducible exact Z.arF | with_reducible exact Z.arA | with_reducible exact Z.arH | with_reducible exact Z.arFn | with_reducible exact Z.inB | with_reducible exact Z.inI | with_reducible exact Z.inN | with_reducible exact Z.trB | with_reducible exact Z.trI | with_reducible exact Z.trL | with_reducible exact Z.trT | with_reducible exact Z.trN | with_reducible exact Z.bnAdd | with_reducible exact Z.bnSub | with_reducible exact Z.cpLt | with_reducible exact Z.cpLe | with_reducible exact Z.cpGt | with_reducible exact Z.cpGe | with_reducible exact Z.cpIs | with_reducible exact Z.cpNo | with_reducible exact Z.cEqI | with_reducible exact Z.cNeI | with_reducible exact Z.cEqB | with_reducible exact Z.cNeB | with_reducible exact Z.sqL | with_reducible exact Z.sqT | with_reducible exact Z.ix0 | with_reducible exact Z.ix1 | with_reducible exact Z.ix2 | with_reducible exact Z.ix3 | with_reducible exact Z.ix4 | with_reducible exact Z.rNil | with_reducible exact Z.rTsN | with_reducible exact Z.rOn | with_reducible exact Z.ssN | with_reducible exact Z.coR | with_reducible exact Z.coC | with_reducible exact Z.coB | with_reducible exact Z.sRetN | with_reducible exact Z.sCont | with_reducible exact Z.sBrk | with_reducible exact Z.sPass | with_reducible apply Z.ebC | with_reducible apply Z.agC | with_reducible apply Z.rV | with_reducible apply Z.rG | with_reducible apply Z.ssF | with_reducible apply Z.ssC | with_reducible apply Z.coN | with_reducible apply Z.sRet | with_reducible apply Z.sIf | with_reducible apply Z.cT | with_reducible apply Z.cF | with_reducible apply Z.sAsg | with_reducible apply Z.sAsgT | with_reducible apply Z.sPar | with_reducible apply Z.sPar3 | with_reducible apply Z.sExpr | with_reducible apply Z.sMeth | with_reducible apply Z.sSetix | with_reducible apply Z.sAugA | with_reducible apply Z.sAugS | with_reducible apply Z.rTe | with_reducible apply Z.rTnot | with_reducible apply Z.rTand | with_reducible apply Z.rTor | with_reducible apply Z.rTsC | with_reducible apply Z.rCons | with_reducible apply Z.rCmp | with_reducible apply Z.rBin | with_reducible apply Z.rIx | with_reducible apply Z.rSl | with_reducible apply Z.rOs | with_reducible apply Z.rNeg | with_reducible apply Z.rNot | with_reducible apply Z.rAnd | with_reducible apply Z.rOr | with_reducible apply Z.rIte | with_reducible apply Z.rCall | with_reducible apply Z.rCallV | with_reducible apply Z.rBlt | with_reducible apply Z.rIsi | with_reducible apply Z.rTup | with_reducible apply Z.rLst | with_reducible apply Z.rRange | with_reducible apply Z.rSeq | with_reducible apply Z.rEnum | with_reducible apply Z.bnAddT | with_reducible apply Z.bnAddL | with_reducible apply Z.blLL | with_reducible apply Z.blLT | with_reducible apply Z.blMx | with_reducible apply Z.blMn | with_reducible apply Z.mtApp | with_reducible apply Z.mtExt | ((with_reducible apply Z.cGt); · rfl) | ((with_reducible apply Z.cGf); · rfl) | ((with_reducible apply Z.gFrz); rfl) | ((with_reducible apply Z.gEqE); rfl) | ((with_reducible apply Z.gEqX); rfl) | ((with_reducible apply Z.gEqB); rfl) | ((with_reducible apply Z.gGet); rfl) | ((with_reducible apply Z.gAsg); rfl) | ((with_reducible apply Z.gWipe); rfl) | ((with_reducible apply Z.gGlo); rfl) | ((with_reducible apply Z.szL); rfl) | ((with_reducible apply Z.gIn) <;> first | rfl | ((with_reducible apply Z.gIn1); rfl)))
        all_goals first | rfl | exact lp
      | false =>
        have e := eqNil (outs E sp)
        rw [d] at e
        have hne : outs E sp ≠ [] := fun q => by rw [q] at d; cases d
        generalize hT : longest E (goalOf gl) t = T
        have ih : ∀ e : Ed, callT Gf tab k "_law_longest" [.val (.tuple (E.map encE)), .val (.tuple (gl.map fun g => PyData.int (g : Nat))), .val (.int e.2.1), .val (.int (((t + 1 : Nat) : Int) - 1))] s = some (.val (encO (T e.2.1)), s) := fun e => by
          rw [show ((t + 1 : Nat) : Int) - 1 = (t : Int) by omega, ← hT]
          exact ih k e.2.1 s (by omega)
        have hlen : ∀ f : Ed → PyData, ((outs E sp).map f).length ≤ sizeLine := fun f => by
          rw [List.length_map]; exact Nat.le_trans (List.length_filter_le _ _) (Nat.le_trans hz (by decide))
        have lp8 : lcLoop (lcSt (callT Gf tab k) Gf (.tup (.cons (.call "_law_longest" (.cons (.var 0) (.cons (.var 1) (.cons (.var 6) (.cons (.bin .sub (.var 3) (.cst (.int 1))) .nil))))) (.cons (.var 7) .nil))) (.tup (.cons (.name 6) (.cons (.name 7) .nil))) .nil [.val (.tuple (E.map encE)), .val (.tuple (gl.map fun g => PyData.int (g : Nat))), .val (.int sp), .val (.int ((t + 1 : Nat) : Int)), .own ((outs E sp).map encR), .no, .no, .no, .no, .no]) ((outs E sp).map encR) s = some ((outs E sp).map (fun e => PyData.tuple [encO (T e.2.1), .int e.2.2]), s) := by
          refine lc_map fun e _ => ?_
          have q : evE (callT Gf tab k) Gf (.tup (.cons (.call "_law_longest" (.cons (.var 0) (.cons (.var 1) (.cons (.var 6) (.cons (.bin .sub (.var 3) (.cst (.int 1))) .nil))))) (.cons (.var 7) .nil))) [.val (.tuple (E.map encE)), .val (.tuple (gl.map fun g => PyData.int (g : Nat))), .val (.int sp), .val (.int ((t + 1 : Nat) : Int)), .own ((outs E sp).map encR), .no, .val (.int e.2.1), .val (.int e.2.2), .no, .no] s = some (.val (.tuple [encO (T e.2.1), .int e.2.2]), s) := by
            (repeat first | with_reducible exact ih e | with_reducible exact Z.gSo | with_reducible exact Z.rCs | with_reducible exact Z.rCi | with_reducible exact Z.rCb | with_reducible exact Z.rCn | with_reducible exact Z.rF | with_reducible exact Z.srV | with_reducible exact Z.iaV | with_reducible exact Z.iaF | with_reducible exact Z.iaA | with_reducible exact Z.srO | with_reducible exact Z.srH | with_reducible exact Z.srF | with_reducible exact Z.daV | with_reducible exact Z.daF | with_reducible exact Z.daA | with_reducible exact Z.slV | with_reducible exact Z.slF | with_reducible exact Z.slH | with_reducible exact Z.slFn | with_reducible exact Z.emV | with_reducible exact Z.emF | with_reducible exact Z.ebN | with_reducible exact Z.reV | with_reducible exact Z.reF | with_reducible exact Z.reA | with_reducible exact Z.agN | with_reducible exact Z.arV | with_reducible exact Z.arF | with_reducible exact Z.arA | with_reducible exact Z.arH | with_reducible exact Z.arFn | with_reducible exact Z.inB | with_reducible exact Z.inI | with_reducible exact Z.inN | with_reducible exact Z.trB | with_reducible exact Z.trI | with_reducible exact Z.trL | with_reducible exact Z.trT | with_reducible exact Z.trN | with_reducible exact Z.bnAdd | with_reducible exact Z.bnSub | with_reducible exact Z.cpLt | with_reducible exact Z.cpLe | with_reducible exact Z.cpGt | with_reducible exact Z.cpGe | with_reducible exact Z.cpIs | with_reducible exact Z.cpNo | with_reducible exact Z.cEqI | with_reducible exact Z.cNeI | with_reducible exact Z.cEqB | with_reducible exact Z.cNeB | with_reducible exact Z.sqL | with_reducible exact Z.sqT | with_reducible exact Z.ix0 | with_reducible exact Z.ix1 | with_reducible exact Z.ix2 | with_reducible exact Z.ix3 | with_reducible exact Z.ix4 | with_reducible exact Z.rNil | with_reducible exact Z.rTsN | with_reducible exact Z.rOn | with_reducible exact Z.ssN | with_reducible exact Z.coR | with_reducible exact Z.coC | with_reducible exact Z.coB | with_reducible exact Z.sRetN | with_reducible exact Z.sCont | with_reducible exact Z.sBrk | with_reducible exact Z.sPass | with_reducible apply Z.ebC | with_reducible apply Z.agC | with_reducible apply Z.rV | with_reducible apply Z.rG | with_reducible apply Z.ssF | with_reducible apply Z.ssC | with_reducible apply Z.coN | with_reducible apply Z.sRet | with_reducible apply Z.sIf | with_reducible apply Z.cT | with_reducible apply Z.cF | with_reducible apply Z.sAsg | with_reducible apply Z.sAsgT | with_reducible apply Z.sPar | with_reducible apply Z.sPar3 | with_reducible apply Z.sExpr | with_reducible apply Z.sMeth | with_reducible apply Z.sSetix | with_reducible apply Z.sAugA | with_reducible apply Z.sAugS | with_reducible apply Z.rTe | with_reducible apply Z.rTnot | with_reducible apply Z.rTand | with_reducible apply Z.rTor | with_reducible apply Z.rTsC | with_reducible apply Z.rCons | with_reducible apply Z.rCmp | with_reducible apply Z.rBin | with_reducible apply Z.rIx | with_reducible apply Z.rSl | with_reducible apply Z.rOs | with_reducible apply Z.rNeg | with_reducible apply Z.rNot | with_reducible apply Z.rAnd | with_reducible apply Z.rOr | with_reducible apply Z.rIte | with_reducible apply Z.rCall | with_reducible apply Z.rCallV | with_reducible apply Z.rBlt | with_reducible apply Z.rIsi | with_reducible apply Z.rTup | with_reducible apply Z.rLst | with_reducible apply Z.rRange | with_reducible apply Z.rSeq | with_reducible apply Z.rEnum | with_reducible apply Z.bnAddT | with_reducible apply Z.bnAddL | with_reducible apply Z.blLL | with_reducible apply Z.blLT | with_reducible apply Z.blMx | with_reducible apply Z.blMn | with_reducible apply Z.mtApp | with_reducible apply Z.mtExt | ((with_reducible apply Z.cGt); · rfl) | ((with_reducible apply Z.cGf); · rfl) | ((with_reducible apply Z.gFrz); rfl) | ((with_reducible apply Z.gEqE); rfl) | ((with_reducible apply Z.gEqX); rfl) | ((with_reducible apply Z.gEqB); rfl) | ((with_reducible apply Z.gGet); rfl) | ((with_reducible apply Z.gAsg); rfl) | ((with_reducible apply Z.gWipe); rfl) | ((with_reducible apply Z.gGlo); rfl) | ((with_reducible apply Z.szL); rfl) | ((with_reducible apply Z.gIn) <;> first | rfl | ((with_reducible apply Z.gIn1); rfl)))
          have := lcS (F := callT Gf tab k) (G := Gf) (c := true) (ifs := .nil) (tg := .tup (.cons (.name 6) (.cons (.name 7) .nil))) (x := encR e) (ρ := [.val (.tuple (E.map encE)), .val (.tuple (gl.map fun g => PyData.int (g : Nat))), .val (.int sp), .val (.int ((t + 1 : Nat) : Int)), .own ((outs E sp).map encR), .no, .no, .no, .no, .no]) (ρ' := [.val (.tuple (E.map encE)), .val (.tuple (gl.map fun g => PyData.int (g : Nat))), .val (.int sp), .val (.int ((t + 1 : Nat) : Int)), .own ((outs E sp).map encR), .no, .val (.int e.2.1), .val (.int e.2.2), .no, .no]) rfl rTsN q rfl
          simpa using this
        have lp9 : lcLoop (lcSt (callT Gf tab k) Gf (.var 9) (.tup (.cons (.name 9) (.cons (.name 7) .nil))) .nil [.val (.tuple (E.map encE)), .val (.tuple (gl.map fun g => PyData.int (g : Nat))), .val (.int sp), .val (.int ((t + 1 : Nat) : Int)), .own ((outs E sp).map encR), .no, .no, .no, .own ((outs E sp).map (fun e => PyData.tuple [encO (T e.2.1), .int e.2.2])), .no]) ((outs E sp).map (fun e => PyData.tuple [encO (T e.2.1), .int e.2.2])) s = some (((outs E sp).map fun e => T e.2.1).map encO, s) := by
          rw [List.map_map]
          refine lc_map fun e _ => ?_
          have := lcS (F := callT Gf tab k) (G := Gf) (c := true) (e := .var 9) (ifs := .nil) (tg := .tup (.cons (.name 9) (.cons (.name 7) .nil))) (s := s) (s1 := s) (x := PyData.tuple [encO (T e.2.1), .int e.2.2]) (ρ := [.val (.tuple (E.map encE)), .val (.tuple (gl.map fun g => PyData.int (g : Nat))), .val (.int sp), .val (.int ((t + 1 : Nat) : Int)), .own ((outs E sp).map encR), .no, .no, .no, .own ((outs E sp).map (fun e => PyData.tuple [encO (T e.2.1), .int e.2.2])), .no]) (ρ' := [.val (.tuple (E.map encE)), .val (.tuple (gl.map fun g => PyData.int (g : Nat))), .val (.int sp), .val (.int ((t + 1 : Nat) : Int)), .own ((outs E sp).map encR), .no, .no, .val (.int e.2.2), .own ((outs E sp).map (fun e => PyData.tuple [encO (T e.2.1), .int e.2.2])), .val (encO (T e.2.1))]) rfl rTsN (rV rfl rfl) rfl
          simpa using this
        by_cases nn : none ∈ (outs E sp).map fun e => T e.2.1
        · have mn : evCmp .mem .none (.list (((outs E sp).map fun e => T e.2.1).map encO)) = some true := by rw [memN, decide_eq_true nn]
          have rn : maxO (rows E T sp) = none := by
            unfold maxO
            rw [if_pos]
            right
            obtain ⟨e, he, q⟩ := List.mem_map.mp nn
            rw [rows_outs]
            exact List.mem_map.mpr ⟨e, he, by rw [q]; rfl⟩
          rw [rn]
          (repeat first | with_reducible exact mm | with_reducible exact hl | with_reducible exact e | with_reducible exact z | with_reducible exact ho sp | with_reducible exact hlen _ | with_reducible exact mn | with_reducible apply Z.rLc (h4 := lp) | with_reducible apply Z.rLc (h4 := lp8) | with_reducible apply Z.rLc (h4 := lp9) | with_reducible exact Z.gSo | with_reducible exact Z.rCs | with_reducible exact Z.rCi | with_reducible exact Z.rCb | with_reducible exact Z.rCn | with_reducible exact Z.rF | with_reducible exact Z.srV | with_reducible exact Z.iaV | with_reducible exact Z.iaF | with_reducible exact Z.iaA | with_reducible exact Z.srO | with_reducible exact Z.srH | with_reducible exact Z.srF | with_reducible exact Z.daV | with_reducible exact Z.daF | with_reducible exact Z.daA | with_reducible exact Z.slV | with_reducible exact Z.slF | with_reducible exact Z.slH | with_reducible exact Z.slFn | with_reducible exact Z.emV | with_reducible exact Z.emF | with_reducible exact Z.ebN | with_reducible exact Z.reV | with_reducible exact Z.reF | with_reducible exact Z.reA | with_reducible exact Z.agN | with_reducible exact Z.arV | with_reducible exact Z.arF | with_reducible exact Z.arA | with_reducible exact Z.arH | with_reducible exact Z.arFn | with_reducible exact Z.inB | with_reducible exact Z.inI | with_reducible exact Z.inN | with_reducible exact Z.trB | with_reducible exact Z.trI | with_reducible exact Z.trL | with_reducible exact Z.trT | with_reducible exact Z.trN | with_reducible exact Z.bnAdd | with_reducible exact Z.bnSub | with_reducible exact Z.cpLt | with_reducible exact Z.cpLe | with_reducible exact Z.cpGt | with_reducible exact Z.cpGe | with_reducible exact Z.cpIs | with_reducible exact Z.cpNo | with_reducible exact Z.cEqI | with_reducible exact Z.cNeI | with_reducible exact Z.cEqB | with_reducible exact Z.cNeB | with_reducible exact Z.sqL | with_reducible exact Z.sqT | with_reducible exact Z.ix0 | with_reducible exact Z.ix1 | with_reducible exact Z.ix2 | with_reducible exact Z.ix3 | with_reducible exact Z.ix4 | with_reducible exact Z.rNil | with_reducible exact Z.rTsN | with_reducible exact Z.rOn | with_reducible exact Z.ssN | with_reducible exact Z.coR | with_reducible exact Z.coC | with_reducible exact Z.coB | with_reducible exact Z.sRetN | with_reducible exact Z.sCont | with_reducible exact Z.sBrk | with_reducible exact Z.sPass | with_reducible apply Z.ebC | with_reducible apply Z.agC | with_reducible apply Z.rV | with_reducible apply Z.rG | with_reducible apply Z.ssF | with_reducible apply Z.ssC | with_reducible apply Z.coN | with_reducible apply Z.sRet | with_reducible apply Z.sIf | with_reducible apply Z.cT | with_reducible apply Z.cF | with_reducible apply Z.sAsg | with_reducible apply Z.sAsgT | with_reducible apply Z.sPar | with_reducible apply Z.sPar3 | with_reducible apply Z.sExpr | with_reducible apply Z.sMeth | with_reducible apply Z.sSetix | with_reducible apply Z.sAugA | with_reducible apply Z.sAugS | with_reducible apply Z.rTe | with_reducible apply Z.rTnot | with_reducible apply Z.rTand | with_reducible apply Z.rTor | with_reducible apply Z.rTsC | with_reducible apply Z.rCons | with_reducible apply Z.rCmp | with_reducible apply Z.rBin | with_reducible apply Z.rIx | with_reducible apply Z.rSl | with_reducible apply Z.rOs | with_reducible apply Z.rNeg | with_reducible apply Z.rNot | with_reducible apply Z.rAnd | with_reducible apply Z.rOr | with_reducible apply Z.rIte | with_reducible apply Z.rCall | with_reducible apply Z.rCallV | with_reducible apply Z.rBlt | with_reducible apply Z.rIsi | with_reducible apply Z.rTup | with_reducible apply Z.rLst | with_reducible apply Z.rRange | with_reducible apply Z.rSeq | with_reducible apply Z.rEnum | with_reducible apply Z.bnAddT | with_reducible apply Z.bnAddL | with_reducible apply Z.blLL | with_reducible apply Z.blLT | with_reducible apply Z.blMx | with_reducible apply Z.blMn | with_reducible apply Z.mtApp | with_reducible apply Z.mtExt | ((with_reducible apply Z.cGt); · rfl) | ((with_reducible apply Z.cGf); · rfl) | ((with_reducible apply Z.gFrz); rfl) | ((with_reducible apply Z.gEqE); rfl) | ((with_reducible apply Z.gEqX); rfl) | ((with_reducible apply Z.gEqB); rfl) | ((with_reducible apply Z.gGet); rfl) | ((with_reducible apply Z.gAsg); rfl) | ((with_reducible apply Z.gWipe); rfl) | ((with_reducible apply Z.gGlo); rfl) | ((with_reducible apply Z.szL); rfl) | ((with_reducible apply Z.gIn) <;> first | rfl | ((with_reducible apply Z.gIn1); rfl)))
          all_goals first | rfl | exact lp | exact lp8 | exact lp9
        · have mn : evCmp .mem .none (.list (((outs E sp).map fun e => T e.2.1).map encO)) = some false := by rw [memN, decide_eq_false nn]
          have fin : ∀ e ∈ outs E sp, ∃ v, T e.2.1 = some v := fun e he => by
            cases q : T e.2.1 with
            | some v => exact ⟨v, rfl⟩
            | none => exact absurd (List.mem_map.mpr ⟨e, he, q⟩) nn
          have lpB : lcLoop (lcSt (callT Gf tab k) Gf (.bin .add (.var 9) (.var 7)) (.tup (.cons (.name 9) (.cons (.name 7) .nil))) .nil [.val (.tuple (E.map encE)), .val (.tuple (gl.map fun g => PyData.int (g : Nat))), .val (.int sp), .val (.int ((t + 1 : Nat) : Int)), .own ((outs E sp).map encR), .no, .no, .no, .own ((outs E sp).map (fun e => PyData.tuple [encO (T e.2.1), .int e.2.2])), .no]) ((outs E sp).map (fun e => PyData.tuple [encO (T e.2.1), .int e.2.2])) s = some (((outs E sp).map fun e => (T e.2.1).getD 0 + e.2.2).map .int, s) := by
            rw [List.map_map]
            refine lc_map fun e he => ?_
            obtain ⟨v, hv⟩ := fin e he
            have := lcS (F := callT Gf tab k) (G := Gf) (c := true) (e := .bin .add (.var 9) (.var 7)) (ifs := .nil) (tg := .tup (.cons (.name 9) (.cons (.name 7) .nil))) (s := s) (s1 := s) (x := PyData.tuple [encO (T e.2.1), .int e.2.2]) (ρ := [.val (.tuple (E.map encE)), .val (.tuple (gl.map fun g => PyData.int (g : Nat))), .val (.int sp), .val (.int ((t + 1 : Nat) : Int)), .own ((outs E sp).map encR), .no, .no, .no, .own ((outs E sp).map (fun e => PyData.tuple [encO (T e.2.1), .int e.2.2])), .no]) (ρ' := [.val (.tuple (E.map encE)), .val (.tuple (gl.map fun g => PyData.int (g : Nat))), .val (.int sp), .val (.int ((t + 1 : Nat) : Int)), .own ((outs E sp).map encR), .no, .no, .val (.int e.2.2), .own ((outs E sp).map (fun e => PyData.tuple [encO (T e.2.1), .int e.2.2])), .val (encO (T e.2.1))]) rfl rTsN (rBin (rV rfl rfl) (rV rfl rfl) rfl rfl (by rw [hv]; exact bnAdd)) rfl
            rw [this]
            simp [hv]
          have ei : (rows E T sp).filterMap id = (outs E sp).map fun e => (T e.2.1).getD 0 + e.2.2 := by
            rw [rows_outs, List.filterMap_map]
            have : ∀ l : List Ed, (∀ e ∈ l, ∃ v, T e.2.1 = some v) → l.filterMap (id ∘ fun e => (T e.2.1).map (· + e.2.2)) = l.map fun e => (T e.2.1).getD 0 + e.2.2 := by
              intro l hl
              induction l with
              | nil => rfl
              | cons e l ih2 =>
                obtain ⟨v, hv⟩ := hl e (.head _)
                rw [List.filterMap_cons, List.map_cons, ih2 fun e he => hl e (.tail _ he)]
                simp [hv]
            exact this _ fin
          have rn : maxO (rows E T sp) = some (maxI ((outs E sp).map fun e => (T e.2.1).getD 0 + e.2.2)) := by
            unfold maxO
            rw [if_neg, ei]
            rintro (q | q)
            · rw [rows_outs, List.map_eq_nil_iff] at q; exact hne q
            · rw [rows_outs] at q
              obtain ⟨e, he, q⟩ := List.mem_map.mp q
              obtain ⟨v, hv⟩ := fin e he
              rw [hv] at q; cases q
          have mx : evBlt .maxL [.fresh (((outs E sp).map fun e => (T e.2.1).getD 0 + e.2.2).map .int)] = some (.val (.int (maxI ((outs E sp).map fun e => (T e.2.1).getD 0 + e.2.2)))) := by
            show (match asInts (((outs E sp).map fun e => (T e.2.1).getD 0 + e.2.2).map .int) with | some ns => if ns ≠ [] then some (R.val (.int (maxI ns))) else none | none => none) = _
            rw [asInts_map]
            have : (outs E sp).map (fun e => (T e.2.1).getD 0 + e.2.2) ≠ [] := fun q => hne (List.map_eq_nil_iff.mp q)
            simp only [this, ne_eq, not_false_eq_true, if_true]
          rw [rn]
          (repeat first | with_reducible exact mm | with_reducible exact hl | with_reducible exact e | with_reducible exact z | with_reducible exact ho sp | with_reducible exact hlen _ | with_reducible exact mn | with_reducible exact mx | with_reducible apply Z.rLc (h4 := lp) | with_reducible apply Z.rLc (h4 := lp8) | with_reducible apply Z.rLc (h4 := lp9) | with_reducible apply Z.rLc (h4 := lpB) | with_reducible exact Z.gSo | with_reducible exact Z.rCs | with_reducible exact Z.rCi | with_reducible exact Z.rCb | with_reducible exact Z.rCn | with_reducible exact Z.rF | with_reducible exact Z.srV | with_reducible exact Z.iaV | with_reducible exact Z.iaF | with_reducible exact Z.iaA | with_reducible exact Z.srO | with_reducible exact Z.srH | with_reducible exact Z.srF | with_reducible exact Z.daV | with_reducible exact Z.daF | with_reducible exact Z.daA | with_reducible exact Z.slV | with_reducible exact Z.slF | with_reducible exact Z.slH | with_reducible exact Z.slFn | with_reducible exact Z.emV | with_reducible exact Z.emF | with_reducible exact Z.ebN | with_reducible exact Z.reV | with_reducible exact Z.reF | with_reducible exact Z.reA | with_reducible exact Z.agN | with_reducible exact Z.arV | with_reducible exact Z.arF | with_reducible exact Z.arA | with_reducible exact Z.arH | with_reducible exact Z.arFn | with_reducible exact Z.inB | with_reducible exact Z.inI | with_reducible exact Z.inN | with_reducible exact Z.trB | with_reducible exact Z.trI | with_reducible exact Z.trL | with_reducible exact Z.trT | with_reducible exact Z.trN | with_reducible exact Z.bnAdd | with_reducible exact Z.bnSub | with_reducible exact Z.cpLt | with_reducible exact Z.cpLe | with_reducible exact Z.cpGt | with_reducible exact Z.cpGe | with_reducible exact Z.cpIs | with_reducible exact Z.cpNo | with_reducible exact Z.cEqI | with_reducible exact Z.cNeI | with_reducible exact Z.cEqB | with_reducible exact Z.cNeB | with_reducible exact Z.sqL | with_reducible exact Z.sqT | with_reducible exact Z.ix0 | with_reducible exact Z.ix1 | with_reducible exact Z.ix2 | with_reducible exact Z.ix3 | with_reducible exact Z.ix4 | with_reducible exact Z.rNil | with_reducible exact Z.rTsN | with_reducible exact Z.rOn | with_reducible exact Z.ssN | with_reducible exact Z.coR | with_reducible exact Z.coC | with_reducible exact Z.coB | with_reducible exact Z.sRetN | with_reducible exact Z.sCont | with_reducible exact Z.sBrk | with_reducible exact Z.sPass | with_reducible apply Z.ebC | with_reducible apply Z.agC | with_reducible apply Z.rV | with_reducible apply Z.rG | with_reducible apply Z.ssF | with_reducible apply Z.ssC | with_reducible apply Z.coN | with_reducible apply Z.sRet | with_reducible apply Z.sIf | with_reducible apply Z.cT | with_reducible apply Z.cF | with_reducible apply Z.sAsg | with_reducible apply Z.sAsgT | with_reducible apply Z.sPar | with_reducible apply Z.sPar3 | with_reducible apply Z.sExpr | with_reducible apply Z.sMeth | with_reducible apply Z.sSetix | with_reducible apply Z.sAugA | with_reducible apply Z.sAugS | with_reducible apply Z.rTe | with_reducible apply Z.rTnot | with_reducible apply Z.rTand | with_reducible apply Z.rTor | with_reducible apply Z.rTsC | with_reducible apply Z.rCons | with_reducible apply Z.rCmp | with_reducible apply Z.rBin | with_reducible apply Z.rIx | with_reducible apply Z.rSl | with_reducible apply Z.rOs | with_reducible apply Z.rNeg | with_reducible apply Z.rNot | with_reducible apply Z.rAnd | with_reducible apply Z.rOr | with_reducible apply Z.rIte | with_reducible apply Z.rCall | with_reducible apply Z.rCallV | with_reducible apply Z.rBlt | with_reducible apply Z.rIsi | with_reducible apply Z.rTup | with_reducible apply Z.rLst | with_reducible apply Z.rRange | with_reducible apply Z.rSeq | with_reducible apply Z.rEnum | with_reducible apply Z.bnAddT | with_reducible apply Z.bnAddL | with_reducible apply Z.blLL | with_reducible apply Z.blLT | with_reducible apply Z.blMx | with_reducible apply Z.blMn | with_reducible apply Z.mtApp | with_reducible apply Z.mtExt | ((with_reducible apply Z.cGt); · rfl) | ((with_reducible apply Z.cGf); · rfl) | ((with_reducible apply Z.gFrz); rfl) | ((with_reducible apply Z.gEqE); rfl) | ((with_reducible apply Z.gEqX); rfl) | ((with_reducible apply Z.gEqB); rfl) | ((with_reducible apply Z.gGet); rfl) | ((with_reducible apply Z.gAsg); rfl) | ((with_reducible apply Z.gWipe); rfl) | ((with_reducible apply Z.gGlo); rfl) | ((with_reducible apply Z.szL); rfl) | ((with_reducible apply Z.gIn) <;> first | rfl | ((with_reducible apply Z.gIn1); rfl)))
          all_goals first | rfl | exact lp | exact lp8 | exact lp9 | exact lpB
end Z57

namespace Z57
open PySem L2 Z
theorem call_take {k : Nat} {args : List Slot} {s : DS} : callT Gf tab (k + 1) "_law_take" args s = takeF args s := by kernel_rfl
theorem run_take {k : Nat} (s : DS) {m : Nat} (h : 0 < m) (h2 : m < 1000000) : ∃ (j : Nat) (s' : DS), j < m ∧ callT Gf tab (k + 1) "_law_take" [.hdl, .val (.int m)] s = some (.val (.int j), s') := by
  have hm : (0 : Int) < (m : Int) := by omega
  have key : ∃ r : Int, (s.take m).1 = r % m := by
    unfold DS.take
    dsimp only
    repeat' split
    all_goals exact ⟨_, rfl⟩
  obtain ⟨r, hr⟩ := key
  have h0 := Int.emod_nonneg r (show (m : Int) ≠ 0 by omega)
  have h1 := Int.emod_lt_of_pos r hm
  refine ⟨(s.take m).1.toNat, (s.take m).2, by omega, ?_⟩
  rw [call_take]
  simp only [takeF]
  rw [if_pos ⟨hm, by omega⟩, show (((s.take m).1.toNat : Nat) : Int) = (s.take m).1 by omega]
theorem lcS2 {F : Str → List Slot → DS → Option (R × DS)} {G : Str → Option PyData} {e : E} {tg : Tg} {ifs : Ts} {x : PyData} {ρ ρ' : Z.Env} {s s1 s2 : DS} {r : R} {d : PyData} (h : asgTg tg x ρ = some ρ') (h2 : evTs F G ifs ρ' s = some (true, s1)) (h3 : evE F G e ρ' s1 = some (r, s2)) (h4 : r.emb = some d) : lcSt F G e tg ifs ρ x s = some (some d, s2) := by
  unfold lcSt
  simp [h, h2, h3, h4]
theorem lcS3 {F : Str → List Slot → DS → Option (R × DS)} {G : Str → Option PyData} {e : E} {tg : Tg} {ifs : Ts} {x : PyData} {ρ ρ' : Z.Env} {s s1 : DS} (h : asgTg tg x ρ = some ρ') (h2 : evTs F G ifs ρ' s = some (false, s1)) : lcSt F G e tg ifs ρ x s = some (none, s1) := by
  unfold lcSt
  simp [h, h2]
def env0 (x2 x3 x6 x15 : Slot) : Z.Env := [.no, .hdl, x2, x3, .no, .no, x6, .no, .no, .no, .no, .no, .no, .no, .no, x15, .no, .no, .no, .no, .no, .no, .no]
section
variable {k : Nat}
theorem drawE (x2 : Slot) : ∀ (l : List (Nat × Nat)) (s : DS), ∃ (E : List Ed) (s' : DS), lcLoop (lcSt (callT Gf tab (k + 1)) Gf (.tup (.cons (.var 4) (.cons (.var 5) (.cons (.bin .add (.cst (.int 1)) (.call "_law_take" (.cons (.var 1) (.cons (.cst (.int 6)) .nil)))) .nil)))) (.tup (.cons (.name 4) (.cons (.name 5) .nil))) (.cons (.e (.cmp .lt (.call "_law_take" (.cons (.var 1) (.cons (.cst (.int 5)) .nil))) (.cst (.int 2)))) .nil) (env0 x2 .no .no .no)) (l.map encP) s = some (E.map encE, s') ∧ (∀ e ∈ E, (e.1, e.2.1) ∈ l ∧ 0 < e.2.2) ∧ E.length ≤ l.length
  | [], s => ⟨[], s, rfl, fun e h => (by cases h), Nat.le_refl _⟩
  | (i, j) :: l, s => by
    obtain ⟨a, s1, ha, t1⟩ := @run_take k s 5 (by omega) (by omega)
    have t1 : callT Gf tab (k + 1) "_law_take" [.hdl, .val (.int 5)] s = some (.val (.int a), s1) := t1
    have asg : asgTg (.tup (.cons (.name 4) (.cons (.name 5) .nil))) (encP (i, j)) (env0 x2 .no .no .no) = some (((env0 x2 .no .no .no).set 4 (.val (.int i))).set 5 (.val (.int j))) := rfl
    by_cases c : a < 2
    · have lt := iLtT (show ((a : Nat) : Int) < 2 by omega)
      obtain ⟨b, s2, hb, t2⟩ := @run_take k s1 6 (by omega) (by omega)
      have t2 : callT Gf tab (k + 1) "_law_take" [.hdl, .val (.int 6)] s1 = some (.val (.int b), s2) := t2
      have h2 : evTs (callT Gf tab (k + 1)) Gf (.cons (.e (.cmp .lt (.call "_law_take" (.cons (.var 1) (.cons (.cst (.int 5)) .nil))) (.cst (.int 2)))) .nil) (((env0 x2 .no .no .no).set 4 (.val (.int i))).set 5 (.val (.int j))) s = some (true && true, s1) := by
        (repeat first | with_reducible exact t1 | with_reducible exact lt | with_reducible exact Z.gSo | with_reducible exact Z.rCs | with_reducible exact Z.rCi | with_reducible exact Z.rCb | with_reducible exact Z.rCn | with_reducible exact Z.rF | with_reducible exact Z.srV | with_reducible exact Z.iaV | with_reducible exact Z.iaF | with_reducible exact Z.iaA | with_reducible exact Z.srO | with_reducible exact Z.srH | with_reducible exact Z.srF | with_reducible exact Z.daV | with_reducible exact Z.daF | with_reducible exact Z.daA | with_reducible exact Z.slV | with_reducible exact Z.slF | with_reducible exact Z.slH | with_reducible exact Z.slFn | with_reducible exact Z.emV | with_reducible exact Z.emF | with_reducible exact Z.ebN | with_reducible exact Z.reV | with_reducible exact Z.reF | with_reducible exact Z.reA | with_reducible exact Z.agN | with_reducible exact Z.arV | with_reducible exact Z.arF | with_reducible exact Z.arA | with_reducible exact Z.arH | with_reducible exact Z.arFn | with_reducible exact Z.inB | with_reducible exact Z.inI | with_reducible exact Z.inN | with_reducible exact Z.trB | with_reducible exact Z.trI | with_reducible exact Z.trL | with_reducible exact Z.trT | with_reducible exact Z.trN | with_reducible exact Z.bnAdd | with_reducible exact Z.bnSub | with_reducible exact Z.cpLt | with_reducible exact Z.cpLe | with_reducible exact Z.cpGt | with_reducible exact Z.cpGe | with_reducible exact Z.cpIs | with_reducible exact Z.cpNo | with_reducible exact Z.cEqI | with_reducible exact Z.cNeI | with_reducible exact Z.cEqB | with_reducible exact Z.cNeB | with_reducible exact Z.sqL | with_reducible exact Z.sqT | with_reducible exact Z.ix0 | with_reducible exact Z.ix1 | with_reducible exact Z.ix2 | with_reducible exact Z.ix3 | with_reducible exact Z.ix4 | with_reducible exact Z.rNil | with_reducible exact Z.rTsN | with_reducible exact Z.rOn | with_reducible exact Z.ssN | with_reducible exact Z.coR | with_reducible exact Z.coC | with_reducible exact Z.coB | with_reducible exact Z.sRetN | with_reducible exact Z.sCont | with_reducible exact Z.sBrk | with_reducible exact Z.sPass | with_reducible apply Z.ebC | with_reducible apply Z.agC | with_reducible apply Z.rV | with_reducible apply Z.rG | with_reducible apply Z.ssF | with_reducible apply Z.ssC | with_reducible apply Z.coN | with_reducible apply Z.sRet | with_reducible apply Z.sIf | with_reducible apply Z.cT | with_reducible apply Z.cF | with_reducible apply Z.sAsg | with_reducible apply Z.sAsgT | with_reducible apply Z.sPar | with_reducible apply Z.sPar3 | with_reducible apply Z.sExpr | with_reducible apply Z.sMeth | with_reducible apply Z.sSetix | with_reducible apply Z.sAugA | with_reducible apply Z.sAugS | with_reducible apply Z.rTe | with_reducible apply Z.rTnot | with_reducible apply Z.rTand | with_reducible apply Z.rTor | with_reducible apply Z.rTsC | with_reducible apply Z.rCons | with_reducible apply Z.rCmp | with_reducible apply Z.rBin | with_reducible apply Z.rIx | with_reducible apply Z.rSl | with_reducible apply Z.rOs | with_reducible apply Z.rNeg | with_reducible apply Z.rNot | with_reducible apply Z.rAnd | with_reducible apply Z.rOr | with_reducible apply Z.rIte | with_reducible apply Z.rCall | with_reducible apply Z.rCallV | with_reducible apply Z.rBlt | with_reducible apply Z.rIsi | with_reducible apply Z.rTup | with_reducible apply Z.rLst | with_reducible apply Z.rRange | with_reducible apply Z.rSeq | with_reducible apply Z.rEnum | with_reducible apply Z.bnAddT | with_reducible apply Z.bnAddL | with_reducible apply Z.blLL | with_reducible apply Z.blLT | with_reducible apply Z.blMx | with_reducible apply Z.blMn | with_reducible apply Z.mtApp | with_reducible apply Z.mtExt | ((with_reducible apply Z.cGt); · rfl) | ((with_reducible apply Z.cGf); · rfl) | ((with_reducible apply Z.gFrz); rfl) | ((with_reducible apply Z.gEqE); rfl) | ((with_reducible apply Z.gEqX); rfl) | ((with_reducible apply Z.gEqB); rfl) | ((with_reducible apply Z.gGet); rfl) | ((with_reducible apply Z.gAsg); rfl) | ((with_reducible apply Z.gWipe); rfl) | ((with_reducible apply Z.gGlo); rfl) | ((with_reducible apply Z.szL); rfl) | ((with_reducible apply Z.gIn) <;> first | rfl | ((with_reducible apply Z.gIn1); rfl)))
      have h3 : evE (callT Gf tab (k + 1)) Gf (.tup (.cons (.var 4) (.cons (.var 5) (.cons (.bin .add (.cst (.int 1)) (.call "_law_take" (.cons (.var 1) (.cons (.cst (.int 6)) .nil)))) .nil)))) (((env0 x2 .no .no .no).set 4 (.val (.int i))).set 5 (.val (.int j))) s1 = some (.val (.tuple [.int i, .int j, .int (1 + (b : Int))]), s2) := by
        (repeat first | with_reducible exact t2 | with_reducible exact Z.gSo | with_reducible exact Z.rCs | with_reducible exact Z.rCi | with_reducible exact Z.rCb | with_reducible exact Z.rCn | with_reducible exact Z.rF | with_reducible exact Z.srV | with_reducible exact Z.iaV | with_reducible exact Z.iaF | with_reducible exact Z.iaA | with_reducible exact Z.srO | with_reducible exact Z.srH | with_reducible exact Z.srF | with_reducible exact Z.daV | with_reducible exact Z.daF | with_reducible exact Z.daA | with_reducible exact Z.slV | with_reducible exact Z.slF | with_reducible exact Z.slH | with_reducible exact Z.slFn | with_reducible exact Z.emV | with_reducible exact Z.emF | with_reducible exact Z.ebN | with_reducible exact Z.reV | with_reducible exact Z.reF | with_reducible exact Z.reA | with_reducible exact Z.agN | with_reducible exact Z.arV | with_reducible exact Z.arF | with_reducible exact Z.arA | with_reducible exact Z.arH | with_reducible exact Z.arFn | with_reducible exact Z.inB | with_reducible exact Z.inI | with_reducible exact Z.inN | with_reducible exact Z.trB | with_reducible exact Z.trI | with_reducible exact Z.trL | with_reducible exact Z.trT | with_reducible exact Z.trN | with_reducible exact Z.bnAdd | with_reducible exact Z.bnSub | with_reducible exact Z.cpLt | with_reducible exact Z.cpLe | with_reducible exact Z.cpGt | with_reducible exact Z.cpGe | with_reducible exact Z.cpIs | with_reducible exact Z.cpNo | with_reducible exact Z.cEqI | with_reducible exact Z.cNeI | with_reducible exact Z.cEqB | with_reducible exact Z.cNeB | with_reducible exact Z.sqL | with_reducible exact Z.sqT | with_reducible exact Z.ix0 | with_reducible exact Z.ix1 | with_reducible exact Z.ix2 | with_reducible exact Z.ix3 | with_reducible exact Z.ix4 | with_reducible exact Z.rNil | with_reducible exact Z.rTsN | with_reducible exact Z.rOn | with_reducible exact Z.ssN | with_reducible exact Z.coR | with_reducible exact Z.coC | with_reducible exact Z.coB | with_reducible exact Z.sRetN | with_reducible exact Z.sCont | with_reducible exact Z.sBrk | with_reducible exact Z.sPass | with_reducible apply Z.ebC | with_reducible apply Z.agC | with_reducible apply Z.rV | with_reducible apply Z.rG | with_reducible apply Z.ssF | with_reducible apply Z.ssC | with_reducible apply Z.coN | with_reducible apply Z.sRet | with_reducible apply Z.sIf | with_reducible apply Z.cT | with_reducible apply Z.cF | with_reducible apply Z.sAsg | with_reducible apply Z.sAsgT | with_reducible apply Z.sPar | with_reducible apply Z.sPar3 | with_reducible apply Z.sExpr | with_reducible apply Z.sMeth | with_reducible apply Z.sSetix | with_reducible apply Z.sAugA | with_reducible apply Z.sAugS | with_reducible apply Z.rTe | with_reducible apply Z.rTnot | with_reducible apply Z.rTand | with_reducible apply Z.rTor | with_reducible apply Z.rTsC | with_reducible apply Z.rCons | with_reducible apply Z.rCmp | with_reducible apply Z.rBin | with_reducible apply Z.rIx | with_reducible apply Z.rSl | with_reducible apply Z.rOs | with_reducible apply Z.rNeg | with_reducible apply Z.rNot | with_reducible apply Z.rAnd | with_reducible apply Z.rOr | with_reducible apply Z.rIte | with_reducible apply Z.rCall | with_reducible apply Z.rCallV | with_reducible apply Z.rBlt | with_reducible apply Z.rIsi | with_reducible apply Z.rTup | with_reducible apply Z.rLst | with_reducible apply Z.rRange | with_reducible apply Z.rSeq | with_reducible apply Z.rEnum | with_reducible apply Z.bnAddT | with_reducible apply Z.bnAddL | with_reducible apply Z.blLL | with_reducible apply Z.blLT | with_reducible apply Z.blMx | with_reducible apply Z.blMn | with_reducible apply Z.mtApp | with_reducible apply Z.mtExt | ((with_reducible apply Z.cGt); · rfl) | ((with_reducible apply Z.cGf); · rfl) | ((with_reducible apply Z.gFrz); rfl) | ((with_reducible apply Z.gEqE); rfl) | ((with_reducible apply Z.gEqX); rfl) | ((with_reducible apply Z.gEqB); rfl) | ((with_reducible apply Z.gGet); rfl) | ((with_reducible apply Z.gAsg); rfl) | ((with_reducible apply Z.gWipe); rfl) | ((with_reducible apply Z.gGlo); rfl) | ((with_reducible apply Z.szL); rfl) | ((with_reducible apply Z.gIn) <;> first | rfl | ((with_reducible apply Z.gIn1); rfl)))
      have st := lcS2 (F := callT Gf tab (k + 1)) (G := Gf) asg h2 h3 rfl
      obtain ⟨E, s', e1, e2, e3⟩ := drawE x2 l s2
      refine ⟨(i, j, 1 + (b : Int)) :: E, s', ?_, fun e he => ?_, by simp; omega⟩
      · rw [List.map_cons]
        simp only [lcLoop, st, e1]
        rfl
      · rcases List.mem_cons.mp he with rfl | he
        · exact ⟨.head _, by simp only; omega⟩
        · exact ⟨.tail _ (e2 e he).1, (e2 e he).2⟩
    · have lt := iLtF (show ¬ ((a : Nat) : Int) < 2 by omega)
      have h2 : evTs (callT Gf tab (k + 1)) Gf (.cons (.e (.cmp .lt (.call "_law_take" (.cons (.var 1) (.cons (.cst (.int 5)) .nil))) (.cst (.int 2)))) .nil) (((env0 x2 .no .no .no).set 4 (.val (.int i))).set 5 (.val (.int j))) s = some (false && true, s1) := by
        (repeat first | with_reducible exact t1 | with_reducible exact lt | with_reducible exact Z.gSo | with_reducible exact Z.rCs | with_reducible exact Z.rCi | with_reducible exact Z.rCb | with_reducible exact Z.rCn | with_reducible exact Z.rF | with_reducible exact Z.srV | with_reducible exact Z.iaV | with_reducible exact Z.iaF | with_reducible exact Z.iaA | with_reducible exact Z.srO | with_reducible exact Z.srH | with_reducible exact Z.srF | with_reducible exact Z.daV | with_reducible exact Z.daF | with_reducible exact Z.daA | with_reducible exact Z.slV | with_reducible exact Z.slF | with_reducible exact Z.slH | with_reducible exact Z.slFn | with_reducible exact Z.emV | with_reducible exact Z.emF | with_reducible exact Z.ebN | with_reducible exact Z.reV | with_reducible exact Z.reF | with_reducible exact Z.reA | with_reducible exact Z.agN | with_reducible exact Z.arV | with_reducible exact Z.arF | with_reducible exact Z.arA | with_reducible exact Z.arH | with_reducible exact Z.arFn | with_reducible exact Z.inB | with_reducible exact Z.inI | with_reducible exact Z.inN | with_reducible exact Z.trB | with_reducible exact Z.trI | with_reducible exact Z.trL | with_reducible exact Z.trT | with_reducible exact Z.trN | with_reducible exact Z.bnAdd | with_reducible exact Z.bnSub | with_reducible exact Z.cpLt | with_reducible exact Z.cpLe | with_reducible exact Z.cpGt | with_reducible exact Z.cpGe | with_reducible exact Z.cpIs | with_reducible exact Z.cpNo | with_reducible exact Z.cEqI | with_reducible exact Z.cNeI | with_reducible exact Z.cEqB | with_reducible exact Z.cNeB | with_reducible exact Z.sqL | with_reducible exact Z.sqT | with_reducible exact Z.ix0 | with_reducible exact Z.ix1 | with_reducible exact Z.ix2 | with_reducible exact Z.ix3 | with_reducible exact Z.ix4 | with_reducible exact Z.rNil | with_reducible exact Z.rTsN | with_reducible exact Z.rOn | with_reducible exact Z.ssN | with_reducible exact Z.coR | with_reducible exact Z.coC | with_reducible exact Z.coB | with_reducible exact Z.sRetN | with_reducible exact Z.sCont | with_reducible exact Z.sBrk | with_reducible exact Z.sPass | with_reducible apply Z.ebC | with_reducible apply Z.agC | with_reducible apply Z.rV | with_reducible apply Z.rG | with_reducible apply Z.ssF | with_reducible apply Z.ssC | with_reducible apply Z.coN | with_reducible apply Z.sRet | with_reducible apply Z.sIf | with_reducible apply Z.cT | with_reducible apply Z.cF | with_reducible apply Z.sAsg | with_reducible apply Z.sAsgT | with_reducible apply Z.sPar | with_reducible apply Z.sPar3 | with_reducible apply Z.sExpr | with_reducible apply Z.sMeth | with_reducible apply Z.sSetix | with_reducible apply Z.sAugA | with_reducible apply Z.sAugS | with_reducible apply Z.rTe | with_reducible apply Z.rTnot | with_reducible apply Z.rTand | with_reducible apply Z.rTor | with_reducible apply Z.rTsC | with_reducible apply Z.rCons | with_reducible apply Z.rCmp | with_reducible apply Z.rBin | with_reducible apply Z.rIx | with_reducible apply Z.rSl | with_reducible apply Z.rOs | with_reducible apply Z.rNeg | with_reducible apply Z.rNot | with_reducible apply Z.rAnd | with_reducible apply Z.rOr | with_reducible apply Z.rIte | with_reducible apply Z.rCall | with_reducible apply Z.rCallV | with_reducible apply Z.rBlt | with_reducible apply Z.rIsi | with_reducible apply Z.rTup | with_reducible apply Z.rLst | with_reducible apply Z.rRange | with_reducible apply Z.rSeq | with_reducible apply Z.rEnum | with_reducible apply Z.bnAddT | with_reducible apply Z.bnAddL | with_reducible apply Z.blLL | with_reducible apply Z.blLT | with_reducible apply Z.blMx | with_reducible apply Z.blMn | with_reducible apply Z.mtApp | with_reducible apply Z.mtExt | ((with_reducible apply Z.cGt); · rfl) | ((with_reducible apply Z.cGf); · rfl) | ((with_reducible apply Z.gFrz); rfl) | ((with_reducible apply Z.gEqE); rfl) | ((with_reducible apply Z.gEqX); rfl) | ((with_reducible apply Z.gEqB); rfl) | ((with_reducible apply Z.gGet); rfl) | ((with_reducible apply Z.gAsg); rfl) | ((with_reducible apply Z.gWipe); rfl) | ((with_reducible apply Z.gGlo); rfl) | ((with_reducible apply Z.szL); rfl) | ((with_reducible apply Z.gIn) <;> first | rfl | ((with_reducible apply Z.gIn1); rfl)))
      have st := lcS3 (F := callT Gf tab (k + 1)) (G := Gf) (e := (.tup (.cons (.var 4) (.cons (.var 5) (.cons (.bin .add (.cst (.int 1)) (.call "_law_take" (.cons (.var 1) (.cons (.cst (.int 6)) .nil)))) .nil))))) asg h2
      obtain ⟨E, s', e1, e2, e3⟩ := drawE x2 l s1
      refine ⟨E, s', ?_, fun e he => ⟨.tail _ (e2 e he).1, (e2 e he).2⟩, by simp; omega⟩
      rw [List.map_cons]
      simp only [lcLoop, st, e1]
      rfl
theorem drawG (x2 x3 : Slot) : ∀ (l : List Nat) (s : DS), ∃ (gl : List Nat) (s' : DS), lcLoop (lcSt (callT Gf tab (k + 1)) Gf (.var 7) (.name 7) (.cons (.e (.cmp .eq (.call "_law_take" (.cons (.var 1) (.cons (.cst (.int 3)) .nil))) (.cst (.int 0)))) .nil) (env0 x2 x3 .no .no)) (l.map fun (k : Nat) => PyData.int (k : Int)) s = some (gl.map (fun g => PyData.int (g : Nat)), s') ∧ (∀ g ∈ gl, g ∈ l) ∧ gl.length ≤ l.length
  | [], s => ⟨[], s, rfl, fun e h => (by cases h), Nat.le_refl _⟩
  | i :: l, s => by
    obtain ⟨a, s1, ha, t1⟩ := @run_take k s 3 (by omega) (by omega)
    have t1 : callT Gf tab (k + 1) "_law_take" [.hdl, .val (.int 3)] s = some (.val (.int a), s1) := t1
    have asg : asgTg (.name 7) (.int i) (env0 x2 x3 .no .no) = some ((env0 x2 x3 .no .no).set 7 (.val (.int i))) := rfl
    obtain ⟨gl, s', e1, e2, e3⟩ := drawG x2 x3 l s1
    by_cases c : a = 0
    · have lt := iEqT (show ((a : Nat) : Int) = 0 by omega)
      have h2 : evTs (callT Gf tab (k + 1)) Gf (.cons (.e (.cmp .eq (.call "_law_take" (.cons (.var 1) (.cons (.cst (.int 3)) .nil))) (.cst (.int 0)))) .nil) ((env0 x2 x3 .no .no).set 7 (.val (.int i))) s = some (true && true, s1) := by
        (repeat first | with_reducible exact t1 | with_reducible exact lt | with_reducible exact Z.gSo | with_reducible exact Z.rCs | with_reducible exact Z.rCi | with_reducible exact Z.rCb | with_reducible exact Z.rCn | with_reducible exact Z.rF | with_reducible exact Z.srV | with_reducible exact Z.iaV | with_reducible exact Z.iaF | with_reducible exact Z.iaA | with_reducible exact Z.srO | with_reducible exact Z.srH | with_reducible exact Z.srF | with_reducible exact Z.daV | with_reducible exact Z.daF | with_reducible exact Z.daA | with_reducible exact Z.slV | with_reducible exact Z.slF | with_reducible exact Z.slH | with_reducible exact Z.slFn | with_reducible exact Z.emV | with_reducible exact Z.emF | with_reducible exact Z.ebN | with_reducible exact Z.reV | with_reducible exact Z.reF | with_reducible exact Z.reA | with_reducible exact Z.agN | with_reducible exact Z.arV | with_reducible exact Z.arF | with_reducible exact Z.arA | with_reducible exact Z.arH | with_reducible exact Z.arFn | with_reducible exact Z.inB | with_reducible exact Z.inI | with_reducible exact Z.inN | with_reducible exact Z.trB | with_reducible exact Z.trI | with_reducible exact Z.trL | with_reducible exact Z.trT | with_reducible exact Z.trN | with_reducible exact Z.bnAdd | with_reducible exact Z.bnSub | with_reducible exact Z.cpLt | with_reducible exact Z.cpLe | with_reducible exact Z.cpGt | with_reducible exact Z.cpGe | with_reducible exact Z.cpIs | with_reducible exact Z.cpNo | with_reducible exact Z.cEqI | with_reducible exact Z.cNeI | with_reducible exact Z.cEqB | with_reducible exact Z.cNeB | with_reducible exact Z.sqL | with_reducible exact Z.sqT | with_reducible exact Z.ix0 | with_reducible exact Z.ix1 | with_reducible exact Z.ix2 | with_reducible exact Z.ix3 | with_reducible exact Z.ix4 | with_reducible exact Z.rNil | with_reducible exact Z.rTsN | with_reducible exact Z.rOn | with_reducible exact Z.ssN | with_reducible exact Z.coR | with_reducible exact Z.coC | with_reducible exact Z.coB | with_reducible exact Z.sRetN | with_reducible exact Z.sCont | with_reducible exact Z.sBrk | with_reducible exact Z.sPass | with_reducible apply Z.ebC | with_reducible apply Z.agC | with_reducible apply Z.rV | with_reducible apply Z.rG | with_reducible apply Z.ssF | with_reducible apply Z.ssC | with_reducible apply Z.coN | with_reducible apply Z.sRet | with_reducible apply Z.sIf | with_reducible apply Z.cT | with_reducible apply Z.cF | with_reducible apply Z.sAsg | with_reducible apply Z.sAsgT | with_reducible apply Z.sPar | with_reducible apply Z.sPar3 | with_reducible apply Z.sExpr | with_reducible apply Z.sMeth | with_reducible apply Z.sSetix | with_reducible apply Z.sAugA | with_reducible apply Z.sAugS | with_reducible apply Z.rTe | with_reducible apply Z.rTnot | with_reducible apply Z.rTand | with_reducible apply Z.rTor | with_reducible apply Z.rTsC | with_reducible apply Z.rCons | with_reducible apply Z.rCmp | with_reducible apply Z.rBin | with_reducible apply Z.rIx | with_reducible apply Z.rSl | with_reducible apply Z.rOs | with_reducible apply Z.rNeg | with_reducible apply Z.rNot | with_reducible apply Z.rAnd | with_reducible apply Z.rOr | with_reducible apply Z.rIte | with_reducible apply Z.rCall | with_reducible apply Z.rCallV | with_reducible apply Z.rBlt | with_reducible apply Z.rIsi | with_reducible apply Z.rTup | with_reducible apply Z.rLst | with_reducible apply Z.rRange | with_reducible apply Z.rSeq | with_reducible apply Z.rEnum | with_reducible apply Z.bnAddT | with_reducible apply Z.bnAddL | with_reducible apply Z.blLL | with_reducible apply Z.blLT | with_reducible apply Z.blMx | with_reducible apply Z.blMn | with_reducible apply Z.mtApp | with_reducible apply Z.mtExt | ((with_reducible apply Z.cGt); · rfl) | ((with_reducible apply Z.cGf); · rfl) | ((with_reducible apply Z.gFrz); rfl) | ((with_reducible apply Z.gEqE); rfl) | ((with_reducible apply Z.gEqX); rfl) | ((with_reducible apply Z.gEqB); rfl) | ((with_reducible apply Z.gGet); rfl) | ((with_reducible apply Z.gAsg); rfl) | ((with_reducible apply Z.gWipe); rfl) | ((with_reducible apply Z.gGlo); rfl) | ((with_reducible apply Z.szL); rfl) | ((with_reducible apply Z.gIn) <;> first | rfl | ((with_reducible apply Z.gIn1); rfl)))
      have st := lcS2 (F := callT Gf tab (k + 1)) (G := Gf) (e := .var 7) (r := .val (.int i)) asg h2 (rV rfl rfl) rfl
      refine ⟨i :: gl, s', ?_, fun g hg => ?_, by simp; omega⟩
      · rw [List.map_cons]
        simp only [lcLoop, st, e1]
        rfl
      · rcases List.mem_cons.mp hg with rfl | hg
        · exact .head _
        · exact .tail _ (e2 g hg)
    · have lt := iEqF (show ((a : Nat) : Int) ≠ 0 by omega)
      have h2 : evTs (callT Gf tab (k + 1)) Gf (.cons (.e (.cmp .eq (.call "_law_take" (.cons (.var 1) (.cons (.cst (.int 3)) .nil))) (.cst (.int 0)))) .nil) ((env0 x2 x3 .no .no).set 7 (.val (.int i))) s = some (false && true, s1) := by
        (repeat first | with_reducible exact t1 | with_reducible exact lt | with_reducible exact Z.gSo | with_reducible exact Z.rCs | with_reducible exact Z.rCi | with_reducible exact Z.rCb | with_reducible exact Z.rCn | with_reducible exact Z.rF | with_reducible exact Z.srV | with_reducible exact Z.iaV | with_reducible exact Z.iaF | with_reducible exact Z.iaA | with_reducible exact Z.srO | with_reducible exact Z.srH | with_reducible exact Z.srF | with_reducible exact Z.daV | with_reducible exact Z.daF | with_reducible exact Z.daA | with_reducible exact Z.slV | with_reducible exact Z.slF | with_reducible exact Z.slH | with_reducible exact Z.slFn | with_reducible exact Z.emV | with_reducible exact Z.emF | with_reducible exact Z.ebN | with_reducible exact Z.reV | with_reducible exact Z.reF | with_reducible exact Z.reA | with_reducible exact Z.agN | with_reducible exact Z.arV | with_reducible exact Z.arF | with_reducible exact Z.arA | with_reducible exact Z.arH | with_reducible exact Z.arFn | with_reducible exact Z.inB | with_reducible exact Z.inI | with_reducible exact Z.inN | with_reducible exact Z.trB | with_reducible exact Z.trI | with_reducible exact Z.trL | with_reducible exact Z.trT | with_reducible exact Z.trN | with_reducible exact Z.bnAdd | with_reducible exact Z.bnSub | with_reducible exact Z.cpLt | with_reducible exact Z.cpLe | with_reducible exact Z.cpGt | with_reducible exact Z.cpGe | with_reducible exact Z.cpIs | with_reducible exact Z.cpNo | with_reducible exact Z.cEqI | with_reducible exact Z.cNeI | with_reducible exact Z.cEqB | with_reducible exact Z.cNeB | with_reducible exact Z.sqL | with_reducible exact Z.sqT | with_reducible exact Z.ix0 | with_reducible exact Z.ix1 | with_reducible exact Z.ix2 | with_reducible exact Z.ix3 | with_reducible exact Z.ix4 | with_reducible exact Z.rNil | with_reducible exact Z.rTsN | with_reducible exact Z.rOn | with_reducible exact Z.ssN | with_reducible exact Z.coR | with_reducible exact Z.coC | with_reducible exact Z.coB | with_reducible exact Z.sRetN | with_reducible exact Z.sCont | with_reducible exact Z.sBrk | with_reducible exact Z.sPass | with_reducible apply Z.ebC | with_reducible apply Z.agC | with_reducible apply Z.rV | with_reducible apply Z.rG | with_reducible apply Z.ssF | with_reducible apply Z.ssC | with_reducible apply Z.coN | with_reducible apply Z.sRet | with_reducible apply Z.sIf | with_reducible apply Z.cT | with_reducible apply Z.cF | with_reducible apply Z.sAsg | with_reducible apply Z.sAsgT | with_reducible apply Z.sPar | with_reducible apply Z.sPar3 | with_reducible apply Z.sExpr | with_reducible apply Z.sMeth | with_reducible apply Z.sSetix | with_reducible apply Z.sAugA | with_reducible apply Z.sAugS | with_reducible apply Z.rTe | with_reducible apply Z.rTnot | with_reducible apply Z.rTand | with_reducible apply Z.rTor | with_reducible apply Z.rTsC | with_reducible apply Z.rCons | with_reducible apply Z.rCmp | with_reducible apply Z.rBin | with_reducible apply Z.rIx | with_reducible apply Z.rSl | with_reducible apply Z.rOs | with_reducible apply Z.rNeg | with_reducible apply Z.rNot | with_reducible apply Z.rAnd | with_reducible apply Z.rOr | with_reducible apply Z.rIte | with_reducible apply Z.rCall | with_reducible apply Z.rCallV | with_reducible apply Z.rBlt | with_reducible apply Z.rIsi | with_reducible apply Z.rTup | with_reducible apply Z.rLst | with_reducible apply Z.rRange | with_reducible apply Z.rSeq | with_reducible apply Z.rEnum | with_reducible apply Z.bnAddT | with_reducible apply Z.bnAddL | with_reducible apply Z.blLL | with_reducible apply Z.blLT | with_reducible apply Z.blMx | with_reducible apply Z.blMn | with_reducible apply Z.mtApp | with_reducible apply Z.mtExt | ((with_reducible apply Z.cGt); · rfl) | ((with_reducible apply Z.cGf); · rfl) | ((with_reducible apply Z.gFrz); rfl) | ((with_reducible apply Z.gEqE); rfl) | ((with_reducible apply Z.gEqX); rfl) | ((with_reducible apply Z.gEqB); rfl) | ((with_reducible apply Z.gGet); rfl) | ((with_reducible apply Z.gAsg); rfl) | ((with_reducible apply Z.gWipe); rfl) | ((with_reducible apply Z.gGlo); rfl) | ((with_reducible apply Z.szL); rfl) | ((with_reducible apply Z.gIn) <;> first | rfl | ((with_reducible apply Z.gIn1); rfl)))
      have st := lcS3 (F := callT Gf tab (k + 1)) (G := Gf) (e := .var 7) asg h2
      refine ⟨gl, s', ?_, fun g hg => .tail _ (e2 g hg), by simp; omega⟩
      rw [List.map_cons]
      simp only [lcLoop, st, e1]
      rfl
end
end Z57

namespace Z57
open PySem L2 Z
theorem drawO {k : Nat} {ρ : Z.Env} (h1 : ρ[1]? = some .hdl) : ∀ (l : List Nat) (s : DS), ∃ (xs : List Bool) (s' : DS), xs.length = l.length ∧ lcLoop (lcSt (callT Gf tab (k + 1)) Gf (.call "_law_take" (.cons (.var 1) (.cons (.cst (.int 2)) .nil))) (.name 7) .nil ρ) (l.map fun (k : Nat) => PyData.int (k : Int)) s = some (xs.map (fun b => PyData.int (if b = true then 1 else 0)), s')
  | [], s => ⟨[], s, rfl, rfl⟩
  | i :: l, s => by
    obtain ⟨a, s1, ha, t1⟩ := @run_take k s 2 (by omega) (by omega)
    have t1 : callT Gf tab (k + 1) "_law_take" [.hdl, .val (.int 2)] s = some (.val (.int a), s1) := t1
    obtain ⟨xs, s', e1, e2⟩ := drawO (k := k) h1 l s1
    have g1 : (ρ.set 7 (.val (.int i)))[1]? = some .hdl := by rw [List.getElem?_set_ne (by decide)]; exact h1
    have h3 : evE (callT Gf tab (k + 1)) Gf (.call "_law_take" (.cons (.var 1) (.cons (.cst (.int 2)) .nil))) (ρ.set 7 (.val (.int i))) s = some (.val (.int a), s1) := by
      (repeat first | with_reducible exact g1 | with_reducible exact t1 | with_reducible exact Z.gSo | with_reducible exact Z.rCs | with_reducible exact Z.rCi | with_reducible exact Z.rCb | with_reducible exact Z.rCn | with_reducible exact Z.rF | with_reducible exact Z.srV | with_reducible exact Z.iaV | with_reducible exact Z.iaF | with_reducible exact Z.iaA | with_reducible exact Z.srO | with_reducible exact Z.srH | with_reducible exact Z.srF | with_reducible exact Z.daV | with_reducible exact Z.daF | with_reducible exact Z.daA | with_reducible exact Z.slV | with_reducible exact Z.slF | with_reducible exact Z.slH | with_reducible exact Z.slFn | with_reducible exact Z.emV | with_reducible exact Z.emF | with_reducible exact Z.ebN | with_reducible exact Z.reV | with_reducible exact Z.reF | with_reducible exact Z.reA | with_reducible exact Z.agN | with_reducible exact Z.arV | with_reducible exact Z.arF | with_reducible exact Z.arA | with_reducible exact Z.arH | with_reducible exact Z.arFn | with_reducible exact Z.inB | with_reducible exact Z.inI | with_reducible exact Z.inN | with_reducible exact Z.trB | with_reducible exact Z.trI | with_reducible exact Z.trL | with_reducible exact Z.trT | with_reducible exact Z.trN | with_reducible exact Z.bnAdd | with_reducible exact Z.bnSub | with_reducible exact Z.cpLt | with_reducible exact Z.cpLe | with_reducible exact Z.cpGt | with_reducible exact Z.cpGe | with_reducible exact Z.cpIs | with_reducible exact Z.cpNo | with_reducible exact Z.cEqI | with_reducible exact Z.cNeI | with_reducible exact Z.cEqB | with_reducible exact Z.cNeB | with_reducible exact Z.sqL | with_reducible exact Z.sqT | with_reducible exact Z.ix0 | with_reducible exact Z.ix1 | with_reducible exact Z.ix2 | with_reducible exact Z.ix3 | with_reducible exact Z.ix4 | with_reducible exact Z.rNil | with_reducible exact Z.rTsN | with_reducible exact Z.rOn | with_reducible exact Z.ssN | with_reducible exact Z.coR | with_reducible exact Z.coC | with_reducible exact Z.coB | with_reducible exact Z.sRetN | with_reducible exact Z.sCont | with_reducible exact Z.sBrk | with_reducible exact Z.sPass | with_reducible apply Z.ebC | with_reducible apply Z.agC | with_reducible apply Z.rV | with_reducible apply Z.rG | with_reducible apply Z.ssF | with_reducible apply Z.ssC | with_reducible apply Z.coN | with_reducible apply Z.sRet | with_reducible apply Z.sIf | with_reducible apply Z.cT | with_reducible apply Z.cF | with_reducible apply Z.sAsg | with_reducible apply Z.sAsgT | with_reducible apply Z.sPar | with_reducible apply Z.sPar3 | with_reducible apply Z.sExpr | with_reducible apply Z.sMeth | with_reducible apply Z.sSetix | with_reducible apply Z.sAugA | with_reducible apply Z.sAugS | with_reducible apply Z.rTe | with_reducible apply Z.rTnot | with_reducible apply Z.rTand | with_reducible apply Z.rTor | with_reducible apply Z.rTsC | with_reducible apply Z.rCons | with_reducible apply Z.rCmp | with_reducible apply Z.rBin | with_reducible apply Z.rIx | with_reducible apply Z.rSl | with_reducible apply Z.rOs | with_reducible apply Z.rNeg | with_reducible apply Z.rNot | with_reducible apply Z.rAnd | with_reducible apply Z.rOr | with_reducible apply Z.rIte | with_reducible apply Z.rCall | with_reducible apply Z.rCallV | with_reducible apply Z.rBlt | with_reducible apply Z.rIsi | with_reducible apply Z.rTup | with_reducible apply Z.rLst | with_reducible apply Z.rRange | with_reducible apply Z.rSeq | with_reducible apply Z.rEnum | with_reducible apply Z.bnAddT | with_reducible apply Z.bnAddL | with_reducible apply Z.blLL | with_reducible apply Z.blLT | with_reducible apply Z.blMx | with_reducible apply Z.blMn | with_reducible apply Z.mtApp | with_reducible apply Z.mtExt | ((with_reducible apply Z.cGt); · rfl) | ((with_reducible apply Z.cGf); · rfl) | ((with_reducible apply Z.gFrz); rfl) | ((with_reducible apply Z.gEqE); rfl) | ((with_reducible apply Z.gEqX); rfl) | ((with_reducible apply Z.gEqB); rfl) | ((with_reducible apply Z.gGet); rfl) | ((with_reducible apply Z.gAsg); rfl) | ((with_reducible apply Z.gWipe); rfl) | ((with_reducible apply Z.gGlo); rfl) | ((with_reducible apply Z.szL); rfl) | ((with_reducible apply Z.gIn) <;> first | rfl | ((with_reducible apply Z.gIn1); rfl)))
    have st := lcS2 (F := callT Gf tab (k + 1)) (G := Gf) (tg := .name 7) (x := .int i) (ρ := ρ) rfl rTsN h3 rfl
    refine ⟨decide (a = 1) :: xs, s', by simp [e1], ?_⟩
    have ea : (a : Int) = if decide (a = 1) = true then 1 else 0 := by
      by_cases c : a = 1
      · simp [c]
      · have : a = 0 := by omega
        simp [this]
    rw [List.map_cons]
    simp only [lcLoop, st, e2]
    rw [List.map_cons, ← ea]
    rfl
/-- owners as a function -/
def ofL (xs : List Bool) : Nat → Bool := fun s => (xs[s]?).getD false
theorem ownD_ofL (xs : List Bool) : ownD (ofL xs) xs.length = .tuple (xs.map fun b => PyData.int (if b = true then 1 else 0)) := by
  unfold ownD
  congr 1
  apply List.ext_getElem?
  intro i
  by_cases c : i < xs.length
  · simp [c, ofL]
  · simp [c]
theorem own0 (n : Nat) : (List.replicate n [PyData.int 0]).flatten = (List.range n).map fun s => PyData.int (if (fun _ => false : Nat → Bool) s = true then 1 else 0) := by
  induction n with
  | zero => rfl
  | succ n ih =>
    rw [List.replicate_succ', List.flatten_append, ih, List.range_succ, List.map_append]
    rfl
theorem own1 (n : Nat) : (List.replicate n [PyData.int 1]).flatten = (List.range n).map fun s => PyData.int (if (fun _ => true : Nat → Bool) s = true then 1 else 0) := by
  induction n with
  | zero => rfl
  | succ n ih =>
    rw [List.replicate_succ', List.flatten_append, ih, List.range_succ, List.map_append]
    rfl
/-- one spot to 1 -/
def give (own : Nat → Bool) (i : Nat) : Nat → Bool := fun s => if s = i then true else own s
theorem eqvO (o : Option Int) : PyData.eqv (encO o) (encO o) = true := by cases o <;> simp [encO, PyData.eqv]
theorem eqvL : ∀ r : List (Option Int), PyData.eqvAll (r.map encO) (r.map encO) = true
  | [] => rfl
  | o :: r => by simp [PyData.eqvAll, eqvO, eqvL r]
theorem tmL_map (T : Tm) (n : Nat) : tmL T n = ((List.range n).map T).map encO := by simp [tmL]
theorem neT (T : Tm) (n : Nat) : evCmp .ne (.tuple (tmL T n)) (.tuple (tmL T n)) = some false := by
  rw [tmL_map]
  show (if SeqAt.shaped (.tuple (((List.range n).map T).map encO)) = true ∧ SeqAt.shaped (.tuple (((List.range n).map T).map encO)) = true then some (!PyData.eqv (.tuple (((List.range n).map T).map encO)) (.tuple (((List.range n).map T).map encO))) else none) = _
  rw [if_pos ⟨shT _, shT _⟩]
  have := eqvL ((List.range n).map T)
  simp only [PyData.eqv, this]
  rfl
/-- the edges that the table takes -/
def noSelf (E : List Ed) : List Ed := E.filter fun e => e.1 != e.2.1
theorem fix_self {E : List Ed} {D : Tm} {g : Nat → Bool} (p : Pos1 E) (d : Fix free (rev (noSelf E)) g D) : Fix free (rev E) g D := by
  refine ⟨fun s => ?_, d.nn⟩
  have e := d.eq s
  rw [e]
  by_cases c : g s = true
  · rw [if_pos c, if_pos c]
  · rw [if_neg c, if_neg c]
    rw [if_neg c] at e
    unfold timeAt free at e ⊢
    rw [if_neg (by simp)] at e ⊢
    rw [if_neg (by simp)]
    have sub : ∀ u, some u ∈ rows (rev (noSelf E)) D s → some u ∈ rows (rev E) D s := fun u hu => by
      obtain ⟨j, w, t, h1, h2, h3⟩ := rows_some.mp hu
      have := rev_mem.mp h1
      have := (List.mem_filter.mp this).1
      exact rows_some.mpr ⟨j, w, t, rev_mem.mpr this, h2, h3⟩
    have back : ∀ u, some u ∈ rows (rev E) D s → some u ∈ rows (rev (noSelf E)) D s ∨ ∃ t, D s = some t ∧ t < u := fun u hu => by
      obtain ⟨j, w, t, h1, h2, h3⟩ := rows_some.mp hu
      have h1 := rev_mem.mp h1
      have hw := p _ h1
      simp only at hw
      by_cases q : j = s
      · subst q; exact .inr ⟨t, h2, by omega⟩
      · refine .inl (rows_some.mpr ⟨j, w, t, rev_mem.mpr (List.mem_filter.mpr ⟨h1, ?_⟩), h2, h3⟩)
        simpa using q
    cases q : minO (rows (rev (noSelf E)) D s) with
    | none =>
      symm
      rw [minO_none]
      intro u hu
      rcases back u hu with z | ⟨t, z, _⟩
      · exact minO_none.mp q u z
      · rw [e, q] at z; cases z
    | some t =>
      symm
      rw [minO_some]
      obtain ⟨h1, h2⟩ := minO_some.mp q
      refine ⟨sub t h1, fun u hu => ?_⟩
      rcases back u hu with z | ⟨t', z, l⟩
      · exact h2 u z
      · rw [e, q] at z
        cases z
        omega
end Z57

namespace Z57
open PySem L2 Z
section
variable {k : Nat} {s : DS}
/-- the least lengths from each spot -/
def dist (n : Nat) (E : List Ed) (a : Nat) : Tm := rounds n free (rev (noSelf E)) n (start fun x => x == a)
theorem In.noSelf {n : Nat} {E : List Ed} (h : In n E) : In n (noSelf E) := fun e he => h e (List.mem_filter.mp he).1
theorem In.rev {n : Nat} {E : List Ed} (h : In n E) : In n (rev E) := fun e he => by
  obtain ⟨a, b, c⟩ := e
  have := h _ (rev_mem.mp he)
  exact ⟨this.2, this.1⟩
theorem Pos1.noSelf {E : List Ed} (p : Pos1 E) : Pos1 (noSelf E) := fun e he => p e (List.mem_filter.mp he).1
theorem dist_low {n : Nat} {E : List Ed} (hE : In n E) (p : Pos1 E) {a : Nat} (ha : a < n) : low (noSelf E) (n + 1) (start fun x => x == a) = some (dist n E a) := by
  have hg : ∀ s, (fun x => x == a) s = true → s < n := fun s hs => by
    have : s = a := by simpa using hs
    omega
  exact low_eq (rounds_fix p.noSelf.rev hE.noSelf.rev hg) p.noSelf (fun x t h => rounds_dm p.noSelf.rev hE.noSelf.rev hg h)
theorem dist_fix {n : Nat} {E : List Ed} (hE : In n E) (p : Pos1 E) {a : Nat} (ha : a < n) : Fix free (rev E) (fun x => x == a) (dist n E a) := by
  have hg : ∀ s, (fun x => x == a) s = true → s < n := fun s hs => by
    have : s = a := by simpa using hs
    omega
  exact fix_self p (rounds_fix p.noSelf.rev hE.noSelf.rev hg)
/-- what is due at a spot -/
theorem due_eq {n : Nat} {E : List Ed} {gl : List Nat} (hE : In n E) (p : Pos1 E) (hg : ∀ g ∈ gl, g < n) {a : Nat} (ha : a < n) :
    minO (gl.map fun g => dist n E a g) = rounds n free E n (start (goalOf gl)) a := by
  have f := rounds_fix (own := free) (goal := goalOf gl) p hE (fun s hs => hg s (by simpa [goalOf] using hs))
  symm
  refine dual f (dist_fix hE p ha) p fun x => ?_
  simp only [List.mem_map, goalOf, decide_eq_true_eq]
end
end Z57

namespace Z57
open PySem L2 Z
def lv (x2 x3 x6 x7 x8 x10 x11 x13 x14 x15 x16 x17 x18 x19 x21 x22 : Slot) : Z.Env := [.no, .hdl, x2, x3, .no, .no, x6, x7, x8, .no, x10, x11, .no, x13, x14, x15, x16, x17, x18, x19, .no, x21, x22]
def glD (gl : List Nat) : PyData := .tuple (gl.map fun g => PyData.int (g : Nat))
def tabD (n : Nat) (E : List Ed) : PyData := .tuple ((List.range n).map fun a => PyData.tuple (tmL (dist n E a) n))
def dbody : Ss := (.cons (.asg (.name 11) (.lc (.ix (.ix (.var 8) (.var 7)) (.var 12)) (.name 12) (.seq (.var 6)) (.cons (.e (.cmp .notN (.ix (.ix (.var 8) (.var 7)) (.var 12)) (.cst .non))) .nil) [12]))
  (.cons (.meth .append 10 (.cons (.ite (.e (.cmp .ne (.var 11) (.lst .nil))) (.blt .minL (.cons (.var 11) .nil)) (.cst .non)) .nil))
  .nil))
theorem neI (l : List Int) : evCmp .ne (.list (l.map .int)) (.list []) = some (!l.isEmpty) := by
  have h : PyData.canLayAll0 (l.map .int) = true ∧ PyData.depthAll (l.map .int) = 0 := by
    induction l with
    | nil => exact ⟨rfl, rfl⟩
    | cons x l ih => exact ⟨by simp [PyData.canLayAll0, PyData.canLay0, ih.1], by simp [PyData.depthAll, PyData.depth, ih.2]⟩
  show (if SeqAt.shaped (.list (l.map .int)) = true ∧ SeqAt.shaped (.list []) = true then some (!PyData.eqv (.list (l.map .int)) (.list [])) else none) = _
  rw [if_pos ⟨by simp [SeqAt.shaped, PyData.canLay0, PyData.depth, h.1, h.2], rfl⟩]
  cases l <;> rfl
theorem dstep {F : Str → List Slot → DS → Option (R × DS)} {n a : Nat} {E : List Ed} {gl : List Nat} {s : DS} {x2 x3 x7 x11 x13 x14 x15 x16 x17 x18 x19 x21 x22 : Slot} {acc : List PyData} (hacc : acc.length < 1000) (hg : ∀ g ∈ gl, g < n) (hgl : gl.length ≤ 1000) (ha : a < n) :
    ∃ y11, forSt F Gf (.name 7) dbody (.int a) (lv x2 x3 (.val (glD gl)) x7 (.val (tabD n E)) (.own acc) x11 x13 x14 x15 x16 x17 x18 x19 x21 x22) s = some (.nx (lv x2 x3 (.val (glD gl)) (.val (.int a)) (.val (tabD n E)) (.own (acc ++ [encO (minO (gl.map fun g => dist n E a g))])) y11 x13 x14 x15 x16 x17 x18 x19 x21 x22) s) := by
  have it : evIx (tabD n E) (.int a) = some (.tuple (tmL (dist n E a) n)) := ixT (by simp [ha])
  have lp : lcLoop (lcSt F Gf (.ix (.ix (.var 8) (.var 7)) (.var 12)) (.name 12) (.cons (.e (.cmp .notN (.ix (.ix (.var 8) (.var 7)) (.var 12)) (.cst .non))) .nil) (lv x2 x3 (.val (glD gl)) (.val (.int a)) (.val (tabD n E)) (.own acc) x11 x13 x14 x15 x16 x17 x18 x19 x21 x22)) (gl.map fun g => PyData.int (g : Nat)) s = some (((gl.map fun g => dist n E a g).filterMap id).map .int, s) := by
    rw [← somes, List.filter_map, List.map_map]
    refine lc_fil (α := Nat) (p := ((fun o => o.isSome) ∘ fun g => dist n E a g)) fun g hgm => ?_
    have ig : evIx (.tuple (tmL (dist n E a) n)) (.int (g : Nat)) = some (encO (dist n E a g)) := ixT (tm_get (hg g hgm))
    have t : evTs F Gf (.cons (.e (.cmp .notN (.ix (.ix (.var 8) (.var 7)) (.var 12)) (.cst .non))) .nil) ((lv x2 x3 (.val (glD gl)) (.val (.int a)) (.val (tabD n E)) (.own acc) x11 x13 x14 x15 x16 x17 x18 x19 x21 x22).set 12 (.val (.int (g : Nat)))) s = some ((!isNone (encO (dist n E a g))) && true, s) := by
      (repeat first | with_reducible exact it | with_reducible exact ig | with_reducible exact Z.gSo | with_reducible exact Z.rCs | with_reducible exact Z.rCi | with_reducible exact Z.rCb | with_reducible exact Z.rCn | with_reducible exact Z.rF | with_reducible exact Z.srV | with_reducible exact Z.iaV | with_reducible exact Z.iaF | with_reducible exact Z.iaA | with_reducible exact Z.srO | with_reducible exact Z.srH | with_reducible exact Z.srF | with_reducible exact Z.daV | with_reducible exact Z.daF | with_reducible exact Z.daA | with_reducible exact Z.slV | with_reducible exact Z.slF | with_reducible exact Z.slH | with_reducible exact Z.slFn | with_reducible exact Z.emV | with_reducible exact Z.emF | with_reducible exact Z.ebN | with_reducible exact Z.reV | with_reducible exact Z.reF | with_reducible exact Z.reA | with_reducible exact Z.agN | with_reducible exact Z.arV | with_reducible exact Z.arF | with_reducible exact Z.arA | with_reducible exact Z.arH | with_reducible exact Z.arFn | with_reducible exact Z.inB | with_reducible exact Z.inI | with_reducible exact Z.inN | with_reducible exact Z.trB | with_reducible exact Z.trI | with_reducible exact Z.trL | with_reducible exact Z.trT | with_reducible exact Z.trN | with_reducible exact Z.bnAdd | with_reducible exact Z.bnSub | with_reducible exact Z.cpLt | with_reducible exact Z.cpLe | with_reducible exact Z.cpGt | with_reducible exact Z.cpGe | with_reducible exact Z.cpIs | with_reducible exact Z.cpNo | with_reducible exact Z.cEqI | with_reducible exact Z.cNeI | with_reducible exact Z.cEqB | with_reducible exact Z.cNeB | with_reducible exact Z.sqL | with_reducible exact Z.sqT | with_reducible exact Z.ix0 | with_reducible exact Z.ix1 | with_reducible exact Z.ix2 | with_reducible exact Z.ix3 | with_reducible exact Z.ix4 | with_reducible exact Z.rNil | with_reducible exact Z.rTsN | with_reducible exact Z.rOn | with_reducible exact Z.ssN | with_reducible exact Z.coR | with_reducible exact Z.coC | with_reducible exact Z.coB | with_reducible exact Z.sRetN | with_reducible exact Z.sCont | with_reducible exact Z.sBrk | with_reducible exact Z.sPass | with_reducible apply Z.ebC | with_reducible apply Z.agC | with_reducible apply Z.rV | with_reducible apply Z.rG | with_reducible apply Z.ssF | with_reducible apply Z.ssC | with_reducible apply Z.coN | with_reducible apply Z.sRet | with_reducible apply Z.sIf | with_reducible apply Z.cT | with_reducible apply Z.cF | with_reducible apply Z.sAsg | with_reducible apply Z.sAsgT | with_reducible apply Z.sPar | with_reducible apply Z.sPar3 | with_reducible apply Z.sExpr | with_reducible apply Z.sMeth | with_reducible apply Z.sSetix | with_reducible apply Z.sAugA | with_reducible apply Z.sAugS | with_reducible apply Z.rTe | with_reducible apply Z.rTnot | with_reducible apply Z.rTand | with_reducible apply Z.rTor | with_reducible apply Z.rTsC | with_reducible apply Z.rCons | with_reducible apply Z.rCmp | with_reducible apply Z.rBin | with_reducible apply Z.rIx | with_reducible apply Z.rSl | with_reducible apply Z.rOs | with_reducible apply Z.rNeg | with_reducible apply Z.rNot | with_reducible apply Z.rAnd | with_reducible apply Z.rOr | with_reducible apply Z.rIte | with_reducible apply Z.rCall | with_reducible apply Z.rCallV | with_reducible apply Z.rBlt | with_reducible apply Z.rIsi | with_reducible apply Z.rTup | with_reducible apply Z.rLst | with_reducible apply Z.rRange | with_reducible apply Z.rSeq | with_reducible apply Z.rEnum | with_reducible apply Z.bnAddT | with_reducible apply Z.bnAddL | with_reducible apply Z.blLL | with_reducible apply Z.blLT | with_reducible apply Z.blMx | with_reducible apply Z.blMn | with_reducible apply Z.mtApp | with_reducible apply Z.mtExt | ((with_reducible apply Z.cGt); · rfl) | ((with_reducible apply Z.cGf); · rfl) | ((with_reducible apply Z.gFrz); rfl) | ((with_reducible apply Z.gEqE); rfl) | ((with_reducible apply Z.gEqX); rfl) | ((with_reducible apply Z.gEqB); rfl) | ((with_reducible apply Z.gGet); rfl) | ((with_reducible apply Z.gAsg); rfl) | ((with_reducible apply Z.gWipe); rfl) | ((with_reducible apply Z.gGlo); rfl) | ((with_reducible apply Z.szL); rfl) | ((with_reducible apply Z.gIn) <;> first | rfl | ((with_reducible apply Z.gIn1); rfl)))
    have e : evE F Gf (.ix (.ix (.var 8) (.var 7)) (.var 12)) ((lv x2 x3 (.val (glD gl)) (.val (.int a)) (.val (tabD n E)) (.own acc) x11 x13 x14 x15 x16 x17 x18 x19 x21 x22).set 12 (.val (.int (g : Nat)))) s = some (.val (encO (dist n E a g)), s) := by
      (repeat first | with_reducible exact it | with_reducible exact ig | with_reducible exact Z.gSo | with_reducible exact Z.rCs | with_reducible exact Z.rCi | with_reducible exact Z.rCb | with_reducible exact Z.rCn | with_reducible exact Z.rF | with_reducible exact Z.srV | with_reducible exact Z.iaV | with_reducible exact Z.iaF | with_reducible exact Z.iaA | with_reducible exact Z.srO | with_reducible exact Z.srH | with_reducible exact Z.srF | with_reducible exact Z.daV | with_reducible exact Z.daF | with_reducible exact Z.daA | with_reducible exact Z.slV | with_reducible exact Z.slF | with_reducible exact Z.slH | with_reducible exact Z.slFn | with_reducible exact Z.emV | with_reducible exact Z.emF | with_reducible exact Z.ebN | with_reducible exact Z.reV | with_reducible exact Z.reF | with_reducible exact Z.reA | with_reducible exact Z.agN | with_reducible exact Z.arV | with_reducible exact Z.arF | with_reducible exact Z.arA | with_reducible exact Z.arH | with_reducible exact Z.arFn | with_reducible exact Z.inB | with_reducible exact Z.inI | with_reducible exact Z.inN | with_reducible exact Z.trB | with_reducible exact Z.trI | with_reducible exact Z.trL | with_reducible exact Z.trT | with_reducible exact Z.trN | with_reducible exact Z.bnAdd | with_reducible exact Z.bnSub | with_reducible exact Z.cpLt | with_reducible exact Z.cpLe | with_reducible exact Z.cpGt | with_reducible exact Z.cpGe | with_reducible exact Z.cpIs | with_reducible exact Z.cpNo | with_reducible exact Z.cEqI | with_reducible exact Z.cNeI | with_reducible exact Z.cEqB | with_reducible exact Z.cNeB | with_reducible exact Z.sqL | with_reducible exact Z.sqT | with_reducible exact Z.ix0 | with_reducible exact Z.ix1 | with_reducible exact Z.ix2 | with_reducible exact Z.ix3 | with_reducible exact Z.ix4 | with_reducible exact Z.rNil | with_reducible exact Z.rTsN | with_reducible exact Z.rOn | with_reducible exact Z.ssN | with_reducible exact Z.coR | with_reducible exact Z.coC | with_reducible exact Z.coB | with_reducible exact Z.sRetN | with_reducible exact Z.sCont | with_reducible exact Z.sBrk | with_reducible exact Z.sPass | with_reducible apply Z.ebC | with_reducible apply Z.agC | with_reducible apply Z.rV | with_reducible apply Z.rG | with_reducible apply Z.ssF | with_reducible apply Z.ssC | with_reducible apply Z.coN | with_reducible apply Z.sRet | with_reducible apply Z.sIf | with_reducible apply Z.cT | with_reducible apply Z.cF | with_reducible apply Z.sAsg | with_reducible apply Z.sAsgT | with_reducible apply Z.sPar | with_reducible apply Z.sPar3 | with_reducible apply Z.sExpr | with_reducible apply Z.sMeth | with_reducible apply Z.sSetix | with_reducible apply Z.sAugA | with_reducible apply Z.sAugS | with_reducible apply Z.rTe | with_reducible apply Z.rTnot | with_reducible apply Z.rTand | with_reducible apply Z.rTor | with_reducible apply Z.rTsC | with_reducible apply Z.rCons | with_reducible apply Z.rCmp | with_reducible apply Z.rBin | with_reducible apply Z.rIx | with_reducible apply Z.rSl | with_reducible apply Z.rOs | with_reducible apply Z.rNeg | with_reducible apply Z.rNot | with_reducible apply Z.rAnd | with_reducible apply Z.rOr | with_reducible apply Z.rIte | with_reducible apply Z.rCall | with_reducible apply Z.rCallV | with_reducible apply Z.rBlt | with_reducible apply Z.rIsi | with_reducible apply Z.rTup | with_reducible apply Z.rLst | with_reducible apply Z.rRange | with_reducible apply Z.rSeq | with_reducible apply Z.rEnum | with_reducible apply Z.bnAddT | with_reducible apply Z.bnAddL | with_reducible apply Z.blLL | with_reducible apply Z.blLT | with_reducible apply Z.blMx | with_reducible apply Z.blMn | with_reducible apply Z.mtApp | with_reducible apply Z.mtExt | ((with_reducible apply Z.cGt); · rfl) | ((with_reducible apply Z.cGf); · rfl) | ((with_reducible apply Z.gFrz); rfl) | ((with_reducible apply Z.gEqE); rfl) | ((with_reducible apply Z.gEqX); rfl) | ((with_reducible apply Z.gEqB); rfl) | ((with_reducible apply Z.gGet); rfl) | ((with_reducible apply Z.gAsg); rfl) | ((with_reducible apply Z.gWipe); rfl) | ((with_reducible apply Z.gGlo); rfl) | ((with_reducible apply Z.szL); rfl) | ((with_reducible apply Z.gIn) <;> first | rfl | ((with_reducible apply Z.gIn1); rfl)))
    have q : ((!isNone (encO (dist n E a g))) && true) = ((fun o : Option Int => o.isSome) ∘ fun g => dist n E a g) g := by
      show _ = (dist n E a g).isSome
      cases dist n E a g <;> rfl
    rw [q] at t
    exact lcS (ρ' := (lv x2 x3 (.val (glD gl)) (.val (.int a)) (.val (tabD n E)) (.own acc) x11 x13 x14 x15 x16 x17 x18 x19 x21 x22).set 12 (.val (.int (g : Nat)))) rfl t e rfl
  have sq : seqOf (glD gl) = some (gl.map fun g => PyData.int (g : Nat)) := rfl
  have hl : (gl.map fun g => PyData.int (g : Nat)).length ≤ sizeLine := by rw [List.length_map]; exact Nat.le_trans hgl (by decide)
  have sz : acc.length < sizeLine := Nat.lt_of_lt_of_le hacc (by decide)
  refine ⟨.own (((gl.map fun g => dist n E a g).filterMap id).map .int), fStep (ρ' := lv x2 x3 (.val (glD gl)) (.val (.int a)) (.val (tabD n E)) (.own acc) x11 x13 x14 x15 x16 x17 x18 x19 x21 x22) rfl ?_⟩
  unfold dbody minO
  by_cases c : (gl.map fun g => dist n E a g).filterMap id = []
  · rw [if_pos c]
    have ne := neI ((gl.map fun g => dist n E a g).filterMap id)
    rw [show (!((gl.map fun g => dist n E a g).filterMap id).isEmpty) = false by rw [c]; rfl] at ne
    (repeat first | with_reducible exact sq | with_reducible exact hl | with_reducible exact ne | with_reducible exact sz | with_reducible apply Z.rLc (h4 := lp) | with_reducible exact Z.gSo | with_reducible exact Z.rCs | with_reducible exact Z.rCi | with_reducible exact Z.rCb | with_reducible exact Z.rCn | with_reducible exact Z.rF | with_reducible exact Z.srV | with_reducible exact Z.iaV | with_reducible exact Z.iaF | with_reducible exact Z.iaA | with_reducible exact Z.srO | with_reducible exact Z.srH | with_reducible exact Z.srF | with_reducible exact Z.daV | with_reducible exact Z.daF | with_reducible exact Z.daA | with_reducible exact Z.slV | with_reducible exact Z.slF | with_reducible exact Z.slH | with_reducible exact Z.slFn | with_reducible exact Z.emV | with_reducible exact Z.emF | with_reducible exact Z.ebN | with_reducible exact Z.reV | with_reducible exact Z.reF | with_reducible exact Z.reA | with_reducible exact Z.agN | with_reducible exact Z.arV | with_reducible exact Z.arF | with_reducible exact Z.arA | with_reducible exact Z.arH | with_reducible exact Z.arFn | with_reducible exact Z.inB | with_reducible exact Z.inI | with_reducible exact Z.inN | with_reducible exact Z.trB | with_reducible exact Z.trI | with_reducible exact Z.trL | with_reducible exact Z.trT | with_reducible exact Z.trN | with_reducible exact Z.bnAdd | with_reducible exact Z.bnSub | with_reducible exact Z.cpLt | with_reducible exact Z.cpLe | with_reducible exact Z.cpGt | with_reducible exact Z.cpGe | with_reducible exact Z.cpIs | with_reducible exact Z.cpNo | with_reducible exact Z.cEqI | with_reducible exact Z.cNeI | with_reducible exact Z.cEqB | with_reducible exact Z.cNeB | with_reducible exact Z.sqL | with_reducible exact Z.sqT | with_reducible exact Z.ix0 | with_reducible exact Z.ix1 | with_reducible exact Z.ix2 | with_reducible exact Z.ix3 | with_reducible exact Z.ix4 | with_reducible exact Z.rNil | with_reducible exact Z.rTsN | with_reducible exact Z.rOn | with_reducible exact Z.ssN | with_reducible exact Z.coR | with_reducible exact Z.coC | with_reducible exact Z.coB | with_reducible exact Z.sRetN | with_reducible exact Z.sCont | with_reducible exact Z.sBrk | with_reducible exact Z.sPass | with_reducible apply Z.ebC | with_reducible apply Z.agC | with_reducible apply Z.rV | with_reducible apply Z.rG | with_reducible apply Z.ssF | with_reducible apply Z.ssC | with_reducible apply Z.coN | with_reducible apply Z.sRet | with_reducible apply Z.sIf | with_reducible apply Z.cT | with_reducible apply Z.cF | with_reducible apply Z.sAsg | with_reducible apply Z.sAsgT | with_reducible apply Z.sPar | with_reducible apply Z.sPar3 | with_reducible apply Z.sExpr | with_reducible apply Z.sMeth | with_reducible apply Z.sSetix | with_reducible apply Z.sAugA | with_reducible apply Z.sAugS | with_reducible apply Z.rTe | with_reducible apply Z.rTnot | with_reducible apply Z.rTand | with_reducible apply Z.rTor | with_reducible apply Z.rTsC | with_reducible apply Z.rCons | with_reducible apply Z.rCmp | with_reducible apply Z.rBin | with_reducible apply Z.rIx | with_reducible apply Z.rSl | with_reducible apply Z.rOs | with_reducible apply Z.rNeg | with_reducible apply Z.rNot | with_reducible apply Z.rAnd | with_reducible apply Z.rOr | with_reducible apply Z.rIte | with_reducible apply Z.rCall | with_reducible apply Z.rCallV | with_reducible apply Z.rBlt | with_reducible apply Z.rIsi | with_reducible apply Z.rTup | with_reducible apply Z.rLst | with_reducible apply Z.rRange | with_reducible apply Z.rSeq | with_reducible apply Z.rEnum | with_reducible apply Z.bnAddT | with_reducible apply Z.bnAddL | with_reducible apply Z.blLL | with_reducible apply Z.blLT | with_reducible apply Z.blMx | with_reducible apply Z.blMn | with_reducible apply Z.mtApp | with_reducible apply Z.mtExt | ((with_reducible apply Z.cGt); · rfl) | ((with_reducible apply Z.cGf); · rfl) | ((with_reducible apply Z.gFrz); rfl) | ((with_reducible apply Z.gEqE); rfl) | ((with_reducible apply Z.gEqX); rfl) | ((with_reducible apply Z.gEqB); rfl) | ((with_reducible apply Z.gGet); rfl) | ((with_reducible apply Z.gAsg); rfl) | ((with_reducible apply Z.gWipe); rfl) | ((with_reducible apply Z.gGlo); rfl) | ((with_reducible apply Z.szL); rfl) | ((with_reducible apply Z.gIn) <;> first | rfl | ((with_reducible apply Z.gIn1); rfl)))
    all_goals first | rfl | exact lp
  · rw [if_neg c]
    have ne := neI ((gl.map fun g => dist n E a g).filterMap id)
    rw [show (!((gl.map fun g => dist n E a g).filterMap id).isEmpty) = true by cases q : (gl.map fun g => dist n E a g).filterMap id with
      | nil => exact absurd q c
      | cons _ _ => rfl] at ne
    have mn : evBlt .minL [.held 11 (((gl.map fun g => dist n E a g).filterMap id).map .int)] = some (.val (.int (minI ((gl.map fun g => dist n E a g).filterMap id)))) := by
      show (match asInts (((gl.map fun g => dist n E a g).filterMap id).map .int) with | some ns => if ns ≠ [] then some (R.val (.int (minI ns))) else none | none => none) = _
      rw [asInts_map]
      simp only [c, ne_eq, not_false_eq_true, if_true]
    (repeat first | with_reducible exact sq | with_reducible exact hl | with_reducible exact ne | with_reducible exact sz | with_reducible exact mn | with_reducible apply Z.rLc (h4 := lp) | with_reducible exact Z.gSo | with_reducible exact Z.rCs | with_reducible exact Z.rCi | with_reducible exact Z.rCb | with_reducible exact Z.rCn | with_reducible exact Z.rF | with_reducible exact Z.srV | with_reducible exact Z.iaV | with_reducible exact Z.iaF | with_reducible exact Z.iaA | with_reducible exact Z.srO | with_reducible exact Z.srH | with_reducible exact Z.srF | with_reducible exact Z.daV | with_reducible exact Z.daF | with_reducible exact Z.daA | with_reducible exact Z.slV | with_reducible exact Z.slF | with_reducible exact Z.slH | with_reducible exact Z.slFn | with_reducible exact Z.emV | with_reducible exact Z.emF | with_reducible exact Z.ebN | with_reducible exact Z.reV | with_reducible exact Z.reF | with_reducible exact Z.reA | with_reducible exact Z.agN | with_reducible exact Z.arV | with_reducible exact Z.arF | with_reducible exact Z.arA | with_reducible exact Z.arH | with_reducible exact Z.arFn | with_reducible exact Z.inB | with_reducible exact Z.inI | with_reducible exact Z.inN | with_reducible exact Z.trB | with_reducible exact Z.trI | with_reducible exact Z.trL | with_reducible exact Z.trT | with_reducible exact Z.trN | with_reducible exact Z.bnAdd | with_reducible exact Z.bnSub | with_reducible exact Z.cpLt | with_reducible exact Z.cpLe | with_reducible exact Z.cpGt | with_reducible exact Z.cpGe | with_reducible exact Z.cpIs | with_reducible exact Z.cpNo | with_reducible exact Z.cEqI | with_reducible exact Z.cNeI | with_reducible exact Z.cEqB | with_reducible exact Z.cNeB | with_reducible exact Z.sqL | with_reducible exact Z.sqT | with_reducible exact Z.ix0 | with_reducible exact Z.ix1 | with_reducible exact Z.ix2 | with_reducible exact Z.ix3 | with_reducible exact Z.ix4 | with_reducible exact Z.rNil | with_reducible exact Z.rTsN | with_reducible exact Z.rOn | with_reducible exact Z.ssN | with_reducible exact Z.coR | with_reducible exact Z.coC | with_reducible exact Z.coB | with_reducible exact Z.sRetN | with_reducible exact Z.sCont | with_reducible exact Z.sBrk | with_reducible exact Z.sPass | with_reducible apply Z.ebC | with_reducible apply Z.agC | with_reducible apply Z.rV | with_reducible apply Z.rG | with_reducible apply Z.ssF | with_reducible apply Z.ssC | with_reducible apply Z.coN | with_reducible apply Z.sRet | with_reducible apply Z.sIf | with_reducible apply Z.cT | with_reducible apply Z.cF | with_reducible apply Z.sAsg | with_reducible apply Z.sAsgT | with_reducible apply Z.sPar | with_reducible apply Z.sPar3 | with_reducible apply Z.sExpr | with_reducible apply Z.sMeth | with_reducible apply Z.sSetix | with_reducible apply Z.sAugA | with_reducible apply Z.sAugS | with_reducible apply Z.rTe | with_reducible apply Z.rTnot | with_reducible apply Z.rTand | with_reducible apply Z.rTor | with_reducible apply Z.rTsC | with_reducible apply Z.rCons | with_reducible apply Z.rCmp | with_reducible apply Z.rBin | with_reducible apply Z.rIx | with_reducible apply Z.rSl | with_reducible apply Z.rOs | with_reducible apply Z.rNeg | with_reducible apply Z.rNot | with_reducible apply Z.rAnd | with_reducible apply Z.rOr | with_reducible apply Z.rIte | with_reducible apply Z.rCall | with_reducible apply Z.rCallV | with_reducible apply Z.rBlt | with_reducible apply Z.rIsi | with_reducible apply Z.rTup | with_reducible apply Z.rLst | with_reducible apply Z.rRange | with_reducible apply Z.rSeq | with_reducible apply Z.rEnum | with_reducible apply Z.bnAddT | with_reducible apply Z.bnAddL | with_reducible apply Z.blLL | with_reducible apply Z.blLT | with_reducible apply Z.blMx | with_reducible apply Z.blMn | with_reducible apply Z.mtApp | with_reducible apply Z.mtExt | ((with_reducible apply Z.cGt); · rfl) | ((with_reducible apply Z.cGf); · rfl) | ((with_reducible apply Z.gFrz); rfl) | ((with_reducible apply Z.gEqE); rfl) | ((with_reducible apply Z.gEqX); rfl) | ((with_reducible apply Z.gEqB); rfl) | ((with_reducible apply Z.gGet); rfl) | ((with_reducible apply Z.gAsg); rfl) | ((with_reducible apply Z.gWipe); rfl) | ((with_reducible apply Z.gGlo); rfl) | ((with_reducible apply Z.szL); rfl) | ((with_reducible apply Z.gIn) <;> first | rfl | ((with_reducible apply Z.gIn1); rfl)))
    all_goals first | rfl | exact lp
end Z57

namespace Z57
open PySem L2 Z
def encQ (q : Option Int × Option Int) : PyData := .tuple [encO q.1, encO q.2]
theorem zip_tm (T T' : Tm) (n : Nat) : zipD (tmL T n) (tmL T' n) = ((List.range n).map fun s => (T s, T' s)).map encQ := by
  unfold tmL
  rw [List.map_map]
  generalize List.range n = l
  induction l with
  | nil => rfl
  | cons x l ih => simp only [List.map_cons, zipD, ih]; rfl
def Ok (q : Option Int × Option Int) : Prop := ∀ v, q.2 = some v → ∃ u, q.1 = some u ∧ u ≤ v
def zbody : Ss := (.cons (.if (.and (.e (.cmp .notN (.var 19) (.cst .non))) (.and (.or (.e (.cmp .isN (.var 18) (.cst .non))) (.e (.cmp .lt (.var 19) (.var 18)))) (.e (.cmp .eq (.lc (.var 20) (.name 20) (.range (.cons (.var 2) .nil)) (.cons (.and (.e (.cmp .eq (.lc (.var 9) (.name 9) (.seq (.var 3)) (.cons (.e (.cmp .eq (.ix (.var 9) (.cst (.int 0))) (.var 20))) .nil) [9]) (.lst .nil))) (.e (.cmp .nmem (.var 20) (.var 6)))) .nil) [20]) (.lst .nil))))) (.cons (.ret (.cst (.bl false)))
  .nil) .nil)
  .nil)
def ybody : Ss := (.cons (.if (.and (.e (.cmp .notN (.var 22) (.cst .non))) (.or (.e (.cmp .isN (.var 21) (.cst .non))) (.e (.cmp .gt (.var 21) (.var 22))))) (.cons (.ret (.cst (.bl false)))
  .nil) .nil)
  .nil)
section
variable {F : Str → List Slot → DS → Option (R × DS)} {s : DS} {x2 x3 x6 x7 x8 x10 x11 x13 x14 x15 x16 x17 x18 x19 x21 x22 : Slot}
theorem zstep {q : Option Int × Option Int} (h : Ok q) : forSt F Gf (.tup (.cons (.name 18) (.cons (.name 19) .nil))) zbody (encQ q) (lv x2 x3 x6 x7 x8 x10 x11 x13 x14 x15 x16 x17 x18 x19 x21 x22) s = some (.nx (lv x2 x3 x6 x7 x8 x10 x11 x13 x14 x15 x16 x17 (.val (encO q.1)) (.val (encO q.2)) x21 x22) s) := by
  obtain ⟨x, y⟩ := q
  refine fStep (ρ' := lv x2 x3 x6 x7 x8 x10 x11 x13 x14 x15 x16 x17 (.val (encO x)) (.val (encO y)) x21 x22) rfl ?_
  unfold zbody
  cases y with
  | none =>
    show evSs F Gf _ (lv x2 x3 x6 x7 x8 x10 x11 x13 x14 x15 x16 x17 (.val (encO x)) (.val .none) x21 x22) s = some (.nx (lv x2 x3 x6 x7 x8 x10 x11 x13 x14 x15 x16 x17 (.val (encO x)) (.val .none) x21 x22) s)
    (repeat first | with_reducible exact Z.gSo | with_reducible exact Z.rCs | with_reducible exact Z.rCi | with_reducible exact Z.rCb | with_reducible exact Z.rCn | with_reducible exact Z.rF | with_reducible exact Z.srV | with_reducible exact Z.iaV | with_reducible exact Z.iaF | with_reducible exact Z.iaA | with_reducible exact Z.srO | with_reducible exact Z.srH | with_reducible exact Z.srF | with_reducible exact Z.daV | with_reducible exact Z.daF | with_reducible exact Z.daA | with_reducible exact Z.slV | with_reducible exact Z.slF | with_reducible exact Z.slH | with_reducible exact Z.slFn | with_reducible exact Z.emV | with_reducible exact Z.emF | with_reducible exact Z.ebN | with_reducible exact Z.reV | with_reducible exact Z.reF | with_reducible exact Z.reA | with_reducible exact Z.agN | with_reducible exact Z.arV | with_reducible exact Z.arF | with_reducible exact Z.arA | with_reducible exact Z.arH | with_reducible exact Z.arFn | with_reducible exact Z.inB | with_reducible exact Z.inI | with_reducible exact Z.inN | with_reducible exact Z.trB | with_reducible exact Z.trI | with_reducible exact Z.trL | with_reducible exact Z.trT | with_reducible exact Z.trN | with_reducible exact Z.bnAdd | with_reducible exact Z.bnSub | with_reducible exact Z.cpLt | with_reducible exact Z.cpLe | with_reducible exact Z.cpGt | with_reducible exact Z.cpGe | with_reducible exact Z.cpIs | with_reducible exact Z.cpNo | with_reducible exact Z.cEqI | with_reducible exact Z.cNeI | with_reducible exact Z.cEqB | with_reducible exact Z.cNeB | with_reducible exact Z.sqL | with_reducible exact Z.sqT | with_reducible exact Z.ix0 | with_reducible exact Z.ix1 | with_reducible exact Z.ix2 | with_reducible exact Z.ix3 | with_reducible exact Z.ix4 | with_reducible exact Z.rNil | with_reducible exact Z.rTsN | with_reducible exact Z.rOn | with_reducible exact Z.ssN | with_reducible exact Z.coR | with_reducible exact Z.coC | with_reducible exact Z.coB | with_reducible exact Z.sRetN | with_reducible exact Z.sCont | with_reducible exact Z.sBrk | with_reducible exact Z.sPass | with_reducible apply Z.ebC | with_reducible apply Z.agC | with_reducible apply Z.rV | with_reducible apply Z.rG | with_reducible apply Z.ssF | with_reducible apply Z.ssC | with_reducible apply Z.coN | with_reducible apply Z.sRet | with_reducible apply Z.sIf | with_reducible apply Z.cT | with_reducible apply Z.cF | with_reducible apply Z.sAsg | with_reducible apply Z.sAsgT | with_reducible apply Z.sPar | with_reducible apply Z.sPar3 | with_reducible apply Z.sExpr | with_reducible apply Z.sMeth | with_reducible apply Z.sSetix | with_reducible apply Z.sAugA | with_reducible apply Z.sAugS | with_reducible apply Z.rTe | with_reducible apply Z.rTnot | with_reducible apply Z.rTand | with_reducible apply Z.rTor | with_reducible apply Z.rTsC | with_reducible apply Z.rCons | with_reducible apply Z.rCmp | with_reducible apply Z.rBin | with_reducible apply Z.rIx | with_reducible apply Z.rSl | with_reducible apply Z.rOs | with_reducible apply Z.rNeg | with_reducible apply Z.rNot | with_reducible apply Z.rAnd | with_reducible apply Z.rOr | with_reducible apply Z.rIte | with_reducible apply Z.rCall | with_reducible apply Z.rCallV | with_reducible apply Z.rBlt | with_reducible apply Z.rIsi | with_reducible apply Z.rTup | with_reducible apply Z.rLst | with_reducible apply Z.rRange | with_reducible apply Z.rSeq | with_reducible apply Z.rEnum | with_reducible apply Z.bnAddT | with_reducible apply Z.bnAddL | with_reducible apply Z.blLL | with_reducible apply Z.blLT | with_reducible apply Z.blMx | with_reducible apply Z.blMn | with_reducible apply Z.mtApp | with_reducible apply Z.mtExt | ((with_reducible apply Z.cGt); · rfl) | ((with_reducible apply Z.cGf); · rfl) | ((with_reducible apply Z.gFrz); rfl) | ((with_reducible apply Z.gEqE); rfl) | ((with_reducible apply Z.gEqX); rfl) | ((with_reducible apply Z.gEqB); rfl) | ((with_reducible apply Z.gGet); rfl) | ((with_reducible apply Z.gAsg); rfl) | ((with_reducible apply Z.gWipe); rfl) | ((with_reducible apply Z.gGlo); rfl) | ((with_reducible apply Z.szL); rfl) | ((with_reducible apply Z.gIn) <;> first | rfl | ((with_reducible apply Z.gIn1); rfl)))
    all_goals rfl
  | some v =>
    obtain ⟨u, h1, h2⟩ := h v rfl
    simp only at h1
    subst h1
    show evSs F Gf _ (lv x2 x3 x6 x7 x8 x10 x11 x13 x14 x15 x16 x17 (.val (.int u)) (.val (.int v)) x21 x22) s = some (.nx (lv x2 x3 x6 x7 x8 x10 x11 x13 x14 x15 x16 x17 (.val (.int u)) (.val (.int v)) x21 x22) s)
    have lt := iLtF (show ¬ v < u by omega)
    have i1 : evCmp .isN (.int u) .none = some false := rfl
    (repeat first | with_reducible exact lt | with_reducible exact i1 | with_reducible exact Z.gSo | with_reducible exact Z.rCs | with_reducible exact Z.rCi | with_reducible exact Z.rCb | with_reducible exact Z.rCn | with_reducible exact Z.rF | with_reducible exact Z.srV | with_reducible exact Z.iaV | with_reducible exact Z.iaF | with_reducible exact Z.iaA | with_reducible exact Z.srO | with_reducible exact Z.srH | with_reducible exact Z.srF | with_reducible exact Z.daV | with_reducible exact Z.daF | with_reducible exact Z.daA | with_reducible exact Z.slV | with_reducible exact Z.slF | with_reducible exact Z.slH | with_reducible exact Z.slFn | with_reducible exact Z.emV | with_reducible exact Z.emF | with_reducible exact Z.ebN | with_reducible exact Z.reV | with_reducible exact Z.reF | with_reducible exact Z.reA | with_reducible exact Z.agN | with_reducible exact Z.arV | with_reducible exact Z.arF | with_reducible exact Z.arA | with_reducible exact Z.arH | with_reducible exact Z.arFn | with_reducible exact Z.inB | with_reducible exact Z.inI | with_reducible exact Z.inN | with_reducible exact Z.trB | with_reducible exact Z.trI | with_reducible exact Z.trL | with_reducible exact Z.trT | with_reducible exact Z.trN | with_reducible exact Z.bnAdd | with_reducible exact Z.bnSub | with_reducible exact Z.cpLt | with_reducible exact Z.cpLe | with_reducible exact Z.cpGt | with_reducible exact Z.cpGe | with_reducible exact Z.cpIs | with_reducible exact Z.cpNo | with_reducible exact Z.cEqI | with_reducible exact Z.cNeI | with_reducible exact Z.cEqB | with_reducible exact Z.cNeB | with_reducible exact Z.sqL | with_reducible exact Z.sqT | with_reducible exact Z.ix0 | with_reducible exact Z.ix1 | with_reducible exact Z.ix2 | with_reducible exact Z.ix3 | with_reducible exact Z.ix4 | with_reducible exact Z.rNil | with_reducible exact Z.rTsN | with_reducible exact Z.rOn | with_reducible exact Z.ssN | with_reducible exact Z.coR | with_reducible exact Z.coC | with_reducible exact Z.coB | with_reducible exact Z.sRetN | with_reducible exact Z.sCont | with_reducible exact Z.sBrk | with_reducible exact Z.sPass | with_reducible apply Z.ebC | with_reducible apply Z.agC | with_reducible apply Z.rV | with_reducible apply Z.rG | with_reducible apply Z.ssF | with_reducible apply Z.ssC | with_reducible apply Z.coN | with_reducible apply Z.sRet | with_reducible apply Z.sIf | with_reducible apply Z.cT | with_reducible apply Z.cF | with_reducible apply Z.sAsg | with_reducible apply Z.sAsgT | with_reducible apply Z.sPar | with_reducible apply Z.sPar3 | with_reducible apply Z.sExpr | with_reducible apply Z.sMeth | with_reducible apply Z.sSetix | with_reducible apply Z.sAugA | with_reducible apply Z.sAugS | with_reducible apply Z.rTe | with_reducible apply Z.rTnot | with_reducible apply Z.rTand | with_reducible apply Z.rTor | with_reducible apply Z.rTsC | with_reducible apply Z.rCons | with_reducible apply Z.rCmp | with_reducible apply Z.rBin | with_reducible apply Z.rIx | with_reducible apply Z.rSl | with_reducible apply Z.rOs | with_reducible apply Z.rNeg | with_reducible apply Z.rNot | with_reducible apply Z.rAnd | with_reducible apply Z.rOr | with_reducible apply Z.rIte | with_reducible apply Z.rCall | with_reducible apply Z.rCallV | with_reducible apply Z.rBlt | with_reducible apply Z.rIsi | with_reducible apply Z.rTup | with_reducible apply Z.rLst | with_reducible apply Z.rRange | with_reducible apply Z.rSeq | with_reducible apply Z.rEnum | with_reducible apply Z.bnAddT | with_reducible apply Z.bnAddL | with_reducible apply Z.blLL | with_reducible apply Z.blLT | with_reducible apply Z.blMx | with_reducible apply Z.blMn | with_reducible apply Z.mtApp | with_reducible apply Z.mtExt | ((with_reducible apply Z.cGt); · rfl) | ((with_reducible apply Z.cGf); · rfl) | ((with_reducible apply Z.gFrz); rfl) | ((with_reducible apply Z.gEqE); rfl) | ((with_reducible apply Z.gEqX); rfl) | ((with_reducible apply Z.gEqB); rfl) | ((with_reducible apply Z.gGet); rfl) | ((with_reducible apply Z.gAsg); rfl) | ((with_reducible apply Z.gWipe); rfl) | ((with_reducible apply Z.gGlo); rfl) | ((with_reducible apply Z.szL); rfl) | ((with_reducible apply Z.gIn) <;> first | rfl | ((with_reducible apply Z.gIn1); rfl)))
    all_goals rfl
theorem ystep {q : Option Int × Option Int} (h : Ok q) : forSt F Gf (.tup (.cons (.name 21) (.cons (.name 22) .nil))) ybody (encQ q) (lv x2 x3 x6 x7 x8 x10 x11 x13 x14 x15 x16 x17 x18 x19 x21 x22) s = some (.nx (lv x2 x3 x6 x7 x8 x10 x11 x13 x14 x15 x16 x17 x18 x19 (.val (encO q.1)) (.val (encO q.2))) s) := by
  obtain ⟨x, y⟩ := q
  refine fStep (ρ' := lv x2 x3 x6 x7 x8 x10 x11 x13 x14 x15 x16 x17 x18 x19 (.val (encO x)) (.val (encO y))) rfl ?_
  unfold ybody
  cases y with
  | none =>
    show evSs F Gf _ (lv x2 x3 x6 x7 x8 x10 x11 x13 x14 x15 x16 x17 x18 x19 (.val (encO x)) (.val .none)) s = some (.nx (lv x2 x3 x6 x7 x8 x10 x11 x13 x14 x15 x16 x17 x18 x19 (.val (encO x)) (.val .none)) s)
    (repeat first | with_reducible exact Z.gSo | with_reducible exact Z.rCs | with_reducible exact Z.rCi | with_reducible exact Z.rCb | with_reducible exact Z.rCn | with_reducible exact Z.rF | with_reducible exact Z.srV | with_reducible exact Z.iaV | with_reducible exact Z.iaF | with_reducible exact Z.iaA | with_reducible exact Z.srO | with_reducible exact Z.srH | with_reducible exact Z.srF | with_reducible exact Z.daV | with_reducible exact Z.daF | with_reducible exact Z.daA | with_reducible exact Z.slV | with_reducible exact Z.slF | with_reducible exact Z.slH | with_reducible exact Z.slFn | with_reducible exact Z.emV | with_reducible exact Z.emF | with_reducible exact Z.ebN | with_reducible exact Z.reV | with_reducible exact Z.reF | with_reducible exact Z.reA | with_reducible exact Z.agN | with_reducible exact Z.arV | with_reducible exact Z.arF | with_reducible exact Z.arA | with_reducible exact Z.arH | with_reducible exact Z.arFn | with_reducible exact Z.inB | with_reducible exact Z.inI | with_reducible exact Z.inN | with_reducible exact Z.trB | with_reducible exact Z.trI | with_reducible exact Z.trL | with_reducible exact Z.trT | with_reducible exact Z.trN | with_reducible exact Z.bnAdd | with_reducible exact Z.bnSub | with_reducible exact Z.cpLt | with_reducible exact Z.cpLe | with_reducible exact Z.cpGt | with_reducible exact Z.cpGe | with_reducible exact Z.cpIs | with_reducible exact Z.cpNo | with_reducible exact Z.cEqI | with_reducible exact Z.cNeI | with_reducible exact Z.cEqB | with_reducible exact Z.cNeB | with_reducible exact Z.sqL | with_reducible exact Z.sqT | with_reducible exact Z.ix0 | with_reducible exact Z.ix1 | with_reducible exact Z.ix2 | with_reducible exact Z.ix3 | with_reducible exact Z.ix4 | with_reducible exact Z.rNil | with_reducible exact Z.rTsN | with_reducible exact Z.rOn | with_reducible exact Z.ssN | with_reducible exact Z.coR | with_reducible exact Z.coC | with_reducible exact Z.coB | with_reducible exact Z.sRetN | with_reducible exact Z.sCont | with_reducible exact Z.sBrk | with_reducible exact Z.sPass | with_reducible apply Z.ebC | with_reducible apply Z.agC | with_reducible apply Z.rV | with_reducible apply Z.rG | with_reducible apply Z.ssF | with_reducible apply Z.ssC | with_reducible apply Z.coN | with_reducible apply Z.sRet | with_reducible apply Z.sIf | with_reducible apply Z.cT | with_reducible apply Z.cF | with_reducible apply Z.sAsg | with_reducible apply Z.sAsgT | with_reducible apply Z.sPar | with_reducible apply Z.sPar3 | with_reducible apply Z.sExpr | with_reducible apply Z.sMeth | with_reducible apply Z.sSetix | with_reducible apply Z.sAugA | with_reducible apply Z.sAugS | with_reducible apply Z.rTe | with_reducible apply Z.rTnot | with_reducible apply Z.rTand | with_reducible apply Z.rTor | with_reducible apply Z.rTsC | with_reducible apply Z.rCons | with_reducible apply Z.rCmp | with_reducible apply Z.rBin | with_reducible apply Z.rIx | with_reducible apply Z.rSl | with_reducible apply Z.rOs | with_reducible apply Z.rNeg | with_reducible apply Z.rNot | with_reducible apply Z.rAnd | with_reducible apply Z.rOr | with_reducible apply Z.rIte | with_reducible apply Z.rCall | with_reducible apply Z.rCallV | with_reducible apply Z.rBlt | with_reducible apply Z.rIsi | with_reducible apply Z.rTup | with_reducible apply Z.rLst | with_reducible apply Z.rRange | with_reducible apply Z.rSeq | with_reducible apply Z.rEnum | with_reducible apply Z.bnAddT | with_reducible apply Z.bnAddL | with_reducible apply Z.blLL | with_reducible apply Z.blLT | with_reducible apply Z.blMx | with_reducible apply Z.blMn | with_reducible apply Z.mtApp | with_reducible apply Z.mtExt | ((with_reducible apply Z.cGt); · rfl) | ((with_reducible apply Z.cGf); · rfl) | ((with_reducible apply Z.gFrz); rfl) | ((with_reducible apply Z.gEqE); rfl) | ((with_reducible apply Z.gEqX); rfl) | ((with_reducible apply Z.gEqB); rfl) | ((with_reducible apply Z.gGet); rfl) | ((with_reducible apply Z.gAsg); rfl) | ((with_reducible apply Z.gWipe); rfl) | ((with_reducible apply Z.gGlo); rfl) | ((with_reducible apply Z.szL); rfl) | ((with_reducible apply Z.gIn) <;> first | rfl | ((with_reducible apply Z.gIn1); rfl)))
    all_goals rfl
  | some v =>
    obtain ⟨u, h1, h2⟩ := h v rfl
    simp only at h1
    subst h1
    show evSs F Gf _ (lv x2 x3 x6 x7 x8 x10 x11 x13 x14 x15 x16 x17 x18 x19 (.val (.int u)) (.val (.int v))) s = some (.nx (lv x2 x3 x6 x7 x8 x10 x11 x13 x14 x15 x16 x17 x18 x19 (.val (.int u)) (.val (.int v))) s)
    have lt := iGtF (show ¬ v < u by omega)
    have i1 : evCmp .isN (.int u) .none = some false := rfl
    (repeat first | with_reducible exact lt | with_reducible exact i1 | with_reducible exact Z.gSo | with_reducible exact Z.rCs | with_reducible exact Z.rCi | with_reducible exact Z.rCb | with_reducible exact Z.rCn | with_reducible exact Z.rF | with_reducible exact Z.srV | with_reducible exact Z.iaV | with_reducible exact Z.iaF | with_reducible exact Z.iaA | with_reducible exact Z.srO | with_reducible exact Z.srH | with_reducible exact Z.srF | with_reducible exact Z.daV | with_reducible exact Z.daF | with_reducible exact Z.daA | with_reducible exact Z.slV | with_reducible exact Z.slF | with_reducible exact Z.slH | with_reducible exact Z.slFn | with_reducible exact Z.emV | with_reducible exact Z.emF | with_reducible exact Z.ebN | with_reducible exact Z.reV | with_reducible exact Z.reF | with_reducible exact Z.reA | with_reducible exact Z.agN | with_reducible exact Z.arV | with_reducible exact Z.arF | with_reducible exact Z.arA | with_reducible exact Z.arH | with_reducible exact Z.arFn | with_reducible exact Z.inB | with_reducible exact Z.inI | with_reducible exact Z.inN | with_reducible exact Z.trB | with_reducible exact Z.trI | with_reducible exact Z.trL | with_reducible exact Z.trT | with_reducible exact Z.trN | with_reducible exact Z.bnAdd | with_reducible exact Z.bnSub | with_reducible exact Z.cpLt | with_reducible exact Z.cpLe | with_reducible exact Z.cpGt | with_reducible exact Z.cpGe | with_reducible exact Z.cpIs | with_reducible exact Z.cpNo | with_reducible exact Z.cEqI | with_reducible exact Z.cNeI | with_reducible exact Z.cEqB | with_reducible exact Z.cNeB | with_reducible exact Z.sqL | with_reducible exact Z.sqT | with_reducible exact Z.ix0 | with_reducible exact Z.ix1 | with_reducible exact Z.ix2 | with_reducible exact Z.ix3 | with_reducible exact Z.ix4 | with_reducible exact Z.rNil | with_reducible exact Z.rTsN | with_reducible exact Z.rOn | with_reducible exact Z.ssN | with_reducible exact Z.coR | with_reducible exact Z.coC | with_reducible exact Z.coB | with_reducible exact Z.sRetN | with_reducible exact Z.sCont | with_reducible exact Z.sBrk | with_reducible exact Z.sPass | with_reducible apply Z.ebC | with_reducible apply Z.agC | with_reducible apply Z.rV | with_reducible apply Z.rG | with_reducible apply Z.ssF | with_reducible apply Z.ssC | with_reducible apply Z.coN | with_reducible apply Z.sRet | with_reducible apply Z.sIf | with_reducible apply Z.cT | with_reducible apply Z.cF | with_reducible apply Z.sAsg | with_reducible apply Z.sAsgT | with_reducible apply Z.sPar | with_reducible apply Z.sPar3 | with_reducible apply Z.sExpr | with_reducible apply Z.sMeth | with_reducible apply Z.sSetix | with_reducible apply Z.sAugA | with_reducible apply Z.sAugS | with_reducible apply Z.rTe | with_reducible apply Z.rTnot | with_reducible apply Z.rTand | with_reducible apply Z.rTor | with_reducible apply Z.rTsC | with_reducible apply Z.rCons | with_reducible apply Z.rCmp | with_reducible apply Z.rBin | with_reducible apply Z.rIx | with_reducible apply Z.rSl | with_reducible apply Z.rOs | with_reducible apply Z.rNeg | with_reducible apply Z.rNot | with_reducible apply Z.rAnd | with_reducible apply Z.rOr | with_reducible apply Z.rIte | with_reducible apply Z.rCall | with_reducible apply Z.rCallV | with_reducible apply Z.rBlt | with_reducible apply Z.rIsi | with_reducible apply Z.rTup | with_reducible apply Z.rLst | with_reducible apply Z.rRange | with_reducible apply Z.rSeq | with_reducible apply Z.rEnum | with_reducible apply Z.bnAddT | with_reducible apply Z.bnAddL | with_reducible apply Z.blLL | with_reducible apply Z.blLT | with_reducible apply Z.blMx | with_reducible apply Z.blMn | with_reducible apply Z.mtApp | with_reducible apply Z.mtExt | ((with_reducible apply Z.cGt); · rfl) | ((with_reducible apply Z.cGf); · rfl) | ((with_reducible apply Z.gFrz); rfl) | ((with_reducible apply Z.gEqE); rfl) | ((with_reducible apply Z.gEqX); rfl) | ((with_reducible apply Z.gEqB); rfl) | ((with_reducible apply Z.gGet); rfl) | ((with_reducible apply Z.gAsg); rfl) | ((with_reducible apply Z.gWipe); rfl) | ((with_reducible apply Z.gGlo); rfl) | ((with_reducible apply Z.szL); rfl) | ((with_reducible apply Z.gIn) <;> first | rfl | ((with_reducible apply Z.gIn1); rfl)))
    all_goals rfl
end
end Z57

namespace Z57
open PySem L2 Z
theorem slTake {xs : List PyData} {a : Nat} (h : a ≤ xs.length) : evSl (.tuple xs) none (some (a : Int)) = some (.val (.tuple (xs.take a))) := by
  unfold evSl cut
  have e1 : HT.sIx xs.length 0 none = 0 := by simp [HT.sIx]
  have e2 : HT.sIx xs.length xs.length (some (a : Int)) = a := by rw [HT.sIx_nat]; omega
  simp only [e1, e2, List.drop_zero, Nat.sub_zero]
theorem slDrop {xs : List PyData} {a : Nat} (h : a ≤ xs.length) : evSl (.tuple xs) (some (a : Int)) none = some (.val (.tuple (xs.drop a))) := by
  unfold evSl cut
  have e1 : HT.sIx xs.length 0 (some (a : Int)) = a := by rw [HT.sIx_nat]; omega
  have e2 : HT.sIx xs.length xs.length none = xs.length := by simp [HT.sIx]
  simp only [e1, e2]
  congr 3
  rw [List.take_of_length_le]
  rw [List.length_drop]; omega
theorem give_own {own : Nat → Bool} {n a : Nat} (h : a < n) : (((List.range n).map fun s => PyData.int (if own s = true then 1 else 0)).take a ++ [.int 1]) ++ ((List.range n).map fun s => PyData.int (if own s = true then 1 else 0)).drop (a + 1) = (List.range n).map fun s => PyData.int (if give own a s = true then 1 else 0) := by
  apply List.ext_getElem?
  intro i
  have hl : (((List.range n).map fun s => PyData.int (if own s = true then 1 else 0)).take a).length = a := by simp; omega
  by_cases c : i < a
  · rw [List.append_assoc, List.getElem?_append_left (by omega)]
    rw [List.getElem?_take_of_lt c]
    have : i < n := by omega
    have : i ≠ a := by omega
    simp [*, give]
  · by_cases d : i = a
    · subst d
      rw [List.append_assoc, List.getElem?_append_right (by omega), hl, Nat.sub_self]
      simp [h, give]
    · rw [List.getElem?_append_right (by simp; omega)]
      simp only [List.length_append, hl, List.length_cons, List.length_nil, List.getElem?_drop]
      rw [show a + 1 + (i - (a + (0 + 1))) = i by omega]
      by_cases q : i < n
      · simp [q, give, d]
      · simp [q]
end Z57

namespace Z57
open PySem L2 Z
def sbody : Ss := (.frz [3, 6] (.cons (.asg (.name 17) (.call "least_times" (.cons (.tup (.cons (.bin .add (.bin .add (.sl (.var 15) .none (.some (.var 7))) (.tup (.cons (.cst (.int 1)) .nil))) (.sl (.var 15) (.some (.bin .add (.var 7) (.cst (.int 1)))) .none)) (.cons (.var 3) (.cons (.var 6) .nil)))) .nil)))
  (.frz [16, 17] (.cons (.for (.tup (.cons (.name 18) (.cons (.name 19) .nil))) (.zip (.var 16) (.var 17)) zbody)
  .nil))))
section
variable {k : Nat} {s : DS} {n : Nat} {E : List Ed} {gl : List Nat} {own : Nat → Bool} {x7 x8 x10 x11 x13 x14 x17 x18 x19 x21 x22 : Slot}
theorem sstep {a : Nat} (ha : a < n) (hn : n ≤ 400) (hz : E.length ≤ 1000) (hE : In n E) (p : Pos1 E) (hg : ∀ g ∈ gl, g < n) :
    ∃ y17 y18 y19, forSt (callT Gf tab (k + 3)) Gf (.name 7) sbody (.int a) (lv (.val (.int n)) (.val (.tuple (E.map encE))) (.val (glD gl)) x7 x8 x10 x11 x13 x14 (.val (ownD own n)) (.val (.tuple (tmL (rounds n own E n (start (goalOf gl))) n))) x17 x18 x19 x21 x22) s =
      some (.nx (lv (.val (.int n)) (.val (.tuple (E.map encE))) (.val (glD gl)) (.val (.int a)) x8 x10 x11 x13 x14 (.val (ownD own n)) (.val (.tuple (tmL (rounds n own E n (start (goalOf gl))) n))) y17 y18 y19 x21 x22) s) := by
  have hgo : ∀ s, goalOf gl s = true → s < n := fun s hs => hg s (by simpa [goalOf] using hs)
  have f1 := rounds_fix (own := own) (goal := goalOf gl) p hE hgo
  have f2 := rounds_fix (own := give own a) (goal := goalOf gl) p hE hgo
  have B := @run_least_times (give own a) E gl n k s (by omega) hz hE
  obtain ⟨ρ', s', lp, rfl, _, y18, y19, rfl⟩ := for_map (step := forSt (callT Gf tab (k + 3)) Gf (.tup (.cons (.name 18) (.cons (.name 19) .nil))) zbody) (g := encQ) (l := (List.range n).map fun s => (rounds n own E n (start (goalOf gl)) s, rounds n (give own a) E n (start (goalOf gl)) s))
    (ρ := lv (.val (.int n)) (.val (.tuple (E.map encE))) (.val (glD gl)) (.val (.int a)) x8 x10 x11 x13 x14 (.val (ownD own n)) (.val (.tuple (tmL (rounds n own E n (start (goalOf gl))) n))) (.val (.tuple (tmL (rounds n (give own a) E n (start (goalOf gl))) n))) x18 x19 x21 x22) (s := s)
    (fun rem ρ s' => s = s' ∧ (∀ q ∈ rem, Ok q) ∧ ∃ y18 y19, ρ = lv (.val (.int n)) (.val (.tuple (E.map encE))) (.val (glD gl)) (.val (.int a)) x8 x10 x11 x13 x14 (.val (ownD own n)) (.val (.tuple (tmL (rounds n own E n (start (goalOf gl))) n))) (.val (.tuple (tmL (rounds n (give own a) E n (start (goalOf gl))) n))) y18 y19 x21 x22)
    (fun q rem ρ s' h => by
      obtain ⟨rfl, hr, y18, y19, rfl⟩ := h
      exact ⟨_, _, zstep (hr q (.head _)), rfl, fun z hz => hr z (.tail _ hz), _, _, rfl⟩)
    ⟨rfl, fun q hq => by
      obtain ⟨i, _, rfl⟩ := List.mem_map.mp hq
      intro v hv
      exact Fix.le f1 f2 p (fun z hz => by unfold give; split <;> simp_all) hv, _, _, rfl⟩
  rw [← zip_tm] at lp
  refine ⟨.val (.tuple (tmL (rounds n (give own a) E n (start (goalOf gl))) n)), y18, y19, fStep (ρ' := lv (.val (.int n)) (.val (.tuple (E.map encE))) (.val (glD gl)) (.val (.int a)) x8 x10 x11 x13 x14 (.val (ownD own n)) (.val (.tuple (tmL (rounds n own E n (start (goalOf gl))) n))) x17 x18 x19 x21 x22) rfl ?_⟩
  unfold sbody
  have ow : ownD own n = .tuple ((List.range n).map fun s => PyData.int (if own s = true then 1 else 0)) := rfl
  have hlen : ((List.range n).map fun s => PyData.int (if own s = true then 1 else 0)).length = n := by simp
  have t1 := slTake (xs := (List.range n).map fun s => PyData.int (if own s = true then 1 else 0)) (a := a) (by omega)
  have t2 : evSl (.tuple ((List.range n).map fun s => PyData.int (if own s = true then 1 else 0))) (some ((a : Int) + 1)) none = some (.val (.tuple (((List.range n).map fun s => PyData.int (if own s = true then 1 else 0)).drop (a + 1)))) := by
    have := slDrop (xs := (List.range n).map fun s => PyData.int (if own s = true then 1 else 0)) (a := a + 1) (by omega)
    rw [← this]
    rfl
  have ad : evBin .add (.tuple (((List.range n).map fun s => PyData.int (if own s = true then 1 else 0)).take a ++ [.int 1])) (.tuple (((List.range n).map fun s => PyData.int (if own s = true then 1 else 0)).drop (a + 1))) = some (.val (ownD (give own a) n)) := by
    rw [bnAddT (by
      refine Nat.le_trans ?_ (show 1000 ≤ sizeLine by decide)
      simp; omega), give_own ha]
    rfl
  have sz1 : (((List.range n).map fun s => PyData.int (if own s = true then 1 else 0)).take a).length + [PyData.int 1].length ≤ sizeLine := by
    refine Nat.le_trans ?_ (show 1000 ≤ sizeLine by decide)
    simp; omega
  rw [ow] at lp ⊢
  rw [show val (give own a) E gl n = .tuple [ownD (give own a) n, .tuple (E.map encE), glD gl] from rfl] at B
  (repeat first | with_reducible exact B | with_reducible exact t1 | with_reducible exact t2 | with_reducible exact ad | with_reducible exact sz1 | with_reducible apply Z.rZipT | with_reducible apply Z.sFor2 (h2 := lp) | with_reducible exact Z.gSo | with_reducible exact Z.rCs | with_reducible exact Z.rCi | with_reducible exact Z.rCb | with_reducible exact Z.rCn | with_reducible exact Z.rF | with_reducible exact Z.srV | with_reducible exact Z.iaV | with_reducible exact Z.iaF | with_reducible exact Z.iaA | with_reducible exact Z.srO | with_reducible exact Z.srH | with_reducible exact Z.srF | with_reducible exact Z.daV | with_reducible exact Z.daF | with_reducible exact Z.daA | with_reducible exact Z.slV | with_reducible exact Z.slF | with_reducible exact Z.slH | with_reducible exact Z.slFn | with_reducible exact Z.emV | with_reducible exact Z.emF | with_reducible exact Z.ebN | with_reducible exact Z.reV | with_reducible exact Z.reF | with_reducible exact Z.reA | with_reducible exact Z.agN | with_reducible exact Z.arV | with_reducible exact Z.arF | with_reducible exact Z.arA | with_reducible exact Z.arH | with_reducible exact Z.arFn | with_reducible exact Z.inB | with_reducible exact Z.inI | with_reducible exact Z.inN | with_reducible exact Z.trB | with_reducible exact Z.trI | with_reducible exact Z.trL | with_reducible exact Z.trT | with_reducible exact Z.trN | with_reducible exact Z.bnAdd | with_reducible exact Z.bnSub | with_reducible exact Z.cpLt | with_reducible exact Z.cpLe | with_reducible exact Z.cpGt | with_reducible exact Z.cpGe | with_reducible exact Z.cpIs | with_reducible exact Z.cpNo | with_reducible exact Z.cEqI | with_reducible exact Z.cNeI | with_reducible exact Z.cEqB | with_reducible exact Z.cNeB | with_reducible exact Z.sqL | with_reducible exact Z.sqT | with_reducible exact Z.ix0 | with_reducible exact Z.ix1 | with_reducible exact Z.ix2 | with_reducible exact Z.ix3 | with_reducible exact Z.ix4 | with_reducible exact Z.rNil | with_reducible exact Z.rTsN | with_reducible exact Z.rOn | with_reducible exact Z.ssN | with_reducible exact Z.coR | with_reducible exact Z.coC | with_reducible exact Z.coB | with_reducible exact Z.sRetN | with_reducible exact Z.sCont | with_reducible exact Z.sBrk | with_reducible exact Z.sPass | with_reducible apply Z.ebC | with_reducible apply Z.agC | with_reducible apply Z.rV | with_reducible apply Z.rG | with_reducible apply Z.ssF | with_reducible apply Z.ssC | with_reducible apply Z.coN | with_reducible apply Z.sRet | with_reducible apply Z.sIf | with_reducible apply Z.cT | with_reducible apply Z.cF | with_reducible apply Z.sAsg | with_reducible apply Z.sAsgT | with_reducible apply Z.sPar | with_reducible apply Z.sPar3 | with_reducible apply Z.sExpr | with_reducible apply Z.sMeth | with_reducible apply Z.sSetix | with_reducible apply Z.sAugA | with_reducible apply Z.sAugS | with_reducible apply Z.rTe | with_reducible apply Z.rTnot | with_reducible apply Z.rTand | with_reducible apply Z.rTor | with_reducible apply Z.rTsC | with_reducible apply Z.rCons | with_reducible apply Z.rCmp | with_reducible apply Z.rBin | with_reducible apply Z.rIx | with_reducible apply Z.rSl | with_reducible apply Z.rOs | with_reducible apply Z.rNeg | with_reducible apply Z.rNot | with_reducible apply Z.rAnd | with_reducible apply Z.rOr | with_reducible apply Z.rIte | with_reducible apply Z.rCall | with_reducible apply Z.rCallV | with_reducible apply Z.rBlt | with_reducible apply Z.rIsi | with_reducible apply Z.rTup | with_reducible apply Z.rLst | with_reducible apply Z.rRange | with_reducible apply Z.rSeq | with_reducible apply Z.rEnum | with_reducible apply Z.bnAddT | with_reducible apply Z.bnAddL | with_reducible apply Z.blLL | with_reducible apply Z.blLT | with_reducible apply Z.blMx | with_reducible apply Z.blMn | with_reducible apply Z.mtApp | with_reducible apply Z.mtExt | ((with_reducible apply Z.cGt); · rfl) | ((with_reducible apply Z.cGf); · rfl) | ((with_reducible apply Z.gFrz); rfl) | ((with_reducible apply Z.gEqE); rfl) | ((with_reducible apply Z.gEqX); rfl) | ((with_reducible apply Z.gEqB); rfl) | ((with_reducible apply Z.gGet); rfl) | ((with_reducible apply Z.gAsg); rfl) | ((with_reducible apply Z.gWipe); rfl) | ((with_reducible apply Z.gGlo); rfl) | ((with_reducible apply Z.szL); rfl) | ((with_reducible apply Z.gIn) <;> first | rfl | ((with_reducible apply Z.gIn1); rfl)))
  all_goals rfl
end
end Z57

namespace Z57
open PySem L2 Z
theorem pairs_ok {n : Nat} {q : Nat × Nat} (h : q ∈ pairs n) : q.1 < n ∧ q.2 < n := by
  unfold pairs at h
  simp only [List.mem_flatMap, List.mem_map, List.mem_range] at h
  obtain ⟨i, hi, j, hj, rfl⟩ := h
  exact ⟨hi, hj⟩
theorem pairs_len {n : Nat} (h : n ≤ 5) (h1 : 1 ≤ n) : (pairs n).length ≤ 25 := by
  match n, h1, h with
  | 1, _, _ => decide
  | 2, _, _ => decide
  | 3, _, _ => decide
  | 4, _, _ => decide
  | 5, _, _ => decide
theorem plain : ∀ s : DS, ∃ s', evSs (callT Gf tab 100) Gf ir_law (.no :: .hdl :: List.replicate 21 .no) s = some (.rt (.val (.bool true)) s') := by
  intro s
  obtain ⟨j, s1, hj, t1⟩ := @run_take 99 s 5 (by omega) (by omega)
  have t1 : callT Gf tab 100 "_law_take" [.hdl, .val (.int 5)] s = some (.val (.int j), s1) := t1
  obtain ⟨n, en⟩ : ∃ n, n = j + 1 := ⟨_, rfl⟩
  have en' : (1 : Int) + (j : Int) = (n : Int) := by omega
  have pbn := pb 99 s1 n (by omega) (by omega)
  have pbn : callT Gf tab 100 "_law_pairs_below" [.val (.int n)] s1 = some (.fresh ((pairs n).map encP), s1) := pbn
  obtain ⟨E, s2, lpE, hE0, hEl⟩ := @drawE 99 (.val (.int n)) (pairs n) s1
  have hpl := pairs_len (n := n) (by omega) (by omega)
  have hE : In n E := fun e he => pairs_ok (hE0 e he).1
  have p : Pos1 E := fun e he => (hE0 e he).2
  obtain ⟨gl, s3, lpG, hg0, hgl⟩ := @drawG 99 (.val (.int n)) (.val (.tuple (E.map encE))) (List.range n) s2
  have hg : ∀ g ∈ gl, g < n := fun g h => List.mem_range.mp (hg0 g h)
  have rg : evRange [.val (.int (n : Int))] = some ((List.range n).map fun (k : Nat) => PyData.int (k : Int)) := rgI (by omega) (by omega)
  have hlr : ((List.range n).map fun (k : Nat) => PyData.int (k : Int)).length ≤ sizeLine := by rw [List.length_map, List.length_range]; exact Nat.le_trans (show n ≤ 5 by omega) (by decide)
  have hlp : ((pairs n).map encP).length ≤ sizeLine := by rw [List.length_map]; exact Nat.le_trans hpl (by decide)
  have tp : ∀ xs, evBlt .tuple [.fresh xs] = some (.val (.tuple xs)) := fun _ => rfl
  have hnl : n ≤ 1000 := by omega
  have hz : E.length ≤ 1000 := by omega
  have hgl2 : gl.length ≤ 1000 := by rw [List.length_range] at hgl; omega
  have hgo : ∀ s, goalOf gl s = true → s < n := fun s hs => hg s (by simpa [goalOf] using hs)
  -- the table
  have TB : callT Gf tab 100 "table_of" [.val (.tuple [.int n, .tuple ((noSelf E).map encE)])] s3 = some (.val (tabD n E), s3) := run_table_of (k := 97) (D := dist n E) hnl hE.noSelf p.noSelf (fun a ha => dist_low hE p ha)
  have lpS : ∀ ρ : Z.Env, 9 < ρ.length → lcLoop (lcSt (callT Gf tab 100) Gf (.var 9) (.name 9) (.cons (.e (.cmp .ne (.ix (.var 9) (.cst (.int 0))) (.ix (.var 9) (.cst (.int 1))))) .nil) ρ) (E.map encE) s3 = some ((noSelf E).map encE, s3) := by
    intro ρ h9
    unfold noSelf
    refine lc_fil (α := Ed) (p := fun e => e.1 != e.2.1) fun e _ => ?_
    have g9 : (ρ.set 9 (.val (encE e)))[9]? = some (.val (.tuple [.int e.1, .int e.2.1, .int e.2.2])) := List.getElem?_set_self h9
    have q : ((e.1 : Int) != (e.2.1 : Int)) = (e.1 != e.2.1) := by
      rw [Bool.eq_iff_iff]; simp only [bne_iff_ne]; omega
    have h1 : evTs (callT Gf tab 100) Gf (.cons (.e (.cmp .ne (.ix (.var 9) (.cst (.int 0))) (.ix (.var 9) (.cst (.int 1))))) .nil) (ρ.set 9 (.val (encE e))) s3 = some ((e.1 != e.2.1) && true, s3) := by
      rw [← q]
      (repeat first | with_reducible exact g9 | with_reducible exact Z.gSo | with_reducible exact Z.rCs | with_reducible exact Z.rCi | with_reducible exact Z.rCb | with_reducible exact Z.rCn | with_reducible exact Z.rF | with_reducible exact Z.srV | with_reducible exact Z.iaV | with_reducible exact Z.iaF | with_reducible exact Z.iaA | with_reducible exact Z.srO | with_reducible exact Z.srH | with_reducible exact Z.srF | with_reducible exact Z.daV | with_reducible exact Z.daF | with_reducible exact Z.daA | with_reducible exact Z.slV | with_reducible exact Z.slF | with_reducible exact Z.slH | with_reducible exact Z.slFn | with_reducible exact Z.emV | with_reducible exact Z.emF | with_reducible exact Z.ebN | with_reducible exact Z.reV | with_reducible exact Z.reF | with_reducible exact Z.reA | with_reducible exact Z.agN | with_reducible exact Z.arV | with_reducible exact Z.arF | with_reducible exact Z.arA | with_reducible exact Z.arH | with_reducible exact Z.arFn | with_reducible exact Z.inB | with_reducible exact Z.inI | with_reducible exact Z.inN | with_reducible exact Z.trB | with_reducible exact Z.trI | with_reducible exact Z.trL | with_reducible exact Z.trT | with_reducible exact Z.trN | with_reducible exact Z.bnAdd | with_reducible exact Z.bnSub | with_reducible exact Z.cpLt | with_reducible exact Z.cpLe | with_reducible exact Z.cpGt | with_reducible exact Z.cpGe | with_reducible exact Z.cpIs | with_reducible exact Z.cpNo | with_reducible exact Z.cEqI | with_reducible exact Z.cNeI | with_reducible exact Z.cEqB | with_reducible exact Z.cNeB | with_reducible exact Z.sqL | with_reducible exact Z.sqT | with_reducible exact Z.ix0 | with_reducible exact Z.ix1 | with_reducible exact Z.ix2 | with_reducible exact Z.ix3 | with_reducible exact Z.ix4 | with_reducible exact Z.rNil | with_reducible exact Z.rTsN | with_reducible exact Z.rOn | with_reducible exact Z.ssN | with_reducible exact Z.coR | with_reducible exact Z.coC | with_reducible exact Z.coB | with_reducible exact Z.sRetN | with_reducible exact Z.sCont | with_reducible exact Z.sBrk | with_reducible exact Z.sPass | with_reducible apply Z.ebC | with_reducible apply Z.agC | with_reducible apply Z.rV | with_reducible apply Z.rG | with_reducible apply Z.ssF | with_reducible apply Z.ssC | with_reducible apply Z.coN | with_reducible apply Z.sRet | with_reducible apply Z.sIf | with_reducible apply Z.cT | with_reducible apply Z.cF | with_reducible apply Z.sAsg | with_reducible apply Z.sAsgT | with_reducible apply Z.sPar | with_reducible apply Z.sPar3 | with_reducible apply Z.sExpr | with_reducible apply Z.sMeth | with_reducible apply Z.sSetix | with_reducible apply Z.sAugA | with_reducible apply Z.sAugS | with_reducible apply Z.rTe | with_reducible apply Z.rTnot | with_reducible apply Z.rTand | with_reducible apply Z.rTor | with_reducible apply Z.rTsC | with_reducible apply Z.rCons | with_reducible apply Z.rCmp | with_reducible apply Z.rBin | with_reducible apply Z.rIx | with_reducible apply Z.rSl | with_reducible apply Z.rOs | with_reducible apply Z.rNeg | with_reducible apply Z.rNot | with_reducible apply Z.rAnd | with_reducible apply Z.rOr | with_reducible apply Z.rIte | with_reducible apply Z.rCall | with_reducible apply Z.rCallV | with_reducible apply Z.rBlt | with_reducible apply Z.rIsi | with_reducible apply Z.rTup | with_reducible apply Z.rLst | with_reducible apply Z.rRange | with_reducible apply Z.rSeq | with_reducible apply Z.rEnum | with_reducible apply Z.bnAddT | with_reducible apply Z.bnAddL | with_reducible apply Z.blLL | with_reducible apply Z.blLT | with_reducible apply Z.blMx | with_reducible apply Z.blMn | with_reducible apply Z.mtApp | with_reducible apply Z.mtExt | ((with_reducible apply Z.cGt); · rfl) | ((with_reducible apply Z.cGf); · rfl) | ((with_reducible apply Z.gFrz); rfl) | ((with_reducible apply Z.gEqE); rfl) | ((with_reducible apply Z.gEqX); rfl) | ((with_reducible apply Z.gEqB); rfl) | ((with_reducible apply Z.gGet); rfl) | ((with_reducible apply Z.gAsg); rfl) | ((with_reducible apply Z.gWipe); rfl) | ((with_reducible apply Z.gGlo); rfl) | ((with_reducible apply Z.szL); rfl) | ((with_reducible apply Z.gIn) <;> first | rfl | ((with_reducible apply Z.gIn1); rfl)))
    rw [Bool.and_true] at h1
    exact lcS (ρ' := ρ.set 9 (.val (encE e))) rfl h1 (rV g9 rfl) rfl
  have hlE : (E.map encE).length ≤ sizeLine := by rw [List.length_map]; exact Nat.le_trans hz (by decide)
  -- what is due
  obtain ⟨ρ1, q1, lp1, rfl, _, acc, y7, y11, rfl, hacc, _⟩ := for_map (step := forSt (callT Gf tab 100) Gf (.name 7) dbody) (g := fun (k : Nat) => PyData.int (k : Int)) (l := List.range n)
    (ρ := lv (.val (.int n)) (.val (.tuple (E.map encE))) (.val (glD gl)) .no (.val (tabD n E)) (.own []) .no .no .no .no .no .no .no .no .no .no) (s := s3)
    (fun rem ρ s' => s3 = s' ∧ (∀ a ∈ rem, a < n) ∧ ∃ acc y7 y11, ρ = lv (.val (.int n)) (.val (.tuple (E.map encE))) (.val (glD gl)) y7 (.val (tabD n E)) (.own acc) y11 .no .no .no .no .no .no .no .no .no ∧ acc ++ rem.map (fun a => encO (minO (gl.map fun g => dist n E a g))) = (List.range n).map (fun a => encO (minO (gl.map fun g => dist n E a g))) ∧ acc.length + rem.length = n)
    (fun a rem ρ s' h => by
      obtain ⟨rfl, hr, acc, y7, y11, rfl, ha, hlen⟩ := h
      rw [List.length_cons] at hlen
      obtain ⟨y, e⟩ := dstep (F := callT Gf tab 100) (x2 := .val (.int n)) (x3 := .val (.tuple (E.map encE))) (x7 := y7) (x11 := y11) (x13 := .no) (x14 := .no) (x15 := .no) (x16 := .no) (x17 := .no) (x18 := .no) (x19 := .no) (x21 := .no) (x22 := .no) (s := s3) (acc := acc) (by omega) hg hgl2 (hr a (.head _))
      refine ⟨_, _, e, rfl, fun b hb => hr b (.tail _ hb), _, _, _, rfl, ?_, by simp; omega⟩
      rw [List.append_assoc]
      exact ha)
    ⟨rfl, fun a ha => List.mem_range.mp ha, [], .no, .no, rfl, rfl, by simp⟩
  rw [List.map_nil, List.append_nil] at hacc
  have hdue : acc = tmL (rounds n free E n (start (goalOf gl))) n := by
    rw [hacc]
    unfold tmL
    refine List.map_congr_left fun a ha => ?_
    rw [due_eq hE p hg (List.mem_range.mp ha)]
  subst hdue
  have fA := rounds_fix (own := free) (goal := goalOf gl) p hE hgo
  have fG := rounds_fix (own := fun _ => true) (goal := goalOf gl) p hE hgo
  have BA : callT Gf tab 100 "least_times" [.val (.tuple [ownD free n, .tuple (E.map encE), glD gl])] s3 = some (.val (.tuple (tmL (rounds n free E n (start (goalOf gl))) n)), s3) := @run_least_times free E gl n 97 s3 hnl hz hE
  have BG : callT Gf tab 100 "least_times" [.val (.tuple [ownD (fun _ => true) n, .tuple (E.map encE), glD gl])] s3 = some (.val (.tuple (tmL (rounds n (fun _ => true) E n (start (goalOf gl))) n)), s3) := @run_least_times (fun _ => true) E gl n 97 s3 hnl hz hE
  have m0 : evBin .mul (.tuple [.int 0]) (.int n) = some (.val (ownD free n)) := by
    rw [bnMulT ⟨by omega, by omega, by simp⟩, show ((n : Int)).toNat = n by omega, own0]; rfl
  have m1 : evBin .mul (.tuple [.int 1]) (.int n) = some (.val (ownD (fun _ => true) n)) := by
    rw [bnMulT ⟨by omega, by omega, by simp⟩, show ((n : Int)).toNat = n by omega, own1]; rfl
  have th : ∀ i xs, evBlt .tuple [.held i xs] = some (.val (.tuple xs)) := fun _ _ => rfl
  have lpL : ∀ ρ : Z.Env, ρ[2]? = some (.val (.int n)) → ρ[3]? = some (.val (.tuple (E.map encE))) → ρ[6]? = some (.val (glD gl)) → 7 < ρ.length → lcLoop (lcSt (callT Gf tab 100) Gf (.call "_law_longest" (.cons (.var 3) (.cons (.var 6) (.cons (.var 7) (.cons (.var 2) .nil))))) (.name 7) .nil ρ) ((List.range n).map fun (k : Nat) => PyData.int (k : Int)) s3 = some (tmL (rounds n (fun _ => true) E n (start (goalOf gl))) n, s3) := by
    intro ρ h2 h3 h6 h7
    unfold tmL
    refine lc_map fun x hx => ?_
    have hx := List.mem_range.mp hx
    have L : callT Gf tab 100 "_law_longest" [.val (.tuple (E.map encE)), .val (glD gl), .val (.int x), .val (.int n)] s3 = some (.val (encO (longest E (goalOf gl) n x)), s3) := run_longest hz hE n 100 x s3 (by omega)
    rw [longest_eq fG p hE hx] at L
    have g7 : (ρ.set 7 (.val (.int x)))[7]? = some (.val (.int x)) := List.getElem?_set_self h7
    have g2 : (ρ.set 7 (.val (.int x)))[2]? = some (.val (.int n)) := by rw [List.getElem?_set_ne (by decide)]; exact h2
    have g3 : (ρ.set 7 (.val (.int x)))[3]? = some (.val (.tuple (E.map encE))) := by rw [List.getElem?_set_ne (by decide)]; exact h3
    have g6 : (ρ.set 7 (.val (.int x)))[6]? = some (.val (glD gl)) := by rw [List.getElem?_set_ne (by decide)]; exact h6
    have q : evE (callT Gf tab 100) Gf (.call "_law_longest" (.cons (.var 3) (.cons (.var 6) (.cons (.var 7) (.cons (.var 2) .nil))))) (ρ.set 7 (.val (.int x))) s3 = some (.val (encO (rounds n (fun _ => true) E n (start (goalOf gl)) x)), s3) := by
      (repeat first | with_reducible exact g2 | with_reducible exact g3 | with_reducible exact g6 | with_reducible exact g7 | with_reducible exact L | with_reducible exact Z.gSo | with_reducible exact Z.rCs | with_reducible exact Z.rCi | with_reducible exact Z.rCb | with_reducible exact Z.rCn | with_reducible exact Z.rF | with_reducible exact Z.srV | with_reducible exact Z.iaV | with_reducible exact Z.iaF | with_reducible exact Z.iaA | with_reducible exact Z.srO | with_reducible exact Z.srH | with_reducible exact Z.srF | with_reducible exact Z.daV | with_reducible exact Z.daF | with_reducible exact Z.daA | with_reducible exact Z.slV | with_reducible exact Z.slF | with_reducible exact Z.slH | with_reducible exact Z.slFn | with_reducible exact Z.emV | with_reducible exact Z.emF | with_reducible exact Z.ebN | with_reducible exact Z.reV | with_reducible exact Z.reF | with_reducible exact Z.reA | with_reducible exact Z.agN | with_reducible exact Z.arV | with_reducible exact Z.arF | with_reducible exact Z.arA | with_reducible exact Z.arH | with_reducible exact Z.arFn | with_reducible exact Z.inB | with_reducible exact Z.inI | with_reducible exact Z.inN | with_reducible exact Z.trB | with_reducible exact Z.trI | with_reducible exact Z.trL | with_reducible exact Z.trT | with_reducible exact Z.trN | with_reducible exact Z.bnAdd | with_reducible exact Z.bnSub | with_reducible exact Z.cpLt | with_reducible exact Z.cpLe | with_reducible exact Z.cpGt | with_reducible exact Z.cpGe | with_reducible exact Z.cpIs | with_reducible exact Z.cpNo | with_reducible exact Z.cEqI | with_reducible exact Z.cNeI | with_reducible exact Z.cEqB | with_reducible exact Z.cNeB | with_reducible exact Z.sqL | with_reducible exact Z.sqT | with_reducible exact Z.ix0 | with_reducible exact Z.ix1 | with_reducible exact Z.ix2 | with_reducible exact Z.ix3 | with_reducible exact Z.ix4 | with_reducible exact Z.rNil | with_reducible exact Z.rTsN | with_reducible exact Z.rOn | with_reducible exact Z.ssN | with_reducible exact Z.coR | with_reducible exact Z.coC | with_reducible exact Z.coB | with_reducible exact Z.sRetN | with_reducible exact Z.sCont | with_reducible exact Z.sBrk | with_reducible exact Z.sPass | with_reducible apply Z.ebC | with_reducible apply Z.agC | with_reducible apply Z.rV | with_reducible apply Z.rG | with_reducible apply Z.ssF | with_reducible apply Z.ssC | with_reducible apply Z.coN | with_reducible apply Z.sRet | with_reducible apply Z.sIf | with_reducible apply Z.cT | with_reducible apply Z.cF | with_reducible apply Z.sAsg | with_reducible apply Z.sAsgT | with_reducible apply Z.sPar | with_reducible apply Z.sPar3 | with_reducible apply Z.sExpr | with_reducible apply Z.sMeth | with_reducible apply Z.sSetix | with_reducible apply Z.sAugA | with_reducible apply Z.sAugS | with_reducible apply Z.rTe | with_reducible apply Z.rTnot | with_reducible apply Z.rTand | with_reducible apply Z.rTor | with_reducible apply Z.rTsC | with_reducible apply Z.rCons | with_reducible apply Z.rCmp | with_reducible apply Z.rBin | with_reducible apply Z.rIx | with_reducible apply Z.rSl | with_reducible apply Z.rOs | with_reducible apply Z.rNeg | with_reducible apply Z.rNot | with_reducible apply Z.rAnd | with_reducible apply Z.rOr | with_reducible apply Z.rIte | with_reducible apply Z.rCall | with_reducible apply Z.rCallV | with_reducible apply Z.rBlt | with_reducible apply Z.rIsi | with_reducible apply Z.rTup | with_reducible apply Z.rLst | with_reducible apply Z.rRange | with_reducible apply Z.rSeq | with_reducible apply Z.rEnum | with_reducible apply Z.bnAddT | with_reducible apply Z.bnAddL | with_reducible apply Z.blLL | with_reducible apply Z.blLT | with_reducible apply Z.blMx | with_reducible apply Z.blMn | with_reducible apply Z.mtApp | with_reducible apply Z.mtExt | ((with_reducible apply Z.cGt); · rfl) | ((with_reducible apply Z.cGf); · rfl) | ((with_reducible apply Z.gFrz); rfl) | ((with_reducible apply Z.gEqE); rfl) | ((with_reducible apply Z.gEqX); rfl) | ((with_reducible apply Z.gEqB); rfl) | ((with_reducible apply Z.gGet); rfl) | ((with_reducible apply Z.gAsg); rfl) | ((with_reducible apply Z.gWipe); rfl) | ((with_reducible apply Z.gGlo); rfl) | ((with_reducible apply Z.szL); rfl) | ((with_reducible apply Z.gIn) <;> first | rfl | ((with_reducible apply Z.gIn1); rfl)))
    have := lcS (F := callT Gf tab 100) (G := Gf) (c := true) (ifs := .nil) (tg := .name 7) (x := .int x) (ρ := ρ) (ρ' := ρ.set 7 (.val (.int x))) rfl rTsN q rfl
    simpa using this
  obtain ⟨xs, s4, hxs, lpO⟩ := @drawO 99 (lv (.val (.int n)) (.val (.tuple (E.map encE))) (.val (glD gl)) .no (.val (tabD n E)) (.own (tmL (rounds n free E n (start (goalOf gl))) n)) y11 (.val (.tuple (tmL (rounds n free E n (start (goalOf gl))) n))) (.val (.tuple (tmL (rounds n (fun _ => true) E n (start (goalOf gl))) n))) .no .no .no .no .no .no .no) rfl (List.range n) s3
  rw [List.length_range] at hxs
  have ow : ownD (ofL xs) n = .tuple (xs.map fun b => PyData.int (if b = true then 1 else 0)) := by rw [← hxs]; exact ownD_ofL xs
  have fO := rounds_fix (own := ofL xs) (goal := goalOf gl) p hE hgo
  have BO : callT Gf tab 100 "least_times" [.val (.tuple [ownD (ofL xs) n, .tuple (E.map encE), glD gl])] s4 = some (.val (.tuple (tmL (rounds n (ofL xs) E n (start (goalOf gl))) n)), s4) := @run_least_times (ofL xs) E gl n 97 s4 hnl hz hE
  obtain ⟨ρ2, q2, lp2, rfl, _, z7, z17, z18, z19, rfl⟩ := for_map (step := forSt (callT Gf tab 100) Gf (.name 7) sbody) (g := fun (k : Nat) => PyData.int (k : Int)) (l := List.range n)
    (ρ := (lv (.val (.int n)) (.val (.tuple (E.map encE))) (.val (glD gl)) y7 (.val (tabD n E)) (.own (tmL (rounds n free E n (start (goalOf gl))) n)) y11 (.val (.tuple (tmL (rounds n free E n (start (goalOf gl))) n))) (.val (.tuple (tmL (rounds n (fun _ => true) E n (start (goalOf gl))) n))) (.val (ownD (ofL xs) n)) (.val (.tuple (tmL (rounds n (ofL xs) E n (start (goalOf gl))) n))) .no .no .no .no .no)) (s := s4)
    (fun rem ρ s' => s4 = s' ∧ (∀ a ∈ rem, a < n) ∧ ∃ z7 z17 z18 z19, ρ = (lv (.val (.int n)) (.val (.tuple (E.map encE))) (.val (glD gl)) z7 (.val (tabD n E)) (.own (tmL (rounds n free E n (start (goalOf gl))) n)) y11 (.val (.tuple (tmL (rounds n free E n (start (goalOf gl))) n))) (.val (.tuple (tmL (rounds n (fun _ => true) E n (start (goalOf gl))) n))) (.val (ownD (ofL xs) n)) (.val (.tuple (tmL (rounds n (ofL xs) E n (start (goalOf gl))) n))) z17 z18 z19 .no .no))
    (fun a rem ρ s' h => by
      obtain ⟨rfl, hr, z7, z17, z18, z19, rfl⟩ := h
      obtain ⟨y17, y18, y19, e⟩ := @sstep 97 s4 n E gl (ofL xs) z7 (.val (tabD n E)) (.own (tmL (rounds n free E n (start (goalOf gl))) n)) y11 (.val (.tuple (tmL (rounds n free E n (start (goalOf gl))) n))) (.val (.tuple (tmL (rounds n (fun _ => true) E n (start (goalOf gl))) n))) z17 z18 z19 .no .no a (hr a (.head _)) (by omega) hz hE p hg
      exact ⟨_, _, e, rfl, fun b hb => hr b (.tail _ hb), _, _, _, _, rfl⟩)
    ⟨rfl, fun a ha => List.mem_range.mp ha, _, _, _, _, rfl⟩
  obtain ⟨ρ3, q3, lp3, rfl, _, z21, z22, rfl⟩ := for_map (step := forSt (callT Gf tab 100) Gf (.tup (.cons (.name 21) (.cons (.name 22) .nil))) ybody) (g := encQ) (l := (List.range n).map fun s => (rounds n free E n (start (goalOf gl)) s, rounds n (ofL xs) E n (start (goalOf gl)) s))
    (ρ := (lv (.val (.int n)) (.val (.tuple (E.map encE))) (.val (glD gl)) z7 (.val (tabD n E)) (.own (tmL (rounds n free E n (start (goalOf gl))) n)) y11 (.val (.tuple (tmL (rounds n free E n (start (goalOf gl))) n))) (.val (.tuple (tmL (rounds n (fun _ => true) E n (start (goalOf gl))) n))) (.val (ownD (ofL xs) n)) (.val (.tuple (tmL (rounds n (ofL xs) E n (start (goalOf gl))) n))) z17 z18 z19 .no .no)) (s := s4)
    (fun rem ρ s' => s4 = s' ∧ (∀ q ∈ rem, Ok q) ∧ ∃ z21 z22, ρ = (lv (.val (.int n)) (.val (.tuple (E.map encE))) (.val (glD gl)) z7 (.val (tabD n E)) (.own (tmL (rounds n free E n (start (goalOf gl))) n)) y11 (.val (.tuple (tmL (rounds n free E n (start (goalOf gl))) n))) (.val (.tuple (tmL (rounds n (fun _ => true) E n (start (goalOf gl))) n))) (.val (ownD (ofL xs) n)) (.val (.tuple (tmL (rounds n (ofL xs) E n (start (goalOf gl))) n))) z17 z18 z19 z21 z22))
    (fun q rem ρ s' h => by
      obtain ⟨rfl, hr, z21, z22, rfl⟩ := h
      exact ⟨_, _, ystep (hr q (.head _)), rfl, fun z hz => hr z (.tail _ hz), _, _, rfl⟩)
    ⟨rfl, fun q hq => by
      obtain ⟨i, _, rfl⟩ := List.mem_map.mp hq
      intro v hv
      exact Fix.le fA fO p (fun z hz => by cases hz) hv, _, _, rfl⟩
  rw [← zip_tm] at lp3
  refine ⟨s4, ?_⟩
  have is13 : (R.val (.tuple (tmL (rounds n free E n (start (goalOf gl))) n))).dat = some (.tuple (tmL (rounds n free E n (start (goalOf gl))) n)) := rfl
  have lpS' := lpS [.no, .hdl, .val (.int n), .val (.tuple (E.map encE)), .no, .no, .val (glD gl), .no, .no, .no, .no, .no, .no, .no, .no, .no, .no, .no, .no, .no, .no, .no, .no] (by show 9 < 23; decide)
  have lpL' := lpL (lv (.val (.int n)) (.val (.tuple (E.map encE))) (.val (glD gl)) .no (.val (tabD n E)) (.own (tmL (rounds n free E n (start (goalOf gl))) n)) y11 (.val (.tuple (tmL (rounds n free E n (start (goalOf gl))) n))) (.val (.tuple (tmL (rounds n (fun _ => true) E n (start (goalOf gl))) n))) .no .no .no .no .no .no .no) rfl rfl rfl (by show 7 < 23; decide)
  unfold ir_law
  apply Z.ssC
  · (repeat first | with_reducible exact t1 | with_reducible exact Z.gSo | with_reducible exact Z.rCs | with_reducible exact Z.rCi | with_reducible exact Z.rCb | with_reducible exact Z.rCn | with_reducible exact Z.rF | with_reducible exact Z.srV | with_reducible exact Z.iaV | with_reducible exact Z.iaF | with_reducible exact Z.iaA | with_reducible exact Z.srO | with_reducible exact Z.srH | with_reducible exact Z.srF | with_reducible exact Z.daV | with_reducible exact Z.daF | with_reducible exact Z.daA | with_reducible exact Z.slV | with_reducible exact Z.slF | with_reducible exact Z.slH | with_reducible exact Z.slFn | with_reducible exact Z.emV | with_reducible exact Z.emF | with_reducible exact Z.ebN | with_reducible exact Z.reV | with_reducible exact Z.reF | with_reducible exact Z.reA | with_reducible exact Z.agN | with_reducible exact Z.arV | with_reducible exact Z.arF | with_reducible exact Z.arA | with_reducible exact Z.arH | with_reducible exact Z.arFn | with_reducible exact Z.inB | with_reducible exact Z.inI | with_reducible exact Z.inN | with_reducible exact Z.trB | with_reducible exact Z.trI | with_reducible exact Z.trL | with_reducible exact Z.trT | with_reducible exact Z.trN | with_reducible exact Z.bnAdd | with_reducible exact Z.bnSub | with_reducible exact Z.cpLt | with_reducible exact Z.cpLe | with_reducible exact Z.cpGt | with_reducible exact Z.cpGe | with_reducible exact Z.cpIs | with_reducible exact Z.cpNo | with_reducible exact Z.cEqI | with_reducible exact Z.cNeI | with_reducible exact Z.cEqB | with_reducible exact Z.cNeB | with_reducible exact Z.sqL | with_reducible exact Z.sqT | with_reducible exact Z.ix0 | with_reducible exact Z.ix1 | with_reducible exact Z.ix2 | with_reducible exact Z.ix3 | with_reducible exact Z.ix4 | with_reducible exact Z.rNil | with_reducible exact Z.rTsN | with_reducible exact Z.rOn | with_reducible exact Z.ssN | with_reducible exact Z.coR | with_reducible exact Z.coC | with_reducible exact Z.coB | with_reducible exact Z.sRetN | with_reducible exact Z.sCont | with_reducible exact Z.sBrk | with_reducible exact Z.sPass | with_reducible apply Z.ebC | with_reducible apply Z.agC | with_reducible apply Z.rV | with_reducible apply Z.rG | with_reducible apply Z.ssF | with_reducible apply Z.ssC | with_reducible apply Z.coN | with_reducible apply Z.sRet | with_reducible apply Z.sIf | with_reducible apply Z.cT | with_reducible apply Z.cF | with_reducible apply Z.sAsg | with_reducible apply Z.sAsgT | with_reducible apply Z.sPar | with_reducible apply Z.sPar3 | with_reducible apply Z.sExpr | with_reducible apply Z.sMeth | with_reducible apply Z.sSetix | with_reducible apply Z.sAugA | with_reducible apply Z.sAugS | with_reducible apply Z.rTe | with_reducible apply Z.rTnot | with_reducible apply Z.rTand | with_reducible apply Z.rTor | with_reducible apply Z.rTsC | with_reducible apply Z.rCons | with_reducible apply Z.rCmp | with_reducible apply Z.rBin | with_reducible apply Z.rIx | with_reducible apply Z.rSl | with_reducible apply Z.rOs | with_reducible apply Z.rNeg | with_reducible apply Z.rNot | with_reducible apply Z.rAnd | with_reducible apply Z.rOr | with_reducible apply Z.rIte | with_reducible apply Z.rCall | with_reducible apply Z.rCallV | with_reducible apply Z.rBlt | with_reducible apply Z.rIsi | with_reducible apply Z.rTup | with_reducible apply Z.rLst | with_reducible apply Z.rRange | with_reducible apply Z.rSeq | with_reducible apply Z.rEnum | with_reducible apply Z.bnAddT | with_reducible apply Z.bnAddL | with_reducible apply Z.blLL | with_reducible apply Z.blLT | with_reducible apply Z.blMx | with_reducible apply Z.blMn | with_reducible apply Z.mtApp | with_reducible apply Z.mtExt | ((with_reducible apply Z.cGt); · rfl) | ((with_reducible apply Z.cGf); · rfl) | ((with_reducible apply Z.gFrz); rfl) | ((with_reducible apply Z.gEqE); rfl) | ((with_reducible apply Z.gEqX); rfl) | ((with_reducible apply Z.gEqB); rfl) | ((with_reducible apply Z.gGet); rfl) | ((with_reducible apply Z.gAsg); rfl) | ((with_reducible apply Z.gWipe); rfl) | ((with_reducible apply Z.gGlo); rfl) | ((with_reducible apply Z.szL); rfl) | ((with_reducible apply Z.gIn) <;> first | rfl | ((with_reducible apply Z.gIn1); rfl)))
  apply Z.coN
  rw [en']
  apply Z.ssC
  · (repeat first | with_reducible exact pbn | with_reducible exact hlp | with_reducible exact tp _ | with_reducible apply Z.rLc (h4 := lpE) | with_reducible exact Z.gSo | with_reducible exact Z.rCs | with_reducible exact Z.rCi | with_reducible exact Z.rCb | with_reducible exact Z.rCn | with_reducible exact Z.rF | with_reducible exact Z.srV | with_reducible exact Z.iaV | with_reducible exact Z.iaF | with_reducible exact Z.iaA | with_reducible exact Z.srO | with_reducible exact Z.srH | with_reducible exact Z.srF | with_reducible exact Z.daV | with_reducible exact Z.daF | with_reducible exact Z.daA | with_reducible exact Z.slV | with_reducible exact Z.slF | with_reducible exact Z.slH | with_reducible exact Z.slFn | with_reducible exact Z.emV | with_reducible exact Z.emF | with_reducible exact Z.ebN | with_reducible exact Z.reV | with_reducible exact Z.reF | with_reducible exact Z.reA | with_reducible exact Z.agN | with_reducible exact Z.arV | with_reducible exact Z.arF | with_reducible exact Z.arA | with_reducible exact Z.arH | with_reducible exact Z.arFn | with_reducible exact Z.inB | with_reducible exact Z.inI | with_reducible exact Z.inN | with_reducible exact Z.trB | with_reducible exact Z.trI | with_reducible exact Z.trL | with_reducible exact Z.trT | with_reducible exact Z.trN | with_reducible exact Z.bnAdd | with_reducible exact Z.bnSub | with_reducible exact Z.cpLt | with_reducible exact Z.cpLe | with_reducible exact Z.cpGt | with_reducible exact Z.cpGe | with_reducible exact Z.cpIs | with_reducible exact Z.cpNo | with_reducible exact Z.cEqI | with_reducible exact Z.cNeI | with_reducible exact Z.cEqB | with_reducible exact Z.cNeB | with_reducible exact Z.sqL | with_reducible exact Z.sqT | with_reducible exact Z.ix0 | with_reducible exact Z.ix1 | with_reducible exact Z.ix2 | with_reducible exact Z.ix3 | with_reducible exact Z.ix4 | with_reducible exact Z.rNil | with_reducible exact Z.rTsN | with_reducible exact Z.rOn | with_reducible exact Z.ssN | with_reducible exact Z.coR | with_reducible exact Z.coC | with_reducible exact Z.coB | with_reducible exact Z.sRetN | with_reducible exact Z.sCont | with_reducible exact Z.sBrk | with_reducible exact Z.sPass | with_reducible apply Z.ebC | with_reducible apply Z.agC | with_reducible apply Z.rV | with_reducible apply Z.rG | with_reducible apply Z.ssF | with_reducible apply Z.ssC | with_reducible apply Z.coN | with_reducible apply Z.sRet | with_reducible apply Z.sIf | with_reducible apply Z.cT | with_reducible apply Z.cF | with_reducible apply Z.sAsg | with_reducible apply Z.sAsgT | with_reducible apply Z.sPar | with_reducible apply Z.sPar3 | with_reducible apply Z.sExpr | with_reducible apply Z.sMeth | with_reducible apply Z.sSetix | with_reducible apply Z.sAugA | with_reducible apply Z.sAugS | with_reducible apply Z.rTe | with_reducible apply Z.rTnot | with_reducible apply Z.rTand | with_reducible apply Z.rTor | with_reducible apply Z.rTsC | with_reducible apply Z.rCons | with_reducible apply Z.rCmp | with_reducible apply Z.rBin | with_reducible apply Z.rIx | with_reducible apply Z.rSl | with_reducible apply Z.rOs | with_reducible apply Z.rNeg | with_reducible apply Z.rNot | with_reducible apply Z.rAnd | with_reducible apply Z.rOr | with_reducible apply Z.rIte | with_reducible apply Z.rCall | with_reducible apply Z.rCallV | with_reducible apply Z.rBlt | with_reducible apply Z.rIsi | with_reducible apply Z.rTup | with_reducible apply Z.rLst | with_reducible apply Z.rRange | with_reducible apply Z.rSeq | with_reducible apply Z.rEnum | with_reducible apply Z.bnAddT | with_reducible apply Z.bnAddL | with_reducible apply Z.blLL | with_reducible apply Z.blLT | with_reducible apply Z.blMx | with_reducible apply Z.blMn | with_reducible apply Z.mtApp | with_reducible apply Z.mtExt | ((with_reducible apply Z.cGt); · rfl) | ((with_reducible apply Z.cGf); · rfl) | ((with_reducible apply Z.gFrz); rfl) | ((with_reducible apply Z.gEqE); rfl) | ((with_reducible apply Z.gEqX); rfl) | ((with_reducible apply Z.gEqB); rfl) | ((with_reducible apply Z.gGet); rfl) | ((with_reducible apply Z.gAsg); rfl) | ((with_reducible apply Z.gWipe); rfl) | ((with_reducible apply Z.gGlo); rfl) | ((with_reducible apply Z.szL); rfl) | ((with_reducible apply Z.gIn) <;> first | rfl | ((with_reducible apply Z.gIn1); rfl)))
  apply Z.coN
  apply Z.ssC
  · (repeat first | with_reducible exact rg | with_reducible exact hlr | with_reducible exact tp _ | with_reducible apply Z.rLc (h4 := lpG) | with_reducible exact Z.gSo | with_reducible exact Z.rCs | with_reducible exact Z.rCi | with_reducible exact Z.rCb | with_reducible exact Z.rCn | with_reducible exact Z.rF | with_reducible exact Z.srV | with_reducible exact Z.iaV | with_reducible exact Z.iaF | with_reducible exact Z.iaA | with_reducible exact Z.srO | with_reducible exact Z.srH | with_reducible exact Z.srF | with_reducible exact Z.daV | with_reducible exact Z.daF | with_reducible exact Z.daA | with_reducible exact Z.slV | with_reducible exact Z.slF | with_reducible exact Z.slH | with_reducible exact Z.slFn | with_reducible exact Z.emV | with_reducible exact Z.emF | with_reducible exact Z.ebN | with_reducible exact Z.reV | with_reducible exact Z.reF | with_reducible exact Z.reA | with_reducible exact Z.agN | with_reducible exact Z.arV | with_reducible exact Z.arF | with_reducible exact Z.arA | with_reducible exact Z.arH | with_reducible exact Z.arFn | with_reducible exact Z.inB | with_reducible exact Z.inI | with_reducible exact Z.inN | with_reducible exact Z.trB | with_reducible exact Z.trI | with_reducible exact Z.trL | with_reducible exact Z.trT | with_reducible exact Z.trN | with_reducible exact Z.bnAdd | with_reducible exact Z.bnSub | with_reducible exact Z.cpLt | with_reducible exact Z.cpLe | with_reducible exact Z.cpGt | with_reducible exact Z.cpGe | with_reducible exact Z.cpIs | with_reducible exact Z.cpNo | with_reducible exact Z.cEqI | with_reducible exact Z.cNeI | with_reducible exact Z.cEqB | with_reducible exact Z.cNeB | with_reducible exact Z.sqL | with_reducible exact Z.sqT | with_reducible exact Z.ix0 | with_reducible exact Z.ix1 | with_reducible exact Z.ix2 | with_reducible exact Z.ix3 | with_reducible exact Z.ix4 | with_reducible exact Z.rNil | with_reducible exact Z.rTsN | with_reducible exact Z.rOn | with_reducible exact Z.ssN | with_reducible exact Z.coR | with_reducible exact Z.coC | with_reducible exact Z.coB | with_reducible exact Z.sRetN | with_reducible exact Z.sCont | with_reducible exact Z.sBrk | with_reducible exact Z.sPass | with_reducible apply Z.ebC | with_reducible apply Z.agC | with_reducible apply Z.rV | with_reducible apply Z.rG | with_reducible apply Z.ssF | with_reducible apply Z.ssC | with_reducible apply Z.coN | with_reducible apply Z.sRet | with_reducible apply Z.sIf | with_reducible apply Z.cT | with_reducible apply Z.cF | with_reducible apply Z.sAsg | with_reducible apply Z.sAsgT | with_reducible apply Z.sPar | with_reducible apply Z.sPar3 | with_reducible apply Z.sExpr | with_reducible apply Z.sMeth | with_reducible apply Z.sSetix | with_reducible apply Z.sAugA | with_reducible apply Z.sAugS | with_reducible apply Z.rTe | with_reducible apply Z.rTnot | with_reducible apply Z.rTand | with_reducible apply Z.rTor | with_reducible apply Z.rTsC | with_reducible apply Z.rCons | with_reducible apply Z.rCmp | with_reducible apply Z.rBin | with_reducible apply Z.rIx | with_reducible apply Z.rSl | with_reducible apply Z.rOs | with_reducible apply Z.rNeg | with_reducible apply Z.rNot | with_reducible apply Z.rAnd | with_reducible apply Z.rOr | with_reducible apply Z.rIte | with_reducible apply Z.rCall | with_reducible apply Z.rCallV | with_reducible apply Z.rBlt | with_reducible apply Z.rIsi | with_reducible apply Z.rTup | with_reducible apply Z.rLst | with_reducible apply Z.rRange | with_reducible apply Z.rSeq | with_reducible apply Z.rEnum | with_reducible apply Z.bnAddT | with_reducible apply Z.bnAddL | with_reducible apply Z.blLL | with_reducible apply Z.blLT | with_reducible apply Z.blMx | with_reducible apply Z.blMn | with_reducible apply Z.mtApp | with_reducible apply Z.mtExt | ((with_reducible apply Z.cGt); · rfl) | ((with_reducible apply Z.cGf); · rfl) | ((with_reducible apply Z.gFrz); rfl) | ((with_reducible apply Z.gEqE); rfl) | ((with_reducible apply Z.gEqX); rfl) | ((with_reducible apply Z.gEqB); rfl) | ((with_reducible apply Z.gGet); rfl) | ((with_reducible apply Z.gAsg); rfl) | ((with_reducible apply Z.gWipe); rfl) | ((with_reducible apply Z.gGlo); rfl) | ((with_reducible apply Z.szL); rfl) | ((with_reducible apply Z.gIn) <;> first | rfl | ((with_reducible apply Z.gIn1); rfl)))
  apply Z.coN
  refine ssF (ρ' := [.no, .hdl, .val (.int n), .val (.tuple (E.map encE)), .no, .no, .val (glD gl), .no, .no, .no, .no, .no, .no, .no, .no, .no, .no, .no, .no, .no, .no, .no, .no]) rfl ?_
  apply Z.ssC
  · (repeat first | with_reducible exact hlE | with_reducible exact tp _ | with_reducible exact TB | with_reducible apply Z.rLc (h4 := lpS') | with_reducible exact Z.gSo | with_reducible exact Z.rCs | with_reducible exact Z.rCi | with_reducible exact Z.rCb | with_reducible exact Z.rCn | with_reducible exact Z.rF | with_reducible exact Z.srV | with_reducible exact Z.iaV | with_reducible exact Z.iaF | with_reducible exact Z.iaA | with_reducible exact Z.srO | with_reducible exact Z.srH | with_reducible exact Z.srF | with_reducible exact Z.daV | with_reducible exact Z.daF | with_reducible exact Z.daA | with_reducible exact Z.slV | with_reducible exact Z.slF | with_reducible exact Z.slH | with_reducible exact Z.slFn | with_reducible exact Z.emV | with_reducible exact Z.emF | with_reducible exact Z.ebN | with_reducible exact Z.reV | with_reducible exact Z.reF | with_reducible exact Z.reA | with_reducible exact Z.agN | with_reducible exact Z.arV | with_reducible exact Z.arF | with_reducible exact Z.arA | with_reducible exact Z.arH | with_reducible exact Z.arFn | with_reducible exact Z.inB | with_reducible exact Z.inI | with_reducible exact Z.inN | with_reducible exact Z.trB | with_reducible exact Z.trI | with_reducible exact Z.trL | with_reducible exact Z.trT | with_reducible exact Z.trN | with_reducible exact Z.bnAdd | with_reducible exact Z.bnSub | with_reducible exact Z.cpLt | with_reducible exact Z.cpLe | with_reducible exact Z.cpGt | with_reducible exact Z.cpGe | with_reducible exact Z.cpIs | with_reducible exact Z.cpNo | with_reducible exact Z.cEqI | with_reducible exact Z.cNeI | with_reducible exact Z.cEqB | with_reducible exact Z.cNeB | with_reducible exact Z.sqL | with_reducible exact Z.sqT | with_reducible exact Z.ix0 | with_reducible exact Z.ix1 | with_reducible exact Z.ix2 | with_reducible exact Z.ix3 | with_reducible exact Z.ix4 | with_reducible exact Z.rNil | with_reducible exact Z.rTsN | with_reducible exact Z.rOn | with_reducible exact Z.ssN | with_reducible exact Z.coR | with_reducible exact Z.coC | with_reducible exact Z.coB | with_reducible exact Z.sRetN | with_reducible exact Z.sCont | with_reducible exact Z.sBrk | with_reducible exact Z.sPass | with_reducible apply Z.ebC | with_reducible apply Z.agC | with_reducible apply Z.rV | with_reducible apply Z.rG | with_reducible apply Z.ssF | with_reducible apply Z.ssC | with_reducible apply Z.coN | with_reducible apply Z.sRet | with_reducible apply Z.sIf | with_reducible apply Z.cT | with_reducible apply Z.cF | with_reducible apply Z.sAsg | with_reducible apply Z.sAsgT | with_reducible apply Z.sPar | with_reducible apply Z.sPar3 | with_reducible apply Z.sExpr | with_reducible apply Z.sMeth | with_reducible apply Z.sSetix | with_reducible apply Z.sAugA | with_reducible apply Z.sAugS | with_reducible apply Z.rTe | with_reducible apply Z.rTnot | with_reducible apply Z.rTand | with_reducible apply Z.rTor | with_reducible apply Z.rTsC | with_reducible apply Z.rCons | with_reducible apply Z.rCmp | with_reducible apply Z.rBin | with_reducible apply Z.rIx | with_reducible apply Z.rSl | with_reducible apply Z.rOs | with_reducible apply Z.rNeg | with_reducible apply Z.rNot | with_reducible apply Z.rAnd | with_reducible apply Z.rOr | with_reducible apply Z.rIte | with_reducible apply Z.rCall | with_reducible apply Z.rCallV | with_reducible apply Z.rBlt | with_reducible apply Z.rIsi | with_reducible apply Z.rTup | with_reducible apply Z.rLst | with_reducible apply Z.rRange | with_reducible apply Z.rSeq | with_reducible apply Z.rEnum | with_reducible apply Z.bnAddT | with_reducible apply Z.bnAddL | with_reducible apply Z.blLL | with_reducible apply Z.blLT | with_reducible apply Z.blMx | with_reducible apply Z.blMn | with_reducible apply Z.mtApp | with_reducible apply Z.mtExt | ((with_reducible apply Z.cGt); · rfl) | ((with_reducible apply Z.cGf); · rfl) | ((with_reducible apply Z.gFrz); rfl) | ((with_reducible apply Z.gEqE); rfl) | ((with_reducible apply Z.gEqX); rfl) | ((with_reducible apply Z.gEqB); rfl) | ((with_reducible apply Z.gGet); rfl) | ((with_reducible apply Z.gAsg); rfl) | ((with_reducible apply Z.gWipe); rfl) | ((with_reducible apply Z.gGlo); rfl) | ((with_reducible apply Z.szL); rfl) | ((with_reducible apply Z.gIn) <;> first | rfl | ((with_reducible apply Z.gIn1); rfl)))
  apply Z.coN
  apply Z.ssC
  · (repeat first | with_reducible exact Z.gSo | with_reducible exact Z.rCs | with_reducible exact Z.rCi | with_reducible exact Z.rCb | with_reducible exact Z.rCn | with_reducible exact Z.rF | with_reducible exact Z.srV | with_reducible exact Z.iaV | with_reducible exact Z.iaF | with_reducible exact Z.iaA | with_reducible exact Z.srO | with_reducible exact Z.srH | with_reducible exact Z.srF | with_reducible exact Z.daV | with_reducible exact Z.daF | with_reducible exact Z.daA | with_reducible exact Z.slV | with_reducible exact Z.slF | with_reducible exact Z.slH | with_reducible exact Z.slFn | with_reducible exact Z.emV | with_reducible exact Z.emF | with_reducible exact Z.ebN | with_reducible exact Z.reV | with_reducible exact Z.reF | with_reducible exact Z.reA | with_reducible exact Z.agN | with_reducible exact Z.arV | with_reducible exact Z.arF | with_reducible exact Z.arA | with_reducible exact Z.arH | with_reducible exact Z.arFn | with_reducible exact Z.inB | with_reducible exact Z.inI | with_reducible exact Z.inN | with_reducible exact Z.trB | with_reducible exact Z.trI | with_reducible exact Z.trL | with_reducible exact Z.trT | with_reducible exact Z.trN | with_reducible exact Z.bnAdd | with_reducible exact Z.bnSub | with_reducible exact Z.cpLt | with_reducible exact Z.cpLe | with_reducible exact Z.cpGt | with_reducible exact Z.cpGe | with_reducible exact Z.cpIs | with_reducible exact Z.cpNo | with_reducible exact Z.cEqI | with_reducible exact Z.cNeI | with_reducible exact Z.cEqB | with_reducible exact Z.cNeB | with_reducible exact Z.sqL | with_reducible exact Z.sqT | with_reducible exact Z.ix0 | with_reducible exact Z.ix1 | with_reducible exact Z.ix2 | with_reducible exact Z.ix3 | with_reducible exact Z.ix4 | with_reducible exact Z.rNil | with_reducible exact Z.rTsN | with_reducible exact Z.rOn | with_reducible exact Z.ssN | with_reducible exact Z.coR | with_reducible exact Z.coC | with_reducible exact Z.coB | with_reducible exact Z.sRetN | with_reducible exact Z.sCont | with_reducible exact Z.sBrk | with_reducible exact Z.sPass | with_reducible apply Z.ebC | with_reducible apply Z.agC | with_reducible apply Z.rV | with_reducible apply Z.rG | with_reducible apply Z.ssF | with_reducible apply Z.ssC | with_reducible apply Z.coN | with_reducible apply Z.sRet | with_reducible apply Z.sIf | with_reducible apply Z.cT | with_reducible apply Z.cF | with_reducible apply Z.sAsg | with_reducible apply Z.sAsgT | with_reducible apply Z.sPar | with_reducible apply Z.sPar3 | with_reducible apply Z.sExpr | with_reducible apply Z.sMeth | with_reducible apply Z.sSetix | with_reducible apply Z.sAugA | with_reducible apply Z.sAugS | with_reducible apply Z.rTe | with_reducible apply Z.rTnot | with_reducible apply Z.rTand | with_reducible apply Z.rTor | with_reducible apply Z.rTsC | with_reducible apply Z.rCons | with_reducible apply Z.rCmp | with_reducible apply Z.rBin | with_reducible apply Z.rIx | with_reducible apply Z.rSl | with_reducible apply Z.rOs | with_reducible apply Z.rNeg | with_reducible apply Z.rNot | with_reducible apply Z.rAnd | with_reducible apply Z.rOr | with_reducible apply Z.rIte | with_reducible apply Z.rCall | with_reducible apply Z.rCallV | with_reducible apply Z.rBlt | with_reducible apply Z.rIsi | with_reducible apply Z.rTup | with_reducible apply Z.rLst | with_reducible apply Z.rRange | with_reducible apply Z.rSeq | with_reducible apply Z.rEnum | with_reducible apply Z.bnAddT | with_reducible apply Z.bnAddL | with_reducible apply Z.blLL | with_reducible apply Z.blLT | with_reducible apply Z.blMx | with_reducible apply Z.blMn | with_reducible apply Z.mtApp | with_reducible apply Z.mtExt | ((with_reducible apply Z.cGt); · rfl) | ((with_reducible apply Z.cGf); · rfl) | ((with_reducible apply Z.gFrz); rfl) | ((with_reducible apply Z.gEqE); rfl) | ((with_reducible apply Z.gEqX); rfl) | ((with_reducible apply Z.gEqB); rfl) | ((with_reducible apply Z.gGet); rfl) | ((with_reducible apply Z.gAsg); rfl) | ((with_reducible apply Z.gWipe); rfl) | ((with_reducible apply Z.gGlo); rfl) | ((with_reducible apply Z.szL); rfl) | ((with_reducible apply Z.gIn) <;> first | rfl | ((with_reducible apply Z.gIn1); rfl)))
  apply Z.coN
  apply Z.ssC
  · (repeat first | with_reducible exact rg | with_reducible apply Z.sFor2 (h2 := lp1) | with_reducible exact Z.gSo | with_reducible exact Z.rCs | with_reducible exact Z.rCi | with_reducible exact Z.rCb | with_reducible exact Z.rCn | with_reducible exact Z.rF | with_reducible exact Z.srV | with_reducible exact Z.iaV | with_reducible exact Z.iaF | with_reducible exact Z.iaA | with_reducible exact Z.srO | with_reducible exact Z.srH | with_reducible exact Z.srF | with_reducible exact Z.daV | with_reducible exact Z.daF | with_reducible exact Z.daA | with_reducible exact Z.slV | with_reducible exact Z.slF | with_reducible exact Z.slH | with_reducible exact Z.slFn | with_reducible exact Z.emV | with_reducible exact Z.emF | with_reducible exact Z.ebN | with_reducible exact Z.reV | with_reducible exact Z.reF | with_reducible exact Z.reA | with_reducible exact Z.agN | with_reducible exact Z.arV | with_reducible exact Z.arF | with_reducible exact Z.arA | with_reducible exact Z.arH | with_reducible exact Z.arFn | with_reducible exact Z.inB | with_reducible exact Z.inI | with_reducible exact Z.inN | with_reducible exact Z.trB | with_reducible exact Z.trI | with_reducible exact Z.trL | with_reducible exact Z.trT | with_reducible exact Z.trN | with_reducible exact Z.bnAdd | with_reducible exact Z.bnSub | with_reducible exact Z.cpLt | with_reducible exact Z.cpLe | with_reducible exact Z.cpGt | with_reducible exact Z.cpGe | with_reducible exact Z.cpIs | with_reducible exact Z.cpNo | with_reducible exact Z.cEqI | with_reducible exact Z.cNeI | with_reducible exact Z.cEqB | with_reducible exact Z.cNeB | with_reducible exact Z.sqL | with_reducible exact Z.sqT | with_reducible exact Z.ix0 | with_reducible exact Z.ix1 | with_reducible exact Z.ix2 | with_reducible exact Z.ix3 | with_reducible exact Z.ix4 | with_reducible exact Z.rNil | with_reducible exact Z.rTsN | with_reducible exact Z.rOn | with_reducible exact Z.ssN | with_reducible exact Z.coR | with_reducible exact Z.coC | with_reducible exact Z.coB | with_reducible exact Z.sRetN | with_reducible exact Z.sCont | with_reducible exact Z.sBrk | with_reducible exact Z.sPass | with_reducible apply Z.ebC | with_reducible apply Z.agC | with_reducible apply Z.rV | with_reducible apply Z.rG | with_reducible apply Z.ssF | with_reducible apply Z.ssC | with_reducible apply Z.coN | with_reducible apply Z.sRet | with_reducible apply Z.sIf | with_reducible apply Z.cT | with_reducible apply Z.cF | with_reducible apply Z.sAsg | with_reducible apply Z.sAsgT | with_reducible apply Z.sPar | with_reducible apply Z.sPar3 | with_reducible apply Z.sExpr | with_reducible apply Z.sMeth | with_reducible apply Z.sSetix | with_reducible apply Z.sAugA | with_reducible apply Z.sAugS | with_reducible apply Z.rTe | with_reducible apply Z.rTnot | with_reducible apply Z.rTand | with_reducible apply Z.rTor | with_reducible apply Z.rTsC | with_reducible apply Z.rCons | with_reducible apply Z.rCmp | with_reducible apply Z.rBin | with_reducible apply Z.rIx | with_reducible apply Z.rSl | with_reducible apply Z.rOs | with_reducible apply Z.rNeg | with_reducible apply Z.rNot | with_reducible apply Z.rAnd | with_reducible apply Z.rOr | with_reducible apply Z.rIte | with_reducible apply Z.rCall | with_reducible apply Z.rCallV | with_reducible apply Z.rBlt | with_reducible apply Z.rIsi | with_reducible apply Z.rTup | with_reducible apply Z.rLst | with_reducible apply Z.rRange | with_reducible apply Z.rSeq | with_reducible apply Z.rEnum | with_reducible apply Z.bnAddT | with_reducible apply Z.bnAddL | with_reducible apply Z.blLL | with_reducible apply Z.blLT | with_reducible apply Z.blMx | with_reducible apply Z.blMn | with_reducible apply Z.mtApp | with_reducible apply Z.mtExt | ((with_reducible apply Z.cGt); · rfl) | ((with_reducible apply Z.cGf); · rfl) | ((with_reducible apply Z.gFrz); rfl) | ((with_reducible apply Z.gEqE); rfl) | ((with_reducible apply Z.gEqX); rfl) | ((with_reducible apply Z.gEqB); rfl) | ((with_reducible apply Z.gGet); rfl) | ((with_reducible apply Z.gAsg); rfl) | ((with_reducible apply Z.gWipe); rfl) | ((with_reducible apply Z.gGlo); rfl) | ((with_reducible apply Z.szL); rfl) | ((with_reducible apply Z.gIn) <;> first | rfl | ((with_reducible apply Z.gIn1); rfl)))
  apply Z.coN
  apply Z.ssF
  · rfl
  apply Z.ssC
  · (repeat first | with_reducible exact m0 | with_reducible exact BA | with_reducible exact Z.gSo | with_reducible exact Z.rCs | with_reducible exact Z.rCi | with_reducible exact Z.rCb | with_reducible exact Z.rCn | with_reducible exact Z.rF | with_reducible exact Z.srV | with_reducible exact Z.iaV | with_reducible exact Z.iaF | with_reducible exact Z.iaA | with_reducible exact Z.srO | with_reducible exact Z.srH | with_reducible exact Z.srF | with_reducible exact Z.daV | with_reducible exact Z.daF | with_reducible exact Z.daA | with_reducible exact Z.slV | with_reducible exact Z.slF | with_reducible exact Z.slH | with_reducible exact Z.slFn | with_reducible exact Z.emV | with_reducible exact Z.emF | with_reducible exact Z.ebN | with_reducible exact Z.reV | with_reducible exact Z.reF | with_reducible exact Z.reA | with_reducible exact Z.agN | with_reducible exact Z.arV | with_reducible exact Z.arF | with_reducible exact Z.arA | with_reducible exact Z.arH | with_reducible exact Z.arFn | with_reducible exact Z.inB | with_reducible exact Z.inI | with_reducible exact Z.inN | with_reducible exact Z.trB | with_reducible exact Z.trI | with_reducible exact Z.trL | with_reducible exact Z.trT | with_reducible exact Z.trN | with_reducible exact Z.bnAdd | with_reducible exact Z.bnSub | with_reducible exact Z.cpLt | with_reducible exact Z.cpLe | with_reducible exact Z.cpGt | with_reducible exact Z.cpGe | with_reducible exact Z.cpIs | with_reducible exact Z.cpNo | with_reducible exact Z.cEqI | with_reducible exact Z.cNeI | with_reducible exact Z.cEqB | with_reducible exact Z.cNeB | with_reducible exact Z.sqL | with_reducible exact Z.sqT | with_reducible exact Z.ix0 | with_reducible exact Z.ix1 | with_reducible exact Z.ix2 | with_reducible exact Z.ix3 | with_reducible exact Z.ix4 | with_reducible exact Z.rNil | with_reducible exact Z.rTsN | with_reducible exact Z.rOn | with_reducible exact Z.ssN | with_reducible exact Z.coR | with_reducible exact Z.coC | with_reducible exact Z.coB | with_reducible exact Z.sRetN | with_reducible exact Z.sCont | with_reducible exact Z.sBrk | with_reducible exact Z.sPass | with_reducible apply Z.ebC | with_reducible apply Z.agC | with_reducible apply Z.rV | with_reducible apply Z.rG | with_reducible apply Z.ssF | with_reducible apply Z.ssC | with_reducible apply Z.coN | with_reducible apply Z.sRet | with_reducible apply Z.sIf | with_reducible apply Z.cT | with_reducible apply Z.cF | with_reducible apply Z.sAsg | with_reducible apply Z.sAsgT | with_reducible apply Z.sPar | with_reducible apply Z.sPar3 | with_reducible apply Z.sExpr | with_reducible apply Z.sMeth | with_reducible apply Z.sSetix | with_reducible apply Z.sAugA | with_reducible apply Z.sAugS | with_reducible apply Z.rTe | with_reducible apply Z.rTnot | with_reducible apply Z.rTand | with_reducible apply Z.rTor | with_reducible apply Z.rTsC | with_reducible apply Z.rCons | with_reducible apply Z.rCmp | with_reducible apply Z.rBin | with_reducible apply Z.rIx | with_reducible apply Z.rSl | with_reducible apply Z.rOs | with_reducible apply Z.rNeg | with_reducible apply Z.rNot | with_reducible apply Z.rAnd | with_reducible apply Z.rOr | with_reducible apply Z.rIte | with_reducible apply Z.rCall | with_reducible apply Z.rCallV | with_reducible apply Z.rBlt | with_reducible apply Z.rIsi | with_reducible apply Z.rTup | with_reducible apply Z.rLst | with_reducible apply Z.rRange | with_reducible apply Z.rSeq | with_reducible apply Z.rEnum | with_reducible apply Z.bnAddT | with_reducible apply Z.bnAddL | with_reducible apply Z.blLL | with_reducible apply Z.blLT | with_reducible apply Z.blMx | with_reducible apply Z.blMn | with_reducible apply Z.mtApp | with_reducible apply Z.mtExt | ((with_reducible apply Z.cGt); · rfl) | ((with_reducible apply Z.cGf); · rfl) | ((with_reducible apply Z.gFrz); rfl) | ((with_reducible apply Z.gEqE); rfl) | ((with_reducible apply Z.gEqX); rfl) | ((with_reducible apply Z.gEqB); rfl) | ((with_reducible apply Z.gGet); rfl) | ((with_reducible apply Z.gAsg); rfl) | ((with_reducible apply Z.gWipe); rfl) | ((with_reducible apply Z.gGlo); rfl) | ((with_reducible apply Z.szL); rfl) | ((with_reducible apply Z.gIn) <;> first | rfl | ((with_reducible apply Z.gIn1); rfl)))
  apply Z.coN
  apply Z.ssC
  · (repeat first | with_reducible exact th _ _ | with_reducible exact neT _ _ | with_reducible exact Z.gSo | with_reducible exact Z.rCs | with_reducible exact Z.rCi | with_reducible exact Z.rCb | with_reducible exact Z.rCn | with_reducible exact Z.rF | with_reducible exact Z.srV | with_reducible exact Z.iaV | with_reducible exact Z.iaF | with_reducible exact Z.iaA | with_reducible exact Z.srO | with_reducible exact Z.srH | with_reducible exact Z.srF | with_reducible exact Z.daV | with_reducible exact Z.daF | with_reducible exact Z.daA | with_reducible exact Z.slV | with_reducible exact Z.slF | with_reducible exact Z.slH | with_reducible exact Z.slFn | with_reducible exact Z.emV | with_reducible exact Z.emF | with_reducible exact Z.ebN | with_reducible exact Z.reV | with_reducible exact Z.reF | with_reducible exact Z.reA | with_reducible exact Z.agN | with_reducible exact Z.arV | with_reducible exact Z.arF | with_reducible exact Z.arA | with_reducible exact Z.arH | with_reducible exact Z.arFn | with_reducible exact Z.inB | with_reducible exact Z.inI | with_reducible exact Z.inN | with_reducible exact Z.trB | with_reducible exact Z.trI | with_reducible exact Z.trL | with_reducible exact Z.trT | with_reducible exact Z.trN | with_reducible exact Z.bnAdd | with_reducible exact Z.bnSub | with_reducible exact Z.cpLt | with_reducible exact Z.cpLe | with_reducible exact Z.cpGt | with_reducible exact Z.cpGe | with_reducible exact Z.cpIs | with_reducible exact Z.cpNo | with_reducible exact Z.cEqI | with_reducible exact Z.cNeI | with_reducible exact Z.cEqB | with_reducible exact Z.cNeB | with_reducible exact Z.sqL | with_reducible exact Z.sqT | with_reducible exact Z.ix0 | with_reducible exact Z.ix1 | with_reducible exact Z.ix2 | with_reducible exact Z.ix3 | with_reducible exact Z.ix4 | with_reducible exact Z.rNil | with_reducible exact Z.rTsN | with_reducible exact Z.rOn | with_reducible exact Z.ssN | with_reducible exact Z.coR | with_reducible exact Z.coC | with_reducible exact Z.coB | with_reducible exact Z.sRetN | with_reducible exact Z.sCont | with_reducible exact Z.sBrk | with_reducible exact Z.sPass | with_reducible apply Z.ebC | with_reducible apply Z.agC | with_reducible apply Z.rV | with_reducible apply Z.rG | with_reducible apply Z.ssF | with_reducible apply Z.ssC | with_reducible apply Z.coN | with_reducible apply Z.sRet | with_reducible apply Z.sIf | with_reducible apply Z.cT | with_reducible apply Z.cF | with_reducible apply Z.sAsg | with_reducible apply Z.sAsgT | with_reducible apply Z.sPar | with_reducible apply Z.sPar3 | with_reducible apply Z.sExpr | with_reducible apply Z.sMeth | with_reducible apply Z.sSetix | with_reducible apply Z.sAugA | with_reducible apply Z.sAugS | with_reducible apply Z.rTe | with_reducible apply Z.rTnot | with_reducible apply Z.rTand | with_reducible apply Z.rTor | with_reducible apply Z.rTsC | with_reducible apply Z.rCons | with_reducible apply Z.rCmp | with_reducible apply Z.rBin | with_reducible apply Z.rIx | with_reducible apply Z.rSl | with_reducible apply Z.rOs | with_reducible apply Z.rNeg | with_reducible apply Z.rNot | with_reducible apply Z.rAnd | with_reducible apply Z.rOr | with_reducible apply Z.rIte | with_reducible apply Z.rCall | with_reducible apply Z.rCallV | with_reducible apply Z.rBlt | with_reducible apply Z.rIsi | with_reducible apply Z.rTup | with_reducible apply Z.rLst | with_reducible apply Z.rRange | with_reducible apply Z.rSeq | with_reducible apply Z.rEnum | with_reducible apply Z.bnAddT | with_reducible apply Z.bnAddL | with_reducible apply Z.blLL | with_reducible apply Z.blLT | with_reducible apply Z.blMx | with_reducible apply Z.blMn | with_reducible apply Z.mtApp | with_reducible apply Z.mtExt | ((with_reducible apply Z.cGt); · rfl) | ((with_reducible apply Z.cGf); · rfl) | ((with_reducible apply Z.gFrz); rfl) | ((with_reducible apply Z.gEqE); rfl) | ((with_reducible apply Z.gEqX); rfl) | ((with_reducible apply Z.gEqB); rfl) | ((with_reducible apply Z.gGet); rfl) | ((with_reducible apply Z.gAsg); rfl) | ((with_reducible apply Z.gWipe); rfl) | ((with_reducible apply Z.gGlo); rfl) | ((with_reducible apply Z.szL); rfl) | ((with_reducible apply Z.gIn) <;> first | rfl | ((with_reducible apply Z.gIn1); rfl)))
  apply Z.coN
  apply Z.ssF
  · rfl
  apply Z.ssC
  · (repeat first | with_reducible exact m1 | with_reducible exact BG | with_reducible exact Z.gSo | with_reducible exact Z.rCs | with_reducible exact Z.rCi | with_reducible exact Z.rCb | with_reducible exact Z.rCn | with_reducible exact Z.rF | with_reducible exact Z.srV | with_reducible exact Z.iaV | with_reducible exact Z.iaF | with_reducible exact Z.iaA | with_reducible exact Z.srO | with_reducible exact Z.srH | with_reducible exact Z.srF | with_reducible exact Z.daV | with_reducible exact Z.daF | with_reducible exact Z.daA | with_reducible exact Z.slV | with_reducible exact Z.slF | with_reducible exact Z.slH | with_reducible exact Z.slFn | with_reducible exact Z.emV | with_reducible exact Z.emF | with_reducible exact Z.ebN | with_reducible exact Z.reV | with_reducible exact Z.reF | with_reducible exact Z.reA | with_reducible exact Z.agN | with_reducible exact Z.arV | with_reducible exact Z.arF | with_reducible exact Z.arA | with_reducible exact Z.arH | with_reducible exact Z.arFn | with_reducible exact Z.inB | with_reducible exact Z.inI | with_reducible exact Z.inN | with_reducible exact Z.trB | with_reducible exact Z.trI | with_reducible exact Z.trL | with_reducible exact Z.trT | with_reducible exact Z.trN | with_reducible exact Z.bnAdd | with_reducible exact Z.bnSub | with_reducible exact Z.cpLt | with_reducible exact Z.cpLe | with_reducible exact Z.cpGt | with_reducible exact Z.cpGe | with_reducible exact Z.cpIs | with_reducible exact Z.cpNo | with_reducible exact Z.cEqI | with_reducible exact Z.cNeI | with_reducible exact Z.cEqB | with_reducible exact Z.cNeB | with_reducible exact Z.sqL | with_reducible exact Z.sqT | with_reducible exact Z.ix0 | with_reducible exact Z.ix1 | with_reducible exact Z.ix2 | with_reducible exact Z.ix3 | with_reducible exact Z.ix4 | with_reducible exact Z.rNil | with_reducible exact Z.rTsN | with_reducible exact Z.rOn | with_reducible exact Z.ssN | with_reducible exact Z.coR | with_reducible exact Z.coC | with_reducible exact Z.coB | with_reducible exact Z.sRetN | with_reducible exact Z.sCont | with_reducible exact Z.sBrk | with_reducible exact Z.sPass | with_reducible apply Z.ebC | with_reducible apply Z.agC | with_reducible apply Z.rV | with_reducible apply Z.rG | with_reducible apply Z.ssF | with_reducible apply Z.ssC | with_reducible apply Z.coN | with_reducible apply Z.sRet | with_reducible apply Z.sIf | with_reducible apply Z.cT | with_reducible apply Z.cF | with_reducible apply Z.sAsg | with_reducible apply Z.sAsgT | with_reducible apply Z.sPar | with_reducible apply Z.sPar3 | with_reducible apply Z.sExpr | with_reducible apply Z.sMeth | with_reducible apply Z.sSetix | with_reducible apply Z.sAugA | with_reducible apply Z.sAugS | with_reducible apply Z.rTe | with_reducible apply Z.rTnot | with_reducible apply Z.rTand | with_reducible apply Z.rTor | with_reducible apply Z.rTsC | with_reducible apply Z.rCons | with_reducible apply Z.rCmp | with_reducible apply Z.rBin | with_reducible apply Z.rIx | with_reducible apply Z.rSl | with_reducible apply Z.rOs | with_reducible apply Z.rNeg | with_reducible apply Z.rNot | with_reducible apply Z.rAnd | with_reducible apply Z.rOr | with_reducible apply Z.rIte | with_reducible apply Z.rCall | with_reducible apply Z.rCallV | with_reducible apply Z.rBlt | with_reducible apply Z.rIsi | with_reducible apply Z.rTup | with_reducible apply Z.rLst | with_reducible apply Z.rRange | with_reducible apply Z.rSeq | with_reducible apply Z.rEnum | with_reducible apply Z.bnAddT | with_reducible apply Z.bnAddL | with_reducible apply Z.blLL | with_reducible apply Z.blLT | with_reducible apply Z.blMx | with_reducible apply Z.blMn | with_reducible apply Z.mtApp | with_reducible apply Z.mtExt | ((with_reducible apply Z.cGt); · rfl) | ((with_reducible apply Z.cGf); · rfl) | ((with_reducible apply Z.gFrz); rfl) | ((with_reducible apply Z.gEqE); rfl) | ((with_reducible apply Z.gEqX); rfl) | ((with_reducible apply Z.gEqB); rfl) | ((with_reducible apply Z.gGet); rfl) | ((with_reducible apply Z.gAsg); rfl) | ((with_reducible apply Z.gWipe); rfl) | ((with_reducible apply Z.gGlo); rfl) | ((with_reducible apply Z.szL); rfl) | ((with_reducible apply Z.gIn) <;> first | rfl | ((with_reducible apply Z.gIn1); rfl)))
  apply Z.coN
  apply Z.ssC
  · (repeat first | with_reducible exact rg | with_reducible exact hlr | with_reducible exact tp _ | with_reducible exact neT _ _ | with_reducible apply Z.rLc (h4 := lpL') | with_reducible exact Z.gSo | with_reducible exact Z.rCs | with_reducible exact Z.rCi | with_reducible exact Z.rCb | with_reducible exact Z.rCn | with_reducible exact Z.rF | with_reducible exact Z.srV | with_reducible exact Z.iaV | with_reducible exact Z.iaF | with_reducible exact Z.iaA | with_reducible exact Z.srO | with_reducible exact Z.srH | with_reducible exact Z.srF | with_reducible exact Z.daV | with_reducible exact Z.daF | with_reducible exact Z.daA | with_reducible exact Z.slV | with_reducible exact Z.slF | with_reducible exact Z.slH | with_reducible exact Z.slFn | with_reducible exact Z.emV | with_reducible exact Z.emF | with_reducible exact Z.ebN | with_reducible exact Z.reV | with_reducible exact Z.reF | with_reducible exact Z.reA | with_reducible exact Z.agN | with_reducible exact Z.arV | with_reducible exact Z.arF | with_reducible exact Z.arA | with_reducible exact Z.arH | with_reducible exact Z.arFn | with_reducible exact Z.inB | with_reducible exact Z.inI | with_reducible exact Z.inN | with_reducible exact Z.trB | with_reducible exact Z.trI | with_reducible exact Z.trL | with_reducible exact Z.trT | with_reducible exact Z.trN | with_reducible exact Z.bnAdd | with_reducible exact Z.bnSub | with_reducible exact Z.cpLt | with_reducible exact Z.cpLe | with_reducible exact Z.cpGt | with_reducible exact Z.cpGe | with_reducible exact Z.cpIs | with_reducible exact Z.cpNo | with_reducible exact Z.cEqI | with_reducible exact Z.cNeI | with_reducible exact Z.cEqB | with_reducible exact Z.cNeB | with_reducible exact Z.sqL | with_reducible exact Z.sqT | with_reducible exact Z.ix0 | with_reducible exact Z.ix1 | with_reducible exact Z.ix2 | with_reducible exact Z.ix3 | with_reducible exact Z.ix4 | with_reducible exact Z.rNil | with_reducible exact Z.rTsN | with_reducible exact Z.rOn | with_reducible exact Z.ssN | with_reducible exact Z.coR | with_reducible exact Z.coC | with_reducible exact Z.coB | with_reducible exact Z.sRetN | with_reducible exact Z.sCont | with_reducible exact Z.sBrk | with_reducible exact Z.sPass | with_reducible apply Z.ebC | with_reducible apply Z.agC | with_reducible apply Z.rV | with_reducible apply Z.rG | with_reducible apply Z.ssF | with_reducible apply Z.ssC | with_reducible apply Z.coN | with_reducible apply Z.sRet | with_reducible apply Z.sIf | with_reducible apply Z.cT | with_reducible apply Z.cF | with_reducible apply Z.sAsg | with_reducible apply Z.sAsgT | with_reducible apply Z.sPar | with_reducible apply Z.sPar3 | with_reducible apply Z.sExpr | with_reducible apply Z.sMeth | with_reducible apply Z.sSetix | with_reducible apply Z.sAugA | with_reducible apply Z.sAugS | with_reducible apply Z.rTe | with_reducible apply Z.rTnot | with_reducible apply Z.rTand | with_reducible apply Z.rTor | with_reducible apply Z.rTsC | with_reducible apply Z.rCons | with_reducible apply Z.rCmp | with_reducible apply Z.rBin | with_reducible apply Z.rIx | with_reducible apply Z.rSl | with_reducible apply Z.rOs | with_reducible apply Z.rNeg | with_reducible apply Z.rNot | with_reducible apply Z.rAnd | with_reducible apply Z.rOr | with_reducible apply Z.rIte | with_reducible apply Z.rCall | with_reducible apply Z.rCallV | with_reducible apply Z.rBlt | with_reducible apply Z.rIsi | with_reducible apply Z.rTup | with_reducible apply Z.rLst | with_reducible apply Z.rRange | with_reducible apply Z.rSeq | with_reducible apply Z.rEnum | with_reducible apply Z.bnAddT | with_reducible apply Z.bnAddL | with_reducible apply Z.blLL | with_reducible apply Z.blLT | with_reducible apply Z.blMx | with_reducible apply Z.blMn | with_reducible apply Z.mtApp | with_reducible apply Z.mtExt | ((with_reducible apply Z.cGt); · rfl) | ((with_reducible apply Z.cGf); · rfl) | ((with_reducible apply Z.gFrz); rfl) | ((with_reducible apply Z.gEqE); rfl) | ((with_reducible apply Z.gEqX); rfl) | ((with_reducible apply Z.gEqB); rfl) | ((with_reducible apply Z.gGet); rfl) | ((with_reducible apply Z.gAsg); rfl) | ((with_reducible apply Z.gWipe); rfl) | ((with_reducible apply Z.gGlo); rfl) | ((with_reducible apply Z.szL); rfl) | ((with_reducible apply Z.gIn) <;> first | rfl | ((with_reducible apply Z.gIn1); rfl)))
  apply Z.coN
  have tpO : evBlt .tuple [.fresh (xs.map fun b => PyData.int (if b = true then 1 else 0))] = some (.val (ownD (ofL xs) n)) := by rw [ow]; rfl
  apply Z.ssC
  · (repeat first | with_reducible exact rg | with_reducible exact hlr | with_reducible exact tpO | with_reducible apply Z.rLc (h4 := lpO) | with_reducible exact Z.gSo | with_reducible exact Z.rCs | with_reducible exact Z.rCi | with_reducible exact Z.rCb | with_reducible exact Z.rCn | with_reducible exact Z.rF | with_reducible exact Z.srV | with_reducible exact Z.iaV | with_reducible exact Z.iaF | with_reducible exact Z.iaA | with_reducible exact Z.srO | with_reducible exact Z.srH | with_reducible exact Z.srF | with_reducible exact Z.daV | with_reducible exact Z.daF | with_reducible exact Z.daA | with_reducible exact Z.slV | with_reducible exact Z.slF | with_reducible exact Z.slH | with_reducible exact Z.slFn | with_reducible exact Z.emV | with_reducible exact Z.emF | with_reducible exact Z.ebN | with_reducible exact Z.reV | with_reducible exact Z.reF | with_reducible exact Z.reA | with_reducible exact Z.agN | with_reducible exact Z.arV | with_reducible exact Z.arF | with_reducible exact Z.arA | with_reducible exact Z.arH | with_reducible exact Z.arFn | with_reducible exact Z.inB | with_reducible exact Z.inI | with_reducible exact Z.inN | with_reducible exact Z.trB | with_reducible exact Z.trI | with_reducible exact Z.trL | with_reducible exact Z.trT | with_reducible exact Z.trN | with_reducible exact Z.bnAdd | with_reducible exact Z.bnSub | with_reducible exact Z.cpLt | with_reducible exact Z.cpLe | with_reducible exact Z.cpGt | with_reducible exact Z.cpGe | with_reducible exact Z.cpIs | with_reducible exact Z.cpNo | with_reducible exact Z.cEqI | with_reducible exact Z.cNeI | with_reducible exact Z.cEqB | with_reducible exact Z.cNeB | with_reducible exact Z.sqL | with_reducible exact Z.sqT | with_reducible exact Z.ix0 | with_reducible exact Z.ix1 | with_reducible exact Z.ix2 | with_reducible exact Z.ix3 | with_reducible exact Z.ix4 | with_reducible exact Z.rNil | with_reducible exact Z.rTsN | with_reducible exact Z.rOn | with_reducible exact Z.ssN | with_reducible exact Z.coR | with_reducible exact Z.coC | with_reducible exact Z.coB | with_reducible exact Z.sRetN | with_reducible exact Z.sCont | with_reducible exact Z.sBrk | with_reducible exact Z.sPass | with_reducible apply Z.ebC | with_reducible apply Z.agC | with_reducible apply Z.rV | with_reducible apply Z.rG | with_reducible apply Z.ssF | with_reducible apply Z.ssC | with_reducible apply Z.coN | with_reducible apply Z.sRet | with_reducible apply Z.sIf | with_reducible apply Z.cT | with_reducible apply Z.cF | with_reducible apply Z.sAsg | with_reducible apply Z.sAsgT | with_reducible apply Z.sPar | with_reducible apply Z.sPar3 | with_reducible apply Z.sExpr | with_reducible apply Z.sMeth | with_reducible apply Z.sSetix | with_reducible apply Z.sAugA | with_reducible apply Z.sAugS | with_reducible apply Z.rTe | with_reducible apply Z.rTnot | with_reducible apply Z.rTand | with_reducible apply Z.rTor | with_reducible apply Z.rTsC | with_reducible apply Z.rCons | with_reducible apply Z.rCmp | with_reducible apply Z.rBin | with_reducible apply Z.rIx | with_reducible apply Z.rSl | with_reducible apply Z.rOs | with_reducible apply Z.rNeg | with_reducible apply Z.rNot | with_reducible apply Z.rAnd | with_reducible apply Z.rOr | with_reducible apply Z.rIte | with_reducible apply Z.rCall | with_reducible apply Z.rCallV | with_reducible apply Z.rBlt | with_reducible apply Z.rIsi | with_reducible apply Z.rTup | with_reducible apply Z.rLst | with_reducible apply Z.rRange | with_reducible apply Z.rSeq | with_reducible apply Z.rEnum | with_reducible apply Z.bnAddT | with_reducible apply Z.bnAddL | with_reducible apply Z.blLL | with_reducible apply Z.blLT | with_reducible apply Z.blMx | with_reducible apply Z.blMn | with_reducible apply Z.mtApp | with_reducible apply Z.mtExt | ((with_reducible apply Z.cGt); · rfl) | ((with_reducible apply Z.cGf); · rfl) | ((with_reducible apply Z.gFrz); rfl) | ((with_reducible apply Z.gEqE); rfl) | ((with_reducible apply Z.gEqX); rfl) | ((with_reducible apply Z.gEqB); rfl) | ((with_reducible apply Z.gGet); rfl) | ((with_reducible apply Z.gAsg); rfl) | ((with_reducible apply Z.gWipe); rfl) | ((with_reducible apply Z.gGlo); rfl) | ((with_reducible apply Z.szL); rfl) | ((with_reducible apply Z.gIn) <;> first | rfl | ((with_reducible apply Z.gIn1); rfl)))
  apply Z.coN
  apply Z.ssF
  · rfl
  apply Z.ssC
  · (repeat first | with_reducible exact BO | with_reducible exact Z.gSo | with_reducible exact Z.rCs | with_reducible exact Z.rCi | with_reducible exact Z.rCb | with_reducible exact Z.rCn | with_reducible exact Z.rF | with_reducible exact Z.srV | with_reducible exact Z.iaV | with_reducible exact Z.iaF | with_reducible exact Z.iaA | with_reducible exact Z.srO | with_reducible exact Z.srH | with_reducible exact Z.srF | with_reducible exact Z.daV | with_reducible exact Z.daF | with_reducible exact Z.daA | with_reducible exact Z.slV | with_reducible exact Z.slF | with_reducible exact Z.slH | with_reducible exact Z.slFn | with_reducible exact Z.emV | with_reducible exact Z.emF | with_reducible exact Z.ebN | with_reducible exact Z.reV | with_reducible exact Z.reF | with_reducible exact Z.reA | with_reducible exact Z.agN | with_reducible exact Z.arV | with_reducible exact Z.arF | with_reducible exact Z.arA | with_reducible exact Z.arH | with_reducible exact Z.arFn | with_reducible exact Z.inB | with_reducible exact Z.inI | with_reducible exact Z.inN | with_reducible exact Z.trB | with_reducible exact Z.trI | with_reducible exact Z.trL | with_reducible exact Z.trT | with_reducible exact Z.trN | with_reducible exact Z.bnAdd | with_reducible exact Z.bnSub | with_reducible exact Z.cpLt | with_reducible exact Z.cpLe | with_reducible exact Z.cpGt | with_reducible exact Z.cpGe | with_reducible exact Z.cpIs | with_reducible exact Z.cpNo | with_reducible exact Z.cEqI | with_reducible exact Z.cNeI | with_reducible exact Z.cEqB | with_reducible exact Z.cNeB | with_reducible exact Z.sqL | with_reducible exact Z.sqT | with_reducible exact Z.ix0 | with_reducible exact Z.ix1 | with_reducible exact Z.ix2 | with_reducible exact Z.ix3 | with_reducible exact Z.ix4 | with_reducible exact Z.rNil | with_reducible exact Z.rTsN | with_reducible exact Z.rOn | with_reducible exact Z.ssN | with_reducible exact Z.coR | with_reducible exact Z.coC | with_reducible exact Z.coB | with_reducible exact Z.sRetN | with_reducible exact Z.sCont | with_reducible exact Z.sBrk | with_reducible exact Z.sPass | with_reducible apply Z.ebC | with_reducible apply Z.agC | with_reducible apply Z.rV | with_reducible apply Z.rG | with_reducible apply Z.ssF | with_reducible apply Z.ssC | with_reducible apply Z.coN | with_reducible apply Z.sRet | with_reducible apply Z.sIf | with_reducible apply Z.cT | with_reducible apply Z.cF | with_reducible apply Z.sAsg | with_reducible apply Z.sAsgT | with_reducible apply Z.sPar | with_reducible apply Z.sPar3 | with_reducible apply Z.sExpr | with_reducible apply Z.sMeth | with_reducible apply Z.sSetix | with_reducible apply Z.sAugA | with_reducible apply Z.sAugS | with_reducible apply Z.rTe | with_reducible apply Z.rTnot | with_reducible apply Z.rTand | with_reducible apply Z.rTor | with_reducible apply Z.rTsC | with_reducible apply Z.rCons | with_reducible apply Z.rCmp | with_reducible apply Z.rBin | with_reducible apply Z.rIx | with_reducible apply Z.rSl | with_reducible apply Z.rOs | with_reducible apply Z.rNeg | with_reducible apply Z.rNot | with_reducible apply Z.rAnd | with_reducible apply Z.rOr | with_reducible apply Z.rIte | with_reducible apply Z.rCall | with_reducible apply Z.rCallV | with_reducible apply Z.rBlt | with_reducible apply Z.rIsi | with_reducible apply Z.rTup | with_reducible apply Z.rLst | with_reducible apply Z.rRange | with_reducible apply Z.rSeq | with_reducible apply Z.rEnum | with_reducible apply Z.bnAddT | with_reducible apply Z.bnAddL | with_reducible apply Z.blLL | with_reducible apply Z.blLT | with_reducible apply Z.blMx | with_reducible apply Z.blMn | with_reducible apply Z.mtApp | with_reducible apply Z.mtExt | ((with_reducible apply Z.cGt); · rfl) | ((with_reducible apply Z.cGf); · rfl) | ((with_reducible apply Z.gFrz); rfl) | ((with_reducible apply Z.gEqE); rfl) | ((with_reducible apply Z.gEqX); rfl) | ((with_reducible apply Z.gEqB); rfl) | ((with_reducible apply Z.gGet); rfl) | ((with_reducible apply Z.gAsg); rfl) | ((with_reducible apply Z.gWipe); rfl) | ((with_reducible apply Z.gGlo); rfl) | ((with_reducible apply Z.szL); rfl) | ((with_reducible apply Z.gIn) <;> first | rfl | ((with_reducible apply Z.gIn1); rfl)))
  apply Z.coN
  apply Z.ssC
  · (repeat first | with_reducible exact rg | with_reducible apply Z.sFor2 (h2 := lp2) | with_reducible exact Z.gSo | with_reducible exact Z.rCs | with_reducible exact Z.rCi | with_reducible exact Z.rCb | with_reducible exact Z.rCn | with_reducible exact Z.rF | with_reducible exact Z.srV | with_reducible exact Z.iaV | with_reducible exact Z.iaF | with_reducible exact Z.iaA | with_reducible exact Z.srO | with_reducible exact Z.srH | with_reducible exact Z.srF | with_reducible exact Z.daV | with_reducible exact Z.daF | with_reducible exact Z.daA | with_reducible exact Z.slV | with_reducible exact Z.slF | with_reducible exact Z.slH | with_reducible exact Z.slFn | with_reducible exact Z.emV | with_reducible exact Z.emF | with_reducible exact Z.ebN | with_reducible exact Z.reV | with_reducible exact Z.reF | with_reducible exact Z.reA | with_reducible exact Z.agN | with_reducible exact Z.arV | with_reducible exact Z.arF | with_reducible exact Z.arA | with_reducible exact Z.arH | with_reducible exact Z.arFn | with_reducible exact Z.inB | with_reducible exact Z.inI | with_reducible exact Z.inN | with_reducible exact Z.trB | with_reducible exact Z.trI | with_reducible exact Z.trL | with_reducible exact Z.trT | with_reducible exact Z.trN | with_reducible exact Z.bnAdd | with_reducible exact Z.bnSub | with_reducible exact Z.cpLt | with_reducible exact Z.cpLe | with_reducible exact Z.cpGt | with_reducible exact Z.cpGe | with_reducible exact Z.cpIs | with_reducible exact Z.cpNo | with_reducible exact Z.cEqI | with_reducible exact Z.cNeI | with_reducible exact Z.cEqB | with_reducible exact Z.cNeB | with_reducible exact Z.sqL | with_reducible exact Z.sqT | with_reducible exact Z.ix0 | with_reducible exact Z.ix1 | with_reducible exact Z.ix2 | with_reducible exact Z.ix3 | with_reducible exact Z.ix4 | with_reducible exact Z.rNil | with_reducible exact Z.rTsN | with_reducible exact Z.rOn | with_reducible exact Z.ssN | with_reducible exact Z.coR | with_reducible exact Z.coC | with_reducible exact Z.coB | with_reducible exact Z.sRetN | with_reducible exact Z.sCont | with_reducible exact Z.sBrk | with_reducible exact Z.sPass | with_reducible apply Z.ebC | with_reducible apply Z.agC | with_reducible apply Z.rV | with_reducible apply Z.rG | with_reducible apply Z.ssF | with_reducible apply Z.ssC | with_reducible apply Z.coN | with_reducible apply Z.sRet | with_reducible apply Z.sIf | with_reducible apply Z.cT | with_reducible apply Z.cF | with_reducible apply Z.sAsg | with_reducible apply Z.sAsgT | with_reducible apply Z.sPar | with_reducible apply Z.sPar3 | with_reducible apply Z.sExpr | with_reducible apply Z.sMeth | with_reducible apply Z.sSetix | with_reducible apply Z.sAugA | with_reducible apply Z.sAugS | with_reducible apply Z.rTe | with_reducible apply Z.rTnot | with_reducible apply Z.rTand | with_reducible apply Z.rTor | with_reducible apply Z.rTsC | with_reducible apply Z.rCons | with_reducible apply Z.rCmp | with_reducible apply Z.rBin | with_reducible apply Z.rIx | with_reducible apply Z.rSl | with_reducible apply Z.rOs | with_reducible apply Z.rNeg | with_reducible apply Z.rNot | with_reducible apply Z.rAnd | with_reducible apply Z.rOr | with_reducible apply Z.rIte | with_reducible apply Z.rCall | with_reducible apply Z.rCallV | with_reducible apply Z.rBlt | with_reducible apply Z.rIsi | with_reducible apply Z.rTup | with_reducible apply Z.rLst | with_reducible apply Z.rRange | with_reducible apply Z.rSeq | with_reducible apply Z.rEnum | with_reducible apply Z.bnAddT | with_reducible apply Z.bnAddL | with_reducible apply Z.blLL | with_reducible apply Z.blLT | with_reducible apply Z.blMx | with_reducible apply Z.blMn | with_reducible apply Z.mtApp | with_reducible apply Z.mtExt | ((with_reducible apply Z.cGt); · rfl) | ((with_reducible apply Z.cGf); · rfl) | ((with_reducible apply Z.gFrz); rfl) | ((with_reducible apply Z.gEqE); rfl) | ((with_reducible apply Z.gEqX); rfl) | ((with_reducible apply Z.gEqB); rfl) | ((with_reducible apply Z.gGet); rfl) | ((with_reducible apply Z.gAsg); rfl) | ((with_reducible apply Z.gWipe); rfl) | ((with_reducible apply Z.gGlo); rfl) | ((with_reducible apply Z.szL); rfl) | ((with_reducible apply Z.gIn) <;> first | rfl | ((with_reducible apply Z.gIn1); rfl)))
  apply Z.coN
  apply Z.ssF
  · rfl
  apply Z.ssC
  · (repeat first | with_reducible apply Z.rZipT | with_reducible apply Z.sFor2 (h2 := lp3) | with_reducible exact Z.gSo | with_reducible exact Z.rCs | with_reducible exact Z.rCi | with_reducible exact Z.rCb | with_reducible exact Z.rCn | with_reducible exact Z.rF | with_reducible exact Z.srV | with_reducible exact Z.iaV | with_reducible exact Z.iaF | with_reducible exact Z.iaA | with_reducible exact Z.srO | with_reducible exact Z.srH | with_reducible exact Z.srF | with_reducible exact Z.daV | with_reducible exact Z.daF | with_reducible exact Z.daA | with_reducible exact Z.slV | with_reducible exact Z.slF | with_reducible exact Z.slH | with_reducible exact Z.slFn | with_reducible exact Z.emV | with_reducible exact Z.emF | with_reducible exact Z.ebN | with_reducible exact Z.reV | with_reducible exact Z.reF | with_reducible exact Z.reA | with_reducible exact Z.agN | with_reducible exact Z.arV | with_reducible exact Z.arF | with_reducible exact Z.arA | with_reducible exact Z.arH | with_reducible exact Z.arFn | with_reducible exact Z.inB | with_reducible exact Z.inI | with_reducible exact Z.inN | with_reducible exact Z.trB | with_reducible exact Z.trI | with_reducible exact Z.trL | with_reducible exact Z.trT | with_reducible exact Z.trN | with_reducible exact Z.bnAdd | with_reducible exact Z.bnSub | with_reducible exact Z.cpLt | with_reducible exact Z.cpLe | with_reducible exact Z.cpGt | with_reducible exact Z.cpGe | with_reducible exact Z.cpIs | with_reducible exact Z.cpNo | with_reducible exact Z.cEqI | with_reducible exact Z.cNeI | with_reducible exact Z.cEqB | with_reducible exact Z.cNeB | with_reducible exact Z.sqL | with_reducible exact Z.sqT | with_reducible exact Z.ix0 | with_reducible exact Z.ix1 | with_reducible exact Z.ix2 | with_reducible exact Z.ix3 | with_reducible exact Z.ix4 | with_reducible exact Z.rNil | with_reducible exact Z.rTsN | with_reducible exact Z.rOn | with_reducible exact Z.ssN | with_reducible exact Z.coR | with_reducible exact Z.coC | with_reducible exact Z.coB | with_reducible exact Z.sRetN | with_reducible exact Z.sCont | with_reducible exact Z.sBrk | with_reducible exact Z.sPass | with_reducible apply Z.ebC | with_reducible apply Z.agC | with_reducible apply Z.rV | with_reducible apply Z.rG | with_reducible apply Z.ssF | with_reducible apply Z.ssC | with_reducible apply Z.coN | with_reducible apply Z.sRet | with_reducible apply Z.sIf | with_reducible apply Z.cT | with_reducible apply Z.cF | with_reducible apply Z.sAsg | with_reducible apply Z.sAsgT | with_reducible apply Z.sPar | with_reducible apply Z.sPar3 | with_reducible apply Z.sExpr | with_reducible apply Z.sMeth | with_reducible apply Z.sSetix | with_reducible apply Z.sAugA | with_reducible apply Z.sAugS | with_reducible apply Z.rTe | with_reducible apply Z.rTnot | with_reducible apply Z.rTand | with_reducible apply Z.rTor | with_reducible apply Z.rTsC | with_reducible apply Z.rCons | with_reducible apply Z.rCmp | with_reducible apply Z.rBin | with_reducible apply Z.rIx | with_reducible apply Z.rSl | with_reducible apply Z.rOs | with_reducible apply Z.rNeg | with_reducible apply Z.rNot | with_reducible apply Z.rAnd | with_reducible apply Z.rOr | with_reducible apply Z.rIte | with_reducible apply Z.rCall | with_reducible apply Z.rCallV | with_reducible apply Z.rBlt | with_reducible apply Z.rIsi | with_reducible apply Z.rTup | with_reducible apply Z.rLst | with_reducible apply Z.rRange | with_reducible apply Z.rSeq | with_reducible apply Z.rEnum | with_reducible apply Z.bnAddT | with_reducible apply Z.bnAddL | with_reducible apply Z.blLL | with_reducible apply Z.blLT | with_reducible apply Z.blMx | with_reducible apply Z.blMn | with_reducible apply Z.mtApp | with_reducible apply Z.mtExt | ((with_reducible apply Z.cGt); · rfl) | ((with_reducible apply Z.cGf); · rfl) | ((with_reducible apply Z.gFrz); rfl) | ((with_reducible apply Z.gEqE); rfl) | ((with_reducible apply Z.gEqX); rfl) | ((with_reducible apply Z.gEqB); rfl) | ((with_reducible apply Z.gGet); rfl) | ((with_reducible apply Z.gAsg); rfl) | ((with_reducible apply Z.gWipe); rfl) | ((with_reducible apply Z.gGlo); rfl) | ((with_reducible apply Z.szL); rfl) | ((with_reducible apply Z.gIn) <;> first | rfl | ((with_reducible apply Z.gIn1); rfl)))
  apply Z.coN
  (repeat first | with_reducible exact Z.gSo | with_reducible exact Z.rCs | with_reducible exact Z.rCi | with_reducible exact Z.rCb | with_reducible exact Z.rCn | with_reducible exact Z.rF | with_reducible exact Z.srV | with_reducible exact Z.iaV | with_reducible exact Z.iaF | with_reducible exact Z.iaA | with_reducible exact Z.srO | with_reducible exact Z.srH | with_reducible exact Z.srF | with_reducible exact Z.daV | with_reducible exact Z.daF | with_reducible exact Z.daA | with_reducible exact Z.slV | with_reducible exact Z.slF | with_reducible exact Z.slH | with_reducible exact Z.slFn | with_reducible exact Z.emV | with_reducible exact Z.emF | with_reducible exact Z.ebN | with_reducible exact Z.reV | with_reducible exact Z.reF | with_reducible exact Z.reA | with_reducible exact Z.agN | with_reducible exact Z.arV | with_reducible exact Z.arF | with_reducible exact Z.arA | with_reducible exact Z.arH | with_reducible exact Z.arFn | with_reducible exact Z.inB | with_reducible exact Z.inI | with_reducible exact Z.inN | with_reducible exact Z.trB | with_reducible exact Z.trI | with_reducible exact Z.trL | with_reducible exact Z.trT | with_reducible exact Z.trN | with_reducible exact Z.bnAdd | with_reducible exact Z.bnSub | with_reducible exact Z.cpLt | with_reducible exact Z.cpLe | with_reducible exact Z.cpGt | with_reducible exact Z.cpGe | with_reducible exact Z.cpIs | with_reducible exact Z.cpNo | with_reducible exact Z.cEqI | with_reducible exact Z.cNeI | with_reducible exact Z.cEqB | with_reducible exact Z.cNeB | with_reducible exact Z.sqL | with_reducible exact Z.sqT | with_reducible exact Z.ix0 | with_reducible exact Z.ix1 | with_reducible exact Z.ix2 | with_reducible exact Z.ix3 | with_reducible exact Z.ix4 | with_reducible exact Z.rNil | with_reducible exact Z.rTsN | with_reducible exact Z.rOn | with_reducible exact Z.ssN | with_reducible exact Z.coR | with_reducible exact Z.coC | with_reducible exact Z.coB | with_reducible exact Z.sRetN | with_reducible exact Z.sCont | with_reducible exact Z.sBrk | with_reducible exact Z.sPass | with_reducible apply Z.ebC | with_reducible apply Z.agC | with_reducible apply Z.rV | with_reducible apply Z.rG | with_reducible apply Z.ssF | with_reducible apply Z.ssC | with_reducible apply Z.coN | with_reducible apply Z.sRet | with_reducible apply Z.sIf | with_reducible apply Z.cT | with_reducible apply Z.cF | with_reducible apply Z.sAsg | with_reducible apply Z.sAsgT | with_reducible apply Z.sPar | with_reducible apply Z.sPar3 | with_reducible apply Z.sExpr | with_reducible apply Z.sMeth | with_reducible apply Z.sSetix | with_reducible apply Z.sAugA | with_reducible apply Z.sAugS | with_reducible apply Z.rTe | with_reducible apply Z.rTnot | with_reducible apply Z.rTand | with_reducible apply Z.rTor | with_reducible apply Z.rTsC | with_reducible apply Z.rCons | with_reducible apply Z.rCmp | with_reducible apply Z.rBin | with_reducible apply Z.rIx | with_reducible apply Z.rSl | with_reducible apply Z.rOs | with_reducible apply Z.rNeg | with_reducible apply Z.rNot | with_reducible apply Z.rAnd | with_reducible apply Z.rOr | with_reducible apply Z.rIte | with_reducible apply Z.rCall | with_reducible apply Z.rCallV | with_reducible apply Z.rBlt | with_reducible apply Z.rIsi | with_reducible apply Z.rTup | with_reducible apply Z.rLst | with_reducible apply Z.rRange | with_reducible apply Z.rSeq | with_reducible apply Z.rEnum | with_reducible apply Z.bnAddT | with_reducible apply Z.bnAddL | with_reducible apply Z.blLL | with_reducible apply Z.blLT | with_reducible apply Z.blMx | with_reducible apply Z.blMn | with_reducible apply Z.mtApp | with_reducible apply Z.mtExt | ((with_reducible apply Z.cGt); · rfl) | ((with_reducible apply Z.cGf); · rfl) | ((with_reducible apply Z.gFrz); rfl) | ((with_reducible apply Z.gEqE); rfl) | ((with_reducible apply Z.gEqX); rfl) | ((with_reducible apply Z.gEqB); rfl) | ((with_reducible apply Z.gGet); rfl) | ((with_reducible apply Z.gAsg); rfl) | ((with_reducible apply Z.gWipe); rfl) | ((with_reducible apply Z.gGlo); rfl) | ((with_reducible apply Z.szL); rfl) | ((with_reducible apply Z.gIn) <;> first | rfl | ((with_reducible apply Z.gIn1); rfl)))
end Z57

namespace Z57
open PySem L2 Z
theorem nodup_tab : ∀ e ∈ tab, ∀ e' ∈ tab, e.f = e'.f → e = e' := by
  have key : (tab.map (·.f)).Nodup := by decide +kernel
  intro e he e' he' h
  exact inj_of key he he' h
theorem eo_lowered : EntOk tab glosL en_lowered := ⟨⟨rfl, rfl, rfl, by decide +kernel, rfl, by decide +kernel, by decide +kernel⟩, ⟨400, by kernel_rfl⟩⟩
theorem eo_has_schedule : EntOk tab glosL en_has_schedule := ⟨⟨rfl, rfl, rfl, by decide +kernel, rfl, by decide +kernel, by decide +kernel⟩, ⟨400, by kernel_rfl⟩⟩
theorem eo_table_of : EntOk tab glosL en_table_of := ⟨⟨rfl, rfl, rfl, by decide +kernel, rfl, by decide +kernel, by decide +kernel⟩, ⟨400, by kernel_rfl⟩⟩
theorem eo_leading : EntOk tab glosL en_leading := ⟨⟨rfl, rfl, rfl, by decide +kernel, rfl, by decide +kernel, by decide +kernel⟩, ⟨400, by kernel_rfl⟩⟩
theorem eo_told_by : EntOk tab glosL en_told_by := ⟨⟨rfl, rfl, rfl, by decide +kernel, rfl, by decide +kernel, by decide +kernel⟩, ⟨400, by kernel_rfl⟩⟩
theorem eo_time_at : EntOk tab glosL en_time_at := ⟨⟨rfl, rfl, rfl, by decide +kernel, rfl, by decide +kernel, by decide +kernel⟩, ⟨400, by kernel_rfl⟩⟩
theorem eo_least_times : EntOk tab glosL en_least_times := ⟨⟨rfl, rfl, rfl, by decide +kernel, rfl, by decide +kernel, by decide +kernel⟩, ⟨400, by kernel_rfl⟩⟩
theorem eo__law_pairs_below : EntOk tab glosL en__law_pairs_below := ⟨⟨rfl, rfl, rfl, by decide +kernel, rfl, by decide +kernel, by decide +kernel⟩, ⟨400, by kernel_rfl⟩⟩
theorem eo__law_longest : EntOk tab glosL en__law_longest := ⟨⟨rfl, rfl, rfl, by decide +kernel, rfl, by decide +kernel, by decide +kernel⟩, ⟨400, by kernel_rfl⟩⟩
theorem eo_all : ∀ e ∈ tab, EntOk tab glosL e := by
  intro e h
  unfold tab at h
  simp only [List.mem_cons, List.not_mem_nil, or_false] at h
  rcases h with rfl | rfl | rfl | rfl | rfl | rfl | rfl | rfl | rfl
  · exact eo_lowered
  · exact eo_has_schedule
  · exact eo_table_of
  · exact eo_leading
  · exact eo_told_by
  · exact eo_time_at
  · exact eo_least_times
  · exact eo__law_pairs_below
  · exact eo__law_longest
theorem all_mk (plain : ∀ s : DS, ∃ s', evSs (callT Gf tab 100) Gf ir_law (.no :: .hdl :: List.replicate 21 .no) s = some (.rt (.val (.bool true)) s')) {l : PySem.W.OpenLaw} {w : World} {K : PySem.W.Frag} {h : Heap} {mg : Str → Option Value} {fa f0 f1 f2 f3 f4 f5 f6 f7 f8 f9 f10 f11 : Addr} (X : K.In h) (G : h.Ns mainGlobals mg) (hfa : mg "law" = some (.ref fa))
    {od0 od1 od2 od3 od4 od5 od6 od7 od8 od9 od10 od11 an0 an1 an2 an3 an4 an5 an6 an7 an8 an9 an10 an11 : Option Addr} {sl0 sl1 sl2 sl3 sl4 sl5 sl6 sl7 sl8 sl9 sl10 sl11 : Array (Option Value)} {oc0 kV0 dc0 pm0 cd0 ct0 oc1 kV1 dc1 pm1 cd1 ct1 oc2 kV2 dc2 pm2 cd2 ct2 oc3 kV3 dc3 pm3 cd3 ct3 oc4 kV4 dc4 pm4 cd4 ct4 oc5 kV5 dc5 pm5 cd5 ct5 oc6 kV6 dc6 pm6 cd6 ct6 oc7 kV7 dc7 pm7 cd7 ct7 oc8 kV8 dc8 pm8 cd8 ct8 oc9 kV9 dc9 pm9 cd9 ct9 oc10 kV10 dc10 pm10 cd10 ct10 oc11 kV11 dc11 pm11 cd11 ct11 : Value}
    (a0 : PySem.W.nsIn K mainGlobals "lowered" = some (some (.ref f0))) (l0 : K.lookup f0 = some ⟨oc0, od0, .func (PySem.W.fnOf "lowered" "lowered" (defArgs (top 4)) (defBody (top 4)) (defScope (top 4)) .none kV0 dc0 pm0 an0 cd0 ct0), sl0⟩) (c0 : PySem.W.codeIn K cd0 "lowered" = true) (k0 : PySem.W.keepIn K (.ref f0) = true)
    (a1 : PySem.W.nsIn K mainGlobals "has_schedule" = some (some (.ref f1))) (l1 : K.lookup f1 = some ⟨oc1, od1, .func (PySem.W.fnOf "has_schedule" "has_schedule" (defArgs (top 5)) (defBody (top 5)) (defScope (top 5)) .none kV1 dc1 pm1 an1 cd1 ct1), sl1⟩) (c1 : PySem.W.codeIn K cd1 "has_schedule" = true) (k1 : PySem.W.keepIn K (.ref f1) = true)
    (a2 : PySem.W.nsIn K mainGlobals "table_of" = some (some (.ref f2))) (l2 : K.lookup f2 = some ⟨oc2, od2, .func (PySem.W.fnOf "table_of" "table_of" (defArgs (top 6)) (defBody (top 6)) (defScope (top 6)) .none kV2 dc2 pm2 an2 cd2 ct2), sl2⟩) (c2 : PySem.W.codeIn K cd2 "table_of" = true) (k2 : PySem.W.keepIn K (.ref f2) = true)
    (a3 : PySem.W.nsIn K mainGlobals "leading" = some (some (.ref f3))) (l3 : K.lookup f3 = some ⟨oc3, od3, .func (PySem.W.fnOf "leading" "leading" (defArgs (top 8)) (defBody (top 8)) (defScope (top 8)) .none kV3 dc3 pm3 an3 cd3 ct3), sl3⟩) (c3 : PySem.W.codeIn K cd3 "leading" = true) (k3 : PySem.W.keepIn K (.ref f3) = true)
    (a4 : PySem.W.nsIn K mainGlobals "told_by" = some (some (.ref f4))) (l4 : K.lookup f4 = some ⟨oc4, od4, .func (PySem.W.fnOf "told_by" "told_by" (defArgs (top 9)) (defBody (top 9)) (defScope (top 9)) .none kV4 dc4 pm4 an4 cd4 ct4), sl4⟩) (c4 : PySem.W.codeIn K cd4 "told_by" = true) (k4 : PySem.W.keepIn K (.ref f4) = true)
    (a5 : PySem.W.nsIn K mainGlobals "time_at" = some (some (.ref f5))) (l5 : K.lookup f5 = some ⟨oc5, od5, .func (PySem.W.fnOf "time_at" "time_at" (defArgs (top 10)) (defBody (top 10)) (defScope (top 10)) .none kV5 dc5 pm5 an5 cd5 ct5), sl5⟩) (c5 : PySem.W.codeIn K cd5 "time_at" = true) (k5 : PySem.W.keepIn K (.ref f5) = true)
    (a6 : PySem.W.nsIn K mainGlobals "least_times" = some (some (.ref f6))) (l6 : K.lookup f6 = some ⟨oc6, od6, .func (PySem.W.fnOf "least_times" "least_times" (defArgs (top 11)) (defBody (top 11)) (defScope (top 11)) .none kV6 dc6 pm6 an6 cd6 ct6), sl6⟩) (c6 : PySem.W.codeIn K cd6 "least_times" = true) (k6 : PySem.W.keepIn K (.ref f6) = true)
    (a7 : PySem.W.nsIn K mainGlobals "_law_draw" = some (some (.ref f7))) (l7 : K.lookup f7 = some ⟨oc7, od7, .func (PySem.W.fnOf "_law_draw" "_law_draw" (defArgs (top 13)) (defBody (top 13)) (defScope (top 13)) .none kV7 dc7 pm7 an7 cd7 ct7), sl7⟩) (c7 : PySem.W.codeIn K cd7 "_law_draw" = true) (k7 : PySem.W.keepIn K (.ref f7) = true)
    (a8 : PySem.W.nsIn K mainGlobals "_law_take" = some (some (.ref f8))) (l8 : K.lookup f8 = some ⟨oc8, od8, .func (PySem.W.fnOf "_law_take" "_law_take" (defArgs (top 14)) (defBody (top 14)) (defScope (top 14)) .none kV8 dc8 pm8 an8 cd8 ct8), sl8⟩) (c8 : PySem.W.codeIn K cd8 "_law_take" = true) (k8 : PySem.W.keepIn K (.ref f8) = true)
    (a9 : PySem.W.nsIn K mainGlobals "_law_pairs_below" = some (some (.ref f9))) (l9 : K.lookup f9 = some ⟨oc9, od9, .func (PySem.W.fnOf "_law_pairs_below" "_law_pairs_below" (defArgs (top 15)) (defBody (top 15)) (defScope (top 15)) .none kV9 dc9 pm9 an9 cd9 ct9), sl9⟩) (c9 : PySem.W.codeIn K cd9 "_law_pairs_below" = true) (k9 : PySem.W.keepIn K (.ref f9) = true)
    (a10 : PySem.W.nsIn K mainGlobals "_law_longest" = some (some (.ref f10))) (l10 : K.lookup f10 = some ⟨oc10, od10, .func (PySem.W.fnOf "_law_longest" "_law_longest" (defArgs (top 16)) (defBody (top 16)) (defScope (top 16)) .none kV10 dc10 pm10 an10 cd10 ct10), sl10⟩) (c10 : PySem.W.codeIn K cd10 "_law_longest" = true) (k10 : PySem.W.keepIn K (.ref f10) = true)
    (a11 : PySem.W.nsIn K mainGlobals "law" = some (some (.ref f11))) (l11 : K.lookup f11 = some ⟨oc11, od11, .func (PySem.W.fnOf "law" "law" (defArgs (top 17)) (defBody (top 17)) (defScope (top 17)) .none kV11 dc11 pm11 an11 cd11 ct11), sl11⟩) (c11 : PySem.W.codeIn K cd11 "law" = true) (k11 : PySem.W.keepIn K (.ref f11) = true)
    (z0 : PySem.W.nsIn K mainGlobals "len" = some none) (z1 : PySem.W.nsIn K mainGlobals "tuple" = some none) (z2 : PySem.W.nsIn K mainGlobals "list" = some none) (z3 : PySem.W.nsIn K mainGlobals "int" = some none) (z4 : PySem.W.nsIn K mainGlobals "abs" = some none) (z5 : PySem.W.nsIn K mainGlobals "max" = some none) (z6 : PySem.W.nsIn K mainGlobals "min" = some none) (z7 : PySem.W.nsIn K mainGlobals "sum" = some none) (z8 : PySem.W.nsIn K mainGlobals "any" = some none) (z9 : PySem.W.nsIn K mainGlobals "all" = some none) (z10 : PySem.W.nsIn K mainGlobals "sorted" = some none) (z11 : PySem.W.nsIn K mainGlobals "range" = some none) (z12 : PySem.W.nsIn K mainGlobals "isinstance" = some none) (z13 : PySem.W.nsIn K mainGlobals "bool" = some none) (z14 : PySem.W.nsIn K mainGlobals "str" = some none) (z15 : PySem.W.nsIn K mainGlobals "enumerate" = some none) (z16 : PySem.W.nsIn K mainGlobals "zip" = some none)
    : ∃ fd : FuncData, (∀ (s : Shared) (v : Value), BindsTo s fd ⟨[v], []⟩ [("script", v)]) ∧ ∀ base : Heap, K.In base → base.Ns mainGlobals mg → FnOk l.prog w K mg base CX0 101 fa fd ["script"] (spLaw K) := by
  have e := hfa.symm.trans (PySem.W.mg_of X G a11)
  cases e
  have F0 := fun_mk (st := top 4) l0 c0 k0
  have b0 := F0.binds (ps := ["n", "bounds", "times"]) fun _ _ _ _ _ _ us hl => match us, hl with | [_, _, _], _ => rfl
  have F1 := fun_mk (st := top 5) l1 c1 k1
  have b1 := F1.binds (ps := ["plan"]) fun _ _ _ _ _ _ us hl => match us, hl with | [_], _ => rfl
  have F2 := fun_mk (st := top 6) l2 c2 k2
  have b2 := F2.binds (ps := ["plan"]) fun _ _ _ _ _ _ us hl => match us, hl with | [_], _ => rfl
  have F3 := fun_mk (st := top 8) l3 c3 k3
  have b3 := F3.binds (ps := ["value", "spot"]) fun _ _ _ _ _ _ us hl => match us, hl with | [_, _], _ => rfl
  have F4 := fun_mk (st := top 9) l4 c4 k4
  have b4 := F4.binds (ps := ["value", "times", "k"]) fun _ _ _ _ _ _ us hl => match us, hl with | [_, _, _], _ => rfl
  have F5 := fun_mk (st := top 10) l5 c5 k5
  have b5 := F5.binds (ps := ["value", "times", "spot"]) fun _ _ _ _ _ _ us hl => match us, hl with | [_, _, _], _ => rfl
  have F6 := fun_mk (st := top 11) l6 c6 k6
  have b6 := F6.binds (ps := ["value"]) fun _ _ _ _ _ _ us hl => match us, hl with | [_], _ => rfl
  have F7 := fun_mk (st := top 13) l7 c7 k7
  have b7 := F7.binds (ps := ["script"]) fun _ _ _ _ _ _ us hl => match us, hl with | [_], _ => rfl
  have F8 := fun_mk (st := top 14) l8 c8 k8
  have b8 := F8.binds (ps := ["draw", "many"]) fun _ _ _ _ _ _ us hl => match us, hl with | [_, _], _ => rfl
  have F9 := fun_mk (st := top 15) l9 c9 k9
  have b9 := F9.binds (ps := ["many"]) fun _ _ _ _ _ _ us hl => match us, hl with | [_], _ => rfl
  have F10 := fun_mk (st := top 16) l10 c10 k10
  have b10 := F10.binds (ps := ["edges", "goals", "spot", "turns"]) fun _ _ _ _ _ _ us hl => match us, hl with | [_, _, _, _], _ => rfl
  have F11 := fun_mk (st := top 17) l11 c11 k11
  refine ⟨PySem.W.fnOf "law" "law" (defArgs (top 17)) (defBody (top 17)) (defScope (top 17)) .none kV11 dc11 pm11 an11 cd11 ct11, fun s v => .of_eq rfl, fun base _ _ => ?_⟩
  have hb : ∀ x ∈ bltNames, mg x = none := by
    intro x hx
    unfold bltNames at hx
    simp only [List.mem_cons, List.not_mem_nil, or_false] at hx
    rcases hx with rfl | rfl | rfl | rfl | rfl | rfl | rfl | rfl | rfl | rfl | rfl | rfl | rfl | rfl | rfl | rfl | rfl
    · exact PySem.W.mg_none_of X G z0
    · exact PySem.W.mg_none_of X G z1
    · exact PySem.W.mg_none_of X G z2
    · exact PySem.W.mg_none_of X G z3
    · exact PySem.W.mg_none_of X G z4
    · exact PySem.W.mg_none_of X G z5
    · exact PySem.W.mg_none_of X G z6
    · exact PySem.W.mg_none_of X G z7
    · exact PySem.W.mg_none_of X G z8
    · exact PySem.W.mg_none_of X G z9
    · exact PySem.W.mg_none_of X G z10
    · exact PySem.W.mg_none_of X G z11
    · exact PySem.W.mg_none_of X G z12
    · exact PySem.W.mg_none_of X G z13
    · exact PySem.W.mg_none_of X G z14
    · exact PySem.W.mg_none_of X G z15
    · exact PySem.W.mg_none_of X G z16
  have hg : ∀ x ∈ glosL, ∃ u v, mg x = some u ∧ RelV v u ∧ ∀ d, Gf x = some d → ∀ B, Rep K B v d := fun x hx => by cases hx
  have hs : ∀ e ∈ tab, Stands K mg e.f e.st e.ps := by
    intro e h
    unfold tab at h
    simp only [List.mem_cons, List.not_mem_nil, or_false] at h
    rcases h with rfl | rfl | rfl | rfl | rfl | rfl | rfl | rfl | rfl
    · exact ⟨_, _, PySem.W.mg_of X G a0, F0, b0⟩
    · exact ⟨_, _, PySem.W.mg_of X G a1, F1, b1⟩
    · exact ⟨_, _, PySem.W.mg_of X G a2, F2, b2⟩
    · exact ⟨_, _, PySem.W.mg_of X G a3, F3, b3⟩
    · exact ⟨_, _, PySem.W.mg_of X G a4, F4, b4⟩
    · exact ⟨_, _, PySem.W.mg_of X G a5, F5, b5⟩
    · exact ⟨_, _, PySem.W.mg_of X G a6, F6, b6⟩
    · exact ⟨_, _, PySem.W.mg_of X G a9, F9, b9⟩
    · exact ⟨_, _, PySem.W.mg_of X G a10, F10, b10⟩
  have ht := ok_take (P := l.prog) (w := w) (mg := mg) (base := base) F8 (hb "int" (by decide +kernel)) (hb "len" (by decide +kernel))
  have hd := ok_draw (P := l.prog) (w := w) (mg := mg) (base := base) F7 (hb "int" (by decide +kernel)) (hb "abs" (by decide +kernel))
  have B := all_ok (P := l.prog) (w := w) (base := base) (G := Gf) hb hg ⟨_, _, PySem.W.mg_of X G a8, k8, b8, ht⟩ hs eo_all nodup_tab 100
  exact ok_law plain F11 hd b7 k7 (PySem.W.mg_of X G a7) B
theorem walk {l : PySem.W.OpenLaw} {q : Program} {loose : List Str} {XP : (Str → Option Value) → Heap → Prop} {YP : World → Heap → Prop} {d : DefRec} {K : Params → PySem.W.Frag} (hn : l.most = some 63) (hdf : d.params.defaults = [])
    (hY : ∀ (w : World) (h : Heap), YP w h → (K w.params).In h)
    (F : ∀ (w : World) (mg : Str → Option Value) (fa : Addr) (h : Heap), (K w.params).In h → h.Ns mainGlobals mg → mg d.name = some (.ref fa) →
      ∃ fd : FuncData, (∀ (s : Shared) (u : Value), BindsTo s fd ⟨[u], []⟩ [("script", u)]) ∧ ∀ base : Heap, (K w.params).In base → base.Ns mainGlobals mg → FnOk l.prog w (K w.params) mg base CX0 101 fa fd ["script"] (spLaw (K w.params))) :
    PySem.W.WalkO q loose XP YP l.row.toRowW d [] (fun f vs => PySem.call f vs) :=
  L2.walk_of (n := 63) (k := 101) (x := "script") (CX := fun _ => CX0) (sp := fun w => spLaw (K w.params)) hn (by decide) hdf ⟨rfl, by decide, by decide⟩ hY F (fun _ _ a ns hl _ hS => ⟨a, ns, rfl, hS, hl, fun _ => rfl⟩) fun _ _ _ _ _ z => z
end Z57
open PySem PySem.W PyProof.Rows
set_option maxRecDepth 100000 in
set_option maxHeartbeats 0 in
theorem PySem.Challenge.cw_everydelay_k57_races_of_one_are_ways_holds : PySem.Challenge.rw_everydelay_k57_races_of_one_are_ways.Holds := by
  w_on; o_law; k_head; (case hw => w_witness2)
  k_fill
  refine Z57.walk (l := PySem.Challenge.rw_everydelay_k57_races_of_one_are_ways) rfl rfl (fun w h Y => PySem.W.kIn_of Y) ?F
  case F =>
    intro w mg fa h KX G hmg
    refine' Z57.all_mk Z57.plain KX G hmg ?a0 ?l0 ?c0 ?k0 ?a1 ?l1 ?c1 ?k1 ?a2 ?l2 ?c2 ?k2 ?a3 ?l3 ?c3 ?k3 ?a4 ?l4 ?c4 ?k4 ?a5 ?l5 ?c5 ?k5 ?a6 ?l6 ?c6 ?k6 ?a7 ?l7 ?c7 ?k7 ?a8 ?l8 ?c8 ?k8 ?a9 ?l9 ?c9 ?k9 ?a10 ?l10 ?c10 ?k10 ?a11 ?l11 ?c11 ?k11 ?z0 ?z1 ?z2 ?z3 ?z4 ?z5 ?z6 ?z7 ?z8 ?z9 ?z10 ?z11 ?z12 ?z13 ?z14 ?z15 ?z16
    (case a0 => k_is)
    (case l0 => k_is)
    (case c0 => k_is)
    (case k0 => k_is)
    (case a1 => k_is)
    (case l1 => k_is)
    (case c1 => k_is)
    (case k1 => k_is)
    (case a2 => k_is)
    (case l2 => k_is)
    (case c2 => k_is)
    (case k2 => k_is)
    (case a3 => k_is)
    (case l3 => k_is)
    (case c3 => k_is)
    (case k3 => k_is)
    (case a4 => k_is)
    (case l4 => k_is)
    (case c4 => k_is)
    (case k4 => k_is)
    (case a5 => k_is)
    (case l5 => k_is)
    (case c5 => k_is)
    (case k5 => k_is)
    (case a6 => k_is)
    (case l6 => k_is)
    (case c6 => k_is)
    (case k6 => k_is)
    (case a7 => k_is)
    (case l7 => k_is)
    (case c7 => k_is)
    (case k7 => k_is)
    (case a8 => k_is)
    (case l8 => k_is)
    (case c8 => k_is)
    (case k8 => k_is)
    (case a9 => k_is)
    (case l9 => k_is)
    (case c9 => k_is)
    (case k9 => k_is)
    (case a10 => k_is)
    (case l10 => k_is)
    (case c10 => k_is)
    (case k10 => k_is)
    (case a11 => k_is)
    (case l11 => k_is)
    (case c11 => k_is)
    (case k11 => k_is)
    (case z0 => k_is)
    (case z1 => k_is)
    (case z2 => k_is)
    (case z3 => k_is)
    (case z4 => k_is)
    (case z5 => k_is)
    (case z6 => k_is)
    (case z7 => k_is)
    (case z8 => k_is)
    (case z9 => k_is)
    (case z10 => k_is)
    (case z11 => k_is)
    (case z12 => k_is)
    (case z13 => k_is)
    (case z14 => k_is)
    (case z15 => k_is)
    (case z16 => k_is)
