import PyProof.Rows.All
import HandS.ForMost
import HandS.IsInst
import HandS.TupAny
import HandS.Deep
import HandS.Zip
import HandS.TupLe
import HandS.Style
import HandS.Defaults
import HandS.Head0
import HandS.Head1
import HandS.Head2
import HandS.HeadEnd
import HandS.HeadHook1
import HandS.HeadHook2
import PySem.Challenge.RW_gamecheck_k47_claims_of_minds
set_option autoImplicit false
set_option linter.all false
/-! A small evaluator of its own over plain values: what a run of a def comes to, told by a function. -/
namespace Gx

/-- a value; texts are numbers to the base 256; lists within are never changed any more -/
inductive D where
  | non | bl (b : Bool) | int (i : Int) | str (n : Nat)
  | tup (xs : List D) | lst (xs : List D)
  | ref (n : Nat) | fn (n : Nat) | ty (n : Nat)
  | dct (ks vs : List D) | set (xs : List D)
  deriving Inhabited

def decF : Nat → Nat → List Nat
  | 0, _ => []
  | k + 1, n => if n = 0 then [] else (n % 256) :: decF k (n / 256)
/-- the signs of a text -/
def dec (n : Nat) : List Nat := decF n n
def enc : List Nat → Nat
  | [] => 0
  | c :: r => c + 256 * enc r

/-- a changeable thing -/
inductive Ob where
  | lst (xs : List D) | dct (ks vs : List D) | set (xs : List D)
/-- what an expression gives: a value; a thing that nobody else holds; a look at such a thing -/
inductive Rv where
  | d (x : D) | own (o : Ob) | brw (o : Ob)
abbrev Env := List (Option Rv)
abbrev Mem := List Ob

inductive Rs (α : Type) where
  | ok (a : α) (m : Mem) | ex (c : Nat) (as : List D) (m : Mem) | no
inductive RS where
  | nx (e : Env) (m : Mem) | ret (v : Rv) (m : Mem) | bk (e : Env) (m : Mem) | ct (e : Env) (m : Mem) | ex (c : Nat) (as : List D) (m : Mem) | no
def Rs.bind {α β : Type} : Rs α → (α → Mem → Rs β) → Rs β
  | .ok a m, f => f a m
  | .ex c as m, _ => .ex c as m
  | .no, _ => .no
def Rs.bindS {α : Type} : Rs α → (α → Mem → RS) → RS
  | .ok a m, f => f a m
  | .ex c as m, _ => .ex c as m
  | .no, _ => .no
def Rs.of {α : Type} : Option α → Mem → Rs α
  | some a, m => .ok a m
  | none, _ => .no

def LINE : Nat := 16777216
def FUEL : Nat := 1000000
def okLen {α : Type} (xs : List α) : Bool := Nat.ble xs.length LINE

inductive TGt where
  | nm (i : Nat) | tp (ts : List TGt)
inductive BO where
  | add | sub | mul | fdiv | mod | pow
  deriving DecidableEq
inductive CO where
  | eq | ne | lt | le | gt | ge | isin | notin | isN | notN | isB | notB
  deriving DecidableEq
inductive BI where
  | len | abs | int | list | tuple | sum | max1 | min1 | max2 | min2 | any | all | count
  deriving DecidableEq
inductive TyN where
  | int | bool | str | tuple | list
  deriving DecidableEq

mutual
inductive CE where
  | var (i : Nat)
  | con (d : D)
  | glb (i : Nat)
  | bin (op : BO) (a b : CE)
  | neg (a : CE)
  | notE (a : CE)
  | andE (a b : CE)
  | orE (a b : CE)
  | cmp (op : CO) (a b : CE)
  | chn (op op' : CO) (a b c : CE)
  | ite (t : CT) (a b : CE)
  | call (f : Nat) (as : CEs)
  | bi (b : BI) (as : CEs)
  | isi (a : CE) (ts : List TyN)
  | idx (a b : CE)
  | slc (a lo hi : CE)
  | tup (as : CEs)
  | lst (as : CEs)
  | lstP (as : CEs)
  | lc1 (own : List Nat) (tg : TGt) (it : CI) (c : CT) (e : CE)
  | lc2 (own : List Nat) (tg : TGt) (it : CI) (c : CT) (own1 : List Nat) (tg1 : TGt) (it1 : CI) (c1 : CT) (e : CE)
inductive CI where
  | seq (a : CE) | rng1 (a : CE) | rng2 (a b : CE)
inductive CT where
  | yes | tru (e : CE) | and (a b : CT) | or (a b : CT) | not (a : CT) | ite (t a b : CT)
inductive CEs where
  | nil | cons (e : CE) (es : CEs)
end
mutual
inductive CS where
  | asg (t : TGt) (e : CE)
  | par (is : List Nat) (es : CEs)
  | set (o i e : CE)
  | aug (i : Nat) (op : BO) (e : CE)
  | app (o e : CE)
  | appV (i : Nat) (e : CE)
  | ret (e : CE)
  | retV (i : Nat)
  | retN
  | exp (e : CE)
  | ifS (t : CT) (a b : CSs)
  | whl (t : CT) (b : CSs)
  | forS (t : TGt) (it : CI) (b : CSs)
  | brk | cnt | pas
  | frz (is : List Nat)
inductive CSs where
  | nil | cons (s : CS) (ss : CSs)
end

/-! ### values -/
/-- as a value that may be kept: a thing of one's own is never changed any more -/
def Ob.d : Ob → D
  | .lst xs => .lst xs
  | .dct ks vs => .dct ks vs
  | .set xs => .set xs
def Rv.frz : Rv → Option D
  | .d x => some x
  | .own o => some o.d
  | .brw _ => none
/-- to look at -/
def Rv.look : Rv → D
  | .d x => x
  | .own o => o.d
  | .brw o => o.d
def D.seq : D → Option (List D)
  | .tup xs => some xs
  | .lst xs => some xs
  | _ => none
def chars (n : Nat) : Option (List D) := if (dec n).all (fun c => c != 0) then some ((dec n).map fun c => .str c) else none
def D.its : D → Option (List D)
  | .tup xs => some xs
  | .lst xs => some xs
  | .str n => if okLen (dec n) then chars n else none
  | _ => none
def D.isLst : D → Bool
  | .lst _ => true
  | _ => false
def D.isNon : D → Bool
  | .non => true
  | _ => false
def D.flat : D → Bool
  | .non => true | .bl _ => true | .int _ => true | .str _ => true
  | _ => false
mutual
/-- plain data, at most so deep -/
def sh : Nat → D → Bool
  | _, .non => true
  | _, .bl _ => true
  | _, .int _ => true
  | _, .str _ => true
  | 0, _ => false
  | k + 1, .tup xs => shs k xs
  | k + 1, .lst xs => shs k xs
  | _, _ => false
def shs : Nat → List D → Bool
  | _, [] => true
  | k, x :: xs => sh k x && shs k xs
end
mutual
/-- == -/
def eqD : D → D → Bool
  | .non, .non => true
  | .bl a, .bl b => a == b
  | .bl a, .int j => (if a then (1 : Int) else 0) == j
  | .int i, .bl b => i == (if b then (1 : Int) else 0)
  | .int i, .int j => i == j
  | .str a, .str b => a == b
  | .tup xs, .tup ys => eqDs xs ys
  | .lst xs, .lst ys => eqDs xs ys
  | _, _ => false
def eqDs : List D → List D → Bool
  | [], [] => true
  | x :: xs, y :: ys => eqD x y && eqDs xs ys
  | _, _ => false
end
/-- may == be asked -/
def eqOk (x y : D) : Bool := sh 60 x && sh 60 y
def eqOks (x : D) (ys : List D) : Bool := sh 60 x && shs 60 ys

def ltL : List Nat → List Nat → Bool
  | [], [] => false
  | [], _ :: _ => true
  | _ :: _, [] => false
  | a :: r, b :: s => if a < b then true else if a = b then ltL r s else false

def truth : D → Mem → Option Bool
  | .non, _ => some false
  | .bl b, _ => some b
  | .int i, _ => some (i != 0)
  | .str n, _ => if Nat.ble n.log2 8000000 then some (n != 0) else none
  | .tup xs, _ => some (!xs.isEmpty)
  | .lst xs, _ => some (!xs.isEmpty)
  | _, _ => none

/-- the place of an index -/
def ixAt (n : Nat) (i : Int) : Option Nat := if 0 ≤ i then (if i < n then some i.toNat else none) else if -(n : Int) ≤ i then some (i + n).toNat else none
/-- the place of a slice's end -/
def slAt (n d : Nat) : Option Int → Nat
  | none => d
  | some i => if i < 0 then (i + n).toNat else min i.toNat n
def cut {α : Type} (xs : List α) (lo hi : Option Int) : List α := (xs.drop (slAt xs.length 0 lo)).take (slAt xs.length xs.length hi - slAt xs.length 0 lo)
def D.part : D → Option (Option Int)
  | .non => some none
  | .int i => some (some i)
  | _ => none

def CMulB (i j : Int) : Bool := decide (-(2 ^ 64) < i ∧ i < 2 ^ 64) || decide (-(2 ^ 64) < j ∧ j < 2 ^ 64)
def binV (op : BO) (x y : D) : Option Rv :=
  match op, x, y with
  | .add, .int i, .int j => some (.d (.int (i + j)))
  | .add, .str a, .str b => if okLen (dec a ++ dec b) then some (.d (.str (enc (dec a ++ dec b)))) else none
  | .add, .lst xs, .lst ys => if okLen (xs ++ ys) then some (.own (.lst (xs ++ ys))) else none
  | .add, .tup xs, .tup ys => if okLen (xs ++ ys) then some (.d (.tup (xs ++ ys))) else none
  | .sub, .int i, .int j => some (.d (.int (i - j)))
  | .mul, .int i, .int j => if CMulB i j then some (.d (.int (i * j))) else none
  | .fdiv, .int i, .int j => if decide (j ≠ 0 ∧ j.natAbs < 1073741824) then some (.d (.int (i.fdiv j))) else none
  | .mod, .int i, .int j => if decide (j ≠ 0) then some (.d (.int (i.fmod j))) else none
  | .pow, .int i, .int j => if decide (0 ≤ j ∧ j ≤ 1000000 ∧ i.natAbs < 2 ^ 64) then some (.d (.int (i ^ j.toNat))) else none
  | _, _, _ => none

def cmpV (op : CO) (x y : D) : Option Bool :=
  match op with
  | .eq => if eqOk x y then some (eqD x y) else none
  | .ne => if eqOk x y then some (!eqD x y) else none
  | .isN => match y with
    | .non => some x.isNon
    | _ => none
  | .notN => match y with
    | .non => some (!x.isNon)
    | _ => none
  | .isB => match x, y with
    | .bl a, .bl b => some (a == b)
    | _, _ => none
  | .notB => match x, y with
    | .bl a, .bl b => some (!(a == b))
    | _, _ => none
  | .isin => match y with
    | .str n => match x with
      | .str c => match dec c with
        | [c'] => some ((dec n).contains c')
        | _ => none
      | _ => none
    | y => match y.seq with
      | some ys => if eqOks x ys then some (ys.any fun z => eqD z x) else none
      | none => none
  | .notin => match y with
    | .str n => match x with
      | .str c => match dec c with
        | [c'] => some (!(dec n).contains c')
        | _ => none
      | _ => none
    | y => match y.seq with
      | some ys => if eqOks x ys then some (!(ys.any fun z => eqD z x)) else none
      | none => none
  | .lt => match x, y with
    | .int i, .int j => some (decide (i < j))
    | .str a, .str b => some (ltL (dec a) (dec b))
    | _, _ => none
  | .le => match x, y with
    | .int i, .int j => some (decide (i ≤ j))
    | .str a, .str b => some (!ltL (dec b) (dec a))
    | _, _ => none
  | .gt => match x, y with
    | .int i, .int j => some (decide (j < i))
    | .str a, .str b => some (ltL (dec b) (dec a))
    | _, _ => none
  | .ge => match x, y with
    | .int i, .int j => some (decide (j ≤ i))
    | .str a, .str b => some (!ltL (dec a) (dec b))
    | _, _ => none

def idxV (x i : D) (m : Mem) : Option D :=
  match i with
  | .int i => match x with
    | .tup xs => (ixAt xs.length i).bind fun j => xs[j]?
    | .lst xs => (ixAt xs.length i).bind fun j => xs[j]?
    | .str n => if okLen (dec n) then ((ixAt (dec n).length i).bind fun j => (dec n)[j]?).bind (fun c => if c = 0 then none else some (.str c)) else none
    | .ref r => match m[r]? with
      | some (.lst xs) => (ixAt xs.length i).bind fun j => xs[j]?
      | _ => none
    | _ => none
  | _ => none
def slcV (x lo hi : D) : Option Rv :=
  match lo.part, hi.part with
  | some l, some h => match x with
    | .tup xs => some (.d (.tup (cut xs l h)))
    | .lst xs => some (.own (.lst (cut xs l h)))
    | _ => none
  | _, _ => none

def intL : List D → Option (List Int)
  | [] => some []
  | .int i :: r => (intL r).map (i :: ·)
  | _ => none
def boolL : List D → Option (List Bool)
  | [] => some []
  | .bl b :: r => (boolL r).map (b :: ·)
  | _ => none
def maxL : Int → List Int → Int
  | a, [] => a
  | a, b :: r => maxL (if b > a then b else a) r
def minL : Int → List Int → Int
  | a, [] => a
  | a, b :: r => minL (if b < a then b else a) r
def biV (b : BI) (xs : List D) : Option Rv :=
  match b, xs with
  | .len, [.tup ys] => some (.d (.int ys.length))
  | .len, [.lst ys] => some (.d (.int ys.length))
  | .len, [.str n] => if okLen (dec n) then some (.d (.int (dec n).length)) else none
  | .abs, [.int i] => some (.d (.int (if i < 0 then -i else i)))
  | .int, [.int i] => some (.d (.int i))
  | .int, [.bl b] => some (.d (.int (if b then 1 else 0)))
  | .list, [.tup ys] => some (.own (.lst ys))
  | .list, [.lst ys] => some (.own (.lst ys))
  | .tuple, [.tup ys] => some (.d (.tup ys))
  | .tuple, [.lst ys] => some (.d (.tup ys))
  | .sum, [.lst ys] => (intL ys).map fun ns => .d (.int ns.sum)
  | .max1, [.lst ys] => match intL ys with
    | some (n :: ns) => some (.d (.int (maxL n ns)))
    | _ => none
  | .min1, [.lst ys] => match intL ys with
    | some (n :: ns) => some (.d (.int (minL n ns)))
    | _ => none
  | .max2, [.int i, .int j] => some (.d (.int (if j > i then j else i)))
  | .min2, [.int i, .int j] => some (.d (.int (if j < i then j else i)))
  | .any, [.lst ys] => (boolL ys).map fun bs => .d (.bl (bs.any id))
  | .all, [.lst ys] => (boolL ys).map fun bs => .d (.bl (bs.all id))
  | .count, [.lst ys, x] => if eqOks x ys then some (.d (.int (ys.countP fun z => eqD z x))) else none
  | _, _ => none

def isTy : D → TyN → Option Bool
  | .non, _ => some false
  | .bl _, .bool => some true
  | .bl _, .int => some true
  | .bl _, _ => some false
  | .int _, .int => some true
  | .int _, _ => some false
  | .str _, .str => some true
  | .str _, _ => some false
  | .tup _, .tuple => some true
  | .tup _, _ => some false
  | .lst _, .list => some true
  | .lst _, _ => some false
  | _, _ => none
def isTys (x : D) : List TyN → Option Bool
  | [] => some false
  | t :: ts => (isTy x t).bind fun b => if b then some true else isTys x ts

/-! ### targets -/
mutual
def asgT : TGt → D → Env → Option Env
  | .nm i, x, e => if i < e.length then some (e.set i (some (.d x))) else none
  | .tp ts, x, e => match x with
    | .tup xs => asgTs ts xs e
    | _ => none
def asgTs : List TGt → List D → Env → Option Env
  | [], [], e => some e
  | t :: ts, x :: xs, e => (asgT t x e).bind fun e' => asgTs ts xs e'
  | _, _, _ => none
end
def wip : Env → List Nat → Env
  | e, [] => e
  | e, v :: vs => (wip e vs).set v none
def setAll : List Nat → List Rv → Env → Env
  | i :: is, v :: vs, e => setAll is vs (e.set i (some v))
  | _, _, e => e
def frzAt (e : Env) (i : Nat) : Env := match e[i]? with
  | some (some (.own o)) => e.set i (some (.d o.d))
  | _ => e
def notBrw : Rv → Bool
  | .brw _ => false
  | _ => true

/-! ### loops -/
def lcL (tg : TGt) (c : Env → Mem → Rs Bool) (f : Env → Mem → Rs D) : List D → Env → Mem → Rs (List D)
  | [], _, m => .ok [] m
  | x :: xs, e, m => match asgT tg x e with
    | none => .no
    | some e1 => (c e1 m).bind fun b m1 =>
      if b then (f e1 m1).bind fun y m2 => (lcL tg c f xs e m2).bind fun ys m3 => .ok (y :: ys) m3
      else lcL tg c f xs e m1
def lcO (tg : TGt) (c : Env → Mem → Rs Bool) (f : Env → Mem → Rs (List D)) : List D → Env → Mem → Rs (List D)
  | [], _, m => .ok [] m
  | x :: xs, e, m => match asgT tg x e with
    | none => .no
    | some e1 => (c e1 m).bind fun b m1 =>
      if b then (f e1 m1).bind fun y m2 => (lcO tg c f xs e m2).bind fun ys m3 => .ok (y ++ ys) m3
      else lcO tg c f xs e m1
def whlL (t : Env → Mem → Rs Bool) (b : Env → Mem → RS) : Nat → Env → Mem → RS
  | 0, _, _ => .no
  | n + 1, e, m => (t e m).bindS fun c m1 =>
    if c then match b e m1 with
      | .nx e' m' => whlL t b n e' m'
      | .ct e' m' => whlL t b n e' m'
      | .bk e' m' => .nx e' m'
      | r => r
    else .nx e m1
def forL (tg : TGt) (b : Env → Mem → RS) : List D → Env → Mem → RS
  | [], e, m => .nx e m
  | x :: xs, e, m => match asgT tg x e with
    | none => .no
    | some e1 => match b e1 m with
      | .nx e' m' => forL tg b xs e' m'
      | .ct e' m' => forL tg b xs e' m'
      | .bk e' m' => .nx e' m'
      | r => r
def rngL (lo : Int) : Nat → List D
  | 0 => []
  | n + 1 => .int lo :: rngL (lo + 1) n
def enumL (i : Int) : List D → List D
  | [] => []
  | x :: xs => .tup [.int i, x] :: enumL (i + 1) xs
def zipL : List D → List D → List D
  | x :: xs, y :: ys => .tup [x, y] :: zipL xs ys
  | _, _ => []
def small (i : Int) : Bool := decide (-(2 ^ 62) ≤ i ∧ i < 2 ^ 62)

/-- a call: the def's number, the arguments -/
abbrev Cl := Nat → List D → Mem → Rs Rv
abbrev Gl := List D

mutual
def evE (cl : Cl) (gl : Gl) : CE → Env → Mem → Rs Rv
  | .var i, e, m => match e[i]? with
    | some (some (.d x)) => .ok (.d x) m
    | some (some (.own o)) => .ok (.brw o) m
    | _ => .no
  | .con d, _, m => .ok (.d d) m
  | .glb i, _, m => Rs.of (gl[i]?.map .d) m
  | .bin op a b, e, m => (evE cl gl a e m).bind fun x m1 => (evE cl gl b e m1).bind fun y m2 => Rs.of (binV op x.look y.look) m2
  | .neg a, e, m => (evE cl gl a e m).bind fun x m1 => match x with
    | .d (.int i) => .ok (.d (.int (-i))) m1
    | _ => .no
  | .notE a, e, m => (evE cl gl a e m).bind fun x m1 => match x with
    | .d (.bl b) => .ok (.d (.bl (!b))) m1
    | _ => .no
  | .andE a b, e, m => (evE cl gl a e m).bind fun x m1 => match x with
    | .d (.bl true) => evE cl gl b e m1
    | .d (.bl false) => .ok (.d (.bl false)) m1
    | _ => .no
  | .orE a b, e, m => (evE cl gl a e m).bind fun x m1 => match x with
    | .d (.bl true) => .ok (.d (.bl true)) m1
    | .d (.bl false) => evE cl gl b e m1
    | _ => .no
  | .cmp op a b, e, m => (evE cl gl a e m).bind fun x m1 => (evE cl gl b e m1).bind fun y m2 => Rs.of ((cmpV op x.look y.look).map fun k => .d (.bl k)) m2
  | .chn op op' a b c, e, m => (evE cl gl a e m).bind fun x m1 => (evE cl gl b e m1).bind fun y m2 => match cmpV op x.look y.look with
    | some true => (evE cl gl c e m2).bind fun z m3 => Rs.of ((cmpV op' y.look z.look).map fun k => .d (.bl k)) m3
    | some false => .ok (.d (.bl false)) m2
    | none => .no
  | .ite t a b, e, m => (evT cl gl t e m).bind fun c m1 => if c then evE cl gl a e m1 else evE cl gl b e m1
  | .call f as, e, m => (evEs cl gl as e m).bind fun xs m1 => cl f xs m1
  | .bi b as, e, m => (evLs cl gl as e m).bind fun xs m1 => Rs.of (biV b xs) m1
  | .isi a ts, e, m => (evE cl gl a e m).bind fun x m1 => Rs.of ((isTys x.look ts).map fun k => .d (.bl k)) m1
  | .idx a b, e, m => (evE cl gl a e m).bind fun x m1 => (evE cl gl b e m1).bind fun y m2 => Rs.of ((idxV x.look y.look m2).map .d) m2
  | .slc a lo hi, e, m => (evE cl gl a e m).bind fun x m1 => (evE cl gl lo e m1).bind fun l m2 => (evE cl gl hi e m2).bind fun h m3 => Rs.of (slcV x.look l.look h.look) m3
  | .tup as, e, m => (evEs cl gl as e m).bind fun xs m1 => if okLen xs then .ok (.d (.tup xs)) m1 else .no
  | .lst as, e, m => (evEs cl gl as e m).bind fun xs m1 => if okLen xs then .ok (.own (.lst xs)) m1 else .no
  | .lstP as, e, m => (evEs cl gl as e m).bind fun xs m1 => if okLen xs then .ok (.d (.ref m1.length)) (m1 ++ [.lst xs]) else .no
  | .lc1 own tg it c el, e, m => (evI cl gl false it e m).bind fun xs m1 =>
    (lcL tg (evT cl gl c) (fun e' m' => (evE cl gl el e' m').bind fun v m2 => Rs.of v.frz m2) xs (wip e own) m1).bind fun ys m2 =>
      if okLen ys then .ok (.own (.lst ys)) m2 else .no
  | .lc2 own tg it c own1 tg1 it1 c1 el, e, m => (evI cl gl false it e m).bind fun xs m1 =>
    (lcO tg (evT cl gl c) (fun e' m' => (evI cl gl true it1 e' m').bind fun zs m2 => lcL tg1 (evT cl gl c1) (fun e' m' => (evE cl gl el e' m').bind fun v m2 => Rs.of v.frz m2) zs (wip e' own1) m2) xs (wip e own) m1).bind fun ys m2 =>
      if okLen ys then .ok (.own (.lst ys)) m2 else .no
def evI (cl : Cl) (gl : Gl) (fz : Bool) : CI → Env → Mem → Rs (List D)
  | .seq a, e, m => (evE cl gl a e m).bind fun x m1 => match (if fz then x.frz else some x.look) with
    | some y => Rs.of y.its m1
    | none => .no
  | .rng1 a, e, m => (evE cl gl a e m).bind fun x m1 => match x with
    | .d (.int n) => if small n then .ok (rngL 0 n.toNat) m1 else .no
    | _ => .no
  | .rng2 a b, e, m => (evE cl gl a e m).bind fun x m1 => (evE cl gl b e m1).bind fun y m2 => match x, y with
    | .d (.int i), .d (.int j) => if small i && small j then .ok (rngL i (j - i).toNat) m2 else .no
    | _, _ => .no
def evT (cl : Cl) (gl : Gl) : CT → Env → Mem → Rs Bool
  | .yes, _, m => .ok true m
  | .tru a, e, m => (evE cl gl a e m).bind fun x m1 => Rs.of (truth x.look m1) m1
  | .and a b, e, m => (evT cl gl a e m).bind fun c m1 => if c then evT cl gl b e m1 else .ok false m1
  | .or a b, e, m => (evT cl gl a e m).bind fun c m1 => if c then .ok true m1 else evT cl gl b e m1
  | .not a, e, m => (evT cl gl a e m).bind fun c m1 => .ok (!c) m1
  | .ite t a b, e, m => (evT cl gl t e m).bind fun c m1 => if c then evT cl gl a e m1 else evT cl gl b e m1
/-- arguments that are kept -/
def evEs (cl : Cl) (gl : Gl) : CEs → Env → Mem → Rs (List D)
  | .nil, _, m => .ok [] m
  | .cons a as, e, m => (evE cl gl a e m).bind fun x m1 => match x.frz with
    | some x => (evEs cl gl as e m1).bind fun xs m2 => .ok (x :: xs) m2
    | none => .no
/-- arguments that are looked at -/
def evLs (cl : Cl) (gl : Gl) : CEs → Env → Mem → Rs (List D)
  | .nil, _, m => .ok [] m
  | .cons a as, e, m => (evE cl gl a e m).bind fun x m1 => (evLs cl gl as e m1).bind fun xs m2 => .ok (x.look :: xs) m2
/-- values that are bound to names -/
def evRs (cl : Cl) (gl : Gl) : CEs → Env → Mem → Rs (List Rv)
  | .nil, _, m => .ok [] m
  | .cons a as, e, m => (evE cl gl a e m).bind fun x m1 => if notBrw x then (evRs cl gl as e m1).bind fun xs m2 => .ok (x :: xs) m2 else .no
end

mutual
def evS (cl : Cl) (gl : Gl) : CS → Env → Mem → RS
  | .asg t a, e, m => (evE cl gl a e m).bindS fun x m1 => match t with
    | .nm i => if notBrw x && Nat.blt i e.length then .nx (e.set i (some x)) m1 else .no
    | t => match x.frz with
      | some x => match asgT t x e with
        | some e' => .nx e' m1
        | none => .no
      | none => .no
  | .par is as, e, m => (evRs cl gl as e m).bindS fun xs m1 => if is.length == xs.length && is.all (fun i => Nat.blt i e.length) then .nx (setAll is xs e) m1 else .no
  | .set o i a, e, m => (evE cl gl a e m).bindS fun x m1 => (evE cl gl o e m1).bindS fun p m2 => (evE cl gl i e m2).bindS fun k m3 =>
    match x.frz, p, k with
    | some v, .d (.ref r), .d (.int k) => match m3[r]? with
      | some (.lst xs) => match ixAt xs.length k with
        | some j => .nx e (m3.set r (.lst (xs.set j v)))
        | none => .no
      | _ => .no
    | _, _, _ => .no
  | .aug i op a, e, m => match e[i]? with
    | some (some (.d x)) => (evE cl gl a e m).bindS fun y m1 => match op, x, y with
      | .add, .int i', .d (.int j) => .nx (e.set i (some (.d (.int (i' + j))))) m1
      | .sub, .int i', .d (.int j) => .nx (e.set i (some (.d (.int (i' - j))))) m1
      | _, _, _ => .no
    | _ => .no
  | .app o a, e, m => (evE cl gl o e m).bindS fun p m1 => (evE cl gl a e m1).bindS fun x m2 => match p, x.frz with
    | .d (.ref r), some v => match m2[r]? with
      | some (.lst xs) => if okLen (v :: xs) then .nx e (m2.set r (.lst (xs ++ [v]))) else .no
      | _ => .no
    | _, _ => .no
  | .appV i a, e, m => match e[i]? with
    | some (some (.own (.lst xs))) => (evE cl gl a e m).bindS fun x m1 => match x.frz with
      | some v => if okLen (v :: xs) then .nx (e.set i (some (.own (.lst (xs ++ [v]))))) m1 else .no
      | none => .no
    | some (some (.d (.ref r))) => (evE cl gl a e m).bindS fun x m2 => match x.frz with
      | some v => match m2[r]? with
        | some (.lst xs) => if okLen (v :: xs) then .nx e (m2.set r (.lst (xs ++ [v]))) else .no
        | _ => .no
      | none => .no
    | _ => .no
  | .ret a, e, m => (evE cl gl a e m).bindS fun x m1 => if notBrw x then .ret x m1 else .no
  | .retV i, e, m => match e[i]? with
    | some (some v) => .ret v m
    | _ => .no
  | .retN, _, m => .ret (.d .non) m
  | .exp a, e, m => (evE cl gl a e m).bindS fun _ m1 => .nx e m1
  | .ifS t a b, e, m => (evT cl gl t e m).bindS fun c m1 => if c then evSs cl gl a e m1 else evSs cl gl b e m1
  | .whl t b, e, m => whlL (evT cl gl t) (evSs cl gl b) FUEL e m
  | .forS t it b, e, m => (evI cl gl true it e m).bindS fun xs m1 => forL t (evSs cl gl b) xs e m1
  | .brk, e, m => .bk e m
  | .cnt, e, m => .ct e m
  | .pas, e, m => .nx e m
  | .frz is, e, m => .nx (is.foldl frzAt e) m
def evSs (cl : Cl) (gl : Gl) : CSs → Env → Mem → RS
  | .nil, e, m => .nx e m
  | .cons s ss, e, m => match evS cl gl s e m with
    | .nx e' m' => evSs cl gl ss e' m'
    | r => r
end

structure FnI where
  np : Nat
  ns : Nat
  body : CSs
def callF (fs : List FnI) (gl : Gl) : Nat → Cl
  | 0 => fun _ _ _ => .no
  | k + 1 => fun f as m => match fs[f]? with
    | none => .no
    | some fi => if as.length == fi.np then match evSs (callF fs gl k) gl fi.body (as.map (fun x => some (.d x)) ++ List.replicate (fi.ns - fi.np) none) m with
        | .nx _ m' => .ok (.d .non) m'
        | .ret v m' => .ok v m'
        | .ex c as m' => .ex c as m'
        | _ => .no
      else .no
end Gx

set_option Elab.async false
set_option linter.all false
set_option maxRecDepth 100000
set_option maxHeartbeats 4000000
/-! What the evaluator's values stand for in the layer's heap. -/
namespace Gx
open PySem PySem.Spec PyProof.Rows L2

/-! ### texts -/
theorem decF_lt : ∀ (k n : Nat) (c : Nat), c ∈ decF k n → c < 256
  | 0, _, _, h => by simp [decF] at h
  | k + 1, n, c, h => by
    unfold decF at h
    split at h
    · simp at h
    · rcases List.mem_cons.mp h with e | h
      · subst e; exact Nat.mod_lt _ (by decide)
      · exact decF_lt k _ c h
theorem decF_stable : ∀ (k n : Nat), n ≤ k → decF k n = decF n n
  | 0, n, h => by
    have : n = 0 := by omega
    subst this; rfl
  | k + 1, n, h => by
    cases n with
    | zero => simp [decF]
    | succ n =>
      have h1 : (n + 1) / 256 ≤ n := by omega
      show (if n + 1 = 0 then [] else ((n + 1) % 256) :: decF k ((n + 1) / 256)) = (if n + 1 = 0 then [] else ((n + 1) % 256) :: decF n ((n + 1) / 256))
      rw [decF_stable k _ (by omega), decF_stable n _ h1]
theorem dec_zero : dec 0 = [] := rfl
theorem dec_pos {n : Nat} (h : n ≠ 0) : dec n = (n % 256) :: dec (n / 256) := by
  unfold dec
  cases n with
  | zero => exact absurd rfl h
  | succ n =>
    show (if n + 1 = 0 then [] else ((n + 1) % 256) :: decF n ((n + 1) / 256)) = _
    rw [if_neg (by omega), decF_stable n _ (by omega)]
theorem dec_lt {n c : Nat} (h : c ∈ dec n) : c < 256 := decF_lt _ _ _ h
theorem enc_dec (n : Nat) : enc (dec n) = n := by
  induction n using Nat.strongRecOn with
  | _ n ih =>
    by_cases h : n = 0
    · subst h; rfl
    · rw [dec_pos h]
      show n % 256 + 256 * enc (dec (n / 256)) = n
      rw [ih (n / 256) (by omega)]
      omega
theorem dec_inj {a b : Nat} (h : dec a = dec b) : a = b := by rw [← enc_dec a, h, enc_dec]
theorem dec_last {n : Nat} : (dec n).getLast? ≠ some 0 := by
  induction n using Nat.strongRecOn with
  | _ n ih =>
    by_cases h : n = 0
    · subst h; simp [dec_zero]
    · rw [dec_pos h]
      by_cases h2 : n / 256 = 0
      · rw [h2, dec_zero]
        simp
        omega
      · have := ih (n / 256) (by omega)
        rw [List.getLast?_cons]
        cases e : (dec (n / 256)).getLast? with
        | none =>
          rw [List.getLast?_eq_none_iff, dec_pos h2] at e
          cases e
        | some c =>
          rw [e] at this
          simpa using this
theorem dec_enc : ∀ {l : List Nat}, (∀ c ∈ l, c < 256) → l.getLast? ≠ some 0 → dec (enc l) = l
  | [], _, _ => rfl
  | c :: r, h, hl => by
    have hc : c < 256 := h c List.mem_cons_self
    have hr : dec (enc r) = r := by
      refine dec_enc (fun x hx => h x (List.mem_cons_of_mem _ hx)) ?_
      cases r with
      | nil => simp
      | cons x r =>
        rw [List.getLast?_cons_cons] at hl
        exact hl
    have e : enc (c :: r) = c + 256 * enc r := rfl
    have hne : enc (c :: r) ≠ 0 := by
      rw [e]
      intro z
      have z1 : c = 0 := by omega
      have z2 : enc r = 0 := by omega
      rw [z2] at hr
      have : r = [] := by rw [← hr]; rfl
      subst this
      subst z1
      simp at hl
    rw [dec_pos hne, e]
    have e1 : (c + 256 * enc r) % 256 = c := by omega
    have e2 : (c + 256 * enc r) / 256 = enc r := by omega
    rw [e1, e2, hr]
def toStr (n : Nat) : Str := ⟨(dec n).toArray⟩
theorem toStr_inj {a b : Nat} : toStr a = toStr b ↔ a = b := by
  constructor
  · intro h
    have h1 : (dec a).toArray = (dec b).toArray := congrArg Str.cps h
    exact dec_inj (by simpa using h1)
  · intro h; rw [h]
theorem toStr_len (n : Nat) : (toStr n).length = (dec n).length := by
  show ((dec n).toArray).size = _
  simp
theorem toStr_cps (n : Nat) : (toStr n).cps.toList = dec n := by
  show ((dec n).toArray).toList = _
  simp
theorem toStr_cat (a b : Nat) : toStr (enc (dec a ++ dec b)) = toStr a ++ toStr b := by
  have e : dec (enc (dec a ++ dec b)) = dec a ++ dec b := by
    refine dec_enc (fun c hc => ?_) ?_
    · rcases List.mem_append.mp hc with h | h
      · exact dec_lt h
      · exact dec_lt h
    · rw [List.getLast?_append]
      cases h : (dec b).getLast? with
      | none => simpa using dec_last
      | some c =>
        have := dec_last (n := b)
        rw [h] at this
        simpa using this
  unfold toStr
  rw [e]
  show (⟨(dec a ++ dec b).toArray⟩ : Str) = ⟨(dec a).toArray ++ (dec b).toArray⟩
  simp

/-! ### values in the heap -/
/-- a list that is never changed any more -/
def Fz (K : PySem.W.Frag) (H : Hp) (a : Addr) (us : List V) : Prop := (∃ o, H a = some (.frz o (.lst us))) ∨
  ∃ (o : Obj) (its : Array Value) (n : Nat), K.lookup a = some o ∧ o.cls = .type "list" ∧ o.dict = none ∧ o.data = .seq its n ∧ its.size ≤ sizeLine ∧ Vals us its.toList
theorem Fz.sq {K : PySem.W.Frag} {H : Hp} {a : Addr} {us : List V} (h : Fz K H a us) : SqL K H a us := by
  rcases h with ⟨o, h⟩ | h
  · exact .inl (.inr ⟨o, h⟩)
  · exact .inr h
mutual
inductive Rep (K : PySem.W.Frag) (μ : List Addr) (H : Hp) : D → V → Prop
  | non : Rep K μ H .non .non
  | bl (b : Bool) : Rep K μ H (.bl b) (.bl b)
  | int (i : Int) : Rep K μ H (.int i) (.int i)
  | str (n : Nat) : Rep K μ H (.str n) (.str (toStr n))
  | tup {a : Addr} {us : List V} {xs : List D} : SqT K H a us → Reps K μ H xs us → Rep K μ H (.tup xs) (.ref a)
  | lst {a : Addr} {us : List V} {xs : List D} : Fz K H a us → Reps K μ H xs us → Rep K μ H (.lst xs) (.ref a)
  | ref {n : Nat} {a : Addr} : μ[n]? = some a → Rep K μ H (.ref n) (.ref a)
inductive Reps (K : PySem.W.Frag) (μ : List Addr) (H : Hp) : List D → List V → Prop
  | nil : Reps K μ H [] []
  | cons {x : D} {xs : List D} {v : V} {vs : List V} : Rep K μ H x v → Reps K μ H xs vs → Reps K μ H (x :: xs) (v :: vs)
end

/-- what stays: tuples, lists that are never changed; the numbered things keep their numbers -/
structure Fx (μ : List Addr) (H : Hp) (μ' : List Addr) (H' : Hp) : Prop where
  pre : ∃ more, μ' = μ ++ more
  tups : ∀ a xs, H a = some (.tup xs) → H' a = some (.tup xs)
  frzs : ∀ a o u, H a = some (.frz o u) → H' a = some (.frz o u)
theorem Fx.refl (μ : List Addr) (H : Hp) : Fx μ H μ H := ⟨⟨[], by simp⟩, fun _ _ h => h, fun _ _ _ h => h⟩
theorem Fx.trans {μ μ1 μ2 : List Addr} {H H1 H2 : Hp} (a : Fx μ H μ1 H1) (b : Fx μ1 H1 μ2 H2) : Fx μ H μ2 H2 := by
  obtain ⟨m1, e1⟩ := a.pre
  obtain ⟨m2, e2⟩ := b.pre
  exact ⟨⟨m1 ++ m2, by rw [e2, e1, List.append_assoc]⟩, fun c xs h => b.tups c xs (a.tups c xs h), fun c o u h => b.frzs c o u (a.frzs c o u h)⟩
theorem Fx.at {μ μ' : List Addr} {H H' : Hp} (f : Fx μ H μ' H') {n : Nat} {a : Addr} (h : μ[n]? = some a) : μ'[n]? = some a := by
  obtain ⟨m, e⟩ := f.pre
  rw [e, List.getElem?_append_left (List.getElem?_eq_some_iff.mp h).1]
  exact h
theorem Fx.mem {μ μ' : List Addr} {H H' : Hp} (f : Fx μ H μ' H') {a : Addr} (h : a ∈ μ) : a ∈ μ' := by
  obtain ⟨m, e⟩ := f.pre
  rw [e]
  exact List.mem_append_left _ h
theorem SqT.fx {K : PySem.W.Frag} {μ μ' : List Addr} {H H' : Hp} (f : Fx μ H μ' H') {a : Addr} {us : List V} (h : SqT K H a us) : SqT K H' a us := by
  rcases h with (h | ⟨o, h⟩) | h
  · exact .inl (.inl (f.tups _ _ h))
  · exact .inl (.inr ⟨o, f.frzs _ _ _ h⟩)
  · exact .inr h
theorem Fz.fx {K : PySem.W.Frag} {μ μ' : List Addr} {H H' : Hp} (f : Fx μ H μ' H') {a : Addr} {us : List V} (h : Fz K H a us) : Fz K H' a us := by
  rcases h with ⟨o, h⟩ | h
  · exact .inl ⟨o, f.frzs _ _ _ h⟩
  · exact .inr h
mutual
theorem Rep.fx {K : PySem.W.Frag} {μ μ' : List Addr} {H H' : Hp} (f : Fx μ H μ' H') : ∀ {x : D} {v : V}, Rep K μ H x v → Rep K μ' H' x v
  | _, _, .non => .non
  | _, _, .bl b => .bl b
  | _, _, .int i => .int i
  | _, _, .str n => .str n
  | _, _, .tup h r => .tup (SqT.fx f h) (Reps.fx f r)
  | _, _, .lst h r => .lst (Fz.fx f h) (Reps.fx f r)
  | _, _, .ref h => .ref (f.at h)
theorem Reps.fx {K : PySem.W.Frag} {μ μ' : List Addr} {H H' : Hp} (f : Fx μ H μ' H') : ∀ {xs : List D} {vs : List V}, Reps K μ H xs vs → Reps K μ' H' xs vs
  | _, _, .nil => .nil
  | _, _, .cons r rs => .cons (Rep.fx f r) (Reps.fx f rs)
end
section
variable {K : PySem.W.Frag} {μ : List Addr} {H : Hp}
theorem Reps.length : ∀ {xs : List D} {vs : List V}, Reps K μ H xs vs → xs.length = vs.length
  | _, _, .nil => rfl
  | _, _, .cons _ r => by rw [List.length_cons, List.length_cons, r.length]
theorem Reps.get : ∀ {xs : List D} {vs : List V} {i : Nat} {x : D}, Reps K μ H xs vs → xs[i]? = some x → ∃ v, vs[i]? = some v ∧ Rep K μ H x v
  | _, _, _, _, .nil, h => by simp at h
  | _, _, 0, _, .cons r _, h => by simp at h; subst h; exact ⟨_, rfl, r⟩
  | _, _, i + 1, _, .cons _ r, h => by
    obtain ⟨v, h1, h2⟩ := r.get (i := i) (by simpa using h)
    exact ⟨v, by simpa using h1, h2⟩
theorem Reps.append : ∀ {xs ys : List D} {us vs : List V}, Reps K μ H xs us → Reps K μ H ys vs → Reps K μ H (xs ++ ys) (us ++ vs)
  | _, _, _, _, .nil, s => s
  | _, _, _, _, .cons r t, s => .cons r (t.append s)
theorem Reps.take : ∀ {xs : List D} {vs : List V} (n : Nat), Reps K μ H xs vs → Reps K μ H (xs.take n) (vs.take n)
  | _, _, 0, _ => .nil
  | _, _, _ + 1, .nil => .nil
  | _, _, n + 1, .cons r t => .cons r (t.take n)
theorem Reps.drop : ∀ {xs : List D} {vs : List V} (n : Nat), Reps K μ H xs vs → Reps K μ H (xs.drop n) (vs.drop n)
  | _, _, 0, r => r
  | _, _, _ + 1, .nil => .nil
  | _, _, n + 1, .cons _ t => t.drop n
theorem Reps.set {x : D} {v : V} (h : Rep K μ H x v) : ∀ {xs : List D} {vs : List V} (i : Nat), Reps K μ H xs vs → Reps K μ H (xs.set i x) (vs.set i v)
  | _, _, _, .nil => .nil
  | _, _, 0, .cons _ t => .cons h t
  | _, _, i + 1, .cons q t => .cons q (Reps.set h i t)
end

/-- a look at a value: a list may be one that is changed later -/
def Lk (K : PySem.W.Frag) (μ : List Addr) (H : Hp) (x : D) (v : V) : Prop :=
  match x with
  | .lst xs => ∃ a us, v = .ref a ∧ SqL K H a us ∧ Reps K μ H xs us
  | x => Rep K μ H x v
theorem Rep.lk {K : PySem.W.Frag} {μ : List Addr} {H : Hp} {x : D} {v : V} (h : Rep K μ H x v) : Lk K μ H x v := by
  cases h with
  | lst f r => exact ⟨_, _, rfl, f.sq, r⟩
  | non => exact .non
  | bl b => exact .bl b
  | int i => exact .int i
  | str n => exact .str n
  | tup h r => exact .tup h r
  | ref h => exact .ref h

/-- a thing of one's own at an address -/
def ObR (K : PySem.W.Frag) (μ : List Addr) (H : Hp) (a : Addr) : Ob → Prop
  | .lst xs => ∃ us, H a = some (.lst us) ∧ Reps K μ H xs us
  | _ => False
/-- what an expression gave, H₀ being the heap ahead of it -/
def RvR (K : PySem.W.Frag) (μ : List Addr) (H : Hp) (H0 : Hp) : Rv → V → Prop
  | .d x, v => Rep K μ H x v
  | .own o, v => ∃ a, v = .ref a ∧ ObR K μ H a o ∧ a ∉ μ ∧ H0 a = none
  | .brw o, v => ∃ a, v = .ref a ∧ ObR K μ H a o ∧ a ∉ μ
theorem RvR.lk {K : PySem.W.Frag} {μ : List Addr} {H H0 : Hp} {x : Rv} {v : V} (h : RvR K μ H H0 x v) : Lk K μ H x.look v := by
  cases x with
  | d x => exact Rep.lk h
  | own o =>
    obtain ⟨a, rfl, ho, _⟩ := h
    cases o with
    | lst xs =>
      obtain ⟨us, e, r⟩ := ho
      exact ⟨a, us, rfl, .inl (.inl e), r⟩
    | _ => exact ho.elim
  | brw o =>
    obtain ⟨a, rfl, ho, _⟩ := h
    cases o with
    | lst xs =>
      obtain ⟨us, e, r⟩ := ho
      exact ⟨a, us, rfl, .inl (.inl e), r⟩
    | _ => exact ho.elim

/-- what an expression leaves as it was -/
structure Ex (μ : List Addr) (H : Hp) (μ' : List Addr) (H' : Hp) : Prop where
  fx : Fx μ H μ' H'
  keep : ∀ a o, H a = some o → a ∉ μ → H' a = some o
  new : ∀ a, a ∈ μ' → a ∈ μ ∨ H a = none
theorem Ex.refl (μ : List Addr) (H : Hp) : Ex μ H μ H := ⟨.refl μ H, fun _ _ h _ => h, fun _ h => .inl h⟩
theorem Ex.free {μ μ' : List Addr} {H H' : Hp} (e : Ex μ H μ' H') {a : Addr} (h : H' a = none) : a ∈ μ ∨ H a = none := by
  by_cases m : a ∈ μ
  · exact .inl m
  · cases q : H a with
    | none => exact .inr rfl
    | some o => rw [e.keep a o q m] at h; cases h
theorem Ex.out {μ μ' : List Addr} {H H' : Hp} (e : Ex μ H μ' H') {a : Addr} {o : HO} (h : H a = some o) (m : a ∉ μ) : a ∉ μ' := fun z => by
  rcases e.new a z with z | z
  · exact m z
  · rw [z] at h; cases h
theorem Ex.trans {μ μ1 μ2 : List Addr} {H H1 H2 : Hp} (a : Ex μ H μ1 H1) (b : Ex μ1 H1 μ2 H2) : Ex μ H μ2 H2 := by
  refine ⟨a.fx.trans b.fx, fun c o h m => b.keep c o (a.keep c o h m) (a.out h m), fun c h => ?_⟩
  rcases b.new c h with z | z
  · exact a.new c z
  · exact a.free z
/-- a new thing is tracked -/
theorem Ex.laid {μ : List Addr} {H : Hp} {p : Addr} {o : HO} (h : H p = none) : Ex μ H μ (upd H p o) :=
  have k : ∀ a u, H a = some u → upd H p o a = some u := fun a u e => by rw [upd_ne (ne_of_none e h)]; exact e
  ⟨⟨⟨[], by simp⟩, fun a _ e => k a _ e, fun a _ _ e => k a _ e⟩, fun a u e _ => k a u e, fun _ h => .inl h⟩
theorem ObR.ex {K : PySem.W.Frag} {μ μ' : List Addr} {H H' : Hp} (e : Ex μ H μ' H') {a : Addr} {o : Ob} (m : a ∉ μ) (h : ObR K μ H a o) : ObR K μ' H' a o ∧ a ∉ μ' := by
  cases o with
  | lst xs =>
    obtain ⟨us, h1, r⟩ := h
    exact ⟨⟨us, e.keep _ _ h1 m, r.fx e.fx⟩, e.out h1 m⟩
  | _ => exact h.elim
theorem RvR.ex {K : PySem.W.Frag} {μ μ' : List Addr} {H H' H0 : Hp} (e : Ex μ H μ' H') {x : Rv} {v : V} (h : RvR K μ H H0 x v) : RvR K μ' H' H0 x v := by
  cases x with
  | d x => exact Rep.fx e.fx h
  | own o =>
    obtain ⟨a, rfl, ho, m, n⟩ := h
    obtain ⟨h1, h2⟩ := ho.ex e m
    exact ⟨a, rfl, h1, h2, n⟩
  | brw o =>
    obtain ⟨a, rfl, ho, m⟩ := h
    obtain ⟨h1, h2⟩ := ho.ex e m
    exact ⟨a, rfl, h1, h2⟩
theorem Lk.ex {K : PySem.W.Frag} {μ μ' : List Addr} {H H' : Hp} {x : Rv} {v : V} {H0 : Hp} (e : Ex μ H μ' H') (h : RvR K μ H H0 x v) : Lk K μ' H' x.look v := (h.ex e).lk
/-- new since an earlier heap -/
theorem RvR.since {K : PySem.W.Frag} {μ0 μ1 μ : List Addr} {H0 H1 H : Hp} (e : Ex μ0 H0 μ1 H1) {x : Rv} {v : V} (h : RvR K μ H H1 x v) (f : ∀ a, a ∈ μ0 → a ∈ μ) : RvR K μ H H0 x v := by
  cases x with
  | d x => exact h
  | own o =>
    obtain ⟨a, rfl, ho, m, n⟩ := h
    refine ⟨a, rfl, ho, m, ?_⟩
    rcases e.free n with z | z
    · exact absurd (f a z) m
    · exact z
  | brw o => exact h

/-- the numbered things -/
structure Hr (K : PySem.W.Frag) (μ : List Addr) (H : Hp) (m : Mem) : Prop where
  len : μ.length = m.length
  nd : μ.Nodup
  obj : ∀ (n : Nat) (o : Ob), m[n]? = some o → ∃ a, μ[n]? = some a ∧ ObR K μ H a o
theorem Hr.get {K : PySem.W.Frag} {μ : List Addr} {H : Hp} {m : Mem} (h : Hr K μ H m) {a : Addr} (ha : a ∈ μ) : ∃ us, H a = some (.lst us) := by
  obtain ⟨n, hn, e⟩ := List.getElem_of_mem ha
  have hm : n < m.length := by rw [← h.len]; exact hn
  obtain ⟨b, h1, h2⟩ := h.obj n m[n] (List.getElem?_eq_getElem hm)
  rw [List.getElem?_eq_getElem hn, e] at h1
  cases h1
  cases q : m[n] with
  | lst xs =>
    rw [q] at h2
    obtain ⟨us, h3, _⟩ := h2
    exact ⟨us, h3⟩
  | dct _ _ => rw [q] at h2; exact h2.elim
  | set _ => rw [q] at h2; exact h2.elim
/-- the numbered things under what leaves them alone -/
theorem Hr.keep {K : PySem.W.Frag} {μ : List Addr} {H H' : Hp} {m : Mem} (h : Hr K μ H m) (f : Fx μ H μ H') (k : ∀ a us, a ∈ μ → H a = some (.lst us) → H' a = some (.lst us)) : Hr K μ H' m := by
  refine ⟨h.len, h.nd, fun n o e => ?_⟩
  obtain ⟨a, h1, h2⟩ := h.obj n o e
  refine ⟨a, h1, ?_⟩
  cases o with
  | lst xs =>
    obtain ⟨us, h3, r⟩ := h2
    exact ⟨us, k a us (List.mem_of_getElem? h1) h3, r.fx f⟩
  | _ => exact h2.elim
theorem Hr.laid {K : PySem.W.Frag} {μ : List Addr} {H : Hp} {m : Mem} (h : Hr K μ H m) {p : Addr} {o : HO} (hp : H p = none) : Hr K μ (upd H p o) m :=
  h.keep (Ex.laid hp).fx fun a us _ e => by rw [upd_ne (ne_of_none e hp)]; exact e
theorem Hr.nofree {K : PySem.W.Frag} {μ : List Addr} {H : Hp} {m : Mem} (h : Hr K μ H m) {p : Addr} (hp : H p = none) : p ∉ μ := fun z => by
  obtain ⟨us, e⟩ := h.get z
  rw [hp] at e; cases e

/-- the names -/
structure Er (K : PySem.W.Frag) (μ : List Addr) (H H0 : Hp) (env : Env) (σ : L2.St) : Prop where
  len : env.length = σ.length
  val : ∀ (i : Nat) (x : Rv), env[i]? = some (some x) → ∃ v, σ[i]? = some (some v) ∧ RvR K μ H H0 x v ∧ notBrw x = true
  dis : ∀ (i j : Nat) (o o' : Ob) (v : V), env[i]? = some (some (.own o)) → env[j]? = some (some (.own o')) → σ[i]? = some (some v) → σ[j]? = some (some v) → i = j
theorem Er.ex {K : PySem.W.Frag} {μ μ' : List Addr} {H H' H0 : Hp} {env : Env} {σ : L2.St} (e : Ex μ H μ' H') (h : Er K μ H H0 env σ) : Er K μ' H' H0 env σ :=
  ⟨h.len, fun i x q => let ⟨v, a, b, c⟩ := h.val i x q; ⟨v, a, b.ex e, c⟩, h.dis⟩
end Gx

set_option Elab.async false
set_option linter.all false
set_option maxRecDepth 100000
set_option maxHeartbeats 4000000
/-! Operations on values: what the layer's rules give is what the evaluator says. -/
namespace Gx
open PySem PySem.Spec PyProof.Rows L2

theorem log_len : ∀ (k n : Nat), n < 2 ^ k → (dec n).length ≤ k
  | 0, n, h => by
    have : n = 0 := by simpa using h
    subst this; simp [dec_zero]
  | k + 1, n, h => by
    by_cases z : n = 0
    · subst z; simp [dec_zero]
    · rw [dec_pos z, List.length_cons]
      have h2 : n / 256 < 2 ^ k := by
        have e : 2 ^ (k + 1) = 2 * 2 ^ k := by rw [Nat.pow_succ, Nat.mul_comm]
        rw [e] at h
        omega
      have := log_len k _ h2
      omega
theorem line_eq : LINE = sizeLine := by rw [sizeLine_eq]; rfl
theorem okLen_le {α : Type} {xs : List α} (h : okLen xs = true) : xs.length ≤ sizeLine := by
  rw [← line_eq]
  exact Nat.le_of_ble_eq_true h

/-! ### data -/
mutual
def toPy : D → PyData
  | .non => .none
  | .bl b => .bool b
  | .int i => .int i
  | .str n => .str (toStr n)
  | .tup xs => .tuple (toPys xs)
  | .lst xs => .list (toPys xs)
  | _ => .none
def toPys : List D → List PyData
  | [] => []
  | x :: xs => toPy x :: toPys xs
end
theorem strOk_toStr (n : Nat) : PyData.strOk (toStr n) = true := by
  show ((dec n).toArray).all (fun c => decide (c < 0x110000)) = true
  rw [Array.all_eq_true']
  intro c hc
  have h : c ∈ dec n := by simpa using hc
  have := dec_lt h
  simp
  omega
mutual
theorem sh_lay : ∀ (k : Nat) (x : D), sh k x = true → (toPy x).canLay0 = true ∧ (toPy x).depth ≤ k + 1
  | k, .non, _ => ⟨rfl, by simp [toPy, PyData.depth]⟩
  | k, .bl _, _ => ⟨rfl, by simp [toPy, PyData.depth]⟩
  | k, .int _, _ => ⟨rfl, by simp [toPy, PyData.depth]⟩
  | k, .str n, _ => ⟨strOk_toStr n, by simp [toPy, PyData.depth]⟩
  | k + 1, .tup xs, h => by
    have ⟨h1, h2⟩ := shs_lay k xs (by simpa [sh] using h)
    refine ⟨by simpa [toPy, PyData.canLay0] using h1, ?_⟩
    simp only [toPy, PyData.depth]
    omega
  | k + 1, .lst xs, h => by
    have ⟨h1, h2⟩ := shs_lay k xs (by simpa [sh] using h)
    refine ⟨by simpa [toPy, PyData.canLay0] using h1, ?_⟩
    simp only [toPy, PyData.depth]
    omega
  | 0, .tup xs, h => by simp [sh] at h
  | 0, .lst xs, h => by simp [sh] at h
  | k, .ref _, h => by cases k <;> simp [sh] at h
  | k, .fn _, h => by cases k <;> simp [sh] at h
  | k, .ty _, h => by cases k <;> simp [sh] at h
  | k, .dct _ _, h => by cases k <;> simp [sh] at h
  | k, .set _, h => by cases k <;> simp [sh] at h
theorem shs_lay : ∀ (k : Nat) (xs : List D), shs k xs = true → PyData.canLayAll0 (toPys xs) = true ∧ PyData.depthAll (toPys xs) ≤ k + 1
  | k, [], _ => ⟨rfl, by simp [toPys, PyData.depthAll]⟩
  | k, x :: xs, h => by
    simp only [shs, Bool.and_eq_true] at h
    have ⟨a1, a2⟩ := sh_lay k x h.1
    have ⟨b1, b2⟩ := shs_lay k xs h.2
    refine ⟨by simp [toPys, PyData.canLayAll0, a1, b1], ?_⟩
    simp only [toPys, PyData.depthAll]
    omega
end
mutual
theorem eqD_eqv : ∀ (k : Nat) (x y : D), sh k x = true → sh k y = true → eqD x y = PyData.eqv (toPy x) (toPy y)
  | k, .tup xs, y, hx, hy => by
    cases k with
    | zero => simp [sh] at hx
    | succ k =>
      cases y with
      | tup ys => simp only [eqD, toPy, PyData.eqv]; exact eqDs_eqv k xs ys (by simpa [sh] using hx) (by simpa [sh] using hy)
      | _ => first | (simp [sh] at hy; done) | simp [eqD, toPy, PyData.eqv]
  | k, .lst xs, y, hx, hy => by
    cases k with
    | zero => simp [sh] at hx
    | succ k =>
      cases y with
      | lst ys => simp only [eqD, toPy, PyData.eqv]; exact eqDs_eqv k xs ys (by simpa [sh] using hx) (by simpa [sh] using hy)
      | _ => first | (simp [sh] at hy; done) | simp [eqD, toPy, PyData.eqv]
  | k, .non, y, _, hy => by cases y <;> first | rfl | (cases k <;> simp [sh] at hy; done)
  | k, .bl a, y, _, hy => by cases y <;> first | rfl | (cases k <;> simp [sh] at hy; done)
  | k, .int a, y, _, hy => by cases y <;> first | rfl | (cases k <;> simp [sh] at hy; done)
  | k, .str a, y, _, hy => by
    cases y with
    | str b =>
      simp only [eqD, toPy, PyData.eqv]
      rw [Bool.eq_iff_iff]
      simp [toStr_inj]
    | _ => first | rfl | (cases k <;> simp [sh] at hy; done)
  | k, .ref _, _, h, _ => by cases k <;> simp [sh] at h
  | k, .fn _, _, h, _ => by cases k <;> simp [sh] at h
  | k, .ty _, _, h, _ => by cases k <;> simp [sh] at h
  | k, .dct _ _, _, h, _ => by cases k <;> simp [sh] at h
  | k, .set _, _, h, _ => by cases k <;> simp [sh] at h
theorem eqDs_eqv : ∀ (k : Nat) (xs ys : List D), shs k xs = true → shs k ys = true → eqDs xs ys = PyData.eqvAll (toPys xs) (toPys ys)
  | _, [], [], _, _ => rfl
  | _, [], _ :: _, _, _ => rfl
  | _, _ :: _, [], _, _ => rfl
  | k, x :: xs, y :: ys, hx, hy => by
    simp only [shs, Bool.and_eq_true] at hx hy
    simp only [eqDs, toPys, PyData.eqvAll]
    rw [eqD_eqv k x y hx.1 hy.1, eqDs_eqv k xs ys hx.2 hy.2]
end
section
variable {K : PySem.W.Frag} {μ : List Addr} {H : Hp}
mutual
theorem Rep.dp : ∀ (k : Nat) (x : D) (v : V), sh k x = true → Rep K μ H x v → Dp K H v (toPy x)
  | k, .tup xs, v, h, r => by
    cases k with
    | zero => simp [sh] at h
    | succ k =>
      cases r with
      | tup hs ha => exact .tup hs (Reps.dp k xs _ (by simpa [sh] using h) ha)
  | k, .lst xs, v, h, r => by
    cases k with
    | zero => simp [sh] at h
    | succ k =>
      cases r with
      | lst hs ha =>
        exact .lst hs.sq (Reps.dp k xs _ (by simpa [sh] using h) ha)
  | k, .non, v, h, r => by cases r; exact .non
  | k, .bl _, v, h, r => by cases r; exact .bl _
  | k, .int _, v, h, r => by cases r; exact .int _
  | k, .str _, v, h, r => by cases r; exact .str _
  | k, .ref _, _, h, _ => by cases k <;> simp [sh] at h
  | k, .fn _, _, h, _ => by cases k <;> simp [sh] at h
  | k, .ty _, _, h, _ => by cases k <;> simp [sh] at h
  | k, .dct _ _, _, h, _ => by cases k <;> simp [sh] at h
  | k, .set _, _, h, _ => by cases k <;> simp [sh] at h
theorem Reps.dp : ∀ (k : Nat) (xs : List D) (vs : List V), shs k xs = true → Reps K μ H xs vs → DpAll K H vs (toPys xs)
  | k, [], vs, h, r => by cases r; exact .nil
  | k, x :: xs, vs, h, r => by
    simp only [shs, Bool.and_eq_true] at h
    cases r with
    | cons r rs => exact .cons (Rep.dp k x _ h.1 r) (Reps.dp k xs _ h.2 rs)
end
theorem Lk.dp {k : Nat} {x : D} {v : V} (h : sh k x = true) (r : Lk K μ H x v) : Dp K H v (toPy x) := by
  cases x with
  | lst xs =>
    obtain ⟨a, us, rfl, hs, ha⟩ := r
    cases k with
    | zero => simp [sh] at h
    | succ k => exact .lst hs (Reps.dp k xs _ (by simpa [sh] using h) ha)
  | _ => exact Rep.dp k _ _ h r
end
theorem sh_shaped {x : D} (h : sh 60 x = true) : SeqAt.shaped (toPy x) = true := by
  obtain ⟨h1, h2⟩ := sh_lay 60 x h
  unfold SeqAt.shaped
  rw [h1, decide_eq_true (by omega : (toPy x).depth ≤ 64)]
  rfl

/-! ### an item's == -/
section
variable {X : Cx} {pins : List (Addr × Obj)} {σ : L2.St} {H : Hp} {s : Shared}
theorem eqAt_D (I : Inv X pins σ H s) {A : Around} (hu : A.units + 62 < cLine) {μ : List Addr} {x y : D} {v w : V} {u u' : Value} (hx : sh 60 x = true) (hy : sh 60 y = true) (rx : Lk X.K μ H x v) (ry : Lk X.K μ H y w) (e : RelV v u) (e' : RelV w u') :
    SeqAt.EqAt A s u u' (eqD x y) := by
  obtain ⟨as, h1⟩ := Dp.reads I _ v u (rx.dp hx) e
  obtain ⟨bs, h2⟩ := Dp.reads I _ w u' (ry.dp hy) e'
  rw [eqD_eqv 60 x y hx hy]
  obtain ⟨a1, a2⟩ := sh_lay 60 x hx
  obtain ⟨b1, b2⟩ := sh_lay 60 y hy
  refine SeqAt.eqAt_reads _ _ A s u u' as bs h1 h2 a1 b1 ?_
  have : min (toPy x).depth (toPy y).depth ≤ 61 := Nat.le_trans (Nat.min_le_left _ _) a2
  omega
/-- a value of Value's own, asked against the items: by their places -/
theorem items_eq (I : Inv X pins σ H s) {A : Around} (hu : A.units + 63 < cLine) {μ : List Addr} {x : D} {v : V} {u : Value} (hx : sh 60 x = true) (rx : Lk X.K μ H x v) (e : RelV v u) :
    ∀ {ys : List D} {vs : List V} {us : List Value}, shs 60 ys = true → Reps X.K μ H ys vs → Vals vs us → ∃ f : Value → Bool, (∀ z ∈ us, SeqAt.EqAt A.in1 s z u (f z)) ∧ us.map f = ys.map fun y => eqD y x := by
  intro ys vs us hy ry rv
  have h2 := Lk.dp (k := 60) hx rx
  obtain ⟨bs, r2⟩ := Dp.reads I _ v u h2 e
  have key : ∀ (ys : List D) (vs : List V) (us : List Value), shs 60 ys = true → Reps X.K μ H ys vs → Vals vs us → (us.map (SeqAt.readOf s.heap)) = toPys ys := by
    intro ys vs us hy ry rv
    obtain ⟨as, h4⟩ := Dp.readsAll I _ vs us (Reps.dp 60 ys vs hy ry) rv
    exact SeqAt.readsAll_map _ us as (shs_lay 60 ys hy).1 h4
  refine ⟨fun z => PyData.eqv (SeqAt.readOf s.heap z) (toPy x), fun z hz => ?_, ?_⟩
  · obtain ⟨as, h4⟩ := Dp.readsAll I _ vs us (Reps.dp 60 ys vs hy ry) rv
    have hd := (shs_lay 60 ys hy)
    have hr : A.units + 1 + min (PyData.depthAll (toPys ys)) (toPy x).depth < cLine := by
      have := (sh_lay 60 x hx).2
      have : min (PyData.depthAll (toPys ys)) (toPy x).depth ≤ 61 := Nat.le_trans (Nat.min_le_right _ _) this
      omega
    exact SeqAt.items_eqAt (vs := us.toArray) (show ReadsAll s.heap us.toArray.toList (toPys ys) as from h4) r2 hd.1 (sh_lay 60 x hx).1 hr z (by simpa using hz)
  · have e1 := key ys vs us hy ry rv
    have e2 : us.map (fun z => PyData.eqv (SeqAt.readOf s.heap z) (toPy x)) = (us.map (SeqAt.readOf s.heap)).map fun d => PyData.eqv d (toPy x) := by rw [List.map_map]; rfl
    rw [e2, e1]
    clear e1 e2 key rv ry
    induction ys with
    | nil => rfl
    | cons y ys ih =>
      simp only [shs, Bool.and_eq_true] at hy
      simp only [toPys, List.map_cons]
      rw [ih hy.2, eqD_eqv 60 y x hy.1 hx]
end
end Gx

set_option Elab.async false
set_option linter.all false
set_option maxRecDepth 100000
set_option maxHeartbeats 4000000
namespace Gx
open PySem PySem.Spec PyProof.Rows L2

section
variable {K : PySem.W.Frag} {μ : List Addr} {H H0 : Hp} {m : Mem}
theorem own_new {p : Addr} {xs : List D} {us : List V} (h : Hr K μ H m) (hp : H p = none) (r : Reps K μ H xs us) : RvR K μ (upd H p (.lst us)) H (.own (.lst xs)) (.ref p) :=
  ⟨p, rfl, ⟨us, upd_same, r.fx (Ex.laid hp).fx⟩, h.nofree hp, hp⟩
theorem tup_new {p : Addr} {xs : List D} {us : List V} (hp : H p = none) (r : Reps K μ H xs us) : RvR K μ (upd H p (.tup us)) H (.d (.tup xs)) (.ref p) :=
  show Rep K μ (upd H p (.tup us)) (.tup xs) (.ref p) from .tup (SqT.of upd_same) (r.fx (Ex.laid hp).fx)
theorem ixAt_eq (n : Nat) (i : Int) : ixAt n i = ixN n i := rfl
theorem slAt_eq (n d : Nat) (o : Option Int) : slAt n d o = HT.sIx n d o := by
  cases o with
  | none => rfl
  | some i =>
    unfold slAt HT.sIx
    rfl
end

/-! ### lists that are tracked or never changed any more -/
section
variable {X : Cx} {pins : List (Addr × Obj)} {σ : L2.St} {H : Hp} {s : Shared}
def rCatR (K : PySem.W.Frag) : R2 := fun x y H Q => ∃ l b xs zs, x = .ref l ∧ y = .ref b ∧ SqL K H l xs ∧ SqL K H b zs ∧ xs.length + zs.length ≤ sizeLine ∧ ∀ p, H p = none → Q (.ref p) (upd H p (.lst (xs ++ zs)))
theorem op_catR : OpR X (binaryOp .Add) (rCatR X.K) := by
  intro pins s σ H x y v u Q I rx ry ⟨l, b, xs, zs, ex, ey, ll, lb, hz, q⟩
  subst ex ey
  cases rx; cases ry
  obtain ⟨ps, rp, ⟨⟨c1, d1, t1, o1⟩, n, e, kc, kd, kt⟩, _⟩ := I.list ll
  obtain ⟨qs, rq, ⟨⟨c2, d2, t2, o2⟩, n2, e2, kc2, kd2, kt2⟩, _⟩ := I.list lb
  simp only at kc kd kt kc2 kd2 kt2
  subst kc kd kt kc2 kd2 kt2
  have z1 := rp.length
  have z2 := rq.length
  have ea : ps.toArray ++ qs.toArray = (ps ++ qs).toArray := by simp
  refine concat_meets ⟨_, e, rfl⟩ ⟨_, e2, rfl⟩ noFill_list_add seq_list_add PySem.F.slot_list_add PySem.F.entry_list_add (PySem.F.args_list_add_2 _ _) (list_addW l b ps.toArray qs.toArray n n2 none none o1 o2 (by rw [List.size_toArray, List.size_toArray]; omega)) ⟨e, e2, ?_⟩
  rw [ea]
  exact ⟨.ref _, _, I.lnew (t' := s.toks) (rp.append rq) (by rw [List.length_append]; omega), rfl, q _ I.fresh⟩
end

/-! ### operators -/
def boPy : BO → Operator
  | .add => .Add | .sub => .Sub | .mul => .Mult | .fdiv => .FloorDiv | .mod => .Mod | .pow => .Pow
/-- two values under a look, and what follows -/
def tV2 (K : PySem.W.Frag) (m : Mem) (x y : D) (rv : Rv) : R2 := fun u v H Q => ∃ μ, Hr K μ H m ∧ Lk K μ H x u ∧ Lk K μ H y v ∧ ∀ w H', Ex μ H μ H' → Hr K μ H' m → RvR K μ H' H rv w → Q w H'
theorem CMulB_ok {i j : Int} (h : CMulB i j = true) : CMul i j := by
  unfold CMulB at h
  rw [Bool.or_eq_true] at h
  rcases h with h | h
  · exact .inl (of_decide_eq_true h)
  · exact .inr (of_decide_eq_true h)
theorem bin_ok {X : Cx} {m : Mem} {op : BO} {x y : D} {rv : Rv} (hb : binV op x y = some rv) : OpR X (binaryOp (boPy op)) (tV2 X.K m x y rv) := by
  intro pins s σ H u v u' v' Q I ru rv' h
  obtain ⟨μ, hr, lx, ly, q⟩ := h
  have go : ∀ {r : R2}, OpR X (binaryOp (boPy op)) r → r u v H Q → wpAny (model X.prog X.w) X.A (binaryOp (boPy op) u' v') (EP X pins σ Q) X.xe s := fun ho hq => ho pins s σ H u v u' v' Q I ru rv' hq
  have scl : ∀ (d : D) (w : V), Rep X.K μ H d w → rv = .d d → Q w H := fun d w r e => by
    subst e
    exact q w H (.refl μ H) hr r
  unfold binV at hb
  split at hb
  · cases lx; cases ly; cases hb
    exact go op_add ⟨_, _, rfl, rfl, scl _ _ (.int _) rfl⟩
  · rename_i a b
    split at hb
    · rename_i hl
      cases lx; cases ly; cases hb
      have hl := okLen_le hl
      rw [List.length_append] at hl
      refine go op_add_str ⟨_, _, rfl, rfl, by rw [toStr_len, toStr_len]; exact hl, scl (.str _) _ ?_ rfl⟩
      rw [← toStr_cat]
      exact .str _
    · cases hb
  · split at hb
    · rename_i hl
      obtain ⟨a, us, rfl, ha, ra⟩ := lx
      obtain ⟨b, ws, rfl, hb', rb⟩ := ly
      cases hb
      have hl := okLen_le hl
      rw [List.length_append] at hl
      refine go op_catR ⟨a, b, us, ws, rfl, rfl, ha, hb', by rw [← ra.length, ← rb.length]; exact hl, fun p hp => ?_⟩
      exact q _ _ (.laid hp) (hr.laid hp) (own_new hr hp (ra.append rb))
    · cases hb
  · split at hb
    · rename_i hl
      cases lx with
      | tup hx rx =>
        cases ly with
        | tup hy ry =>
          cases hb
          have hl := okLen_le hl
          rw [List.length_append] at hl
          refine go op_catA ⟨_, _, _, _, rfl, rfl, hx, hy, by rw [← rx.length, ← ry.length]; exact hl, fun e => ?_, fun _ e => ?_, fun _ _ p hp => ?_⟩
          · subst e
            cases rx
            exact scl (.tup _) _ (.tup hy ry) rfl
          · subst e
            cases ry
            rw [List.append_nil] at scl
            exact scl (.tup _) _ (.tup hx rx) rfl
          · exact q _ _ (.laid hp) (hr.laid hp) (tup_new hp (rx.append ry))
    · cases hb
  · cases lx; cases ly; cases hb
    exact go op_sub ⟨_, _, rfl, rfl, scl _ _ (.int _) rfl⟩
  · split at hb
    · rename_i hc
      cases lx; cases ly; cases hb
      exact go op_mul ⟨_, _, rfl, rfl, CMulB_ok hc, scl _ _ (.int _) rfl⟩
    · cases hb
  · split at hb
    · rename_i hc
      cases lx; cases ly; cases hb
      have hc := of_decide_eq_true hc
      exact go op_fdivN ⟨_, _, rfl, rfl, hc, scl _ _ (.int _) rfl⟩
    · cases hb
  · split at hb
    · rename_i hc
      cases lx; cases ly; cases hb
      exact go op_modN ⟨_, _, rfl, rfl, of_decide_eq_true hc, scl _ _ (.int _) rfl⟩
    · cases hb
  · split at hb
    · rename_i hc
      cases lx; cases ly; cases hb
      have hc := of_decide_eq_true hc
      exact go op_pow ⟨_, _, rfl, rfl, hc, scl _ _ (.int _) rfl⟩
    · cases hb
  · cases hb

/-! ### comparisons -/
def coPy : CO → CmpOp
  | .eq => .Eq | .ne => .NotEq | .lt => .Lt | .le => .LtE | .gt => .Gt | .ge => .GtE | .isin => .In | .notin => .NotIn | .isN => .Is | .notN => .IsNot | .isB => .Is | .notB => .IsNot
def tVB (K : PySem.W.Frag) (m : Mem) (x y : D) (k : Bool) : R2 := fun u v H Q => ∃ μ, Hr K μ H m ∧ Lk K μ H x u ∧ Lk K μ H y v ∧ Q (.bl k) H
theorem ltL_iff : ∀ (a b : List Nat), ltL a b = decide (a < b)
  | [], [] => by simp [ltL]
  | [], _ :: _ => by simp [ltL]
  | _ :: _, [] => by simp [ltL]
  | x :: r, y :: s => by
    rw [ltL, ltL_iff r s]
    by_cases h : x < y
    · rw [if_pos h]
      symm
      rw [decide_eq_true_iff, List.cons_lt_cons_iff]
      exact .inl h
    · rw [if_neg h]
      by_cases e : x = y
      · rw [if_pos e]
        rw [Bool.eq_iff_iff, decide_eq_true_iff, decide_eq_true_iff, List.cons_lt_cons_iff]
        constructor
        · intro z; exact .inr ⟨e, z⟩
        · rintro (z | ⟨_, z⟩)
          · exact absurd z h
          · exact z
      · rw [if_neg e]
        symm
        rw [decide_eq_false_iff_not, List.cons_lt_cons_iff]
        rintro (z | ⟨z, _⟩)
        · exact h z
        · exact e z
theorem Lk.seq {K : PySem.W.Frag} {μ : List Addr} {H : Hp} {x : D} {xs : List D} {v : V} (h : Lk K μ H x v) (e : x.seq = some xs) :
    ∃ a us, v = .ref a ∧ Reps K μ H xs us ∧ ((∃ ys, x = .tup ys ∧ SqT K H a us) ∨ (∃ ys, x = .lst ys ∧ SqL K H a us)) := by
  cases x with
  | tup ys =>
    cases e
    cases h with
    | tup hs r => exact ⟨_, _, rfl, r, .inl ⟨_, rfl, hs⟩⟩
  | lst ys =>
    cases e
    obtain ⟨a, us, rfl, hs, r⟩ := h
    exact ⟨a, us, rfl, r, .inr ⟨_, rfl, hs⟩⟩
  | _ => cases e
theorem any_map {α γ : Type} {f : α → Bool} {g : γ → Bool} {us : List α} {ys : List γ} (e : us.map f = ys.map g) : us.any f = ys.any g := by
  have h1 : us.any f = (us.map f).any id := by rw [List.any_map]; rfl
  have h2 : ys.any g = (ys.map g).any id := by rw [List.any_map]; rfl
  rw [h1, h2, e]
theorem countP_map {α γ : Type} {f : α → Bool} {g : γ → Bool} {us : List α} {ys : List γ} (e : us.map f = ys.map g) : us.countP f = ys.countP g := by
  have h1 : us.countP f = (us.map f).countP id := by rw [List.countP_map]; rfl
  have h2 : ys.countP g = (ys.map g).countP id := by rw [List.countP_map]; rfl
  rw [h1, h2, e]

theorem in_seq {X : Cx} (hu : X.A.units + 64 < cLine) {pins : List (Addr × Obj)} {s : Shared} {σ : L2.St} {H : Hp} {u v : V} {u' v' : Value} {Q : VK} (I : Inv X pins σ H s) (ru : RelV u u') (rv : RelV v v') {μ : List Addr} {x y : D} {ys : List D}
    (lx : Lk X.K μ H x u) (ly : Lk X.K μ H y v) (e : y.seq = some ys) (ok : eqOks x ys = true) :
    (Q (.bl (ys.any fun z => eqD z x)) H → wpAny (model X.prog X.w) X.A (compareOp .In u' v') (EP X pins σ Q) X.xe s) ∧
    (Q (.bl (!(ys.any fun z => eqD z x))) H → wpAny (model X.prog X.w) X.A (compareOp .NotIn u' v') (EP X pins σ Q) X.xe s) := by
  unfold eqOks at ok
  rw [Bool.and_eq_true] at ok
  obtain ⟨a, us, rfl, r, h⟩ := ly.seq e
  cases rv
  rcases h with ⟨_, _, hq⟩ | ⟨_, _, hq⟩
  · obtain ⟨its, rr, pl, hz⟩ := I.tuple hq
    obtain ⟨f, h1, h2⟩ := items_eq I (A := X.A) (by omega) ok.1 lx ru ok.2 r rr
    have e1 : its.toArray.any f = ys.any fun z => eqD z x := by rw [List.any_toArray]; exact any_map h2
    exact ⟨fun q => SeqAt.in_tupleAt f pl (fun w hw => h1 w (by simpa using hw)) ⟨.bl _, H, I, rfl, by rw [e1]; exact q⟩,
      fun q => SeqAt.notIn_tupleAt f pl (fun w hw => h1 w (by simpa using hw)) ⟨.bl _, H, I, rfl, by rw [e1]; exact q⟩⟩
  · obtain ⟨its, rr, pl, hz⟩ := I.list hq
    obtain ⟨f, h1, h2⟩ := items_eq I (A := X.A) (by omega) ok.1 lx ru ok.2 r rr
    have e1 : its.toArray.any f = ys.any fun z => eqD z x := by rw [List.any_toArray]; exact any_map h2
    exact ⟨fun q => SeqAt.in_listAt f pl.isList (fun w hw => h1 w (by simpa using hw)) ⟨.bl _, H, I, rfl, by rw [e1]; exact q⟩,
      fun q => SeqAt.notIn_listAt f pl.isList (fun w hw => h1 w (by simpa using hw)) ⟨.bl _, H, I, rfl, by rw [e1]; exact q⟩⟩
theorem toStr_one {c c' : Nat} (h : dec c = [c']) : toStr c = ⟨#[c']⟩ := by
  unfold toStr
  rw [h]
theorem Lk.isNon {K : PySem.W.Frag} {μ : List Addr} {H : Hp} {x : D} {v : V} (h : Lk K μ H x v) : decide (v = .non) = x.isNon := by
  cases x with
  | lst xs =>
    obtain ⟨a, us, rfl, _⟩ := h
    simp [D.isNon]
  | _ => cases h <;> simp [D.isNon]
theorem cmp_ok {X : Cx} (hu : X.A.units + 64 < cLine) {m : Mem} {op : CO} {x y : D} {k : Bool} (hb : cmpV op x y = some k) : OpR X (compareOp (coPy op)) (tVB X.K m x y k) := by
  intro pins s σ H u v u' v' Q I ru rv h
  obtain ⟨μ, hr, lx, ly, q⟩ := h
  have go : ∀ {r : R2}, OpR X (compareOp (coPy op)) r → r u v H Q → wpAny (model X.prog X.w) X.A (compareOp (coPy op) u' v') (EP X pins σ Q) X.xe s := fun ho hq => ho pins s σ H u v u' v' Q I ru rv hq
  cases op with
  | eq =>
    simp only [cmpV] at hb
    split at hb
    · rename_i he
      unfold eqOk at he
      rw [Bool.and_eq_true] at he
      cases hb
      refine go (op_eqD hu) ⟨toPy x, toPy y, lx.dp he.1, ly.dp he.2, sh_shaped he.1, sh_shaped he.2, ?_⟩
      rw [← eqD_eqv 60 x y he.1 he.2]
      exact q
    · cases hb
  | ne =>
    simp only [cmpV] at hb
    split at hb
    · rename_i he
      unfold eqOk at he
      rw [Bool.and_eq_true] at he
      cases hb
      refine go (op_neD hu) ⟨toPy x, toPy y, lx.dp he.1, ly.dp he.2, sh_shaped he.1, sh_shaped he.2, ?_⟩
      rw [← eqD_eqv 60 x y he.1 he.2]
      exact q
    · cases hb
  | isN =>
    simp only [cmpV] at hb
    split at hb
    · cases ly
      refine go op_isN ⟨rfl, ?_⟩
      rw [lx.isNon, Option.some.inj hb]
      exact q
    · cases hb
  | notN =>
    simp only [cmpV] at hb
    split at hb
    · cases ly
      refine go op_notN ⟨rfl, ?_⟩
      rw [lx.isNon, Option.some.inj hb]
      exact q
    · cases hb
  | isB =>
    simp only [cmpV] at hb
    split at hb
    · cases lx; cases ly
      cases hb
      refine go op_is_bl ⟨_, _, rfl, rfl, ?_⟩
      rw [← Bool.beq_eq_decide_eq]
      exact q
    · cases hb
  | notB =>
    simp only [cmpV] at hb
    split at hb
    · cases lx; cases ly
      cases hb
      refine go op_isnot_bl ⟨_, _, rfl, rfl, ?_⟩
      rw [← Bool.beq_eq_decide_eq]
      exact q
    · cases hb
  | isin =>
    simp only [cmpV] at hb
    split at hb
    · split at hb
      · rename_i n _ c
        split at hb
        · rename_i c' hc
          cases lx; cases ly
          cases hb
          refine go op_in_sign ⟨c', _, by rw [toStr_one hc], rfl, ?_⟩
          rw [toStr_cps]
          have e : decide (c' ∈ dec n) = (dec n).contains c' := by rw [Bool.eq_iff_iff]; simp
          rw [e]
          exact q
        · cases hb
      · cases hb
    · split at hb
      · rename_i ys hs
        split at hb
        · rename_i ok
          cases hb
          exact (in_seq hu I ru rv lx ly hs ok).1 q
        · cases hb
      · cases hb
  | notin =>
    simp only [cmpV] at hb
    split at hb
    · split at hb
      · rename_i n _ c
        split at hb
        · rename_i c' hc
          cases lx; cases ly
          cases hb
          refine go op_notIn_sign ⟨c', _, by rw [toStr_one hc], rfl, ?_⟩
          rw [toStr_cps]
          have e : decide (c' ∈ dec n) = (dec n).contains c' := by rw [Bool.eq_iff_iff]; simp
          rw [e]
          exact q
        · cases hb
      · cases hb
    · split at hb
      · rename_i ys hs
        split at hb
        · rename_i ok
          cases hb
          exact (in_seq hu I ru rv lx ly hs ok).2 q
        · cases hb
      · cases hb
  | lt =>
    simp only [cmpV] at hb
    split at hb
    · cases lx; cases ly; cases hb
      exact go op_lt ⟨_, _, rfl, rfl, q⟩
    · cases lx; cases ly; cases hb
      refine go op_lt_str ⟨_, _, rfl, rfl, ?_⟩
      rw [toStr_cps, toStr_cps, ← ltL_iff]
      exact q
    · cases hb
  | le =>
    simp only [cmpV] at hb
    split at hb
    · cases lx; cases ly; cases hb
      exact go op_le ⟨_, _, rfl, rfl, q⟩
    · cases lx; cases ly; cases hb
      refine go op_le_str ⟨_, _, rfl, rfl, ?_⟩
      rw [toStr_cps, toStr_cps, ← ltL_iff]
      exact q
    · cases hb
  | gt =>
    simp only [cmpV] at hb
    split at hb
    · cases lx; cases ly; cases hb
      exact go op_gt ⟨_, _, rfl, rfl, q⟩
    · cases lx; cases ly; cases hb
      refine go op_gt_str ⟨_, _, rfl, rfl, ?_⟩
      rw [toStr_cps, toStr_cps, ← ltL_iff]
      exact q
    · cases hb
  | ge =>
    simp only [cmpV] at hb
    split at hb
    · cases lx; cases ly; cases hb
      exact go op_ge ⟨_, _, rfl, rfl, q⟩
    · cases lx; cases ly; cases hb
      refine go op_ge_str ⟨_, _, rfl, rfl, ?_⟩
      rw [toStr_cps, toStr_cps, ← ltL_iff]
      exact q
    · cases hb

/-! ### an item, a slice -/
theorem at_get {K : PySem.W.Frag} {μ : List Addr} {H : Hp} {xs : List D} {us : List V} (r : Reps K μ H xs us) {i : Int} {x : D} (h : ((ixAt xs.length i).bind fun j => xs[j]?) = some x) : ∃ v, atI us i = some v ∧ Rep K μ H x v := by
  rw [ixAt_eq] at h
  unfold atI
  rw [← r.length]
  cases e : ixN xs.length i with
  | none => rw [e] at h; cases h
  | some j =>
    rw [e] at h
    obtain ⟨v, h1, h2⟩ := r.get (i := j) h
    exact ⟨v, h1, h2⟩
theorem idx_ok {X : Cx} {m : Mem} {x y d : D} (hb : idxV x y m = some d) : IxR X (tV2 X.K m x y (.d d)) := by
  intro ev es pins s σ H u v u' v' Q I ru rv h hsub
  obtain ⟨μ, hr, lx, ly, q⟩ := h
  unfold idxV at hb
  split at hb
  · rename_i i
    cases ly
    split at hb
    · cases lx with
      | tup hs r =>
        obtain ⟨w, h1, h2⟩ := at_get r hb
        exact ix_tup ev es pins s σ H _ _ u' v' Q I ru rv ⟨_, _, _, w, rfl, rfl, hs, h1, q _ _ (.refl μ H) hr h2⟩ hsub
    · obtain ⟨a, us, rfl, hs, r⟩ := lx
      obtain ⟨w, h1, h2⟩ := at_get r hb
      exact ix_list ev es pins s σ H _ _ u' v' Q I ru rv ⟨_, _, _, w, rfl, rfl, hs, h1, q _ _ (.refl μ H) hr h2⟩ hsub
    · rename_i n
      split at hb
      · rename_i hl
        cases lx
        cases e : (ixAt (dec n).length i).bind fun j => (dec n)[j]? with
        | none => rw [e] at hb; cases hb
        | some c =>
          rw [e] at hb
          have hb : (if c = 0 then none else some (D.str c)) = some d := hb
          split at hb
          · cases hb
          · rename_i hc
            cases hb
            have hlt : c < 256 := by
              cases e2 : ixAt (dec n).length i with
              | none => rw [e2] at e; cases e
              | some j =>
                rw [e2] at e
                exact dec_lt (List.mem_of_getElem? (show (dec n)[j]? = some c from e))
            refine ix_str ev es pins s σ H _ _ u' v' Q I ru rv ⟨_, _, c, rfl, rfl, by rw [toStr_len]; exact okLen_le hl, ?_, ?_⟩ hsub
            · rw [toStr_cps]
              exact e
            · have e3 : (⟨#[c]⟩ : Str) = toStr c := by
                unfold toStr
                rw [dec_pos hc, Nat.mod_eq_of_lt hlt, Nat.div_eq_of_lt hlt, dec_zero]
              rw [e3]
              exact q _ _ (.refl μ H) hr (show Rep X.K μ H (.str c) _ from .str c)
      · cases hb
    · rename_i rr
      split at hb
      · rename_i xs hm
        cases lx with
        | ref hx =>
          obtain ⟨a, h1, us, h2, r⟩ := hr.obj _ _ hm
          rw [hx] at h1
          cases h1
          obtain ⟨w, h3, h4⟩ := at_get r hb
          exact ix_list ev es pins s σ H _ _ u' v' Q I ru rv ⟨_, _, _, w, rfl, rfl, SqL.of h2, h3, q _ _ (.refl μ H) hr h4⟩ hsub
      · cases hb
    · cases hb
  · cases hb
def tV3 (K : PySem.W.Frag) (m : Mem) (x : D) (l h : Option Int) (rv : Rv) : V → Option Int → Option Int → Hp → VK → Prop := fun u lo hi H Q => lo = l ∧ hi = h ∧ ∃ μ, Hr K μ H m ∧ Lk K μ H x u ∧ ∀ w H', Ex μ H μ H' → Hr K μ H' m → RvR K μ H' H rv w → Q w H'
theorem cut_eq (us : List V) (l h : Option Int) : cut us l h = cutV us l h := rfl
theorem Reps.cut {K : PySem.W.Frag} {μ : List Addr} {H : Hp} {xs : List D} {us : List V} (r : Reps K μ H xs us) (l h : Option Int) : Reps K μ H (cut xs l h) (cutV us l h) := by
  unfold Gx.cut cutV
  rw [slAt_eq, slAt_eq, ← r.length]
  exact (r.drop _).take _
def slcD (x : D) (l h : Option Int) : Option Rv := match x with
  | .tup xs => some (.d (.tup (cut xs l h)))
  | .lst xs => some (.own (.lst (cut xs l h)))
  | _ => none
theorem slc_ok {X : Cx} {m : Mem} {x : D} {l h : Option Int} {rv : Rv} (hb : slcD x l h = some rv) : SlR X (tV3 X.K m x l h rv) := by
  intro pins s σ H u v vl vu lo hi sl Q I ru hs pl pu hh
  obtain ⟨rfl, rfl, μ, hr, lx, q⟩ := hh
  unfold slcD at hb
  split at hb
  · cases hb
    cases lx with
    | @tup a us xs hq r =>
      refine sl_tupA pins s σ H _ v vl vu lo hi sl Q I ru hs pl pu ⟨_, _, rfl, hq, fun hw => ?_, fun _ p hp => ?_⟩
      · refine q _ _ (.refl μ H) hr ?_
        have e : ∀ zs : List D, zs.length = us.length → cut zs lo hi = zs := fun zs hz => by
          unfold Gx.cut
          rw [slAt_eq, slAt_eq, hz, hw.1, hw.2, ← hz]
          simp
        rw [e _ r.length]
        exact .tup hq r
      · exact q _ _ (.laid hp) (hr.laid hp) (tup_new hp (r.cut lo hi))
  · cases hb
    obtain ⟨a, us, rfl, hq, r⟩ := lx
    refine sl_list pins s σ H _ v vl vu lo hi sl Q I ru hs pl pu ⟨_, _, rfl, hq, fun p hp => ?_⟩
    exact q _ _ (.laid hp) (hr.laid hp) (own_new hr hp (r.cut lo hi))
  · cases hb
theorem slcV_eq {x lo hi : D} {rv : Rv} (h : slcV x lo hi = some rv) : ∃ l u, lo.part = some l ∧ hi.part = some u ∧ slcD x l u = some rv := by
  unfold slcV at h
  split at h
  · rename_i l u e1 e2
    exact ⟨l, u, e1, e2, h⟩
  · cases h
def tPart' (t : TE) : TO := fun σ H Q => t σ H fun x H1 => (∃ i, x = .int i ∧ Q (some i) H1) ∨ (x = .non ∧ Q none H1)
theorem po_some' {X : Cx} {e : Expr} {te : TE} (h : PE X e te) : PO X (some e) (tPart' te) := by
  refine ⟨fun pins s σ H Q I hw => ?_⟩
  rw [evalPart_some]
  refine thn (h.run pins s σ H _ I hw) fun u s1 ⟨x, H1, I1, r1, q1⟩ => ?_
  rcases q1 with ⟨i, rfl, q⟩ | ⟨rfl, q⟩
  · obtain ⟨t, rfl⟩ := r1
    exact ⟨some i, H1, I1, .int i t, q⟩
  · cases r1
    exact ⟨none, H1, I1, .none, q⟩

/-! ### truth -/
theorem tru_okD {X : Cx} {m : Mem} {x : D} {k : Bool} (hb : truth x m = some k) {μ : List Addr} {H : Hp} {v : V} (lx : Lk X.K μ H x v) : TruV X.K v H k := by
  unfold truth at hb
  split at hb
  · cases hb; cases lx; exact rfl
  · cases hb; cases lx; exact rfl
  · cases hb; cases lx; exact rfl
  · rename_i n
    split at hb
    · rename_i hl
      cases hb; cases lx
      refine ⟨?_, ?_⟩
      · rw [toStr_len]
        have h1 : n < 2 ^ (n.log2 + 1) := Nat.lt_log2_self
        have h2 := log_len _ _ h1
        have h3 : n.log2 ≤ 8000000 := Nat.le_of_ble_eq_true hl
        have h4 := sizeLine_eq
        omega
      · rw [toStr_len]
        by_cases z : n = 0
        · subst z; rfl
        · rw [dec_pos z]
          have : (n != 0) = true := by simpa using z
          rw [this, List.length_cons]
          symm
          simp
          omega
    · cases hb
  · cases hb
    cases lx with
    | tup hs r =>
      refine .inr (.inl ⟨_, hs, ?_⟩)
      cases r <;> rfl
  · cases hb
    obtain ⟨a, us, rfl, hs, r⟩ := lx
    refine .inl ⟨_, hs, ?_⟩
    cases r <;> rfl
  · cases hb
end Gx

set_option Elab.async false
set_option linter.all false
set_option maxRecDepth 100000
set_option maxHeartbeats 4000000
namespace Gx
open PySem PySem.Spec PyProof.Rows L2

/-! ### built-in functions -/
abbrev Lks (K : PySem.W.Frag) (μ : List Addr) (H : Hp) : List D → List V → Prop := Paired (Lk K μ H)
def tVL (K : PySem.W.Frag) (m : Mem) (xs : List D) (rv : Rv) : List V → Hp → VK → Prop := fun us H Q => ∃ μ, Hr K μ H m ∧ Lks K μ H xs us ∧ ∀ w H', Ex μ H μ H' → Hr K μ H' m → RvR K μ H' H rv w → Q w H'
def biVal : BI → Value
  | .len => .builtin "len" | .abs => .builtin "abs" | .int => .type "int" | .list => .type "list" | .tuple => .type "tuple" | .sum => .builtin "sum"
  | .max1 => .builtin "max" | .max2 => .builtin "max" | .min1 => .builtin "min" | .min2 => .builtin "min" | .any => .builtin "any" | .all => .builtin "all"
  | .count => .none
theorem intL_of {K : PySem.W.Frag} {μ : List Addr} {H : Hp} : ∀ {xs : List D} {us : List V} {ns : List Int}, Reps K μ H xs us → intL xs = some ns → us = ns.map V.int
  | [], _, _, .nil, e => by cases e; rfl
  | x :: xs, _, _, .cons r rs, e => by
    cases x with
    | int i =>
      cases r
      simp only [intL, Option.map_eq_some_iff] at e
      obtain ⟨ms, e1, e2⟩ := e
      subst e2
      rw [intL_of rs e1]
      rfl
    | _ => cases e
theorem boolL_of {K : PySem.W.Frag} {μ : List Addr} {H : Hp} : ∀ {xs : List D} {us : List V} {ns : List Bool}, Reps K μ H xs us → boolL xs = some ns → us = ns.map V.bl
  | [], _, _, .nil, e => by cases e; rfl
  | x :: xs, _, _, .cons r rs, e => by
    cases x with
    | bl i =>
      cases r
      simp only [boolL, Option.map_eq_some_iff] at e
      obtain ⟨ms, e1, e2⟩ := e
      subst e2
      rw [boolL_of rs e1]
      rfl
    | _ => cases e
theorem maxL_ge : ∀ (a : Int) (l : List Int), a ≤ maxL a l ∧ (∀ y ∈ l, y ≤ maxL a l) ∧ maxL a l ∈ a :: l
  | a, [] => ⟨Int.le_refl _, by simp, by simp [maxL]⟩
  | a, b :: r => by
    have h := maxL_ge (if b > a then b else a) r
    have e : maxL a (b :: r) = maxL (if b > a then b else a) r := rfl
    rw [e]
    obtain ⟨h1, h2, h3⟩ := h
    refine ⟨?_, fun y hy => ?_, ?_⟩
    · by_cases c : b > a
      · rw [if_pos c] at h1 ⊢; omega
      · rw [if_neg c] at h1 ⊢; exact h1
    · rcases List.mem_cons.mp hy with rfl | hy
      · by_cases c : y > a
        · rw [if_pos c] at h1 ⊢; exact h1
        · rw [if_neg c] at h1 ⊢; omega
      · exact h2 y hy
    · rcases List.mem_cons.mp h3 with z | z
      · rw [z]
        by_cases c : b > a
        · rw [if_pos c]; simp
        · rw [if_neg c]; simp
      · exact List.mem_cons_of_mem _ (List.mem_cons_of_mem _ z)
theorem minL_le : ∀ (a : Int) (l : List Int), minL a l ≤ a ∧ (∀ y ∈ l, minL a l ≤ y) ∧ minL a l ∈ a :: l
  | a, [] => ⟨Int.le_refl _, by simp, by simp [minL]⟩
  | a, b :: r => by
    have h := minL_le (if b < a then b else a) r
    have e : minL a (b :: r) = minL (if b < a then b else a) r := rfl
    rw [e]
    obtain ⟨h1, h2, h3⟩ := h
    refine ⟨?_, fun y hy => ?_, ?_⟩
    · by_cases c : b < a
      · rw [if_pos c] at h1 ⊢; omega
      · rw [if_neg c] at h1 ⊢; exact h1
    · rcases List.mem_cons.mp hy with rfl | hy
      · by_cases c : y < a
        · rw [if_pos c] at h1 ⊢; exact h1
        · rw [if_neg c] at h1 ⊢; omega
      · exact h2 y hy
    · rcases List.mem_cons.mp h3 with z | z
      · rw [z]
        by_cases c : b < a
        · rw [if_pos c]; simp
        · rw [if_neg c]; simp
      · exact List.mem_cons_of_mem _ (List.mem_cons_of_mem _ z)
theorem bi_ok {X : Cx} (hc : X.calm = true) {m : Mem} {b : BI} {xs : List D} {rv : Rv} (hn : b ≠ .count) (hb : biV b xs = some rv) : CallR X (biVal b) (tVL X.K m xs rv) := by
  intro pins s σ H us us' Q I ru h
  obtain ⟨μ, hr, lx, q⟩ := h
  have go : ∀ {r : List V → Hp → VK → Prop}, CallR X (biVal b) r → r us H Q → wpAny (model X.prog X.w) X.A (call (biVal b) us') (EP X pins σ Q) X.xe s := fun ho hq => ho pins s σ H us us' Q I ru hq
  have scl : ∀ (d : D) (w : V), Rep X.K μ H d w → rv = .d d → Q w H := fun d w r e => by
    subst e
    exact q w H (.refl μ H) hr r
  unfold biV at hb
  split at hb
  · cases hb
    cases lx with
    | cons l1 l2 =>
      cases l2
      cases l1 with
      | tup hs r => exact go call_len ⟨_, _, rfl, .inr ⟨_, hs, rfl⟩, by rw [← r.length]; exact scl _ _ (.int _) rfl⟩
  · cases hb
    cases lx with
    | cons l1 l2 =>
      cases l2
      obtain ⟨a, ws, rfl, hs, r⟩ := l1
      exact go call_len ⟨_, _, rfl, .inl ⟨_, hs, rfl⟩, by rw [← r.length]; exact scl _ _ (.int _) rfl⟩
  · rename_i n
    split at hb
    · rename_i hl
      cases hb
      cases lx with
      | cons l1 l2 =>
        cases l2
        cases l1
        exact go call_len ⟨_, _, rfl, ⟨by rw [toStr_len]; exact okLen_le hl, rfl⟩, by rw [toStr_len]; exact scl _ _ (.int _) rfl⟩
    · cases hb
  · cases hb
    cases lx with
    | cons l1 l2 =>
      cases l2
      cases l1
      exact go call_abs ⟨_, rfl, scl _ _ (.int _) rfl⟩
  · cases hb
    cases lx with
    | cons l1 l2 =>
      cases l2
      cases l1
      exact go call_int1 (.inl ⟨_, rfl, scl _ _ (.int _) rfl⟩)
  · cases hb
    cases lx with
    | cons l1 l2 =>
      cases l2
      cases l1
      exact go call_int1 (.inr ⟨_, rfl, scl _ _ (.int _) rfl⟩)
  · cases hb
    cases lx with
    | cons l1 l2 =>
      cases l2
      cases l1 with
      | tup hs r => exact go call_list_of ⟨_, _, rfl, .inr hs, fun p hp => q _ _ (.laid hp) (hr.laid hp) (own_new hr hp r)⟩
  · cases hb
    cases lx with
    | cons l1 l2 =>
      cases l2
      obtain ⟨a, ws, rfl, hs, r⟩ := l1
      exact go call_list_of ⟨_, _, rfl, .inl hs, fun p hp => q _ _ (.laid hp) (hr.laid hp) (own_new hr hp r)⟩
  · cases hb
    cases lx with
    | cons l1 l2 =>
      cases l2
      cases l1 with
      | tup hs r => exact go call_tuple_of ⟨_, _, rfl, .inr ⟨hs, scl _ _ (.tup hs r) rfl⟩⟩
  · cases hb
    cases lx with
    | cons l1 l2 =>
      cases l2
      obtain ⟨a, ws, rfl, hs, r⟩ := l1
      exact go call_tuple_of ⟨_, _, rfl, .inl ⟨hs, fun p hp => q _ _ (.laid hp) (hr.laid hp) (tup_new hp r)⟩⟩
  · rename_i ys
    rw [Option.map_eq_some_iff] at hb
    obtain ⟨ns, e1, e2⟩ := hb
    cases lx with
    | cons l1 l2 =>
      cases l2
      obtain ⟨a, ws, rfl, hs, r⟩ := l1
      have e := intL_of r e1
      subst e
      exact go (cr_sum hc) ⟨_, _, rfl, hs, scl _ _ (.int _) e2.symm⟩
  · rename_i ys
    split at hb
    · rename_i n ns e1
      cases hb
      cases lx with
      | cons l1 l2 =>
        cases l2
        obtain ⟨a, ws, rfl, hs, r⟩ := l1
        have e := intL_of r e1
        subst e
        refine go (cr_max hc) ⟨_, _, rfl, hs, by simp, fun k hk hle => ?_⟩
        obtain ⟨h1, h2, h3⟩ := maxL_ge n ns
        have e : k = maxL n ns := by
          have a1 := hle _ h3
          rcases List.mem_cons.mp hk with z | z
          · omega
          · have := h2 k z; omega
        rw [e]
        exact scl _ _ (.int _) rfl
    · cases hb
  · rename_i ys
    split at hb
    · rename_i n ns e1
      cases hb
      cases lx with
      | cons l1 l2 =>
        cases l2
        obtain ⟨a, ws, rfl, hs, r⟩ := l1
        have e := intL_of r e1
        subst e
        refine go (cr_min hc) ⟨_, _, rfl, hs, by simp, fun k hk hle => ?_⟩
        obtain ⟨h1, h2, h3⟩ := minL_le n ns
        have e : k = minL n ns := by
          have a1 := hle _ h3
          rcases List.mem_cons.mp hk with z | z
          · omega
          · have := h2 k z; omega
        rw [e]
        exact scl _ _ (.int _) rfl
    · cases hb
  · cases hb
    cases lx with
    | cons l1 l2 =>
      cases l2 with
      | cons l2 l3 =>
        cases l3
        cases l1; cases l2
        exact go (call_max2 hc) ⟨_, _, rfl, scl _ _ (.int _) rfl⟩
  · cases hb
    cases lx with
    | cons l1 l2 =>
      cases l2 with
      | cons l2 l3 =>
        cases l3
        cases l1; cases l2
        exact go (call_min2 hc) ⟨_, _, rfl, scl _ _ (.int _) rfl⟩
  · rename_i ys
    rw [Option.map_eq_some_iff] at hb
    obtain ⟨ns, e1, e2⟩ := hb
    cases lx with
    | cons l1 l2 =>
      cases l2
      obtain ⟨a, ws, rfl, hs, r⟩ := l1
      have e := boolL_of r e1
      subst e
      exact go (cr_any hc) ⟨_, _, rfl, hs, scl _ _ (.bl _) e2.symm⟩
  · rename_i ys
    rw [Option.map_eq_some_iff] at hb
    obtain ⟨ns, e1, e2⟩ := hb
    cases lx with
    | cons l1 l2 =>
      cases l2
      obtain ⟨a, ws, rfl, hs, r⟩ := l1
      have e := boolL_of r e1
      subst e
      exact go (cr_all hc) ⟨_, _, rfl, hs, scl _ _ (.bl _) e2.symm⟩
  · exact absurd rfl hn
  · cases hb

/-! ### isinstance -/
def tnStr : TyN → String
  | .int => "int" | .bool => "bool" | .str => "str" | .tuple => "tuple" | .list => "list"
def dTy : D → Option String
  | .non => some "NoneType" | .bl _ => some "bool" | .int _ => some "int" | .str _ => some "str" | .tup _ => some "tuple" | .lst _ => some "list"
  | _ => none
theorem isTy_kit {K : PySem.W.Frag} {x : D} {t : TyN} {b : Bool} (h : isTy x t = some b) : ∃ a, dTy x = some a ∧ PySem.W.kitOne K (.type a) (.type (tnStr t)) = some b := by
  cases x <;> cases t <;> first
    | (cases h; done)
    | (cases h; exact ⟨_, rfl, kit_ty (by decide +kernel)⟩)
theorem isTys_kit {K : PySem.W.Frag} {x : D} : ∀ {ts : List TyN} {b : Bool} {a : String}, isTys x ts = some b → dTy x = some a → PySem.W.kitAny K (.type a) (ts.map fun t => .type (tnStr t)) = some b
  | [], b, a, h, _ => by cases h; exact kitAny_nil
  | t :: ts, b, a, h, ha => by
    simp only [isTys] at h
    cases e : isTy x t with
    | none => rw [e] at h; cases h
    | some c =>
      rw [e] at h
      obtain ⟨a', h1, h2⟩ := isTy_kit (K := K) e
      rw [ha] at h1
      cases h1
      have h : (if c = true then some true else isTys x ts) = some b := h
      refine kitAny_cons h2 (fun z => ?_) (fun z => ?_)
      · subst z
        exact isTys_kit (by simpa using h) ha
      · subst z
        simpa using h.symm
theorem isTys_dTy {x : D} : ∀ {ts : List TyN} {b : Bool}, ts ≠ [] → isTys x ts = some b → ∃ a, dTy x = some a
  | [], _, h, _ => absurd rfl h
  | t :: ts, b, _, h => by
    simp only [isTys] at h
    cases e : isTy x t with
    | none => rw [e] at h; cases h
    | some c =>
      obtain ⟨a, h1, _⟩ := isTy_kit (K := default) e
      exact ⟨a, h1⟩
theorem Lk.ty {K : PySem.W.Frag} {μ : List Addr} {H : Hp} {x : D} {v : V} {a : String} (h : Lk K μ H x v) (e : dTy x = some a) : TyX K H v (.type a) := by
  cases x with
  | non => cases e; cases h; exact .base .non
  | bl b => cases e; cases h; exact .base (.bl b)
  | int i => cases e; cases h; exact .base (.int i)
  | str n => cases e; cases h; exact .base (.str _)
  | tup xs =>
    cases e
    cases h with
    | tup hs r =>
      rcases hs with (h | ⟨o, h⟩) | ⟨o, its, n, hk, hcl, _⟩
      · exact .base (.tup h)
      · exact .fTuple h
      · exact .kTuple hk hcl
  | lst xs =>
    cases e
    obtain ⟨a, us, rfl, hs, r⟩ := h
    rcases hs with (h | ⟨o, h⟩) | ⟨o, its, n, hk, hcl, _⟩
    · exact .base (.lst h)
    · exact .base (.frz h)
    · exact .kList hk hcl
  | _ => cases e
/-- list.count, items of any depth -/
theorem count_ok {X : Cx} (hu : X.A.units + 64 < cLine) {m : Mem} {ys : List D} {x : D} (ok : eqOks x ys = true) :
    MtR X "list.count" (fun u us H Q => ∃ μ, Hr X.K μ H m ∧ Lk X.K μ H (.lst ys) u ∧ (∃ v, us = [v] ∧ Lk X.K μ H x v) ∧ Q (.int (ys.countP fun z => eqD z x)) H) := by
  intro pins s σ H u us u' us' Q I ru rv h
  obtain ⟨μ, hr, ⟨a, ws, rfl, hs, r⟩, ⟨v, rfl, lx⟩, q⟩ := h
  unfold eqOks at ok
  rw [Bool.and_eq_true] at ok
  cases ru
  obtain ⟨u2, rfl, rv2⟩ := vals1 rv
  obtain ⟨its, rr, ⟨⟨c1, d1, t1, o1⟩, n, e, kc, kd, kt⟩, z⟩ := I.list hs
  simp only at kc kd kt
  subst kc kd kt
  obtain ⟨f, h1, h2⟩ := items_eq I (A := X.A) (by omega) ok.1 lx rv2 ok.2 r rr
  refine call_meets PySem.F.slot_list_count ⟨_, e, rfl⟩ PySem.F.entry_list_count (PySem.F.args_list_count_2 _ _) (SeqAt.list_countAt a its.toArray n none o1 u2 f) ⟨e, fun w hw => h1 w (by simpa using hw), ?_⟩
  have e1 : its.toArray.toList.countP f = ys.countP fun z => eqD z x := by
    have : its.toArray.toList = its := by simp
    rw [this]
    exact countP_map h2
  rw [e1]
  exact ⟨.int _, H, I.tok _, ⟨_, rfl⟩, q⟩
end Gx

set_option Elab.async false
set_option linter.all false
set_option maxRecDepth 100000
set_option maxHeartbeats 4000000
namespace Gx
open PySem PySem.Spec PyProof.Rows L2

/-! ### the judgements: what the model's run gives is what the evaluator gives -/
theorem bind_ok {α β : Type} {r : Rs α} {f : α → Mem → Rs β} {b : β} {m' : Mem} (h : r.bind f = .ok b m') : ∃ a m1, r = .ok a m1 ∧ f a m1 = .ok b m' := by
  cases r with
  | ok a m1 => exact ⟨a, m1, rfl, h⟩
  | ex c as m => cases h
  | no => cases h
theorem of_ok {α : Type} {o : Option α} {m m' : Mem} {b : α} (h : Rs.of o m = .ok b m') : o = some b ∧ m = m' := by
  cases o with
  | none => cases h
  | some a => cases h; exact ⟨rfl, rfl⟩
theorem ok_inj {α : Type} {a b : α} {m m' : Mem} (h : Rs.ok a m = .ok b m') : a = b ∧ m = m' := by cases h; exact ⟨rfl, rfl⟩

section
variable (K : PySem.W.Frag) (cl : Cl) (gl : Gl) (H0 : Hp)
def tE (c : CE) (env : Env) (m : Mem) : TE := fun σ H Q => ∃ μ, Er K μ H H0 env σ ∧ Hr K μ H m ∧ ∃ rv m', evE cl gl c env m = .ok rv m' ∧ ∀ v H' μ', Ex μ H μ' H' → Hr K μ' H' m' → RvR K μ' H' H rv v → Q v H'
/-- .. and the value is kept -/
def tEz (c : CE) (env : Env) (m : Mem) : TE := fun σ H Q => ∃ μ, Er K μ H H0 env σ ∧ Hr K μ H m ∧ ∃ rv x m', evE cl gl c env m = .ok rv m' ∧ rv.frz = some x ∧ ∀ v H' μ', Ex μ H μ' H' → Hr K μ' H' m' → Rep K μ' H' x v → Q v H'
def tAz (cs : CEs) (env : Env) (m : Mem) : TA := fun σ H Q => ∃ μ, Er K μ H H0 env σ ∧ Hr K μ H m ∧ ∃ xs m', evEs cl gl cs env m = .ok xs m' ∧ ∀ vs H' μ', Ex μ H μ' H' → Hr K μ' H' m' → Reps K μ' H' xs vs → Q vs H'
def tAl (cs : CEs) (env : Env) (m : Mem) : TA := fun σ H Q => ∃ μ, Er K μ H H0 env σ ∧ Hr K μ H m ∧ ∃ xs m', evLs cl gl cs env m = .ok xs m' ∧ ∀ vs H' μ', Ex μ H μ' H' → Hr K μ' H' m' → Lks K μ' H' xs vs → Q vs H'
def tT (c : CT) (env : Env) (m : Mem) : TT := fun σ H Q => ∃ μ, Er K μ H H0 env σ ∧ Hr K μ H m ∧ ∃ b m', evT cl gl c env m = .ok b m' ∧ ∀ H' μ', Ex μ H μ' H' → Hr K μ' H' m' → Q b H'
end
section
variable (cl : Cl) (gl : Gl)
def SE (X : Cx) (e : Expr) (c : CE) : Prop := ∀ H0 env m, PE X e (tE X.K cl gl H0 c env m)
def ST (X : Cx) (e : Expr) (c : CT) : Prop := ∀ H0 env m, PT X e (tT X.K cl gl H0 c env m)
def SW (X : Cx) (e : Expr) (c : CT) : Prop := ∀ H0 env m, PW X e (tT X.K cl gl H0 c env m)
def SA (X : Cx) (es : List Expr) (cs : CEs) : Prop := ∀ H0 env m, PA X es (tAz X.K cl gl H0 cs env m)
def SL (X : Cx) (es : List Expr) (cs : CEs) : Prop := ∀ H0 env m, PA X es (tAl X.K cl gl H0 cs env m)
end

/-- a thing is never changed from here on -/
theorem Ex.freeze {K : PySem.W.Frag} {μ μ1 : List Addr} {H H1 : Hp} {m : Mem} {a : Addr} {us : List V} {o : Obj} (e : Ex μ H μ1 H1) (hr : Hr K μ1 H1 m) (h1 : H1 a = some (.lst us)) (h0 : H a = none) (n : a ∉ μ1) :
    Ex μ H μ1 (upd H1 a (.frz o (.lst us))) ∧ Fx μ1 H1 μ1 (upd H1 a (.frz o (.lst us))) ∧ Hr K μ1 (upd H1 a (.frz o (.lst us))) m := by
  have f : Fx μ1 H1 μ1 (upd H1 a (.frz o (.lst us))) := ⟨⟨[], by simp⟩, fun b xs q => by rw [upd_ne (fun z => by rw [z, h1] at q; cases q)]; exact q, fun b o' u q => by rw [upd_ne (fun z => by rw [z, h1] at q; cases q)]; exact q⟩
  refine ⟨⟨e.fx.trans f, fun b u q nb => ?_, e.new⟩, f, hr.keep f fun b us' hb q => ?_⟩
  · rw [upd_ne (ne_of_none q h0)]; exact e.keep b u q nb
  · rw [upd_ne (fun z => n (by rw [← z]; exact hb))]; exact q

section
variable {cl : Cl} {gl : Gl} {X : Cx}
theorem se_frz {e : Expr} {c : CE} (h : SE cl gl X e c) (H0 : Hp) (env : Env) (m : Mem) : PE X e (tEz X.K cl gl H0 c env m) := by
  refine ⟨fun pins s σ H Q I hw => ?_⟩
  obtain ⟨μ, er, hr, rv, x, m', ev, hf, q⟩ := hw
  refine thn ((h H0 env m).run pins s σ H (fun v H' => ∃ μ', Ex μ H μ' H' ∧ Hr X.K μ' H' m' ∧ RvR X.K μ' H' H rv v) I ⟨μ, er, hr, rv, m', ev, fun v H' μ' a b c => ⟨μ', a, b, c⟩⟩) fun u s1 ⟨v, H1, I1, r1, μ', ex, hr1, rr⟩ => ?_
  cases rv with
  | d y =>
    cases hf
    exact ⟨v, H1, I1, r1, q v H1 μ' ex hr1 rr⟩
  | own ob =>
    obtain ⟨a, rfl, ho, hn, h0⟩ := rr
    cases ob with
    | lst xs =>
      cases hf
      obtain ⟨us, h1, r⟩ := ho
      obtain ⟨od, I2⟩ := I1.lock h1 trivial
      obtain ⟨e1, f1, hr2⟩ := Ex.freeze (o := od) ex hr1 h1 h0 hn
      exact ⟨.ref a, _, I2, r1, q _ _ _ e1 hr2 (.lst (.inl ⟨od, upd_same⟩) (r.fx f1))⟩
    | _ => exact ho.elim
  | brw ob => cases hf
theorem SA.nil : SA cl gl X [] .nil := fun H0 env m => by
  refine ⟨fun pos pins s σ H Q I hw => ?_⟩
  obtain ⟨μ, er, hr, xs, m', ev, q⟩ := hw
  cases ev
  exact pa_nil.run pos pins s σ H Q I (q [] H μ (.refl μ H) hr .nil)
def noStar : Expr → Bool
  | .Starred .. => false
  | _ => true
theorem starEach_cons {e : Expr} {es : List Expr} {env : PySem.Env} (h : noStar e = true) : starEach (e :: es) env = (false, eval e env) :: starEach es env := by
  cases e <;> first | rfl | cases h
theorem starEach_plain {env : PySem.Env} {pos : Pos} : ∀ {es : List Expr}, es.all noStar = true → (backTo pos (starEach es env)).any (·.1) = false
  | [], _ => rfl
  | e :: es, h => by
    rw [List.all_cons, Bool.and_eq_true] at h
    rw [starEach_cons h.1]
    have ih := starEach_plain (env := env) (pos := pos) h.2
    unfold backTo at ih ⊢
    simp only [List.map_cons, List.any_cons] at ih ⊢
    rw [ih]
    rfl
theorem SA.cons {e : Expr} {es : List Expr} {c : CE} {cs : CEs} (hn : noStar e = true) (h : SE cl gl X e c) (hs : SA cl gl X es cs) : SA cl gl X (e :: es) (.cons c cs) := fun H0 env m => by
  refine ⟨fun pos pins s σ H Q I hw => ?_⟩
  obtain ⟨μ, er, hr, xs, m', ev, q⟩ := hw
  simp only [evEs] at ev
  obtain ⟨x, m1, e1, ev⟩ := bind_ok ev
  split at ev
  · rename_i y hy
    obtain ⟨ys, m2, e2, ev⟩ := bind_ok ev
    obtain ⟨rfl, rfl⟩ := ok_inj ev
    refine (pa_cons (se_frz h H0 env m) (hs H0 env m1) (starEach_cons hn)).run pos pins s σ H Q I ?_
    refine ⟨μ, er, hr, x, y, m1, e1, hy, fun v H1 μ1 ex1 hr1 r1 => ⟨μ1, er.ex ex1, hr1, ys, m2, e2, fun vs H2 μ2 ex2 hr2 r2 => ?_⟩⟩
    exact q _ _ _ (ex1.trans ex2) hr2 (.cons (r1.fx ex2.fx) r2)
  · cases ev
theorem SL.nil : SL cl gl X [] .nil := fun H0 env m => by
  refine ⟨fun pos pins s σ H Q I hw => ?_⟩
  obtain ⟨μ, er, hr, xs, m', ev, q⟩ := hw
  cases ev
  exact pa_nil.run pos pins s σ H Q I (q [] H μ (.refl μ H) hr .nil)
theorem SL.cons {e : Expr} {es : List Expr} {c : CE} {cs : CEs} (hn : noStar e = true) (h : SE cl gl X e c) (hs : SL cl gl X es cs) : SL cl gl X (e :: es) (.cons c cs) := fun H0 env m => by
  refine ⟨fun pos pins s σ H Q I hw => ?_⟩
  obtain ⟨μ, er, hr, xs, m', ev, q⟩ := hw
  simp only [evLs] at ev
  obtain ⟨x, m1, e1, ev⟩ := bind_ok ev
  obtain ⟨ys, m2, e2, ev⟩ := bind_ok ev
  obtain ⟨rfl, rfl⟩ := ok_inj ev
  refine (pa_cons (h H0 env m) (hs H0 env m1) (starEach_cons hn)).run pos pins s σ H Q I ?_
  refine ⟨μ, er, hr, x, m1, e1, fun v H1 μ1 ex1 hr1 r1 => ⟨μ1, er.ex ex1, hr1, ys, m2, e2, fun vs H2 μ2 ex2 hr2 r2 => ?_⟩⟩
  exact q _ _ _ (ex1.trans ex2) hr2 (.cons (r1.ex ex2).lk r2)

/-! ### expressions -/
theorem se_var {i : Nat} {x : Str} {pos : Pos} (hN : X.N[i]? = some x) (hv : Vis X.env.scope x) (hd : (x == ("__debug__" : Str)) = false) (hcd : (x == ("__classdict__" : Str)) = false) : SE cl gl X (.Name x pos) (.var i) := fun H0 env m => by
  refine ⟨fun pins s σ H Q I hw => ?_⟩
  obtain ⟨μ, er, hr, rv, m', ev, q⟩ := hw
  simp only [evE] at ev
  split at ev
  · rename_i y hy
    obtain ⟨rfl, rfl⟩ := ok_inj ev
    obtain ⟨v, h1, h2, _⟩ := er.val i _ hy
    exact (pe_var hN hv hd hcd).run pins s σ H Q I ⟨v, h1, q v H μ (.refl μ H) hr h2⟩
  · rename_i y hy
    obtain ⟨rfl, rfl⟩ := ok_inj ev
    obtain ⟨v, h1, h2, _⟩ := er.val i _ hy
    obtain ⟨a, rfl, ho, hn, _⟩ := h2
    exact (pe_var hN hv hd hcd).run pins s σ H Q I ⟨_, h1, q _ H μ (.refl μ H) hr ⟨a, rfl, ho, hn⟩⟩
  · cases ev
theorem se_con {e : Expr} {d : D} {v : V} (h : PE X e (tC v)) (r : ∀ μ H, Rep X.K μ H d v) : SE cl gl X e (.con d) := fun H0 env m => by
  refine ⟨fun pins s σ H Q I hw => ?_⟩
  obtain ⟨μ, er, hr, rv, m', ev, q⟩ := hw
  simp only [evE] at ev
  obtain ⟨rfl, rfl⟩ := ok_inj ev
  exact h.run pins s σ H Q I (q v H μ (.refl μ H) hr (r μ H))
theorem se_glb {e : Expr} {i : Nat} {d : D} {v : V} (hi : gl[i]? = some d) (h : PE X e (tC v)) (r : ∀ μ H, Rep X.K μ H d v) : SE cl gl X e (.glb i) := fun H0 env m => by
  refine ⟨fun pins s σ H Q I hw => ?_⟩
  obtain ⟨μ, er, hr, rv, m', ev, q⟩ := hw
  simp only [evE, hi] at ev
  obtain ⟨rfl, rfl⟩ := ok_inj ev
  exact h.run pins s σ H Q I (q v H μ (.refl μ H) hr (r μ H))
/-- two operands, then a rule on their values -/
theorem fin2 {μ μ1 μ2 : List Addr} {H H1 H2 : Hp} {K : PySem.W.Frag} {x y rv : Rv} {v u : V} {m2 : Mem} {Q : VK} (ex1 : Ex μ H μ1 H1) (ex2 : Ex μ1 H1 μ2 H2) (hr2 : Hr K μ2 H2 m2) (r1 : RvR K μ1 H1 H x v) (r2 : RvR K μ2 H2 H1 y u)
    (q : ∀ v H' μ', Ex μ H μ' H' → Hr K μ' H' m2 → RvR K μ' H' H rv v → Q v H') : tV2 K m2 x.look y.look rv v u H2 Q :=
  ⟨μ2, hr2, (r1.ex ex2).lk, r2.lk, fun w H3 ex3 hr3 r3 => q w H3 μ2 ((ex1.trans ex2).trans ex3) hr3 (r3.since (ex1.trans ex2) fun a ha => (ex1.trans ex2).fx.mem ha)⟩
theorem se_bin {a b : Expr} {op : BO} {ca cb : CE} {pos : Pos} (ha : SE cl gl X a ca) (hb : SE cl gl X b cb) : SE cl gl X (.BinOp a (boPy op) b pos) (.bin op ca cb) := fun H0 env m => by
  refine ⟨fun pins s σ H Q I hw => ?_⟩
  obtain ⟨μ, er, hr, rv, m', ev, q⟩ := hw
  simp only [evE] at ev
  obtain ⟨x, m1, e1, ev⟩ := bind_ok ev
  obtain ⟨y, m2, e2, ev⟩ := bind_ok ev
  obtain ⟨e3, rfl⟩ := of_ok ev
  refine (pe_op (bin_ok (m := m2) e3) (ha H0 env m) (hb H0 env m1)).run pins s σ H Q I ?_
  exact ⟨μ, er, hr, x, m1, e1, fun v H1 μ1 ex1 hr1 r1 => ⟨μ1, er.ex ex1, hr1, y, m2, e2, fun u H2 μ2 ex2 hr2 r2 => fin2 ex1 ex2 hr2 r1 r2 q⟩⟩
theorem se_neg {a : Expr} {ca : CE} {pos : Pos} (ha : SE cl gl X a ca) : SE cl gl X (.UnaryOp .USub a pos) (.neg ca) := fun H0 env m => by
  refine ⟨fun pins s σ H Q I hw => ?_⟩
  obtain ⟨μ, er, hr, rv, m', ev, q⟩ := hw
  simp only [evE] at ev
  obtain ⟨x, m1, e1, ev⟩ := bind_ok ev
  split at ev
  · obtain ⟨rfl, rfl⟩ := ok_inj ev
    refine (pe_un un_neg (ha H0 env m)).run pins s σ H Q I ?_
    refine ⟨μ, er, hr, _, m1, e1, fun v H1 μ1 ex1 hr1 r1 => ?_⟩
    cases r1
    exact ⟨_, rfl, q _ _ _ ex1 hr1 (.int _)⟩
  · cases ev
theorem se_not {a : Expr} {ca : CE} {pos : Pos} (ha : SE cl gl X a ca) : SE cl gl X (.UnaryOp .Not a pos) (.notE ca) := fun H0 env m => by
  refine ⟨fun pins s σ H Q I hw => ?_⟩
  obtain ⟨μ, er, hr, rv, m', ev, q⟩ := hw
  simp only [evE] at ev
  obtain ⟨x, m1, e1, ev⟩ := bind_ok ev
  split at ev
  · obtain ⟨rfl, rfl⟩ := ok_inj ev
    refine (pe_not (ha H0 env m)).run pins s σ H Q I ?_
    refine ⟨μ, er, hr, _, m1, e1, fun v H1 μ1 ex1 hr1 r1 => ?_⟩
    cases r1
    exact ⟨_, rfl, q _ _ _ ex1 hr1 (.bl _)⟩
  · cases ev
theorem se_and {a b : Expr} {rest : List Expr} {ca cb : CE} {pos : Pos} (ha : SE cl gl X a ca) (hb : SE cl gl X (.BoolOp .And (b :: rest) pos) cb) : SE cl gl X (.BoolOp .And (a :: b :: rest) pos) (.andE ca cb) := fun H0 env m => by
  refine ⟨fun pins s σ H Q I hw => ?_⟩
  obtain ⟨μ, er, hr, rv, m', ev, q⟩ := hw
  simp only [evE] at ev
  obtain ⟨x, m1, e1, ev⟩ := bind_ok ev
  refine (pe_and (ha H0 env m) (hb H0 env m1)).run pins s σ H Q I ?_
  refine ⟨μ, er, hr, _, m1, e1, fun v H1 μ1 ex1 hr1 r1 => ?_⟩
  split at ev
  · cases r1
    refine ⟨_, rfl, ?_⟩
    rw [if_pos rfl]
    exact ⟨μ1, er.ex ex1, hr1, rv, m', ev, fun v H' μ' ex2 hr2 r2 => q v H' μ' (ex1.trans ex2) hr2 (r2.since ex1 fun a ha => (ex1.trans ex2).fx.mem ha)⟩
  · obtain ⟨rfl, rfl⟩ := ok_inj ev
    cases r1
    refine ⟨_, rfl, ?_⟩
    rw [if_neg Bool.false_ne_true]
    exact q _ _ _ ex1 hr1 (.bl _)
  · cases ev
theorem se_or {a b : Expr} {rest : List Expr} {ca cb : CE} {pos : Pos} (ha : SE cl gl X a ca) (hb : SE cl gl X (.BoolOp .Or (b :: rest) pos) cb) : SE cl gl X (.BoolOp .Or (a :: b :: rest) pos) (.orE ca cb) := fun H0 env m => by
  refine ⟨fun pins s σ H Q I hw => ?_⟩
  obtain ⟨μ, er, hr, rv, m', ev, q⟩ := hw
  simp only [evE] at ev
  obtain ⟨x, m1, e1, ev⟩ := bind_ok ev
  refine (pe_or (ha H0 env m) (hb H0 env m1)).run pins s σ H Q I ?_
  refine ⟨μ, er, hr, _, m1, e1, fun v H1 μ1 ex1 hr1 r1 => ?_⟩
  split at ev
  · obtain ⟨rfl, rfl⟩ := ok_inj ev
    cases r1
    refine ⟨_, rfl, ?_⟩
    rw [if_pos rfl]
    exact q _ _ _ ex1 hr1 (.bl _)
  · cases r1
    refine ⟨_, rfl, ?_⟩
    rw [if_neg Bool.false_ne_true]
    exact ⟨μ1, er.ex ex1, hr1, rv, m', ev, fun v H' μ' ex2 hr2 r2 => q v H' μ' (ex1.trans ex2) hr2 (r2.since ex1 fun a ha => (ex1.trans ex2).fx.mem ha)⟩
  · cases ev
theorem se_one {op : BoolOp} {a : Expr} {ca : CE} {pos : Pos} (ha : SE cl gl X a ca) : SE cl gl X (.BoolOp op [a] pos) ca := fun H0 env m => pe_one (ha H0 env m)
theorem OpR.never (f : Value → Value → Sem Value) : OpR X f (fun _ _ _ _ => False) := fun _ _ _ _ _ _ _ _ _ _ _ _ h => h.elim
theorem se_cmp {a b : Expr} {op : CO} {ca cb : CE} {pos : Pos} (hu : X.A.units + 64 < cLine) (ha : SE cl gl X a ca) (hb : SE cl gl X b cb) (hm : behindInMarks (coPy op) b = false) :
    SE cl gl X (.Compare a [coPy op] [b] pos) (.cmp op ca cb) ∧ ST cl gl X (.Compare a [coPy op] [b] pos) (.tru (.cmp op ca cb)) := by
  refine ⟨fun H0 env m => ⟨fun pins s σ H Q I hw => ?_⟩, fun H0 env m => ⟨fun pins s σ H Q I hw => ?_⟩⟩
  · obtain ⟨μ, er, hr, rv, m', ev, q⟩ := hw
    simp only [evE] at ev
    obtain ⟨x, m1, e1, ev⟩ := bind_ok ev
    obtain ⟨y, m2, e2, ev⟩ := bind_ok ev
    obtain ⟨e3, rfl⟩ := of_ok ev
    rw [Option.map_eq_some_iff] at e3
    obtain ⟨k, e3, rfl⟩ := e3
    refine (pe_cmpR (cmp_ok hu (m := m2) e3) (ha H0 env m) (hb H0 env m1) hm).run pins s σ H Q I ?_
    exact ⟨μ, er, hr, x, m1, e1, fun v H1 μ1 ex1 hr1 r1 => ⟨μ1, er.ex ex1, hr1, y, m2, e2, fun u H2 μ2 ex2 hr2 r2 => ⟨μ2, hr2, (r1.ex ex2).lk, r2.lk, q _ _ _ (ex1.trans ex2) hr2 (.bl k)⟩⟩⟩
  · obtain ⟨μ, er, hr, b', m', ev, q⟩ := hw
    simp only [evT, evE] at ev
    obtain ⟨z, m2', ev, ev2⟩ := bind_ok ev
    obtain ⟨x, m1, e1, ev⟩ := bind_ok ev
    obtain ⟨y, m2, e2, ev⟩ := bind_ok ev
    obtain ⟨e3, rfl⟩ := of_ok ev
    rw [Option.map_eq_some_iff] at e3
    obtain ⟨k, e3, rfl⟩ := e3
    obtain ⟨e4, rfl⟩ := of_ok ev2
    cases e4
    refine (pt_cmpR (cmp_ok hu (m := m2) e3) (ha H0 env m) (hb H0 env m1) hm).run pins s σ H Q I ?_
    exact ⟨μ, er, hr, x, m1, e1, fun v H1 μ1 ex1 hr1 r1 => ⟨μ1, er.ex ex1, hr1, y, m2, e2, fun u H2 μ2 ex2 hr2 r2 => ⟨μ2, hr2, (r1.ex ex2).lk, r2.lk, _, rfl, q _ _ (ex1.trans ex2) hr2⟩⟩⟩
theorem se_chn {a b c : Expr} {op op' : CO} {ca cb cc : CE} {pos : Pos} (hu : X.A.units + 64 < cLine) (ha : SE cl gl X a ca) (hb : SE cl gl X b cb) (hc : SE cl gl X c cc) (hm : lastMarks [coPy op, coPy op'] [b, c] = false) :
    SE cl gl X (.Compare a [coPy op, coPy op'] [b, c] pos) (.chn op op' ca cb cc) ∧ ST cl gl X (.Compare a [coPy op, coPy op'] [b, c] pos) (.tru (.chn op op' ca cb cc)) := by
  have core : ∀ (H0 : Hp) (env : Env) (m : Mem) (rv : Rv) (m' : Mem), evE cl gl (.chn op op' ca cb cc) env m = .ok rv m' → ∃ k k0 m1 m2 x y, rv = .d (.bl k) ∧ evE cl gl ca env m = .ok x m1 ∧ evE cl gl cb env m1 = .ok y m2 ∧ cmpV op x.look y.look = some k0 ∧
      ((k0 = true ∧ ∃ z, evE cl gl cc env m2 = .ok z m' ∧ cmpV op' y.look z.look = some k) ∨ (k0 = false ∧ k = false ∧ m' = m2)) := by
    intro H0 env m rv m' ev
    simp only [evE] at ev
    obtain ⟨x, m1, e1, ev⟩ := bind_ok ev
    obtain ⟨y, m2, e2, ev⟩ := bind_ok ev
    split at ev
    · rename_i h3
      obtain ⟨z, m3, e3, ev⟩ := bind_ok ev
      obtain ⟨e4, rfl⟩ := of_ok ev
      rw [Option.map_eq_some_iff] at e4
      obtain ⟨k, e4, rfl⟩ := e4
      exact ⟨k, true, m1, m2, x, y, rfl, e1, e2, h3, .inl ⟨rfl, z, e3, e4⟩⟩
    · rename_i h3
      obtain ⟨rfl, rfl⟩ := ok_inj ev
      exact ⟨false, false, m1, m2, x, y, rfl, e1, e2, h3, .inr ⟨rfl, rfl, rfl⟩⟩
    · cases ev
  refine ⟨fun H0 env m => ⟨fun pins s σ H Q I hw => ?_⟩, fun H0 env m => ⟨fun pins s σ H Q I hw => ?_⟩⟩
  · obtain ⟨μ, er, hr, rv, m', ev, q⟩ := hw
    obtain ⟨k, k0, m1, m2, x, y, rfl, e1, e2, e3, hk⟩ := core H0 env m rv m' ev
    rcases hk with ⟨rfl, z, e4, e5⟩ | ⟨rfl, rfl, rfl⟩
    · refine (pe_chain (cmp_ok hu (m := m2) e3) (cmp_ok hu (m := m') e5) (ha H0 env m) (hb H0 env m1) (hc H0 env m2) hm).run pins s σ H Q I ?_
      refine ⟨μ, er, hr, x, m1, e1, fun v H1 μ1 ex1 hr1 r1 => ⟨μ1, er.ex ex1, hr1, y, m2, e2, fun u H2 μ2 ex2 hr2 r2 => ⟨μ2, hr2, (r1.ex ex2).lk, r2.lk, true, rfl, ?_⟩⟩⟩
      rw [if_pos rfl]
      exact ⟨μ2, er.ex (ex1.trans ex2), hr2, z, m', e4, fun w H3 μ3 ex3 hr3 r3 => ⟨μ3, hr3, (r2.ex ex3).lk, r3.lk, q _ _ _ ((ex1.trans ex2).trans ex3) hr3 (.bl k)⟩⟩
    · refine (pe_chain (cmp_ok hu (m := m') e3) (OpR.never _) (ha H0 env m) (hb H0 env m1) (hc H0 env m') hm).run pins s σ H Q I ?_
      refine ⟨μ, er, hr, x, m1, e1, fun v H1 μ1 ex1 hr1 r1 => ⟨μ1, er.ex ex1, hr1, y, m', e2, fun u H2 μ2 ex2 hr2 r2 => ⟨μ2, hr2, (r1.ex ex2).lk, r2.lk, false, rfl, ?_⟩⟩⟩
      rw [if_neg Bool.false_ne_true]
      exact q _ _ _ (ex1.trans ex2) hr2 (.bl _)
  · obtain ⟨μ, er, hr, b', m', ev, q⟩ := hw
    simp only [evT] at ev
    obtain ⟨z0, m2', ev, ev2⟩ := bind_ok ev
    obtain ⟨k, k0, m1, m2, x, y, rfl, e1, e2, e3, hk⟩ := core H0 env m z0 m2' ev
    obtain ⟨e4, rfl⟩ := of_ok ev2
    cases e4
    rcases hk with ⟨rfl, z, e4, e5⟩ | ⟨rfl, rfl, rfl⟩
    · refine (pt_chain (cmp_ok hu (m := m2) e3) (cmp_ok hu (m := m2') e5) (ha H0 env m) (hb H0 env m1) (hc H0 env m2) hm).run pins s σ H Q I ?_
      refine ⟨μ, er, hr, x, m1, e1, fun v H1 μ1 ex1 hr1 r1 => ⟨μ1, er.ex ex1, hr1, y, m2, e2, fun u H2 μ2 ex2 hr2 r2 => ⟨μ2, hr2, (r1.ex ex2).lk, r2.lk, true, rfl, ?_⟩⟩⟩
      rw [if_pos rfl]
      exact ⟨μ2, er.ex (ex1.trans ex2), hr2, z, m2', e4, fun w H3 μ3 ex3 hr3 r3 => ⟨μ3, hr3, (r2.ex ex3).lk, r3.lk, _, rfl, q _ _ ((ex1.trans ex2).trans ex3) hr3⟩⟩
    · refine (pt_chain (cmp_ok hu (m := m2') e3) (OpR.never _) (ha H0 env m) (hb H0 env m1) (hc H0 env m2') hm).run pins s σ H Q I ?_
      refine ⟨μ, er, hr, x, m1, e1, fun v H1 μ1 ex1 hr1 r1 => ⟨μ1, er.ex ex1, hr1, y, m2', e2, fun u H2 μ2 ex2 hr2 r2 => ⟨μ2, hr2, (r1.ex ex2).lk, r2.lk, false, rfl, ?_⟩⟩⟩
      rw [if_neg Bool.false_ne_true]
      exact ⟨false, rfl, q _ _ (ex1.trans ex2) hr2⟩
theorem se_ite {c a b : Expr} {cc : CT} {ca cb : CE} {pos : Pos} (hc : ST cl gl X c cc) (ha : SE cl gl X a ca) (hb : SE cl gl X b cb) : SE cl gl X (.IfExp c a b pos) (.ite cc ca cb) := fun H0 env m => by
  refine ⟨fun pins s σ H Q I hw => ?_⟩
  obtain ⟨μ, er, hr, rv, m', ev, q⟩ := hw
  simp only [evE] at ev
  obtain ⟨k, m1, e1, ev⟩ := bind_ok ev
  refine (pe_ifExp (hc H0 env m) (ha H0 env m1) (hb H0 env m1)).run pins s σ H Q I ?_
  refine ⟨μ, er, hr, k, m1, e1, fun H1 μ1 ex1 hr1 => ?_⟩
  cases k with
  | true =>
    rw [if_pos rfl] at ev ⊢
    exact ⟨μ1, er.ex ex1, hr1, rv, m', ev, fun v H' μ' ex2 hr2 r2 => q v H' μ' (ex1.trans ex2) hr2 (r2.since ex1 fun a ha => (ex1.trans ex2).fx.mem ha)⟩
  | false =>
    rw [if_neg Bool.false_ne_true] at ev ⊢
    exact ⟨μ1, er.ex ex1, hr1, rv, m', ev, fun v H' μ' ex2 hr2 r2 => q v H' μ' (ex1.trans ex2) hr2 (r2.since ex1 fun a ha => (ex1.trans ex2).fx.mem ha)⟩
theorem se_idx {a b : Expr} {ca cb : CE} {pos : Pos} (ha : SE cl gl X a ca) (hb : SE cl gl X b cb) (hs : PlainIx b) : SE cl gl X (.Subscript a b pos) (.idx ca cb) := fun H0 env m => by
  refine ⟨fun pins s σ H Q I hw => ?_⟩
  obtain ⟨μ, er, hr, rv, m', ev, q⟩ := hw
  simp only [evE] at ev
  obtain ⟨x, m1, e1, ev⟩ := bind_ok ev
  obtain ⟨y, m2, e2, ev⟩ := bind_ok ev
  obtain ⟨e3, rfl⟩ := of_ok ev
  rw [Option.map_eq_some_iff] at e3
  obtain ⟨d, e3, rfl⟩ := e3
  refine (pe_ix (idx_ok (m := m2) e3) (ha H0 env m) (hb H0 env m1) hs).run pins s σ H Q I ?_
  exact ⟨μ, er, hr, x, m1, e1, fun v H1 μ1 ex1 hr1 r1 => ⟨μ1, er.ex ex1, hr1, y, m2, e2, fun u H2 μ2 ex2 hr2 r2 => fin2 ex1 ex2 hr2 r1 r2 q⟩⟩
/-- an end of a slice: left out, or written -/
inductive PartIs (cl : Cl) (gl : Gl) (X : Cx) : Option Expr → CE → Prop
  | no : PartIs cl gl X none (.con .non)
  | yes {e : Expr} {c : CE} : SE cl gl X e c → PartIs cl gl X (some e) c
theorem se_slc {a : Expr} {lo hi : Option Expr} {ca cl' ch : CE} {p2 pos : Pos} (ha : SE cl gl X a ca) (hl : PartIs cl gl X lo cl') (hh : PartIs cl gl X hi ch) : SE cl gl X (.Subscript a (.Slice lo hi none p2) pos) (.slc ca cl' ch) := fun H0 env m => by
  have part : ∀ {o : Option Expr} {c : CE} (h : PartIs cl gl X o c) (env : Env) (m : Mem), ∃ t : TO, PO X o t ∧ ∀ σ H (Q : Option Int → Hp → Prop) (y : Rv) (m' : Mem) (μ : List Addr) (n : Option Int), Er X.K μ H H0 env σ → Hr X.K μ H m → evE cl gl c env m = .ok y m' → y.look.part = some n →
      (∀ H' μ', Ex μ H μ' H' → Hr X.K μ' H' m' → Q n H') → t σ H Q := by
    intro o c h env m
    cases h with
    | no =>
      refine ⟨tNoPart, po_none, fun σ H Q y m' μ n er hr ev hp q => ?_⟩
      simp only [evE] at ev
      obtain ⟨rfl, rfl⟩ := ok_inj ev
      cases hp
      exact q H μ (.refl μ H) hr
    | yes h =>
      refine ⟨_, po_some' (h H0 env m), fun σ H Q y m' μ n er hr ev hp q => ?_⟩
      refine ⟨μ, er, hr, y, m', ev, fun v H' μ' ex hr' r => ?_⟩
      have lk := r.lk
      cases hy : y.look with
      | non =>
        rw [hy] at hp lk
        cases hp
        cases lk
        exact .inr ⟨rfl, q H' μ' ex hr'⟩
      | int i =>
        rw [hy] at hp lk
        cases hp
        cases lk
        exact .inl ⟨i, rfl, q H' μ' ex hr'⟩
      | _ => rw [hy] at hp; cases hp
  refine ⟨fun pins s σ H Q I hw => ?_⟩
  obtain ⟨μ, er, hr, rv, m', ev, q⟩ := hw
  simp only [evE] at ev
  obtain ⟨x, m1, e1, ev⟩ := bind_ok ev
  obtain ⟨l, m2, e2, ev⟩ := bind_ok ev
  obtain ⟨h, m3, e3, ev⟩ := bind_ok ev
  obtain ⟨e4, rfl⟩ := of_ok ev
  obtain ⟨nl, nh, p1, p2', e5⟩ := slcV_eq e4
  obtain ⟨tl, pl, ql⟩ := part hl env m1
  obtain ⟨th, ph, qh⟩ := part hh env m2
  refine (pe_slice (slc_ok (m := m3) e5) (ha H0 env m) pl ph).run pins s σ H Q I ?_
  refine ⟨μ, er, hr, x, m1, e1, fun v H1 μ1 ex1 hr1 r1 => ?_⟩
  refine ql σ H1 _ l m2 μ1 nl (er.ex ex1) hr1 e2 p1 fun H2 μ2 ex2 hr2 => ?_
  refine qh σ H2 _ h m3 μ2 nh (er.ex (ex1.trans ex2)) hr2 e3 p2' fun H3 μ3 ex3 hr3 => ?_
  have ex := (ex1.trans ex2).trans ex3
  exact ⟨rfl, rfl, μ3, hr3, (r1.ex (ex2.trans ex3)).lk, fun w H4 ex4 hr4 r4 => q w H4 μ3 (ex.trans ex4) hr4 (r4.since ex fun a ha => ex.fx.mem ha)⟩
theorem se_tup {es : List Expr} {cs : CEs} {k : Nat} {pos : Pos} (h : SA cl gl X es cs) : SE cl gl X (.Tuple es k pos) (.tup cs) := fun H0 env m => by
  refine ⟨fun pins s σ H Q I hw => ?_⟩
  obtain ⟨μ, er, hr, rv, m', ev, q⟩ := hw
  simp only [evE] at ev
  obtain ⟨xs, m1, e1, ev⟩ := bind_ok ev
  split at ev
  · rename_i hl
    obtain ⟨rfl, rfl⟩ := ok_inj ev
    refine (pe_tup (h H0 env m)).run pins s σ H Q I ?_
    refine ⟨μ, er, hr, xs, m1, e1, fun vs H1 μ1 ex1 hr1 r1 => ⟨by rw [← r1.length]; exact okLen_le hl, fun p hp => ?_⟩⟩
    exact q _ _ _ (ex1.trans (.laid hp)) (hr1.laid hp) (show Rep X.K μ1 (upd H1 p (.tup vs)) (.tup xs) (.ref p) from .tup (SqT.of upd_same) (r1.fx (Ex.laid hp).fx))
  · cases ev
theorem se_lst {es : List Expr} {cs : CEs} {pos : Pos} (h : SA cl gl X es cs) : SE cl gl X (.List es pos) (.lst cs) := fun H0 env m => by
  refine ⟨fun pins s σ H Q I hw => ?_⟩
  obtain ⟨μ, er, hr, rv, m', ev, q⟩ := hw
  simp only [evE] at ev
  obtain ⟨xs, m1, e1, ev⟩ := bind_ok ev
  split at ev
  · rename_i hl
    obtain ⟨rfl, rfl⟩ := ok_inj ev
    refine (pe_lst (h H0 env m)).run pins s σ H Q I ?_
    refine ⟨μ, er, hr, xs, m1, e1, fun vs H1 μ1 ex1 hr1 r1 => ⟨by rw [← r1.length]; exact okLen_le hl, fun p hp => ?_⟩⟩
    exact q _ _ _ (ex1.trans (.laid hp)) (hr1.laid hp) ((own_new hr1 hp r1).since ex1 fun a ha => ex1.fx.mem ha)
  · cases ev
theorem Hr.more {K : PySem.W.Frag} {μ : List Addr} {H : Hp} {m : Mem} (h : Hr K μ H m) {p : Addr} {xs : List D} {us : List V} (hp : H p = none) (r : Reps K μ H xs us) :
    Ex μ H (μ ++ [p]) (upd H p (.lst us)) ∧ Hr K (μ ++ [p]) (upd H p (.lst us)) (m ++ [.lst xs]) := by
  have e := Ex.laid (μ := μ) (o := .lst us) hp
  have hn := h.nofree hp
  have f2 : Fx μ (upd H p (.lst us)) (μ ++ [p]) (upd H p (.lst us)) := ⟨⟨[p], rfl⟩, fun _ _ q => q, fun _ _ _ q => q⟩
  refine ⟨⟨e.fx.trans f2, e.keep, fun a ha => ?_⟩, ?_, ?_, fun n o q => ?_⟩
  · rcases List.mem_append.mp ha with z | z
    · exact .inl z
    · have : a = p := by simpa using z
      exact .inr (this ▸ hp)
  · rw [List.length_append, List.length_append, h.len]; rfl
  · rw [List.nodup_append]
    refine ⟨h.nd, by simp, fun a ha b hb => ?_⟩
    have : b = p := by simpa using hb
    rw [this]
    exact fun z => hn (z ▸ ha)
  · by_cases c : n < m.length
    · rw [List.getElem?_append_left c] at q
      obtain ⟨a, h1, h2⟩ := (h.laid (o := .lst us) hp).obj n o q
      refine ⟨a, f2.at h1, ?_⟩
      cases o with
      | lst ys =>
        obtain ⟨ws, h3, h4⟩ := h2
        exact ⟨ws, h3, h4.fx f2⟩
      | _ => exact h2.elim
    · rw [List.getElem?_append_right (by omega)] at q
      have z : n - m.length = 0 := by
        cases hz : n - m.length with
        | zero => rfl
        | succ k => rw [hz] at q; simp at q
      rw [z] at q
      simp at q
      subst q
      refine ⟨p, ?_, us, upd_same, r.fx (e.fx.trans f2)⟩
      rw [List.getElem?_append_right (by rw [h.len]; omega), h.len, z]
      rfl
theorem se_lstP {es : List Expr} {cs : CEs} {pos : Pos} (h : SA cl gl X es cs) : SE cl gl X (.List es pos) (.lstP cs) := fun H0 env m => by
  refine ⟨fun pins s σ H Q I hw => ?_⟩
  obtain ⟨μ, er, hr, rv, m', ev, q⟩ := hw
  simp only [evE] at ev
  obtain ⟨xs, m1, e1, ev⟩ := bind_ok ev
  split at ev
  · rename_i hl
    obtain ⟨rfl, rfl⟩ := ok_inj ev
    refine (pe_lst (h H0 env m)).run pins s σ H Q I ?_
    refine ⟨μ, er, hr, xs, m1, e1, fun vs H1 μ1 ex1 hr1 r1 => ⟨by rw [← r1.length]; exact okLen_le hl, fun p hp => ?_⟩⟩
    obtain ⟨ex2, hr2⟩ := hr1.more hp r1
    refine q _ _ _ (ex1.trans ex2) hr2 (show Rep X.K _ _ (.ref m1.length) (.ref p) from .ref ?_)
    rw [← hr1.len]
    simp
  · cases ev
end
end Gx

set_option Elab.async false
set_option linter.all false
set_option maxRecDepth 100000
set_option maxHeartbeats 4000000
namespace Gx
open PySem PySem.Spec PyProof.Rows L2

section
variable {cl : Cl} {gl : Gl} {X : Cx}
/-! ### tests -/
theorem st_tru {e : Expr} {c : CE} (h : SE cl gl X e c) (he : ∀ whole, isTrue e X.env whole = (do let v ← whole; standAt e.pos; holding [v] (truthy v))) : ST cl gl X e (.tru c) := fun H0 env m => by
  refine ⟨fun pins s σ H Q I hw => ?_⟩
  obtain ⟨μ, er, hr, b, m', ev, q⟩ := hw
  simp only [evT] at ev
  obtain ⟨x, m1, e1, ev⟩ := bind_ok ev
  obtain ⟨e2, rfl⟩ := of_ok ev
  refine (pt_truth (h H0 env m) he).run pins s σ H Q I ?_
  exact ⟨μ, er, hr, x, m1, e1, fun v H1 μ1 ex1 hr1 r1 => ⟨b, tru_okD e2 r1.lk, q _ _ ex1 hr1⟩⟩
theorem st_not {a : Expr} {c : CT} {pos : Pos} (h : ST cl gl X a c) : ST cl gl X (.UnaryOp .Not a pos) (.not c) := fun H0 env m => by
  refine ⟨fun pins s σ H Q I hw => ?_⟩
  obtain ⟨μ, er, hr, b, m', ev, q⟩ := hw
  simp only [evT] at ev
  obtain ⟨x, m1, e1, ev⟩ := bind_ok ev
  obtain ⟨rfl, rfl⟩ := ok_inj ev
  exact (pt_not (h H0 env m)).run pins s σ H Q I ⟨μ, er, hr, x, m1, e1, fun H1 μ1 ex1 hr1 => q _ _ ex1 hr1⟩
theorem st_ite {t a b : Expr} {ct ca cb : CT} {pos : Pos} (ht : ST cl gl X t ct) (ha : ST cl gl X a ca) (hb : ST cl gl X b cb) : ST cl gl X (.IfExp t a b pos) (.ite ct ca cb) := fun H0 env m => by
  refine ⟨fun pins s σ H Q I hw => ?_⟩
  obtain ⟨μ, er, hr, b', m', ev, q⟩ := hw
  simp only [evT] at ev
  obtain ⟨k, m1, e1, ev⟩ := bind_ok ev
  refine isTrue_IfExp (thn ((ht H0 env m).run pins s σ H (fun d H1 => d = k ∧ ∃ μ', Ex μ H μ' H1 ∧ Hr X.K μ' H1 m1) I ⟨μ, er, hr, k, m1, e1, fun H1 μ1 a b => ⟨rfl, μ1, a, b⟩⟩) fun c s1 ⟨H1, I1, ek, μ1, ex1, hr1⟩ => ?_)
  subst ek
  cases c with
  | true =>
    rw [if_pos rfl] at ev ⊢
    exact (ha H0 env m1).run pins s1 σ H1 Q I1 ⟨μ1, er.ex ex1, hr1, b', m', ev, fun H' μ' ex2 hr2 => q H' μ' (ex1.trans ex2) hr2⟩
  | false =>
    rw [if_neg Bool.false_ne_true] at ev ⊢
    exact (hb H0 env m1).run pins s1 σ H1 Q I1 ⟨μ1, er.ex ex1, hr1, b', m', ev, fun H' μ' ex2 hr2 => q H' μ' (ex1.trans ex2) hr2⟩
theorem SW.st {e : Expr} {c : CT} (h : SW cl gl X e c) : ST cl gl X e c := fun H0 env m => (h H0 env m).pt
theorem sw_and1 {a : Expr} {c : CT} {pos : Pos} (h : ST cl gl X a c) : SW cl gl X (.BoolOp .And [a] pos) c := fun H0 env m => pw_and1 (h H0 env m)
theorem sw_or1 {a : Expr} {c : CT} {pos : Pos} (h : ST cl gl X a c) : SW cl gl X (.BoolOp .Or [a] pos) c := fun H0 env m => pw_or1 (h H0 env m)
theorem sw_and {a b : Expr} {rest : List Expr} {ca cb : CT} {pos : Pos} (ha : ST cl gl X a ca) (hb : SW cl gl X (.BoolOp .And (b :: rest) pos) cb) : SW cl gl X (.BoolOp .And (a :: b :: rest) pos) (.and ca cb) := fun H0 env m => by
  refine ⟨fun whole pins s σ H Q I hw => ?_⟩
  obtain ⟨μ, er, hr, b', m', ev, q⟩ := hw
  simp only [evT] at ev
  obtain ⟨k, m1, e1, ev⟩ := bind_ok ev
  refine (pw_and (ha H0 env m) (hb H0 env m1)).run whole pins s σ H Q I ?_
  refine ⟨μ, er, hr, k, m1, e1, fun H1 μ1 ex1 hr1 => ?_⟩
  cases k with
  | true =>
    rw [if_pos rfl] at ev ⊢
    exact ⟨μ1, er.ex ex1, hr1, b', m', ev, fun H' μ' ex2 hr2 => q H' μ' (ex1.trans ex2) hr2⟩
  | false =>
    rw [if_neg Bool.false_ne_true] at ev ⊢
    obtain ⟨rfl, rfl⟩ := ok_inj ev
    exact q _ _ ex1 hr1
theorem sw_or {a b : Expr} {rest : List Expr} {ca cb : CT} {pos : Pos} (ha : ST cl gl X a ca) (hb : SW cl gl X (.BoolOp .Or (b :: rest) pos) cb) : SW cl gl X (.BoolOp .Or (a :: b :: rest) pos) (.or ca cb) := fun H0 env m => by
  refine ⟨fun whole pins s σ H Q I hw => ?_⟩
  obtain ⟨μ, er, hr, b', m', ev, q⟩ := hw
  simp only [evT] at ev
  obtain ⟨k, m1, e1, ev⟩ := bind_ok ev
  refine (pw_or (ha H0 env m) (hb H0 env m1)).run whole pins s σ H Q I ?_
  refine ⟨μ, er, hr, k, m1, e1, fun H1 μ1 ex1 hr1 => ?_⟩
  cases k with
  | false =>
    rw [if_neg Bool.false_ne_true] at ev ⊢
    exact ⟨μ1, er.ex ex1, hr1, b', m', ev, fun H' μ' ex2 hr2 => q H' μ' (ex1.trans ex2) hr2⟩
  | true =>
    rw [if_pos rfl] at ev ⊢
    obtain ⟨rfl, rfl⟩ := ok_inj ev
    exact q _ _ ex1 hr1

/-! ### calls -/
/-- what a def of the text promises, called at most k deep -/
def spF (K : PySem.W.Frag) (fs : List FnI) (gl : Gl) (k f : Nat) : Sp := fun vs H Q _ => ∃ xs m μ rv m', Reps K μ H xs vs ∧ Hr K μ H m ∧ callF fs gl k f xs m = .ok rv m' ∧
  ∀ v H' μ', Ex μ H μ' H' → Hr K μ' H' m' → RvR K μ' H' H rv v → Q v H'
theorem se_call0 {fs : List FnI} {k n : Nat} {f : Addr} {fd : FuncData} {ps : List Str} {x : Str} {p pos : Pos}
    (F : FnOk X.prog X.w X.K X.mg X.base CX0 k f fd ps (spF X.K fs gl k n)) (hr : Room k X.A) (hg : L2.Gl X x) (hm : X.mg x = some (.ref f)) (hk : PySem.W.keepIn X.K (.ref f) = true) (hb : Binds X.K fd ps [])
    (hdb : (x == ("__debug__" : Str)) = false) : SE (callF fs gl k) gl X (.Call (.Name x p) [] [] pos) (.call n .nil) := fun H0 env m => by
  refine ⟨fun pins s σ H Q I hw => ?_⟩
  obtain ⟨μ, er, hr', rv, m', ev, q⟩ := hw
  simp only [evE] at ev
  obtain ⟨xs, m1, e1, ev⟩ := bind_ok ev
  cases e1
  refine (pe_call0 F hr hg hm hk hb .nil pass0 hdb).run pins s σ H Q I ?_
  exact ⟨[], m, μ, rv, m', .nil, hr', ev, q⟩
theorem se_call {fs : List FnI} {k n : Nat} {f : Addr} {fd : FuncData} {ps : List Str} {x : Str} {p pos : Pos} {e : Expr} {es : List Expr} {cs : CEs}
    (F : FnOk X.prog X.w X.K X.mg X.base CX0 k f fd ps (spF X.K fs gl k n)) (hr : Room k X.A) (hg : L2.Gl X x) (hm : X.mg x = some (.ref f)) (hk : PySem.W.keepIn X.K (.ref f) = true) (hb : Binds X.K fd ps [])
    (hdb : (x == ("__debug__" : Str)) = false) (hn : (e :: es).all noStar = true) (ha : SA (callF fs gl k) gl X (e :: es) cs) : SE (callF fs gl k) gl X (.Call (.Name x p) (e :: es) [] pos) (.call n cs) := fun H0 env m => by
  refine ⟨fun pins s σ H Q I hw => ?_⟩
  obtain ⟨μ, er, hr', rv, m', ev, q⟩ := hw
  simp only [evE] at ev
  obtain ⟨xs, m1, e1, ev⟩ := bind_ok ev
  rw [List.all_cons, Bool.and_eq_true] at hn
  refine (pe_call F hr hg hm hk hb .nil pass0 (ha H0 env m) hdb (starEach_cons hn.1) (starEach_plain hn.2)).run pins s σ H Q I ?_
  refine ⟨μ, er, hr', xs, m1, e1, fun vs H1 μ1 ex1 hr1 r1 => ?_⟩
  show spF X.K fs gl k n (vs ++ []) H1 Q E0
  rw [List.append_nil]
  exact ⟨xs, m1, μ1, rv, m', r1, hr1, ev, fun v H' μ' ex2 hr2 r2 => q v H' μ' (ex1.trans ex2) hr2 (r2.since ex1 fun a ha => (ex1.trans ex2).fx.mem ha)⟩
def biName : BI → Str
  | .len => "len" | .abs => "abs" | .int => "int" | .list => "list" | .tuple => "tuple" | .sum => "sum" | .max1 => "max" | .max2 => "max" | .min1 => "min" | .min2 => "min" | .any => "any" | .all => "all" | .count => "count"
theorem bi_boot {b : BI} (h : b ≠ .count) : bootBuiltins (biName b) = some (biVal b) := by
  cases b <;> first | (exact absurd rfl h) | (decide +kernel)
theorem bi_nn (b : BI) : biName b ≠ "__name__" ∧ (biName b == ("__debug__" : Str)) = false := by cases b <;> decide +kernel
theorem se_bi {b : BI} {p pos : Pos} {e : Expr} {es : List Expr} {cs : CEs} (hc : X.calm = true) (hb : b ≠ .count) (hg : L2.Gl X (biName b)) (hm : X.mg (biName b) = none) (hn : (e :: es).all noStar = true) (ha : SL cl gl X (e :: es) cs) :
    SE cl gl X (.Call (.Name (biName b) p) (e :: es) [] pos) (.bi b cs) := fun H0 env m => by
  refine ⟨fun pins s σ H Q I hw => ?_⟩
  obtain ⟨μ, er, hr, rv, m', ev, q⟩ := hw
  simp only [evE] at ev
  obtain ⟨xs, m1, e1, ev⟩ := bind_ok ev
  obtain ⟨e2, rfl⟩ := of_ok ev
  rw [List.all_cons, Bool.and_eq_true] at hn
  have ok := bi_ok (X := X) hc (m := m1) hb e2
  have bt := bi_boot hb
  obtain ⟨n1, n2⟩ := bi_nn b
  have rd : tCB (tVL X.K m1 xs rv) (tAl X.K cl gl H0 cs env m) σ H Q :=
    ⟨μ, er, hr, xs, m1, e1, fun vs H1 μ1 ex1 hr1 r1 => ⟨μ1, hr1, r1, fun w H2 ex2 hr2 r2 => q w H2 μ1 (ex1.trans ex2) hr2 (r2.since ex1 fun a ha => ex1.fx.mem ha)⟩⟩
  have st1 := starEach_cons (es := es) (env := X.env) hn.1
  have st2 := starEach_plain (env := X.env) (pos := pos) hn.2
  cases hv : biVal b with
  | builtin id =>
    rw [hv] at ok bt
    exact (pe_callB ok hg hm bt (ha H0 env m) n1 n2 st1 st2).run pins s σ H Q I rd
  | type T =>
    rw [hv] at ok bt
    exact (pe_callTy ok hg hm bt (ha H0 env m) n1 n2 st1 st2).run pins s σ H Q I rd
  | _ => cases b <;> first | (cases hv; done) | exact absurd rfl hb
theorem biV_count {x y : D} {rv : Rv} (h : biV .count [x, y] = some rv) : ∃ ys, x = .lst ys ∧ eqOks y ys = true ∧ rv = .d (.int (ys.countP fun z => eqD z y)) := by
  cases x with
  | lst ys =>
    simp only [biV] at h
    split at h
    · rename_i ok
      cases h
      exact ⟨ys, rfl, ok, rfl⟩
    · cases h
  | _ => simp only [biV] at h <;> cases h
theorem se_count {o a : Expr} {co ca : CE} {apos pos : Pos} (hu : X.A.units + 64 < cLine) (ho : SE cl gl X o co) (ha : SE cl gl X a ca) (hn : noStar a = true) (hbase : attributeBase o "count" X.env (eval o X.env) = eval o X.env) (hline : (apos.endLine == pos.line) = true) :
    SE cl gl X (.Call (.Attribute o "count" apos) [a] [] pos) (.bi .count (.cons co (.cons ca .nil))) := fun H0 env m => by
  refine ⟨fun pins s σ H Q I hw => ?_⟩
  obtain ⟨μ, er, hr, rv, m', ev, q⟩ := hw
  simp only [evE, evLs] at ev
  obtain ⟨xs, m1, e1, ev⟩ := bind_ok ev
  obtain ⟨e2, rfl⟩ := of_ok ev
  obtain ⟨x, m2, e3, e1⟩ := bind_ok e1
  obtain ⟨ys, m3, e4, e1⟩ := bind_ok e1
  obtain ⟨rfl, rfl⟩ := ok_inj e1
  obtain ⟨y, m4, e5, e4⟩ := bind_ok e4
  obtain ⟨zs, m5, e6, e4⟩ := bind_ok e4
  obtain ⟨rfl, rfl⟩ := ok_inj e4
  cases e6
  obtain ⟨ys, hx, ok, rfl⟩ := biV_count e2
  have SLa : SL cl gl X [a] (.cons ca .nil) := SL.cons hn ha SL.nil
  refine (pe_bm PySem.F.plainAttrs_list PySem.F.slot_list_count PySem.F.type_list_count (count_ok hu (m := m4) ok) (ho H0 env m) (SLa H0 env m2) hbase ?_ hline (starEach_cons hn) (starEach_plain (es := []) rfl)).run pins s σ H Q I ?_
  · rw [starEach_cons hn]
    rfl
  · refine ⟨μ, er, hr, x, m2, e3, fun v H1 μ1 ex1 hr1 r1 => ?_⟩
    have lk := r1.lk
    rw [hx] at lk
    obtain ⟨p, us, rfl, hp, rp⟩ := lk
    refine ⟨.inl ⟨rfl, us, hp⟩, μ1, er.ex ex1, hr1, [y.look], m4, by simp only [evLs, e5]; rfl, fun vs H2 μ2 ex2 hr2 r2 => ?_⟩
    cases r2 with
    | cons r2 r3 =>
      cases r3
      have lk2 := (r1.ex ex2).lk
      rw [hx] at lk2
      exact ⟨μ2, hr2, lk2, ⟨_, rfl, r2⟩, q _ _ _ (ex1.trans ex2) hr2 (.int _)⟩
end
end Gx

set_option Elab.async false
set_option linter.all false
set_option maxRecDepth 100000
set_option maxHeartbeats 4000000
namespace Gx
open PySem PySem.Spec PyProof.Rows L2

section
variable {cl : Cl} {gl : Gl} {X : Cx}
/-! ### isinstance -/
def tnName : TyN → Str
  | .int => "int" | .bool => "bool" | .str => "str" | .tuple => "tuple" | .list => "list"
theorem tn_boot (t : TyN) : bootBuiltins (tnName t) = some (.type (tnStr t)) := by cases t <;> decide +kernel
theorem tn_nn (t : TyN) : tnName t ≠ "__name__" ∧ (tnName t == ("__debug__" : Str)) = false := by cases t <;> decide +kernel
theorem pe_tn {t : TyN} {pos : Pos} (hg : L2.Gl X (tnName t)) (hm : X.mg (tnName t) = none) : PE X (.Name (tnName t) pos) (tC (.ty (tnStr t))) :=
  pe_bltn hg hm (tn_boot t) rfl (tn_nn t).1 (tn_nn t).2
theorem se_isi {a : Expr} {ca : CE} {t : TyN} {p p2 pos : Pos} (ha : SE cl gl X a ca) (hn : noStar a = true) (hg : L2.Gl X "isinstance") (hm : X.mg "isinstance" = none) (hgt : L2.Gl X (tnName t)) (hmt : X.mg (tnName t) = none) :
    SE cl gl X (.Call (.Name "isinstance" p) [a, .Name (tnName t) p2] [] pos) (.isi ca [t]) := fun H0 env m => by
  refine ⟨fun pins s σ H Q I hw => ?_⟩
  obtain ⟨μ, er, hr, rv, m', ev, q⟩ := hw
  simp only [evE] at ev
  obtain ⟨x, m1, e1, ev⟩ := bind_ok ev
  obtain ⟨e2, rfl⟩ := of_ok ev
  rw [Option.map_eq_some_iff] at e2
  obtain ⟨b, e2, rfl⟩ := e2
  have pa : PA X [a, .Name (tnName t) p2] (tCons (tE X.K cl gl H0 ca env m) (tCons (tC (.ty (tnStr t))) tNil)) := pa_cons (ha H0 env m) (pa_cons (pe_tn hgt hmt) pa_nil) (starEach_cons hn)
  refine (pe_callB call_isi hg hm boot_isinstance pa (by decide) (by decide) (starEach_cons hn) rfl).run pins s σ H Q I ?_
  refine ⟨μ, er, hr, x, m1, e1, fun v H1 μ1 ex1 hr1 r1 => ?_⟩
  obtain ⟨tn, hd⟩ := isTys_dTy (ts := [t]) (by simp) e2
  have hk : ∃ c, isTy x.look t = some c ∧ c = b := by
    simp only [isTys] at e2
    cases e : isTy x.look t with
    | none => rw [e] at e2; cases e2
    | some c =>
      rw [e] at e2
      cases c <;> exact ⟨_, rfl, Option.some.inj e2⟩
  obtain ⟨c, hk, rfl⟩ := hk
  obtain ⟨tn', hd', hk'⟩ := isTy_kit (K := X.K) hk
  exact ⟨v, _, _, _, _, rfl, .ty _, r1.lk.ty hd', hk', q _ _ _ ex1 hr1 (.bl _)⟩
/-- the classes of a written tuple, by their names -/
inductive TnAll (X : Cx) : List Expr → List TyN → Prop
  | nil : TnAll X [] []
  | cons {t : TyN} {pos : Pos} {es : List Expr} {ts : List TyN} : L2.Gl X (tnName t) → X.mg (tnName t) = none → TnAll X es ts → TnAll X (.Name (tnName t) pos :: es) (t :: ts)
def tTys (ts : List TyN) : TA := fun _ H Q => Q (ts.map fun t => .ty (tnStr t)) H
theorem TnAll.pa : ∀ {es : List Expr} {ts : List TyN}, TnAll X es ts → PA X es (tTys ts)
  | _, _, .nil => ⟨fun pos pins s σ H Q I h => pa_nil.run pos pins s σ H Q I h⟩
  | _, _, .cons hg hm h => ⟨fun pos pins s σ H Q I hw => (pa_cons (pe_tn hg hm) h.pa rfl).run pos pins s σ H Q I hw⟩
theorem cls_all : ∀ ts : List TyN, Paired ClsV (ts.map fun t => V.ty (tnStr t)) (ts.map fun t => Value.type (tnStr t))
  | [] => .nil
  | t :: ts => .cons (.ty _) (cls_all ts)
theorem se_isiT {a : Expr} {ca : CE} {es : List Expr} {ts : List TyN} {k : Nat} {p p2 pos : Pos} (ha : SE cl gl X a ca) (hn : noStar a = true) (hg : L2.Gl X "isinstance") (hm : X.mg "isinstance" = none) (ht : TnAll X es ts) (hne : ts ≠ []) (hlen : okLen ts = true) :
    SE cl gl X (.Call (.Name "isinstance" p) [a, .Tuple es k p2] [] pos) (.isi ca ts) := fun H0 env m => by
  refine ⟨fun pins s σ H Q I hw => ?_⟩
  obtain ⟨μ, er, hr, rv, m', ev, q⟩ := hw
  simp only [evE] at ev
  obtain ⟨x, m1, e1, ev⟩ := bind_ok ev
  obtain ⟨e2, rfl⟩ := of_ok ev
  rw [Option.map_eq_some_iff] at e2
  obtain ⟨b, e2, rfl⟩ := e2
  have pa : PA X [a, .Tuple es k p2] (tCons (tE X.K cl gl H0 ca env m) (tCons (tTup (tTys ts)) tNil)) := pa_cons (ha H0 env m) (pa_cons (pe_tup ht.pa) pa_nil) (starEach_cons hn)
  refine (pe_callB call_isiT hg hm boot_isinstance pa (by decide) (by decide) (starEach_cons hn) rfl).run pins s σ H Q I ?_
  refine ⟨μ, er, hr, x, m1, e1, fun v H1 μ1 ex1 hr1 r1 => ⟨by rw [List.length_map]; exact okLen_le hlen, fun tp hp => ?_⟩⟩
  obtain ⟨tn, hd⟩ := isTys_dTy hne e2
  have r2 := r1.ex (.laid (o := .tup (ts.map fun t => V.ty (tnStr t))) hp)
  exact ⟨v, tp, _, _, _, _, rfl, upd_same, cls_all ts, r2.lk.ty hd, isTys_kit e2 hd, q _ _ _ (ex1.trans (.laid hp)) (hr1.laid hp) (.bl _)⟩

/-! ### targets -/
mutual
def tgIn (vs : List Nat) : TGt → Bool
  | .nm i => vs.contains i
  | .tp ts => tgsIn vs ts
def tgsIn (vs : List Nat) : List TGt → Bool
  | [] => true
  | t :: ts => tgIn vs t && tgsIn vs ts
end
theorem wipe_set {σ : L2.St} {i : Nat} {x : Option V} : ∀ {vs : List Nat}, (i ∈ vs → wipe (σ.set i x) vs = wipe σ vs) ∧ (i ∉ vs → wipe (σ.set i x) vs = (wipe σ vs).set i x)
  | [] => ⟨fun h => by simp at h, fun _ => rfl⟩
  | v :: vs => by
    obtain ⟨h1, h2⟩ := wipe_set (σ := σ) (i := i) (x := x) (vs := vs)
    refine ⟨fun h => ?_, fun h => ?_⟩
    · show (wipe (σ.set i x) vs).set v none = (wipe σ vs).set v none
      by_cases m : i ∈ vs
      · rw [h1 m]
      · have e : i = v := by
          rcases List.mem_cons.mp h with z | z
          · exact z
          · exact absurd z m
        rw [h2 m, e, List.set_set]
    · simp only [List.mem_cons, not_or] at h
      show (wipe (σ.set i x) vs).set v none = ((wipe σ vs).set v none).set i x
      rw [h2 h.2, List.set_comm _ _ h.1]
/-- a value is bound to a name -/
theorem Er.set {K : PySem.W.Frag} {μ : List Addr} {H H0 : Hp} {env : Env} {σ : L2.St} (h : Er K μ H H0 env σ) {i : Nat} {x : Rv} {v : V} (hi : i < env.length) (r : RvR K μ H H0 x v) (nb : notBrw x = true)
    (dj : ∀ o, x = .own o → ∀ (j : Nat) (o' : Ob), j ≠ i → env[j]? = some (some (.own o')) → σ[j]? ≠ some (some v)) : Er K μ H H0 (env.set i (some x)) (σ.set i (some v)) := by
  have hi' : i < σ.length := by rw [← h.len]; exact hi
  refine ⟨by rw [List.length_set, List.length_set]; exact h.len, fun j y e => ?_, fun j1 j2 o1 o2 w e1 e2 f1 f2 => ?_⟩
  · by_cases c : i = j
    · subst c
      rw [List.getElem?_set_self hi] at e
      cases e
      exact ⟨v, List.getElem?_set_self hi', r, nb⟩
    · rw [List.getElem?_set_ne c] at e
      obtain ⟨w, a, b⟩ := h.val j y e
      exact ⟨w, by rw [List.getElem?_set_ne c]; exact a, b⟩
  · by_cases c1 : i = j1
    · by_cases c2 : i = j2
      · omega
      · subst c1
        rw [List.getElem?_set_self hi] at e1
        rw [List.getElem?_set_self hi'] at f1
        rw [List.getElem?_set_ne c2] at e2 f2
        cases e1; cases f1
        exact absurd f2 (dj o1 rfl j2 o2 (Ne.symm c2) e2)
    · by_cases c2 : i = j2
      · subst c2
        rw [List.getElem?_set_self hi] at e2
        rw [List.getElem?_set_self hi'] at f2
        rw [List.getElem?_set_ne c1] at e1 f1
        cases e2; cases f2
        exact absurd f1 (dj o2 rfl j1 o1 (Ne.symm c1) e1)
      · rw [List.getElem?_set_ne c1] at e1 f1
        rw [List.getElem?_set_ne c2] at e2 f2
        exact h.dis j1 j2 o1 o2 w e1 e2 f1 f2
theorem Er.setD {K : PySem.W.Frag} {μ : List Addr} {H H0 : Hp} {env : Env} {σ : L2.St} (h : Er K μ H H0 env σ) {i : Nat} {x : D} {v : V} (hi : i < env.length) (r : Rep K μ H x v) : Er K μ H H0 (env.set i (some (.d x))) (σ.set i (some v)) :=
  h.set hi (show RvR K μ H H0 (.d x) v from r) rfl fun o e => nomatch e
theorem Er.unset {K : PySem.W.Frag} {μ : List Addr} {H H0 : Hp} {env : Env} {σ : L2.St} (h : Er K μ H H0 env σ) (i : Nat) : Er K μ H H0 (env.set i none) (σ.set i none) := by
  refine ⟨by rw [List.length_set, List.length_set]; exact h.len, fun j y e => ?_, fun j1 j2 o1 o2 w e1 e2 f1 f2 => ?_⟩
  · by_cases c : i = j
    · subst c
      by_cases hi : i < env.length
      · rw [List.getElem?_set_self hi] at e; cases e
      · rw [List.getElem?_eq_none (by simpa using hi)] at e; cases e
    · rw [List.getElem?_set_ne c] at e
      obtain ⟨w, a, b⟩ := h.val j y e
      exact ⟨w, by rw [List.getElem?_set_ne c]; exact a, b⟩
  · have no : ∀ j o, (env.set i none)[j]? = some (some (.own o)) → i ≠ j := fun j o e c => by
      subst c
      by_cases hi : i < env.length
      · rw [List.getElem?_set_self hi] at e; cases e
      · rw [List.getElem?_eq_none (by simpa using hi)] at e; cases e
    have n1 := no j1 o1 e1
    have n2 := no j2 o2 e2
    rw [List.getElem?_set_ne n1] at e1 f1
    rw [List.getElem?_set_ne n2] at e2 f2
    exact h.dis j1 j2 o1 o2 w e1 e2 f1 f2
theorem Er.wipe {K : PySem.W.Frag} {μ : List Addr} {H H0 : Hp} {env : Env} {σ : L2.St} (h : Er K μ H H0 env σ) : ∀ vs : List Nat, Er K μ H H0 (wip env vs) (L2.wipe σ vs)
  | [] => h
  | v :: vs => (h.wipe vs).unset v
theorem asgT_len : (∀ (t : TGt) (x : D) (env env' : Env), asgT t x env = some env' → env'.length = env.length) := by
  intro t
  refine TGt.rec (motive_1 := fun t => ∀ (x : D) (env env' : Env), asgT t x env = some env' → env'.length = env.length) (motive_2 := fun ts => ∀ (xs : List D) (env env' : Env), asgTs ts xs env = some env' → env'.length = env.length) ?_ ?_ ?_ ?_ t
  · intro i x env env' h
    simp only [asgT] at h
    split at h
    · cases h; rw [List.length_set]
    · cases h
  · intro ts ih x env env' h
    simp only [asgT] at h
    split at h
    · exact ih _ _ _ h
    · cases h
  · intro xs env env' h
    cases xs with
    | nil => cases h; rfl
    | cons x xs => cases h
  · intro t ts ih1 ih2 xs env env' h
    cases xs with
    | nil => cases h
    | cons x xs =>
      simp only [asgTs] at h
      cases e : asgT t x env with
      | none => rw [e] at h; cases h
      | some e1 =>
        rw [e] at h
        rw [ih2 _ _ _ h, ih1 _ _ _ e]
/-- things of one's own stay where they stand -/
def OwnSt (env : Env) (σ : L2.St) (env' : Env) (σ' : L2.St) : Prop := ∀ (i : Nat) (o : Ob), env'[i]? = some (some (.own o)) → env[i]? = some (some (.own o)) ∧ σ'[i]? = σ[i]?
def tGd (K : PySem.W.Frag) (t : TGt) : TG := fun v σ H Q => ∃ μ H0 env x env', Er K μ H H0 env σ ∧ Rep K μ H x v ∧ asgT t x env = some env' ∧ ∀ σ', Er K μ H H0 env' σ' → (∀ vs, tgIn vs t = true → wipe σ' vs = wipe σ vs) → OwnSt env σ env' σ' → Q σ' H
def tGds (K : PySem.W.Frag) (ts : List TGt) : TGs := fun us σ H Q => ∃ μ H0 env xs env', Er K μ H H0 env σ ∧ Reps K μ H xs us ∧ asgTs ts xs env = some env' ∧ ∀ σ', Er K μ H H0 env' σ' → (∀ vs, tgsIn vs ts = true → wipe σ' vs = wipe σ vs) → OwnSt env σ env' σ' → Q σ' H
def SG (X : Cx) (e : Expr) (t : TGt) : Prop := PG X e (tGd X.K t)
def SGs (X : Cx) (es : List Expr) (ts : List TGt) : Prop := PGs X es (tGds X.K ts)
theorem sg_nm {i : Nat} {x : Str} {pos : Pos} (hN : X.N.Nodup) (hi : X.N[i]? = some x) (hx : Loc X.env.scope x) (hf : X.fn x = true ∨ X.env.scope.names.lookup x = some .local) : SG X (.Name x pos) (.nm i) := by
  refine ⟨fun pins s σ H v u Q I r hw => ?_⟩
  obtain ⟨μ, H0, env, y, env', er, ry, ha, q⟩ := hw
  simp only [asgT] at ha
  split at ha
  · rename_i hl
    cases ha
    refine (pg_name hN hi hx hf).run pins s σ H v u Q I r (q _ (er.setD hl ry) (fun vs hv => ?_) fun j o e => ?_)
    · simp only [tgIn, List.contains_iff_mem] at hv
      exact wipe_set.1 hv
    · by_cases c : i = j
      · subst c
        rw [List.getElem?_set_self hl] at e
        cases e
      · rw [List.getElem?_set_ne c] at e ⊢
        exact ⟨e, rfl⟩
  · cases ha
theorem sgs_nil : SGs X [] [] := by
  refine ⟨fun pins s σ H vs us Q I r hw => ?_⟩
  obtain ⟨μ, H0, env, xs, env', er, rx, ha, q⟩ := hw
  cases xs with
  | cons x xs => cases ha
  | nil =>
    cases ha
    cases rx
    exact pgs_nil.run pins s σ H [] us Q I r ⟨rfl, q σ er (fun _ _ => rfl) fun _ _ e => ⟨e, rfl⟩⟩
theorem assignEach_cons {e : Expr} {es : List Expr} {env : PySem.Env} (h : noStar e = true) : (assignEach (e :: es) env).map (·.2) = assign e env :: (assignEach es env).map (·.2) := by
  cases e <;> first | rfl | cases h
theorem assignEach_len {env : PySem.Env} : ∀ {es : List Expr}, (assignEach es env).length = es.length
  | [] => rfl
  | e :: es => by
    have ih := assignEach_len (env := env) (es := es)
    cases e <;> simp [assignEach, ih]
theorem assignEach_star {env : PySem.Env} : ∀ {es : List Expr}, es.all noStar = true → (assignEach es env).findIdx? (·.1) = none
  | [], _ => rfl
  | e :: es, h => by
    rw [List.all_cons, Bool.and_eq_true] at h
    have ih := assignEach_star (env := env) h.2
    have e1 : assignEach (e :: es) env = (false, assign e env) :: assignEach es env := by
      obtain ⟨h1, _⟩ := h
      cases e <;> first | rfl | cases h1
    rw [e1, List.findIdx?_cons]
    simp [ih]
theorem sgs_cons {e : Expr} {es : List Expr} {t : TGt} {ts : List TGt} (hn : noStar e = true) (h : SG X e t) (hs : SGs X es ts) : SGs X (e :: es) (t :: ts) := by
  refine ⟨fun pins s σ H vs us Q I r hw => ?_⟩
  obtain ⟨μ, H0, env, xs, env', er, rx, ha, q⟩ := hw
  cases rx with
  | nil => cases ha
  | @cons x xs v vs rx rxs =>
    simp only [asgTs] at ha
    cases e1 : asgT t x env with
    | none => rw [e1] at ha; cases ha
    | some env1 =>
      rw [e1] at ha
      refine (pgs_cons h hs (assignEach_cons hn)).run pins s σ H _ us Q I r ⟨v, vs, rfl, μ, H0, env, x, env1, er, rx, e1, fun σ1 er1 w1 o1 => ⟨μ, H0, env1, xs, env', er1, rxs, ha, fun σ2 er2 w2 o2 => q σ2 er2 (fun ws hws => ?_) fun j o e => ?_⟩⟩
      · simp only [tgsIn, Bool.and_eq_true] at hws
        rw [w2 ws hws.2, w1 ws hws.1]
      · obtain ⟨a1, a2⟩ := o2 j o e
        obtain ⟨b1, b2⟩ := o1 j o a1
        exact ⟨b1, a2.trans b2⟩
theorem asgTs_length : ∀ {ts : List TGt} {xs : List D} {env env' : Env}, asgTs ts xs env = some env' → xs.length = ts.length
  | [], [], _, _, _ => rfl
  | [], _ :: _, _, _, h => by cases h
  | _ :: _, [], _, _, h => by cases h
  | t :: ts, x :: xs, env, env', h => by
    simp only [asgTs] at h
    cases e1 : asgT t x env with
    | none => rw [e1] at h; cases h
    | some env1 =>
      rw [e1] at h
      rw [List.length_cons, List.length_cons, asgTs_length h]
theorem sg_tp {es : List Expr} {ts : List TGt} {k : Nat} {pos : Pos} (hc : X.calm = true) (hn : es.all noStar = true) (hl : es.length = ts.length) (h : SGs X es ts) : SG X (.Tuple es k pos) (.tp ts) := by
  refine ⟨fun pins s σ H v u Q I r hw => ?_⟩
  obtain ⟨μ, H0, env, y, env', er, ry, ha, q⟩ := hw
  simp only [asgT] at ha
  split at ha
  · rename_i xs
    cases ry with
    | tup hs rx =>
      refine (pg_tup hc h assignEach_len (assignEach_star hn)).run pins s σ H _ u Q I r ⟨_, _, rfl, hs, ?_, μ, H0, env, xs, env', er, rx, ha, fun σ' er' w ow => q σ' er' (fun vs hv => w vs (by simpa [tgIn] using hv)) ow⟩
      rw [← rx.length, asgTs_length ha, hl]
  · cases ha
end
end Gx

set_option Elab.async false
set_option linter.all false
set_option maxRecDepth 100000
set_option maxHeartbeats 4000000
namespace Gx
open PySem PySem.Spec PyProof.Rows L2

/-- an iterator that hands out some values, as long as P holds -/
structure Yld (K : PySem.W.Frag) (P : List Addr → Hp → Prop) (xs : List D) (J : It) : Prop where
  go : ∀ i μ H, P μ H → i < xs.length → J.go i H
  yl : ∀ i μ H v H' m, P μ H → i < xs.length → Hr K μ H m → J.yld i H v H' → ∃ x, xs[i]? = some x ∧ Ex μ H μ H' ∧ Hr K μ H' m ∧ Rep K μ H' x v
  stop : ∀ i μ H, P μ H → xs.length ≤ i → J.stop i H
/-- how long it may be walked: while nothing is changed that is no numbered thing; or, for what is never changed any more, always -/
def Pz (fz : Bool) (μ : List Addr) (H : Hp) (μ' : List Addr) (H' : Hp) : Prop := if fz = true then Fx μ H μ' H' else Ex μ H μ' H'
theorem Pz.fx {fz : Bool} {μ μ' : List Addr} {H H' : Hp} (h : Pz fz μ H μ' H') : Fx μ H μ' H' := by
  cases fz with
  | true => exact h
  | false => exact Ex.fx h
section
variable {K : PySem.W.Frag} {μ : List Addr} {H : Hp} {xs : List D} {us : List V} {a : Addr}
theorem Reps.gets (r : Reps K μ H xs us) {i : Nat} {v : V} (h : us[i]? = some v) : ∃ x, xs[i]? = some x ∧ Rep K μ H x v := by
  have hi : i < xs.length := by rw [r.length]; exact (List.getElem?_eq_some_iff.mp h).1
  obtain ⟨w, h1, h2⟩ := r.get (List.getElem?_eq_getElem hi)
  rw [h] at h1
  cases h1
  exact ⟨_, List.getElem?_eq_getElem hi, h2⟩
theorem yld_list {P : List Addr → Hp → Prop} (r : Reps K μ H xs us) (hP : ∀ μ' H', P μ' H' → Fx μ H μ' H' ∧ SqL K H' a us) : Yld K P xs (Itl K a) := by
  refine ⟨fun i μ' H' p hi => ?_, fun i μ' H' v H2 m p _ hr y => ?_, fun i μ' H' p hi => ⟨us, (hP _ _ p).2, by rw [← r.length]; exact hi⟩⟩
  · have h2 : i < us.length := by rw [← r.length]; exact hi
    exact ⟨us, us[i], (hP _ _ p).2, List.getElem?_eq_getElem h2⟩
  · obtain ⟨e, y⟩ := y
    subst e
    obtain ⟨f, hs⟩ := hP _ _ p
    obtain ⟨x, h1, h2⟩ := r.gets (y us hs)
    exact ⟨x, h1, .refl _ _, hr, h2.fx f⟩
theorem yld_tup {P : List Addr → Hp → Prop} (r : Reps K μ H xs us) (hP : ∀ μ' H', P μ' H' → Fx μ H μ' H' ∧ SqT K H' a us) : Yld K P xs (Itt K a) := by
  refine ⟨fun i μ' H' p hi => ?_, fun i μ' H' v H2 m p _ hr y => ?_, fun i μ' H' p hi => ⟨us, (hP _ _ p).2, by rw [← r.length]; exact hi⟩⟩
  · have h2 : i < us.length := by rw [← r.length]; exact hi
    exact ⟨us, us[i], (hP _ _ p).2, List.getElem?_eq_getElem h2⟩
  · obtain ⟨e, y⟩ := y
    subst e
    obtain ⟨f, hs⟩ := hP _ _ p
    obtain ⟨x, h1, h2⟩ := r.gets (y us hs)
    exact ⟨x, h1, .refl _ _, hr, h2.fx f⟩
theorem yld_str {P : List Addr → Hp → Prop} {n : Nat} (h : chars n = some xs) : Yld K P xs (Its (toStr n)) := by
  unfold chars at h
  split at h
  · rename_i hz
    cases h
    have sz : (toStr n).cps.size = (dec n).length := by
      show ((dec n).toArray).size = _
      simp
    refine ⟨fun i μ' H' p hi => ?_, fun i μ' H' v H2 m p _ hr y => ?_, fun i μ' H' p hi => ?_⟩
    · show i < (toStr n).cps.size
      rw [sz]
      simpa using hi
    · obtain ⟨e, c, hc, hv⟩ := y
      subst e
      have hc' : (dec n)[i]? = some c := by
        have : ((dec n).toArray)[i]? = some c := hc
        simpa using this
      refine ⟨.str c, by rw [List.getElem?_map, hc']; rfl, .refl _ _, hr, ?_⟩
      have hm := List.mem_of_getElem? hc'
      have h0 : c ≠ 0 := by
        have := List.all_eq_true.mp hz c hm
        simpa using this
      have e3 : (⟨#[c]⟩ : Str) = toStr c := by
        unfold toStr
        rw [dec_pos h0, Nat.mod_eq_of_lt (dec_lt hm), Nat.div_eq_of_lt (dec_lt hm), dec_zero]
      rw [hv, e3]
      exact .str c
    · show (toStr n).cps.size ≤ i
      rw [sz]
      simpa using hi
  · cases h
theorem rngL_get : ∀ (n : Nat) (lo : Int) (i : Nat), i < n → (rngL lo n)[i]? = some (.int (lo + i))
  | 0, _, _, h => absurd h (Nat.not_lt_zero _)
  | n + 1, lo, 0, _ => by simp [rngL]
  | n + 1, lo, i + 1, h => by
    show (rngL (lo + 1) n)[i]? = _
    rw [rngL_get n (lo + 1) i (by omega)]
    congr 2
    omega
theorem rngL_len : ∀ (n : Nat) (lo : Int), (rngL lo n).length = n
  | 0, _ => rfl
  | n + 1, lo => by show (rngL (lo + 1) n).length + 1 = n + 1; rw [rngL_len n]
theorem yld_rng {P : List Addr → Hp → Prop} (lo : Int) (n : Nat) : Yld K P (rngL lo n) (Itr lo n) :=
  ⟨fun i _ _ _ hi => by rw [rngL_len] at hi; exact hi, fun i μ H v H' m _ hi hr ⟨e1, e2⟩ => by
    subst e1 e2
    rw [rngL_len] at hi
    exact ⟨_, rngL_get n lo i hi, .refl _ _, hr, .int _⟩, fun i _ _ _ hi => by rw [rngL_len] at hi; exact hi⟩
end

section
variable {cl : Cl} {gl : Gl} {X : Cx}
theorem pi_any {tg e : Expr} {te : TE} (he : PE X e te) : PI X tg e (fun σ H R => te σ H fun x H1 =>
    (∃ a us, x = .ref a ∧ SqL X.K H1 a us ∧ R (Itl X.K a) H1) ∨ (∃ a us, x = .ref a ∧ SqT X.K H1 a us ∧ R (Itt X.K a) H1) ∨ (∃ z, x = .str z ∧ R (Its z) H1)) := by
  refine ⟨fun pins s σ H R I h => ?_⟩
  refine thn (he.run pins s σ H _ I h) fun v s1 ⟨x, H1, I1, r1, q⟩ => ?_
  rcases q with ⟨a, us, e, hq, q⟩ | ⟨a, us, e, hq, q⟩ | ⟨z, e, q⟩
  · subst e
    cases r1
    obtain ⟨its, rv, p, hz⟩ := I1.list hq
    refine wpAny_pyIter_list p.isList ?_
    refine ⟨s1.heap.objs.size, [s1.heap.objs.size], _, _, H1, rfl, I1.kept (t' := s1.toks) fun b o e => Heap.get?_push_of_some _ e, turn_list a _, ⟨_, Heap.get?_push_size _ rfl, rfl, rfl⟩, fun b hb => ?_, q⟩
    have e : b = s1.heap.objs.size := by simpa using hb
    subst e
    exact I1.fpOk (Nat.le_refl _) (I1.hok.fresh (Nat.le_refl _))
  · subst e
    cases r1
    obtain ⟨its, rv, p, hz⟩ := I1.tuple hq
    refine wpAny_pyIter_tuple (show s1.heap.IsTuple a its.toArray from p) ?_
    refine ⟨s1.heap.objs.size, [s1.heap.objs.size], _, _, H1, rfl, I1.kept (t' := s1.toks) fun b o e => Heap.get?_push_of_some _ e, turn_tuple a _, ⟨_, Heap.get?_push_size _ rfl, rfl, rfl⟩, fun b hb => ?_, q⟩
    have e : b = s1.heap.objs.size := by simpa using hb
    subst e
    exact I1.fpOk (Nat.le_refl _) (I1.hok.fresh (Nat.le_refl _))
  · subst e
    obtain ⟨t, rfl⟩ := r1
    cases ha : z.cps.all (· < 128)
    · exact wpAny_pyIter_wide ha (pi_one (tk := s1.toks) I1 _ (turn_str _ z t "str_iterator" (.inr rfl)) ⟨_, Heap.get?_push_size _ rfl, rfl, rfl⟩ q)
    · exact wpAny_pyIter_ascii ha (pi_one (tk := s1.toks) I1 _ (turn_str _ z t "str_ascii_iterator" (.inl rfl)) ⟨_, Heap.get?_push_size _ rfl, rfl, rfl⟩ q)

def tI (K : PySem.W.Frag) (cl : Cl) (gl : Gl) (H0 : Hp) (fz : Bool) (c : CI) (env : Env) (m : Mem) : TI := fun σ H R => ∃ μ, Er K μ H H0 env σ ∧ Hr K μ H m ∧ ∃ xs m', evI cl gl fz c env m = .ok xs m' ∧
  ∀ J H' μ', Ex μ H μ' H' → Hr K μ' H' m' → (∃ n : Nat, Yld K (Pz fz μ' H') xs J) → R J H'
def SI (cl : Cl) (gl : Gl) (X : Cx) (fz : Bool) (tg e : Expr) (c : CI) : Prop := ∀ H0 env m, PI X tg e (tI X.K cl gl H0 fz c env m)
theorem Lk.of_frz {K : PySem.W.Frag} {μ : List Addr} {H : Hp} {x : D} {xs : List D} {v : V} (r : Rep K μ H x v) (e : x.its = some xs) : 
    (∃ a us, v = .ref a ∧ Fz K H a us ∧ Reps K μ H xs us) ∨ (∃ a us, v = .ref a ∧ SqT K H a us ∧ Reps K μ H xs us) ∨ (∃ n, v = .str (toStr n) ∧ chars n = some xs) := by
  cases x with
  | tup ys => cases e; cases r with | tup h r => exact .inr (.inl ⟨_, _, rfl, h, r⟩)
  | lst ys => cases e; cases r with | lst h r => exact .inl ⟨_, _, rfl, h, r⟩
  | str n =>
    cases r
    simp only [D.its] at e
    split at e
    · exact .inr (.inr ⟨n, rfl, e⟩)
    · cases e
  | _ => cases e
theorem si_seq {fz : Bool} {tg e : Expr} {c : CE} (h : SE cl gl X e c) : SI cl gl X fz tg e (.seq c) := fun H0 env m => by
  refine ⟨fun pins s σ H R I hw => ?_⟩
  obtain ⟨μ, er, hr, xs, m', ev, q⟩ := hw
  simp only [evI] at ev
  obtain ⟨x, m1, e1, ev⟩ := bind_ok ev
  cases fz with
  | true =>
    rw [if_pos rfl] at ev
    split at ev
    · rename_i y hy
      obtain ⟨e2, rfl⟩ := of_ok ev
      refine (pi_any (se_frz h H0 env m)).run pins s σ H R I ?_
      refine ⟨μ, er, hr, x, y, m1, e1, hy, fun v H1 μ1 ex1 hr1 r1 => ?_⟩
      rcases Lk.of_frz r1 e2 with ⟨a, us, rfl, hs, r⟩ | ⟨a, us, rfl, hs, r⟩ | ⟨n, rfl, hc⟩
      · exact .inl ⟨a, us, rfl, hs.sq, q _ _ _ ex1 hr1 ⟨0, yld_list r fun μ' H' p => ⟨p, (Fz.fx p hs).sq⟩⟩⟩
      · exact .inr (.inl ⟨a, us, rfl, hs, q _ _ _ ex1 hr1 ⟨0, yld_tup r fun μ' H' p => ⟨p, SqT.fx p hs⟩⟩⟩)
      · exact .inr (.inr ⟨_, rfl, q _ _ _ ex1 hr1 ⟨0, yld_str hc⟩⟩)
    · cases ev
  | false =>
    rw [if_neg Bool.false_ne_true] at ev
    obtain ⟨e2, rfl⟩ := of_ok ev
    refine (pi_any (h H0 env m)).run pins s σ H R I ?_
    refine ⟨μ, er, hr, x, m1, e1, fun v H1 μ1 ex1 hr1 r1 => ?_⟩
    have own : ∀ o : Ob, o.d.its = some xs → (∃ a, v = .ref a ∧ ObR X.K μ1 H1 a o ∧ a ∉ μ1) → (∃ a us, v = .ref a ∧ SqL X.K H1 a us ∧ R (Itl X.K a) H1) := fun o ho ⟨a, hv, hb, hn⟩ => by
      cases o with
      | lst ys =>
        cases ho
        obtain ⟨us, h1, r⟩ := hb
        exact ⟨a, us, hv, SqL.of h1, q _ _ _ ex1 hr1 ⟨0, yld_list r fun μ' H' p => ⟨Ex.fx p, SqL.of (Ex.keep p _ _ h1 hn)⟩⟩⟩
      | _ => exact hb.elim
    cases x with
    | d y =>
      rcases Lk.of_frz r1 e2 with ⟨a, us, rfl, hs, r⟩ | ⟨a, us, rfl, hs, r⟩ | ⟨n, rfl, hc⟩
      · exact .inl ⟨a, us, rfl, hs.sq, q _ _ _ ex1 hr1 ⟨0, yld_list r fun μ' H' p => ⟨Ex.fx p, (Fz.fx (Ex.fx p) hs).sq⟩⟩⟩
      · exact .inr (.inl ⟨a, us, rfl, hs, q _ _ _ ex1 hr1 ⟨0, yld_tup r fun μ' H' p => ⟨Ex.fx p, SqT.fx (Ex.fx p) hs⟩⟩⟩)
      · exact .inr (.inr ⟨_, rfl, q _ _ _ ex1 hr1 ⟨0, yld_str hc⟩⟩)
    | own o =>
      obtain ⟨a, hv, hb, hn, _⟩ := r1
      exact .inl (own o e2 ⟨a, hv, hb, hn⟩)
    | brw o => exact .inl (own o e2 r1)
theorem small_ok {i : Int} (h : small i = true) : -(2 ^ 62) ≤ i ∧ i < 2 ^ 62 := of_decide_eq_true h
theorem si_rng1 {fz : Bool} {tg a : Expr} {c : CE} {p pos : Pos} (h : SE cl gl X a c) (hn : noStar a = true) (hg : L2.Gl X "range") (hm : X.mg "range" = none) : SI cl gl X fz tg (.Call (.Name "range" p) [a] [] pos) (.rng1 c) := fun H0 env m => by
  refine ⟨fun pins s σ H R I hw => ?_⟩
  obtain ⟨μ, er, hr, xs, m', ev, q⟩ := hw
  simp only [evI] at ev
  obtain ⟨x, m1, e1, ev⟩ := bind_ok ev
  split at ev
  · rename_i n
    split at ev
    · rename_i hs
      obtain ⟨rfl, rfl⟩ := ok_inj ev
      have pa : PA X [a] (tCons (tE X.K cl gl H0 c env m) tNil) := pa_cons (h H0 env m) pa_nil (starEach_cons hn)
      refine (pi_range1 hg hm pa (starEach_cons hn)).run pins s σ H R I ?_
      refine ⟨μ, er, hr, _, m1, e1, fun v H1 μ1 ex1 hr1 r1 => ?_⟩
      cases r1
      obtain ⟨s1, s2⟩ := small_ok hs
      exact ⟨n, rfl, s1, s2, q _ _ _ ex1 hr1 ⟨0, yld_rng 0 _⟩⟩
    · cases ev
  · cases ev
theorem si_rng2 {fz : Bool} {tg a b : Expr} {ca cb : CE} {p pos : Pos} (ha : SE cl gl X a ca) (hb : SE cl gl X b cb) (hn : noStar a = true) (hn2 : noStar b = true) (hg : L2.Gl X "range") (hm : X.mg "range" = none) : SI cl gl X fz tg (.Call (.Name "range" p) [a, b] [] pos) (.rng2 ca cb) := fun H0 env m => by
  refine ⟨fun pins s σ H R I hw => ?_⟩
  obtain ⟨μ, er, hr, xs, m', ev, q⟩ := hw
  simp only [evI] at ev
  obtain ⟨x, m1, e1, ev⟩ := bind_ok ev
  obtain ⟨y, m2, e2, ev⟩ := bind_ok ev
  split at ev
  · rename_i n k
    split at ev
    · rename_i hs
      rw [Bool.and_eq_true] at hs
      obtain ⟨rfl, rfl⟩ := ok_inj ev
      have s1 := starEach_cons (es := [b]) (env := X.env) hn
      have s2 : starEach [b] X.env = [(false, eval b X.env)] := starEach_cons hn2
      have pa : PA X [a, b] (tCons (tE X.K cl gl H0 ca env m) (tCons (tE X.K cl gl H0 cb env m1) tNil)) := pa_cons (ha H0 env m) (pa_cons (hb H0 env m1) pa_nil (starEach_cons hn2)) (starEach_cons hn)
      refine (pi_range2 hg hm pa (by rw [s1, s2]) s2).run pins s σ H R I ?_
      refine ⟨μ, er, hr, _, m1, e1, fun v H1 μ1 ex1 hr1 r1 => ⟨μ1, er.ex ex1, hr1, _, m2, e2, fun u H2 μ2 ex2 hr2 r2 => ?_⟩⟩
      cases r1
      cases r2
      obtain ⟨a1, a2⟩ := small_ok hs.1
      obtain ⟨b1, b2⟩ := small_ok hs.2
      exact ⟨_, _, rfl, ⟨a1, a2, b1, b2⟩, q _ _ _ (ex1.trans ex2) hr2 ⟨0, yld_rng _ _⟩⟩
    · cases ev
  · cases ev

/-! ### list comprehensions -/
/-- a thing that stands in no number is changed -/
theorem Ex.mut {K : PySem.W.Frag} {μ μ1 : List Addr} {H H1 : Hp} {m : Mem} {a : Addr} {us : List V} {o : HO} (e : Ex μ H μ1 H1) (hr : Hr K μ1 H1 m) (h1 : H1 a = some (.lst us)) (h0 : H a = none) (n : a ∉ μ1) :
    Ex μ H μ1 (upd H1 a o) ∧ Fx μ1 H1 μ1 (upd H1 a o) ∧ Hr K μ1 (upd H1 a o) m := by
  have f : Fx μ1 H1 μ1 (upd H1 a o) := ⟨⟨[], by simp⟩, fun b xs q => by rw [upd_ne (fun z => by rw [z, h1] at q; cases q)]; exact q, fun b o' u q => by rw [upd_ne (fun z => by rw [z, h1] at q; cases q)]; exact q⟩
  refine ⟨⟨e.fx.trans f, fun b u q nb => ?_, e.new⟩, f, hr.keep f fun b us' hb q => ?_⟩
  · rw [upd_ne (ne_of_none q h0)]; exact e.keep b u q nb
  · rw [upd_ne (fun z => n (by rw [← z]; exact hb))]; exact q
def SPt (cl : Cl) (gl : Gl) (X : Cx) (ifs : List Expr) (c : CT) : Prop := ∀ H0 env m, PTs X ifs (tT X.K cl gl H0 c env m)
theorem spt_nil : SPt cl gl X [] .yes := fun H0 env m => by
  refine ⟨fun pins s σ H Q I hw => ?_⟩
  obtain ⟨μ, er, hr, b, m', ev, q⟩ := hw
  simp only [evT] at ev
  obtain ⟨rfl, rfl⟩ := ok_inj ev
  exact pts_nil.run pins s σ H Q I (q H μ (.refl μ H) hr)
theorem spt_one {e : Expr} {c : CT} (h : ST cl gl X e c) : SPt cl gl X [e] c := fun H0 env m => pts_one (h H0 env m)
/-- the same, the names and the memory left open -/
def tTx (K : PySem.W.Frag) (cl : Cl) (gl : Gl) (c : CT) : TT := fun σ H Q => ∃ H0 env m, tT K cl gl H0 c env m σ H Q
def tEx (K : PySem.W.Frag) (cl : Cl) (gl : Gl) (c : CE) : TE := fun σ H Q => ∃ H0 env m, tEz K cl gl H0 c env m σ H Q
theorem SPt.x {ifs : List Expr} {c : CT} (h : SPt cl gl X ifs c) : PTs X ifs (tTx X.K cl gl c) := ⟨fun pins s σ H Q I ⟨H0, env, m, hw⟩ => (h H0 env m).run pins s σ H Q I hw⟩
theorem SE.x {e : Expr} {c : CE} (h : SE cl gl X e c) : PE X e (tEx X.K cl gl c) := ⟨fun pins s σ H Q I ⟨H0, env, m, hw⟩ => (se_frz h H0 env m).run pins s σ H Q I hw⟩

theorem wipe_in {σ : L2.St} : ∀ {vs ws : List Nat}, (∀ v ∈ vs, v ∈ ws) → wipe (wipe σ vs) ws = wipe σ ws
  | [], _, _ => rfl
  | v :: vs, ws, h => by
    show wipe ((wipe σ vs).set v none) ws = _
    rw [wipe_set.1 (h v List.mem_cons_self)]
    exact wipe_in fun x hx => h x (List.mem_cons_of_mem _ hx)
/-- what a change of a thing that no name bears leaves of the names -/
theorem Er.mutD {K : PySem.W.Frag} {μ : List Addr} {H H0 : Hp} {env : Env} {σ : L2.St} {a : Addr} {o : HO} (er : Er K μ H H0 env σ) (f : Fx μ H μ (upd H a o)) (nd : ∀ (i : Nat) (o : Ob), env[i]? = some (some (.own o)) → σ[i]? ≠ some (some (.ref a))) : Er K μ (upd H a o) H0 env σ := by
  refine ⟨er.len, fun i x e => ?_, er.dis⟩
  obtain ⟨v, h1, h2, nb⟩ := er.val i x e
  refine ⟨v, h1, ?_, nb⟩
  cases x with
  | d y => exact Rep.fx f h2
  | own o =>
    obtain ⟨b, rfl, hb, hn, h0⟩ := h2
    refine ⟨b, rfl, ?_, hn, h0⟩
    cases o with
    | lst xs =>
      obtain ⟨ws, h3, h4⟩ := hb
      exact ⟨ws, by rw [upd_ne (fun z => nd i _ e (by rw [← z]; exact h1))]; exact h3, h4.fx f⟩
    | _ => exact hb.elim
  | brw o => cases nb
/-- the turns of a comprehension's loop, its list at D -/
theorem lc_loop {K : PySem.W.Frag} {t : TGt} {cc : CT} {ce : CE} {vs : List Nat} (hv : tgIn vs t = true) {σ : L2.St} {H0 : Hp} {env : Env} {μ1 μa : List Addr} {H1 Ha : Hp} {J : It} {P : List Addr → Hp → Prop} {xs acc rest : List D} {us : List V} {ma m2 : Mem} {D : Addr} {Qd : Hp → Prop}
    (hD : H1 D = none) (yl : Yld K P xs J) (hP : ∀ μ H, Ex μ1 H1 μ H → Fx μa Ha μ H → P μ H) (nd : ∀ (i : Nat) (o : Ob), env[i]? = some (some (.own o)) → σ[i]? ≠ some (some (.ref D))) (era : Er K μa Ha H0 env σ) (hra : Hr K μa Ha ma) (exa : Ex μ1 H1 μa Ha) (hda : Ha D = some (.lst us)) (raa : Reps K μa Ha acc us) (hna : D ∉ μa)
    (ev : lcL t (evT cl gl cc) (fun e' m' => (evE cl gl ce e' m').bind fun v m2 => Rs.of v.frz m2) xs (wip env vs) ma = .ok rest m2) (hl : (acc ++ rest).length ≤ sizeLine)
    (q : ∀ μ' H' us', Ex μ1 H1 μ' H' → Fx μa Ha μ' H' → Hr K μ' H' m2 → H' D = some (.lst us') → Reps K μ' H' (acc ++ rest) us' → D ∉ μ' → Qd H') :
    ∃ W : Nat → Nat → Hp → Prop, (∃ m, W 0 m Ha) ∧ ∀ i m H, W i m H →
      (J.stop i H ∧ Qd H) ∨ (J.go i H ∧ ∃ Nx : Hp → Prop, (∀ H', Nx H' → ∃ m', m' < m ∧ W (i + 1) m' H') ∧ ∀ x H', J.yld i H x H' → tGd K t x (wipe σ vs) H' fun σ2 H2 => wipe σ2 vs = wipe σ vs ∧ tTx K cl gl cc σ2 H2 fun b H3 =>
        if b = true then tEx K cl gl ce σ2 H3 fun y H4 => ∃ acc, H4 D = some (.lst acc) ∧ acc.length < sizeLine ∧ Nx (upd H4 D (.lst (acc ++ [y]))) else Nx H3) := by
  generalize hys : acc ++ rest = ys at hl q
  refine ⟨fun i n H => n = xs.length - i ∧ i ≤ xs.length ∧ ∃ μ mi acc us rest, Er K μ H H0 env σ ∧ Ex μ1 H1 μ H ∧ Fx μa Ha μ H ∧ Hr K μ H mi ∧ H D = some (.lst us) ∧ Reps K μ H acc us ∧ D ∉ μ ∧
    lcL t (evT cl gl cc) (fun e' m' => (evE cl gl ce e' m').bind fun v m2 => Rs.of v.frz m2) (xs.drop i) (wip env vs) mi = .ok rest m2 ∧ ys = acc ++ rest, ⟨xs.length, by omega, Nat.zero_le _, μa, ma, acc, us, rest, era, exa, .refl _ _, hra, hda, raa, hna, ev, hys.symm⟩, ?_⟩
  clear ev hda raa hna hra exa era hys acc rest us ma
  rintro i n H ⟨rfl, hi, μ, mi, acc, us, rest, er, ex, fa, hri, hd, ra, hn, ev, ey⟩
  have p := hP μ H ex fa
  by_cases c : i < xs.length
  · refine .inr ⟨yl.go i μ H p c, ?_⟩
    have exi : xs.drop i = xs[i] :: xs.drop (i + 1) := List.drop_eq_getElem_cons c
    rw [exi] at ev
    simp only [lcL] at ev
    split at ev
    · cases ev
    · rename_i e1 he1
      obtain ⟨b, m3, e2, ev⟩ := bind_ok ev
      refine ⟨fun H' => ∃ μ' mi' acc' us' rest', Er K μ' H' H0 env σ ∧ Ex μ1 H1 μ' H' ∧ Fx μa Ha μ' H' ∧ Hr K μ' H' mi' ∧ H' D = some (.lst us') ∧ Reps K μ' H' acc' us' ∧ D ∉ μ' ∧
        lcL t (evT cl gl cc) (fun e' m' => (evE cl gl ce e' m').bind fun v m2 => Rs.of v.frz m2) (xs.drop (i + 1)) (wip env vs) mi' = .ok rest' m2 ∧ ys = acc' ++ rest', fun H' h => ⟨xs.length - (i + 1), by omega, rfl, c, h⟩, fun v H' y => ?_⟩
      obtain ⟨x, hx, ex2, hr2, rx⟩ := yl.yl i μ H v H' mi p c hri y
      rw [List.getElem?_eq_getElem c] at hx
      cases hx
      have erw := (er.ex ex2).wipe vs
      refine ⟨μ, H0, wip env vs, _, e1, erw, rx, he1, fun σ2 er2 w2 _ => ⟨(w2 vs hv).trans (wipe_in fun _ h => h), H0, e1, mi, μ, er2, hr2, b, m3, e2, fun H3 μ3 ex3 hr3 => ?_⟩⟩
      have exx := (ex.trans ex2).trans ex3
      have d2 : H' D = some (.lst us) := ex2.keep _ _ hd hn
      have d3 : H3 D = some (.lst us) := ex3.keep _ _ d2 hn
      have n3 : D ∉ μ3 := ex3.out d2 hn
      have er3 := er.ex (ex2.trans ex3)
      have fa3 := (fa.trans ex2.fx).trans ex3.fx
      cases b with
      | false =>
        dsimp only
        rw [if_neg Bool.false_ne_true] at ev ⊢
        exact ⟨μ3, m3, acc, us, rest, er3, exx, fa3, hr3, d3, (ra.fx ex2.fx).fx ex3.fx, n3, ev, ey⟩
      | true =>
        dsimp only
        rw [if_pos rfl] at ev ⊢
        obtain ⟨yv, m4, e4, ev⟩ := bind_ok ev
        obtain ⟨yr, m5, e5, e6⟩ := bind_ok e4
        obtain ⟨e7, rfl⟩ := of_ok e6
        obtain ⟨zs, m6, e8, ev⟩ := bind_ok ev
        obtain ⟨rfl, rfl⟩ := ok_inj ev
        refine ⟨H0, e1, m3, μ3, er2.ex ex3, hr3, yr, yv, m5, e5, e7, fun yy H4 μ4 ex4 hr4 r4 => ?_⟩
        have d4 : H4 D = some (.lst us) := ex4.keep _ _ d3 n3
        have n4 : D ∉ μ4 := ex4.out d3 n3
        have ra4 := ((ra.fx ex2.fx).fx ex3.fx).fx ex4.fx
        obtain ⟨a1, a2, a3⟩ := Ex.mut (o := .lst (us ++ [yy])) (exx.trans ex4) hr4 d4 hD n4
        refine ⟨us, d4, ?_, μ4, m5, acc ++ [yv], us ++ [yy], zs, (er3.ex ex4).mutD a2 nd, a1, (fa3.trans ex4.fx).trans a2, a3, upd_same, (ra4.append (.cons r4 .nil)).fx a2, n4, e8, by rw [ey, List.append_assoc]; rfl⟩
        have h1 := hl
        rw [ey, List.length_append, List.length_cons] at h1
        rw [← ra.length]
        omega
  · have hi' : i = xs.length := by omega
    subst hi'
    refine .inl ⟨yl.stop _ μ H p (Nat.le_refl _), ?_⟩
    rw [List.drop_length] at ev
    simp only [lcL] at ev
    obtain ⟨rfl, rfl⟩ := ok_inj ev
    rw [List.append_nil] at ey
    subst ey
    exact q μ H us ex fa hri hd ra hn
theorem no_own {K : PySem.W.Frag} {μ : List Addr} {H H0 : Hp} {env : Env} {σ : L2.St} {D : Addr} (er : Er K μ H H0 env σ) (hD : H D = none) : ∀ (i : Nat) (o : Ob), env[i]? = some (some (.own o)) → σ[i]? ≠ some (some (.ref D)) := fun i o e z => by
  obtain ⟨v, h1, ⟨a, rfl, hb, _⟩, _⟩ := er.val i _ e
  rw [h1] at z
  cases z
  cases o with
  | lst xs => obtain ⟨us, h2, _⟩ := hb; rw [hD] at h2; cases h2
  | _ => exact hb.elim
theorem lc_turns {K : PySem.W.Frag} {t : TGt} {cc : CT} {ce : CE} {vs : List Nat} (hv : tgIn vs t = true) {σ : L2.St} {H0 : Hp} {env : Env} {μ1 : List Addr} {H1 : Hp} {J : It} {xs ys : List D} {m1 m2 : Mem} {Q : VK}
    (er : Er K μ1 H1 H0 env σ) (hr : Hr K μ1 H1 m1) (yl : Yld K (Pz false μ1 H1) xs J) (ev : lcL t (evT cl gl cc) (fun e' m' => (evE cl gl ce e' m').bind fun v m2 => Rs.of v.frz m2) xs (wip env vs) m1 = .ok ys m2) (hl : okLen ys = true)
    (q : ∀ D μ' H' us, Ex μ1 H1 μ' H' → Hr K μ' H' m2 → H' D = some (.lst us) → Reps K μ' H' ys us → D ∉ μ' → H1 D = none → Q (.ref D) H') :
    ∀ D, H1 D = none → ∃ W : Nat → Nat → Hp → Prop, (∃ m, W 0 m (upd H1 D (.lst []))) ∧ ∀ i m H, W i m H →
      (J.stop i H ∧ Q (.ref D) H) ∨ (J.go i H ∧ ∃ Nx : Hp → Prop, (∀ H', Nx H' → ∃ m', m' < m ∧ W (i + 1) m' H') ∧ ∀ x H', J.yld i H x H' → tGd K t x (wipe σ vs) H' fun σ2 H2 => wipe σ2 vs = wipe σ vs ∧ tTx K cl gl cc σ2 H2 fun b H3 =>
        if b = true then tEx K cl gl ce σ2 H3 fun y H4 => ∃ acc, H4 D = some (.lst acc) ∧ acc.length < sizeLine ∧ Nx (upd H4 D (.lst (acc ++ [y]))) else Nx H3) := fun D hD =>
  lc_loop (acc := []) (us := []) hv hD yl (fun μ H e _ => e) (no_own er hD) (er.ex (.laid hD)) (hr.laid hD) (.laid hD) upd_same .nil (hr.nofree hD) ev (okLen_le hl) fun μ' H' us' a _ b c d e => q D μ' H' us' a b c d e hD
/-- the block of a comprehension: its context -/
abbrev Blk (X : Cx) (scope : Scope) (s : Shared) (H : Hp) (C : Addr) (c : List (Str × Addr)) (fp : List Addr) : Cx := X.blk s H scope (compEnvC scope c C X.env) fp
theorem se_lc1 {elt tg iter : Expr} {ifs : List Expr} {scope : Scope} {own : List (Str × Nat)} {pos : Pos} {ci : CI} {t : TGt} {cc : CT} {ce : CE} (hc : X.calm = true) (hN : X.N.Nodup) (hi : SI cl gl X false tg iter ci) (ok : BlkOk X.N X.env.scope scope own)
    (hg : ∀ s H C c fp, SG (Blk X scope s H C c fp) tg t) (ht : ∀ s H C c fp, SPt cl gl (Blk X scope s H C c fp) ifs cc) (he : ∀ s H C c fp, SE cl gl (Blk X scope s H C c fp) elt ce) (hv : tgIn (own.map (·.2)) t = true)
    (hs : ∀ x, foldedSetIterable iter X.env x = pure x) : SE cl gl X (.ListComp elt [⟨tg, iter, ifs, 0⟩] scope pos) (.lc1 (own.map (·.2)) t ci cc ce) := fun H0 env m => by
  refine ⟨fun pins s σ H Q I hw => ?_⟩
  obtain ⟨μ, er, hr, rv, m', ev, q⟩ := hw
  simp only [evE] at ev
  obtain ⟨xs, m1, e1, ev⟩ := bind_ok ev
  obtain ⟨ys, m2, e2, ev⟩ := bind_ok ev
  split at ev
  · rename_i hl
    obtain ⟨rfl, rfl⟩ := ok_inj ev
    refine (pe_lc (g := tGd X.K t) (tt := tTx X.K cl gl cc) (te := tEx X.K cl gl ce) hc hN (hi H0 env m) ok (fun s H C c fp => hg s H C c fp) (fun s H C c fp => (ht s H C c fp).x) (fun s H C c fp => (he s H C c fp).x) hs).run pins s σ H Q I ?_
    refine ⟨μ, er, hr, xs, m1, e1, fun J H1 μ1 ex1 hr1 ⟨_, yl⟩ => ?_⟩
    refine lc_turns hv (er.ex ex1) hr1 yl e2 hl fun D μ' H' us ex hr' hd r hn h1 => ?_
    refine q _ _ _ (ex1.trans ex) hr' ⟨D, rfl, ⟨us, hd, r⟩, hn, ?_⟩
    rcases ex1.free h1 with z | z
    · exact absurd (ex.fx.mem (ex1.fx.mem z)) hn
    · exact z
  · cases ev
theorem lc_turns2 {K : PySem.W.Frag} {t t1 : TGt} {ci1 : CI} {cc cc1 : CT} {ce : CE} {vs vs1 : List Nat} (hv : tgIn vs t = true) (hv1 : tgIn vs1 t1 = true) {σ : L2.St} {H0 : Hp} {env : Env} {μ1 : List Addr} {H1 : Hp} {J : It} {xs ys : List D} {m1 m2 : Mem} {Q : VK}
    (er : Er K μ1 H1 H0 env σ) (hr : Hr K μ1 H1 m1) (yl : Yld K (Pz false μ1 H1) xs J)
    (ev : lcO t (evT cl gl cc) (fun e' m' => (evI cl gl true ci1 e' m').bind fun zs m2 => lcL t1 (evT cl gl cc1) (fun e' m' => (evE cl gl ce e' m').bind fun v m2 => Rs.of v.frz m2) zs (wip e' vs1) m2) xs (wip env vs) m1 = .ok ys m2) (hl : okLen ys = true)
    (q : ∀ D μ' H' us, Ex μ1 H1 μ' H' → Hr K μ' H' m2 → H' D = some (.lst us) → Reps K μ' H' ys us → D ∉ μ' → H1 D = none → Q (.ref D) H') :
    ∀ D, H1 D = none → ∃ W : Nat → Nat → Hp → Prop, (∃ m, W 0 m (upd H1 D (.lst []))) ∧ ∀ i m H, W i m H →
      (J.stop i H ∧ Q (.ref D) H) ∨ (J.go i H ∧ ∃ Nx : Hp → Prop, (∀ H', Nx H' → ∃ m', m' < m ∧ W (i + 1) m' H') ∧ ∀ x H', J.yld i H x H' → tGd K t x (wipe σ vs) H' fun σ2 H2 => wipe σ2 vs = wipe σ vs ∧ tTx K cl gl cc σ2 H2 fun b H3 =>
        if b = true then (∃ H0 env m, tI K cl gl H0 true ci1 env m σ2 H3 fun J1 H4 => ∃ W1 : Nat → Nat → Hp → Prop, (∃ m, W1 0 m H4) ∧ ∀ j k H, W1 j k H →
          (J1.stop j H ∧ Nx H) ∨ (J1.go j H ∧ ∃ Nx1 : Hp → Prop, (∀ H', Nx1 H' → ∃ k', k' < k ∧ W1 (j + 1) k' H') ∧ ∀ x H', J1.yld j H x H' → tGd K t1 x (wipe σ2 vs1) H' fun σ3 H5 => wipe σ3 vs1 = wipe σ2 vs1 ∧ tTx K cl gl cc1 σ3 H5 fun b H6 =>
            if b = true then tEx K cl gl ce σ3 H6 fun y H7 => ∃ acc, H7 D = some (.lst acc) ∧ acc.length < sizeLine ∧ Nx1 (upd H7 D (.lst (acc ++ [y]))) else Nx1 H6))
        else Nx H3) := fun D hD => by
  have nd := no_own er hD
  have hl' := okLen_le hl
  refine ⟨fun i n H => n = xs.length - i ∧ i ≤ xs.length ∧ ∃ μ mi acc us rest, Er K μ H H0 env σ ∧ Ex μ1 H1 μ H ∧ Hr K μ H mi ∧ H D = some (.lst us) ∧ Reps K μ H acc us ∧ D ∉ μ ∧
    lcO t (evT cl gl cc) (fun e' m' => (evI cl gl true ci1 e' m').bind fun zs m2 => lcL t1 (evT cl gl cc1) (fun e' m' => (evE cl gl ce e' m').bind fun v m2 => Rs.of v.frz m2) zs (wip e' vs1) m2) (xs.drop i) (wip env vs) mi = .ok rest m2 ∧ ys = acc ++ rest,
    ⟨xs.length, by omega, Nat.zero_le _, μ1, m1, [], [], ys, er.ex (.laid hD), .laid hD, hr.laid hD, upd_same, .nil, hr.nofree hD, ev, rfl⟩, ?_⟩
  rintro i n H ⟨rfl, hi, μ, mi, acc, us, rest, er', ex, hri, hd, ra, hn, ev', ey⟩
  have p : Pz false μ1 H1 μ H := ex
  by_cases c : i < xs.length
  · refine .inr ⟨yl.go i μ H p c, ?_⟩
    have exi : xs.drop i = xs[i] :: xs.drop (i + 1) := List.drop_eq_getElem_cons c
    rw [exi] at ev'
    simp only [lcO] at ev'
    split at ev'
    · cases ev'
    · rename_i e1 he1
      obtain ⟨b, m3, e2, ev'⟩ := bind_ok ev'
      refine ⟨fun H' => ∃ μ' mi' acc' us' rest', Er K μ' H' H0 env σ ∧ Ex μ1 H1 μ' H' ∧ Hr K μ' H' mi' ∧ H' D = some (.lst us') ∧ Reps K μ' H' acc' us' ∧ D ∉ μ' ∧
        lcO t (evT cl gl cc) (fun e' m' => (evI cl gl true ci1 e' m').bind fun zs m2 => lcL t1 (evT cl gl cc1) (fun e' m' => (evE cl gl ce e' m').bind fun v m2 => Rs.of v.frz m2) zs (wip e' vs1) m2) (xs.drop (i + 1)) (wip env vs) mi' = .ok rest' m2 ∧ ys = acc' ++ rest', fun H' h => ⟨xs.length - (i + 1), by omega, rfl, c, h⟩, fun v H' y => ?_⟩
      obtain ⟨x, hx, ex2, hr2, rx⟩ := yl.yl i μ H v H' mi p c hri y
      rw [List.getElem?_eq_getElem c] at hx
      cases hx
      have erw := (er'.ex ex2).wipe vs
      refine ⟨μ, H0, wip env vs, _, e1, erw, rx, he1, fun σ2 er2 w2 ow => ⟨(w2 vs hv).trans (wipe_in fun _ h => h), H0, e1, mi, μ, er2, hr2, b, m3, e2, fun H3 μ3 ex3 hr3 => ?_⟩⟩
      have exx := (ex.trans ex2).trans ex3
      have d2 : H' D = some (.lst us) := ex2.keep _ _ hd hn
      have d3 : H3 D = some (.lst us) := ex3.keep _ _ d2 hn
      have n3 : D ∉ μ3 := ex3.out d2 hn
      have er3 := er'.ex (ex2.trans ex3)
      have ra3 := (ra.fx ex2.fx).fx ex3.fx
      have nd2 : ∀ (i : Nat) (o : Ob), e1[i]? = some (some (.own o)) → σ2[i]? ≠ some (some (.ref D)) := fun j o e z => by
        obtain ⟨a1, a2⟩ := ow j o e
        rw [a2] at z
        have z' := (wipe_some z).1
        have w' : (∀ (ws : List Nat) (env : Env), (wip env ws)[j]? = some (some (.own o)) → env[j]? = some (some (.own o))) := by
          intro ws
          induction ws with
          | nil => intro env h; exact h
          | cons w ws ih =>
            intro env h
            have h : ((wip env ws).set w none)[j]? = some (some (.own o)) := h
            by_cases cw : w = j
            · subst cw
              by_cases cl : w < (wip env ws).length
              · rw [List.getElem?_set_self cl] at h; cases h
              · rw [List.getElem?_eq_none (by simpa using cl)] at h; cases h
            · rw [List.getElem?_set_ne cw] at h
              exact ih env h
        exact nd j o (w' vs env a1) z'
      cases b with
      | false =>
        dsimp only
        rw [if_neg Bool.false_ne_true] at ev' ⊢
        exact ⟨μ3, m3, acc, us, rest, er3, exx, hr3, d3, ra3, n3, ev', ey⟩
      | true =>
        dsimp only
        rw [if_pos rfl] at ev' ⊢
        obtain ⟨part, m4, e4, ev'⟩ := bind_ok ev'
        obtain ⟨zs, m5, e5, e6⟩ := bind_ok e4
        obtain ⟨more, m6, e8, ev'⟩ := bind_ok ev'
        obtain ⟨rfl, rfl⟩ := ok_inj ev'
        refine ⟨H0, e1, m3, μ3, er2.ex ex3, hr3, zs, m5, e5, fun J1 H4 μ4 ex4 hr4 ⟨_, yl1⟩ => ?_⟩
        have d4 : H4 D = some (.lst us) := ex4.keep _ _ d3 n3
        have n4 : D ∉ μ4 := ex4.out d3 n3
        refine lc_loop (acc := acc) (us := us) hv1 hD yl1 (fun μ H _ f => f) nd2 (er2.ex (ex3.trans ex4)) hr4 (exx.trans ex4) d4 (ra3.fx ex4.fx) n4 e6 ?_ fun μ' H' us' a1 a2 a3 a4 a5 a6 => ?_
        · rw [ey] at hl'
          simp only [List.length_append] at hl' ⊢
          omega
        · refine ⟨μ', m4, acc ++ part, us', more, ?_, a1, a3, a4, a5, a6, e8, by rw [ey, List.append_assoc]⟩
          have b1 := er.ex (.laid (o := .lst []) hD)
          exact er.ex a1
  · have hi' : i = xs.length := by omega
    subst hi'
    refine .inl ⟨yl.stop _ μ H p (Nat.le_refl _), ?_⟩
    rw [List.drop_length] at ev'
    simp only [lcO] at ev'
    obtain ⟨rfl, rfl⟩ := ok_inj ev'
    rw [List.append_nil] at ey
    subst ey
    exact q D μ H us ex hri hd ra hn hD
def tIx (K : PySem.W.Frag) (cl : Cl) (gl : Gl) (c : CI) : TI := fun σ H R => ∃ H0 env m, tI K cl gl H0 true c env m σ H R
theorem SI.x {tg e : Expr} {c : CI} (h : SI cl gl X true tg e c) : PI X tg e (tIx X.K cl gl c) := ⟨fun pins s σ H R I ⟨H0, env, m, hw⟩ => (h H0 env m).run pins s σ H R I hw⟩
theorem se_lc2 {elt tg iter tg1 iter1 : Expr} {ifs ifs1 : List Expr} {scope : Scope} {own : List (Str × Nat)} {vs1 : List Nat} {pos : Pos} {ci ci1 : CI} {t t1 : TGt} {cc cc1 : CT} {ce : CE} (hc : X.calm = true) (hN : X.N.Nodup) (hi : SI cl gl X false tg iter ci) (ok : BlkOk X.N X.env.scope scope own)
    (hvs : ∀ i ∈ vs1, i ∈ own.map (·.2)) (hg : ∀ s H C c fp, SG (Blk X scope s H C c fp) tg t) (ht : ∀ s H C c fp, SPt cl gl (Blk X scope s H C c fp) ifs cc)
    (hi1 : ∀ s H C c fp, SI cl gl (Blk X scope s H C c fp) true tg1 iter1 ci1) (hg1 : ∀ s H C c fp, SG (Blk X scope s H C c fp) tg1 t1) (ht1 : ∀ s H C c fp, SPt cl gl (Blk X scope s H C c fp) ifs1 cc1)
    (he : ∀ s H C c fp, SE cl gl (Blk X scope s H C c fp) elt ce) (hv : tgIn (own.map (·.2)) t = true) (hv1 : tgIn vs1 t1 = true)
    (hs : ∀ x, foldedSetIterable iter X.env x = pure x) (hs1 : ∀ env x, foldedSetIterable iter1 env x = pure x) : SE cl gl X (.ListComp elt [⟨tg, iter, ifs, 0⟩, ⟨tg1, iter1, ifs1, 0⟩] scope pos) (.lc2 (own.map (·.2)) t ci cc vs1 t1 ci1 cc1 ce) := fun H0 env m => by
  refine ⟨fun pins s σ H Q I hw => ?_⟩
  obtain ⟨μ, er, hr, rv, m', ev, q⟩ := hw
  simp only [evE] at ev
  obtain ⟨xs, m1, e1, ev⟩ := bind_ok ev
  obtain ⟨ys, m2, e2, ev⟩ := bind_ok ev
  split at ev
  · rename_i hl
    obtain ⟨rfl, rfl⟩ := ok_inj ev
    refine (pe_lc2 (g := tGd X.K t) (tt := tTx X.K cl gl cc) (g1 := tGd X.K t1) (tt1 := tTx X.K cl gl cc1) (wi1 := tIx X.K cl gl ci1) (te := tEx X.K cl gl ce) hc hN (hi H0 env m) ok hvs (fun s H C c fp => hg s H C c fp) (fun s H C c fp => (ht s H C c fp).x)
      (fun s H C c fp => (hi1 s H C c fp).x) (fun s H C c fp => hg1 s H C c fp) (fun s H C c fp => (ht1 s H C c fp).x) (fun s H C c fp => (he s H C c fp).x) hs hs1).run pins s σ H Q I ?_
    refine ⟨μ, er, hr, xs, m1, e1, fun J H1 μ1 ex1 hr1 ⟨_, yl⟩ => ?_⟩
    refine lc_turns2 hv hv1 (er.ex ex1) hr1 yl e2 hl fun D μ' H' us ex hr' hd r hn h1 => ?_
    refine q _ _ _ (ex1.trans ex) hr' ⟨D, rfl, ⟨us, hd, r⟩, hn, ?_⟩
    rcases ex1.free h1 with z | z
    · exact absurd (ex.fx.mem (ex1.fx.mem z)) hn
    · exact z
  · cases ev
end
end Gx

set_option Elab.async false
set_option linter.all false
set_option maxRecDepth 100000
set_option maxHeartbeats 4000000
namespace Gx
open PySem PySem.Spec PyProof.Rows L2

/-- what is wanted behind a statement that began at (μs, Hs), in a def entered at (μ0, H0) -/
def Pst (K : PySem.W.Frag) (μ0 : List Addr) (H0 : Hp) (μs : List Addr) (Hs : Hp) (r : RS) (D : Ends) : Prop :=
  match r with
  | .nx env' m' => ∀ σ' H' μ', Er K μ' H' H0 env' σ' → Hr K μ' H' m' → Ex μ0 H0 μ' H' → Fx μs Hs μ' H' → D.nx σ' H'
  | .bk env' m' => ∀ σ' H' μ', Er K μ' H' H0 env' σ' → Hr K μ' H' m' → Ex μ0 H0 μ' H' → Fx μs Hs μ' H' → D.bk σ' H'
  | .ct env' m' => ∀ σ' H' μ', Er K μ' H' H0 env' σ' → Hr K μ' H' m' → Ex μ0 H0 μ' H' → Fx μs Hs μ' H' → D.ct σ' H'
  | .ret rv m' => ∀ v H' μ', Hr K μ' H' m' → Ex μ0 H0 μ' H' → RvR K μ' H' H0 rv v → notBrw rv = true → D.rt v H'
  | _ => False
theorem Pst.later {K : PySem.W.Frag} {μ0 μs μ : List Addr} {H0 Hs H : Hp} {r : RS} {D : Ends} (f : Fx μs Hs μ H) (h : Pst K μ0 H0 μs Hs r D) : Pst K μ0 H0 μ H r D := by
  cases r with
  | nx e m => exact fun σ' H' μ' a b c d => h σ' H' μ' a b c (f.trans d)
  | bk e m => exact fun σ' H' μ' a b c d => h σ' H' μ' a b c (f.trans d)
  | ct e m => exact fun σ' H' μ' a b c d => h σ' H' μ' a b c (f.trans d)
  | ret v m => exact h
  | ex c as m => exact h
  | no => exact h
def tS (K : PySem.W.Frag) (f : Env → Mem → RS) : TS := fun D σ H => ∃ μ0 H0 env m μ, Er K μ H H0 env σ ∧ Hr K μ H m ∧ Ex μ0 H0 μ H ∧ Pst K μ0 H0 μ H (f env m) D
def SS (cl : Cl) (gl : Gl) (X : Cx) (st : Stmt) (c : CS) : Prop := PS X st (tS X.K (evS cl gl c))
def SSs (cl : Cl) (gl : Gl) (X : Cx) (sts : List Stmt) (cs : CSs) : Prop := PSs X sts (tS X.K (evSs cl gl cs))
theorem bindS_cases {α : Type} {r : Rs α} {f : α → Mem → RS} {K : PySem.W.Frag} {μ0 μs : List Addr} {H0 Hs : Hp} {D : Ends} (h : Pst K μ0 H0 μs Hs (r.bindS f) D) : ∃ a m1, r = .ok a m1 ∧ Pst K μ0 H0 μs Hs (f a m1) D := by
  cases r with
  | ok a m1 => exact ⟨a, m1, rfl, h⟩
  | ex c as m => exact h.elim
  | no => exact h.elim
section
variable {cl : Cl} {gl : Gl} {X : Cx} {pos : Pos}
theorem ss_nil : SSs cl gl X [] .nil := by
  refine ⟨fun pins s σ H D I hw => ?_⟩
  obtain ⟨μ0, H0, env, m, μ, er, hr, ex, q⟩ := hw
  exact pss_nil.run pins s σ H D I (q σ H μ er hr ex (.refl μ H))
theorem ss_cons {st : Stmt} {sts : List Stmt} {c : CS} {cs : CSs} (h : SS cl gl X st c) (hs : SSs cl gl X sts cs) : SSs cl gl X (st :: sts) (.cons c cs) := by
  refine ⟨fun pins s σ H D I hw => ?_⟩
  obtain ⟨μ0, H0, env, m, μ, er, hr, ex, q⟩ := hw
  refine (pss_cons h hs).run pins s σ H D I ⟨μ0, H0, env, m, μ, er, hr, ex, ?_⟩
  simp only [evSs] at q
  cases e : evS cl gl c env m with
  | nx env' m' =>
    rw [e] at q
    exact fun σ' H' μ' a b c' d => ⟨μ0, H0, env', m', μ', a, b, c', q.later d⟩
  | bk env' m' => rw [e] at q; exact q
  | ct env' m' => rw [e] at q; exact q
  | ret v m' => rw [e] at q; exact q
  | ex c as m' => rw [e] at q; exact q.elim
  | no => rw [e] at q; exact q.elim
theorem ss_pass : SS cl gl X (.Pass pos) .pas := by
  refine ⟨fun pins s σ H D I hw => ?_⟩
  obtain ⟨μ0, H0, env, m, μ, er, hr, ex, q⟩ := hw
  exact ps_pass.run pins s σ H D I (q σ H μ er hr ex (.refl μ H))
theorem ss_brk : SS cl gl X (.Break pos) .brk := by
  refine ⟨fun pins s σ H D I hw => ?_⟩
  obtain ⟨μ0, H0, env, m, μ, er, hr, ex, q⟩ := hw
  exact ps_break.run pins s σ H D I (q σ H μ er hr ex (.refl μ H))
theorem ss_cnt : SS cl gl X (.Continue pos) .cnt := by
  refine ⟨fun pins s σ H D I hw => ?_⟩
  obtain ⟨μ0, H0, env, m, μ, er, hr, ex, q⟩ := hw
  exact ps_continue.run pins s σ H D I (q σ H μ er hr ex (.refl μ H))
theorem ss_retN : SS cl gl X (.Return none pos) .retN := by
  refine ⟨fun pins s σ H D I hw => ?_⟩
  obtain ⟨μ0, H0, env, m, μ, er, hr, ex, q⟩ := hw
  exact ps_retN.run pins s σ H D I (q .non H μ hr ex .non rfl)
theorem ss_ret {e : Expr} {c : CE} (h : SE cl gl X e c) : SS cl gl X (.Return (some e) pos) (.ret c) := by
  refine ⟨fun pins s σ H D I hw => ?_⟩
  obtain ⟨μ0, H0, env, m, μ, er, hr, ex, q⟩ := hw
  simp only [evS] at q
  obtain ⟨x, m1, e1, q⟩ := bindS_cases q
  split at q
  · rename_i nb
    refine (ps_ret (h H0 env m)).run pins s σ H D I ⟨μ, er, hr, x, m1, e1, fun v H' μ' ex1 hr1 r1 => ?_⟩
    exact q v H' μ' hr1 (ex.trans ex1) (r1.since ex fun a ha => (ex.trans ex1).fx.mem ha) nb
  · exact q.elim
theorem ss_retV {i : Nat} {x : Str} {p : Pos} (hN : X.N[i]? = some x) (hv : Vis X.env.scope x) (hd : (x == ("__debug__" : Str)) = false) (hcd : (x == ("__classdict__" : Str)) = false) : SS cl gl X (.Return (some (.Name x p)) pos) (.retV i) := by
  refine ⟨fun pins s σ H D I hw => ?_⟩
  obtain ⟨μ0, H0, env, m, μ, er, hr, ex, q⟩ := hw
  simp only [evS] at q
  split at q
  · rename_i v hv'
    obtain ⟨w, h1, h2, nb⟩ := er.val i _ hv'
    exact (ps_ret (pe_var hN hv hd hcd)).run pins s σ H D I ⟨w, h1, q w H μ hr ex h2 nb⟩
  · exact q.elim
theorem ss_if {t : Expr} {a b : List Stmt} {ct : CT} {ca cb : CSs} (ht : ST cl gl X t ct) (ha : SSs cl gl X a ca) (hb : SSs cl gl X b cb) : SS cl gl X (.If t a b pos) (.ifS ct ca cb) := by
  refine ⟨fun pins s σ H D I hw => ?_⟩
  obtain ⟨μ0, H0, env, m, μ, er, hr, ex, q⟩ := hw
  simp only [evS] at q
  obtain ⟨k, m1, e1, q⟩ := bindS_cases q
  refine (ps_if (ht H0 env m) ha hb).run pins s σ H D I ⟨μ, er, hr, k, m1, e1, fun H1 μ1 ex1 hr1 => ?_⟩
  cases k with
  | true =>
    rw [if_pos rfl] at q ⊢
    exact ⟨μ0, H0, env, m1, μ1, er.ex ex1, hr1, ex.trans ex1, q.later ex1.fx⟩
  | false =>
    rw [if_neg Bool.false_ne_true] at q ⊢
    exact ⟨μ0, H0, env, m1, μ1, er.ex ex1, hr1, ex.trans ex1, q.later ex1.fx⟩
/-- expressions whose value is not a comprehension's -/
def noComp : Expr → Bool
  | .ListComp .. => false | .SetComp .. => false | .DictComp .. => false
  | _ => true
theorem sw_no {e : Expr} {o : Option Expr} {l : Nat} {env : PySem.Env} (h : noComp e = true) : swapsWith e o l env = pure false := by
  cases e <;> first | rfl | cases h
theorem ss_exp {e : Expr} {c : CE} (h : SE cl gl X e c) (hn : noComp e = true) : SS cl gl X (.Expr e pos) (.exp c) := by
  refine ⟨fun pins s σ H D I hw => ?_⟩
  obtain ⟨μ0, H0, env, m, μ, er, hr, ex, q⟩ := hw
  simp only [evS] at q
  obtain ⟨x, m1, e1, q⟩ := bindS_cases q
  refine (ps_expr (h H0 env m) (sw_no hn)).run pins s σ H D I ⟨μ, er, hr, x, m1, e1, fun v H' μ' ex1 hr1 r1 => ?_⟩
  exact q σ H' μ' (er.ex ex1) hr1 (ex.trans ex1) ex1.fx
/-- a fresh thing is bound -/
theorem Er.bind {K : PySem.W.Frag} {μ0 μ μ' : List Addr} {H0 H H' : Hp} {env : Env} {σ : L2.St} {x : Rv} {v : V} {i : Nat} (er : Er K μ H H0 env σ) (ex : Ex μ0 H0 μ H) (ex1 : Ex μ H μ' H') (r : RvR K μ' H' H x v) (nb : notBrw x = true) (hi : i < env.length) :
    Er K μ' H' H0 (env.set i (some x)) (σ.set i (some v)) := by
  refine (er.ex ex1).set hi (r.since ex fun a ha => (ex.trans ex1).fx.mem ha) nb fun o eo j o' hj ho' hs => ?_
  subst eo
  obtain ⟨a, rfl, _, _, h0⟩ := r
  obtain ⟨w, h1, ⟨b, rfl, hb, _⟩, _⟩ := er.val j _ ho'
  rw [hs] at h1
  cases h1
  cases o' with
  | lst xs =>
    obtain ⟨us, h2, _⟩ := hb
    rw [h0] at h2; cases h2
  | _ => exact hb.elim
theorem ss_set {i : Nat} {x : Str} {e : Expr} {c : CE} {p : Pos} (hN : X.N.Nodup) (hi : X.N[i]? = some x) (hx : Loc X.env.scope x) (hf : X.fn x = true ∨ X.env.scope.names.lookup x = some .local) (h : SE cl gl X e c) (hs : swapsWith e (some (.Name x p)) pos.line X.env = pure false) :
    SS cl gl X (.Assign [.Name x p] e pos) (.asg (.nm i) c) := by
  refine ⟨fun pins s σ H D I hw => ?_⟩
  obtain ⟨μ0, H0, env, m, μ, er, hr, ex, q⟩ := hw
  simp only [evS] at q
  obtain ⟨y, m1, e1, q⟩ := bindS_cases q
  split at q
  · rename_i nb
    rw [Bool.and_eq_true] at nb
    have hl : i < env.length := by simpa using nb.2
    refine (ps_set hN hi hx (h H0 env m) hs hf).run pins s σ H D I ⟨μ, er, hr, y, m1, e1, fun v H' μ' ex1 hr1 r1 => ?_⟩
    exact q _ H' μ' (er.bind ex ex1 r1 nb.1 hl) hr1 (ex.trans ex1) ex1.fx
  · exact q.elim
theorem ss_setLc {i : Nat} {y : Str} {py : Pos} {elt tg iter : Expr} {ifs : List Expr} {scope : Scope} {own : List (Str × Nat)} {spos : Pos} {ci : CI} {t : TGt} {cc : CT} {ce : CE} (hc : X.calm = true) (hN : X.N.Nodup) (hy : X.N[i]? = some y) (hyl : X.env.scope.names.lookup y = some .local)
    (hsw : swapsWith (.ListComp elt [⟨tg, iter, ifs, 0⟩] scope pos) (some (.Name y py)) spos.line X.env = pure true) (hi : SI cl gl X false tg iter ci) (ok : BlkOk X.N X.env.scope scope own)
    (hg : ∀ s H C c fp, SG (Blk X scope s H C c fp) tg t) (ht : ∀ s H C c fp, SPt cl gl (Blk X scope s H C c fp) ifs cc) (he : ∀ s H C c fp, SE cl gl (Blk X scope s H C c fp) elt ce) (hv : tgIn (own.map (·.2)) t = true)
    (hs : ∀ x, foldedSetIterable iter X.env x = pure x) : SS cl gl X (.Assign [.Name y py] (.ListComp elt [⟨tg, iter, ifs, 0⟩] scope pos) spos) (.asg (.nm i) (.lc1 (own.map (·.2)) t ci cc ce)) := by
  refine ⟨fun pins s σ H D I hw => ?_⟩
  obtain ⟨μ0, H0, env, m, μ, er, hr, ex, q⟩ := hw
  simp only [evS] at q
  obtain ⟨rv, m', ev, q⟩ := bindS_cases q
  simp only [evE] at ev
  obtain ⟨xs, m1, e1, ev⟩ := bind_ok ev
  obtain ⟨ys, m2, e2, ev⟩ := bind_ok ev
  split at ev
  · rename_i hl
    obtain ⟨rfl, rfl⟩ := ok_inj ev
    split at q
    · rename_i nb
      rw [Bool.and_eq_true] at nb
      have hil : i < env.length := by simpa using nb.2
      refine (ps_setLc (g := tGd X.K t) (tt := tTx X.K cl gl cc) (te := tEx X.K cl gl ce) hc hN hy hyl hsw (hi H0 env m) ok (fun s H C c fp => hg s H C c fp) (fun s H C c fp => (ht s H C c fp).x) (fun s H C c fp => (he s H C c fp).x) hs).run pins s σ H D I ?_
      refine ⟨μ, er, hr, xs, m1, e1, fun J H1 μ1 ex1 hr1 ⟨_, yl⟩ => ?_⟩
      refine lc_turns (Q := fun x H1 => gName i x σ H1 D.nx) hv (er.ex ex1) hr1 yl e2 hl fun D' μ' H' us ex2 hr' hd r hn h1 => ?_
      have r0 : RvR X.K μ' H' H (.own (.lst ys)) (.ref D') := ⟨D', rfl, ⟨us, hd, r⟩, hn, by
        rcases ex1.free h1 with z | z
        · exact absurd (ex2.fx.mem (ex1.fx.mem z)) hn
        · exact z⟩
      exact q _ H' μ' (er.bind ex (ex1.trans ex2) r0 rfl hil) hr' (ex.trans (ex1.trans ex2)) (ex1.trans ex2).fx
    · exact q.elim
  · cases ev
/-- a tuple target -/
theorem ss_tgt {tg e : Expr} {c : CE} {t : TGt} (ht : ∀ i, t ≠ .nm i) (hg : SG X tg t) (hn : noStar tg = true) (h : SE cl gl X e c) (hs : swapsWithSole [tg] e pos.line X.env = pure false) (hw : swappedStores [tg] e X.env = pure none) : SS cl gl X (.Assign [tg] e pos) (.asg t c) := by
  refine ⟨fun pins s σ H D I hw' => ?_⟩
  obtain ⟨μ0, H0, env, m, μ, er, hr, ex, q⟩ := hw'
  cases t with
  | nm i => exact absurd rfl (ht i)
  | tp ts =>
    simp only [evS] at q
    obtain ⟨x, m1, e1, q⟩ := bindS_cases q
    split at q
    · rename_i y hy
      split at q
      · rename_i env' he
        refine (ps_asg (se_frz h H0 env m) hg hs hw (assignEach_cons hn)).run pins s σ H D I ⟨μ, er, hr, x, y, m1, e1, hy, fun v H' μ' ex1 hr1 r1 => ?_⟩
        exact ⟨μ', H0, env, y, env', er.ex ex1, r1, he, fun σ' er' _ _ => q σ' H' μ' er' hr1 (ex.trans ex1) ex1.fx⟩
      · exact q.elim
    · exact q.elim
theorem ss_aug {i : Nat} {x : Str} {e : Expr} {c : CE} {op : BO} {p : Pos} (ho : op = .add ∨ op = .sub) (hN : X.N.Nodup) (hi : X.N[i]? = some x) (hx : Loc X.env.scope x) (hf : X.fn x = true ∨ X.env.scope.names.lookup x = some .local) (h : SE cl gl X e c) :
    SS cl gl X (.AugAssign (.Name x p) (boPy op) e pos) (.aug i op c) := by
  refine ⟨fun pins s σ H D I hw => ?_⟩
  obtain ⟨μ0, H0, env, m, μ, er, hr, ex, q⟩ := hw
  simp only [evS] at q
  split at q
  · rename_i y hy
    obtain ⟨z, m1, e1, q⟩ := bindS_cases q
    obtain ⟨w, h1, h2, _⟩ := er.val i _ hy
    have hl : i < env.length := (List.getElem?_eq_some_iff.mp hy).1
    split at q
    · refine (ps_aug hN hi hx (h H0 env m) ip_add hf).run pins s σ H D I ?_
      cases h2
      refine ⟨_, h1, μ, er, hr, _, m1, e1, fun v H' μ' ex1 hr1 r1 => ?_⟩
      cases r1
      exact ⟨_, _, rfl, rfl, q _ H' μ' ((er.ex ex1).setD hl (.int _)) hr1 (ex.trans ex1) ex1.fx⟩
    · refine (ps_aug hN hi hx (h H0 env m) ip_sub hf).run pins s σ H D I ?_
      cases h2
      refine ⟨_, h1, μ, er, hr, _, m1, e1, fun v H' μ' ex1 hr1 r1 => ?_⟩
      cases r1
      exact ⟨_, _, rfl, rfl, q _ H' μ' ((er.ex ex1).setD hl (.int _)) hr1 (ex.trans ex1) ex1.fx⟩
    · exact q.elim
  · exact q.elim
/-- a numbered list is changed -/
theorem Hr.setAt {K : PySem.W.Frag} {μ0 μ : List Addr} {H0 H : Hp} {m : Mem} {r : Nat} {a : Addr} {xs : List D} {us us' : List V} (hr : Hr K μ H m) (ex : Ex μ0 H0 μ H) (ha : μ[r]? = some a) (h1 : H a = some (.lst us)) (rr : Reps K μ H xs us') :
    Ex μ0 H0 μ (upd H a (.lst us')) ∧ Fx μ H μ (upd H a (.lst us')) ∧ Hr K μ (upd H a (.lst us')) (m.set r (.lst xs)) := by
  have hm := List.mem_of_getElem? ha
  have f : Fx μ H μ (upd H a (.lst us')) := ⟨⟨[], by simp⟩, fun b ys q => by rw [upd_ne (fun z => by rw [z, h1] at q; cases q)]; exact q, fun b o' u q => by rw [upd_ne (fun z => by rw [z, h1] at q; cases q)]; exact q⟩
  refine ⟨⟨ex.fx.trans f, fun b o q nb => ?_, ex.new⟩, f, by rw [List.length_set]; exact hr.len, hr.nd, fun n o q => ?_⟩
  · rw [upd_ne (fun z => ?_)]
    · exact ex.keep b o q nb
    · subst z
      rcases ex.new b hm with z | z
      · exact nb z
      · rw [z] at q; cases q
  · by_cases c : r = n
    · subst c
      have hl : r < m.length := by rw [← hr.len]; exact (List.getElem?_eq_some_iff.mp ha).1
      rw [List.getElem?_set_self hl] at q
      cases q
      exact ⟨a, ha, us', upd_same, rr.fx f⟩
    · rw [List.getElem?_set_ne c] at q
      obtain ⟨b, h2, h3⟩ := hr.obj n o q
      refine ⟨b, h2, ?_⟩
      cases o with
      | lst ys =>
        obtain ⟨ws, h4, h5⟩ := h3
        refine ⟨ws, ?_, h5.fx f⟩
        rw [upd_ne]
        · exact h4
        · intro z
          subst z
          exact c (nodup_at hr.nd ha h2)
      | _ => exact h3.elim
where
  nodup_at {α : Type} {l : List α} {i j : Nat} {x : α} (nd : l.Nodup) (h1 : l[i]? = some x) (h2 : l[j]? = some x) : i = j := by
    obtain ⟨a1, b1⟩ := List.getElem?_eq_some_iff.mp h1
    obtain ⟨a2, b2⟩ := List.getElem?_eq_some_iff.mp h2
    exact (List.getElem_inj nd).mp (b1.trans b2.symm)
/-- what a change of a numbered list leaves of the names -/
theorem Er.setAt {K : PySem.W.Frag} {μ : List Addr} {H H0 : Hp} {env : Env} {σ : L2.St} {a : Addr} {us' : List V} (er : Er K μ H H0 env σ) (f : Fx μ H μ (upd H a (.lst us'))) (ha : a ∈ μ) : Er K μ (upd H a (.lst us')) H0 env σ := by
  refine ⟨er.len, fun i x e => ?_, er.dis⟩
  obtain ⟨v, h1, h2, nb⟩ := er.val i x e
  refine ⟨v, h1, ?_, nb⟩
  cases x with
  | d y => exact Rep.fx f h2
  | own o =>
    obtain ⟨b, rfl, hb, hn, h0⟩ := h2
    refine ⟨b, rfl, ?_, hn, h0⟩
    cases o with
    | lst xs =>
      obtain ⟨ws, h3, h4⟩ := hb
      exact ⟨ws, by rw [upd_ne (fun z => hn (by rw [z]; exact ha))]; exact h3, h4.fx f⟩
    | _ => exact hb.elim
  | brw o => cases nb
theorem ss_store {o i e : Expr} {co ci ce : CE} {p : Pos} (ho : SE cl gl X o co) (hi : SE cl gl X i ci) (he : SE cl gl X e ce) (hs : swapsWithSole [.Subscript o i p] e pos.line X.env = pure false) (hw : swappedStores [.Subscript o i p] e X.env = pure none)
    (ha : ∀ v, assign (.Subscript o i p) X.env v = (do
      let ov ← holding [v] (eval o X.env)
      let iv ← holding [v, ov] (eval i X.env)
      standAt p
      holding [v, ov, iv] (setItem ov iv v)
      release [v, ov, iv] [])) : SS cl gl X (.Assign [.Subscript o i p] e pos) (.set co ci ce) := by
  refine ⟨fun pins s σ H D I hw' => ?_⟩
  obtain ⟨μ0, H0, env, m, μ, er, hr, ex, q⟩ := hw'
  simp only [evS] at q
  obtain ⟨x, m1, e1, q⟩ := bindS_cases q
  obtain ⟨p', m2, e2, q⟩ := bindS_cases q
  obtain ⟨k', m3, e3, q⟩ := bindS_cases q
  split at q
  · rename_i v r k hf qo
    split at q
    · rename_i xs hm
      split at q
      · rename_i j hj
        refine (ps_asg (se_frz he H0 env m) (pg_sub (ho H0 env m1) (hi H0 env m2) set_list ha) hs hw).run pins s σ H D I ?_
        refine ⟨μ, er, hr, x, v, m1, e1, hf, fun vv H1 μ1 ex1 hr1 r1 => ⟨μ1, er.ex ex1, hr1, _, m2, e2, fun ov H2 μ2 ex2 hr2 r2 => ⟨μ2, er.ex (ex1.trans ex2), hr2, _, m3, e3, fun iv H3 μ3 ex3 hr3 r3 => ?_⟩⟩⟩
        have r2' := Rep.fx ex3.fx r2
        cases r2' with
        | ref hx =>
          cases r3
          obtain ⟨a, h1, us, h2, rs⟩ := hr3.obj _ _ hm
          rw [hx] at h1
          cases h1
          have exx := (ex1.trans ex2).trans ex3
          have rv' := (r1.fx ex2.fx).fx ex3.fx
          obtain ⟨a1, a2, a3⟩ := hr3.setAt (ex.trans exx) hx h2 (rs.set rv' j)
          refine ⟨_, us, k, j, rfl, rfl, h2, by rw [← rs.length]; exact hj, ?_⟩
          exact q σ _ μ3 ((er.ex exx).setAt a2 (List.mem_of_getElem? hx)) a3 a1 (exx.fx.trans a2)
      · exact q.elim
    · exact q.elim
  · exact q.elim
theorem ss_app {o e : Expr} {co ce : CE} {apos p2 : Pos} (ho : SE cl gl X o co) (he : SE cl gl X e ce) (hn : noStar e = true) (hbase : attributeBase o "append" X.env (eval o X.env) = eval o X.env) (hline : (apos.endLine == p2.line) = true) :
    SS cl gl X (.Expr (.Call (.Attribute o "append" apos) [e] [] p2) pos) (.app co ce) := by
  refine ⟨fun pins s σ H D I hw' => ?_⟩
  obtain ⟨μ0, H0, env, m, μ, er, hr, ex, q⟩ := hw'
  simp only [evS] at q
  obtain ⟨p', m1, e1, q⟩ := bindS_cases q
  obtain ⟨x, m2, e2, q⟩ := bindS_cases q
  split at q
  · rename_i r v hf qo
    split at q
    · rename_i xs hm
      split at q
      · rename_i hl
        have SAa : SA cl gl X [e] (.cons ce .nil) := SA.cons hn he SA.nil
        refine (ps_expr (pe_bm PySem.F.plainAttrs_list PySem.F.slot_list_append PySem.F.type_list_append mt_append (ho H0 env m) (SAa H0 env m1) hbase (by rw [starEach_cons hn]; rfl) hline (starEach_cons hn) (starEach_plain (es := []) rfl)) rfl).run pins s σ H D I ?_
        refine ⟨μ, er, hr, _, m1, e1, fun ov H1 μ1 ex1 hr1 r1 => ?_⟩
        have r1' : Rep X.K μ1 H1 (.ref r) ov := r1
        cases r1' with
        | @ref _ a hx =>
        obtain ⟨us0, h0⟩ := hr1.get (List.mem_of_getElem? hx)
        refine ⟨.inl ⟨rfl, us0, SqL.of h0⟩, μ1, er.ex ex1, hr1, [v], m2, by simp only [evEs, e2, Rs.bind, hf], fun vs H2 μ2 ex2 hr2 r2 => ?_⟩
        cases r2 with
        | cons r2 r3 =>
          cases r3
          obtain ⟨b, h1, us, h2, rs⟩ := hr2.obj _ _ hm
          rw [ex2.fx.at hx] at h1
          cases h1
          have exx := ex1.trans ex2
          obtain ⟨a1, a2, a3⟩ := hr2.setAt (ex.trans exx) (ex2.fx.at hx) h2 (rs.append (.cons r2 .nil))
          have hl' := okLen_le hl
          refine ⟨_, us, _, rfl, rfl, h2, by rw [← rs.length]; rw [List.length_cons] at hl'; omega, ?_⟩
          exact q σ _ μ2 ((er.ex exx).setAt a2 (ex2.fx.mem (List.mem_of_getElem? hx))) a3 a1 (exx.fx.trans a2)
      · exact q.elim
    · exact q.elim
  · exact q.elim
end
end Gx

set_option Elab.async false
set_option linter.all false
set_option maxRecDepth 100000
set_option maxHeartbeats 4000000
namespace Gx
open PySem PySem.Spec PyProof.Rows L2

section
variable {cl : Cl} {gl : Gl} {X : Cx} {pos : Pos}
/-- a thing of the frame's own is changed at its address -/
theorem Er.mutAt {K : PySem.W.Frag} {μ : List Addr} {H H0 : Hp} {env : Env} {σ : L2.St} {a : Addr} {o : HO} {i : Nat} {x : Rv} (er : Er K μ H H0 env σ) (hi : σ[i]? = some (some (.ref a))) (own : ∃ ob, env[i]? = some (some (.own ob))) (f : Fx μ H μ (upd H a o)) (hn : a ∉ μ) (h0 : H0 a = none)
    (nx : (∃ xs us, x = .own (.lst xs) ∧ o = .lst us ∧ Reps K μ (upd H a o) xs us) ∨ (∃ d, x = .d d ∧ Rep K μ (upd H a o) d (.ref a))) : Er K μ (upd H a o) H0 (env.set i (some x)) σ := by
  obtain ⟨ob, own⟩ := own
  have hl : i < env.length := (List.getElem?_eq_some_iff.mp own).1
  refine ⟨by rw [List.length_set]; exact er.len, fun j y e => ?_, fun j1 j2 o1 o2 w e1 e2 f1 f2 => ?_⟩
  · by_cases c : i = j
    · subst c
      rw [List.getElem?_set_self hl] at e
      cases e
      rcases nx with ⟨xs, us, rfl, rfl, r⟩ | ⟨d, rfl, r⟩
      · exact ⟨_, hi, ⟨a, rfl, ⟨us, upd_same, r⟩, hn, h0⟩, rfl⟩
      · exact ⟨_, hi, r, rfl⟩
    · rw [List.getElem?_set_ne c] at e
      obtain ⟨v, h1, h2, nb⟩ := er.val j y e
      refine ⟨v, h1, ?_, nb⟩
      cases y with
      | d z => exact Rep.fx f h2
      | own o' =>
        obtain ⟨b, rfl, hb, hnb, h0b⟩ := h2
        refine ⟨b, rfl, ?_, hnb, h0b⟩
        cases o' with
        | lst xs =>
          obtain ⟨ws, h3, h4⟩ := hb
          refine ⟨ws, ?_, h4.fx f⟩
          rw [upd_ne]
          · exact h3
          · intro z
            subst z
            exact c (er.dis i j _ _ _ own e hi h1)
        | _ => exact hb.elim
      | brw o' => cases nb
  · have back : ∀ j o', (env.set i (some x))[j]? = some (some (Rv.own o')) → ∃ o'', env[j]? = some (some (Rv.own o'')) := fun j o' e => by
      by_cases c : i = j
      · subst c; exact ⟨ob, own⟩
      · rw [List.getElem?_set_ne c] at e; exact ⟨o', e⟩
    obtain ⟨_, b1⟩ := back j1 o1 e1
    obtain ⟨_, b2⟩ := back j2 o2 e2
    exact er.dis j1 j2 _ _ w b1 b2 f1 f2
theorem ss_appV {i : Nat} {x : Str} {e : Expr} {ce : CE} {apos p p2 : Pos} (hN : X.N[i]? = some x) (hv : Vis X.env.scope x) (hd : (x == ("__debug__" : Str)) = false) (hcd : (x == ("__classdict__" : Str)) = false) (he : SE cl gl X e ce) (hn : noStar e = true)
    (hbase : attributeBase (.Name x p) "append" X.env (eval (.Name x p) X.env) = eval (.Name x p) X.env) (hline : (apos.endLine == p2.line) = true) :
    SS cl gl X (.Expr (.Call (.Attribute (.Name x p) "append" apos) [e] [] p2) pos) (.appV i ce) := by
  refine ⟨fun pins s σ H D I hw' => ?_⟩
  obtain ⟨μ0, H0, env, m, μ, er, hr, ex, q⟩ := hw'
  simp only [evS] at q
  split at q
  · rename_i xs hx
    obtain ⟨y, m2, e2, q⟩ := bindS_cases q
    split at q
    · rename_i v hf
      split at q
      · rename_i hl
        obtain ⟨w, h1, ⟨a, rfl, ⟨us, h2, r⟩, hna, h0⟩, _⟩ := er.val i _ hx
        have SAa : SA cl gl X [e] (.cons ce .nil) := SA.cons hn he SA.nil
        refine (ps_expr (pe_bm PySem.F.plainAttrs_list PySem.F.slot_list_append PySem.F.type_list_append mt_append (pe_var hN hv hd hcd) (SAa H0 env m) hbase (by rw [starEach_cons hn]; rfl) hline (starEach_cons hn) (starEach_plain (es := []) rfl)) rfl).run pins s σ H D I ?_
        refine ⟨_, h1, .inl ⟨rfl, us, SqL.of h2⟩, μ, er, hr, [v], m2, by simp only [evEs, e2, Rs.bind, hf], fun vs H2 μ2 ex2 hr2 r2 => ?_⟩
        cases r2 with
        | cons r2 r3 =>
          cases r3
          have h2' := ex2.keep _ _ h2 hna
          have hna' := ex2.out h2 hna
          have r' := r.fx ex2.fx
          obtain ⟨a1, a2, a3⟩ := Ex.mut (o := .lst (us ++ [_])) (ex.trans ex2) hr2 h2' h0 hna'
          have hl' := okLen_le hl
          refine ⟨_, us, _, rfl, rfl, h2', by rw [← r.length]; rw [List.length_cons] at hl'; omega, ?_⟩
          exact q σ _ μ2 ((er.ex ex2).mutAt h1 ⟨_, hx⟩ a2 hna' h0 (.inl ⟨_, _, rfl, rfl, (r'.append (.cons r2 .nil)).fx a2⟩)) a3 a1 (ex2.fx.trans a2)
      · exact q.elim
    · exact q.elim
  · rename_i r hx
    obtain ⟨y, m2, e2, q⟩ := bindS_cases q
    split at q
    · rename_i v hf
      have app := ss_app (pos := pos) (se_var (cl := cl) (gl := gl) (pos := p) hN hv hd hcd) he hn hbase hline
      refine app.run pins s σ H D I ⟨μ0, H0, env, m, μ, er, hr, ex, ?_⟩
      simp only [evS, evE, hx, Rs.bindS, e2, hf]
      exact q
    · exact q.elim
  · exact q.elim

/-! ### what is never changed from here on -/
theorem frz_one {pins : List (Addr × PySem.Obj)} {s : Shared} {σ : L2.St} {H : Hp} {μ0 μ : List Addr} {H0 : Hp} {env : Env} {m : Mem} (I : L2.Inv X pins σ H s) (er : Er X.K μ H H0 env σ) (hr : Hr X.K μ H m) (ex : Ex μ0 H0 μ H) (i : Nat) :
    ∃ H', L2.Inv X pins σ H' s ∧ Er X.K μ H' H0 (frzAt env i) σ ∧ Hr X.K μ H' m ∧ Ex μ0 H0 μ H' ∧ Fx μ H μ H' := by
  unfold frzAt
  split
  · rename_i o ho
    obtain ⟨w, h1, ⟨a, rfl, hb, hna, h0⟩, _⟩ := er.val i _ ho
    cases o with
    | lst xs =>
      obtain ⟨us, h2, r⟩ := hb
      obtain ⟨od, I2⟩ := I.lock h2 trivial
      obtain ⟨a1, a2, a3⟩ := Ex.mut (o := .frz od (.lst us)) ex hr h2 h0 hna
      exact ⟨_, I2, er.mutAt h1 ⟨_, ho⟩ a2 hna h0 (.inr ⟨_, rfl, .lst (.inl ⟨od, upd_same⟩) (r.fx a2)⟩), a3, a1, a2⟩
    | _ => exact hb.elim
  · exact ⟨H, I, er, hr, ex, .refl μ H⟩
theorem frz_all {pins : List (Addr × PySem.Obj)} {s : Shared} {σ : L2.St} {μ0 μ : List Addr} {H0 : Hp} {m : Mem} : ∀ (is : List Nat) {H : Hp} {env : Env}, L2.Inv X pins σ H s → Er X.K μ H H0 env σ → Hr X.K μ H m → Ex μ0 H0 μ H →
    ∃ H', L2.Inv X pins σ H' s ∧ Er X.K μ H' H0 (is.foldl frzAt env) σ ∧ Hr X.K μ H' m ∧ Ex μ0 H0 μ H' ∧ Fx μ H μ H'
  | [], H, env, I, er, hr, ex => ⟨H, I, er, hr, ex, .refl μ H⟩
  | i :: is, H, env, I, er, hr, ex => by
    obtain ⟨H1, I1, er1, hr1, ex1, f1⟩ := frz_one I er hr ex i
    obtain ⟨H2, I2, er2, hr2, ex2, f2⟩ := frz_all is I1 er1 hr1 ex1
    exact ⟨H2, I2, er2, hr2, ex2, f1.trans f2⟩
theorem ss_frz {sts : List Stmt} {cs : CSs} (is : List Nat) (h : SSs cl gl X sts cs) : SSs cl gl X sts (.cons (.frz is) cs) := by
  refine ⟨fun pins s σ H D I hw => ?_⟩
  obtain ⟨μ0, H0, env, m, μ, er, hr, ex, q⟩ := hw
  obtain ⟨H1, I1, er1, hr1, ex1, f1⟩ := frz_all is I er hr ex
  simp only [evSs, evS] at q
  exact h.run pins s σ H1 D I1 ⟨μ0, H0, _, m, μ, er1, hr1, ex1, q.later f1⟩

/-! ### loops -/
theorem ss_whl {t : Expr} {b : List Stmt} {ct : CT} {cb : CSs} (hx : X.xe = fun _ _ => False) (ht : ST cl gl X t ct) (hb : SSs cl gl X b cb) : SS cl gl X (.While t b [] pos) (.whl ct cb) := by
  have hp : PassesOwn (model X.prog X.w) X.A X.env X.xe := by rw [hx]; exact PassesOwn.never
  have htx : PT X t (tTx X.K cl gl ct) := ⟨fun pins s σ H Q I ⟨H0, env, m, hw⟩ => (ht H0 env m).run pins s σ H Q I hw⟩
  refine ⟨fun pins s σ H D I hw => ?_⟩
  obtain ⟨μ0, H0, env, m, μ, er, hr, ex, q⟩ := hw
  simp only [evS] at q
  refine (ps_while hp htx hb).run pins s σ H D I ?_
  refine ⟨fun n σ1 H1 => ∃ env1 m1 μ1, Er X.K μ1 H1 H0 env1 σ1 ∧ Hr X.K μ1 H1 m1 ∧ Ex μ0 H0 μ1 H1 ∧ Fx μ H μ1 H1 ∧ Pst X.K μ0 H0 μ H (whlL (evT cl gl ct) (evSs cl gl cb) n env1 m1) D, ⟨FUEL, env, m, μ, er, hr, ex, .refl μ H, q⟩, ?_⟩
  rintro n σ1 H1 ⟨env1, m1, μ1, er1, hr1, ex1, f1, q1⟩
  cases n with
  | zero => exact q1.elim
  | succ n =>
    simp only [whlL] at q1
    obtain ⟨c, m2, e2, q1⟩ := bindS_cases q1
    refine ⟨H0, env1, m1, μ1, er1, hr1, c, m2, e2, fun H2 μ2 ex2 hr2 => ?_⟩
    have exx := ex1.trans ex2
    have ff := f1.trans ex2.fx
    cases c with
    | false =>
      dsimp only
      rw [if_neg Bool.false_ne_true] at q1 ⊢
      exact q1 σ1 H2 μ2 (er1.ex ex2) hr2 exx ff
    | true =>
      dsimp only
      rw [if_pos rfl] at q1 ⊢
      refine ⟨fun σ' H' => ∃ env1 m1 μ1, Er X.K μ1 H' H0 env1 σ' ∧ Hr X.K μ1 H' m1 ∧ Ex μ0 H0 μ1 H' ∧ Fx μ H μ1 H' ∧ Pst X.K μ0 H0 μ H (whlL (evT cl gl ct) (evSs cl gl cb) n env1 m1) D, fun σ' H' h => ⟨n, Nat.lt_succ_self n, h⟩, ?_⟩
      refine ⟨μ0, H0, env1, m2, μ2, er1.ex ex2, hr2, exx, ?_⟩
      cases hbd : evSs cl gl cb env1 m2 with
      | nx e' m' => rw [hbd] at q1; exact fun σ' H' μ' a b c d => ⟨e', m', μ', a, b, c, ff.trans d, q1⟩
      | ct e' m' => rw [hbd] at q1; exact fun σ' H' μ' a b c d => ⟨e', m', μ', a, b, c, ff.trans d, q1⟩
      | bk e' m' => rw [hbd] at q1; exact fun σ' H' μ' a b c d => q1 σ' H' μ' a b c (ff.trans d)
      | ret v m' => rw [hbd] at q1; exact q1
      | ex c as m' => rw [hbd] at q1; exact q1.elim
      | no => rw [hbd] at q1; exact q1.elim
theorem ss_for {tg it : Expr} {b : List Stmt} {t : TGt} {ci : CI} {cb : CSs} (hx : X.xe = fun _ _ => False) (hc : X.calm = true) (hi : SI cl gl X true tg it ci) (hg : SG X tg t) (hb : SSs cl gl X b cb) (hs : ∀ x, foldedSetIterable it X.env x = pure x) : SS cl gl X (.For tg it b [] pos) (.forS t ci cb) := by
  have hp : PassesOwn (model X.prog X.w) X.A X.env X.xe := by rw [hx]; exact PassesOwn.never
  refine ⟨fun pins s σ H D I hw => ?_⟩
  obtain ⟨μ0, H0, env, m, μ, er, hr, ex, q⟩ := hw
  simp only [evS] at q
  obtain ⟨xs, m1, e1, q⟩ := bindS_cases q
  refine (ps_for hp hc (hi H0 env m) hg hb hs).run pins s σ H D I ?_
  refine ⟨μ, er, hr, xs, m1, e1, fun J H1 μ1 ex1 hr1 ⟨_, yl⟩ => ?_⟩
  refine ⟨fun i n σ2 H2 => n = xs.length - i ∧ i ≤ xs.length ∧ ∃ env2 m2 μ2, Er X.K μ2 H2 H0 env2 σ2 ∧ Hr X.K μ2 H2 m2 ∧ Ex μ0 H0 μ2 H2 ∧ Fx μ1 H1 μ2 H2 ∧ Pst X.K μ0 H0 μ H (forL t (evSs cl gl cb) (xs.drop i) env2 m2) D,
    ⟨xs.length, by omega, Nat.zero_le _, env, m1, μ1, er.ex ex1, hr1, ex.trans ex1, .refl μ1 H1, q⟩, ?_⟩
  rintro i n σ2 H2 ⟨rfl, hi', env2, m2, μ2, er2, hr2, ex2, f2, q2⟩
  have P : Pz true μ1 H1 μ2 H2 := f2
  have ff := ex1.fx.trans f2
  by_cases c : i < xs.length
  · refine .inr ⟨yl.go i μ2 H2 P c, ?_⟩
    rw [List.drop_eq_getElem_cons c] at q2
    simp only [forL] at q2
    split at q2
    · exact q2.elim
    · rename_i env3 he3
      refine ⟨fun σ' H' => ∃ env2 m2 μ2, Er X.K μ2 H' H0 env2 σ' ∧ Hr X.K μ2 H' m2 ∧ Ex μ0 H0 μ2 H' ∧ Fx μ1 H1 μ2 H' ∧ Pst X.K μ0 H0 μ H (forL t (evSs cl gl cb) (xs.drop (i + 1)) env2 m2) D, fun σ' H' h => ⟨xs.length - (i + 1), by omega, rfl, c, h⟩, fun v H' y => ?_⟩
      obtain ⟨x, hx', ex3, hr3, rx⟩ := yl.yl i μ2 H2 v H' m2 P c hr2 y
      rw [List.getElem?_eq_getElem c] at hx'
      cases hx'
      refine ⟨μ2, H0, env2, _, env3, er2.ex ex3, rx, he3, fun σ3 er3 _ _ => ⟨μ0, H0, env3, m2, μ2, er3, hr3, ex2.trans ex3, ?_⟩⟩
      have f3 := f2.trans ex3.fx
      have ff3 := ff.trans ex3.fx
      cases hbd : evSs cl gl cb env3 m2 with
      | nx e' m' => rw [hbd] at q2; exact fun σ' H' μ' a b c d => ⟨e', m', μ', a, b, c, f3.trans d, q2⟩
      | ct e' m' => rw [hbd] at q2; exact fun σ' H' μ' a b c d => ⟨e', m', μ', a, b, c, f3.trans d, q2⟩
      | bk e' m' => rw [hbd] at q2; exact fun σ' H' μ' a b c d => q2 σ' H' μ' a b c (ff3.trans d)
      | ret v m' => rw [hbd] at q2; exact q2
      | ex c as m' => rw [hbd] at q2; exact q2.elim
      | no => rw [hbd] at q2; exact q2.elim
  · have hi2 : i = xs.length := by omega
    subst hi2
    rw [List.drop_length] at q2
    exact .inl ⟨yl.stop _ μ2 H2 P (Nat.le_refl _), q2 σ2 H2 μ2 er2 hr2 ex2 ff⟩
end
end Gx

set_option Elab.async false
set_option linter.all false
set_option maxRecDepth 100000
set_option maxHeartbeats 4000000
namespace Gx
open PySem PySem.Spec PyProof.Rows L2

/-! ### several names at once -/
def Dst (xs : List Rv) (vs : List V) : Prop := ∀ (i j : Nat) (o o' : Ob) (v : V), xs[i]? = some (.own o) → xs[j]? = some (.own o') → vs[i]? = some v → vs[j]? = some v → i = j
structure RvRs (K : PySem.W.Frag) (μ : List Addr) (H H0 : Hp) (xs : List Rv) (vs : List V) : Prop where
  all : Paired (fun x v => RvR K μ H H0 x v ∧ notBrw x = true) xs vs
  dst : Dst xs vs
theorem paired_get {α β : Type} {F : α → β → Prop} : ∀ {xs : List α} {ys : List β} {i : Nat} {x : α} {y : β}, Paired F xs ys → xs[i]? = some x → ys[i]? = some y → F x y
  | _, _, _, _, _, .nil, h, _ => by simp at h
  | _, _, 0, _, _, .cons r _, h1, h2 => by simp at h1 h2; subst h1; subst h2; exact r
  | _, _, i + 1, _, _, .cons _ t, h1, h2 => paired_get (i := i) t (by simpa using h1) (by simpa using h2)
def tR (K : PySem.W.Frag) (cl : Cl) (gl : Gl) (H0 : Hp) (cs : CEs) (env : Env) (m : Mem) : TA := fun σ H Q => ∃ μ, Er K μ H H0 env σ ∧ Hr K μ H m ∧ ∃ xs m', evRs cl gl cs env m = .ok xs m' ∧ ∀ vs H' μ', Ex μ H μ' H' → Hr K μ' H' m' → RvRs K μ' H' H xs vs → Q vs H'
def SR (cl : Cl) (gl : Gl) (X : Cx) (es : List Expr) (cs : CEs) : Prop := ∀ H0 env m, PA X es (tR X.K cl gl H0 cs env m)
def setV : List Nat → List V → L2.St → L2.St
  | i :: is, v :: vs, σ => setV is vs (σ.set i (some v))
  | _, _, σ => σ
section
variable {cl : Cl} {gl : Gl} {X : Cx} {pos : Pos}
theorem SR.nil : SR cl gl X [] .nil := fun H0 env m => by
  refine ⟨fun pos pins s σ H Q I hw => ?_⟩
  obtain ⟨μ, er, hr, xs, m', ev, q⟩ := hw
  cases ev
  exact pa_nil.run pos pins s σ H Q I (q [] H μ (.refl μ H) hr ⟨.nil, fun i j o o' v h => by simp at h⟩)
theorem SR.cons {e : Expr} {es : List Expr} {c : CE} {cs : CEs} (hn : noStar e = true) (h : SE cl gl X e c) (hs : SR cl gl X es cs) : SR cl gl X (e :: es) (.cons c cs) := fun H0 env m => by
  refine ⟨fun pos pins s σ H Q I hw => ?_⟩
  obtain ⟨μ, er, hr, xs, m', ev, q⟩ := hw
  simp only [evRs] at ev
  obtain ⟨x, m1, e1, ev⟩ := bind_ok ev
  split at ev
  · rename_i nb
    obtain ⟨ys, m2, e2, ev⟩ := bind_ok ev
    obtain ⟨rfl, rfl⟩ := ok_inj ev
    refine (pa_cons (h H0 env m) (hs H0 env m1) (starEach_cons hn)).run pos pins s σ H Q I ?_
    refine ⟨μ, er, hr, x, m1, e1, fun v H1 μ1 ex1 hr1 r1 => ⟨μ1, er.ex ex1, hr1, ys, m2, e2, fun vs H2 μ2 ex2 hr2 r2 => ?_⟩⟩
    refine q _ _ _ (ex1.trans ex2) hr2 ⟨.cons ⟨r1.ex ex2, nb⟩ ?_, ?_⟩
    · exact Paired.mapP r2.all fun y w hy => ⟨hy.1.since ex1 fun a ha => (ex1.trans ex2).fx.mem ha, hy.2⟩
    · have head : ∀ (j : Nat) (o o' : Ob) (w : V), x = .own o → ys[j]? = some (.own o') → v = w → vs[j]? = some w → False := fun j o o' w hx hy hv hw => by
        subst hx
        obtain ⟨a, rfl, hb, hn, _⟩ := r1
        have r3 := (paired_get r2.all hy hw).1
        obtain ⟨b, rfl, _, _, h0⟩ := r3
        cases hv
        cases o with
        | lst zs =>
          obtain ⟨us, h1, _⟩ := hb
          rw [h0] at h1; cases h1
        | _ => exact hb.elim
      intro i j o o' w h1 h2 h3 h4
      cases i with
      | zero =>
        cases j with
        | zero => rfl
        | succ j =>
          simp only [List.getElem?_cons_zero, List.getElem?_cons_succ, Option.some.injEq] at h1 h2 h3 h4
          exact (head j o o' w h1 h2 h3 h4).elim
      | succ i =>
        cases j with
        | zero =>
          simp only [List.getElem?_cons_zero, List.getElem?_cons_succ, Option.some.injEq] at h1 h2 h3 h4
          exact (head i o' o w h2 h1 h4 h3).elim
        | succ j =>
          simp only [List.getElem?_cons_succ] at h1 h2 h3 h4
          rw [r2.dst i j o o' w h1 h2 h3 h4]
  · cases ev
theorem Er.bindAll {K : PySem.W.Frag} {μ : List Addr} {H H0 : Hp} : ∀ {is : List Nat} {xs : List Rv} {vs : List V} {env : Env} {σ : L2.St}, is.length = xs.length → (∀ i ∈ is, i < env.length) → RvRs K μ H H0 xs vs → Er K μ H H0 env σ →
    (∀ (k : Nat) (o o' : Ob) (v : V) (j : Nat), xs[k]? = some (.own o) → vs[k]? = some v → env[j]? = some (some (.own o')) → σ[j]? ≠ some (some v)) → Er K μ H H0 (setAll is xs env) (setV is vs σ)
  | [], _, _, _, _, _, _, _, er, _ => er
  | i :: is, [], _, _, _, h, _, _, _, _ => by cases h
  | i :: is, x :: xs, vs, env, σ, hl, hi, ⟨ra, rd⟩, er, dj => by
    cases ra with
    | @cons _ v _ vs r rs =>
      have e1 := er.set (i := i) (hi i List.mem_cons_self) r.1 r.2 fun o ho j o' _ he => dj 0 o o' v j (by simp [ho]) rfl he
      refine Er.bindAll (is := is) (by simpa using hl) (fun k hk => by rw [List.length_set]; exact hi k (List.mem_cons_of_mem _ hk)) ⟨rs, fun a b o o' w h1 h2 h3 h4 => ?_⟩ e1 fun k o o' w j h1 h2 h3 h4 => ?_
      · have := rd (a + 1) (b + 1) o o' w (by simpa using h1) (by simpa using h2) (by simpa using h3) (by simpa using h4)
        omega
      · by_cases c : i = j
        · subst c
          have hl1 := hi i List.mem_cons_self
          have hl2 : i < σ.length := by rw [← er.len]; exact hl1
          rw [List.getElem?_set_self hl1] at h3
          rw [List.getElem?_set_self hl2] at h4
          cases h4
          have h3' : x = .own o' := by simpa using h3
          have := rd 0 (k + 1) o' o _ (by simp [h3']) (by simpa using h1) rfl (by simpa using h2)
          omega
        · rw [List.getElem?_set_ne c] at h3 h4
          exact dj (k + 1) o o' w j (by simpa using h1) (by simpa using h2) h3 h4
theorem par_fin {cs : CEs} {is : List Nat} {pins : List (Addr × PySem.Obj)} {s : Shared} {σ : L2.St} {H : Hp} {μ0 μ μ' : List Addr} {H0 H' : Hp} {env : Env} {xs : List Rv} {vs : List V} {m' : Mem} {D : Ends} (er : Er X.K μ H H0 env σ) (ex : Ex μ0 H0 μ H) (ex1 : Ex μ H μ' H') (hr1 : Hr X.K μ' H' m') (r1 : RvRs X.K μ' H' H xs vs)
    (ok : (is.length == xs.length && is.all (fun i => Nat.blt i env.length)) = true) (q : Pst X.K μ0 H0 μ H (.nx (setAll is xs env) m') D) : D.nx (setV is vs σ) H' := by
  rw [Bool.and_eq_true] at ok
  have hl : is.length = xs.length := by simpa using ok.1
  have hi : ∀ i ∈ is, i < env.length := fun i hm => by
    have := List.all_eq_true.mp ok.2 i hm
    simpa using this
  refine q _ H' μ' ((er.ex ex1).bindAll hl hi ⟨Paired.mapP r1.all fun y w hy => ⟨hy.1.since ex fun a ha => (ex.trans ex1).fx.mem ha, hy.2⟩, r1.dst⟩ fun k o o' v j h1 h2 h3 h4 => ?_) hr1 (ex.trans ex1) ex1.fx
  obtain ⟨a, rfl, _, _, h0⟩ := (paired_get r1.all h1 h2).1
  obtain ⟨w, h5, ⟨b, rfl, hb, _⟩, _⟩ := er.val j _ h3
  rw [h4] at h5
  cases h5
  cases o' with
  | lst zs =>
    obtain ⟨us, h6, _⟩ := hb
    rw [h0] at h6; cases h6
  | _ => exact hb.elim
theorem paired_two {α β : Type} {F : α → β → Prop} {xs : List α} {ys : List β} (h : Paired F xs ys) : xs.length = ys.length := Paired.length h
theorem ss_par2 {i j : Nat} {x y : Str} {a b : Expr} {cs : CEs} {px py pt : Pos} {kt k2 : Nat} {pt2 : Pos} (hc : X.calm = true) (hN : X.N.Nodup) (hi : X.N[i]? = some x) (hj : X.N[j]? = some y) (hij : i ≠ j) (hx : X.env.scope.names.lookup x = some .local) (hy : X.env.scope.names.lookup y = some .local)
    (ha : SR cl gl X [a, b] cs) (hw : swappedStores [.Tuple [.Name x px, .Name y py] kt pt] (.Tuple [a, b] k2 pt2) X.env = pure (some [x, y])) : SS cl gl X (.Assign [.Tuple [.Name x px, .Name y py] kt pt] (.Tuple [a, b] k2 pt2) pos) (.par [i, j] cs) := by
  refine ⟨fun pins s σ H D I hw' => ?_⟩
  obtain ⟨μ0, H0, env, m, μ, er, hr, ex, q⟩ := hw'
  simp only [evS] at q
  obtain ⟨xs, m1, e1, q⟩ := bindS_cases q
  split at q
  · rename_i ok
    refine (ps_par hc hN hi hj hij hx hy (ha H0 env m) hw rfl).run pins s σ H D I ⟨μ, er, hr, xs, m1, e1, fun vs H' μ' ex1 hr1 r1 => ?_⟩
    have fin := par_fin (cs := cs) (pins := pins) (s := s) er ex ex1 hr1 r1 ok q
    have hl := paired_two r1.all
    rw [Bool.and_eq_true] at ok
    have h2 : xs.length = 2 := by have := ok.1; simp at this; exact this.symm
    rw [h2] at hl
    match vs, hl with
    | [v, w], _ => exact ⟨v, w, rfl, fin⟩
  · exact q.elim
theorem ss_par3 {i j l : Nat} {x y z : Str} {a b c : Expr} {cs : CEs} {px py pz pt : Pos} {kt k2 : Nat} {pt2 : Pos} (hc : X.calm = true) (hN : X.N.Nodup) (hi : X.N[i]? = some x) (hj : X.N[j]? = some y) (hl : X.N[l]? = some z) (hij : i ≠ j) (hil : i ≠ l) (hjl : j ≠ l)
    (hx : X.env.scope.names.lookup x = some .local) (hy : X.env.scope.names.lookup y = some .local) (hz : X.env.scope.names.lookup z = some .local)
    (ha : SR cl gl X [a, b, c] cs) (hw : swappedStores [.Tuple [.Name x px, .Name y py, .Name z pz] kt pt] (.Tuple [a, b, c] k2 pt2) X.env = pure (some [x, y, z])) : SS cl gl X (.Assign [.Tuple [.Name x px, .Name y py, .Name z pz] kt pt] (.Tuple [a, b, c] k2 pt2) pos) (.par [i, j, l] cs) := by
  refine ⟨fun pins s σ H D I hw' => ?_⟩
  obtain ⟨μ0, H0, env, m, μ, er, hr, ex, q⟩ := hw'
  simp only [evS] at q
  obtain ⟨xs, m1, e1, q⟩ := bindS_cases q
  split at q
  · rename_i ok
    refine (ps_par3 hc hN hi hj hl hij hil hjl hx hy hz (ha H0 env m) hw rfl).run pins s σ H D I ⟨μ, er, hr, xs, m1, e1, fun vs H' μ' ex1 hr1 r1 => ?_⟩
    have fin := par_fin (cs := cs) (pins := pins) (s := s) er ex ex1 hr1 r1 ok q
    have hl := paired_two r1.all
    rw [Bool.and_eq_true] at ok
    have h2 : xs.length = 3 := by have := ok.1; simp at this; exact this.symm
    rw [h2] at hl
    match vs, hl with
    | [u, v, w], _ => exact ⟨u, v, w, rfl, fin⟩
  · exact q.elim
/-- plain names, stored one after another -/
inductive NmAll (X : Cx) : List Expr → List Nat → Prop
  | nil : NmAll X [] []
  | cons {i : Nat} {x : Str} {p : Pos} {es : List Expr} {is : List Nat} : X.N[i]? = some x → Loc X.env.scope x → (X.fn x = true ∨ X.env.scope.names.lookup x = some .local) → NmAll X es is → NmAll X (.Name x p :: es) (i :: is)
def gNms (is : List Nat) : TGs := fun vs σ H Q => is.length = vs.length ∧ Q (setV is vs σ) H
theorem NmAll.pgs (hN : X.N.Nodup) : ∀ {es : List Expr} {is : List Nat}, NmAll X es is → PGs X es (gNms is)
  | _, _, .nil => ⟨fun pins s σ H vs us Q I r h => by
      obtain ⟨h1, h2⟩ := h
      cases vs with
      | nil => exact pgs_nil.run pins s σ H [] us Q I r ⟨rfl, h2⟩
      | cons v vs => cases h1⟩
  | _, _, .cons (is := is) (x := x) hi hx hf h => ⟨fun pins s σ H vs us Q I r hq => by
      obtain ⟨h1, h2⟩ := hq
      cases vs with
      | nil => cases h1
      | cons v vs => exact (pgs_cons (pg_name hN hi hx hf) (h.pgs hN) rfl).run pins s σ H (v :: vs) us Q I r ⟨v, vs, rfl, by simpa using h1, h2⟩⟩
theorem NmAll.star : ∀ {es : List Expr} {is : List Nat}, NmAll X es is → es.all noStar = true ∧ es.length = is.length
  | _, _, .nil => ⟨rfl, rfl⟩
  | _, _, .cons _ _ _ h => ⟨by rw [List.all_cons, h.star.1]; rfl, by rw [List.length_cons, List.length_cons, h.star.2]⟩
theorem ss_parU {ts vs : List Expr} {is : List Nat} {cs : CEs} {kt k2 : Nat} {pt pt2 : Pos} (hc : X.calm = true) (hN : X.N.Nodup) (ht : NmAll X ts is) (hz : Nat.ble is.length 1000 = true) (ha : SR cl gl X vs cs) (hw : swappedStores [.Tuple ts kt pt] (.Tuple vs k2 pt2) X.env = pure none) :
    SS cl gl X (.Assign [.Tuple ts kt pt] (.Tuple vs k2 pt2) pos) (.par is cs) := by
  refine ⟨fun pins s σ H D I hw' => ?_⟩
  obtain ⟨μ0, H0, env, m, μ, er, hr, ex, q⟩ := hw'
  simp only [evS] at q
  obtain ⟨xs, m1, e1, q⟩ := bindS_cases q
  split at q
  · rename_i ok
    obtain ⟨st, sl⟩ := ht.star
    refine (ps_asg (pe_tup (ha H0 env m)) (pg_tup hc (ht.pgs hN) assignEach_len (assignEach_star st)) rfl hw rfl).run pins s σ H D I ⟨μ, er, hr, xs, m1, e1, fun ws H' μ' ex1 hr1 r1 => ?_⟩
    have hl := paired_two r1.all
    have ok' := ok
    rw [Bool.and_eq_true] at ok'
    have h2 : is.length = xs.length := by simpa using ok'.1
    have hz' : is.length ≤ 1000 := Nat.le_of_ble_eq_true hz
    refine ⟨by rw [← hl, ← h2]; have := sizeLine_eq; omega, fun p hp => ⟨p, ws, rfl, SqT.of upd_same, by rw [← hl, ← h2, sl], by rw [h2, hl], ?_⟩⟩
    have ex2 := Ex.laid (μ := μ') (o := .tup ws) hp
    exact par_fin (cs := cs) (pins := pins) (s := s) er ex (ex1.trans ex2) (hr1.laid hp) ⟨Paired.mapP r1.all fun y w hy => ⟨hy.1.ex ex2, hy.2⟩, r1.dst⟩ ok q
  · exact q.elim
theorem ss_setLc2 {i : Nat} {y : Str} {py : Pos} {elt tg iter tg1 iter1 : Expr} {ifs ifs1 : List Expr} {scope : Scope} {own : List (Str × Nat)} {vs1 : List Nat} {spos : Pos} {ci ci1 : CI} {t t1 : TGt} {cc cc1 : CT} {ce : CE} (hc : X.calm = true) (hN : X.N.Nodup) (hy : X.N[i]? = some y) (hyl : X.env.scope.names.lookup y = some .local)
    (hsw : swapsWith (.ListComp elt [⟨tg, iter, ifs, 0⟩, ⟨tg1, iter1, ifs1, 0⟩] scope pos) (some (.Name y py)) spos.line X.env = pure true) (hi : SI cl gl X false tg iter ci) (ok : BlkOk X.N X.env.scope scope own)
    (hvs : ∀ i ∈ vs1, i ∈ own.map (·.2)) (hg : ∀ s H C c fp, SG (Blk X scope s H C c fp) tg t) (ht : ∀ s H C c fp, SPt cl gl (Blk X scope s H C c fp) ifs cc)
    (hi1 : ∀ s H C c fp, SI cl gl (Blk X scope s H C c fp) true tg1 iter1 ci1) (hg1 : ∀ s H C c fp, SG (Blk X scope s H C c fp) tg1 t1) (ht1 : ∀ s H C c fp, SPt cl gl (Blk X scope s H C c fp) ifs1 cc1)
    (he : ∀ s H C c fp, SE cl gl (Blk X scope s H C c fp) elt ce) (hv : tgIn (own.map (·.2)) t = true) (hv1 : tgIn vs1 t1 = true)
    (hs : ∀ x, foldedSetIterable iter X.env x = pure x) (hs1 : ∀ env x, foldedSetIterable iter1 env x = pure x) : SS cl gl X (.Assign [.Name y py] (.ListComp elt [⟨tg, iter, ifs, 0⟩, ⟨tg1, iter1, ifs1, 0⟩] scope pos) spos) (.asg (.nm i) (.lc2 (own.map (·.2)) t ci cc vs1 t1 ci1 cc1 ce)) := by
  refine ⟨fun pins s σ H D I hw => ?_⟩
  obtain ⟨μ0, H0, env, m, μ, er, hr, ex, q⟩ := hw
  simp only [evS] at q
  obtain ⟨rv, m', ev, q⟩ := bindS_cases q
  simp only [evE] at ev
  obtain ⟨xs, m1, e1, ev⟩ := bind_ok ev
  obtain ⟨ys, m2, e2, ev⟩ := bind_ok ev
  split at ev
  · rename_i hl
    obtain ⟨rfl, rfl⟩ := ok_inj ev
    split at q
    · rename_i nb
      rw [Bool.and_eq_true] at nb
      have hil : i < env.length := by simpa using nb.2
      refine (ps_setLc2 (g := tGd X.K t) (tt := tTx X.K cl gl cc) (g1 := tGd X.K t1) (tt1 := tTx X.K cl gl cc1) (wi1 := tIx X.K cl gl ci1) (te := tEx X.K cl gl ce) hc hN hy hyl hsw (hi H0 env m) ok hvs (fun s H C c fp => hg s H C c fp) (fun s H C c fp => (ht s H C c fp).x)
        (fun s H C c fp => (hi1 s H C c fp).x) (fun s H C c fp => hg1 s H C c fp) (fun s H C c fp => (ht1 s H C c fp).x) (fun s H C c fp => (he s H C c fp).x) hs hs1).run pins s σ H D I ?_
      refine ⟨μ, er, hr, xs, m1, e1, fun J H1 μ1 ex1 hr1 ⟨_, yl⟩ => ?_⟩
      refine lc_turns2 (Q := fun x H1 => gName i x σ H1 D.nx) hv hv1 (er.ex ex1) hr1 yl e2 hl fun D' μ' H' us ex2 hr' hd r hn h1 => ?_
      have r0 : RvR X.K μ' H' H (.own (.lst ys)) (.ref D') := ⟨D', rfl, ⟨us, hd, r⟩, hn, by
        rcases ex1.free h1 with z | z
        · exact absurd (ex2.fx.mem (ex1.fx.mem z)) hn
        · exact z⟩
      exact q _ H' μ' (er.bind ex (ex1.trans ex2) r0 rfl hil) hr' (ex.trans (ex1.trans ex2)) (ex1.trans ex2).fx
    · exact q.elim
  · cases ev
end
end Gx

set_option Elab.async false
set_option linter.all false
set_option maxRecDepth 100000
set_option maxHeartbeats 4000000
/-! From the text's trees to the evaluator's. -/
namespace Gx
open PySem PySem.Spec PyProof.Rows L2

structure Cfg where
  fns : List (Str × Nat)
  gls : List (Str × Nat)
  pins : List (Nat × Nat)

def slot : List Str → Str → Option Nat
  | [], _ => none
  | y :: r, x => if y = x then some 0 else (slot r x).map (· + 1)
theorem slot_at : ∀ {N : List Str} {x : Str} {i : Nat}, slot N x = some i → N[i]? = some x
  | [], _, _, h => by cases h
  | y :: r, x, i, h => by
    simp only [slot] at h
    split at h
    · rename_i e
      cases h
      rw [e]
      rfl
    · rw [Option.map_eq_some_iff] at h
      obtain ⟨j, h1, h2⟩ := h
      subst h2
      simpa using slot_at h1
def isVis (sc : Scope) (x : Str) : Bool := match sc.names.lookup x with
  | some .local => true | some .cell => true | some .free => true
  | _ => false
def isLoc (sc : Scope) (x : Str) : Bool := match sc.names.lookup x with
  | some .local => true | some .cell => true
  | _ => false
def isGl (sc : Scope) (x : Str) : Bool := match sc.names.lookup x with
  | some .globalImplicit => true
  | _ => false
def okName (x : Str) : Bool := !(x == ("__debug__" : Str)) && !(x == ("__classdict__" : Str))
def cStr (x : Str) : Option CE := if toStr (enc x.cps.toList) = x then some (.con (.str (enc x.cps.toList))) else none
def boOf : Operator → Option BO
  | .Add => some .add | .Sub => some .sub | .Mult => some .mul | .FloorDiv => some .fdiv | .Mod => some .mod | .Pow => some .pow
  | _ => none
def coOf : CmpOp → Option CO
  | .Eq => some .eq | .NotEq => some .ne | .Lt => some .lt | .LtE => some .le | .Gt => some .gt | .GtE => some .ge | .In => some .isin | .NotIn => some .notin
  | .Is => some .isN | .IsNot => some .notN
/-- is, is not: by what stands on the right -/
def coOf2 (op : CmpOp) (b : Expr) : Option CO := match op, b with
  | .Is, .Constant (.bool _) _ _ => some .isB
  | .IsNot, .Constant (.bool _) _ _ => some .notB
  | op, _ => coOf op
def biOf (x : Str) (n : Nat) : Option BI :=
  if x = biName .len then some .len else if x = biName .abs then some .abs else if x = biName .int then some .int else if x = biName .list then some .list
  else if x = biName .tuple then some .tuple else if x = biName .sum then some .sum else if x = biName .any then some .any else if x = biName .all then some .all
  else if x = biName .max1 then (if n = 1 then some .max1 else some .max2) else if x = biName .min1 then (if n = 1 then some .min1 else some .min2) else none
def tnOf (x : Str) : Option TyN :=
  if x = tnName .int then some .int else if x = tnName .bool then some .bool else if x = tnName .str then some .str else if x = tnName .tuple then some .tuple else if x = tnName .list then some .list else none
def plainE : Expr → Bool
  | .BoolOp .. => false | .UnaryOp .Not _ _ => false | .IfExp .. => false | .Compare .. => false
  | _ => true
def notSlice : Expr → Bool
  | .Slice .. => false
  | _ => true
def notSet : Expr → Bool
  | .Set .. => false
  | _ => true
def notCall : Expr → Bool
  | .Call .. => false
  | _ => true
/-- a comprehension's own names with their places -/
def ownOf (N : List Str) (scope : Scope) : Option (List (Str × Nat)) :=
  scope.names.foldr (fun y acc => match acc with
    | none => none
    | some l => match y.2 with
      | .local => (slot N y.1).map fun i => (y.1, i) :: l
      | .cell => (slot N y.1).map fun i => (y.1, i) :: l
      | _ => some l) (some [])
def tns (sc : Scope) : List Expr → Option (List TyN)
  | [] => some []
  | .Name x _ :: r => if isGl sc x then (tnOf x).bind fun t => (tns sc r).map (t :: ·) else none
  | _ => none

mutual
def cG (N : List Str) (sc : Scope) : Nat → Expr → Option TGt
  | 0, _ => none
  | n + 1, e => match e with
    | .Name x _ => if isLoc sc x then (slot N x).map .nm else none
    | .Tuple es _ _ => if es.all noStar then (cGs N sc n es).map .tp else none
    | _ => none
def cGs (N : List Str) (sc : Scope) : Nat → List Expr → Option (List TGt)
  | 0, _ => none
  | n + 1, es => match es with
    | [] => some []
    | e :: r => (cG N sc n e).bind fun t => (cGs N sc n r).map (t :: ·)
end
def tgSlots1 : TGt → List Nat
  | .nm i => [i]
  | .tp ts => ts.filterMap fun | .nm i => some i | _ => none

mutual
def cE (c : Cfg) (N : List Str) (sc : Scope) : Nat → Expr → Option CE
  | 0, _ => none
  | n + 1, e => match e with
    | .Name x _ => if okName x then (if isVis sc x then (slot N x).map .var else if isGl sc x then (c.gls.lookup x).map .glb else none) else none
    | .Constant (.int i) _ _ => some (.con (.int i))
    | .Constant (.bool b) _ _ => some (.con (.bl b))
    | .Constant .none _ _ => some (.con .non)
    | .Constant (.str x) _ _ => cStr x
    | .BinOp a op b _ => (boOf op).bind fun o => (cE c N sc n a).bind fun ca => (cE c N sc n b).map fun cb => .bin o ca cb
    | .UnaryOp .USub a _ => (cE c N sc n a).map .neg
    | .UnaryOp .Not a _ => (cE c N sc n a).map .notE
    | .BoolOp _ [a] _ => cE c N sc n a
    | .BoolOp .And (a :: b :: r) p => (cE c N sc n a).bind fun ca => (cE c N sc n (.BoolOp .And (b :: r) p)).map fun cb => .andE ca cb
    | .BoolOp .Or (a :: b :: r) p => (cE c N sc n a).bind fun ca => (cE c N sc n (.BoolOp .Or (b :: r) p)).map fun cb => .orE ca cb
    | .Compare a [op] [b] _ => if behindInMarks op b then none else (coOf2 op b).bind fun o => (cE c N sc n a).bind fun ca => (cE c N sc n b).map fun cb => .cmp o ca cb
    | .Compare a [op, op'] [b, d] _ => if lastMarks [op, op'] [b, d] then none else (coOf op).bind fun o => (coOf op').bind fun o' => (cE c N sc n a).bind fun ca => (cE c N sc n b).bind fun cb => (cE c N sc n d).map fun cd => .chn o o' ca cb cd
    | .IfExp t a b _ => (cT c N sc n t).bind fun ct => (cE c N sc n a).bind fun ca => (cE c N sc n b).map fun cb => .ite ct ca cb
    | .Call (.Name f _) args [] _ =>
      if okName f && isGl sc f && args.all noStar then
        match c.fns.lookup f with
        | some k => (cEs c N sc n args).map fun as => .call k as
        | none =>
          if f = ("isinstance" : Str) then
            match args with
            | [a, .Name t _] => if isGl sc t then (tnOf t).bind fun ty => (cE c N sc n a).map fun ca => .isi ca [ty] else none
            | [a, .Tuple ts _ _] => (tns sc ts).bind fun tys => if tys.isEmpty then none else if okLen tys then (cE c N sc n a).map fun ca => .isi ca tys else none
            | _ => none
          else match args with
            | [] => none
            | a :: r => (biOf f (a :: r).length).bind fun b => (cEs c N sc n (a :: r)).map fun as => .bi b as
      else none
    | .Call (.Attribute o m ap) [a] [] p => if m = ("count" : Str) then (if noStar a && notCall o && (ap.endLine == p.line) then (cE c N sc n o).bind fun co => (cE c N sc n a).map fun ca => .bi .count (.cons co (.cons ca .nil)) else none) else none
    | .Subscript a (.Slice lo hi none _) _ => (cE c N sc n a).bind fun ca => (cO c N sc n lo).bind fun cl => (cO c N sc n hi).map fun ch => .slc ca cl ch
    | .Subscript a b _ => if notSlice b then (cE c N sc n a).bind fun ca => (cE c N sc n b).map fun cb => .idx ca cb else none
    | .Tuple es _ _ => if es.all noStar then (cEs c N sc n es).map .tup else none
    | .List es p => if es.all noStar then (cEs c N sc n es).map (if c.pins.contains (p.line, p.col) then .lstP else .lst) else none
    | .ListComp elt [⟨tg, it, ifs, 0⟩] scope _ => (ownOf N scope).bind fun own =>
      if blkC N sc scope own && notSet it then
        (cI c N sc n it).bind fun ci => (cG N scope n tg).bind fun t => (cPt c N scope n ifs).bind fun cc => (cE c N scope n elt).bind fun ce =>
          if tgIn (own.map (·.2)) t then some (.lc1 (own.map (·.2)) t ci cc ce) else none
      else none
    | .ListComp elt [⟨tg, it, ifs, 0⟩, ⟨tg1, it1, ifs1, 0⟩] scope _ => (ownOf N scope).bind fun own =>
      if blkC N sc scope own && notSet it && notSet it1 then
        (cI c N sc n it).bind fun ci => (cG N scope n tg).bind fun t => (cPt c N scope n ifs).bind fun cc =>
        (cI c N scope n it1).bind fun ci1 => (cG N scope n tg1).bind fun t1 => (cPt c N scope n ifs1).bind fun cc1 => (cE c N scope n elt).bind fun ce =>
          if tgIn (own.map (·.2)) t && tgIn (tgSlots1 t1) t1 && (tgSlots1 t1).all (fun i => (own.map (·.2)).contains i) then some (.lc2 (own.map (·.2)) t ci cc (tgSlots1 t1) t1 ci1 cc1 ce) else none
      else none
    | _ => none
def cO (c : Cfg) (N : List Str) (sc : Scope) : Nat → Option Expr → Option CE
  | 0, _ => none
  | n + 1, o => match o with
    | none => some (.con .non)
    | some e => cE c N sc n e
def cPt (c : Cfg) (N : List Str) (sc : Scope) : Nat → List Expr → Option CT
  | 0, _ => none
  | n + 1, l => match l with
    | [] => some .yes
    | [e] => cT c N sc n e
    | _ => none
def cI (c : Cfg) (N : List Str) (sc : Scope) : Nat → Expr → Option CI
  | 0, _ => none
  | n + 1, e => match e with
    | .Call (.Name f p) args ks q =>
      if f = ("range" : Str) then
        if isGl sc f && (c.fns.lookup f).isNone then
          match args, ks with
          | [a], [] => if noStar a then (cE c N sc n a).map .rng1 else none
          | [a, b], [] => if noStar a && noStar b then (cE c N sc n a).bind fun ca => (cE c N sc n b).map fun cb => .rng2 ca cb else none
          | _, _ => none
        else none
      else (cE c N sc n (.Call (.Name f p) args ks q)).map .seq
    | e => (cE c N sc n e).map .seq
def cT (c : Cfg) (N : List Str) (sc : Scope) : Nat → Expr → Option CT
  | 0, _ => none
  | n + 1, e => match e with
    | .BoolOp _ [a] _ => cT c N sc n a
    | .BoolOp .And (a :: b :: r) p => (cT c N sc n a).bind fun ca => (cT c N sc n (.BoolOp .And (b :: r) p)).map fun cb => .and ca cb
    | .BoolOp .Or (a :: b :: r) p => (cT c N sc n a).bind fun ca => (cT c N sc n (.BoolOp .Or (b :: r) p)).map fun cb => .or ca cb
    | .UnaryOp .Not a _ => (cT c N sc n a).map .not
    | .IfExp t a b _ => (cT c N sc n t).bind fun ct => (cT c N sc n a).bind fun ca => (cT c N sc n b).map fun cb => .ite ct ca cb
    | e => (cE c N sc n e).map .tru
def cEs (c : Cfg) (N : List Str) (sc : Scope) : Nat → List Expr → Option CEs
  | 0, _ => none
  | n + 1, es => match es with
    | [] => some .nil
    | e :: r => (cE c N sc n e).bind fun ce => (cEs c N sc n r).map fun cr => .cons ce cr
end
end Gx

set_option Elab.async false
set_option linter.all false
set_option maxRecDepth 100000
set_option maxHeartbeats 4000000
namespace Gx
open PySem PySem.Spec PyProof.Rows L2

def bltNames : List Str := ["isinstance", "range", "len", "abs", "int", "list", "tuple", "sum", "max", "min", "any", "all", "bool", "str"]
structure Wf (c : Cfg) (fs : List FnI) (gl : List D) (k : Nat) (X : Cx) : Prop where
  fn : ∀ x n, c.fns.lookup x = some n → ∃ f fd ps, X.mg x = some (.ref f) ∧ PySem.W.keepIn X.K (.ref f) = true ∧ Binds X.K fd ps [] ∧ FnOk X.prog X.w X.K X.mg X.base CX0 k f fd ps (spF X.K fs gl k n)
  gb : ∀ x j, c.gls.lookup x = some j → ∃ d v u, gl[j]? = some d ∧ X.mg x = some u ∧ L2.RelV v u ∧ ∀ μ H, Rep X.K μ H d v
  bt : ∀ x ∈ bltNames, X.mg x = none
structure Ck (c : Cfg) (N : List Str) (sc : Scope) (fs : List FnI) (gl : List D) (k : Nat) (X : Cx) : Prop where
  nN : X.N = N
  nd : N.Nodup
  calm : X.calm = true
  room : Room k X.A
  vis : ∀ x, isVis sc x = true → Vis X.env.scope x
  loc : ∀ x, isLoc sc x = true → Loc X.env.scope x ∧ (X.fn x = true ∨ X.env.scope.names.lookup x = some .local)
  glo : ∀ x, isGl sc x = true → L2.Gl X x
  cel : ∀ x, sc.names.lookup x = some .cell → X.env.scope.names.lookup x = some .cell
  fre : ∀ x, sc.names.lookup x = some .free → X.env.scope.names.lookup x = some .cell ∨ X.env.scope.names.lookup x = some .free
  w : Wf c fs gl k X
section
variable {c : Cfg} {N : List Str} {sc : Scope} {fs : List FnI} {gl : List D} {k : Nat} {X : Cx}
theorem Ck.hu (h : Ck c N sc fs gl k X) : X.A.units + 64 < cLine := h.room.units
theorem Ck.blk_ok (h : Ck c N sc fs gl k X) {scope : Scope} {own : List (Str × Nat)} (b : blkC N sc scope own = true) : BlkOk X.N X.env.scope scope own := by
  have o := blkOk_by b
  rw [h.nN]
  refine ⟨o.kind, o.uniq, o.ix, fun y hy e => ?_, o.own⟩
  rcases o.free y hy e with z | z
  · exact .inl (h.cel _ z)
  · exact h.fre _ z
theorem relS_free {scope s2 : Scope} {x : Str} (h : scope.names.lookup x = some .free) : (relS scope s2).names.lookup x = some .cell ∨ (relS scope s2).names.lookup x = some .free := by
  have some_of : ∀ (f : Str × NameKind → Str × NameKind) (hf : ∀ y, (f y).1 = y.1) (names : List (Str × NameKind)), names.lookup x = some .free → ∃ q, (names.map f).lookup x = some q := by
    intro f hf names
    induction names with
    | nil => intro z; cases z
    | cons y r ih =>
      intro z
      rw [List.map_cons]
      have e1 : f y = (y.1, (f y).2) := by rw [← hf y]
      rw [e1, List.lookup_cons]
      obtain ⟨n, kk⟩ := y
      rw [List.lookup_cons] at z
      cases hx : x == n with
      | true => exact ⟨_, rfl⟩
      | false =>
        rw [hx] at z
        exact ih z
  have hh : ∃ q, (relS scope s2).names.lookup x = some q := by
    unfold relS
    refine some_of _ (fun y => ?_) scope.names h
    dsimp only
    split <;> rfl
  obtain ⟨q, hq⟩ := hh
  obtain ⟨k', e, r⟩ := lookup_relS hq
  rw [h] at e
  cases e
  rcases r with rfl | ⟨_, rfl⟩
  · exact .inr hq
  · exact .inl hq
theorem Ck.blk (h : Ck c N sc fs gl k X) {scope : Scope} (s : Shared) (H : Hp) (C : Addr) (cl : List (Str × Addr)) (fp : List Addr) : Ck c N scope fs gl k (Blk X scope s H C cl fp) := by
  have es : (Blk X scope s H C cl fp).env.scope = relS scope X.env.scope := rfl
  have keep : ∀ {x : Str} {q : NameKind}, q ≠ .free → scope.names.lookup x = some q → (relS scope X.env.scope).names.lookup x = some q := fun hq hl => lookup_relS_keep hq hl
  refine ⟨h.nN, h.nd, h.calm, h.room, fun x hx => ?_, fun x hx => ?_, fun x hx => ?_, fun x hx => ?_, fun x hx => ?_, ⟨h.w.fn, h.w.gb, h.w.bt⟩⟩
  · rw [es]
    unfold isVis at hx
    split at hx
    · rename_i e; exact .inl (keep (by decide) e)
    · rename_i e; exact .inr (.inl (keep (by decide) e))
    · rename_i e
      rcases relS_free (s2 := X.env.scope) e with z | z
      · exact .inr (.inl z)
      · exact .inr (.inr z)
    · cases hx
  · rw [es]
    unfold isLoc at hx
    split at hx
    · rename_i e; exact ⟨.inl (keep (by decide) e), .inr (keep (by decide) e)⟩
    · rename_i e
      refine ⟨.inr (keep (by decide) e), .inl ?_⟩
      show (scope.names.lookup x == some NameKind.cell) = true
      rw [e]
      rfl
    · cases hx
  · unfold isGl at hx
    split at hx
    · rename_i e
      show (relS scope X.env.scope).names.lookup x = some .globalImplicit
      exact keep (by decide) e
    · cases hx
  · rw [es]; exact keep (by decide) hx
  · rw [es]; exact relS_free hx

/-- targets -/
theorem snd_g : ∀ (n : Nat), (∀ {sc : Scope} {X : Cx} {e : Expr} {t : TGt}, Ck c N sc fs gl k X → cG N sc n e = some t → SG X e t) ∧ (∀ {sc : Scope} {X : Cx} {es : List Expr} {ts : List TGt}, Ck c N sc fs gl k X → es.all noStar = true → cGs N sc n es = some ts → SGs X es ts ∧ es.length = ts.length)
  | 0 => by
    refine ⟨fun {sc X e t} _ h => ?_, fun {sc X es ts} _ _ h => ?_⟩
    · simp [cG] at h
    · simp [cGs] at h
  | n + 1 => by
    obtain ⟨ih1, ih2⟩ := snd_g n
    refine ⟨fun {sc X e t} K h => ?_, fun {sc X es ts} K hn h => ?_⟩
    · simp only [cG] at h
      split at h
      · rename_i x p
        split at h
        · rename_i hl
          rw [Option.map_eq_some_iff] at h
          obtain ⟨i, h1, rfl⟩ := h
          obtain ⟨a, b⟩ := K.loc x hl
          exact sg_nm (by rw [K.nN]; exact K.nd) (by rw [K.nN]; exact slot_at h1) a b
        · cases h
      · rename_i es q p
        split at h
        · rename_i hs
          rw [Option.map_eq_some_iff] at h
          obtain ⟨ts, h1, rfl⟩ := h
          obtain ⟨a, b⟩ := ih2 K hs h1
          exact sg_tp K.calm hs b a
        · cases h
      · cases h
    · simp only [cGs] at h
      split at h
      · cases h
        exact ⟨sgs_nil, rfl⟩
      · rename_i e r
        rw [List.all_cons, Bool.and_eq_true] at hn
        rw [Option.bind_eq_some_iff] at h
        obtain ⟨t, h1, h⟩ := h
        rw [Option.map_eq_some_iff] at h
        obtain ⟨ts', h2, rfl⟩ := h
        obtain ⟨a, b⟩ := ih2 K hn.2 h2
        exact ⟨sgs_cons hn.1 (ih1 K h1) a, by rw [List.length_cons, List.length_cons, b]⟩
theorem cStr_ok {x : Str} {ce : CE} (h : cStr x = some ce) : ∃ m, ce = .con (.str m) ∧ toStr m = x := by
  unfold cStr at h
  split at h
  · rename_i e
    cases h
    exact ⟨_, rfl, e⟩
  · cases h
theorem boOf_ok {op : Operator} {o : BO} (h : boOf op = some o) : op = boPy o := by
  cases op <;> simp only [boOf] at h <;> first | (cases h; rfl) | cases h
theorem coOf_ok {op : CmpOp} {o : CO} (h : coOf op = some o) : op = coPy o := by
  cases op <;> simp only [coOf] at h <;> (cases h; rfl)
theorem coOf2_ok {op : CmpOp} {b : Expr} {o : CO} (h : coOf2 op b = some o) : op = coPy o := by
  unfold coOf2 at h
  split at h
  · cases h; rfl
  · cases h; rfl
  · exact coOf_ok h
theorem biOf_ok {x : Str} {n : Nat} {b : BI} (h : biOf x n = some b) : x = biName b ∧ b ≠ .count ∧ x ∈ bltNames := by
  unfold biOf at h
  split at h
  · rename_i e; cases h; exact ⟨e, by decide, by rw [e]; decide +kernel⟩
  split at h
  · rename_i e; cases h; exact ⟨e, by decide, by rw [e]; decide +kernel⟩
  split at h
  · rename_i e; cases h; exact ⟨e, by decide, by rw [e]; decide +kernel⟩
  split at h
  · rename_i e; cases h; exact ⟨e, by decide, by rw [e]; decide +kernel⟩
  split at h
  · rename_i e; cases h; exact ⟨e, by decide, by rw [e]; decide +kernel⟩
  split at h
  · rename_i e; cases h; exact ⟨e, by decide, by rw [e]; decide +kernel⟩
  split at h
  · rename_i e; cases h; exact ⟨e, by decide, by rw [e]; decide +kernel⟩
  split at h
  · rename_i e; cases h; exact ⟨e, by decide, by rw [e]; decide +kernel⟩
  split at h
  · rename_i e; split at h <;> (cases h; exact ⟨e, by decide, by rw [e]; decide +kernel⟩)
  split at h
  · rename_i e; split at h <;> (cases h; exact ⟨e, by decide, by rw [e]; decide +kernel⟩)
  · cases h
theorem tnOf_ok {x : Str} {t : TyN} (h : tnOf x = some t) : x = tnName t ∧ x ∈ bltNames := by
  unfold tnOf at h
  split at h
  · rename_i e; cases h; exact ⟨e, by rw [e]; decide +kernel⟩
  split at h
  · rename_i e; cases h; exact ⟨e, by rw [e]; decide +kernel⟩
  split at h
  · rename_i e; cases h; exact ⟨e, by rw [e]; decide +kernel⟩
  split at h
  · rename_i e; cases h; exact ⟨e, by rw [e]; decide +kernel⟩
  split at h
  · rename_i e; cases h; exact ⟨e, by rw [e]; decide +kernel⟩
  · cases h
theorem tns_ok (K : Ck c N sc fs gl k X) : ∀ {es : List Expr} {ts : List TyN}, tns sc es = some ts → TnAll X es ts
  | [], ts, h => by cases h; exact .nil
  | e :: r, ts, h => by
    cases e with
    | Name x p =>
      simp only [tns] at h
      split at h
      · rename_i hg
        rw [Option.bind_eq_some_iff] at h
        obtain ⟨t, h1, h⟩ := h
        rw [Option.map_eq_some_iff] at h
        obtain ⟨ts', h2, rfl⟩ := h
        obtain ⟨e1, e2⟩ := tnOf_ok h1
        subst e1
        exact .cons (K.glo _ hg) (K.w.bt _ e2) (tns_ok K h2)
      · cases h
    | _ => simp [tns] at h
theorem plainIx_of {b : Expr} (h : notSlice b = true) : PlainIx b := by
  intro o i
  cases b <;> first | rfl | cases h
theorem folded_of {e : Expr} (h : notSet e = true) : ∀ env x, foldedSetIterable e env x = pure x := by
  intro env x
  cases e <;> first | rfl | cases h
theorem base_of {o : Expr} {m : Str} {env : PySem.Env} (h : notCall o = true) : attributeBase o m env (eval o env) = eval o env := by
  cases o <;> first | rfl | cases h
end
end Gx

set_option Elab.async false
set_option linter.all false
set_option maxRecDepth 100000
set_option maxHeartbeats 8000000
namespace Gx
open PySem PySem.Spec PyProof.Rows L2

structure SndAll (c : Cfg) (N : List Str) (fs : List FnI) (gl : List D) (k n : Nat) : Prop where
  e : ∀ {sc : Scope} {X : Cx} {e : Expr} {ce : CE}, Ck c N sc fs gl k X → cE c N sc n e = some ce → SE (callF fs gl k) gl X e ce ∧ (∀ a ops cs p, e = .Compare a ops cs p → ST (callF fs gl k) gl X e (.tru ce))
  t : ∀ {sc : Scope} {X : Cx} {e : Expr} {ct : CT}, Ck c N sc fs gl k X → cT c N sc n e = some ct → ST (callF fs gl k) gl X e ct
  es : ∀ {sc : Scope} {X : Cx} {es : List Expr} {cs : CEs}, Ck c N sc fs gl k X → es.all noStar = true → cEs c N sc n es = some cs → SA (callF fs gl k) gl X es cs ∧ SL (callF fs gl k) gl X es cs ∧ SR (callF fs gl k) gl X es cs ∧ (es = [] → cs = .nil)
  i : ∀ {sc : Scope} {X : Cx} {e tg : Expr} {ci : CI} (fz : Bool), Ck c N sc fs gl k X → cI c N sc n e = some ci → SI (callF fs gl k) gl X fz tg e ci
  o : ∀ {sc : Scope} {X : Cx} {e : Option Expr} {ce : CE}, Ck c N sc fs gl k X → cO c N sc n e = some ce → PartIs (callF fs gl k) gl X e ce
  p : ∀ {sc : Scope} {X : Cx} {es : List Expr} {ct : CT}, Ck c N sc fs gl k X → cPt c N sc n es = some ct → SPt (callF fs gl k) gl X es ct
section
variable {c : Cfg} {N : List Str} {fs : List FnI} {gl : List D} {k : Nat}
theorem okName_ok {x : Str} (h : okName x = true) : (x == ("__debug__" : Str)) = false ∧ (x == ("__classdict__" : Str)) = false := by
  unfold okName at h
  rw [Bool.and_eq_true] at h
  exact ⟨by simpa using h.1, by simpa using h.2⟩
theorem blt_mem {x : Str} (h : decide (x ∈ bltNames) = true) : x ∈ bltNames := of_decide_eq_true h
/-- a test by and, or: whatever its whole is -/
theorem sw_of {X : Cx} {op : BoolOp} {vs : List Expr} {p : Pos} {ct : CT} (hn : vs ≠ []) (h : ST (callF fs gl k) gl X (.BoolOp op vs p) ct) : SW (callF fs gl k) gl X (.BoolOp op vs p) ct := fun H0 env m =>
  ⟨fun whole pins s σ H Q I hw => (h H0 env m).run pins s σ H Q I hw⟩
theorem snd : ∀ n : Nat, SndAll c N fs gl k n
  | 0 => by
    refine ⟨fun {sc X e ce} _ h => ?_, fun {sc X e ce} _ h => ?_, fun {sc X e ce} _ _ h => ?_, fun {sc X e tg ce} _ _ h => ?_, fun {sc X e ce} _ h => ?_, fun {sc X e ce} _ h => ?_⟩
    · simp [cE] at h
    · simp [cT] at h
    · simp [cEs] at h
    · simp [cI] at h
    · simp [cO] at h
    · simp [cPt] at h
  | n + 1 => by
    have ih := snd n
    refine ⟨fun {sc X e ce} K h => ?_, fun {sc X e ce} K h => ?_, fun {sc X e ce} K hn h => ?_, fun {sc X e tg ce} fz K h => ?_, fun {sc X e ce} K h => ?_, fun {sc X e ce} K h => ?_⟩
    · simp only [cE] at h
      split at h
      · rename_i x p
        refine ⟨?_, fun _ _ _ _ z => nomatch z⟩
        split at h
        · rename_i hk
          obtain ⟨d1, d2⟩ := okName_ok hk
          split at h
          · rename_i hv
            rw [Option.map_eq_some_iff] at h
            obtain ⟨i, h1, rfl⟩ := h
            exact se_var (by rw [K.nN]; exact slot_at h1) (K.vis x hv) d1 d2
          · split at h
            · rename_i hg
              rw [Option.map_eq_some_iff] at h
              obtain ⟨j, h1, rfl⟩ := h
              obtain ⟨d, v, u, a1, a2, a3, a4⟩ := K.w.gb x j h1
              exact se_glb a1 (pe_glob (K.glo x hg) a2 a3 d1) a4
            · cases h
        · cases h
      · cases h
        exact ⟨se_con pe_int fun μ H => .int _, fun _ _ _ _ z => nomatch z⟩
      · cases h
        exact ⟨se_con pe_bl fun μ H => .bl _, fun _ _ _ _ z => nomatch z⟩
      · cases h
        exact ⟨se_con pe_non fun μ H => .non, fun _ _ _ _ z => nomatch z⟩
      · obtain ⟨m, rfl, e1⟩ := cStr_ok h
        subst e1
        exact ⟨se_con pe_str fun μ H => .str _, fun _ _ _ _ z => nomatch z⟩
      · rename_i a op b p
        rw [Option.bind_eq_some_iff] at h
        obtain ⟨o, h1, h⟩ := h
        rw [Option.bind_eq_some_iff] at h
        obtain ⟨ca, h2, h⟩ := h
        rw [Option.map_eq_some_iff] at h
        obtain ⟨cb, h3, rfl⟩ := h
        have e1 := boOf_ok h1
        subst e1
        exact ⟨se_bin (ih.e K h2).1 (ih.e K h3).1, fun _ _ _ _ z => nomatch z⟩
      · rw [Option.map_eq_some_iff] at h
        obtain ⟨ca, h1, rfl⟩ := h
        exact ⟨se_neg (ih.e K h1).1, fun _ _ _ _ z => nomatch z⟩
      · rw [Option.map_eq_some_iff] at h
        obtain ⟨ca, h1, rfl⟩ := h
        exact ⟨se_not (ih.e K h1).1, fun _ _ _ _ z => nomatch z⟩
      · exact ⟨se_one (ih.e K h).1, fun _ _ _ _ z => nomatch z⟩
      · rw [Option.bind_eq_some_iff] at h
        obtain ⟨ca, h2, h⟩ := h
        rw [Option.map_eq_some_iff] at h
        obtain ⟨cb, h3, rfl⟩ := h
        exact ⟨se_and (ih.e K h2).1 (ih.e K h3).1, fun _ _ _ _ z => nomatch z⟩
      · rw [Option.bind_eq_some_iff] at h
        obtain ⟨ca, h2, h⟩ := h
        rw [Option.map_eq_some_iff] at h
        obtain ⟨cb, h3, rfl⟩ := h
        exact ⟨se_or (ih.e K h2).1 (ih.e K h3).1, fun _ _ _ _ z => nomatch z⟩
      · rename_i a op b p
        split at h
        · cases h
        · rename_i hm
          rw [Option.bind_eq_some_iff] at h
          obtain ⟨o, h1, h⟩ := h
          rw [Option.bind_eq_some_iff] at h
          obtain ⟨ca, h2, h⟩ := h
          rw [Option.map_eq_some_iff] at h
          obtain ⟨cb, h3, rfl⟩ := h
          have e1 := coOf2_ok h1
          subst e1
          obtain ⟨s1, s2⟩ := se_cmp (pos := p) K.hu (ih.e K h2).1 (ih.e K h3).1 (by simpa using hm)
          exact ⟨s1, fun _ _ _ _ _ => s2⟩
      · rename_i a op op' b d p
        split at h
        · cases h
        · rename_i hm
          rw [Option.bind_eq_some_iff] at h
          obtain ⟨o, h1, h⟩ := h
          rw [Option.bind_eq_some_iff] at h
          obtain ⟨o', h1', h⟩ := h
          rw [Option.bind_eq_some_iff] at h
          obtain ⟨ca, h2, h⟩ := h
          rw [Option.bind_eq_some_iff] at h
          obtain ⟨cb, h3, h⟩ := h
          rw [Option.map_eq_some_iff] at h
          obtain ⟨cd, h4, rfl⟩ := h
          have e1 := coOf_ok h1
          have e2 := coOf_ok h1'
          subst e1 e2
          obtain ⟨s1, s2⟩ := se_chn (pos := p) K.hu (ih.e K h2).1 (ih.e K h3).1 (ih.e K h4).1 (by simpa using hm)
          exact ⟨s1, fun _ _ _ _ _ => s2⟩
      · rw [Option.bind_eq_some_iff] at h
        obtain ⟨ct, h1, h⟩ := h
        rw [Option.bind_eq_some_iff] at h
        obtain ⟨ca, h2, h⟩ := h
        rw [Option.map_eq_some_iff] at h
        obtain ⟨cb, h3, rfl⟩ := h
        exact ⟨se_ite (ih.t K h1) (ih.e K h2).1 (ih.e K h3).1, fun _ _ _ _ z => nomatch z⟩
      · rename_i f fp args p
        refine ⟨?_, fun _ _ _ _ z => nomatch z⟩
        split at h
        · rename_i hc
          rw [Bool.and_eq_true, Bool.and_eq_true] at hc
          obtain ⟨⟨hk, hg⟩, hs⟩ := hc
          obtain ⟨d1, d2⟩ := okName_ok hk
          split at h
          · rename_i j hj
            rw [Option.map_eq_some_iff] at h
            obtain ⟨as, h1, rfl⟩ := h
            obtain ⟨fa, fd, ps, a1, a2, a3, a4⟩ := K.w.fn f j hj
            obtain ⟨s1, _, _, s4⟩ := ih.es K hs h1
            cases args with
            | nil =>
              rw [s4 rfl]
              exact se_call0 a4 K.room (K.glo f hg) a1 a2 a3 d1
            | cons e es => exact se_call a4 K.room (K.glo f hg) a1 a2 a3 d1 hs s1
          · split at h
            · rename_i ef
              subst ef
              have hm := K.w.bt "isinstance" (by decide +kernel)
              split at h
              · rename_i a t tp
                split at h
                · rename_i hgt
                  rw [Option.bind_eq_some_iff] at h
                  obtain ⟨ty, h1, h⟩ := h
                  rw [Option.map_eq_some_iff] at h
                  obtain ⟨ca, h2, rfl⟩ := h
                  obtain ⟨e1, e2⟩ := tnOf_ok h1
                  subst e1
                  simp only [List.all_cons, Bool.and_eq_true] at hs
                  exact se_isi (ih.e K h2).1 hs.1 (K.glo _ hg) hm (K.glo _ hgt) (K.w.bt _ e2)
                · cases h
              · rename_i a ts q tp
                rw [Option.bind_eq_some_iff] at h
                obtain ⟨tys, h1, h⟩ := h
                split at h
                · cases h
                · rename_i hne
                  split at h
                  · rename_i hl
                    rw [Option.map_eq_some_iff] at h
                    obtain ⟨ca, h2, rfl⟩ := h
                    simp only [List.all_cons, Bool.and_eq_true] at hs
                    exact se_isiT (ih.e K h2).1 hs.1 (K.glo _ hg) hm (tns_ok K h1) (fun z => hne (by rw [z]; rfl)) hl
                  · cases h
              · cases h
            · split at h
              · cases h
              · rename_i a r
                rw [Option.bind_eq_some_iff] at h
                obtain ⟨b, h1, h⟩ := h
                rw [Option.map_eq_some_iff] at h
                obtain ⟨as, h2, rfl⟩ := h
                obtain ⟨e1, e2, e3⟩ := biOf_ok h1
                subst e1
                exact se_bi K.calm e2 (K.glo _ hg) (K.w.bt _ e3) hs (ih.es K hs h2).2.1
        · cases h
      · rename_i o m ap a p
        refine ⟨?_, fun _ _ _ _ z => nomatch z⟩
        split at h
        · rename_i em
          subst em
          split at h
          · rename_i hc
            rw [Bool.and_eq_true, Bool.and_eq_true] at hc
            obtain ⟨⟨hs, hnc⟩, hl⟩ := hc
            rw [Option.bind_eq_some_iff] at h
            obtain ⟨co, h1, h⟩ := h
            rw [Option.map_eq_some_iff] at h
            obtain ⟨ca, h2, rfl⟩ := h
            exact se_count K.hu (ih.e K h1).1 (ih.e K h2).1 hs (base_of hnc) hl
          · cases h
        · cases h
      · rw [Option.bind_eq_some_iff] at h
        obtain ⟨ca, h1, h⟩ := h
        rw [Option.bind_eq_some_iff] at h
        obtain ⟨cl, h2, h⟩ := h
        rw [Option.map_eq_some_iff] at h
        obtain ⟨ch, h3, rfl⟩ := h
        exact ⟨se_slc (ih.e K h1).1 (ih.o K h2) (ih.o K h3), fun _ _ _ _ z => nomatch z⟩
      · refine ⟨?_, fun _ _ _ _ z => nomatch z⟩
        split at h
        · rename_i hs
          rw [Option.bind_eq_some_iff] at h
          obtain ⟨ca, h1, h⟩ := h
          rw [Option.map_eq_some_iff] at h
          obtain ⟨cb, h2, rfl⟩ := h
          exact se_idx (ih.e K h1).1 (ih.e K h2).1 (plainIx_of hs)
        · cases h
      · refine ⟨?_, fun _ _ _ _ z => nomatch z⟩
        split at h
        · rename_i hs
          rw [Option.map_eq_some_iff] at h
          obtain ⟨cs, h1, rfl⟩ := h
          exact se_tup (ih.es K hs h1).1
        · cases h
      · refine ⟨?_, fun _ _ _ _ z => nomatch z⟩
        split at h
        · rename_i hs
          rw [Option.map_eq_some_iff] at h
          obtain ⟨cs, h1, e1⟩ := h
          split at e1
          · rw [← e1]; exact se_lstP (ih.es K hs h1).1
          · rw [← e1]; exact se_lst (ih.es K hs h1).1
        · cases h
      · rename_i elt tg it ifs scope p
        refine ⟨?_, fun _ _ _ _ z => nomatch z⟩
        rw [Option.bind_eq_some_iff] at h
        obtain ⟨own, h0, h⟩ := h
        split at h
        · rename_i hc
          rw [Bool.and_eq_true] at hc
          rw [Option.bind_eq_some_iff] at h
          obtain ⟨ci, h1, h⟩ := h
          rw [Option.bind_eq_some_iff] at h
          obtain ⟨t, h2, h⟩ := h
          rw [Option.bind_eq_some_iff] at h
          obtain ⟨cc, h3, h⟩ := h
          rw [Option.bind_eq_some_iff] at h
          obtain ⟨cel, h4, h⟩ := h
          split at h
          · rename_i hv
            cases h
            exact se_lc1 K.calm (by rw [K.nN]; exact K.nd) (ih.i false K h1) (K.blk_ok hc.1) (fun s H C cl fp => (snd_g n).1 (K.blk s H C cl fp) h2) (fun s H C cl fp => ih.p (K.blk s H C cl fp) h3) (fun s H C cl fp => (ih.e (K.blk s H C cl fp) h4).1) hv (folded_of hc.2 _)
          · cases h
        · cases h
      · rename_i elt tg it ifs tg1 it1 ifs1 scope p
        refine ⟨?_, fun _ _ _ _ z => nomatch z⟩
        rw [Option.bind_eq_some_iff] at h
        obtain ⟨own, h0, h⟩ := h
        split at h
        · rename_i hc
          rw [Bool.and_eq_true, Bool.and_eq_true] at hc
          rw [Option.bind_eq_some_iff] at h
          obtain ⟨ci, h1, h⟩ := h
          rw [Option.bind_eq_some_iff] at h
          obtain ⟨t, h2, h⟩ := h
          rw [Option.bind_eq_some_iff] at h
          obtain ⟨cc, h3, h⟩ := h
          rw [Option.bind_eq_some_iff] at h
          obtain ⟨ci1, h1', h⟩ := h
          rw [Option.bind_eq_some_iff] at h
          obtain ⟨t1, h2', h⟩ := h
          rw [Option.bind_eq_some_iff] at h
          obtain ⟨cc1, h3', h⟩ := h
          rw [Option.bind_eq_some_iff] at h
          obtain ⟨cel, h4, h⟩ := h
          split at h
          · rename_i hv
            rw [Bool.and_eq_true, Bool.and_eq_true] at hv
            cases h
            refine se_lc2 K.calm (by rw [K.nN]; exact K.nd) (ih.i false K h1) (K.blk_ok hc.1.1) (fun i hi => ?_) (fun s H C cl fp => (snd_g n).1 (K.blk s H C cl fp) h2) (fun s H C cl fp => ih.p (K.blk s H C cl fp) h3)
              (fun s H C cl fp => ih.i true (K.blk s H C cl fp) h1') (fun s H C cl fp => (snd_g n).1 (K.blk s H C cl fp) h2') (fun s H C cl fp => ih.p (K.blk s H C cl fp) h3')
              (fun s H C cl fp => (ih.e (K.blk s H C cl fp) h4).1) hv.1.1 hv.1.2 (folded_of hc.1.2 _) (fun env x => folded_of hc.2 env x)
            have := List.all_eq_true.mp hv.2 i hi
            simpa using this
          · cases h
        · cases h
      · cases h
    · simp only [cT] at h
      split at h
      · rename_i op a p
        exact (match op with
          | .And => (sw_and1 (ih.t K h)).st
          | .Or => (sw_or1 (ih.t K h)).st)
      · rename_i a b r p
        rw [Option.bind_eq_some_iff] at h
        obtain ⟨ca, h1, h⟩ := h
        rw [Option.map_eq_some_iff] at h
        obtain ⟨cb, h2, rfl⟩ := h
        exact (sw_and (ih.t K h1) (sw_of (by intro z; cases z) (ih.t K h2))).st
      · rename_i a b r p
        rw [Option.bind_eq_some_iff] at h
        obtain ⟨ca, h1, h⟩ := h
        rw [Option.map_eq_some_iff] at h
        obtain ⟨cb, h2, rfl⟩ := h
        exact (sw_or (ih.t K h1) (sw_of (by intro z; cases z) (ih.t K h2))).st
      · rw [Option.map_eq_some_iff] at h
        obtain ⟨ca, h1, rfl⟩ := h
        exact st_not (ih.t K h1)
      · rw [Option.bind_eq_some_iff] at h
        obtain ⟨ct, h1, h⟩ := h
        rw [Option.bind_eq_some_iff] at h
        obtain ⟨ca, h2, h⟩ := h
        rw [Option.map_eq_some_iff] at h
        obtain ⟨cb, h3, rfl⟩ := h
        exact st_ite (ih.t K h1) (ih.t K h2) (ih.t K h3)
      · rw [Option.map_eq_some_iff] at h
        obtain ⟨ca, h1, rfl⟩ := h
        obtain ⟨s1, s2⟩ := ih.e K h1
        rename_i hb1 hb2 hb3 hn hi
        cases e with
        | Compare a ops cs p => exact s2 _ _ _ _ rfl
        | IfExp t a b p => exact absurd rfl (hi t a b p)
        | UnaryOp op a p =>
          cases op with
          | Not => exact absurd rfl (hn a p)
          | _ => exact st_tru s1 fun _ => rfl
        | BoolOp op vs p =>
          cases vs with
          | nil =>
            cases n with
            | zero => simp [cE] at h1
            | succ n => simp [cE] at h1
          | cons a r =>
            cases r with
            | nil => exact absurd rfl (hb1 op a p)
            | cons b r =>
              cases op with
              | And => exact absurd rfl (hb2 a b r p)
              | Or => exact absurd rfl (hb3 a b r p)
        | _ => exact st_tru s1 fun _ => rfl
    · simp only [cEs] at h
      split at h
      · cases h
        exact ⟨SA.nil, SL.nil, SR.nil, fun _ => rfl⟩
      · rename_i e r
        rw [List.all_cons, Bool.and_eq_true] at hn
        rw [Option.bind_eq_some_iff] at h
        obtain ⟨c1, h1, h⟩ := h
        rw [Option.map_eq_some_iff] at h
        obtain ⟨c2, h2, rfl⟩ := h
        obtain ⟨a1, a2, a3, _⟩ := ih.es K hn.2 h2
        have b1 := (ih.e K h1).1
        exact ⟨SA.cons hn.1 b1 a1, SL.cons hn.1 b1 a2, SR.cons hn.1 b1 a3, fun z => nomatch z⟩
    · simp only [cI] at h
      split at h
      · rename_i f fp args ks q
        split at h
        · rename_i ef
          subst ef
          split at h
          · rename_i hg
            rw [Bool.and_eq_true] at hg
            have hm := K.w.bt "range" (by decide +kernel)
            split at h
            · rename_i a
              split at h
              · rename_i hs
                rw [Option.map_eq_some_iff] at h
                obtain ⟨ca, h1, rfl⟩ := h
                exact si_rng1 (ih.e K h1).1 hs (K.glo _ hg.1) hm
              · cases h
            · rename_i a b
              split at h
              · rename_i hs
                rw [Bool.and_eq_true] at hs
                rw [Option.bind_eq_some_iff] at h
                obtain ⟨ca, h1, h⟩ := h
                rw [Option.map_eq_some_iff] at h
                obtain ⟨cb, h2, rfl⟩ := h
                exact si_rng2 (ih.e K h1).1 (ih.e K h2).1 hs.1 hs.2 (K.glo _ hg.1) hm
              · cases h
            · cases h
          · cases h
        · rw [Option.map_eq_some_iff] at h
          obtain ⟨ca, h1, rfl⟩ := h
          exact si_seq (ih.e K h1).1
      · rw [Option.map_eq_some_iff] at h
        obtain ⟨ca, h1, rfl⟩ := h
        exact si_seq (ih.e K h1).1
    · simp only [cO] at h
      split at h
      · cases h; exact .no
      · exact .yes (ih.e K h).1
    · simp only [cPt] at h
      split at h
      · cases h; exact spt_nil
      · exact spt_one (ih.t K h)
      · cases h
end
end Gx

set_option Elab.async false
set_option linter.all false
set_option maxRecDepth 100000
set_option maxHeartbeats 8000000
namespace Gx
open PySem PySem.Spec PyProof.Rows L2

/-! ### where a name is kept -/
mutual
def escV : CE → List Nat
  | .var i => [i]
  | .ite t a b => escT t ++ escV a ++ escV b
  | .andE a b => escV a ++ escV b
  | .orE a b => escV a ++ escV b
  | .con _ => [] | .glb _ => []
  | .bin _ a b => escL a ++ escL b
  | .neg a => escL a | .notE a => escL a
  | .cmp _ a b => escL a ++ escL b
  | .chn _ _ a b c => escL a ++ escL b ++ escL c
  | .call _ as => escVs as
  | .bi _ as => escLs as
  | .isi a _ => escL a
  | .idx a b => escL a ++ escL b
  | .slc a b c => escL a ++ escL b ++ escL c
  | .tup as => escVs as | .lst as => escVs as | .lstP as => escVs as
  | .lc1 _ _ it c e => escI false it ++ escT c ++ escV e
  | .lc2 _ _ it c _ _ it1 c1 e => escI false it ++ escT c ++ escI true it1 ++ escT c1 ++ escV e
def escL : CE → List Nat
  | .var _ => []
  | .ite t a b => escT t ++ escL a ++ escL b
  | .andE a b => escL a ++ escL b
  | .orE a b => escL a ++ escL b
  | .con _ => [] | .glb _ => []
  | .bin _ a b => escL a ++ escL b
  | .neg a => escL a | .notE a => escL a
  | .cmp _ a b => escL a ++ escL b
  | .chn _ _ a b c => escL a ++ escL b ++ escL c
  | .call _ as => escVs as
  | .bi _ as => escLs as
  | .isi a _ => escL a
  | .idx a b => escL a ++ escL b
  | .slc a b c => escL a ++ escL b ++ escL c
  | .tup as => escVs as | .lst as => escVs as | .lstP as => escVs as
  | .lc1 _ _ it c e => escI false it ++ escT c ++ escV e
  | .lc2 _ _ it c _ _ it1 c1 e => escI false it ++ escT c ++ escI true it1 ++ escT c1 ++ escV e
def escI (fz : Bool) : CI → List Nat
  | .seq a => if fz then escV a else escL a
  | .rng1 a => escL a
  | .rng2 a b => escL a ++ escL b
def escT : CT → List Nat
  | .yes => []
  | .tru e => escL e
  | .and a b => escT a ++ escT b
  | .or a b => escT a ++ escT b
  | .not a => escT a
  | .ite t a b => escT t ++ escT a ++ escT b
def escVs : CEs → List Nat
  | .nil => []
  | .cons e es => escV e ++ escVs es
def escLs : CEs → List Nat
  | .nil => []
  | .cons e es => escL e ++ escLs es
end
def escS : CS → List Nat
  | .asg _ e => escV e
  | .par _ es => escVs es
  | .set o i e => escL o ++ escL i ++ escV e
  | .aug _ _ e => escL e
  | .app o e => escL o ++ escV e
  | .appV _ e => escV e
  | .ret e => escV e
  | .exp e => escL e
  | .ifS t _ _ => escT t
  | .whl t _ => escT t
  | .forS _ it _ => escI true it
  | _ => []

def nmS (sc : Scope) (N : List Str) : List Expr → Option (List Nat)
  | [] => some []
  | .Name x _ :: r => if isLoc sc x then (slot N x).bind fun i => (nmS sc N r).map (i :: ·) else none
  | _ => none
/-- what swappedStores gives for two tuples, by the kind of the block and of the names alone; none: nothing is promised -/
def swN (bk : ScopeKind) (kf : Str → Option NameKind) (ts vs : List Expr) : Option (Option (List Str)) :=
  if !(ts.length == 2 || ts.length == 3) || vs.length != ts.length || bk != .function then some none
  else if vs.any (fun | .Starred .. => true | _ => false) then some none
  else
    let names := ts.filterMap fun
      | .Name id pos => if kf id == some .local && pos.line == (ts.head?.map (·.pos.line)).getD 0 then some id else none
      | _ => none
    if names.length != ts.length || names.eraseDups.length != names.length then some none
    else if vs.all (foldedForSure 8) then some none
    else if vs.all (constantsAlone 8) then none
    else some (some names)
theorem swN_env {env : PySem.Env} {ts vs : List Expr} {k k2 : Nat} {p p2 : Pos} {r : Option (List Str)} (h : swN env.blockKind env.kindOf ts vs = some r) : swappedStores [.Tuple ts k p] (.Tuple vs k2 p2) env = pure r := by
  unfold swN at h
  unfold swappedStores
  dsimp only at h ⊢
  split at h
  · rename_i c
    cases h
    exact if_pos c
  · rename_i c
    refine (if_neg c).trans ?_
    split at h
    · rename_i c2
      cases h
      exact if_pos c2
    · rename_i c2
      refine (if_neg c2).trans ?_
      split at h
      · rename_i c3
        cases h
        exact if_pos c3
      · rename_i c3
        refine (if_neg c3).trans ?_
        split at h
        · rename_i c4
          cases h
          exact if_pos c4
        · rename_i c4
          refine (if_neg c4).trans ?_
          split at h
          · cases h
          · rename_i c5
            cases h
            exact if_neg c5
def bkOf (sc : Scope) : ScopeKind := if sc.kind.isAnnotationScope then .function else sc.kind
theorem swN_ok {sc : Scope} {env : PySem.Env} (hs : env.scope = sc) {ts vs : List Expr} {k k2 : Nat} {p p2 : Pos} {r : Option (List Str)} (h : swN (bkOf sc) (fun x => sc.names.lookup x) ts vs = some r) : swappedStores [.Tuple ts k p] (.Tuple vs k2 p2) env = pure r := by
  subst hs
  exact swN_env h
end Gx

set_option Elab.async false
set_option linter.all false
set_option maxRecDepth 100000
set_option maxHeartbeats 8000000
namespace Gx
open PySem PySem.Spec PyProof.Rows L2

/-- may a comprehension be stored into a name at once -/
def lcDir (sc : Scope) (x : Str) (p : Pos) : Expr → Bool
  | .ListComp _ _ scope pos => (match sc.names.lookup x with | some .local => true | _ => false) && (p.line == pos.line) && !(scope.names.any fun (n, k) => n == x && (k == .local || k == .cell))
  | _ => false
def isCell (sc : Scope) (x : Str) : Bool := match sc.names.lookup x with
  | some .cell => true
  | _ => false
def isLc : Expr → Bool
  | .ListComp .. => true
  | _ => false
def notTup : Expr → Bool
  | .Tuple .. => false
  | _ => true
def isNmS : List Expr → Bool
  | [] => true
  | .Name .. :: r => isNmS r
  | _ => false
/-- things to be frozen ahead of a statement -/
def withFrz (mv : List Nat) (s : CS) (rest : CSs) : CSs :=
  let is := (escS s).filter fun i => mv.contains i
  if is.isEmpty then .cons s rest else .cons (.frz is) (.cons s rest)
mutual
def cS (c : Cfg) (N : List Str) (sc : Scope) (mv : List Nat) : Nat → Stmt → Option CS
  | 0, _ => none
  | n + 1, s => match s with
    | .Return none _ => some .retN
    | .Return (some (.Name x p)) _ => if okName x && isLoc sc x then (slot N x).map .retV else (cE c N sc n (.Name x p)).map .ret
    | .Return (some e) _ => (cE c N sc n e).map .ret
    | .Assign [.Name x p] e q => if okName x && isLoc sc x then
        (slot N x).bind fun i => if lcDir sc x p e || noComp e || (isLc e && isCell sc x) then (cE c N sc n e).map fun ce => .asg (.nm i) ce else none
      else none
    | .Assign [.Tuple ts _ _] e _ => match e with
      | .Tuple vs _ _ => if isNmS ts then
          (if vs.all noStar && Nat.ble ts.length 1000 then (nmS sc N ts).bind fun is => (cEs c N sc n vs).bind fun cs => match swN (bkOf sc) (fun x => sc.names.lookup x) ts vs with
            | some none => some (.par is cs)
            | some (some _) => match ts, vs with
              | [.Name x _, .Name y _], [_, _] => if sc.names.lookup x = some .local && sc.names.lookup y = some .local && swN (bkOf sc) (fun x => sc.names.lookup x) ts vs = some (some [x, y]) && x ≠ y then some (.par is cs) else none
              | [.Name x _, .Name y _, .Name z _], [_, _, _] => if sc.names.lookup x = some .local && sc.names.lookup y = some .local && sc.names.lookup z = some .local && swN (bkOf sc) (fun x => sc.names.lookup x) ts vs = some (some [x, y, z]) && x ≠ y && x ≠ z && y ≠ z then some (.par is cs) else none
              | _, _ => none
            | none => none
          else none) else none
      | e => (cG N sc n (.Tuple ts 0 ⟨0, 0, 0, 0⟩)).bind fun t => (cE c N sc n e).map fun ce => .asg t ce
    | .Assign [.Subscript o i _] e _ => if notSlice i then (cE c N sc n o).bind fun co => (cE c N sc n i).bind fun ci => (cE c N sc n e).map fun ce => .set co ci ce else none
    | .AugAssign (.Name x _) op e _ => if okName x && isLoc sc x then (slot N x).bind fun i => (boOf op).bind fun o => if o = .add || o = .sub then (cE c N sc n e).map fun ce => .aug i o ce else none else none
    | .Expr (.Call (.Attribute o m ap) [e] [] p) _ => if m = ("append" : Str) then
        (if noStar e && (ap.endLine == p.line) then match o with
          | .Name x _ => if okName x && isLoc sc x then (slot N x).bind fun i => (cE c N sc n e).map fun ce => .appV i ce else none
          | o => if notCall o then (cE c N sc n o).bind fun co => (cE c N sc n e).map fun ce => .app co ce else none
        else none)
      else (cE c N sc n (.Call (.Attribute o m ap) [e] [] p)).map .exp
    | .Expr e _ => if noComp e then (cE c N sc n e).map .exp else none
    | .If t a b _ => (cT c N sc n t).bind fun ct => (cSs c N sc mv n a).bind fun ca => (cSs c N sc mv n b).map fun cb => .ifS ct ca cb
    | .While t b [] _ => (cT c N sc n t).bind fun ct => (cSs c N sc mv n b).map fun cb => .whl ct cb
    | .For tg it b [] _ => if notSet it then (cI c N sc n it).bind fun ci => (cG N sc n tg).bind fun t => (cSs c N sc mv n b).map fun cb => .forS t ci cb else none
    | .Break _ => some .brk
    | .Continue _ => some .cnt
    | .Pass _ => some .pas
    | _ => none
def cSs (c : Cfg) (N : List Str) (sc : Scope) (mv : List Nat) : Nat → List Stmt → Option CSs
  | 0, _ => none
  | n + 1, l => match l with
    | [] => some .nil
    | s :: r => (cS c N sc mv n s).bind fun cs => (cSs c N sc mv n r).map fun cr => withFrz mv cs cr
end
structure Cb (c : Cfg) (N : List Str) (sc : Scope) (fs : List FnI) (gl : List D) (k : Nat) (X : Cx) : Prop where
  ck : Ck c N sc fs gl k X
  es : X.env.scope = sc
  kind : sc.kind = .function
  xe : X.xe = fun _ _ => False
section
variable {c : Cfg} {N : List Str} {sc : Scope} {fs : List FnI} {gl : List D} {k : Nat} {X : Cx}
theorem isLoc_vis {x : Str} (h : isLoc sc x = true) : isVis sc x = true := by
  unfold isLoc at h
  unfold isVis
  split at h
  · rename_i e; rw [e]
  · rename_i e; rw [e]
  · cases h
/-- a comprehension stored into a name at once -/
theorem snd_lc {n : Nat} {elt : Expr} {gs : List Comprehension} {scope : Scope} {pos : Pos} {ce : CE} {i : Nat} {y : Str} {py spos : Pos} (B : Cb c N sc fs gl k X) (h : cE c N sc n (.ListComp elt gs scope pos) = some ce) (hi : X.N[i]? = some y) (hd : lcDir sc y py (.ListComp elt gs scope pos) = true) :
    SS (callF fs gl k) gl X (.Assign [.Name y py] (.ListComp elt gs scope pos) spos) (.asg (.nm i) ce) := by
  have K := B.ck
  have hN : X.N.Nodup := by rw [K.nN]; exact K.nd
  unfold lcDir at hd
  dsimp only at hd
  rw [Bool.and_eq_true, Bool.and_eq_true] at hd
  obtain ⟨⟨hl, hp⟩, ha⟩ := hd
  have hyl : X.env.scope.names.lookup y = some .local := by
    rw [B.es]
    split at hl
    · assumption
    · cases hl
  have hsw : swapsWith (.ListComp elt gs scope pos) (some (.Name y py)) spos.line X.env = pure true := sw_true (by rw [B.es]; exact B.kind) hyl hp (by simpa using ha)
  cases n with
  | zero => simp [cE] at h
  | succ n =>
    have ih := snd (c := c) (N := N) (fs := fs) (gl := gl) (k := k) n
    simp only [cE] at h
    split at h
    all_goals first | (rename_i z; cases z; done) | skip
    · rename_i elt' tg it ifs scope' p' ez
      cases ez
      rw [Option.bind_eq_some_iff] at h
      obtain ⟨own, h0, h⟩ := h
      split at h
      · rename_i hc
        rw [Bool.and_eq_true] at hc
        rw [Option.bind_eq_some_iff] at h
        obtain ⟨ci, h1, h⟩ := h
        rw [Option.bind_eq_some_iff] at h
        obtain ⟨t, h2, h⟩ := h
        rw [Option.bind_eq_some_iff] at h
        obtain ⟨cc, h3, h⟩ := h
        rw [Option.bind_eq_some_iff] at h
        obtain ⟨cel, h4, h⟩ := h
        split at h
        · rename_i hv
          cases h
          exact ss_setLc K.calm hN hi hyl hsw (ih.i false K h1) (K.blk_ok hc.1) (fun s H C cl fp => (snd_g n).1 (K.blk s H C cl fp) h2) (fun s H C cl fp => ih.p (K.blk s H C cl fp) h3) (fun s H C cl fp => (ih.e (K.blk s H C cl fp) h4).1) hv (folded_of hc.2 _)
        · cases h
      · cases h
    · rename_i elt' tg it ifs tg1 it1 ifs1 scope' p' ez
      cases ez
      rw [Option.bind_eq_some_iff] at h
      obtain ⟨own, h0, h⟩ := h
      split at h
      · rename_i hc
        rw [Bool.and_eq_true, Bool.and_eq_true] at hc
        rw [Option.bind_eq_some_iff] at h
        obtain ⟨ci, h1, h⟩ := h
        rw [Option.bind_eq_some_iff] at h
        obtain ⟨t, h2, h⟩ := h
        rw [Option.bind_eq_some_iff] at h
        obtain ⟨cc, h3, h⟩ := h
        rw [Option.bind_eq_some_iff] at h
        obtain ⟨ci1, h1', h⟩ := h
        rw [Option.bind_eq_some_iff] at h
        obtain ⟨t1, h2', h⟩ := h
        rw [Option.bind_eq_some_iff] at h
        obtain ⟨cc1, h3', h⟩ := h
        rw [Option.bind_eq_some_iff] at h
        obtain ⟨cel, h4, h⟩ := h
        split at h
        · rename_i hv
          rw [Bool.and_eq_true, Bool.and_eq_true] at hv
          cases h
          refine ss_setLc2 K.calm hN hi hyl hsw (ih.i false K h1) (K.blk_ok hc.1.1) (fun i hi => ?_) (fun s H C cl fp => (snd_g n).1 (K.blk s H C cl fp) h2) (fun s H C cl fp => ih.p (K.blk s H C cl fp) h3)
            (fun s H C cl fp => ih.i true (K.blk s H C cl fp) h1') (fun s H C cl fp => (snd_g n).1 (K.blk s H C cl fp) h2') (fun s H C cl fp => ih.p (K.blk s H C cl fp) h3')
            (fun s H C cl fp => (ih.e (K.blk s H C cl fp) h4).1) hv.1.1 hv.1.2 (folded_of hc.1.2 _) (fun env x => folded_of hc.2 env x)
          have := List.all_eq_true.mp hv.2 i hi
          simpa using this
        · cases h
      · cases h
    · cases h
theorem sw_cell {elt : Expr} {gs : List Comprehension} {scope : Scope} {pos py : Pos} {y : Str} {l : Nat} {env : PySem.Env} (hy : env.scope.names.lookup y = some .cell) : swapsWith (.ListComp elt gs scope pos) (some (.Name y py)) l env = pure false := by
  have ky : env.kindOf y = some .cell := hy
  unfold swapsWith
  simp only [ky]
  have : ((some NameKind.cell : Option NameKind) == some NameKind.local) = false := rfl
  simp only [this, Bool.and_false, Bool.false_and]
theorem nmS_ok (K : Ck c N sc fs gl k X) : ∀ {ts : List Expr} {is : List Nat}, nmS sc N ts = some is → NmAll X ts is
  | [], is, h => by cases h; exact .nil
  | e :: r, is, h => by
    cases e with
    | Name x p =>
      simp only [nmS] at h
      split at h
      · rename_i hl
        rw [Option.bind_eq_some_iff] at h
        obtain ⟨i, h1, h⟩ := h
        rw [Option.map_eq_some_iff] at h
        obtain ⟨is', h2, rfl⟩ := h
        obtain ⟨a, b⟩ := K.loc x hl
        exact .cons (by rw [K.nN]; exact slot_at h1) a b (nmS_ok K h2)
      · cases h
    | _ => simp [nmS] at h
theorem ss_withFrz {cl : Cl} {mv : List Nat} {st : Stmt} {sts : List Stmt} {s : CS} {ss : CSs} (h : SS cl gl X st s) (hs : SSs cl gl X sts ss) : SSs cl gl X (st :: sts) (withFrz mv s ss) := by
  unfold withFrz
  dsimp only
  split
  · exact ss_cons h hs
  · exact ss_frz _ (ss_cons h hs)
theorem nmAll_at : ∀ {ts : List Expr} {is : List Nat}, NmAll X ts is → ∀ (j : Nat) (x : Str) (p : Pos), ts[j]? = some (.Name x p) → ∃ i, is[j]? = some i ∧ X.N[i]? = some x
  | _, _, .nil, _, _, _, h => by simp at h
  | _, _, .cons h1 _ _ _, 0, x, p, h => by
    simp at h
    obtain ⟨rfl, rfl⟩ := h
    exact ⟨_, rfl, h1⟩
  | _, _, .cons _ _ _ r, j + 1, x, p, h => by
    obtain ⟨i, a, b⟩ := nmAll_at r j x p (by simpa using h)
    exact ⟨i, by simpa using a, b⟩
structure SndS (c : Cfg) (N : List Str) (fs : List FnI) (gl : List D) (k n : Nat) : Prop where
  s : ∀ {sc : Scope} {X : Cx} {mv : List Nat} {st : Stmt} {cs : CS}, Cb c N sc fs gl k X → cS c N sc mv n st = some cs → SS (callF fs gl k) gl X st cs
  ss : ∀ {sc : Scope} {X : Cx} {mv : List Nat} {sts : List Stmt} {cs : CSs}, Cb c N sc fs gl k X → cSs c N sc mv n sts = some cs → SSs (callF fs gl k) gl X sts cs
theorem snd_s : ∀ n : Nat, SndS c N fs gl k n
  | 0 => by
    refine ⟨fun {sc X mv st cs} _ h => ?_, fun {sc X mv st cs} _ h => ?_⟩
    · simp [cS] at h
    · simp [cSs] at h
  | n + 1 => by
    have ihs := snd_s n
    have ih := snd (c := c) (N := N) (fs := fs) (gl := gl) (k := k) n
    refine ⟨fun {sc X mv st cs} B h => ?_, fun {sc X mv sts cs} B h => ?_⟩
    · have K := B.ck
      have hN : X.N.Nodup := by rw [K.nN]; exact K.nd
      simp only [cS] at h
      split at h
      · cases h; exact ss_retN
      · rename_i x p q
        split at h
        · rename_i hc
          rw [Bool.and_eq_true] at hc
          obtain ⟨d1, d2⟩ := okName_ok hc.1
          rw [Option.map_eq_some_iff] at h
          obtain ⟨i, h1, rfl⟩ := h
          exact ss_retV (by rw [K.nN]; exact slot_at h1) (K.vis x (isLoc_vis hc.2)) d1 d2
        · rw [Option.map_eq_some_iff] at h
          obtain ⟨ce, h1, rfl⟩ := h
          exact ss_ret (ih.e K h1).1
      · rw [Option.map_eq_some_iff] at h
        obtain ⟨ce, h1, rfl⟩ := h
        exact ss_ret (ih.e K h1).1
      · rename_i x p e q
        split at h
        · rename_i hc
          rw [Bool.and_eq_true] at hc
          rw [Option.bind_eq_some_iff] at h
          obtain ⟨i, h1, h⟩ := h
          have hi : X.N[i]? = some x := by rw [K.nN]; exact slot_at h1
          obtain ⟨l1, l2⟩ := K.loc x hc.2
          split at h
          · rename_i hd
            rw [Option.map_eq_some_iff] at h
            obtain ⟨ce, h2, rfl⟩ := h
            rw [Bool.or_eq_true, Bool.or_eq_true] at hd
            rcases hd with (hd | hd) | hd
            · cases e with
              | ListComp elt gs scope pos => exact snd_lc B h2 hi hd
              | _ => cases hd
            · exact ss_set hN hi l1 l2 (ih.e K h2).1 (sw_no hd)
            · rw [Bool.and_eq_true] at hd
              cases e with
              | ListComp elt gs scope pos =>
                refine ss_set hN hi l1 l2 (ih.e K h2).1 (sw_cell ?_)
                rw [B.es]
                have := hd.2
                unfold isCell at this
                split at this
                · assumption
                · cases this
              | _ => cases hd.1
          · cases h
        · cases h
      · rename_i ts tk tp e q
        split at h
        · rename_i vs vk vp
          split at h
          · split at h
            · rename_i hc
              rw [Bool.and_eq_true] at hc
              rw [Option.bind_eq_some_iff] at h
              obtain ⟨is, h1, h⟩ := h
              rw [Option.bind_eq_some_iff] at h
              obtain ⟨cs', h2, h⟩ := h
              have nm := nmS_ok K h1
              have sr := (ih.es K hc.1 h2).2.2.1
              split at h
              · rename_i hw
                cases h
                exact ss_parU K.calm hN nm (by rw [← nm.star.2]; exact hc.2) sr (swN_ok B.es hw)
              · split at h
                · rename_i x px y py a b _ _
                  split at h
                  · rename_i hx
                    cases h
                    simp only [Bool.and_eq_true, decide_eq_true_eq] at hx
                    obtain ⟨⟨⟨lx, ly⟩, hw⟩, hd⟩ := hx
                    obtain ⟨i, e1, n1⟩ := nmAll_at nm 0 x px rfl
                    obtain ⟨j, e2, n2⟩ := nmAll_at nm 1 y py rfl
                    have hlen := nm.star.2
                    have eis : is = [i, j] := by
                      match is, hlen, e1, e2 with
                      | [_, _], _, e1, e2 => cases e1; cases e2; rfl
                    subst eis
                    refine ss_par2 K.calm hN n1 n2 ?_ (by rw [B.es]; exact lx) (by rw [B.es]; exact ly) sr (swN_ok B.es hw)
                    intro z
                    subst z
                    rw [n1] at n2
                    exact hd (Option.some.inj n2)
                  · cases h
                · rename_i x px y py z pz a b d _ _
                  split at h
                  · rename_i hx
                    cases h
                    simp only [Bool.and_eq_true, decide_eq_true_eq] at hx
                    obtain ⟨⟨⟨⟨⟨⟨lx, ly⟩, lz⟩, hw⟩, xy⟩, xz⟩, yz⟩ := hx
                    obtain ⟨i, e1, n1⟩ := nmAll_at nm 0 x px rfl
                    obtain ⟨j, e2, n2⟩ := nmAll_at nm 1 y py rfl
                    obtain ⟨l, e3, n3⟩ := nmAll_at nm 2 z pz rfl
                    have hlen := nm.star.2
                    have eis : is = [i, j, l] := by
                      match is, hlen, e1, e2, e3 with
                      | [_, _, _], _, e1, e2, e3 => cases e1; cases e2; cases e3; rfl
                    subst eis
                    refine ss_par3 K.calm hN n1 n2 n3 ?_ ?_ ?_ (by rw [B.es]; exact lx) (by rw [B.es]; exact ly) (by rw [B.es]; exact lz) sr (swN_ok B.es hw)
                    · intro w; subst w; rw [n1] at n2; exact xy (Option.some.inj n2)
                    · intro w; subst w; rw [n1] at n3; exact xz (Option.some.inj n3)
                    · intro w; subst w; rw [n2] at n3; exact yz (Option.some.inj n3)
                  · cases h
                · cases h
              · cases h
            · cases h
          · cases h
        · rename_i hnt
          rw [Option.bind_eq_some_iff] at h
          obtain ⟨t, h1, h⟩ := h
          rw [Option.map_eq_some_iff] at h
          obtain ⟨ce, h2, rfl⟩ := h
          obtain ⟨t', et, sg⟩ : ∃ ts', t = .tp ts' ∧ SG X (.Tuple ts tk tp) t := by
            cases n with
            | zero => simp [cG] at h1
            | succ n =>
              have h1' := h1
              simp only [cG] at h1
              split at h1
              · rw [Option.map_eq_some_iff] at h1
                obtain ⟨ts', _, e2⟩ := h1
                exact ⟨ts', e2.symm, (snd_g (n + 1)).1 K (by simpa only [cG] using h1')⟩
              · cases h1
          subst et
          refine ss_tgt (fun i z => by cases z) sg rfl (ih.e K h2).1 ?_ ?_
          · cases e <;> rfl
          · cases e <;> first | rfl | exact absurd rfl (hnt _ _ _)
      · rename_i o i p e q
        split at h
        · rename_i hs
          rw [Option.bind_eq_some_iff] at h
          obtain ⟨co, h1, h⟩ := h
          rw [Option.bind_eq_some_iff] at h
          obtain ⟨ci, h2, h⟩ := h
          rw [Option.map_eq_some_iff] at h
          obtain ⟨ce, h3, rfl⟩ := h
          refine ss_store (ih.e K h1).1 (ih.e K h2).1 (ih.e K h3).1 (by cases e <;> rfl) (by cases e <;> rfl) fun v => ?_
          cases i <;> first | rfl | cases hs
        · cases h
      · rename_i x p op e q
        split at h
        · rename_i hc
          rw [Bool.and_eq_true] at hc
          rw [Option.bind_eq_some_iff] at h
          obtain ⟨i, h1, h⟩ := h
          rw [Option.bind_eq_some_iff] at h
          obtain ⟨o, h2, h⟩ := h
          split at h
          · rename_i ho
            rw [Option.map_eq_some_iff] at h
            obtain ⟨ce, h3, rfl⟩ := h
            have e1 := boOf_ok h2
            subst e1
            obtain ⟨l1, l2⟩ := K.loc x hc.2
            exact ss_aug (by simpa using ho) hN (by rw [K.nN]; exact slot_at h1) l1 l2 (ih.e K h3).1
          · cases h
        · cases h
      · rename_i o m ap e p q
        split at h
        · rename_i em
          subst em
          split at h
          · rename_i hc
            rw [Bool.and_eq_true] at hc
            split at h
            · rename_i x xp
              split at h
              · rename_i hk
                rw [Bool.and_eq_true] at hk
                obtain ⟨d1, d2⟩ := okName_ok hk.1
                rw [Option.bind_eq_some_iff] at h
                obtain ⟨i, h1, h⟩ := h
                rw [Option.map_eq_some_iff] at h
                obtain ⟨ce, h2, rfl⟩ := h
                exact ss_appV (by rw [K.nN]; exact slot_at h1) (K.vis x (isLoc_vis hk.2)) d1 d2 (ih.e K h2).1 hc.1 rfl hc.2
              · cases h
            · split at h
              · rename_i hnc
                rw [Option.bind_eq_some_iff] at h
                obtain ⟨co, h1, h⟩ := h
                rw [Option.map_eq_some_iff] at h
                obtain ⟨ce, h2, rfl⟩ := h
                exact ss_app (ih.e K h1).1 (ih.e K h2).1 hc.1 (base_of hnc) hc.2
              · cases h
          · cases h
        · rw [Option.map_eq_some_iff] at h
          obtain ⟨ce, h1, rfl⟩ := h
          exact ss_exp (ih.e K h1).1 rfl
      · split at h
        · rename_i hn
          rw [Option.map_eq_some_iff] at h
          obtain ⟨ce, h1, rfl⟩ := h
          exact ss_exp (ih.e K h1).1 hn
        · cases h
      · rw [Option.bind_eq_some_iff] at h
        obtain ⟨ct, h1, h⟩ := h
        rw [Option.bind_eq_some_iff] at h
        obtain ⟨ca, h2, h⟩ := h
        rw [Option.map_eq_some_iff] at h
        obtain ⟨cb, h3, rfl⟩ := h
        exact ss_if (ih.t K h1) (ihs.ss B h2) (ihs.ss B h3)
      · rw [Option.bind_eq_some_iff] at h
        obtain ⟨ct, h1, h⟩ := h
        rw [Option.map_eq_some_iff] at h
        obtain ⟨cb, h2, rfl⟩ := h
        exact ss_whl B.xe (ih.t K h1) (ihs.ss B h2)
      · split at h
        · rename_i hs
          rw [Option.bind_eq_some_iff] at h
          obtain ⟨ci, h1, h⟩ := h
          rw [Option.bind_eq_some_iff] at h
          obtain ⟨t, h2, h⟩ := h
          rw [Option.map_eq_some_iff] at h
          obtain ⟨cb, h3, rfl⟩ := h
          exact ss_for B.xe K.calm (ih.i true K h1) ((snd_g n).1 K h2) (ihs.ss B h3) (folded_of hs _)
        · cases h
      · cases h; exact ss_brk
      · cases h; exact ss_cnt
      · cases h; exact ss_pass
      · cases h
    · simp only [cSs] at h
      split at h
      · cases h; exact ss_nil
      · rw [Option.bind_eq_some_iff] at h
        obtain ⟨cs1, h1, h⟩ := h
        rw [Option.map_eq_some_iff] at h
        obtain ⟨cs2, h2, rfl⟩ := h
        exact ss_withFrz (ihs.s B h1) (ihs.ss B h2)
end
end Gx

set_option Elab.async false
set_option linter.all false
set_option maxRecDepth 100000
set_option maxHeartbeats 4000000
/-! The defs of a text. -/
namespace Gx
open PySem PySem.Spec PyProof.Rows L2

structure Df where
  at_ : Str
  st : Stmt
  N : List Str
def defName (s : Stmt) : Str := match s with
  | .FunctionDef n _ _ _ _ _ _ _ _ _ => n
  | _ => ""
def Df.ps (d : Df) : List Str := (defArgs d.st).args.map (·.arg)
def plainP (a : Arguments) : Bool := a.posonlyargs.isEmpty && a.vararg.isNone && a.kwonlyargs.isEmpty && a.kwarg.isNone
def kindB (k : NameKind) : Bool := match k with
  | .free => false
  | _ => true
def fnKind (k : ScopeKind) : Bool := match k with
  | .function => true
  | _ => false
def scB (N P : List Str) (sc : Scope) : Bool :=
  fnKind sc.kind && (!sc.isCoroutine && (!sc.isGenerator && (decide N.Nodup && (decide (N.take P.length = P) && (P.all (isLoc sc) && sc.names.all fun y => kindB y.2)))))
theorem scB_ok {N P : List Str} {sc : Scope} (h : scB N P sc = true) : FnScope N P sc := by
  unfold scB at h
  simp only [Bool.and_eq_true] at h
  obtain ⟨h1, h2, h3, h4, h5, h6, h7⟩ := h
  refine ⟨?_, ?_, ?_, of_decide_eq_true h4, of_decide_eq_true h5, fun x hx => ?_, fun y hy e => ?_⟩
  · revert h1
    cases sc.kind <;> intro z <;> first | rfl | cases z
  · simpa using h2
  · simpa using h3
  · have z := List.all_eq_true.mp h6 x hx
    unfold isLoc at z
    split at z
    · rename_i e; exact .inl e
    · rename_i e; exact .inr e
    · cases z
  · have z := List.all_eq_true.mp h7 y hy
    rw [e] at z
    cases z
def BODY : Nat := 200
def cF (c : Cfg) (d : Df) : Option FnI :=
  if plainP (defArgs d.st) && scB d.N d.ps (defScope d.st) then (cSs c d.N (defScope d.st) (List.range d.N.length) BODY (defBody d.st)).map fun b => ⟨d.ps.length, d.N.length, b⟩ else none

/-! ### how arguments bind -/
theorem lookup_zip {α : Type} : ∀ {ps : List Str} {us : List α} {x : Str}, us.length = ps.length → x ∈ ps → ((ps.zip us).lookup x).isSome = true
  | [], us, x, _, h => by cases h
  | p :: ps, [], x, hl, _ => by cases hl
  | p :: ps, u :: us, x, hl, h => by
    rw [List.zip_cons_cons, List.lookup_cons]
    cases q : x == p with
    | true => rfl
    | false =>
      rcases List.mem_cons.mp h with e | h
      · rw [e] at q
        simp at q
      · exact lookup_zip (Nat.succ.inj hl) h
theorem filterMap_zip {α : Type} : ∀ (ps : List Str) (us : List α) (l : List (Str × α)), us.length = ps.length → ps.Nodup → (∀ x ∈ ps, l.lookup x = (ps.zip us).lookup x) →
    ps.filterMap (fun n => (l.lookup n).map (n, ·)) = ps.zip us
  | [], us, l, _, _, _ => rfl
  | p :: ps, [], l, hl, _, _ => by cases hl
  | p :: ps, u :: us, l, hl, nd, h => by
    have e1 : l.lookup p = some u := by
      rw [h p (List.mem_cons_self ..), List.zip_cons_cons, List.lookup_cons]
      simp
    rw [List.filterMap_cons, e1]
    show (p, u) :: _ = _
    rw [List.zip_cons_cons]
    congr 1
    rw [List.nodup_cons] at nd
    refine filterMap_zip ps us l (Nat.succ.inj hl) nd.2 fun x hx => ?_
    rw [h x (List.mem_cons_of_mem _ hx), List.zip_cons_cons, List.lookup_cons]
    have : (x == p) = false := by
      rw [beq_eq_false_iff_ne]
      rintro rfl
      exact nd.1 hx
    rw [this]
theorem filter_none {α : Type} {l : List (Str × α)} : ∀ (qs : List Str), (∀ x ∈ qs, (l.lookup x).isSome = true) → qs.filter (fun n => (l.lookup n).isNone) = []
  | [], _ => rfl
  | q :: qs, h => by
    have z := h q (List.mem_cons_self ..)
    rw [List.filter_cons, if_neg]
    · exact filter_none qs fun x hx => h x (List.mem_cons_of_mem _ hx)
    · cases e : l.lookup q with
      | none => rw [e] at z; cases z
      | some u => simp
theorem bind_plain {x qual : Str} {a : Arguments} {body : List Stmt} {scope : Scope} {kV doc pm : Value} {an : Option Addr} {cdv ct : Value} {us : List Value}
    (hp : plainP a = true) (nd : (a.args.map (·.arg)).Nodup) (hl : us.length = (a.args.map (·.arg)).length) :
    bindArgs (PySem.W.fnOf x qual a body scope .none kV doc pm an cdv ct) ⟨us, []⟩ = pure ((a.args.map (·.arg)).zip us) := by
  unfold plainP at hp
  simp only [Bool.and_eq_true] at hp
  obtain ⟨⟨⟨h1, h2⟩, h3⟩, h4⟩ := hp
  obtain ⟨po, as, va, ko, kd, kw, df⟩ := a
  have e1 : po = [] := by simpa using h1
  have e2 : va = none := by simpa using h2
  have e3 : ko = [] := by simpa using h3
  have e4 : kw = none := by simpa using h4
  subst e1 e2 e3 e4
  replace hl : us.length = (as.map (·.arg)).length := hl
  replace nd : (as.map (·.arg)).Nodup := nd
  have l1 : ∀ y ∈ as.map (·.arg), (((as.map (·.arg)).zip us).lookup y).isSome = true := fun y hy => lookup_zip hl hy
  have f1 := filter_none (l := (as.map (·.arg)).zip us) (as.map (·.arg)) l1
  have f2 := filterMap_zip (as.map (·.arg)) us ((as.map (·.arg)).zip us) hl nd fun _ _ => rfl
  have l2 : ¬ (us.length > (as.map (·.arg)).length) := by rw [hl]; omega
  have l3 : us.length ≤ as.length := by rw [hl, List.length_map]; exact Nat.le_refl _
  have f3 := congrArg (pure (f := Sem)) f2
  unfold bindArgs PySem.W.fnOf
  simp [seqItems?, notAStandIn, l2, l3]
  rw [List.filterMap_map] at f2
  rw [if_neg (Nat.not_lt.mpr l3), if_neg, f2]
  rw [filter_none _ fun y hy => l1 y (by simpa using List.mem_of_mem_take hy)]
  simp

/-! ### what stands behind the top -/
structure Mods (K : PySem.W.Frag) (mg : Str → Option Value) (c : Cfg) (ds : List Df) (gl : List D) : Prop where
  fn : ∀ x n, c.fns.lookup x = some n → ∃ d f fd, ds[n]? = some d ∧ mg x = some (.ref f) ∧ FunD K (defName d.st) (defName d.st) (defArgs d.st) (defBody d.st) (defScope d.st) [] [] f fd
  gb : ∀ x j, c.gls.lookup x = some j → ∃ d v u, gl[j]? = some d ∧ mg x = some u ∧ L2.RelV v u ∧ ∀ μ H, Rep K μ H d v
  bt : ∀ x ∈ bltNames, mg x = none
theorem env_at {xs : List D} {k : Nat} {i : Nat} {x : Rv} (h : (xs.map (fun x => some (Rv.d x)) ++ List.replicate k none)[i]? = some (some x)) : ∃ y, xs[i]? = some y ∧ x = .d y := by
  by_cases hl : i < xs.length
  · rw [List.getElem?_append_left (by rw [List.length_map]; exact hl), List.getElem?_map] at h
    cases q : xs[i]? with
    | none => rw [q] at h; cases h
    | some y =>
      rw [q] at h
      exact ⟨y, rfl, (Option.some.inj (Option.some.inj h)).symm⟩
  · rw [List.getElem?_append_right (by rw [List.length_map]; omega)] at h
    rw [List.getElem?_replicate] at h
    split at h
    · cases h
    · cases h
section
variable {P : Program} {w : World} {K : PySem.W.Frag} {mg : Str → Option Value} {base : Heap} {c : Cfg} {ds : List Df} {fs : List FnI} {gl : List D}
theorem fns_ok (L : Mods K mg c ds gl) (hc : ds.map (cF c) = fs.map some) : ∀ (k n : Nat) (d : Df) (f : Addr) (fd : FuncData), ds[n]? = some d → FunD K (defName d.st) (defName d.st) (defArgs d.st) (defBody d.st) (defScope d.st) [] [] f fd →
    FnOk P w K mg base CX0 k f fd d.ps (spF K fs gl k n)
  | 0, n, d, f, fd, _, _ => by
    refine ⟨fun vs H Q E h => ?_, fun A outer s H args us vs Q E _ _ _ _ h => ?_⟩
    · obtain ⟨xs, m, μ, rv, m', _, _, e, _⟩ := h
      cases e
    · obtain ⟨xs, m, μ, rv, m', _, _, e, _⟩ := h
      cases e
  | k + 1, n, d, f, fd, hd, F => by
    have e1 : cF c d = (fs[n]?) := by
      have z : (ds.map (cF c))[n]? = (fs.map some)[n]? := by rw [hc]
      rw [List.getElem?_map, List.getElem?_map, hd] at z
      cases q : fs[n]? with
      | none => rw [q] at z; cases z
      | some fi => rw [q] at z; exact Option.some.inj z
    unfold cF at e1
    cases q : fs[n]? with
    | none =>
      have z : (ds.map (cF c))[n]? = (fs.map some)[n]? := by rw [hc]
      rw [List.getElem?_map, List.getElem?_map, hd, q] at z
      cases z
    | some fi =>
    rw [q] at e1
    split at e1
    · rename_i hb
      rw [Bool.and_eq_true] at hb
      obtain ⟨hp, hs⟩ := hb
      have S := scB_ok hs
      rw [Option.map_eq_some_iff] at e1
      obtain ⟨b, e2, e3⟩ := e1
      subst e3
      have lenx : ∀ {xs : List D} {m : Mem} {rv : Rv} {m' : Mem}, callF fs gl (k + 1) n xs m = .ok rv m' → xs.length = d.ps.length := fun {xs m rv m'} e => by
        simp only [callF, q] at e
        split at e
        · rename_i h
          simpa using h
        · cases e
      refine F.ok S (fun vs H Q E h => ?_) fun cdv A outer s H vs Q E hr h => ?_
      · obtain ⟨xs, m, μ, rv, m', r, _, e, _⟩ := h
        rw [← r.length]
        exact lenx e
      · obtain ⟨xs, m, μ, rv, m', r, hh, e, post⟩ := h
        have hl := lenx e
        have lv : vs.length = d.ps.length := by rw [← r.length]; exact hl
        refine ⟨tS K (evSs (callF fs gl k) gl b), PSs.nox ?_, ?_⟩
        · refine (snd_s BODY).ss (sc := defScope d.st) ⟨⟨rfl, S.nd, rfl, hr, fun x hx => ?_, fun x hx => ?_, fun x hx => ?_, fun x hx => hx, fun x hx => .inr hx, ⟨fun x j hx => ?_, L.gb, L.bt⟩⟩, rfl, S.kind, rfl⟩ e2
          · unfold isVis at hx
            split at hx
            · rename_i e; exact .inl e
            · rename_i e; exact .inr (.inl e)
            · rename_i e; exact .inr (.inr e)
            · cases hx
          · refine ⟨?_, .inl rfl⟩
            unfold isLoc at hx
            split at hx
            · rename_i e; exact .inl e
            · rename_i e; exact .inr e
            · cases hx
          · unfold isGl at hx
            split at hx
            · rename_i e; exact e
            · cases hx
          · obtain ⟨d1, f1, fd1, h1, h2, h3⟩ := L.fn x j hx
            have e9 : ds.map (cF c) = fs.map some := hc
            have S1 : plainP (defArgs d1.st) = true ∧ scB d1.N d1.ps (defScope d1.st) = true := by
              have z : (ds.map (cF c))[j]? = (fs.map some)[j]? := by rw [hc]
              rw [List.getElem?_map, List.getElem?_map, h1] at z
              unfold cF at z
              cases q1 : fs[j]? with
              | none => rw [q1] at z; cases z
              | some fi1 =>
                rw [q1] at z
                have z1 := Option.some.inj z
                dsimp only at z1
                split at z1
                · rename_i hb1
                  rw [Bool.and_eq_true] at hb1
                  exact hb1
                · cases z1
            have nd1 : d1.ps.Nodup := by
              have S2 := scB_ok S1.2
              have := S2.pre
              rw [← this]
              exact S2.nd.sublist (List.take_sublist _ _)
            exact ⟨f1, fd1, d1.ps, h2, h3.kp, h3.bindsN fun kV doc pm an cdv ct us hl1 => bind_plain S1.1 nd1 hl1, fns_ok L hc k j d1 f1 fd1 h1 h3⟩
        · have ls : (xs.map (fun x => some (Rv.d x)) ++ List.replicate (d.N.length - d.ps.length) none : Env).length = (L2.start d.N vs).length := by
            unfold L2.start
            rw [List.length_append, List.length_append, List.length_map, List.length_map, List.length_replicate, List.length_replicate, hl, lv]
          refine ⟨μ, H, xs.map (fun x => some (Rv.d x)) ++ List.replicate (d.N.length - d.ps.length) none, m, μ, ⟨ls, fun i x hi => ?_, fun i j o o' v hi _ _ _ => ?_⟩, hh, .refl μ H, ?_⟩
          · obtain ⟨y, hy, rfl⟩ := env_at hi
            obtain ⟨v, hv, rv1⟩ := r.get hy
            refine ⟨v, ?_, rv1, rfl⟩
            unfold L2.start
            have hlt : i < vs.length := by
              rcases Nat.lt_or_ge i vs.length with z | z
              · exact z
              · rw [List.getElem?_eq_none z] at hv
                cases hv
            rw [List.getElem?_append_left (by rw [List.length_map]; exact hlt), List.getElem?_map, hv]
            rfl
          · obtain ⟨y, _, z⟩ := env_at hi
            cases z
          · simp only [callF, q] at e
            rw [if_pos (by simpa using hl)] at e
            revert e
            generalize evSs (callF fs gl k) gl b (xs.map (fun x => some (Rv.d x)) ++ List.replicate (d.N.length - d.ps.length) none) m = r1
            intro e
            cases r1 with
            | nx e1 m1 =>
              cases e
              exact fun σ' H' μ' _ hr' ex' _ => post _ _ _ ex' hr' Rep.non
            | ret v1 m1 =>
              cases e
              exact fun v H' μ' hr' ex' rv' _ => post _ _ _ ex' hr' rv'
            | bk _ _ => cases e
            | ct _ _ => cases e
            | ex _ _ _ => cases e
            | no => cases e
    · cases e1
end
end Gx

set_option Elab.async false
set_option linter.all false
set_option maxRecDepth 100000
set_option maxHeartbeats 4000000
/-! What stands behind the top: the defs, the module's own values. -/
namespace Gx
open PySem PySem.Spec PyProof.Rows L2

/-! ### values of the module -/
mutual
def valB (K : PySem.W.Frag) : D → Value → Bool
  | .non, .none => true
  | .bl b, .bool c => b == c
  | .int i, .int j _ => decide (i = j)
  | .str n, .str x _ => decide (toStr n = x)
  | .tup xs, .ref a => (match K.lookup a with
    | some ⟨.type c, _, .seq its _, _⟩ => decide (c = "tuple") && (decide (its.size ≤ sizeLine) && valsB K xs its.toList)
    | _ => false)
  | _, _ => false
def valsB (K : PySem.W.Frag) : List D → List Value → Bool
  | [], [] => true
  | x :: xs, u :: us => valB K x u && valsB K xs us
  | _, _ => false
end
mutual
theorem valB_ok {K : PySem.W.Frag} : ∀ {d : D} {u : Value}, valB K d u = true → ∃ v, L2.RelV v u ∧ ∀ μ H, Rep K μ H d v
  | .non, .none, _ => ⟨.non, rfl, fun _ _ => .non⟩
  | .bl b, .bool c, h => by
    have e : b = c := by simpa [valB] using h
    exact ⟨.bl b, by rw [e]; rfl, fun _ _ => .bl b⟩
  | .int i, .int j t, h => by
    have e : i = j := by simpa [valB] using h
    exact ⟨.int i, ⟨t, by rw [e]⟩, fun _ _ => .int i⟩
  | .str n, .str x t, h => by
    have e : toStr n = x := by simpa [valB] using h
    exact ⟨.str (toStr n), ⟨t, by rw [e]⟩, fun _ _ => .str n⟩
  | .tup xs, .ref a, h => by
    simp only [valB] at h
    split at h
    · rename_i c od its n osl q
      simp only [Bool.and_eq_true] at h
      obtain ⟨h1, h2, h3⟩ := h
      obtain ⟨vs, r, hv⟩ := valsB_ok h3
      exact ⟨.ref a, rfl, fun μ H => .tup (.inr ⟨_, its, n, q, congrArg Value.type (of_decide_eq_true h1), rfl, of_decide_eq_true h2, r⟩) (hv μ H)⟩
    · cases h
theorem valsB_ok {K : PySem.W.Frag} : ∀ {xs : List D} {us : List Value}, valsB K xs us = true → ∃ vs, Vals vs us ∧ ∀ μ H, Reps K μ H xs vs
  | [], [], _ => ⟨[], .nil, fun _ _ => .nil⟩
  | x :: xs, u :: us, h => by
    simp only [valsB, Bool.and_eq_true] at h
    obtain ⟨v, r, hv⟩ := valB_ok h.1
    obtain ⟨vs, rs, hvs⟩ := valsB_ok h.2
    exact ⟨v :: vs, .cons r rs, fun μ H => .cons (hv μ H) (hvs μ H)⟩
end
def gB (K : PySem.W.Frag) (x : Str) (d : D) : Bool := match PySem.W.nsIn K mainGlobals x with
  | some (some u) => valB K d u
  | _ => false

/-! ### the table -/
def defD (x : Str) (st : Stmt) : He.DefD := ⟨(x, none), defName st, defName st, defArgs st, defBody st, defScope st, [], []⟩
def defDs (ds : List Df) (fns : List (Str × Nat)) : List He.DefD := fns.map fun q => match ds[q.2]? with
  | some d => defD q.1 d.st
  | none => defD q.1 (.Pass ⟨0, 0, 0, 0⟩)
def facts (fns : List (Str × Nat)) : List He.Fa := fns.map (fun q => .glo q.1) ++ bltNames.map .free

/-! ### the Hook -/
def obsX (fns : List (Str × Nat)) (ds : List Df) (gx : List (Str × D)) (K : PySem.W.Frag) : He.AlD := (gx.all (fun q => gB K q.1 q.2) && (He.obsD (facts fns) (defDs ds fns) K).1, (He.obsD (facts fns) (defDs ds fns) K).2)
def SaysX (fns : List (Str × Nat)) (ds : List Df) (gx : List (Str × D)) (K : PySem.W.Frag) : Prop := obsX fns ds gx K = He.valD (defDs ds fns)
def obsXG (n : Nat) (fns : List (Str × Nat)) (ds : List Df) (gx : List (Str × D)) (g : Addr → Option Obj) : He.AlD := obsX fns ds gx (He.frG g (He.asD g n))
def hookX (n : Nat) (fns : List (Str × Nat)) (ds : List Df) (gx : List (Str × D)) : PySem.W.Hook where
  α := He.AlD
  obs := fun s => obsXG n fns ds gx s.heap.get?
  val := fun _ => He.valD (defDs ds fns)
  says := fun _ h => ∃ K : PySem.W.Frag, K.In h ∧ SaysX fns ds gx K
  of := fun _ _ e => ⟨_, He.frG_in, e⟩
  keeps := fun _ _ _ ⟨K, hK, c⟩ k => ⟨K, PySem.W.Frag.In.keeps hK k, c⟩
theorem obsXG_eq {n : Nat} {fns : List (Str × Nat)} {ds : List Df} {gx : List (Str × D)} {g : Addr → Option Obj} {s : Shared} (h : ∀ a, g a = s.heap.get? a) : obsXG n fns ds gx g = (hookX n fns ds gx).obs s := by
  have e : g = s.heap.get? := funext h
  rw [e] <;> rfl
theorem lookup_at {β : Type} {x : Str} {b : β} : ∀ {l : List (Str × β)}, l.lookup x = some b → ∃ i : Nat, l[i]? = some (x, b)
  | [], h => by cases h
  | q :: l, h => by
    rw [List.lookup_cons] at h
    cases e : x == q.1 with
    | true =>
      rw [e] at h
      cases h
      exact ⟨0, by rw [beq_iff_eq.mp e]; rfl⟩
    | false =>
      rw [e] at h
      obtain ⟨i, hi⟩ := lookup_at h
      exact ⟨i + 1, hi⟩
theorem SaysX.toD {fns : List (Str × Nat)} {ds : List Df} {gx : List (Str × D)} {K : PySem.W.Frag} (c : SaysX fns ds gx K) : He.SaysD (facts fns) (defDs ds fns) K ∧ gx.all (fun q => gB K q.1 q.2) = true := by
  have c1 : (gx.all (fun q => gB K q.1 q.2) && (He.obsD (facts fns) (defDs ds fns) K).1) = true := congrArg (fun z : He.AlD => z.1) c
  rw [Bool.and_eq_true] at c1
  have c0 : obsX fns ds gx K = He.valD (defDs ds fns) := c
  have c2 : (obsX fns ds gx K).2 = (He.valD (defDs ds fns)).2 := by rw [c0]
  exact ⟨Prod.ext c1.2 c2, c1.1⟩
/-- what the texts lean on -/
theorem SaysX.mods {fns : List (Str × Nat)} {ds : List Df} {gx : List (Str × D)} {pins : List (Nat × Nat)} {K : PySem.W.Frag} {h : Heap} {mg : Str → Option Value} (X : K.In h) (G : h.Ns mainGlobals mg) (c : SaysX fns ds gx K)
    (hn : fns.all (fun q => Nat.blt q.2 ds.length) = true) : Mods K mg ⟨fns, gx.mapIdx fun i q => (q.1, i), pins⟩ ds (gx.map (·.2)) := by
  obtain ⟨cd, cg⟩ := c.toD
  refine ⟨fun x n hx => ?_, fun x j hx => ?_, fun x hx => ?_⟩
  · obtain ⟨i, hi⟩ := lookup_at hx
    have hlt : n < ds.length := by
      have z := List.all_eq_true.mp hn (x, n) (List.mem_of_getElem? hi)
      simpa [Nat.blt_eq] using z
    have hd : ds[n]? = some ds[n] := List.getElem?_eq_getElem hlt
    have f1 : (facts fns)[i]? = some (.glo x) := by
      have l1 : i < (fns.map fun q => He.Fa.glo q.1).length := by
        rw [List.length_map]
        exact (List.getElem?_eq_some_iff.mp hi).1
      unfold facts
      rw [List.getElem?_append_left l1, List.getElem?_map, hi]
      rfl
    have f2 : (defDs ds fns)[i]? = some (defD x ds[n].st) := by
      unfold defDs
      rw [List.getElem?_map, hi]
      show some (match ds[n]? with | some d => defD x d.st | none => _) = _
      rw [hd]
    obtain ⟨fd, F⟩ := cd.def_ i f2
    exact ⟨ds[n], He.ga K x, fd, hd, He.glo_ok X G (cd.fact i f1), F⟩
  · obtain ⟨i, hi⟩ := lookup_at hx
    rw [List.getElem?_mapIdx] at hi
    cases q : gx[i]? with
    | none => rw [q] at hi; cases hi
    | some p =>
      rw [q] at hi
      cases hi
      have z := List.all_eq_true.mp cg p (List.mem_of_getElem? q)
      unfold gB at z
      split at z
      · rename_i u e
        obtain ⟨v, r, hv⟩ := valB_ok z
        exact ⟨p.2, v, u, by rw [List.getElem?_map, q]; rfl, PySem.W.mg_of X G e, r, hv⟩
      · cases z
  · obtain ⟨i, hi⟩ := List.mem_iff_getElem?.mp hx
    have f1 : (facts fns)[fns.length + i]? = some (.free x) := by
      unfold facts
      rw [List.getElem?_append_right (by rw [List.length_map]; omega), List.length_map, Nat.add_sub_cancel_left, List.getElem?_map, hi]
      rfl
    exact He.free_ok X G (cd.fact _ f1)
theorem cF_list {c : Cfg} : ∀ {ds : List Df}, ds.all (fun d => (cF c d).isSome) = true → ds.map (cF c) = (ds.filterMap (cF c)).map some
  | [], _ => rfl
  | d :: ds, h => by
    rw [List.all_cons, Bool.and_eq_true] at h
    cases e : cF c d with
    | none => rw [e] at h; cases h.1
    | some f => rw [List.map_cons, List.filterMap_cons, e, List.map_cons, cF_list h.2]
theorem reps_ints {K : PySem.W.Frag} {μ : List Addr} {H : Hp} : ∀ ns : List Int, Reps K μ H (ns.map .int) (ns.map V.int)
  | [] => .nil
  | n :: ns => .cons (.int n) (reps_ints ns)
/-- THE END: the law's def, over a script -/
theorem law_end {fns : List (Str × Nat)} {ds : List Df} {gx : List (Str × D)} {pins : List (Nat × Nat)} {P : Program} {w : World} {K : PySem.W.Frag} {h : Heap} {mg : Str → Option Value} {fa : Addr} {x : Str} {n k : Nat} {d : Df}
    (X : K.In h) (G : h.Ns mainGlobals mg) (c : SaysX fns ds gx K) (hn : fns.all (fun q => Nat.blt q.2 ds.length) = true) (hc : ds.all (fun d => (cF ⟨fns, gx.mapIdx fun i q => (q.1, i), pins⟩ d).isSome) = true)
    (hx : fns.lookup x = some n) (hfa : mg x = some (.ref fa)) (hd : ds[n]? = some d) (hp : d.ps = [("script" : Str)])
    (law : ∀ ns : List Int, ns.length ≤ 63 → ∃ m, callF (ds.filterMap (cF ⟨fns, gx.mapIdx fun i q => (q.1, i), pins⟩)) (gx.map (·.2)) k n [.lst (ns.map .int)] [] = .ok (.d (.bl true)) m) :
    ∃ (fd : FuncData) (sp : Sp), (∀ (s : Shared) (u : Value), BindsTo s fd ⟨[u], []⟩ [(("script" : Str), u)]) ∧
      (∀ (H : Hp) (a : Addr) (ns : List Int), ns.length ≤ 63 → Only H → SqL K H a (ns.map V.int) → sp [.ref a] H (fun v _ => v = .bl true) fun _ _ _ => False) ∧
      ∀ base : Heap, K.In base → base.Ns mainGlobals mg → FnOk P w K mg base CX0 k fa fd [("script" : Str)] sp := by
  have L := c.mods (pins := pins) X G hn
  have cl := cF_list hc
  obtain ⟨d1, f, fd, h1, h2, F⟩ := L.fn x n hx
  rw [hfa] at h2
  cases h2
  rw [hd] at h1
  cases h1
  have S1 : plainP (defArgs d.st) = true ∧ scB d.N d.ps (defScope d.st) = true := by
    have z := List.all_eq_true.mp hc d (List.mem_of_getElem? hd)
    unfold cF at z
    split at z
    · rename_i hb1
      rw [Bool.and_eq_true] at hb1
      exact hb1
    · cases z
  have nd1 : d.ps.Nodup := by rw [hp]; decide
  refine ⟨fd, spF K (ds.filterMap (cF ⟨fns, gx.mapIdx fun i q => (q.1, i), pins⟩)) (gx.map (·.2)) k n, fun s v => ?_, fun H a ns hl hO hS => ?_, fun base _ _ => ?_⟩
  · have b := FunD.bindsA (ps := d.ps) F (fun kV doc pm an cdv ct us hl1 => bind_plain S1.1 nd1 hl1) s [v] (by rw [hp]; rfl)
    rw [hp] at b
    exact b
  · obtain ⟨m, e⟩ := law ns hl
    have fz : Fz K H a (ns.map V.int) := by
      rcases hS with (q | ⟨o, q⟩) | q
      · rcases hO a with z | ⟨o, xs, z⟩
        · rw [z] at q; cases q
        · rw [z] at q; cases q
      · exact .inl ⟨o, q⟩
      · exact .inr q
    refine ⟨[.lst (ns.map .int)], [], [], _, m, .cons (.lst fz (reps_ints ns)) .nil, ⟨rfl, .nil, fun i o z => by cases z⟩, e, fun v H' μ' _ _ r => ?_⟩
    have r' : Rep K μ' H' (.bl true) v := r
    cases r'
    rfl
  · rw [← hp]
    exact fns_ok (P := P) (w := w) (base := base) L cl k n d fa fd hd F
end Gx

set_option Elab.async false
set_option linter.all false
set_option maxRecDepth 100000
set_option maxHeartbeats 0
namespace K47
open PySem PySem.Spec PyProof.Rows L2 Gx
def top (i : Nat) : Stmt := PySem.Challenge.pw_gamecheck_k47_claims_of_minds.main.body.getD i (.Pass ⟨0, 0, 0, 0⟩)
def dS (x : Str) : D := .str (enc x.cps.toList)
def ds : List Df := [
  ⟨"is_whole", top 3, ["value", "low", "high"]⟩,
  ⟨"is_tuple_of", top 4, ["value", "low", "high"]⟩,
  ⟨"has_word", top 5, ["value", "words", "many"]⟩,
  ⟨"is_name", top 6, ["value", "sign", ".0"]⟩,
  ⟨"inner_of_expressions", top 10, ["value"]⟩,
  ⟨"fits_head", top 12, ["value"]⟩,
  ⟨"is_expression", top 13, ["value", "line", "signs", "part"]⟩,
  ⟨"is_leaf", top 17, ["value"]⟩,
  ⟨"inner_of", top 23, ["value"]⟩,
  ⟨"is_mind_claim", top 25, ["value", "line", "leaves", "depth", "inners", "part", "inner", ".0"]⟩,
  ⟨"_law_cup", top 27, ["script", "cell"]⟩,
  ⟨"_law_roll", top 28, ["cup", "many", "deep", "found"]⟩,
  ⟨"_law_some", top 29, ["cup", "things"]⟩,
  ⟨"_law_expression", top 30, ["cup", "names", "units", "one"]⟩,
  ⟨"_law_leaf", top 31, ["cup", "names"]⟩,
  ⟨"_law_claim", top 32, ["cup", "deep"]⟩,
  ⟨"_law_units", top 33, ["value", "name", "sign", ".0"]⟩,
  ⟨"_law_look", top 34, ["value", "rows", "one", "row", ".0"]⟩,
  ⟨"_law_spoilt", top 35, ["cup", "here", "at", "way"]⟩,
  ⟨"_law_sum_of", top 36, ["cup", "units", "one"]⟩,
  ⟨"law", top 37, ["script", "cup", "units", "odd", "turn", "found", "one", "two", "claim", "some", "leaves", "deep", "word", ".0"]⟩]
def fnN : List (Str × Nat) := [("is_whole", 0), ("is_tuple_of", 1), ("has_word", 2), ("is_name", 3), ("inner_of_expressions", 4), ("fits_head", 5), ("is_expression", 6), ("is_leaf", 7), ("inner_of", 8), ("inner_of_minds", 8), ("is_mind_claim", 9), ("_law_cup", 10), ("_law_roll", 11), ("_law_some", 12), ("_law_expression", 13), ("_law_leaf", 14), ("_law_claim", 15), ("_law_units", 16), ("_law_look", 17), ("_law_spoilt", 18), ("_law_sum_of", 19), ("law", 20)]
def glN : List (Str × D) := [("LETTERS", (dS "abcdefghijklmnopqrstuvwxyz")), ("LONGEST", (.int 8)), ("UNITS", (.int 5)), ("SIGNS", (.tup [(dS "plus"), (dS "minus"), (dS "times"), (dS "rest")])), ("PLAIN", (.tup [(dS "true"), (dS "false")])), ("COMPARED", (.tup [(dS "same"), (dS "unlike"), (dS "less"), (dS "most")])), ("LEAVES", (.int 6)), ("DEEPEST", (.int 6)), ("ALONE", (.tup [(dS "not"), (dS "some"), (dS "each"), (dS "ef"), (dS "af"), (dS "eg"), (dS "ag")])), ("JOINED", (.tup [(dS "and"), (dS "or")]))]

def retPin : List Stmt → List (Nat × Nat)
  | [] => []
  | .Return (some (.List _ p)) _ :: r => (p.line, p.col) :: retPin r
  | _ :: r => retPin r
def pins : List (Nat × Nat) := retPin (defBody (top 27))
def cfg : Cfg := ⟨fnN, glN.mapIdx fun i q => (q.1, i), pins⟩
def fs : List FnI := ds.filterMap (cF cfg)
def gl : List D := glN.map (·.2)
theorem hc : ds.all (fun d => (cF cfg d).isSome) = true := by decide +kernel
theorem hn : fnN.all (fun q => Nat.blt q.2 ds.length) = true := by decide +kernel
abbrev R : PySem.W.OpenRow := PySem.W.OpenLaw.row PySem.Challenge.rw_gamecheck_k47_claims_of_minds
def loose : List PySem.Str := (["LETTERS", "LONGEST", "is_whole", "is_tuple_of", "has_word", "is_name", "UNITS", "SIGNS", "inner_of", "inner_of_expressions", "fits_head", "is_expression", "PLAIN", "COMPARED", "is_leaf", "LEAVES", "DEEPEST", "ALONE", "JOINED", "inner_of_minds", "is_mind_claim", "_law_cup", "_law_roll", "_law_some", "_law_expression", "_law_leaf", "_law_claim", "_law_units", "_law_look", "_law_spoilt", "_law_sum_of"] : List PySem.Str)
abbrev hk : PySem.W.Hook := hookX 4 fnN ds glN
def ob (s : PySem.W.SharedT) : He.AlD := obsXG 4 fnN ds glN (HandSHeadRun.getT s)
theorem ob_eq (s : PySem.W.SharedT) : ob s = hk.obs s.abs := obsXG_eq (HandSHeadRun.getT_eq s)
theorem run (w : World) : HandSHeadRun.RunEq R (PySem.W.view R.prog [37]) hk ob 3000 loose w := by
  intro os
  kernel_rfl
end K47


set_option Elab.async false
set_option linter.all false
set_option maxRecDepth 100000
set_option maxHeartbeats 4000000
/-! Rules to tell what the evaluator comes to. -/
namespace Gx
def Rs.Sat {α : Type} (r : Rs α) (Q : α → Mem → Prop) : Prop := ∃ a m, r = .ok a m ∧ Q a m
/-- a statement's run: N where it goes on, R where it tells -/
def RS.Sat (r : RS) (N : Env → Mem → Prop) (R : Rv → Mem → Prop) : Prop := (∃ e m, r = .nx e m ∧ N e m) ∨ (∃ v m, r = .ret v m ∧ R v m)
theorem Rs.Sat.ok {α : Type} {a : α} {m : Mem} {Q : α → Mem → Prop} (h : Q a m) : (Rs.ok a m).Sat Q := ⟨a, m, rfl, h⟩
theorem Rs.Sat.imp {α : Type} {r : Rs α} {Q Q' : α → Mem → Prop} (h : r.Sat Q) (i : ∀ a m, Q a m → Q' a m) : r.Sat Q' := by
  obtain ⟨a, m, e, q⟩ := h
  exact ⟨a, m, e, i a m q⟩
theorem Rs.Sat.bind {α β : Type} {r : Rs α} {f : α → Mem → Rs β} {P : α → Mem → Prop} {Q : β → Mem → Prop} (h : r.Sat P) (k : ∀ a m, P a m → (f a m).Sat Q) : (r.bind f).Sat Q := by
  obtain ⟨a, m, e, q⟩ := h
  rw [e]
  exact k a m q
theorem Rs.Sat.bindS {α : Type} {r : Rs α} {f : α → Mem → RS} {P : α → Mem → Prop} {N : Env → Mem → Prop} {R : Rv → Mem → Prop} (h : r.Sat P) (k : ∀ a m, P a m → (f a m).Sat N R) : (r.bindS f).Sat N R := by
  obtain ⟨a, m, e, q⟩ := h
  rw [e]
  exact k a m q
theorem RS.Sat.nx {e : Env} {m : Mem} {N : Env → Mem → Prop} {R : Rv → Mem → Prop} (h : N e m) : (RS.nx e m).Sat N R := .inl ⟨e, m, rfl, h⟩
theorem RS.Sat.ret {v : Rv} {m : Mem} {N : Env → Mem → Prop} {R : Rv → Mem → Prop} (h : R v m) : (RS.ret v m).Sat N R := .inr ⟨v, m, rfl, h⟩
theorem RS.Sat.imp {r : RS} {N N' : Env → Mem → Prop} {R R' : Rv → Mem → Prop} (h : r.Sat N R) (i : ∀ e m, N e m → N' e m) (j : ∀ v m, R v m → R' v m) : r.Sat N' R' := by
  rcases h with ⟨e, m, z, q⟩ | ⟨v, m, z, q⟩
  · exact .inl ⟨e, m, z, i e m q⟩
  · exact .inr ⟨v, m, z, j v m q⟩
theorem sat_cons {cl : Cl} {gl : Gl} {s : CS} {ss : CSs} {e : Env} {m : Mem} {N M : Env → Mem → Prop} {R : Rv → Mem → Prop} (h : (evS cl gl s e m).Sat M R) (k : ∀ e m, M e m → (evSs cl gl ss e m).Sat N R) : (evSs cl gl (.cons s ss) e m).Sat N R := by
  simp only [evSs]
  rcases h with ⟨e', m', z, q⟩ | ⟨v, m', z, q⟩
  · rw [z]
    exact k e' m' q
  · rw [z]
    exact .inr ⟨v, m', rfl, q⟩
/-- a call -/
theorem sat_call {fs : List FnI} {gl : Gl} {k f : Nat} {fi : FnI} {as : List D} {m : Mem} {Q : Rv → Mem → Prop} (hf : fs[f]? = some fi) (hl : as.length = fi.np)
    (h : (evSs (callF fs gl k) gl fi.body (as.map (fun x => some (Rv.d x)) ++ List.replicate (fi.ns - fi.np) none) m).Sat (fun _ m' => Q (.d .non) m') Q) : (callF fs gl (k + 1) f as m).Sat Q := by
  simp only [callF, hf]
  rw [if_pos (by simpa using hl)]
  rcases h with ⟨e', m', z, q⟩ | ⟨v, m', z, q⟩
  · rw [z]
    exact ⟨_, m', rfl, q⟩
  · rw [z]
    exact ⟨v, m', rfl, q⟩
/-- a while loop: W holds ahead of each turn, M counts down -/
theorem sat_whl {t : Env → Mem → Rs Bool} {b : Env → Mem → RS} {N : Env → Mem → Prop} {R : Rv → Mem → Prop} (W : Nat → Env → Mem → Prop)
    (step : ∀ i e m, W i e m → ∃ c m1, t e m = .ok c m1 ∧ (c = false → N e m1) ∧ (c = true → ∃ j, i = j + 1 ∧ (b e m1).Sat (W j) R)) : ∀ n i e m, i < n → W i e m → (whlL t b n e m).Sat N R
  | 0, i, e, m, h, _ => by omega
  | n + 1, i, e, m, h, w => by
    obtain ⟨c, m1, e1, hf, ht⟩ := step i e m w
    simp only [whlL, e1, Rs.bindS]
    cases c with
    | false =>
      rw [if_neg Bool.false_ne_true]
      exact .nx (hf rfl)
    | true =>
      rw [if_pos rfl]
      obtain ⟨j, rfl, hb⟩ := ht rfl
      rcases hb with ⟨e', m', z, q⟩ | ⟨v, m', z, q⟩
      · rw [z]
        exact sat_whl W step n j e' m' (by omega) q
      · rw [z]
        exact .ret q
/-- a for loop: W holds ahead of each turn -/
theorem sat_for {tg : TGt} {b : Env → Mem → RS} {N : Env → Mem → Prop} {R : Rv → Mem → Prop} {xs : List D} (W : Nat → Env → Mem → Prop)
    (step : ∀ i x e m, xs[i]? = some x → W i e m → ∃ e1, asgT tg x e = some e1 ∧ (b e1 m).Sat (W (i + 1)) R) (last : ∀ e m, W xs.length e m → N e m) : ∀ e m, W 0 e m → (forL tg b xs e m).Sat N R := by
  suffices h : ∀ (ys : List D) (i : Nat), (∀ j, ys[j]? = xs[i + j]?) → i + ys.length = xs.length → ∀ e m, W i e m → (forL tg b ys e m).Sat N R from
    h xs 0 (fun j => by rw [Nat.zero_add]) (by omega)
  intro ys
  induction ys with
  | nil =>
    intro i hy hl e m w
    have : i = xs.length := by simpa using hl
    subst this
    exact .nx (last e m w)
  | cons y ys ih =>
    intro i hy hl e m w
    have h0 := hy 0
    obtain ⟨e1, a1, hb⟩ := step i y e m (by rw [Nat.add_zero] at h0; rw [← h0]; rfl) w
    simp only [forL, a1]
    rcases hb with ⟨e', m', z, q⟩ | ⟨v, m', z, q⟩
    · rw [z]
      refine ih (i + 1) (fun j => ?_) (by simp only [List.length_cons] at hl; omega) e' m' q
      have := hy (j + 1)
      rw [show i + 1 + j = i + (j + 1) by omega, ← this]
      rfl
    · rw [z]
      exact .ret q
/-- a comprehension -/
theorem lcL_ok {tg : TGt} {c : Env → Mem → Rs Bool} {f : Env → Mem → Rs D} {e : Env} {m : Mem} (p : D → Bool) (g : D → D) : ∀ xs : List D,
    (∀ x ∈ xs, ∃ e1, asgT tg x e = some e1 ∧ c e1 m = .ok (p x) m ∧ (p x = true → f e1 m = .ok (g x) m)) → lcL tg c f xs e m = .ok ((xs.filter p).map g) m
  | [], _ => rfl
  | x :: xs, h => by
    obtain ⟨e1, a1, a2, a3⟩ := h x (List.mem_cons_self ..)
    have ih := lcL_ok p g xs fun y hy => h y (List.mem_cons_of_mem _ hy)
    simp only [lcL, a1, a2, Rs.bind]
    cases q : p x with
    | true =>
      rw [if_pos rfl, a3 q]
      simp only [Rs.bind, ih, List.filter_cons, q, if_pos, List.map_cons]
    | false =>
      rw [if_neg Bool.false_ne_true, ih]
      simp [List.filter_cons, q]
theorem lcO_ok {tg : TGt} {c : Env → Mem → Rs Bool} {f : Env → Mem → Rs (List D)} {e : Env} {m : Mem} (p : D → Bool) (g : D → List D) : ∀ xs : List D,
    (∀ x ∈ xs, ∃ e1, asgT tg x e = some e1 ∧ c e1 m = .ok (p x) m ∧ (p x = true → f e1 m = .ok (g x) m)) → lcO tg c f xs e m = .ok ((xs.filter p).flatMap g) m
  | [], _ => rfl
  | x :: xs, h => by
    obtain ⟨e1, a1, a2, a3⟩ := h x (List.mem_cons_self ..)
    have ih := lcO_ok p g xs fun y hy => h y (List.mem_cons_of_mem _ hy)
    simp only [lcO, a1, a2, Rs.bind]
    cases q : p x with
    | true =>
      rw [if_pos rfl, a3 q]
      simp only [Rs.bind, ih, List.filter_cons, q, if_pos, List.flatMap_cons]
    | false =>
      rw [if_neg Bool.false_ne_true, ih]
      simp [List.filter_cons, q]

/-! ### steps, for simp -/
def RS.fin : RS → Rs Rv
  | .nx _ m => .ok (.d .non) m
  | .ret v m => .ok v m
  | .ex c as m => .ex c as m
  | _ => .no
theorem call_eq {fs : List FnI} {gl : Gl} {k f : Nat} {fi : FnI} {as : List D} {m : Mem} (hf : fs[f]? = some fi) (hl : as.length = fi.np) :
    callF fs gl (k + 1) f as m = (evSs (callF fs gl k) gl fi.body (as.map (fun x => some (Rv.d x)) ++ List.replicate (fi.ns - fi.np) none) m).fin := by
  simp only [callF, hf]
  rw [if_pos (by simpa using hl)]
  cases evSs (callF fs gl k) gl fi.body (as.map (fun x => some (Rv.d x)) ++ List.replicate (fi.ns - fi.np) none) m <;> rfl
theorem fin_ret {v : Rv} {m : Mem} : (RS.ret v m).fin = .ok v m := rfl
theorem fin_nx {e : Env} {m : Mem} : (RS.nx e m).fin = .ok (.d .non) m := rfl
section
variable {α β : Type} {a : α} {m : Mem} {x : D} {o : Ob} {e : Env} {cl : Cl} {gl : Gl}
theorem r_ok {f : α → Mem → Rs β} : (Rs.ok a m).bind f = f a m := rfl
theorem r_okS {f : α → Mem → RS} : (Rs.ok a m).bindS f = f a m := rfl
theorem r_of : Rs.of (some a) m = .ok a m := rfl
theorem l_d : (Rv.d x).look = x := rfl
theorem l_o : (Rv.own o).look = o.d := rfl
theorem l_b : (Rv.brw o).look = o.d := rfl
theorem f_d : (Rv.d x).frz = some x := rfl
theorem f_o : (Rv.own o).frz = some o.d := rfl
theorem n_d : notBrw (.d x) = true := rfl
theorem n_o : notBrw (.own o) = true := rfl
theorem o_l {xs : List D} : (Ob.lst xs).d = .lst xs := rfl
theorem s_nx {e' : Env} {m' : Mem} {s : CS} {ss : CSs} (h : evS cl gl s e m = .nx e' m') : evSs cl gl (.cons s ss) e m = evSs cl gl ss e' m' := by
  simp only [evSs, h]
theorem s_ret {v : Rv} {m' : Mem} {s : CS} {ss : CSs} (h : evS cl gl s e m = .ret v m') : evSs cl gl (.cons s ss) e m = .ret v m' := by
  simp only [evSs, h]
end
end Gx

set_option Elab.async false
set_option linter.all false
set_option maxRecDepth 100000
set_option maxHeartbeats 4000000
/-! The evaluator's steps without functions in the way: what is still to be done stands as a text. -/
namespace Gx
def kO (o : Option Rv) (m : Mem) : Rs Rv := match o with
  | some v => .ok v m
  | none => .no
def kD (o : Option D) (m : Mem) : Rs Rv := match o with
  | some v => .ok (.d v) m
  | none => .no
def kBl (o : Option Bool) (m : Mem) : Rs Rv := match o with
  | some v => .ok (.d (.bl v)) m
  | none => .no
def kTb (o : Option Bool) (m : Mem) : Rs Bool := match o with
  | some v => .ok v m
  | none => .no
def kVar (o : Option (Option Rv)) (m : Mem) : Rs Rv := match o with
  | some (some (.d x)) => .ok (.d x) m
  | some (some (.own o)) => .ok (.brw o) m
  | _ => .no
section
variable (cl : Cl) (gl : Gl)
def kB2 (op : BO) (x : Rv) : Rs Rv → Rs Rv
  | .ok y m => kO (binV op x.look y.look) m
  | .ex c as m => .ex c as m
  | .no => .no
def kB1 (op : BO) (b : CE) (e : Env) : Rs Rv → Rs Rv
  | .ok x m => kB2 op x (evE cl gl b e m)
  | .ex c as m => .ex c as m
  | .no => .no
def kNot : Rs Rv → Rs Rv
  | .ok (.d (.bl b)) m => .ok (.d (.bl (!b))) m
  | .ok _ _ => .no
  | .ex c as m => .ex c as m
  | .no => .no
def kAnd (b : CE) (e : Env) : Rs Rv → Rs Rv
  | .ok (.d (.bl true)) m => evE cl gl b e m
  | .ok (.d (.bl false)) m => .ok (.d (.bl false)) m
  | .ok _ _ => .no
  | .ex c as m => .ex c as m
  | .no => .no
def kOr (b : CE) (e : Env) : Rs Rv → Rs Rv
  | .ok (.d (.bl false)) m => evE cl gl b e m
  | .ok (.d (.bl true)) m => .ok (.d (.bl true)) m
  | .ok _ _ => .no
  | .ex c as m => .ex c as m
  | .no => .no
def kC2 (op : CO) (x : Rv) : Rs Rv → Rs Rv
  | .ok y m => kBl (cmpV op x.look y.look) m
  | .ex c as m => .ex c as m
  | .no => .no
def kC1 (op : CO) (b : CE) (e : Env) : Rs Rv → Rs Rv
  | .ok x m => kC2 op x (evE cl gl b e m)
  | .ex c as m => .ex c as m
  | .no => .no
def kN3 (op' : CO) (c : CE) (e : Env) (y : Rv) (m : Mem) : Option Bool → Rs Rv
  | some true => kC2 op' y (evE cl gl c e m)
  | some false => .ok (.d (.bl false)) m
  | none => .no
def kN2 (op op' : CO) (c : CE) (e : Env) (x : Rv) : Rs Rv → Rs Rv
  | .ok y m => kN3 cl gl op' c e y m (cmpV op x.look y.look)
  | .ex c as m => .ex c as m
  | .no => .no
def kN1 (op op' : CO) (b c : CE) (e : Env) : Rs Rv → Rs Rv
  | .ok x m => kN2 cl gl op op' c e x (evE cl gl b e m)
  | .ex c as m => .ex c as m
  | .no => .no
def kIte (a b : CE) (e : Env) : Rs Bool → Rs Rv
  | .ok true m => evE cl gl a e m
  | .ok false m => evE cl gl b e m
  | .ex c as m => .ex c as m
  | .no => .no
def kCall (f : Nat) : Rs (List D) → Rs Rv
  | .ok xs m => cl f xs m
  | .ex c as m => .ex c as m
  | .no => .no
def kBi (b : BI) : Rs (List D) → Rs Rv
  | .ok xs m => kO (biV b xs) m
  | .ex c as m => .ex c as m
  | .no => .no
def kIs (ts : List TyN) : Rs Rv → Rs Rv
  | .ok x m => kBl (isTys x.look ts) m
  | .ex c as m => .ex c as m
  | .no => .no
def kX2 (x : Rv) : Rs Rv → Rs Rv
  | .ok y m => kD (idxV x.look y.look m) m
  | .ex c as m => .ex c as m
  | .no => .no
def kX1 (b : CE) (e : Env) : Rs Rv → Rs Rv
  | .ok x m => kX2 x (evE cl gl b e m)
  | .ex c as m => .ex c as m
  | .no => .no
def kS3 (x l : Rv) : Rs Rv → Rs Rv
  | .ok h m => kO (slcV x.look l.look h.look) m
  | .ex c as m => .ex c as m
  | .no => .no
def kS2 (c : CE) (e : Env) (x : Rv) : Rs Rv → Rs Rv
  | .ok l m => kS3 x l (evE cl gl c e m)
  | .ex c as m => .ex c as m
  | .no => .no
def kS1 (b c : CE) (e : Env) : Rs Rv → Rs Rv
  | .ok x m => kS2 cl gl c e x (evE cl gl b e m)
  | .ex c as m => .ex c as m
  | .no => .no
def kTup : Rs (List D) → Rs Rv
  | .ok xs m => if okLen xs then .ok (.d (.tup xs)) m else .no
  | .ex c as m => .ex c as m
  | .no => .no
def kLst : Rs (List D) → Rs Rv
  | .ok xs m => if okLen xs then .ok (.own (.lst xs)) m else .no
  | .ex c as m => .ex c as m
  | .no => .no
def kLstP : Rs (List D) → Rs Rv
  | .ok xs m => if okLen xs then .ok (.d (.ref m.length)) (m ++ [.lst xs]) else .no
  | .ex c as m => .ex c as m
  | .no => .no
/-- one turn of a comprehension's element -/
def elF (el : CE) : Env → Mem → Rs D := fun e' m' => (evE cl gl el e' m').bind fun v m2 => Rs.of v.frz m2
def kL1 (own : List Nat) (tg : TGt) (c : CT) (el : CE) (e : Env) : Rs (List D) → Rs Rv
  | .ok xs m => kLst (lcL tg (evT cl gl c) (elF cl gl el) xs (wip e own) m)
  | .ex c as m => .ex c as m
  | .no => .no
def elO (own1 : List Nat) (tg1 : TGt) (it1 : CI) (c1 : CT) (el : CE) : Env → Mem → Rs (List D) := fun e' m' => (evI cl gl true it1 e' m').bind fun zs m2 => lcL tg1 (evT cl gl c1) (elF cl gl el) zs (wip e' own1) m2
def kL2 (own : List Nat) (tg : TGt) (c : CT) (own1 : List Nat) (tg1 : TGt) (it1 : CI) (c1 : CT) (el : CE) (e : Env) : Rs (List D) → Rs Rv
  | .ok xs m => kLst (lcO tg (evT cl gl c) (elO cl gl own1 tg1 it1 c1 el) xs (wip e own) m)
  | .ex c as m => .ex c as m
  | .no => .no
def kIt (o : Option (List D)) (m : Mem) : Rs (List D) := match o with
  | some v => .ok v m
  | none => .no
def kSq (fz : Bool) : Rs Rv → Rs (List D)
  | .ok x m => match (if fz then x.frz else some x.look) with
    | some y => kIt y.its m
    | none => .no
  | .ex c as m => .ex c as m
  | .no => .no
def kTru : Rs Rv → Rs Bool
  | .ok x m => kTb (truth x.look m) m
  | .ex c as m => .ex c as m
  | .no => .no
def kTAnd (b : CT) (e : Env) : Rs Bool → Rs Bool
  | .ok true m => evT cl gl b e m
  | .ok false m => .ok false m
  | .ex c as m => .ex c as m
  | .no => .no
def kTOr (b : CT) (e : Env) : Rs Bool → Rs Bool
  | .ok true m => .ok true m
  | .ok false m => evT cl gl b e m
  | .ex c as m => .ex c as m
  | .no => .no
def kTNot : Rs Bool → Rs Bool
  | .ok b m => .ok (!b) m
  | .ex c as m => .ex c as m
  | .no => .no
def kTIte (a b : CT) (e : Env) : Rs Bool → Rs Bool
  | .ok true m => evT cl gl a e m
  | .ok false m => evT cl gl b e m
  | .ex c as m => .ex c as m
  | .no => .no
def kCons (x : D) : Rs (List D) → Rs (List D)
  | .ok xs m => .ok (x :: xs) m
  | .ex c as m => .ex c as m
  | .no => .no
def kArg (as : CEs) (e : Env) : Rs Rv → Rs (List D)
  | .ok (.d x) m => kCons x (evEs cl gl as e m)
  | .ok (.own o) m => kCons o.d (evEs cl gl as e m)
  | .ok (.brw _) _ => .no
  | .ex c as m => .ex c as m
  | .no => .no
def kLk (as : CEs) (e : Env) : Rs Rv → Rs (List D)
  | .ok x m => kCons x.look (evLs cl gl as e m)
  | .ex c as m => .ex c as m
  | .no => .no
def kConsR (x : Rv) : Rs (List Rv) → Rs (List Rv)
  | .ok xs m => .ok (x :: xs) m
  | .ex c as m => .ex c as m
  | .no => .no
def kRs (as : CEs) (e : Env) : Rs Rv → Rs (List Rv)
  | .ok (.d x) m => kConsR (.d x) (evRs cl gl as e m)
  | .ok (.own o) m => kConsR (.own o) (evRs cl gl as e m)
  | .ok (.brw _) _ => .no
  | .ex c as m => .ex c as m
  | .no => .no
/-! statements -/
def kAs (i : Nat) (e : Env) : Rs Rv → RS
  | .ok (.d x) m => if Nat.blt i e.length then .nx (e.set i (some (.d x))) m else .no
  | .ok (.own x) m => if Nat.blt i e.length then .nx (e.set i (some (.own x))) m else .no
  | .ok (.brw _) _ => .no
  | .ex c as m => .ex c as m
  | .no => .no
def kEn (o : Option Env) (m : Mem) : RS := match o with
  | some v => .nx v m
  | none => .no
def kAt (ts : List TGt) (e : Env) : Rs Rv → RS
  | .ok x m => match x.frz with
    | some x => kEn (asgT (.tp ts) x e) m
    | none => .no
  | .ex c as m => .ex c as m
  | .no => .no
def kPar (is : List Nat) (e : Env) : Rs (List Rv) → RS
  | .ok xs m => if is.length == xs.length && is.all (fun i => Nat.blt i e.length) then .nx (setAll is xs e) m else .no
  | .ex c as m => .ex c as m
  | .no => .no
def kRet : Rs Rv → RS
  | .ok (.d x) m => .ret (.d x) m
  | .ok (.own x) m => .ret (.own x) m
  | .ok (.brw _) _ => .no
  | .ex c as m => .ex c as m
  | .no => .no
def kIf (a b : CSs) (e : Env) : Rs Bool → RS
  | .ok true m => evSs cl gl a e m
  | .ok false m => evSs cl gl b e m
  | .ex c as m => .ex c as m
  | .no => .no
def kFor (t : TGt) (b : CSs) (e : Env) : Rs (List D) → RS
  | .ok xs m => forL t (evSs cl gl b) xs e m
  | .ex c as m => .ex c as m
  | .no => .no
def kThen (ss : CSs) : RS → RS
  | .nx e m => evSs cl gl ss e m
  | .ret v m => .ret v m
  | .bk e m => .bk e m
  | .ct e m => .ct e m
  | .ex c as m => .ex c as m
  | .no => .no
end
section
variable {cl : Cl} {gl : Gl} {e : Env} {m : Mem} {a b c el it : CE} {as : CEs}
theorem q_var {i : Nat} : evE cl gl (.var i) e m = kVar e[i]? m := by
  simp only [evE]
  rcases e[i]? with _ | _ | _ | _ | _ <;> rfl
theorem q_con {d : D} : evE cl gl (.con d) e m = .ok (.d d) m := by simp only [evE]
theorem q_glb {i : Nat} : evE cl gl (.glb i) e m = kD gl[i]? m := by
  simp only [evE]
  cases gl[i]? <;> rfl
theorem q_bin {op : BO} : evE cl gl (.bin op a b) e m = kB1 cl gl op b e (evE cl gl a e m) := by
  simp only [evE]
  cases evE cl gl a e m with
  | ok x m1 =>
    simp only [Rs.bind, kB1]
    cases evE cl gl b e m1 with
    | ok y m2 =>
      simp only [kB2]
      cases binV op x.look y.look <;> rfl
    | _ => rfl
  | _ => rfl
theorem q_not : evE cl gl (.notE a) e m = kNot (evE cl gl a e m) := by
  simp only [evE]
  cases evE cl gl a e m with
  | ok x m1 =>
    cases x with
    | d x => cases x <;> rfl
    | _ => rfl
  | _ => rfl
theorem q_and : evE cl gl (.andE a b) e m = kAnd cl gl b e (evE cl gl a e m) := by
  simp only [evE]
  cases evE cl gl a e m with
  | ok x m1 =>
    cases x with
    | d x =>
      cases x with
      | bl k => cases k <;> rfl
      | _ => rfl
    | _ => rfl
  | _ => rfl
theorem q_or : evE cl gl (.orE a b) e m = kOr cl gl b e (evE cl gl a e m) := by
  simp only [evE]
  cases evE cl gl a e m with
  | ok x m1 =>
    cases x with
    | d x =>
      cases x with
      | bl k => cases k <;> rfl
      | _ => rfl
    | _ => rfl
  | _ => rfl
theorem q_cmp {op : CO} : evE cl gl (.cmp op a b) e m = kC1 cl gl op b e (evE cl gl a e m) := by
  simp only [evE]
  cases evE cl gl a e m with
  | ok x m1 =>
    simp only [Rs.bind, kC1]
    cases evE cl gl b e m1 with
    | ok y m2 =>
      simp only [kC2]
      cases cmpV op x.look y.look <;> rfl
    | _ => rfl
  | _ => rfl
theorem q_chn {op op' : CO} : evE cl gl (.chn op op' a b c) e m = kN1 cl gl op op' b c e (evE cl gl a e m) := by
  simp only [evE]
  cases evE cl gl a e m with
  | ok x m1 =>
    simp only [Rs.bind, kN1]
    cases evE cl gl b e m1 with
    | ok y m2 =>
      simp only [kN2]
      cases cmpV op x.look y.look with
      | none => rfl
      | some k =>
        cases k with
        | false => rfl
        | true =>
          simp only [kN3]
          cases evE cl gl c e m2 with
          | ok z m3 =>
            simp only [kC2]
            cases cmpV op' y.look z.look <;> rfl
          | _ => rfl
    | _ => rfl
  | _ => rfl
theorem q_ite {t : CT} : evE cl gl (.ite t a b) e m = kIte cl gl a b e (evT cl gl t e m) := by
  simp only [evE]
  cases evT cl gl t e m with
  | ok x m1 => cases x <;> rfl
  | _ => rfl
theorem q_call {f : Nat} : evE cl gl (.call f as) e m = kCall cl f (evEs cl gl as e m) := by
  simp only [evE]
  cases evEs cl gl as e m <;> rfl
theorem q_bi {f : BI} : evE cl gl (.bi f as) e m = kBi f (evLs cl gl as e m) := by
  simp only [evE]
  cases evLs cl gl as e m with
  | ok xs m1 =>
    simp only [Rs.bind, kBi]
    cases biV f xs <;> rfl
  | _ => rfl
theorem q_isi {ts : List TyN} : evE cl gl (.isi a ts) e m = kIs ts (evE cl gl a e m) := by
  simp only [evE]
  cases evE cl gl a e m with
  | ok x m1 =>
    simp only [Rs.bind, kIs]
    cases isTys x.look ts <;> rfl
  | _ => rfl
theorem q_idx : evE cl gl (.idx a b) e m = kX1 cl gl b e (evE cl gl a e m) := by
  simp only [evE]
  cases evE cl gl a e m with
  | ok x m1 =>
    simp only [Rs.bind, kX1]
    cases evE cl gl b e m1 with
    | ok y m2 =>
      simp only [kX2]
      cases idxV x.look y.look m2 <;> rfl
    | _ => rfl
  | _ => rfl
theorem q_slc : evE cl gl (.slc a b c) e m = kS1 cl gl b c e (evE cl gl a e m) := by
  simp only [evE]
  cases evE cl gl a e m with
  | ok x m1 =>
    simp only [Rs.bind, kS1]
    cases evE cl gl b e m1 with
    | ok y m2 =>
      simp only [kS2]
      cases evE cl gl c e m2 with
      | ok z m3 =>
        simp only [kS3]
        cases slcV x.look y.look z.look <;> rfl
      | _ => rfl
    | _ => rfl
  | _ => rfl
theorem q_tup : evE cl gl (.tup as) e m = kTup (evEs cl gl as e m) := by
  simp only [evE]
  cases evEs cl gl as e m <;> rfl
theorem q_lst : evE cl gl (.lst as) e m = kLst (evEs cl gl as e m) := by
  simp only [evE]
  cases evEs cl gl as e m <;> rfl
theorem q_lstP : evE cl gl (.lstP as) e m = kLstP (evEs cl gl as e m) := by
  simp only [evE]
  cases evEs cl gl as e m <;> rfl
theorem kLst_eq (r : Rs (List D)) : (r.bind fun ys m2 => if okLen ys then .ok (.own (.lst ys)) m2 else .no) = kLst r := by cases r <;> rfl
theorem q_lc1 {own : List Nat} {tg : TGt} {i : CI} {t : CT} : evE cl gl (.lc1 own tg i t el) e m = kL1 cl gl own tg t el e (evI cl gl false i e m) := by
  simp only [evE]
  cases evI cl gl false i e m with
  | ok xs m1 => exact kLst_eq _
  | _ => rfl
theorem q_lc2 {own own1 : List Nat} {tg tg1 : TGt} {i i1 : CI} {t t1 : CT} : evE cl gl (.lc2 own tg i t own1 tg1 i1 t1 el) e m = kL2 cl gl own tg t own1 tg1 i1 t1 el e (evI cl gl false i e m) := by
  simp only [evE]
  cases evI cl gl false i e m with
  | ok xs m1 => exact kLst_eq _
  | _ => rfl
theorem q_seq {fz : Bool} : evI cl gl fz (.seq a) e m = kSq fz (evE cl gl a e m) := by
  simp only [evI]
  cases evE cl gl a e m with
  | ok x m1 =>
    simp only [Rs.bind, kSq]
    cases (if fz = true then x.frz else some x.look) with
    | none => rfl
    | some y =>
      show Rs.of y.its m1 = kIt y.its m1
      cases y.its <;> rfl
  | _ => rfl
theorem q_tru : evT cl gl (.tru a) e m = kTru (evE cl gl a e m) := by
  simp only [evT]
  cases evE cl gl a e m with
  | ok x m1 =>
    simp only [Rs.bind, kTru]
    cases truth x.look m1 <;> rfl
  | _ => rfl
theorem q_tand {s t : CT} : evT cl gl (.and s t) e m = kTAnd cl gl t e (evT cl gl s e m) := by
  simp only [evT]
  cases evT cl gl s e m with
  | ok x m1 => cases x <;> rfl
  | _ => rfl
theorem q_tor {s t : CT} : evT cl gl (.or s t) e m = kTOr cl gl t e (evT cl gl s e m) := by
  simp only [evT]
  cases evT cl gl s e m with
  | ok x m1 => cases x <;> rfl
  | _ => rfl
theorem q_tnot {s : CT} : evT cl gl (.not s) e m = kTNot (evT cl gl s e m) := by
  simp only [evT]
  cases evT cl gl s e m <;> rfl
theorem q_tyes : evT cl gl .yes e m = .ok true m := by simp only [evT]
theorem q_nil : evEs cl gl .nil e m = .ok [] m := by simp only [evEs]
theorem q_cons : evEs cl gl (.cons a as) e m = kArg cl gl as e (evE cl gl a e m) := by
  simp only [evEs]
  cases evE cl gl a e m with
  | ok x m1 =>
    cases x with
    | d x =>
      simp only [Rs.bind, kArg, Rv.frz]
      cases evEs cl gl as e m1 <;> rfl
    | own x =>
      simp only [Rs.bind, kArg, Rv.frz]
      cases evEs cl gl as e m1 <;> rfl
    | brw x => rfl
  | _ => rfl
theorem q_lnil : evLs cl gl .nil e m = .ok [] m := by simp only [evLs]
theorem q_lcons : evLs cl gl (.cons a as) e m = kLk cl gl as e (evE cl gl a e m) := by
  simp only [evLs]
  cases evE cl gl a e m with
  | ok x m1 =>
    simp only [Rs.bind, kLk]
    cases evLs cl gl as e m1 <;> rfl
  | _ => rfl
theorem q_rnil : evRs cl gl .nil e m = .ok [] m := by simp only [evRs]
theorem q_rcons : evRs cl gl (.cons a as) e m = kRs cl gl as e (evE cl gl a e m) := by
  simp only [evRs]
  cases evE cl gl a e m with
  | ok x m1 =>
    cases x with
    | d x =>
      simp only [Rs.bind, kRs, notBrw, if_pos]
      cases evRs cl gl as e m1 <;> rfl
    | own x =>
      simp only [Rs.bind, kRs, notBrw, if_pos]
      cases evRs cl gl as e m1 <;> rfl
    | brw x => rfl
  | _ => rfl
theorem q_asg {i : Nat} : evS cl gl (.asg (.nm i) a) e m = kAs i e (evE cl gl a e m) := by
  simp only [evS]
  cases evE cl gl a e m with
  | ok x m1 => cases x <;> simp [Rs.bindS, kAs, notBrw]
  | _ => rfl
theorem q_asgT {ts : List TGt} : evS cl gl (.asg (.tp ts) a) e m = kAt ts e (evE cl gl a e m) := by
  simp only [evS]
  cases evE cl gl a e m with
  | ok x m1 =>
    simp only [Rs.bindS, kAt]
    cases x.frz with
    | none => rfl
    | some y => cases h : asgT (.tp ts) y e <;> simp [kEn, h]
  | _ => rfl
theorem q_par {is : List Nat} : evS cl gl (.par is as) e m = kPar is e (evRs cl gl as e m) := by
  simp only [evS]
  cases evRs cl gl as e m <;> rfl
theorem q_ret : evS cl gl (.ret a) e m = kRet (evE cl gl a e m) := by
  simp only [evS]
  cases evE cl gl a e m with
  | ok x m1 => cases x <;> rfl
  | _ => rfl
theorem q_if {t : CT} {s1 s2 : CSs} : evS cl gl (.ifS t s1 s2) e m = kIf cl gl s1 s2 e (evT cl gl t e m) := by
  simp only [evS]
  cases evT cl gl t e m with
  | ok x m1 => cases x <;> rfl
  | _ => rfl
theorem q_for {t : TGt} {i : CI} {s : CSs} : evS cl gl (.forS t i s) e m = kFor cl gl t s e (evI cl gl true i e m) := by
  simp only [evS]
  cases evI cl gl true i e m <;> rfl
theorem q_frz {is : List Nat} : evS cl gl (.frz is) e m = .nx (is.foldl frzAt e) m := by simp only [evS]
theorem q_snil : evSs cl gl .nil e m = .nx e m := by simp only [evSs]
theorem q_scons {s : CS} {ss : CSs} : evSs cl gl (.cons s ss) e m = kThen cl gl ss (evS cl gl s e m) := by
  simp only [evSs]
  cases evS cl gl s e m <;> rfl
end
section
variable {m : Mem}
theorem kO_s {v : Rv} : kO (some v) m = .ok v m := rfl
theorem kD_s {v : D} : kD (some v) m = .ok (.d v) m := rfl
theorem kBl_s {v : Bool} : kBl (some v) m = .ok (.d (.bl v)) m := rfl
theorem kTb_s {v : Bool} : kTb (some v) m = .ok v m := rfl
theorem kIt_s {v : List D} : kIt (some v) m = .ok v m := rfl
theorem kEn_s {v : Env} : kEn (some v) m = .nx v m := rfl
theorem kVar_d {x : D} : kVar (some (some (.d x))) m = .ok (.d x) m := rfl
theorem kVar_o {o : Ob} : kVar (some (some (.own o))) m = .ok (.brw o) m := rfl
end
theorem its_l {xs : List D} : (D.lst xs).its = some xs := rfl
theorem its_t {xs : List D} : (D.tup xs).its = some xs := rfl
/-- frzAt at a plain value -/
theorem frz_d {e : Env} {i : Nat} {x : D} (h : e[i]? = some (some (.d x))) : frzAt e i = e := by
  simp only [frzAt, h]
end Gx

set_option Elab.async false
set_option linter.all false
set_option maxRecDepth 100000
set_option maxHeartbeats 4000000
namespace Gx
def kSe4 (e : Env) (v : Option D) (p k : Rv) (m : Mem) : RS := match v, p, k with
  | some v, .d (.ref r), .d (.int k) => match m[r]? with
    | some (.lst xs) => match ixAt xs.length k with
      | some j => .nx e (m.set r (.lst (xs.set j v)))
      | none => .no
    | _ => .no
  | _, _, _ => .no
section
variable (cl : Cl) (gl : Gl)
def kSe3 (e : Env) (x p : Rv) : Rs Rv → RS
  | .ok k m => kSe4 e x.frz p k m
  | .ex c as m => .ex c as m
  | .no => .no
def kSe2 (i : CE) (e : Env) (x : Rv) : Rs Rv → RS
  | .ok p m => kSe3 e x p (evE cl gl i e m)
  | .ex c as m => .ex c as m
  | .no => .no
def kSe1 (o i : CE) (e : Env) : Rs Rv → RS
  | .ok x m => kSe2 cl gl i e x (evE cl gl o e m)
  | .ex c as m => .ex c as m
  | .no => .no
def kRv (m : Mem) : Option (Option Rv) → RS
  | some (some v) => .ret v m
  | _ => .no
end
section
variable {cl : Cl} {gl : Gl} {e : Env} {m : Mem}
theorem q_set {o i a : CE} : evS cl gl (.set o i a) e m = kSe1 cl gl o i e (evE cl gl a e m) := by
  simp only [evS]
  cases evE cl gl a e m with
  | ok x m1 =>
    simp only [Rs.bindS, kSe1]
    cases evE cl gl o e m1 with
    | ok p m2 =>
      simp only [kSe2]
      cases evE cl gl i e m2 with
      | ok k m3 => rfl
      | _ => rfl
    | _ => rfl
  | _ => rfl
theorem q_retV {i : Nat} : evS cl gl (.retV i) e m = kRv m e[i]? := by
  simp only [evS]
  rcases e[i]? with _ | _ | _ <;> rfl
theorem kRv_s {v : Rv} : kRv m (some (some v)) = .ret v m := rfl
theorem q_rng2 {fz : Bool} {a b : CE} {i j : Int} {m1 m2 : Mem} (h1 : evE cl gl a e m = .ok (.d (.int i)) m1) (h2 : evE cl gl b e m1 = .ok (.d (.int j)) m2) (h3 : small i = true) (h4 : small j = true) : evI cl gl fz (.rng2 a b) e m = .ok (rngL i (j - i).toNat) m2 := by
  simp [evI, h1, h2, Rs.bind, h3, h4]
theorem q_rng1 {fz : Bool} {a : CE} {i : Int} {m1 : Mem} (h1 : evE cl gl a e m = .ok (.d (.int i)) m1) (h3 : small i = true) : evI cl gl fz (.rng1 a) e m = .ok (rngL 0 i.toNat) m1 := by
  simp [evI, h1, Rs.bind, h3]
end
theorem bin_fdiv {a n : Int} (h : 0 < n) (h2 : n < 1073741824) : binV .fdiv (.int a) (.int n) = some (.d (.int (a.fdiv n))) := by
  have : n ≠ 0 ∧ n.natAbs < 1073741824 := by omega
  simp only [binV, this, decide_true, if_pos, and_self, ne_eq, not_false_eq_true]
theorem bin_mod {a n : Int} (h : n ≠ 0) : binV .mod (.int a) (.int n) = some (.d (.int (a.fmod n))) := by
  simp only [binV, decide_eq_true h, if_pos]
theorem bin_mulR {a n : Int} (h : -(2 ^ 64) < n) (h2 : n < 2 ^ 64) : binV .mul (.int a) (.int n) = some (.d (.int (a * n))) := by
  have : CMulB a n = true := by
    unfold CMulB
    rw [Bool.or_eq_true]
    exact .inr (decide_eq_true ⟨h, h2⟩)
  simp only [binV, this, if_pos]
theorem bin_sub {i j : Int} : binV .sub (.int i) (.int j) = some (.d (.int (i - j))) := rfl
theorem bin_addI {i j : Int} : binV .add (.int i) (.int j) = some (.d (.int (i + j))) := rfl
theorem bi_int {i : Int} : biV .int [.int i] = some (.d (.int i)) := rfl
theorem at_in {α : Type} {xs : List α} {j : Int} (h0 : 0 ≤ j) (h1 : j < xs.length) : ∃ x, x ∈ xs ∧ (ixAt xs.length j).bind (fun j => xs[j]?) = some x := by
  have h2 : j.toNat < xs.length := by omega
  refine ⟨xs[j.toNat], List.getElem_mem h2, ?_⟩
  simp only [ixAt, h0, h1, if_pos, Option.bind_some]
  exact List.getElem?_eq_getElem h2
end Gx

set_option Elab.async false
set_option linter.all false
set_option maxRecDepth 100000
set_option maxHeartbeats 4000000
namespace K47
open Gx
def b0 : FnI := { np := 3, ns := 3, body := CSs.cons (CS.ret (CE.andE (CE.isi (CE.var 0) [TyN.int]) (CE.andE (CE.notE (CE.isi (CE.var 0) [TyN.bool])) (CE.chn CO.le CO.le (CE.var 1) (CE.var 0) (CE.var 2))))) CSs.nil }
def b1 : FnI := { np := 3, ns := 3, body := CSs.cons (CS.ret (CE.andE (CE.isi (CE.var 0) [TyN.tuple]) (CE.chn CO.le CO.le (CE.var 1) (CE.bi BI.len (CEs.cons (CE.var 0) CEs.nil)) (CE.var 2)))) CSs.nil }
def b2 : FnI := { np := 3, ns := 3, body := CSs.cons (CS.frz [0, 2, 2]) (CSs.cons (CS.ret (CE.andE (CE.call 1 (CEs.cons (CE.var 0) (CEs.cons (CE.var 2) (CEs.cons (CE.var 2) CEs.nil)))) (CE.andE (CE.isi (CE.idx (CE.var 0) (CE.con (D.int 0))) [TyN.str]) (CE.cmp CO.isin (CE.idx (CE.var 0) (CE.con (D.int 0))) (CE.var 1))))) CSs.nil) }
def b3 : FnI := { np := 1, ns := 3, body := CSs.cons (CS.ret (CE.andE (CE.isi (CE.var 0) [TyN.str]) (CE.andE (CE.chn CO.le CO.le (CE.con (D.int 1)) (CE.bi BI.len (CEs.cons (CE.var 0) CEs.nil)) (CE.glb 1)) (CE.bi BI.all (CEs.cons (CE.lc1 [2, 1] (TGt.nm 1) (CI.seq (CE.var 0)) CT.yes (CE.cmp CO.isin (CE.var 1) (CE.glb 0))) CEs.nil))))) CSs.nil }
def b4 : FnI := { np := 1, ns := 1, body := CSs.cons (CS.ret (CE.ite (CT.tru (CE.cmp CO.isin (CE.idx (CE.var 0) (CE.con (D.int 0))) (CE.glb 3))) (CE.slc (CE.var 0) (CE.con (D.int 1)) (CE.con D.non)) (CE.tup CEs.nil))) CSs.nil }
def b5 : FnI := { np := 1, ns := 1, body := CSs.cons (CS.frz [0]) (CSs.cons (CS.ifS (CT.tru (CE.call 2 (CEs.cons (CE.var 0) (CEs.cons (CE.tup (CEs.cons (CE.con (D.str 29545)) CEs.nil)) (CEs.cons (CE.con (D.int 2)) CEs.nil))))) (CSs.cons (CS.ret (CE.call 0 (CEs.cons (CE.idx (CE.var 0) (CE.con (D.int 1))) (CEs.cons (CE.con (D.int 0)) (CEs.cons (CE.con (D.int 9)) CEs.nil))))) CSs.nil) CSs.nil) (CSs.cons (CS.frz [0, 0]) (CSs.cons (CS.ret (CE.orE (CE.andE (CE.call 2 (CEs.cons (CE.var 0) (CEs.cons (CE.tup (CEs.cons (CE.con (D.str 26223)) CEs.nil)) (CEs.cons (CE.con (D.int 2)) CEs.nil)))) (CE.call 3 (CEs.cons (CE.idx (CE.var 0) (CE.con (D.int 1))) CEs.nil))) (CE.call 2 (CEs.cons (CE.var 0) (CEs.cons (CE.glb 3) (CEs.cons (CE.con (D.int 3)) CEs.nil)))))) CSs.nil))) }
def b6 : FnI := { np := 1, ns := 4, body := CSs.cons (CS.frz [0]) (CSs.cons (CS.par [1, 2] (CEs.cons (CE.lst (CEs.cons (CE.var 0) CEs.nil)) (CEs.cons (CE.con (D.int 0)) CEs.nil))) (CSs.cons (CS.whl (CT.tru (CE.cmp CO.ne (CE.var 1) (CE.lst CEs.nil))) (CSs.cons (CS.par [3, 1] (CEs.cons (CE.idx (CE.var 1) (CE.con (D.int 0))) (CEs.cons (CE.slc (CE.var 1) (CE.con (D.int 1)) (CE.con D.non)) CEs.nil))) (CSs.cons (CS.frz [3]) (CSs.cons (CS.ifS (CT.not (CT.tru (CE.call 5 (CEs.cons (CE.var 3) CEs.nil)))) (CSs.cons (CS.ret (CE.con (D.bl false))) CSs.nil) CSs.nil) (CSs.cons (CS.asg (TGt.nm 2) (CE.bin BO.add (CE.var 2) (CE.bi BI.int (CEs.cons (CE.cmp CO.isin (CE.idx (CE.var 3) (CE.con (D.int 0))) (CE.glb 3)) CEs.nil)))) (CSs.cons (CS.ifS (CT.tru (CE.cmp CO.ge (CE.var 2) (CE.glb 2))) (CSs.cons (CS.ret (CE.con (D.bl false))) CSs.nil) CSs.nil) (CSs.cons (CS.frz [3]) (CSs.cons (CS.asg (TGt.nm 1) (CE.bin BO.add (CE.var 1) (CE.bi BI.list (CEs.cons (CE.call 4 (CEs.cons (CE.var 3) CEs.nil)) CEs.nil)))) CSs.nil)))))))) (CSs.cons (CS.ret (CE.con (D.bl true))) CSs.nil))) }
def b7 : FnI := { np := 1, ns := 1, body := CSs.cons (CS.frz [0]) (CSs.cons (CS.ifS (CT.tru (CE.call 2 (CEs.cons (CE.var 0) (CEs.cons (CE.glb 4) (CEs.cons (CE.con (D.int 1)) CEs.nil))))) (CSs.cons (CS.ret (CE.con (D.bl true))) CSs.nil) CSs.nil) (CSs.cons (CS.frz [0]) (CSs.cons (CS.ret (CE.andE (CE.call 2 (CEs.cons (CE.var 0) (CEs.cons (CE.glb 5) (CEs.cons (CE.con (D.int 3)) CEs.nil)))) (CE.andE (CE.call 6 (CEs.cons (CE.idx (CE.var 0) (CE.con (D.int 1))) CEs.nil)) (CE.call 6 (CEs.cons (CE.idx (CE.var 0) (CE.con (D.int 2))) CEs.nil))))) CSs.nil))) }
def b8 : FnI := { np := 1, ns := 1, body := CSs.cons (CS.frz [0, 0]) (CSs.cons (CS.ifS (CT.or (CT.tru (CE.call 2 (CEs.cons (CE.var 0) (CEs.cons (CE.glb 8) (CEs.cons (CE.con (D.int 2)) CEs.nil))))) (CT.tru (CE.call 2 (CEs.cons (CE.var 0) (CEs.cons (CE.glb 9) (CEs.cons (CE.con (D.int 3)) CEs.nil)))))) (CSs.cons (CS.ret (CE.slc (CE.var 0) (CE.con (D.int 1)) (CE.con D.non))) CSs.nil) CSs.nil) (CSs.cons (CS.frz [0]) (CSs.cons (CS.ret (CE.ite (CT.tru (CE.call 7 (CEs.cons (CE.var 0) CEs.nil))) (CE.tup CEs.nil) (CE.con D.non))) CSs.nil))) }
def b9 : FnI := { np := 1, ns := 8, body := CSs.cons (CS.frz [0]) (CSs.cons (CS.par [1, 2, 3] (CEs.cons (CE.lst (CEs.cons (CE.var 0) CEs.nil)) (CEs.cons (CE.con (D.int 0)) (CEs.cons (CE.con (D.int 0)) CEs.nil)))) (CSs.cons (CS.whl (CT.tru (CE.var 1)) (CSs.cons (CS.aug 3 BO.add (CE.con (D.int 1))) (CSs.cons (CS.frz [5]) (CSs.cons (CS.asg (TGt.nm 4) (CE.lc1 [7, 5] (TGt.nm 5) (CI.seq (CE.var 1)) CT.yes (CE.call 8 (CEs.cons (CE.var 5) CEs.nil)))) (CSs.cons (CS.ifS (CT.or (CT.tru (CE.cmp CO.isin (CE.con D.non) (CE.var 4))) (CT.tru (CE.cmp CO.gt (CE.var 3) (CE.glb 7)))) (CSs.cons (CS.ret (CE.con (D.bl false))) CSs.nil) CSs.nil) (CSs.cons (CS.aug 2 BO.add (CE.bi BI.count (CEs.cons (CE.var 4) (CEs.cons (CE.tup CEs.nil) CEs.nil)))) (CSs.cons (CS.frz [6, 5]) (CSs.cons (CS.asg (TGt.nm 1) (CE.lc2 [7, 6, 5] (TGt.nm 6) (CI.seq (CE.var 4)) CT.yes [5] (TGt.nm 5) (CI.seq (CE.var 6)) CT.yes (CE.var 5))) (CSs.cons (CS.ifS (CT.tru (CE.cmp CO.gt (CE.bin BO.add (CE.var 2) (CE.bi BI.len (CEs.cons (CE.var 1) CEs.nil))) (CE.glb 6))) (CSs.cons (CS.ret (CE.con (D.bl false))) CSs.nil) CSs.nil) CSs.nil))))))))) (CSs.cons (CS.ret (CE.con (D.bl true))) CSs.nil))) }
def b10 : FnI := { np := 1, ns := 2, body := CSs.cons (CS.asg (TGt.nm 1) (CE.bi BI.abs (CEs.cons (CE.idx (CE.bin BO.add (CE.bi BI.list (CEs.cons (CE.var 0) CEs.nil)) (CE.lst (CEs.cons (CE.con (D.int 0)) CEs.nil))) (CE.con (D.int 0))) CEs.nil))) (CSs.cons (CS.ret (CE.lstP (CEs.cons (CE.ite (CT.tru (CE.cmp CO.ge (CE.var 1) (CE.bin BO.pow (CE.con (D.int 10)) (CE.con (D.int 18))))) (CE.bin BO.fdiv (CE.var 1) (CE.con (D.int 79))) (CE.con (D.int 0))) (CEs.cons (CE.bin BO.add (CE.bin BO.mod (CE.bi BI.int (CEs.cons (CE.bin BO.add (CE.bin BO.mul (CE.var 1) (CE.con (D.int 293))) (CE.con (D.int 2903))) CEs.nil)) (CE.con (D.int 2077503127))) (CE.con (D.int 181))) CEs.nil)))) CSs.nil) }
def b11 : FnI := { np := 2, ns := 4, body := CSs.cons (CS.ifS (CT.tru (CE.cmp CO.gt (CE.idx (CE.var 0) (CE.con (D.int 0))) (CE.con (D.int 0)))) (CSs.cons (CS.asg (TGt.nm 3) (CE.bin BO.mod (CE.bi BI.int (CEs.cons (CE.idx (CE.var 0) (CE.con (D.int 0))) CEs.nil)) (CE.var 1))) (CSs.cons (CS.set (CE.var 0) (CE.con (D.int 0)) (CE.bin BO.fdiv (CE.idx (CE.var 0) (CE.con (D.int 0))) (CE.var 1))) (CSs.cons (CS.retV 3) CSs.nil))) CSs.nil) (CSs.cons (CS.set (CE.var 0) (CE.con (D.int 1)) (CE.bin BO.mod (CE.bi BI.int (CEs.cons (CE.bin BO.add (CE.bin BO.mul (CE.idx (CE.var 0) (CE.con (D.int 1))) (CE.con (D.int 31079))) (CE.con (D.int 8039))) CEs.nil)) (CE.con (D.int 2147483477)))) (CSs.cons (CS.asg (TGt.nm 2) (CE.bin BO.mod (CE.bi BI.int (CEs.cons (CE.bin BO.mul (CE.idx (CE.var 0) (CE.con (D.int 1))) (CE.bin BO.add (CE.idx (CE.var 0) (CE.con (D.int 1))) (CE.con (D.int 241)))) CEs.nil)) (CE.con (D.int 2147483587)))) (CSs.cons (CS.ret (CE.bin BO.mod (CE.bi BI.int (CEs.cons (CE.bin BO.fdiv (CE.var 2) (CE.con (D.int 829))) CEs.nil)) (CE.var 1))) CSs.nil))) }
def b12 : FnI := { np := 2, ns := 2, body := CSs.cons (CS.frz [0]) (CSs.cons (CS.ret (CE.idx (CE.var 1) (CE.call 11 (CEs.cons (CE.var 0) (CEs.cons (CE.bi BI.len (CEs.cons (CE.var 1) CEs.nil)) CEs.nil))))) CSs.nil) }
def b13 : FnI := { np := 3, ns := 4, body := CSs.cons (CS.frz [0]) (CSs.cons (CS.ifS (CT.or (CT.tru (CE.cmp CO.lt (CE.var 2) (CE.con (D.int 2)))) (CT.tru (CE.cmp CO.eq (CE.call 11 (CEs.cons (CE.var 0) (CEs.cons (CE.con (D.int 2)) CEs.nil))) (CE.con (D.int 0))))) (CSs.cons (CS.frz [0, 0, 0, 1]) (CSs.cons (CS.ret (CE.ite (CT.or (CT.tru (CE.cmp CO.eq (CE.var 1) (CE.lst CEs.nil))) (CT.tru (CE.cmp CO.eq (CE.call 11 (CEs.cons (CE.var 0) (CEs.cons (CE.con (D.int 3)) CEs.nil))) (CE.con (D.int 0))))) (CE.tup (CEs.cons (CE.con (D.str 29545)) (CEs.cons (CE.call 11 (CEs.cons (CE.var 0) (CEs.cons (CE.con (D.int 4)) CEs.nil))) CEs.nil))) (CE.tup (CEs.cons (CE.con (D.str 26223)) (CEs.cons (CE.call 12 (CEs.cons (CE.var 0) (CEs.cons (CE.var 1) CEs.nil))) CEs.nil))))) CSs.nil)) CSs.nil) (CSs.cons (CS.frz [0]) (CSs.cons (CS.asg (TGt.nm 3) (CE.bin BO.add (CE.con (D.int 1)) (CE.call 11 (CEs.cons (CE.var 0) (CEs.cons (CE.bin BO.sub (CE.var 2) (CE.con (D.int 1))) CEs.nil))))) (CSs.cons (CS.frz [0, 0, 1, 3, 0, 1]) (CSs.cons (CS.ret (CE.tup (CEs.cons (CE.call 12 (CEs.cons (CE.var 0) (CEs.cons (CE.lst (CEs.cons (CE.con (D.str 1937075312)) (CEs.cons (CE.con (D.str 1937075312)) (CEs.cons (CE.con (D.str 495891409261)) (CEs.cons (CE.con (D.str 495622908276)) (CEs.cons (CE.con (D.str 1953719666)) CEs.nil)))))) CEs.nil))) (CEs.cons (CE.call 13 (CEs.cons (CE.var 0) (CEs.cons (CE.var 1) (CEs.cons (CE.var 3) CEs.nil)))) (CEs.cons (CE.call 13 (CEs.cons (CE.var 0) (CEs.cons (CE.var 1) (CEs.cons (CE.bin BO.sub (CE.var 2) (CE.var 3)) CEs.nil)))) CEs.nil))))) CSs.nil))))) }
def b14 : FnI := { np := 2, ns := 2, body := CSs.cons (CS.frz [0]) (CSs.cons (CS.ifS (CT.tru (CE.cmp CO.eq (CE.call 11 (CEs.cons (CE.var 0) (CEs.cons (CE.con (D.int 9)) CEs.nil))) (CE.con (D.int 0)))) (CSs.cons (CS.frz [0]) (CSs.cons (CS.ret (CE.call 12 (CEs.cons (CE.var 0) (CEs.cons (CE.lst (CEs.cons (CE.tup (CEs.cons (CE.con (D.str 1702195828)) CEs.nil)) (CEs.cons (CE.tup (CEs.cons (CE.con (D.str 435728179558)) CEs.nil)) CEs.nil))) CEs.nil)))) CSs.nil)) CSs.nil) (CSs.cons (CS.frz [0, 0, 1, 0, 1]) (CSs.cons (CS.ret (CE.tup (CEs.cons (CE.call 12 (CEs.cons (CE.var 0) (CEs.cons (CE.lst (CEs.cons (CE.con (D.str 1701667187)) (CEs.cons (CE.con (D.str 111512004619893)) (CEs.cons (CE.con (D.str 1936942444)) (CEs.cons (CE.con (D.str 1953722221)) CEs.nil))))) CEs.nil))) (CEs.cons (CE.call 13 (CEs.cons (CE.var 0) (CEs.cons (CE.var 1) (CEs.cons (CE.con (D.int 2)) CEs.nil)))) (CEs.cons (CE.call 13 (CEs.cons (CE.var 0) (CEs.cons (CE.var 1) (CEs.cons (CE.con (D.int 2)) CEs.nil)))) CEs.nil))))) CSs.nil))) }
def b15 : FnI := { np := 2, ns := 2, body := CSs.cons (CS.frz [0]) (CSs.cons (CS.ifS (CT.or (CT.tru (CE.cmp CO.lt (CE.var 1) (CE.con (D.int 2)))) (CT.tru (CE.cmp CO.eq (CE.call 11 (CEs.cons (CE.var 0) (CEs.cons (CE.con (D.int 4)) CEs.nil))) (CE.con (D.int 0))))) (CSs.cons (CS.frz [0]) (CSs.cons (CS.ret (CE.call 14 (CEs.cons (CE.var 0) (CEs.cons (CE.lst (CEs.cons (CE.con (D.str 97)) (CEs.cons (CE.con (D.str 25442)) CEs.nil))) CEs.nil)))) CSs.nil)) CSs.nil) (CSs.cons (CS.frz [0]) (CSs.cons (CS.ifS (CT.tru (CE.cmp CO.eq (CE.call 11 (CEs.cons (CE.var 0) (CEs.cons (CE.con (D.int 3)) CEs.nil))) (CE.con (D.int 0)))) (CSs.cons (CS.frz [0, 0, 0]) (CSs.cons (CS.ret (CE.tup (CEs.cons (CE.call 12 (CEs.cons (CE.var 0) (CEs.cons (CE.lst (CEs.cons (CE.con (D.str 6581857)) (CEs.cons (CE.con (D.str 29295)) CEs.nil))) CEs.nil))) (CEs.cons (CE.call 15 (CEs.cons (CE.var 0) (CEs.cons (CE.bin BO.sub (CE.var 1) (CE.con (D.int 1))) CEs.nil))) (CEs.cons (CE.call 15 (CEs.cons (CE.var 0) (CEs.cons (CE.bin BO.sub (CE.var 1) (CE.con (D.int 1))) CEs.nil))) CEs.nil))))) CSs.nil)) CSs.nil) (CSs.cons (CS.frz [0, 0]) (CSs.cons (CS.ret (CE.tup (CEs.cons (CE.call 12 (CEs.cons (CE.var 0) (CEs.cons (CE.lst (CEs.cons (CE.con (D.str 7630702)) (CEs.cons (CE.con (D.str 1701670771)) (CEs.cons (CE.con (D.str 1751343461)) (CEs.cons (CE.con (D.str 26213)) (CEs.cons (CE.con (D.str 26209)) (CEs.cons (CE.con (D.str 26469)) (CEs.cons (CE.con (D.str 26465)) CEs.nil)))))))) CEs.nil))) (CEs.cons (CE.call 15 (CEs.cons (CE.var 0) (CEs.cons (CE.bin BO.sub (CE.var 1) (CE.con (D.int 1))) CEs.nil))) CEs.nil)))) CSs.nil))))) }
def b16 : FnI := { np := 1, ns := 4, body := CSs.cons (CS.ifS (CT.or (CT.not (CT.tru (CE.isi (CE.var 0) [TyN.tuple]))) (CT.or (CT.tru (CE.cmp CO.eq (CE.var 0) (CE.tup CEs.nil))) (CT.not (CT.tru (CE.isi (CE.idx (CE.var 0) (CE.con (D.int 0))) [TyN.str]))))) (CSs.cons (CS.ret (CE.con (D.int 99))) CSs.nil) CSs.nil) (CSs.cons (CS.ifS (CT.and (CT.tru (CE.cmp CO.eq (CE.idx (CE.var 0) (CE.con (D.int 0))) (CE.con (D.str 29545)))) (CT.tru (CE.cmp CO.eq (CE.bi BI.len (CEs.cons (CE.var 0) CEs.nil)) (CE.con (D.int 2))))) (CSs.cons (CS.ret (CE.ite (CT.and (CT.tru (CE.isi (CE.idx (CE.var 0) (CE.con (D.int 1))) [TyN.int])) (CT.and (CT.not (CT.tru (CE.isi (CE.idx (CE.var 0) (CE.con (D.int 1))) [TyN.bool]))) (CT.tru (CE.chn CO.le CO.le (CE.con (D.int 0)) (CE.idx (CE.var 0) (CE.con (D.int 1))) (CE.con (D.int 9)))))) (CE.con (D.int 1)) (CE.con (D.int 99)))) CSs.nil) CSs.nil) (CSs.cons (CS.ifS (CT.and (CT.tru (CE.cmp CO.eq (CE.idx (CE.var 0) (CE.con (D.int 0))) (CE.con (D.str 26223)))) (CT.tru (CE.cmp CO.eq (CE.bi BI.len (CEs.cons (CE.var 0) CEs.nil)) (CE.con (D.int 2))))) (CSs.cons (CS.asg (TGt.nm 1) (CE.idx (CE.var 0) (CE.con (D.int 1)))) (CSs.cons (CS.frz [2]) (CSs.cons (CS.ret (CE.ite (CT.and (CT.tru (CE.isi (CE.var 1) [TyN.str])) (CT.and (CT.tru (CE.chn CO.le CO.le (CE.con (D.int 1)) (CE.bi BI.len (CEs.cons (CE.var 1) CEs.nil)) (CE.con (D.int 8)))) (CT.tru (CE.cmp CO.eq (CE.lc1 [3, 2] (TGt.nm 2) (CI.seq (CE.var 1)) (CT.not (CT.tru (CE.chn CO.le CO.le (CE.con (D.str 97)) (CE.var 2) (CE.con (D.str 122))))) (CE.var 2)) (CE.lst CEs.nil))))) (CE.con (D.int 1)) (CE.con (D.int 99)))) CSs.nil))) CSs.nil) (CSs.cons (CS.ifS (CT.and (CT.tru (CE.cmp CO.isin (CE.idx (CE.var 0) (CE.con (D.int 0))) (CE.tup (CEs.cons (CE.con (D.str 1937075312)) (CEs.cons (CE.con (D.str 495891409261)) (CEs.cons (CE.con (D.str 495622908276)) (CEs.cons (CE.con (D.str 1953719666)) CEs.nil))))))) (CT.tru (CE.cmp CO.eq (CE.bi BI.len (CEs.cons (CE.var 0) CEs.nil)) (CE.con (D.int 3))))) (CSs.cons (CS.ret (CE.bi BI.min2 (CEs.cons (CE.con (D.int 99)) (CEs.cons (CE.bin BO.add (CE.call 16 (CEs.cons (CE.idx (CE.var 0) (CE.con (D.int 1))) CEs.nil)) (CE.call 16 (CEs.cons (CE.idx (CE.var 0) (CE.con (D.int 2))) CEs.nil))) CEs.nil)))) CSs.nil) CSs.nil) (CSs.cons (CS.ret (CE.con (D.int 99))) CSs.nil)))) }
def b17 : FnI := { np := 1, ns := 5, body := CSs.cons (CS.ifS (CT.or (CT.not (CT.tru (CE.isi (CE.var 0) [TyN.tuple]))) (CT.or (CT.tru (CE.cmp CO.eq (CE.var 0) (CE.tup CEs.nil))) (CT.not (CT.tru (CE.isi (CE.idx (CE.var 0) (CE.con (D.int 0))) [TyN.str]))))) (CSs.cons (CS.ret (CE.tup (CEs.cons (CE.con (D.int 99)) (CEs.cons (CE.con (D.int 99)) CEs.nil)))) CSs.nil) CSs.nil) (CSs.cons (CS.ifS (CT.and (CT.tru (CE.cmp CO.isin (CE.idx (CE.var 0) (CE.con (D.int 0))) (CE.tup (CEs.cons (CE.con (D.str 1702195828)) (CEs.cons (CE.con (D.str 435728179558)) CEs.nil))))) (CT.tru (CE.cmp CO.eq (CE.bi BI.len (CEs.cons (CE.var 0) CEs.nil)) (CE.con (D.int 1))))) (CSs.cons (CS.ret (CE.tup (CEs.cons (CE.con (D.int 1)) (CEs.cons (CE.con (D.int 1)) CEs.nil)))) CSs.nil) CSs.nil) (CSs.cons (CS.ifS (CT.and (CT.tru (CE.cmp CO.isin (CE.idx (CE.var 0) (CE.con (D.int 0))) (CE.tup (CEs.cons (CE.con (D.str 1701667187)) (CEs.cons (CE.con (D.str 111512004619893)) (CEs.cons (CE.con (D.str 1936942444)) (CEs.cons (CE.con (D.str 1953722221)) CEs.nil))))))) (CT.tru (CE.cmp CO.eq (CE.bi BI.len (CEs.cons (CE.var 0) CEs.nil)) (CE.con (D.int 3))))) (CSs.cons (CS.ret (CE.ite (CT.and (CT.tru (CE.cmp CO.le (CE.call 16 (CEs.cons (CE.idx (CE.var 0) (CE.con (D.int 1))) CEs.nil)) (CE.con (D.int 5)))) (CT.tru (CE.cmp CO.le (CE.call 16 (CEs.cons (CE.idx (CE.var 0) (CE.con (D.int 2))) CEs.nil)) (CE.con (D.int 5))))) (CE.tup (CEs.cons (CE.con (D.int 1)) (CEs.cons (CE.con (D.int 1)) CEs.nil))) (CE.tup (CEs.cons (CE.con (D.int 99)) (CEs.cons (CE.con (D.int 99)) CEs.nil))))) CSs.nil) CSs.nil) (CSs.cons (CS.ifS (CT.or (CT.and (CT.tru (CE.cmp CO.isin (CE.idx (CE.var 0) (CE.con (D.int 0))) (CE.tup (CEs.cons (CE.con (D.str 7630702)) (CEs.cons (CE.con (D.str 1701670771)) (CEs.cons (CE.con (D.str 1751343461)) (CEs.cons (CE.con (D.str 26213)) (CEs.cons (CE.con (D.str 26209)) (CEs.cons (CE.con (D.str 26469)) (CEs.cons (CE.con (D.str 26465)) CEs.nil)))))))))) (CT.tru (CE.cmp CO.eq (CE.bi BI.len (CEs.cons (CE.var 0) CEs.nil)) (CE.con (D.int 2))))) (CT.and (CT.tru (CE.cmp CO.isin (CE.idx (CE.var 0) (CE.con (D.int 0))) (CE.tup (CEs.cons (CE.con (D.str 6581857)) (CEs.cons (CE.con (D.str 29295)) CEs.nil))))) (CT.tru (CE.cmp CO.eq (CE.bi BI.len (CEs.cons (CE.var 0) CEs.nil)) (CE.con (D.int 3)))))) (CSs.cons (CS.frz [2]) (CSs.cons (CS.asg (TGt.nm 1) (CE.lc1 [4, 2] (TGt.nm 2) (CI.seq (CE.slc (CE.var 0) (CE.con (D.int 1)) (CE.con D.non))) CT.yes (CE.call 17 (CEs.cons (CE.var 2) CEs.nil)))) (CSs.cons (CS.ret (CE.tup (CEs.cons (CE.bi BI.sum (CEs.cons (CE.lc1 [4, 3] (TGt.nm 3) (CI.seq (CE.var 1)) CT.yes (CE.idx (CE.var 3) (CE.con (D.int 0)))) CEs.nil)) (CEs.cons (CE.bin BO.add (CE.con (D.int 1)) (CE.bi BI.max1 (CEs.cons (CE.lc1 [4, 3] (TGt.nm 3) (CI.seq (CE.var 1)) CT.yes (CE.idx (CE.var 3) (CE.con (D.int 1)))) CEs.nil))) CEs.nil)))) CSs.nil))) CSs.nil) (CSs.cons (CS.ret (CE.tup (CEs.cons (CE.con (D.int 99)) (CEs.cons (CE.con (D.int 99)) CEs.nil)))) CSs.nil)))) }
def b18 : FnI := { np := 2, ns := 4, body := CSs.cons (CS.frz [0]) (CSs.cons (CS.ifS (CT.or (CT.not (CT.tru (CE.isi (CE.var 1) [TyN.tuple]))) (CT.or (CT.tru (CE.cmp CO.eq (CE.var 1) (CE.tup CEs.nil))) (CT.tru (CE.cmp CO.eq (CE.call 11 (CEs.cons (CE.var 0) (CEs.cons (CE.con (D.int 6)) CEs.nil))) (CE.con (D.int 0)))))) (CSs.cons (CS.frz [0]) (CSs.cons (CS.ret (CE.call 12 (CEs.cons (CE.var 0) (CEs.cons (CE.lst (CEs.cons (CE.con D.non) (CEs.cons (CE.tup CEs.nil) (CEs.cons (CE.lst CEs.nil) (CEs.cons (CE.con (D.int 0)) (CEs.cons (CE.con (D.str 97)) (CEs.cons (CE.con (D.str 1702195828)) (CEs.cons (CE.con (D.str 495925030507)) (CEs.cons (CE.tup (CEs.cons (CE.con (D.str 1702195828)) CEs.nil)) (CEs.cons (CE.tup (CEs.cons (CE.con (D.str 26213)) CEs.nil)) (CEs.cons (CE.tup (CEs.cons (CE.con (D.str 29545)) (CEs.cons (CE.con (D.int 3)) CEs.nil))) (CEs.cons (CE.tup (CEs.cons (CE.con (D.str 26223)) (CEs.cons (CE.con (D.str 97)) CEs.nil))) (CEs.cons (CE.tup (CEs.cons (CE.con (D.str 7630702)) (CEs.cons (CE.tup (CEs.cons (CE.con (D.str 1702195828)) CEs.nil)) CEs.nil))) (CEs.cons (CE.tup (CEs.cons (CE.con (D.str 1701667187)) (CEs.cons (CE.tup (CEs.cons (CE.con (D.str 29545)) (CEs.cons (CE.con (D.int 1)) CEs.nil))) CEs.nil))) CEs.nil)))))))))))))) CEs.nil)))) CSs.nil)) CSs.nil) (CSs.cons (CS.frz [0, 0]) (CSs.cons (CS.par [2, 3] (CEs.cons (CE.call 11 (CEs.cons (CE.var 0) (CEs.cons (CE.bi BI.len (CEs.cons (CE.var 1) CEs.nil)) CEs.nil))) (CEs.cons (CE.call 11 (CEs.cons (CE.var 0) (CEs.cons (CE.con (D.int 9)) CEs.nil))) CEs.nil))) (CSs.cons (CS.ifS (CT.tru (CE.cmp CO.eq (CE.var 3) (CE.con (D.int 0)))) (CSs.cons (CS.ret (CE.bin BO.add (CE.slc (CE.var 1) (CE.con D.non) (CE.var 2)) (CE.slc (CE.var 1) (CE.bin BO.add (CE.var 2) (CE.con (D.int 1))) (CE.con D.non)))) CSs.nil) CSs.nil) (CSs.cons (CS.ifS (CT.tru (CE.cmp CO.eq (CE.var 3) (CE.con (D.int 1)))) (CSs.cons (CS.ret (CE.bin BO.add (CE.bin BO.add (CE.slc (CE.var 1) (CE.con D.non) (CE.var 2)) (CE.slc (CE.var 1) (CE.var 2) (CE.bin BO.add (CE.var 2) (CE.con (D.int 1))))) (CE.slc (CE.var 1) (CE.var 2) (CE.con D.non)))) CSs.nil) CSs.nil) (CSs.cons (CS.frz [0]) (CSs.cons (CS.ret (CE.ite (CT.tru (CE.cmp CO.eq (CE.var 3) (CE.con (D.int 2)))) (CE.bi BI.list (CEs.cons (CE.var 1) CEs.nil)) (CE.bin BO.add (CE.bin BO.add (CE.slc (CE.var 1) (CE.con D.non) (CE.var 2)) (CE.tup (CEs.cons (CE.call 18 (CEs.cons (CE.var 0) (CEs.cons (CE.idx (CE.var 1) (CE.var 2)) CEs.nil))) CEs.nil))) (CE.slc (CE.var 1) (CE.bin BO.add (CE.var 2) (CE.con (D.int 1))) (CE.con D.non))))) CSs.nil))))))) }
def b19 : FnI := { np := 2, ns := 3, body := CSs.cons (CS.ifS (CT.tru (CE.cmp CO.lt (CE.var 1) (CE.con (D.int 2)))) (CSs.cons (CS.frz [0]) (CSs.cons (CS.ret (CE.call 12 (CEs.cons (CE.var 0) (CEs.cons (CE.lst (CEs.cons (CE.tup (CEs.cons (CE.con (D.str 29545)) (CEs.cons (CE.con (D.int 9)) CEs.nil))) (CEs.cons (CE.tup (CEs.cons (CE.con (D.str 26223)) (CEs.cons (CE.con (D.str 97)) CEs.nil))) CEs.nil))) CEs.nil)))) CSs.nil)) CSs.nil) (CSs.cons (CS.frz [0]) (CSs.cons (CS.asg (TGt.nm 2) (CE.bin BO.add (CE.con (D.int 1)) (CE.call 11 (CEs.cons (CE.var 0) (CEs.cons (CE.bin BO.sub (CE.var 1) (CE.con (D.int 1))) CEs.nil))))) (CSs.cons (CS.frz [0, 0, 2, 0]) (CSs.cons (CS.ret (CE.tup (CEs.cons (CE.call 12 (CEs.cons (CE.var 0) (CEs.cons (CE.lst (CEs.cons (CE.con (D.str 1937075312)) (CEs.cons (CE.con (D.str 495891409261)) (CEs.cons (CE.con (D.str 495622908276)) (CEs.cons (CE.con (D.str 1953719666)) CEs.nil))))) CEs.nil))) (CEs.cons (CE.call 19 (CEs.cons (CE.var 0) (CEs.cons (CE.var 2) CEs.nil))) (CEs.cons (CE.call 19 (CEs.cons (CE.var 0) (CEs.cons (CE.bin BO.sub (CE.var 1) (CE.var 2)) CEs.nil))) CEs.nil))))) CSs.nil)))) }
def b20 : FnI := { np := 1, ns := 14, body := CSs.cons (CS.frz [0]) (CSs.cons (CS.asg (TGt.nm 1) (CE.call 10 (CEs.cons (CE.var 0) CEs.nil))) (CSs.cons (CS.forS (TGt.nm 2) (CI.rng2 (CE.con (D.int 4)) (CE.con (D.int 7))) (CSs.cons (CS.frz [1, 2, 1, 1]) (CSs.cons (CS.asg (TGt.nm 5) (CE.call 9 (CEs.cons (CE.tup (CEs.cons (CE.con (D.str 26213)) (CEs.cons (CE.tup (CEs.cons (CE.con (D.str 1936942444)) (CEs.cons (CE.call 19 (CEs.cons (CE.var 1) (CEs.cons (CE.var 2) CEs.nil))) (CEs.cons (CE.call 19 (CEs.cons (CE.var 1) (CEs.cons (CE.bin BO.add (CE.con (D.int 1)) (CE.call 11 (CEs.cons (CE.var 1) (CEs.cons (CE.con (D.int 5)) CEs.nil)))) CEs.nil))) CEs.nil)))) CEs.nil))) CEs.nil))) (CSs.cons (CS.ifS (CT.or (CT.not (CT.tru (CE.isi (CE.var 5) [TyN.bool]))) (CT.tru (CE.cmp CO.ne (CE.var 5) (CE.cmp CO.lt (CE.var 2) (CE.con (D.int 6)))))) (CSs.cons (CS.ret (CE.con (D.bl false))) CSs.nil) CSs.nil) CSs.nil)))) (CSs.cons (CS.frz [1, 1]) (CSs.cons (CS.par [6, 7] (CEs.cons (CE.call 15 (CEs.cons (CE.var 1) (CEs.cons (CE.con (D.int 2)) CEs.nil))) (CEs.cons (CE.call 14 (CEs.cons (CE.var 1) (CEs.cons (CE.lst (CEs.cons (CE.con (D.str 97)) CEs.nil)) CEs.nil))) CEs.nil))) (CSs.cons (CS.frz [6, 7, 6, 7, 6, 6, 6, 6]) (CSs.cons (CS.asg (TGt.nm 3) (CE.lst (CEs.cons (CE.tup (CEs.cons (CE.con (D.str 1684828020)) (CEs.cons (CE.var 6) (CEs.cons (CE.var 7) CEs.nil)))) (CEs.cons (CE.tup (CEs.cons (CE.con (D.str 465625706101)) (CEs.cons (CE.var 6) (CEs.cons (CE.var 7) CEs.nil)))) (CEs.cons (CE.tup (CEs.cons (CE.con (D.str 495925030507)) (CEs.cons (CE.con (D.int 0)) (CEs.cons (CE.var 6) CEs.nil)))) (CEs.cons (CE.tup (CEs.cons (CE.con (D.str 1936027492)) (CEs.cons (CE.con (D.int 0)) CEs.nil))) (CEs.cons (CE.tup (CEs.cons (CE.con (D.str 1954047342)) (CEs.cons (CE.var 6) CEs.nil))) (CEs.cons (CE.tup (CEs.cons (CE.con (D.str 1919252069)) (CEs.cons (CE.var 6) CEs.nil))) (CEs.cons (CE.tup (CEs.cons (CE.con (D.str 126965163453537)) (CEs.cons (CE.var 6) CEs.nil))) CEs.nil))))))))) (CSs.cons (CS.frz [12, 6, 6, 6, 7]) (CSs.cons (CS.asg (TGt.nm 3) (CE.bin BO.add (CE.bin BO.add (CE.var 3) (CE.lc1 [13, 12] (TGt.nm 12) (CI.seq (CE.tup (CEs.cons (CE.con (D.str 7233891)) (CEs.cons (CE.con (D.str 7235959)) (CEs.cons (CE.con (D.str 1684828008)) (CEs.cons (CE.con (D.str 435710683251)) (CEs.cons (CE.con (D.str 121424856313699)) CEs.nil))))))) CT.yes (CE.tup (CEs.cons (CE.var 12) (CEs.cons (CE.tup (CEs.cons (CE.con (D.int 0)) CEs.nil)) (CEs.cons (CE.var 6) CEs.nil)))))) (CE.lst (CEs.cons (CE.tup (CEs.cons (CE.con (D.str 26223)) (CEs.cons (CE.var 6) CEs.nil))) (CEs.cons (CE.tup (CEs.cons (CE.con (D.str 1937075312)) (CEs.cons (CE.var 6) (CEs.cons (CE.var 7) CEs.nil)))) CEs.nil))))) (CSs.cons (CS.frz [6, 8, 8, 6]) (CSs.cons (CS.ifS (CT.or (CT.tru (CE.cmp CO.ne (CE.lc1 [13, 8] (TGt.nm 8) (CI.seq (CE.bin BO.add (CE.var 3) (CE.lst (CEs.cons (CE.tup (CEs.cons (CE.con (D.str 7630702)) (CEs.cons (CE.idx (CE.var 3) (CE.con (D.int 0))) CEs.nil))) (CEs.cons (CE.tup (CEs.cons (CE.con (D.str 6581857)) (CEs.cons (CE.var 6) (CEs.cons (CE.idx (CE.var 3) (CE.con (D.int 3))) CEs.nil)))) CEs.nil))))) (CT.tru (CE.cmp CO.notB (CE.call 9 (CEs.cons (CE.var 8) CEs.nil)) (CE.con (D.bl false)))) (CE.var 8)) (CE.lst CEs.nil))) (CT.tru (CE.cmp CO.notB (CE.call 9 (CEs.cons (CE.var 6) CEs.nil)) (CE.con (D.bl true))))) (CSs.cons (CS.ret (CE.con (D.bl false))) CSs.nil) CSs.nil) (CSs.cons (CS.forS (TGt.nm 4) (CI.rng1 (CE.con (D.int 8))) (CSs.cons (CS.frz [1, 1]) (CSs.cons (CS.asg (TGt.nm 8) (CE.call 15 (CEs.cons (CE.var 1) (CEs.cons (CE.bin BO.add (CE.con (D.int 2)) (CE.call 11 (CEs.cons (CE.var 1) (CEs.cons (CE.con (D.int 6)) CEs.nil)))) CEs.nil)))) (CSs.cons (CS.frz [8, 1, 8, 1, 8]) (CSs.cons (CS.forS (TGt.nm 9) (CI.seq (CE.lst (CEs.cons (CE.var 8) (CEs.cons (CE.call 18 (CEs.cons (CE.var 1) (CEs.cons (CE.var 8) CEs.nil))) (CEs.cons (CE.call 18 (CEs.cons (CE.var 1) (CEs.cons (CE.var 8) CEs.nil))) CEs.nil))))) (CSs.cons (CS.frz [9]) (CSs.cons (CS.asg (TGt.tp [TGt.nm 10, TGt.nm 11]) (CE.call 17 (CEs.cons (CE.var 9) CEs.nil))) (CSs.cons (CS.frz [9]) (CSs.cons (CS.asg (TGt.nm 5) (CE.call 9 (CEs.cons (CE.var 9) CEs.nil))) (CSs.cons (CS.ifS (CT.or (CT.not (CT.tru (CE.isi (CE.var 5) [TyN.bool]))) (CT.tru (CE.cmp CO.ne (CE.var 5) (CE.andE (CE.cmp CO.le (CE.var 10) (CE.con (D.int 6))) (CE.cmp CO.le (CE.var 11) (CE.con (D.int 6))))))) (CSs.cons (CS.ret (CE.con (D.bl false))) CSs.nil) CSs.nil) CSs.nil)))))) CSs.nil))))) (CSs.cons (CS.ret (CE.con (D.bl true))) CSs.nil)))))))))))) }
def fsL : List FnI := [b0, b1, b2, b3, b4, b5, b6, b7, b8, b9, b10, b11, b12, b13, b14, b15, b16, b17, b18, b19, b20]
def glL : List D := [.str 196808924543273351654744084199064270893917454994213902225728097, (.int 8), (.int 5), (.tup [.str 1937075312, .str 495891409261, .str 495622908276, .str 1953719666]), (.tup [.str 1702195828, .str 435728179558]), (.tup [.str 1701667187, .str 111512004619893, .str 1936942444, .str 1953722221]), (.int 6), (.int 6), (.tup [.str 7630702, .str 1701670771, .str 1751343461, .str 26213, .str 26209, .str 26469, .str 26465]), (.tup [.str 6581857, .str 29295])]
end K47

set_option Elab.async false
set_option linter.all false
set_option maxRecDepth 100000
set_option maxHeartbeats 4000000
namespace K47
open Gx
/-! ### the values that are drawn -/
/-- all texts that stand in the law -/
def STR : List Nat := [97, 25442, 29545, 26223, 1937075312, 495891409261, 495622908276, 1953719666, 1702195828, 435728179558, 1701667187, 111512004619893, 1936942444, 1953722221, 7630702, 1701670771, 1751343461, 26213, 26209, 26469, 26465, 6581857, 29295,
  1684828020, 465625706101, 495925030507, 1936027492, 1954047342, 1919252069, 126965163453537, 7233891, 7235959, 1684828008, 435710683251, 121424856313699]
mutual
def tr : Nat → D → Bool
  | _, .non => true
  | _, .int _ => true
  | _, .str n => STR.contains n
  | n + 1, .tup xs => Nat.ble xs.length 16 && trs n xs
  | n + 1, .lst xs => Nat.ble xs.length 16 && trs n xs
  | _, _ => false
def trs : Nat → List D → Bool
  | _, [] => true
  | n, x :: xs => tr n x && trs n xs
end
theorem trs_all : ∀ {n : Nat} {xs : List D}, trs n xs = true ↔ ∀ x ∈ xs, tr n x = true
  | n, [] => by simp [trs]
  | n, x :: xs => by
    rw [trs, Bool.and_eq_true, List.forall_mem_cons, trs_all]
mutual
theorem tr_mono : ∀ {n m : Nat} {x : D}, n ≤ m → tr n x = true → tr m x = true
  | n, m, .non, _, _ => by simp [tr]
  | n, m, .int _, _, _ => by simp [tr]
  | n, m, .str _, _, h => by simpa [tr] using h
  | n, 0, .tup xs, hn, h => by
    have : n = 0 := by omega
    subst this
    exact h
  | 0, m + 1, .tup xs, _, h => by simp [tr] at h
  | n + 1, m + 1, .tup xs, hn, h => by
    simp only [tr, Bool.and_eq_true] at h ⊢
    exact ⟨h.1, trs_mono (by omega) h.2⟩
  | n, 0, .lst xs, hn, h => by
    have : n = 0 := by omega
    subst this
    exact h
  | 0, m + 1, .lst xs, _, h => by simp [tr] at h
  | n + 1, m + 1, .lst xs, hn, h => by
    simp only [tr, Bool.and_eq_true] at h ⊢
    exact ⟨h.1, trs_mono (by omega) h.2⟩
  | n, _, .bl _, _, h => by cases n <;> simp [tr] at h
  | n, _, .ref _, _, h => by cases n <;> simp [tr] at h
  | n, _, .fn _, _, h => by cases n <;> simp [tr] at h
  | n, _, .ty _, _, h => by cases n <;> simp [tr] at h
  | n, _, .dct _ _, _, h => by cases n <;> simp [tr] at h
  | n, _, .set _, _, h => by cases n <;> simp [tr] at h
theorem trs_mono : ∀ {n m : Nat} {xs : List D}, n ≤ m → trs n xs = true → trs m xs = true
  | _, _, [], _, _ => by simp [trs]
  | n, m, x :: xs, hn, h => by
    simp only [trs, Bool.and_eq_true] at h ⊢
    exact ⟨tr_mono hn h.1, trs_mono hn h.2⟩
end
mutual
theorem tr_sh : ∀ {n : Nat} {x : D}, tr n x = true → sh n x = true
  | n, .non, _ => by cases n <;> simp [sh]
  | n, .int _, _ => by cases n <;> simp [sh]
  | n, .str _, h => by cases n <;> simp [sh]
  | 0, .tup xs, h => by simp [tr] at h
  | n + 1, .tup xs, h => by
    simp only [tr, Bool.and_eq_true] at h
    simpa [sh] using trs_sh h.2
  | 0, .lst xs, h => by simp [tr] at h
  | n + 1, .lst xs, h => by
    simp only [tr, Bool.and_eq_true] at h
    simpa [sh] using trs_sh h.2
  | n, .bl _, h => by cases n <;> simp [tr] at h
  | n, .ref _, h => by cases n <;> simp [tr] at h
  | n, .fn _, h => by cases n <;> simp [tr] at h
  | n, .ty _, h => by cases n <;> simp [tr] at h
  | n, .dct _ _, h => by cases n <;> simp [tr] at h
  | n, .set _, h => by cases n <;> simp [tr] at h
theorem trs_sh : ∀ {n : Nat} {xs : List D}, trs n xs = true → shs n xs = true
  | _, [], _ => by simp [shs]
  | n, x :: xs, h => by
    simp only [trs, Bool.and_eq_true] at h
    simp only [shs, Bool.and_eq_true]
    exact ⟨tr_sh h.1, trs_sh h.2⟩
end
theorem tr_sh60 {n : Nat} {x : D} (hn : n ≤ 60) (h : tr n x = true) : sh 60 x = true := tr_sh (tr_mono hn h)
/-- plain, but a bool -/
def pl : D → Bool
  | .non => true | .int _ => true | .str _ => true | .tup _ => true | .lst _ => true
  | _ => false
theorem tr_pl {n : Nat} {x : D} (h : tr n x = true) : pl x = true := by
  cases x <;> first | rfl | (cases n <;> simp [tr] at h)

/-! ### the tests -/
def wh (v : D) (lo hi : Int) : Bool := match v with
  | .int i => decide (lo ≤ i) && decide (i ≤ hi)
  | _ => false
def tof (v : D) (lo hi : Int) : Bool := match v with
  | .tup xs => decide (lo ≤ xs.length) && decide ((xs.length : Int) ≤ hi)
  | _ => false
def hw (v : D) (ws : List Nat) (n : Nat) : Bool := match v with
  | .tup (.str s :: xs) => decide (xs.length + 1 = n) && ws.contains s
  | _ => false
theorem c_whole {v : D} {lo hi : Int} {k : Nat} {m : Mem} (h : pl v = true) : callF fsL glL (k + 1) 0 [v, .int lo, .int hi] m = .ok (.d (.bl (wh v lo hi))) m := by
  cases v with
  | int i =>
    by_cases h1 : lo ≤ i <;> simp [callF, fsL, b0, evSs, evS, evE, evEs, Rs.bind, Rs.bindS, Rs.of, isTys, isTy, Rv.look, cmpV, wh, h1, notBrw]
  | _ => first | rfl | (cases h; done)
theorem c_tof {v : D} {lo hi : Int} {k : Nat} {m : Mem} (h : pl v = true) : callF fsL glL (k + 1) 1 [v, .int lo, .int hi] m = .ok (.d (.bl (tof v lo hi))) m := by
  cases v with
  | tup xs =>
    by_cases h1 : lo ≤ xs.length <;> simp [callF, fsL, b1, evSs, evS, evE, evEs, evLs, biV, Rs.bind, Rs.bindS, Rs.of, isTys, isTy, Rv.look, cmpV, tof, h1, notBrw]
  | _ => first | rfl | (cases h; done)

/-- a tuple of texts -/
def tt (ws : List Nat) : D := .tup (ws.map .str)
theorem eq_any {s : Nat} (ws : List Nat) : ((ws.map D.str).any fun z => eqD z (.str s)) = ws.contains s := by
  induction ws with
  | nil => rfl
  | cons w ws ih =>
    rw [List.map_cons, List.any_cons, ih, List.contains_cons]
    show (eqD (.str w) (.str s) || _) = _
    simp only [eqD]
    congr 1
    exact BEq.comm
theorem shs_str (ws : List Nat) (k : Nat) : shs k (ws.map D.str) = true := by
  induction ws with
  | nil => simp [shs]
  | cons w ws ih => simp [shs, sh, ih]
theorem in_tt {s : Nat} (ws : List Nat) : cmpV .isin (.str s) (tt ws) = some (ws.contains s) := by
  simp only [cmpV, tt, D.seq, eqOks, sh, shs_str, Bool.and_self, if_pos, eq_any]
theorem isStr_of {x : D} (h : pl x = true) : isTys x [.str] = some (match x with
    | .str _ => true
    | _ => false) := by
  cases x <;> first | rfl | (cases h; done)
theorem tr_tup {n : Nat} {xs : List D} (h : tr n (.tup xs) = true) : ∃ k, n = k + 1 ∧ xs.length ≤ 16 ∧ ∀ x ∈ xs, tr k x = true := by
  cases n with
  | zero => simp [tr] at h
  | succ k =>
    simp only [tr, Bool.and_eq_true] at h
    exact ⟨k, rfl, Nat.le_of_ble_eq_true h.1, trs_all.mp h.2⟩
theorem c_hw {j : Nat} {v : D} {ws : List Nat} {n : Nat} {k : Nat} {m : Mem} (h : tr j v = true) (hn : 0 < n) : callF fsL glL (k + 2) 2 [v, tt ws, .int n] m = .ok (.d (.bl (hw v ws n))) m := by
  have e1 : callF fsL glL (k + 1) 1 [v, .int n, .int n] m = .ok (.d (.bl (tof v n n))) m := c_tof (tr_pl h)
  rw [call_eq (k := k + 1) (fi := b2) rfl rfl]
  by_cases e : tof v n n = true
  · rw [e] at e1
    obtain ⟨xs, rfl⟩ : ∃ xs, v = .tup xs := by
      cases v with
      | tup xs => exact ⟨xs, rfl⟩
      | _ => cases e
    cases xs with
    | nil =>
      simp [tof] at e
      omega
    | cons x xs =>
      have hl : xs.length + 1 = n := by simp [tof] at e; omega
      have e2 : idxV (.tup (x :: xs)) (.int 0) m = some x := by simp [idxV, ixAt] <;> omega
      obtain ⟨j', rfl, _, hx⟩ := tr_tup h
      have e3 := isStr_of (tr_pl (hx x (List.mem_cons_self ..)))
      cases x <;> simp [b2, evSs, evS, evE, evEs, frzAt, f_d, r_ok, r_okS, r_of, e1, e2, l_d, e3, in_tt, n_d, hw, hl, fin_ret]
  · rw [Bool.not_eq_true] at e
    rw [e] at e1
    have e4 : hw v ws n = false := by
      unfold hw
      split
      · rename_i s xs
        simp [tof] at e
        simp
        intro z
        omega
      · rfl
    simp [b2, evSs, evS, evE, evEs, frzAt, f_d, r_ok, r_okS, r_of, e1, l_d, n_d, e4, fin_ret]
/-! ### names -/
def nm (v : D) : Bool := match v with
  | .str n => Nat.ble 1 (dec n).length && (Nat.ble (dec n).length 8 && (dec n).all fun c => Nat.ble 97 c && Nat.ble c 122)
  | _ => false
theorem c_nm {j : Nat} {v : D} {k : Nat} {m : Mem} (h : tr j v = true) : callF fsL glL (k + 1) 3 [v] m = .ok (.d (.bl (nm v))) m := by
  cases v with
  | str n =>
    have hs : n ∈ STR := by
      cases j <;> simpa [tr] using h
    simp only [STR, List.mem_cons, List.not_mem_nil, or_false] at hs
    rcases hs with rfl | rfl | rfl | rfl | rfl | rfl | rfl | rfl | rfl | rfl | rfl | rfl | rfl | rfl | rfl | rfl | rfl | rfl | rfl | rfl | rfl | rfl | rfl | rfl | rfl | rfl | rfl | rfl | rfl | rfl | rfl | rfl | rfl | rfl | rfl <;> rfl
  | _ => first | rfl | (cases (tr_pl h); done)
end K47

set_option Elab.async false
set_option linter.all false
set_option maxRecDepth 100000
set_option maxHeartbeats 4000000
namespace K47
open Gx
def SG : List Nat := [1937075312, 495891409261, 495622908276, 1953719666]
def PL : List Nat := [1702195828, 435728179558]
def CM : List Nat := [1701667187, 111512004619893, 1936942444, 1953722221]
def AL : List Nat := [7630702, 1701670771, 1751343461, 26213, 26209, 26469, 26465]
def JO : List Nat := [6581857, 29295]
theorem g1 : glL[1]? = some (.int 8) := rfl
theorem g2 : glL[2]? = some (.int 5) := rfl
theorem g3 : glL[3]? = some (tt SG) := rfl
theorem g4 : glL[4]? = some (tt PL) := rfl
theorem g5 : glL[5]? = some (tt CM) := rfl
theorem g6 : glL[6]? = some (.int 6) := rfl
theorem g7 : glL[7]? = some (.int 6) := rfl
theorem g8 : glL[8]? = some (tt AL) := rfl
theorem g9 : glL[9]? = some (tt JO) := rfl
theorem cut1 {x : D} {xs : List D} : cut (x :: xs) (some 1) none = xs := by
  simp [cut, slAt]
theorem ix0 {x : D} {xs : List D} {m : Mem} : idxV (.tup (x :: xs)) (.int 0) m = some x := by
  simp [idxV, ixAt] <;> omega
theorem ix1 {x y : D} {xs : List D} {m : Mem} : idxV (.tup (x :: y :: xs)) (.int 1) m = some y := by
  have : (1 : Int) < (xs.length : Int) + 1 + 1 := by omega
  simp [idxV, ixAt, this]
theorem ix2 {x y z : D} {xs : List D} {m : Mem} : idxV (.tup (x :: y :: z :: xs)) (.int 2) m = some z := by
  have : (2 : Int) < (xs.length : Int) + 1 + 1 + 1 := by omega
  simp [idxV, ixAt, this]
theorem c_inE {s : Nat} {xs : List D} {k : Nat} {m : Mem} : callF fsL glL (k + 1) 4 [.tup (.str s :: xs)] m = .ok (.d (.tup (if SG.contains s then xs else []))) m := by
  rw [call_eq (k := k) (fi := b4) rfl rfl]
  by_cases h : s ∈ SG
  · simp [b4, evSs, evS, evE, evEs, evT, r_ok, r_okS, r_of, l_d, ix0, in_tt, n_d, fin_ret, g3, h, truth, slcV, D.part, cut1]
  · simp [b4, evSs, evS, evE, evEs, evT, r_ok, r_okS, r_of, l_d, ix0, in_tt, n_d, fin_ret, g3, h, truth, okLen, LINE]
def fh (v : D) : Bool := match v with
  | .tup [.str s, x] => if s = 29545 then wh x 0 9 else s = 26223 && nm x
  | .tup [.str s, _, _] => SG.contains s
  | _ => false
theorem c_fh {j : Nat} {v : D} {k : Nat} {m : Mem} (h : tr j v = true) : callF fsL glL (k + 3) 5 [v] m = .ok (.d (.bl (fh v))) m := by
  have e1 : callF fsL glL (k + 2) 2 [v, .tup [.str 29545], .int 2] m = .ok (.d (.bl (hw v [29545] 2))) m := c_hw (ws := [29545]) (n := 2) h (by decide)
  have e2 : callF fsL glL (k + 2) 2 [v, .tup [.str 26223], .int 2] m = .ok (.d (.bl (hw v [26223] 2))) m := c_hw (ws := [26223]) (n := 2) h (by decide)
  have e3 : callF fsL glL (k + 2) 2 [v, tt SG, .int 3] m = .ok (.d (.bl (hw v SG 3))) m := c_hw (ws := SG) (n := 3) h (by decide)
  rw [call_eq (k := k + 2) (fi := b5) rfl rfl]
  by_cases h1 : hw v [29545] 2 = true
  · obtain ⟨x, rfl⟩ : ∃ x, v = .tup [.str 29545, x] := by
      unfold hw at h1
      split at h1
      · rename_i s xs
        simp at h1
        obtain ⟨h2, rfl⟩ := h1
        match xs, h2 with
        | [x], _ => exact ⟨x, rfl⟩
      · cases h1
    obtain ⟨j', rfl, _, hx⟩ := tr_tup h
    have e4 : callF fsL glL (k + 2) 0 [x, .int 0, .int 9] m = .ok (.d (.bl (wh x 0 9))) m := c_whole (tr_pl (hx x (by simp)))
    rw [h1] at e1
    simp [b5, evSs, evS, evE, evEs, evT, frzAt, f_d, r_ok, r_okS, r_of, l_d, n_d, fin_ret, truth, okLen, LINE, e1, e4, ix1, fh]
  · rw [Bool.not_eq_true] at h1
    rw [h1] at e1
    by_cases h2 : hw v [26223] 2 = true
    · obtain ⟨x, rfl⟩ : ∃ x, v = .tup [.str 26223, x] := by
        unfold hw at h2
        split at h2
        · rename_i s xs
          simp at h2
          obtain ⟨h3, rfl⟩ := h2
          match xs, h3 with
          | [x], _ => exact ⟨x, rfl⟩
        · cases h2
      obtain ⟨j', rfl, _, hx⟩ := tr_tup h
      have e4 : callF fsL glL (k + 2) 3 [x] m = .ok (.d (.bl (nm x))) m := c_nm (k := k + 1) (hx x (by simp))
      rw [h2] at e2
      have e5 : hw (.tup [.str 26223, x]) SG 3 = false := by simp [hw]
      rw [e5] at e3
      by_cases h6 : nm x = true
      · simp [b5, evSs, evS, evE, evEs, evT, frzAt, f_d, r_ok, r_okS, r_of, l_d, n_d, fin_ret, truth, okLen, LINE, e1, e2, e4, ix1, fh, h6, g3]
      · simp [b5, evSs, evS, evE, evEs, evT, frzAt, f_d, r_ok, r_okS, r_of, l_d, n_d, fin_ret, truth, okLen, LINE, e1, e2, e3, e4, ix1, fh, h6, g3]
    · rw [Bool.not_eq_true] at h2
      rw [h2] at e2
      have e6 : fh v = hw v SG 3 := by
        unfold fh
        split
        · rename_i s x
          simp [hw] at h1 h2 ⊢
          simp [h1, h2]
        · rename_i s x y
          simp [hw]
        · rename_i n1 n2
          unfold hw
          split
          · rename_i s xs
            symm
            rw [Bool.and_eq_false_imp]
            intro z
            simp at z
            match xs, z with
            | [x, y], _ => exact absurd rfl (n2 s x y)
          · rfl
      simp [b5, evSs, evS, evE, evEs, evT, frzAt, f_d, r_ok, r_okS, r_of, l_d, n_d, fin_ret, truth, okLen, LINE, e1, e2, e3, e6, g3]
end K47

set_option Elab.async false
set_option linter.all false
set_option maxRecDepth 100000
set_option maxHeartbeats 4000000
namespace K47
open Gx
def un : Nat → D → Int
  | 0, _ => 99
  | n + 1, v => match v with
    | .tup [.str s, x] => if s = 29545 then (if wh x 0 9 then 1 else 99) else if s = 26223 then (if nm x then 1 else 99) else 99
    | .tup [.str s, x, y] => if s ∈ SG then min 99 (un n x + un n y) else 99
    | _ => 99
theorem eq_str {s t : Nat} : cmpV .eq (.str s) (.str t) = some (decide (s = t)) := by
  simp [cmpV, eqOk, sh, eqD]
  rfl
theorem eq_int {i j : Int} : cmpV .eq (.int i) (.int j) = some (decide (i = j)) := by
  simp [cmpV, eqOk, sh, eqD]
  rfl
theorem ne_int {i j : Int} : cmpV .ne (.int i) (.int j) = some (!decide (i = j)) := by
  simp [cmpV, eqOk, sh, eqD]
  rfl
theorem le_int {i j : Int} : cmpV .le (.int i) (.int j) = some (decide (i ≤ j)) := rfl
theorem lt_int {i j : Int} : cmpV .lt (.int i) (.int j) = some (decide (i < j)) := rfl
theorem gt_int {i j : Int} : cmpV .gt (.int i) (.int j) = some (decide (j < i)) := rfl
theorem ge_int {i j : Int} : cmpV .ge (.int i) (.int j) = some (decide (j ≤ i)) := rfl
theorem eq_nil {n : Nat} {xs : List D} (hn : n ≤ 60) (h : tr n (.tup xs) = true) : cmpV .eq (.tup xs) (.tup []) = some xs.isEmpty := by
  have h1 := tr_sh60 hn h
  have h2 : sh 60 (.tup []) = true := rfl
  simp only [cmpV, eqOk, h1, h2, Bool.and_self, if_pos, eqD]
  cases xs <;> rfl
theorem isInt_of {x : D} (h : pl x = true) : isTys x [.int] = some (match x with
    | .int _ => true
    | _ => false) := by
  cases x <;> first | rfl | (cases h; done)
theorem isBool_of {x : D} (h : pl x = true) : isTys x [.bool] = some false := by
  cases x <;> first | rfl | (cases h; done)
theorem in_SG {s : Nat} : cmpV .isin (.str s) (.tup [.str 1937075312, .str 495891409261, .str 495622908276, .str 1953719666]) = some (decide (s ∈ SG)) := by
  have := in_tt (s := s) SG
  simpa [tt, SG] using this
theorem in_PL {s : Nat} : cmpV .isin (.str s) (.tup [.str 1702195828, .str 435728179558]) = some (decide (s ∈ PL)) := by
  have := in_tt (s := s) PL
  simpa [tt, PL] using this
theorem in_CM {s : Nat} : cmpV .isin (.str s) (.tup [.str 1701667187, .str 111512004619893, .str 1936942444, .str 1953722221]) = some (decide (s ∈ CM)) := by
  have := in_tt (s := s) CM
  simpa [tt, CM] using this
theorem in_AL {s : Nat} : cmpV .isin (.str s) (.tup [.str 7630702, .str 1701670771, .str 1751343461, .str 26213, .str 26209, .str 26469, .str 26465]) = some (decide (s ∈ AL)) := by
  have := in_tt (s := s) AL
  simpa [tt, AL] using this
theorem in_JO {s : Nat} : cmpV .isin (.str s) (.tup [.str 6581857, .str 29295]) = some (decide (s ∈ JO)) := by
  have := in_tt (s := s) JO
  simpa [tt, JO] using this
theorem min_99 {a b : Int} : (if a + b < 99 then a + b else 99) = min 99 (a + b) := by omega
theorem kinds (s : Nat) : s = 29545 ∨ s = 26223 ∨ (s ≠ 29545 ∧ s ≠ 26223 ∧ s ∈ SG) ∨ (s ≠ 29545 ∧ s ≠ 26223 ∧ s ∉ SG) := by
  by_cases h1 : s = 29545
  · exact .inl h1
  · by_cases h2 : s = 26223
    · exact .inr (.inl h2)
    · by_cases h3 : s ∈ SG
      · exact .inr (.inr (.inl ⟨h1, h2, h3⟩))
      · exact .inr (.inr (.inr ⟨h1, h2, h3⟩))
theorem is_SG : ¬ (29545 ∈ SG) := by decide
theorem of_SG : ¬ (26223 ∈ SG) := by decide
theorem c_un : ∀ (n : Nat) (v : D) (k : Nat) (m : Mem), n ≤ 60 → tr n v = true → callF fsL glL (k + n + 1) 16 [v] m = .ok (.d (.int (un n v))) m
  | n, .tup [], k, m, hn, h => by cases n <;> rfl
  | n, .tup (x :: xs), k, m, hn, h => by
    have px : pl x = true := by
      obtain ⟨j, _, _, hx⟩ := tr_tup h
      exact tr_pl (hx x (by simp))
    cases x with
    | str s =>
        have e1 := eq_nil hn h
        obtain ⟨j, rfl, hl, hx⟩ := tr_tup h
        match xs, hx, e1 with
        | [], hx, e1 =>
          rw [call_eq (k := k + (j + 1)) (fi := b16) rfl rfl]
          rcases kinds s with rfl | rfl | ⟨h1, h2, h3⟩ | ⟨h1, h2, h3⟩ <;>
            simp [b16, q_var, q_con, q_glb, q_bin, q_not, q_and, q_or, q_cmp, q_chn, q_ite, q_call, q_bi, q_isi, q_idx, q_slc, q_tup, q_lst, q_lc1, q_seq, q_tru, q_tand, q_tor, q_tnot, q_tyes, q_nil, q_cons, q_lnil, q_lcons, q_rnil, q_rcons, q_asg, q_asgT, q_par, q_ret, q_if, q_for, q_frz, q_snil, q_scons, kB2.eq_1, kB1.eq_1, kC2.eq_1, kC1.eq_1, kN2.eq_1, kN1.eq_1, kCall.eq_1, kBi.eq_1, kIs.eq_1, kX2.eq_1, kX1.eq_1, kS3.eq_1, kS2.eq_1, kS1.eq_1, kTup.eq_1, kLst.eq_1, kL1.eq_1, kSq.eq_1, kTru.eq_1, kTNot.eq_1, kCons.eq_1, kLk.eq_1, kConsR.eq_1, kAt.eq_1, kPar.eq_1, kFor.eq_1, kNot.eq_1, kAnd.eq_1, kAnd.eq_2, kOr.eq_1, kOr.eq_2, kN3.eq_1, kN3.eq_2, kIte.eq_1, kIte.eq_2, kTAnd.eq_1, kTAnd.eq_2, kTOr.eq_1, kTOr.eq_2, kArg.eq_1, kArg.eq_2, kRs.eq_1, kRs.eq_2, kAs.eq_1, kAs.eq_2, kRet.eq_1, kRet.eq_2, kIf.eq_1, kIf.eq_2, kThen.eq_1, kThen.eq_2, kO_s, kD_s, kBl_s, kTb_s, kIt_s, kEn_s, kVar_d, kVar_o, l_d, f_d, fin_ret, truth, okLen, LINE, r_ok, r_okS, r_of, l_o, l_b, o_l, its_l, its_t, q_set, kSe1.eq_1, kSe2.eq_1, kSe3.eq_1, q_retV, kRv_s, isTys, isTy, e1, ix0, eq_str, eq_int, in_SG, biV, un, is_SG, of_SG, *]
        | [x], hx, e1 =>
          have tx := hx x (by simp)
          have e2 := isInt_of (tr_pl tx)
          have e3 := isBool_of (tr_pl tx)
          by_cases h1 : s = 29545
          · subst h1
            rw [call_eq (k := k + (j + 1)) (fi := b16) rfl rfl]
            cases x with
            | int i =>
              by_cases h4 : 0 ≤ i <;> by_cases h5 : i ≤ 9 <;> simp [b16, q_var, q_con, q_glb, q_bin, q_not, q_and, q_or, q_cmp, q_chn, q_ite, q_call, q_bi, q_isi, q_idx, q_slc, q_tup, q_lst, q_lc1, q_seq, q_tru, q_tand, q_tor, q_tnot, q_tyes, q_nil, q_cons, q_lnil, q_lcons, q_rnil, q_rcons, q_asg, q_asgT, q_par, q_ret, q_if, q_for, q_frz, q_snil, q_scons, kB2.eq_1, kB1.eq_1, kC2.eq_1, kC1.eq_1, kN2.eq_1, kN1.eq_1, kCall.eq_1, kBi.eq_1, kIs.eq_1, kX2.eq_1, kX1.eq_1, kS3.eq_1, kS2.eq_1, kS1.eq_1, kTup.eq_1, kLst.eq_1, kL1.eq_1, kSq.eq_1, kTru.eq_1, kTNot.eq_1, kCons.eq_1, kLk.eq_1, kConsR.eq_1, kAt.eq_1, kPar.eq_1, kFor.eq_1, kNot.eq_1, kAnd.eq_1, kAnd.eq_2, kOr.eq_1, kOr.eq_2, kN3.eq_1, kN3.eq_2, kIte.eq_1, kIte.eq_2, kTAnd.eq_1, kTAnd.eq_2, kTOr.eq_1, kTOr.eq_2, kArg.eq_1, kArg.eq_2, kRs.eq_1, kRs.eq_2, kAs.eq_1, kAs.eq_2, kRet.eq_1, kRet.eq_2, kIf.eq_1, kIf.eq_2, kThen.eq_1, kThen.eq_2, kO_s, kD_s, kBl_s, kTb_s, kIt_s, kEn_s, kVar_d, kVar_o, l_d, f_d, fin_ret, truth, okLen, LINE, r_ok, r_okS, r_of, l_o, l_b, o_l, its_l, its_t, q_set, kSe1.eq_1, kSe2.eq_1, kSe3.eq_1, q_retV, kRv_s, isTys, isTy, e1, ix0, ix1, eq_str, eq_int, biV, un, wh, le_int, h4, h5]
            | _ => first | (cases (tr_pl tx); done) | simp [b16, q_var, q_con, q_glb, q_bin, q_not, q_and, q_or, q_cmp, q_chn, q_ite, q_call, q_bi, q_isi, q_idx, q_slc, q_tup, q_lst, q_lc1, q_seq, q_tru, q_tand, q_tor, q_tnot, q_tyes, q_nil, q_cons, q_lnil, q_lcons, q_rnil, q_rcons, q_asg, q_asgT, q_par, q_ret, q_if, q_for, q_frz, q_snil, q_scons, kB2.eq_1, kB1.eq_1, kC2.eq_1, kC1.eq_1, kN2.eq_1, kN1.eq_1, kCall.eq_1, kBi.eq_1, kIs.eq_1, kX2.eq_1, kX1.eq_1, kS3.eq_1, kS2.eq_1, kS1.eq_1, kTup.eq_1, kLst.eq_1, kL1.eq_1, kSq.eq_1, kTru.eq_1, kTNot.eq_1, kCons.eq_1, kLk.eq_1, kConsR.eq_1, kAt.eq_1, kPar.eq_1, kFor.eq_1, kNot.eq_1, kAnd.eq_1, kAnd.eq_2, kOr.eq_1, kOr.eq_2, kN3.eq_1, kN3.eq_2, kIte.eq_1, kIte.eq_2, kTAnd.eq_1, kTAnd.eq_2, kTOr.eq_1, kTOr.eq_2, kArg.eq_1, kArg.eq_2, kRs.eq_1, kRs.eq_2, kAs.eq_1, kAs.eq_2, kRet.eq_1, kRet.eq_2, kIf.eq_1, kIf.eq_2, kThen.eq_1, kThen.eq_2, kO_s, kD_s, kBl_s, kTb_s, kIt_s, kEn_s, kVar_d, kVar_o, l_d, f_d, fin_ret, truth, okLen, LINE, r_ok, r_okS, r_of, l_o, l_b, o_l, its_l, its_t, q_set, kSe1.eq_1, kSe2.eq_1, kSe3.eq_1, q_retV, kRv_s, isTys, isTy, e1, ix0, ix1, eq_str, eq_int, biV, un, wh]
          · by_cases h2 : s = 26223
            · subst h2
              cases x with
              | str n =>
                have hs : n ∈ STR := by
                  cases j <;> simpa [tr] using tx
                simp only [STR, List.mem_cons, List.not_mem_nil, or_false] at hs
                rcases hs with rfl | rfl | rfl | rfl | rfl | rfl | rfl | rfl | rfl | rfl | rfl | rfl | rfl | rfl | rfl | rfl | rfl | rfl | rfl | rfl | rfl | rfl | rfl | rfl | rfl | rfl | rfl | rfl | rfl | rfl | rfl | rfl | rfl | rfl | rfl <;> rfl
              | _ => first | (cases (tr_pl tx); done) | (rw [call_eq (k := k + (j + 1)) (fi := b16) rfl rfl]; simp [b16, q_var, q_con, q_glb, q_bin, q_not, q_and, q_or, q_cmp, q_chn, q_ite, q_call, q_bi, q_isi, q_idx, q_slc, q_tup, q_lst, q_lc1, q_seq, q_tru, q_tand, q_tor, q_tnot, q_tyes, q_nil, q_cons, q_lnil, q_lcons, q_rnil, q_rcons, q_asg, q_asgT, q_par, q_ret, q_if, q_for, q_frz, q_snil, q_scons, kB2.eq_1, kB1.eq_1, kC2.eq_1, kC1.eq_1, kN2.eq_1, kN1.eq_1, kCall.eq_1, kBi.eq_1, kIs.eq_1, kX2.eq_1, kX1.eq_1, kS3.eq_1, kS2.eq_1, kS1.eq_1, kTup.eq_1, kLst.eq_1, kL1.eq_1, kSq.eq_1, kTru.eq_1, kTNot.eq_1, kCons.eq_1, kLk.eq_1, kConsR.eq_1, kAt.eq_1, kPar.eq_1, kFor.eq_1, kNot.eq_1, kAnd.eq_1, kAnd.eq_2, kOr.eq_1, kOr.eq_2, kN3.eq_1, kN3.eq_2, kIte.eq_1, kIte.eq_2, kTAnd.eq_1, kTAnd.eq_2, kTOr.eq_1, kTOr.eq_2, kArg.eq_1, kArg.eq_2, kRs.eq_1, kRs.eq_2, kAs.eq_1, kAs.eq_2, kRet.eq_1, kRet.eq_2, kIf.eq_1, kIf.eq_2, kThen.eq_1, kThen.eq_2, kO_s, kD_s, kBl_s, kTb_s, kIt_s, kEn_s, kVar_d, kVar_o, l_d, f_d, fin_ret, truth, okLen, LINE, r_ok, r_okS, r_of, l_o, l_b, o_l, its_l, its_t, q_set, kSe1.eq_1, kSe2.eq_1, kSe3.eq_1, q_retV, kRv_s, isTys, isTy, e1, ix0, ix1, eq_str, eq_int, biV, un, nm, asgT, frzAt])
            · rw [call_eq (k := k + (j + 1)) (fi := b16) rfl rfl]
              by_cases h3 : s ∈ SG <;> simp [b16, q_var, q_con, q_glb, q_bin, q_not, q_and, q_or, q_cmp, q_chn, q_ite, q_call, q_bi, q_isi, q_idx, q_slc, q_tup, q_lst, q_lc1, q_seq, q_tru, q_tand, q_tor, q_tnot, q_tyes, q_nil, q_cons, q_lnil, q_lcons, q_rnil, q_rcons, q_asg, q_asgT, q_par, q_ret, q_if, q_for, q_frz, q_snil, q_scons, kB2.eq_1, kB1.eq_1, kC2.eq_1, kC1.eq_1, kN2.eq_1, kN1.eq_1, kCall.eq_1, kBi.eq_1, kIs.eq_1, kX2.eq_1, kX1.eq_1, kS3.eq_1, kS2.eq_1, kS1.eq_1, kTup.eq_1, kLst.eq_1, kL1.eq_1, kSq.eq_1, kTru.eq_1, kTNot.eq_1, kCons.eq_1, kLk.eq_1, kConsR.eq_1, kAt.eq_1, kPar.eq_1, kFor.eq_1, kNot.eq_1, kAnd.eq_1, kAnd.eq_2, kOr.eq_1, kOr.eq_2, kN3.eq_1, kN3.eq_2, kIte.eq_1, kIte.eq_2, kTAnd.eq_1, kTAnd.eq_2, kTOr.eq_1, kTOr.eq_2, kArg.eq_1, kArg.eq_2, kRs.eq_1, kRs.eq_2, kAs.eq_1, kAs.eq_2, kRet.eq_1, kRet.eq_2, kIf.eq_1, kIf.eq_2, kThen.eq_1, kThen.eq_2, kO_s, kD_s, kBl_s, kTb_s, kIt_s, kEn_s, kVar_d, kVar_o, l_d, f_d, fin_ret, truth, okLen, LINE, r_ok, r_okS, r_of, l_o, l_b, o_l, its_l, its_t, q_set, kSe1.eq_1, kSe2.eq_1, kSe3.eq_1, q_retV, kRv_s, isTys, isTy, e1, ix0, eq_str, eq_int, in_SG, biV, un, h1, h2, h3]
        | [x, y], hx, e1 =>
          have t1 := hx x (by simp)
          have t2 := hx y (by simp)
          have c1 := c_un j x k m (by omega) t1
          have c2 := c_un j y k m (by omega) t2
          rw [call_eq (k := k + (j + 1)) (fi := b16) rfl rfl]
          rw [show k + j + 1 = k + (j + 1) from rfl] at c1 c2
          by_cases h3 : s ∈ SG
          · have h1 : ¬ s = 29545 := by rintro rfl; revert h3; decide
            have h2 : ¬ s = 26223 := by rintro rfl; revert h3; decide
            simp [b16, q_var, q_con, q_glb, q_bin, q_not, q_and, q_or, q_cmp, q_chn, q_ite, q_call, q_bi, q_isi, q_idx, q_slc, q_tup, q_lst, q_lc1, q_seq, q_tru, q_tand, q_tor, q_tnot, q_tyes, q_nil, q_cons, q_lnil, q_lcons, q_rnil, q_rcons, q_asg, q_asgT, q_par, q_ret, q_if, q_for, q_frz, q_snil, q_scons, kB2.eq_1, kB1.eq_1, kC2.eq_1, kC1.eq_1, kN2.eq_1, kN1.eq_1, kCall.eq_1, kBi.eq_1, kIs.eq_1, kX2.eq_1, kX1.eq_1, kS3.eq_1, kS2.eq_1, kS1.eq_1, kTup.eq_1, kLst.eq_1, kL1.eq_1, kSq.eq_1, kTru.eq_1, kTNot.eq_1, kCons.eq_1, kLk.eq_1, kConsR.eq_1, kAt.eq_1, kPar.eq_1, kFor.eq_1, kNot.eq_1, kAnd.eq_1, kAnd.eq_2, kOr.eq_1, kOr.eq_2, kN3.eq_1, kN3.eq_2, kIte.eq_1, kIte.eq_2, kTAnd.eq_1, kTAnd.eq_2, kTOr.eq_1, kTOr.eq_2, kArg.eq_1, kArg.eq_2, kRs.eq_1, kRs.eq_2, kAs.eq_1, kAs.eq_2, kRet.eq_1, kRet.eq_2, kIf.eq_1, kIf.eq_2, kThen.eq_1, kThen.eq_2, kO_s, kD_s, kBl_s, kTb_s, kIt_s, kEn_s, kVar_d, kVar_o, l_d, f_d, fin_ret, truth, okLen, LINE, r_ok, r_okS, r_of, l_o, l_b, o_l, its_l, its_t, q_set, kSe1.eq_1, kSe2.eq_1, kSe3.eq_1, q_retV, kRv_s, isTys, isTy, e1, ix0, ix1, ix2, eq_str, eq_int, in_SG, biV, binV, un, h1, h2, h3, c1, c2, min_99]
          · rcases kinds s with rfl | rfl | ⟨h1, h2, h3⟩ | ⟨h1, h2, h3⟩ <;>
              simp [b16, q_var, q_con, q_glb, q_bin, q_not, q_and, q_or, q_cmp, q_chn, q_ite, q_call, q_bi, q_isi, q_idx, q_slc, q_tup, q_lst, q_lc1, q_seq, q_tru, q_tand, q_tor, q_tnot, q_tyes, q_nil, q_cons, q_lnil, q_lcons, q_rnil, q_rcons, q_asg, q_asgT, q_par, q_ret, q_if, q_for, q_frz, q_snil, q_scons, kB2.eq_1, kB1.eq_1, kC2.eq_1, kC1.eq_1, kN2.eq_1, kN1.eq_1, kCall.eq_1, kBi.eq_1, kIs.eq_1, kX2.eq_1, kX1.eq_1, kS3.eq_1, kS2.eq_1, kS1.eq_1, kTup.eq_1, kLst.eq_1, kL1.eq_1, kSq.eq_1, kTru.eq_1, kTNot.eq_1, kCons.eq_1, kLk.eq_1, kConsR.eq_1, kAt.eq_1, kPar.eq_1, kFor.eq_1, kNot.eq_1, kAnd.eq_1, kAnd.eq_2, kOr.eq_1, kOr.eq_2, kN3.eq_1, kN3.eq_2, kIte.eq_1, kIte.eq_2, kTAnd.eq_1, kTAnd.eq_2, kTOr.eq_1, kTOr.eq_2, kArg.eq_1, kArg.eq_2, kRs.eq_1, kRs.eq_2, kAs.eq_1, kAs.eq_2, kRet.eq_1, kRet.eq_2, kIf.eq_1, kIf.eq_2, kThen.eq_1, kThen.eq_2, kO_s, kD_s, kBl_s, kTb_s, kIt_s, kEn_s, kVar_d, kVar_o, l_d, f_d, fin_ret, truth, okLen, LINE, r_ok, r_okS, r_of, l_o, l_b, o_l, its_l, its_t, q_set, kSe1.eq_1, kSe2.eq_1, kSe3.eq_1, q_retV, kRv_s, isTys, isTy, e1, ix0, eq_str, eq_int, in_SG, biV, un, is_SG, of_SG, *]
        | x :: y :: z :: xs, hx, e1 =>
          have l2 : ¬ ((xs.length : Int) + 1 + 1 + 1 + 1 = 2) := by omega
          have l3 : ¬ ((xs.length : Int) + 1 + 1 + 1 + 1 = 3) := by omega
          rw [call_eq (k := k + (j + 1)) (fi := b16) rfl rfl]
          rcases kinds s with rfl | rfl | ⟨h1, h2, h3⟩ | ⟨h1, h2, h3⟩ <;>
            simp [b16, q_var, q_con, q_glb, q_bin, q_not, q_and, q_or, q_cmp, q_chn, q_ite, q_call, q_bi, q_isi, q_idx, q_slc, q_tup, q_lst, q_lc1, q_seq, q_tru, q_tand, q_tor, q_tnot, q_tyes, q_nil, q_cons, q_lnil, q_lcons, q_rnil, q_rcons, q_asg, q_asgT, q_par, q_ret, q_if, q_for, q_frz, q_snil, q_scons, kB2.eq_1, kB1.eq_1, kC2.eq_1, kC1.eq_1, kN2.eq_1, kN1.eq_1, kCall.eq_1, kBi.eq_1, kIs.eq_1, kX2.eq_1, kX1.eq_1, kS3.eq_1, kS2.eq_1, kS1.eq_1, kTup.eq_1, kLst.eq_1, kL1.eq_1, kSq.eq_1, kTru.eq_1, kTNot.eq_1, kCons.eq_1, kLk.eq_1, kConsR.eq_1, kAt.eq_1, kPar.eq_1, kFor.eq_1, kNot.eq_1, kAnd.eq_1, kAnd.eq_2, kOr.eq_1, kOr.eq_2, kN3.eq_1, kN3.eq_2, kIte.eq_1, kIte.eq_2, kTAnd.eq_1, kTAnd.eq_2, kTOr.eq_1, kTOr.eq_2, kArg.eq_1, kArg.eq_2, kRs.eq_1, kRs.eq_2, kAs.eq_1, kAs.eq_2, kRet.eq_1, kRet.eq_2, kIf.eq_1, kIf.eq_2, kThen.eq_1, kThen.eq_2, kO_s, kD_s, kBl_s, kTb_s, kIt_s, kEn_s, kVar_d, kVar_o, l_d, f_d, fin_ret, truth, okLen, LINE, r_ok, r_okS, r_of, l_o, l_b, o_l, its_l, its_t, q_set, kSe1.eq_1, kSe2.eq_1, kSe3.eq_1, q_retV, kRv_s, isTys, isTy, e1, ix0, eq_str, eq_int, in_SG, biV, un, is_SG, of_SG, *, l2, l3]
    | _ =>
      have e1 := eq_nil hn h
      obtain ⟨j, rfl, hl, hx⟩ := tr_tup h
      rw [call_eq (k := k + (j + 1)) (fi := b16) rfl rfl]
      first | (cases px; done) | simp [b16, q_var, q_con, q_glb, q_bin, q_not, q_and, q_or, q_cmp, q_chn, q_ite, q_call, q_bi, q_isi, q_idx, q_slc, q_tup, q_lst, q_lc1, q_seq, q_tru, q_tand, q_tor, q_tnot, q_tyes, q_nil, q_cons, q_lnil, q_lcons, q_rnil, q_rcons, q_asg, q_asgT, q_par, q_ret, q_if, q_for, q_frz, q_snil, q_scons, kB2.eq_1, kB1.eq_1, kC2.eq_1, kC1.eq_1, kN2.eq_1, kN1.eq_1, kCall.eq_1, kBi.eq_1, kIs.eq_1, kX2.eq_1, kX1.eq_1, kS3.eq_1, kS2.eq_1, kS1.eq_1, kTup.eq_1, kLst.eq_1, kL1.eq_1, kSq.eq_1, kTru.eq_1, kTNot.eq_1, kCons.eq_1, kLk.eq_1, kConsR.eq_1, kAt.eq_1, kPar.eq_1, kFor.eq_1, kNot.eq_1, kAnd.eq_1, kAnd.eq_2, kOr.eq_1, kOr.eq_2, kN3.eq_1, kN3.eq_2, kIte.eq_1, kIte.eq_2, kTAnd.eq_1, kTAnd.eq_2, kTOr.eq_1, kTOr.eq_2, kArg.eq_1, kArg.eq_2, kRs.eq_1, kRs.eq_2, kAs.eq_1, kAs.eq_2, kRet.eq_1, kRet.eq_2, kIf.eq_1, kIf.eq_2, kThen.eq_1, kThen.eq_2, kO_s, kD_s, kBl_s, kTb_s, kIt_s, kEn_s, kVar_d, kVar_o, l_d, f_d, fin_ret, truth, okLen, LINE, r_ok, r_okS, r_of, l_o, l_b, o_l, its_l, its_t, q_set, kSe1.eq_1, kSe2.eq_1, kSe3.eq_1, q_retV, kRv_s, isTys, isTy, e1, ix0, biV, un]
  | n, .non, k, m, hn, h => by cases n <;> rfl
  | n, .int _, k, m, hn, h => by cases n <;> rfl
  | n, .str _, k, m, hn, h => by cases n <;> rfl
  | n, .lst _, k, m, hn, h => by cases n <;> rfl
  | n, .bl _, k, m, hn, h => by cases (tr_pl h)
  | n, .ref _, k, m, hn, h => by cases (tr_pl h)
  | n, .fn _, k, m, hn, h => by cases (tr_pl h)
  | n, .ty _, k, m, hn, h => by cases (tr_pl h)
  | n, .dct _ _, k, m, hn, h => by cases (tr_pl h)
  | n, .set _, k, m, hn, h => by cases (tr_pl h)
end K47

set_option Elab.async false
set_option linter.all false
set_option maxRecDepth 100000
set_option maxHeartbeats 4000000
namespace K47
open Gx
theorem un_stable : ∀ {n n' : Nat} {v : D}, tr n v = true → n ≤ n' → un n' v = un n v
  | n, 0, v, _, h => by
    have : n = 0 := by omega
    rw [this]
  | 0, n' + 1, v, h, _ => by
    cases v with
    | tup xs => simp [tr] at h
    | _ => rfl
  | n + 1, n' + 1, v, h, hn => by
    simp only [un]
    split
    · rfl
    · rename_i s x y
      obtain ⟨j, e, _, hx⟩ := tr_tup h
      cases e
      rw [un_stable (hx x (by simp)) (Nat.le_of_succ_le_succ hn), un_stable (hx y (by simp)) (Nat.le_of_succ_le_succ hn)]
    · rfl
def U (v : D) : Int := un 60 v
theorem un_pos : ∀ (n : Nat) (v : D), 1 ≤ un n v ∧ un n v ≤ 99
  | 0, v => by simp [un]
  | n + 1, v => by
    simp only [un]
    split
    · split
      · split <;> omega
      · split
        · split <;> omega
        · omega
    · rename_i s x y
      have h1 := un_pos n x
      have h2 := un_pos n y
      split <;> omega
    · omega
def S (L : List D) : Int := (L.map fun v => U v - 1).sum
theorem S_nonneg : ∀ L : List D, 0 ≤ S L
  | [] => by simp [S]
  | v :: L => by
    have h1 := S_nonneg L
    have h2 := un_pos 60 v
    simp only [S, List.map_cons, List.sum_cons, U] at h1 ⊢
    omega
theorem S_app (L M : List D) : S (L ++ M) = S L + S M := by simp [S]
theorem ne_nilL {L : List D} (h : shs 59 L = true) : cmpV .ne (.lst L) (.lst []) = some (!L.isEmpty) := by
  have h1 : sh 60 (.lst L) = true := by simpa [sh] using h
  have h2 : sh 60 (.lst []) = true := rfl
  simp only [cmpV, eqOk, h1, h2, Bool.and_self, if_pos, eqD]
  cases L <;> rfl
theorem trs_sh59 {n : Nat} {L : List D} (hn : n ≤ 59) (h : ∀ x ∈ L, tr n x = true) : shs 59 L = true := trs_sh (trs_mono hn (trs_all.mpr h))
theorem ixL0 {x : D} {xs : List D} {m : Mem} : idxV (.lst (x :: xs)) (.int 0) m = some x := by
  simp [idxV, ixAt] <;> omega
/-- a head that does not fit counts 99 -/
theorem fh_no {n : Nat} {v : D} (h : fh v = false) : un (n + 1) v = 99 := by
  simp only [un]
  split
  · rename_i s x
    simp only [fh] at h
    split
    · rename_i e
      subst e
      rw [if_pos rfl] at h
      rw [h]
      rfl
    · rename_i e
      rw [if_neg e] at h
      split
      · rename_i e2
        subst e2
        simp at h
        rw [h]
        rfl
      · rfl
  · rename_i s x y
    simp only [fh] at h
    rw [if_neg (by simpa using h)]
  · rfl
theorem fh_yes {v : D} (h : fh v = true) : (∃ s x, v = .tup [.str s, x] ∧ s ∉ SG ∧ ∀ n, un (n + 1) v = 1) ∨ (∃ s x y, v = .tup [.str s, x, y] ∧ s ∈ SG ∧ ∀ n, un (n + 1) v = min 99 (un n x + un n y)) := by
  unfold fh at h
  split at h
  · rename_i s x
    left
    refine ⟨s, x, rfl, ?_, fun n => ?_⟩
    · split at h
      · rename_i e; subst e; decide
      · simp at h
        rw [h.1]; decide
    · simp only [un]
      split at h
      · rename_i e; rw [if_pos e, h]; rfl
      · rename_i e
        simp at h
        rw [if_neg e, if_pos h.1, h.2]; rfl
  · rename_i s x y
    right
    refine ⟨s, x, y, rfl, by simpa using h, fun n => ?_⟩
    simp only [un]
    rw [if_pos (by simpa using h)]
  · cases h
def tgt (L : List D) (s : Int) : Bool := decide (s + S L < 5)
theorem in_g3 {s : Nat} : cmpV .isin (.str s) (tt SG) = some (decide (s ∈ SG)) := by
  rw [in_tt]
  simp
theorem bin_lst {L M : List D} (h : (L ++ M).length ≤ 16777216) : binV .add (.lst L) (.lst M) = some (.own (.lst (L ++ M))) := by
  have : okLen (L ++ M) = true := Nat.ble_eq_true_of_le h
  simp only [binV, this, if_pos]
theorem bin_add {i j : Int} : binV .add (.int i) (.int j) = some (.d (.int (i + j))) := rfl
theorem slc_lst {x : D} {L : List D} : slcV (.lst (x :: L)) (.int 1) .non = some (.own (.lst L)) := by
  simp only [slcV, D.part, cut1]
def W6 (n : Nat) (v : D) (b : Bool) (m : Mem) (i : Nat) (e : Env) (m' : Mem) : Prop :=
  ∃ L s p, e = [some (.d v), some (.own (.lst L)), some (.d (.int s)), p] ∧ m' = m ∧ (∀ x ∈ L, tr n x = true) ∧ 0 ≤ s ∧ s < 5 ∧ tgt L s = b ∧ (p = none ∨ ∃ y, p = some (.d y)) ∧ 3 * (5 - s) + L.length ≤ i ∧ i ≤ 1000
theorem c_ex {n k : Nat} {v : D} {m : Mem} (hn : n ≤ 50) (h : tr n v = true) : callF fsL glL (k + 4) 6 [v] m = .ok (.d (.bl (decide (U v ≤ 5)))) m := by
  suffices z : (callF fsL glL (k + 4) 6 [v] m).Sat (fun r m' => r = .d (.bl (decide (U v ≤ 5))) ∧ m' = m) by
    obtain ⟨r, m', e, rfl, rfl⟩ := z
    exact e
  refine sat_call (k := k + 3) (fi := b6) rfl rfl ?_
  have tg : tgt [v] 0 = decide (U v ≤ 5) := by
    simp only [tgt, S, List.map_cons, List.map_nil, List.sum_cons, List.sum_nil]
    congr 1
    apply propext
    omega
  simp only [b6]
  refine sat_cons (M := fun e m' => e = [some (.d v), none, none, none] ∧ m' = m) (by simp [q_frz, frzAt]; exact .nx ⟨rfl, rfl⟩) fun e m' he => ?_
  obtain ⟨rfl, rfl⟩ := he
  refine sat_cons (M := W6 n v (decide (U v ≤ 5)) m' 20) ?_ fun e m1 he => ?_
  · simp [q_var, q_con, q_glb, q_bin, q_not, q_and, q_or, q_cmp, q_chn, q_ite, q_call, q_bi, q_isi, q_idx, q_slc, q_tup, q_lst, q_lc1, q_seq, q_tru, q_tand, q_tor, q_tnot, q_tyes, q_nil, q_cons, q_lnil, q_lcons, q_rnil, q_rcons, q_asg, q_asgT, q_par, q_ret, q_if, q_for, q_frz, q_snil, q_scons, kB2.eq_1, kB1.eq_1, kC2.eq_1, kC1.eq_1, kN2.eq_1, kN1.eq_1, kCall.eq_1, kBi.eq_1, kIs.eq_1, kX2.eq_1, kX1.eq_1, kS3.eq_1, kS2.eq_1, kS1.eq_1, kTup.eq_1, kLst.eq_1, kL1.eq_1, kSq.eq_1, kTru.eq_1, kTNot.eq_1, kCons.eq_1, kLk.eq_1, kConsR.eq_1, kAt.eq_1, kPar.eq_1, kFor.eq_1, kNot.eq_1, kAnd.eq_1, kAnd.eq_2, kOr.eq_1, kOr.eq_2, kN3.eq_1, kN3.eq_2, kIte.eq_1, kIte.eq_2, kTAnd.eq_1, kTAnd.eq_2, kTOr.eq_1, kTOr.eq_2, kArg.eq_1, kArg.eq_2, kRs.eq_1, kRs.eq_2, kAs.eq_1, kAs.eq_2, kRet.eq_1, kRet.eq_2, kIf.eq_1, kIf.eq_2, kThen.eq_1, kThen.eq_2, kO_s, kD_s, kBl_s, kTb_s, kIt_s, kEn_s, kVar_d, kVar_o, l_d, f_d, fin_ret, truth, okLen, LINE, r_ok, r_okS, r_of, l_o, l_b, o_l, its_l, its_t, q_set, kSe1.eq_1, kSe2.eq_1, kSe3.eq_1, q_retV, kRv_s, setAll]
    exact .nx ⟨[v], 0, none, rfl, rfl, by simpa using h, by omega, by omega, tg, .inl rfl, by simp, by omega⟩
  refine sat_cons (M := fun e m1 => decide (U v ≤ 5) = true ∧ m1 = m') ?_ fun e m1 he => ?_
  · simp only [evS]
    refine sat_whl (W6 n v (decide (U v ≤ 5)) m') (fun i e m1 w => ?_) FUEL 20 e m1 (by decide) he
    obtain ⟨L, s, p, rfl, rfl, hL, h0, h5, ht, hp, hi, hi2⟩ := w
    have en := ne_nilL (trs_sh59 (n := n) (by omega) hL)
    refine ⟨!L.isEmpty, m1, by simp [q_var, q_con, q_glb, q_bin, q_not, q_and, q_or, q_cmp, q_chn, q_ite, q_call, q_bi, q_isi, q_idx, q_slc, q_tup, q_lst, q_lc1, q_seq, q_tru, q_tand, q_tor, q_tnot, q_tyes, q_nil, q_cons, q_lnil, q_lcons, q_rnil, q_rcons, q_asg, q_asgT, q_par, q_ret, q_if, q_for, q_frz, q_snil, q_scons, kB2.eq_1, kB1.eq_1, kC2.eq_1, kC1.eq_1, kN2.eq_1, kN1.eq_1, kCall.eq_1, kBi.eq_1, kIs.eq_1, kX2.eq_1, kX1.eq_1, kS3.eq_1, kS2.eq_1, kS1.eq_1, kTup.eq_1, kLst.eq_1, kL1.eq_1, kSq.eq_1, kTru.eq_1, kTNot.eq_1, kCons.eq_1, kLk.eq_1, kConsR.eq_1, kAt.eq_1, kPar.eq_1, kFor.eq_1, kNot.eq_1, kAnd.eq_1, kAnd.eq_2, kOr.eq_1, kOr.eq_2, kN3.eq_1, kN3.eq_2, kIte.eq_1, kIte.eq_2, kTAnd.eq_1, kTAnd.eq_2, kTOr.eq_1, kTOr.eq_2, kArg.eq_1, kArg.eq_2, kRs.eq_1, kRs.eq_2, kAs.eq_1, kAs.eq_2, kRet.eq_1, kRet.eq_2, kIf.eq_1, kIf.eq_2, kThen.eq_1, kThen.eq_2, kO_s, kD_s, kBl_s, kTb_s, kIt_s, kEn_s, kVar_d, kVar_o, l_d, f_d, fin_ret, truth, okLen, LINE, r_ok, r_okS, r_of, l_o, l_b, o_l, its_l, its_t, q_set, kSe1.eq_1, kSe2.eq_1, kSe3.eq_1, q_retV, kRv_s, l_b, o_l, l_o, en], fun zz => ⟨?_, rfl⟩, fun zz => ?_⟩
    · cases L with
      | nil =>
        rw [← ht]
        simpa [tgt, S] using h5
      | cons x L => cases zz
    · cases L with
      | nil => cases zz
      | cons x L =>
        have tx := hL x (by simp)
        have tL : ∀ y ∈ L, tr n y = true := fun y hy => hL y (by simp [hy])
        have cf := c_fh (k := k) (m := m1) tx
        have sn := S_nonneg L
        have up := un_pos 60 x
        have sc : S (x :: L) = (U x - 1) + S L := by simp [S]
        simp only [List.length_cons] at hi
        obtain ⟨j, rfl⟩ : ∃ j, i = j + 1 := ⟨i - 1, by omega⟩
        refine ⟨j, rfl, ?_⟩
        have ff : ∀ (u : Option Rv), frzAt [some (.d v), some (.own (.lst L)), some (.d (.int s)), some (.d x)] 3 = [some (.d v), some (.own (.lst L)), some (.d (.int s)), some (.d x)] := fun _ => by simp [frzAt]
        cases hf : fh x with
        | false =>
          rw [hf] at cf
          have eu : U x = 99 := fh_no hf
          simp [q_var, q_con, q_glb, q_bin, q_not, q_and, q_or, q_cmp, q_chn, q_ite, q_call, q_bi, q_isi, q_idx, q_slc, q_tup, q_lst, q_lc1, q_seq, q_tru, q_tand, q_tor, q_tnot, q_tyes, q_nil, q_cons, q_lnil, q_lcons, q_rnil, q_rcons, q_asg, q_asgT, q_par, q_ret, q_if, q_for, q_frz, q_snil, q_scons, kB2.eq_1, kB1.eq_1, kC2.eq_1, kC1.eq_1, kN2.eq_1, kN1.eq_1, kCall.eq_1, kBi.eq_1, kIs.eq_1, kX2.eq_1, kX1.eq_1, kS3.eq_1, kS2.eq_1, kS1.eq_1, kTup.eq_1, kLst.eq_1, kL1.eq_1, kSq.eq_1, kTru.eq_1, kTNot.eq_1, kCons.eq_1, kLk.eq_1, kConsR.eq_1, kAt.eq_1, kPar.eq_1, kFor.eq_1, kNot.eq_1, kAnd.eq_1, kAnd.eq_2, kOr.eq_1, kOr.eq_2, kN3.eq_1, kN3.eq_2, kIte.eq_1, kIte.eq_2, kTAnd.eq_1, kTAnd.eq_2, kTOr.eq_1, kTOr.eq_2, kArg.eq_1, kArg.eq_2, kRs.eq_1, kRs.eq_2, kAs.eq_1, kAs.eq_2, kRet.eq_1, kRet.eq_2, kIf.eq_1, kIf.eq_2, kThen.eq_1, kThen.eq_2, kO_s, kD_s, kBl_s, kTb_s, kIt_s, kEn_s, kVar_d, kVar_o, l_d, f_d, fin_ret, truth, okLen, LINE, r_ok, r_okS, r_of, l_o, l_b, o_l, its_l, its_t, q_set, kSe1.eq_1, kSe2.eq_1, kSe3.eq_1, q_retV, kRv_s, l_b, o_l, l_o, ixL0, slc_lst, setAll, frzAt, cf]
          refine .ret ⟨?_, rfl⟩
          rw [← ht, tgt, sc, eu]
          congr 2
          symm
          apply decide_eq_false
          omega
        | true =>
          rw [hf] at cf
          rcases fh_yes hf with ⟨t, y, rfl, hs, hu⟩ | ⟨t, y, z, rfl, hs, hu⟩
          · have eu : U (.tup [.str t, y]) = 1 := hu 59
            have ci := c_inE (s := t) (xs := [y]) (k := k + 2) (m := m1)
            have hs' : (SG.contains t) = false := by simpa using hs
            rw [hs'] at ci
            have l5 : ¬ (5 ≤ s) := by omega
            have lb : (L ++ []).length ≤ 16777216 := by simp; omega
            simp [q_var, q_con, q_glb, q_bin, q_not, q_and, q_or, q_cmp, q_chn, q_ite, q_call, q_bi, q_isi, q_idx, q_slc, q_tup, q_lst, q_lc1, q_seq, q_tru, q_tand, q_tor, q_tnot, q_tyes, q_nil, q_cons, q_lnil, q_lcons, q_rnil, q_rcons, q_asg, q_asgT, q_par, q_ret, q_if, q_for, q_frz, q_snil, q_scons, kB2.eq_1, kB1.eq_1, kC2.eq_1, kC1.eq_1, kN2.eq_1, kN1.eq_1, kCall.eq_1, kBi.eq_1, kIs.eq_1, kX2.eq_1, kX1.eq_1, kS3.eq_1, kS2.eq_1, kS1.eq_1, kTup.eq_1, kLst.eq_1, kL1.eq_1, kSq.eq_1, kTru.eq_1, kTNot.eq_1, kCons.eq_1, kLk.eq_1, kConsR.eq_1, kAt.eq_1, kPar.eq_1, kFor.eq_1, kNot.eq_1, kAnd.eq_1, kAnd.eq_2, kOr.eq_1, kOr.eq_2, kN3.eq_1, kN3.eq_2, kIte.eq_1, kIte.eq_2, kTAnd.eq_1, kTAnd.eq_2, kTOr.eq_1, kTOr.eq_2, kArg.eq_1, kArg.eq_2, kRs.eq_1, kRs.eq_2, kAs.eq_1, kAs.eq_2, kRet.eq_1, kRet.eq_2, kIf.eq_1, kIf.eq_2, kThen.eq_1, kThen.eq_2, kO_s, kD_s, kBl_s, kTb_s, kIt_s, kEn_s, kVar_d, kVar_o, l_d, f_d, fin_ret, truth, okLen, LINE, r_ok, r_okS, r_of, l_o, l_b, o_l, its_l, its_t, q_set, kSe1.eq_1, kSe2.eq_1, kSe3.eq_1, q_retV, kRv_s, l_b, o_l, l_o, ixL0, ix0, slc_lst, setAll, frzAt, cf, in_g3, hs, biV, bin_add, g2, g3, ge_int, l5, ci, bin_lst lb]
            refine .nx ⟨L, s, some (.d (.tup [.str t, y])), rfl, rfl, tL, h0, h5, ?_, .inr ⟨_, rfl⟩, by omega, by omega⟩
            rw [← ht, tgt, tgt, sc, eu]
            congr 2
            omega
          · have tn := tr_tup tx
            obtain ⟨n', rfl, _, hx⟩ := tn
            have ty := hx y (by simp)
            have tz := hx z (by simp)
            have eu : U (.tup [.str t, y, z]) = min 99 (U y + U z) := by
              have e1 := hu 59
              rw [← un_stable (n := 59) (n' := 60) (tr_mono (by omega) ty) (by omega), ← un_stable (n := 59) (n' := 60) (tr_mono (by omega) tz) (by omega)] at e1
              exact e1
            have ci := c_inE (s := t) (xs := [y, z]) (k := k + 2) (m := m1)
            have hs' : (SG.contains t) = true := by simpa using hs
            rw [hs'] at ci
            have py := un_pos 60 y
            have pz := un_pos 60 z
            by_cases l5 : 5 ≤ s + 1
            · simp [q_var, q_con, q_glb, q_bin, q_not, q_and, q_or, q_cmp, q_chn, q_ite, q_call, q_bi, q_isi, q_idx, q_slc, q_tup, q_lst, q_lc1, q_seq, q_tru, q_tand, q_tor, q_tnot, q_tyes, q_nil, q_cons, q_lnil, q_lcons, q_rnil, q_rcons, q_asg, q_asgT, q_par, q_ret, q_if, q_for, q_frz, q_snil, q_scons, kB2.eq_1, kB1.eq_1, kC2.eq_1, kC1.eq_1, kN2.eq_1, kN1.eq_1, kCall.eq_1, kBi.eq_1, kIs.eq_1, kX2.eq_1, kX1.eq_1, kS3.eq_1, kS2.eq_1, kS1.eq_1, kTup.eq_1, kLst.eq_1, kL1.eq_1, kSq.eq_1, kTru.eq_1, kTNot.eq_1, kCons.eq_1, kLk.eq_1, kConsR.eq_1, kAt.eq_1, kPar.eq_1, kFor.eq_1, kNot.eq_1, kAnd.eq_1, kAnd.eq_2, kOr.eq_1, kOr.eq_2, kN3.eq_1, kN3.eq_2, kIte.eq_1, kIte.eq_2, kTAnd.eq_1, kTAnd.eq_2, kTOr.eq_1, kTOr.eq_2, kArg.eq_1, kArg.eq_2, kRs.eq_1, kRs.eq_2, kAs.eq_1, kAs.eq_2, kRet.eq_1, kRet.eq_2, kIf.eq_1, kIf.eq_2, kThen.eq_1, kThen.eq_2, kO_s, kD_s, kBl_s, kTb_s, kIt_s, kEn_s, kVar_d, kVar_o, l_d, f_d, fin_ret, truth, okLen, LINE, r_ok, r_okS, r_of, l_o, l_b, o_l, its_l, its_t, q_set, kSe1.eq_1, kSe2.eq_1, kSe3.eq_1, q_retV, kRv_s, l_b, o_l, l_o, ixL0, ix0, slc_lst, setAll, frzAt, cf, in_g3, hs, biV, bin_add, g2, g3, ge_int, l5]
              refine .ret ⟨?_, rfl⟩
              rw [← ht, tgt, sc, eu]
              congr 2
              symm
              apply decide_eq_false
              simp only [U] at py pz ⊢
              omega
            · have lb : (L ++ [y, z]).length ≤ 16777216 := by simp; omega
              simp [q_var, q_con, q_glb, q_bin, q_not, q_and, q_or, q_cmp, q_chn, q_ite, q_call, q_bi, q_isi, q_idx, q_slc, q_tup, q_lst, q_lc1, q_seq, q_tru, q_tand, q_tor, q_tnot, q_tyes, q_nil, q_cons, q_lnil, q_lcons, q_rnil, q_rcons, q_asg, q_asgT, q_par, q_ret, q_if, q_for, q_frz, q_snil, q_scons, kB2.eq_1, kB1.eq_1, kC2.eq_1, kC1.eq_1, kN2.eq_1, kN1.eq_1, kCall.eq_1, kBi.eq_1, kIs.eq_1, kX2.eq_1, kX1.eq_1, kS3.eq_1, kS2.eq_1, kS1.eq_1, kTup.eq_1, kLst.eq_1, kL1.eq_1, kSq.eq_1, kTru.eq_1, kTNot.eq_1, kCons.eq_1, kLk.eq_1, kConsR.eq_1, kAt.eq_1, kPar.eq_1, kFor.eq_1, kNot.eq_1, kAnd.eq_1, kAnd.eq_2, kOr.eq_1, kOr.eq_2, kN3.eq_1, kN3.eq_2, kIte.eq_1, kIte.eq_2, kTAnd.eq_1, kTAnd.eq_2, kTOr.eq_1, kTOr.eq_2, kArg.eq_1, kArg.eq_2, kRs.eq_1, kRs.eq_2, kAs.eq_1, kAs.eq_2, kRet.eq_1, kRet.eq_2, kIf.eq_1, kIf.eq_2, kThen.eq_1, kThen.eq_2, kO_s, kD_s, kBl_s, kTb_s, kIt_s, kEn_s, kVar_d, kVar_o, l_d, f_d, fin_ret, truth, okLen, LINE, r_ok, r_okS, r_of, l_o, l_b, o_l, its_l, its_t, q_set, kSe1.eq_1, kSe2.eq_1, kSe3.eq_1, q_retV, kRv_s, l_b, o_l, l_o, ixL0, ix0, slc_lst, setAll, frzAt, cf, in_g3, hs, biV, bin_add, g2, g3, ge_int, l5, ci, bin_lst lb]
              have sy : S [y, z] = (U y - 1) + (U z - 1) := by simp [S]
              refine .nx ⟨L ++ [y, z], s + 1, some (.d (.tup [.str t, y, z])), rfl, rfl, fun w hw => ?_, by omega, by omega, ?_, .inr ⟨_, rfl⟩, by simp; omega, by omega⟩
              · rcases List.mem_append.mp hw with q | q
                · exact tL w q
                · simp at q
                  rcases q with rfl | rfl
                  · exact tr_mono (by omega) ty
                  · exact tr_mono (by omega) tz
              · rw [← ht, tgt, tgt, S_app, sc, sy, eu]
                congr 1
                apply propext
                simp only [U] at py pz ⊢
                omega
  · obtain ⟨ht, rfl⟩ := he
    simp [q_var, q_con, q_glb, q_bin, q_not, q_and, q_or, q_cmp, q_chn, q_ite, q_call, q_bi, q_isi, q_idx, q_slc, q_tup, q_lst, q_lc1, q_seq, q_tru, q_tand, q_tor, q_tnot, q_tyes, q_nil, q_cons, q_lnil, q_lcons, q_rnil, q_rcons, q_asg, q_asgT, q_par, q_ret, q_if, q_for, q_frz, q_snil, q_scons, kB2.eq_1, kB1.eq_1, kC2.eq_1, kC1.eq_1, kN2.eq_1, kN1.eq_1, kCall.eq_1, kBi.eq_1, kIs.eq_1, kX2.eq_1, kX1.eq_1, kS3.eq_1, kS2.eq_1, kS1.eq_1, kTup.eq_1, kLst.eq_1, kL1.eq_1, kSq.eq_1, kTru.eq_1, kTNot.eq_1, kCons.eq_1, kLk.eq_1, kConsR.eq_1, kAt.eq_1, kPar.eq_1, kFor.eq_1, kNot.eq_1, kAnd.eq_1, kAnd.eq_2, kOr.eq_1, kOr.eq_2, kN3.eq_1, kN3.eq_2, kIte.eq_1, kIte.eq_2, kTAnd.eq_1, kTAnd.eq_2, kTOr.eq_1, kTOr.eq_2, kArg.eq_1, kArg.eq_2, kRs.eq_1, kRs.eq_2, kAs.eq_1, kAs.eq_2, kRet.eq_1, kRet.eq_2, kIf.eq_1, kIf.eq_2, kThen.eq_1, kThen.eq_2, kO_s, kD_s, kBl_s, kTb_s, kIt_s, kEn_s, kVar_d, kVar_o, l_d, f_d, fin_ret, truth, okLen, LINE, r_ok, r_okS, r_of, l_o, l_b, o_l, its_l, its_t, q_set, kSe1.eq_1, kSe2.eq_1, kSe3.eq_1, q_retV, kRv_s]
    refine .ret ⟨?_, rfl⟩
    rw [ht]
end K47

set_option Elab.async false
set_option linter.all false
set_option maxRecDepth 100000
set_option maxHeartbeats 4000000
namespace K47
open Gx
theorem U_of {n : Nat} {v : D} (hn : n ≤ 60) (h : tr n v = true) : un n v = U v := (un_stable h hn).symm
def leaf (v : D) : Bool := match v with
  | .tup [.str s] => decide (s ∈ PL)
  | .tup [.str s, x, y] => decide (s ∈ CM) && (decide (U x ≤ 5) && decide (U y ≤ 5))
  | _ => false
def kid (v : D) : D := match v with
  | .tup [.str s] => if s ∈ PL then .tup [] else .non
  | .tup [.str s, x] => if s ∈ AL then .tup [x] else .non
  | .tup [.str s, x, y] => if s ∈ JO then .tup [x, y] else if s ∈ CM ∧ U x ≤ 5 ∧ U y ≤ 5 then .tup [] else .non
  | _ => .non
def lk : Nat → D → Int × Int
  | 0, _ => (99, 99)
  | n + 1, v => match v with
    | .tup [.str s] => if s ∈ PL then (1, 1) else (99, 99)
    | .tup [.str s, x] => if s ∈ AL then ((lk n x).1, 1 + (lk n x).2) else (99, 99)
    | .tup [.str s, x, y] => if s ∈ JO then ((lk n x).1 + (lk n y).1, 1 + max (lk n x).2 (lk n y).2) else if s ∈ CM ∧ U x ≤ 5 ∧ U y ≤ 5 then (1, 1) else (99, 99)
    | _ => (99, 99)
theorem c_leaf {n k : Nat} {v : D} {m : Mem} (hn : n ≤ 50) (h : tr n v = true) : callF fsL glL (k + 5) 7 [v] m = .ok (.d (.bl (leaf v))) m := by
  have e1 : callF fsL glL (k + 4) 2 [v, tt PL, .int 1] m = .ok (.d (.bl (hw v PL 1))) m := c_hw (k := k + 2) (n := 1) h (by decide)
  have e2 : callF fsL glL (k + 4) 2 [v, tt CM, .int 3] m = .ok (.d (.bl (hw v CM 3))) m := c_hw (k := k + 2) (n := 3) h (by decide)
  rw [call_eq (k := k + 4) (fi := b7) rfl rfl]
  by_cases h1 : hw v PL 1 = true
  · rw [h1] at e1
    have hl : leaf v = true := by
      unfold hw at h1
      split at h1
      · rename_i s xs
        simp at h1
        obtain ⟨rfl, h2⟩ := h1
        simp [leaf, h2]
      · cases h1
    simp [b7, q_var, q_con, q_glb, q_bin, q_not, q_and, q_or, q_cmp, q_chn, q_ite, q_call, q_bi, q_isi, q_idx, q_slc, q_tup, q_lst, q_lc1, q_seq, q_tru, q_tand, q_tor, q_tnot, q_tyes, q_nil, q_cons, q_lnil, q_lcons, q_rnil, q_rcons, q_asg, q_asgT, q_par, q_ret, q_if, q_for, q_frz, q_snil, q_scons, kB2.eq_1, kB1.eq_1, kC2.eq_1, kC1.eq_1, kN2.eq_1, kN1.eq_1, kCall.eq_1, kBi.eq_1, kIs.eq_1, kX2.eq_1, kX1.eq_1, kS3.eq_1, kS2.eq_1, kS1.eq_1, kTup.eq_1, kLst.eq_1, kL1.eq_1, kSq.eq_1, kTru.eq_1, kTNot.eq_1, kCons.eq_1, kLk.eq_1, kConsR.eq_1, kAt.eq_1, kPar.eq_1, kFor.eq_1, kNot.eq_1, kAnd.eq_1, kAnd.eq_2, kOr.eq_1, kOr.eq_2, kN3.eq_1, kN3.eq_2, kIte.eq_1, kIte.eq_2, kTAnd.eq_1, kTAnd.eq_2, kTOr.eq_1, kTOr.eq_2, kArg.eq_1, kArg.eq_2, kRs.eq_1, kRs.eq_2, kAs.eq_1, kAs.eq_2, kRet.eq_1, kRet.eq_2, kIf.eq_1, kIf.eq_2, kThen.eq_1, kThen.eq_2, kO_s, kD_s, kBl_s, kTb_s, kIt_s, kEn_s, kVar_d, kVar_o, l_d, f_d, fin_ret, truth, okLen, LINE, r_ok, r_okS, r_of, l_o, l_b, o_l, its_l, its_t, q_set, kSe1.eq_1, kSe2.eq_1, kSe3.eq_1, q_retV, kRv_s, frzAt, e1, g4, hl]
  · rw [Bool.not_eq_true] at h1
    rw [h1] at e1
    by_cases h2 : hw v CM 3 = true
    · rw [h2] at e2
      obtain ⟨s, x, y, rfl, hs⟩ : ∃ s x y, v = .tup [.str s, x, y] ∧ s ∈ CM := by
        unfold hw at h2
        split at h2
        · rename_i s xs
          simp at h2
          obtain ⟨h3, h4⟩ := h2
          match xs, h3 with
          | [x, y], _ => exact ⟨s, x, y, rfl, h4⟩
        · cases h2
      obtain ⟨j, rfl, _, hx⟩ := tr_tup h
      have c1 := c_ex (k := k) (m := m) (by omega) (hx x (by simp))
      have c2 := c_ex (k := k) (m := m) (by omega) (hx y (by simp))
      by_cases u1 : U x ≤ 5 <;> simp [b7, q_var, q_con, q_glb, q_bin, q_not, q_and, q_or, q_cmp, q_chn, q_ite, q_call, q_bi, q_isi, q_idx, q_slc, q_tup, q_lst, q_lc1, q_seq, q_tru, q_tand, q_tor, q_tnot, q_tyes, q_nil, q_cons, q_lnil, q_lcons, q_rnil, q_rcons, q_asg, q_asgT, q_par, q_ret, q_if, q_for, q_frz, q_snil, q_scons, kB2.eq_1, kB1.eq_1, kC2.eq_1, kC1.eq_1, kN2.eq_1, kN1.eq_1, kCall.eq_1, kBi.eq_1, kIs.eq_1, kX2.eq_1, kX1.eq_1, kS3.eq_1, kS2.eq_1, kS1.eq_1, kTup.eq_1, kLst.eq_1, kL1.eq_1, kSq.eq_1, kTru.eq_1, kTNot.eq_1, kCons.eq_1, kLk.eq_1, kConsR.eq_1, kAt.eq_1, kPar.eq_1, kFor.eq_1, kNot.eq_1, kAnd.eq_1, kAnd.eq_2, kOr.eq_1, kOr.eq_2, kN3.eq_1, kN3.eq_2, kIte.eq_1, kIte.eq_2, kTAnd.eq_1, kTAnd.eq_2, kTOr.eq_1, kTOr.eq_2, kArg.eq_1, kArg.eq_2, kRs.eq_1, kRs.eq_2, kAs.eq_1, kAs.eq_2, kRet.eq_1, kRet.eq_2, kIf.eq_1, kIf.eq_2, kThen.eq_1, kThen.eq_2, kO_s, kD_s, kBl_s, kTb_s, kIt_s, kEn_s, kVar_d, kVar_o, l_d, f_d, fin_ret, truth, okLen, LINE, r_ok, r_okS, r_of, l_o, l_b, o_l, its_l, its_t, q_set, kSe1.eq_1, kSe2.eq_1, kSe3.eq_1, q_retV, kRv_s, frzAt, e1, e2, g4, g5, ix1, ix2, c1, c2, leaf, hs, u1]
    · rw [Bool.not_eq_true] at h2
      rw [h2] at e2
      have hl : leaf v = false := by
        unfold leaf
        split
        · rename_i s
          simpa [hw] using h1
        · rename_i s x y
          have : ¬ s ∈ CM := by simpa [hw] using h2
          simp [this]
        · rfl
      simp [b7, q_var, q_con, q_glb, q_bin, q_not, q_and, q_or, q_cmp, q_chn, q_ite, q_call, q_bi, q_isi, q_idx, q_slc, q_tup, q_lst, q_lc1, q_seq, q_tru, q_tand, q_tor, q_tnot, q_tyes, q_nil, q_cons, q_lnil, q_lcons, q_rnil, q_rcons, q_asg, q_asgT, q_par, q_ret, q_if, q_for, q_frz, q_snil, q_scons, kB2.eq_1, kB1.eq_1, kC2.eq_1, kC1.eq_1, kN2.eq_1, kN1.eq_1, kCall.eq_1, kBi.eq_1, kIs.eq_1, kX2.eq_1, kX1.eq_1, kS3.eq_1, kS2.eq_1, kS1.eq_1, kTup.eq_1, kLst.eq_1, kL1.eq_1, kSq.eq_1, kTru.eq_1, kTNot.eq_1, kCons.eq_1, kLk.eq_1, kConsR.eq_1, kAt.eq_1, kPar.eq_1, kFor.eq_1, kNot.eq_1, kAnd.eq_1, kAnd.eq_2, kOr.eq_1, kOr.eq_2, kN3.eq_1, kN3.eq_2, kIte.eq_1, kIte.eq_2, kTAnd.eq_1, kTAnd.eq_2, kTOr.eq_1, kTOr.eq_2, kArg.eq_1, kArg.eq_2, kRs.eq_1, kRs.eq_2, kAs.eq_1, kAs.eq_2, kRet.eq_1, kRet.eq_2, kIf.eq_1, kIf.eq_2, kThen.eq_1, kThen.eq_2, kO_s, kD_s, kBl_s, kTb_s, kIt_s, kEn_s, kVar_d, kVar_o, l_d, f_d, fin_ret, truth, okLen, LINE, r_ok, r_okS, r_of, l_o, l_b, o_l, its_l, its_t, q_set, kSe1.eq_1, kSe2.eq_1, kSe3.eq_1, q_retV, kRv_s, frzAt, e1, e2, g4, g5, hl]
theorem c_kid {n k : Nat} {v : D} {m : Mem} (hn : n ≤ 50) (h : tr n v = true) : callF fsL glL (k + 6) 8 [v] m = .ok (.d (kid v)) m := by
  have e1 : callF fsL glL (k + 5) 2 [v, tt AL, .int 2] m = .ok (.d (.bl (hw v AL 2))) m := c_hw (k := k + 3) (n := 2) h (by decide)
  have e2 : callF fsL glL (k + 5) 2 [v, tt JO, .int 3] m = .ok (.d (.bl (hw v JO 3))) m := c_hw (k := k + 3) (n := 3) h (by decide)
  have e3 := c_leaf (k := k) (m := m) hn h
  rw [call_eq (k := k + 5) (fi := b8) rfl rfl]
  by_cases h1 : hw v AL 2 = true
  · rw [h1] at e1
    obtain ⟨s, x, rfl, hs⟩ : ∃ s x, v = .tup [.str s, x] ∧ s ∈ AL := by
      unfold hw at h1
      split at h1
      · rename_i s xs
        simp at h1
        obtain ⟨h3, h4⟩ := h1
        match xs, h3 with
        | [x], _ => exact ⟨s, x, rfl, h4⟩
      · cases h1
    simp [b8, q_var, q_con, q_glb, q_bin, q_not, q_and, q_or, q_cmp, q_chn, q_ite, q_call, q_bi, q_isi, q_idx, q_slc, q_tup, q_lst, q_lc1, q_seq, q_tru, q_tand, q_tor, q_tnot, q_tyes, q_nil, q_cons, q_lnil, q_lcons, q_rnil, q_rcons, q_asg, q_asgT, q_par, q_ret, q_if, q_for, q_frz, q_snil, q_scons, kB2.eq_1, kB1.eq_1, kC2.eq_1, kC1.eq_1, kN2.eq_1, kN1.eq_1, kCall.eq_1, kBi.eq_1, kIs.eq_1, kX2.eq_1, kX1.eq_1, kS3.eq_1, kS2.eq_1, kS1.eq_1, kTup.eq_1, kLst.eq_1, kL1.eq_1, kSq.eq_1, kTru.eq_1, kTNot.eq_1, kCons.eq_1, kLk.eq_1, kConsR.eq_1, kAt.eq_1, kPar.eq_1, kFor.eq_1, kNot.eq_1, kAnd.eq_1, kAnd.eq_2, kOr.eq_1, kOr.eq_2, kN3.eq_1, kN3.eq_2, kIte.eq_1, kIte.eq_2, kTAnd.eq_1, kTAnd.eq_2, kTOr.eq_1, kTOr.eq_2, kArg.eq_1, kArg.eq_2, kRs.eq_1, kRs.eq_2, kAs.eq_1, kAs.eq_2, kRet.eq_1, kRet.eq_2, kIf.eq_1, kIf.eq_2, kThen.eq_1, kThen.eq_2, kO_s, kD_s, kBl_s, kTb_s, kIt_s, kEn_s, kVar_d, kVar_o, l_d, f_d, fin_ret, truth, okLen, LINE, r_ok, r_okS, r_of, l_o, l_b, o_l, its_l, its_t, q_set, kSe1.eq_1, kSe2.eq_1, kSe3.eq_1, q_retV, kRv_s, frzAt, e1, g8, slcV, D.part, cut1, kid, hs]
  · rw [Bool.not_eq_true] at h1
    rw [h1] at e1
    by_cases h2 : hw v JO 3 = true
    · rw [h2] at e2
      obtain ⟨s, x, y, rfl, hs⟩ : ∃ s x y, v = .tup [.str s, x, y] ∧ s ∈ JO := by
        unfold hw at h2
        split at h2
        · rename_i s xs
          simp at h2
          obtain ⟨h3, h4⟩ := h2
          match xs, h3 with
          | [x, y], _ => exact ⟨s, x, y, rfl, h4⟩
        · cases h2
      simp [b8, q_var, q_con, q_glb, q_bin, q_not, q_and, q_or, q_cmp, q_chn, q_ite, q_call, q_bi, q_isi, q_idx, q_slc, q_tup, q_lst, q_lc1, q_seq, q_tru, q_tand, q_tor, q_tnot, q_tyes, q_nil, q_cons, q_lnil, q_lcons, q_rnil, q_rcons, q_asg, q_asgT, q_par, q_ret, q_if, q_for, q_frz, q_snil, q_scons, kB2.eq_1, kB1.eq_1, kC2.eq_1, kC1.eq_1, kN2.eq_1, kN1.eq_1, kCall.eq_1, kBi.eq_1, kIs.eq_1, kX2.eq_1, kX1.eq_1, kS3.eq_1, kS2.eq_1, kS1.eq_1, kTup.eq_1, kLst.eq_1, kL1.eq_1, kSq.eq_1, kTru.eq_1, kTNot.eq_1, kCons.eq_1, kLk.eq_1, kConsR.eq_1, kAt.eq_1, kPar.eq_1, kFor.eq_1, kNot.eq_1, kAnd.eq_1, kAnd.eq_2, kOr.eq_1, kOr.eq_2, kN3.eq_1, kN3.eq_2, kIte.eq_1, kIte.eq_2, kTAnd.eq_1, kTAnd.eq_2, kTOr.eq_1, kTOr.eq_2, kArg.eq_1, kArg.eq_2, kRs.eq_1, kRs.eq_2, kAs.eq_1, kAs.eq_2, kRet.eq_1, kRet.eq_2, kIf.eq_1, kIf.eq_2, kThen.eq_1, kThen.eq_2, kO_s, kD_s, kBl_s, kTb_s, kIt_s, kEn_s, kVar_d, kVar_o, l_d, f_d, fin_ret, truth, okLen, LINE, r_ok, r_okS, r_of, l_o, l_b, o_l, its_l, its_t, q_set, kSe1.eq_1, kSe2.eq_1, kSe3.eq_1, q_retV, kRv_s, frzAt, e1, e2, g8, g9, slcV, D.part, cut1, kid, hs]
    · rw [Bool.not_eq_true] at h2
      rw [h2] at e2
      have hk : kid v = if leaf v then .tup [] else .non := by
        unfold kid
        split
        · rename_i s
          simp [leaf]
        · rename_i s x
          have : ¬ s ∈ AL := by simpa [hw] using h1
          simp [leaf, this]
        · rename_i s x y
          have : ¬ s ∈ JO := by simpa [hw] using h2
          simp [leaf, this]
        · rename_i n1 n2 n3
          have : leaf v = false := by
            unfold leaf
            split
            · rename_i s; exact absurd rfl (n1 s)
            · rename_i s x y; exact absurd rfl (n3 s x y)
            · rfl
          rw [this]
          rfl
      rw [hk]
      cases hl : leaf v with
      | false =>
        rw [hl] at e3
        simp [b8, q_var, q_con, q_glb, q_bin, q_not, q_and, q_or, q_cmp, q_chn, q_ite, q_call, q_bi, q_isi, q_idx, q_slc, q_tup, q_lst, q_lc1, q_seq, q_tru, q_tand, q_tor, q_tnot, q_tyes, q_nil, q_cons, q_lnil, q_lcons, q_rnil, q_rcons, q_asg, q_asgT, q_par, q_ret, q_if, q_for, q_frz, q_snil, q_scons, kB2.eq_1, kB1.eq_1, kC2.eq_1, kC1.eq_1, kN2.eq_1, kN1.eq_1, kCall.eq_1, kBi.eq_1, kIs.eq_1, kX2.eq_1, kX1.eq_1, kS3.eq_1, kS2.eq_1, kS1.eq_1, kTup.eq_1, kLst.eq_1, kL1.eq_1, kSq.eq_1, kTru.eq_1, kTNot.eq_1, kCons.eq_1, kLk.eq_1, kConsR.eq_1, kAt.eq_1, kPar.eq_1, kFor.eq_1, kNot.eq_1, kAnd.eq_1, kAnd.eq_2, kOr.eq_1, kOr.eq_2, kN3.eq_1, kN3.eq_2, kIte.eq_1, kIte.eq_2, kTAnd.eq_1, kTAnd.eq_2, kTOr.eq_1, kTOr.eq_2, kArg.eq_1, kArg.eq_2, kRs.eq_1, kRs.eq_2, kAs.eq_1, kAs.eq_2, kRet.eq_1, kRet.eq_2, kIf.eq_1, kIf.eq_2, kThen.eq_1, kThen.eq_2, kO_s, kD_s, kBl_s, kTb_s, kIt_s, kEn_s, kVar_d, kVar_o, l_d, f_d, fin_ret, truth, okLen, LINE, r_ok, r_okS, r_of, l_o, l_b, o_l, its_l, its_t, q_set, kSe1.eq_1, kSe2.eq_1, kSe3.eq_1, q_retV, kRv_s, frzAt, e1, e2, e3, g8, g9]
      | true =>
        rw [hl] at e3
        simp [b8, q_var, q_con, q_glb, q_bin, q_not, q_and, q_or, q_cmp, q_chn, q_ite, q_call, q_bi, q_isi, q_idx, q_slc, q_tup, q_lst, q_lc1, q_seq, q_tru, q_tand, q_tor, q_tnot, q_tyes, q_nil, q_cons, q_lnil, q_lcons, q_rnil, q_rcons, q_asg, q_asgT, q_par, q_ret, q_if, q_for, q_frz, q_snil, q_scons, kB2.eq_1, kB1.eq_1, kC2.eq_1, kC1.eq_1, kN2.eq_1, kN1.eq_1, kCall.eq_1, kBi.eq_1, kIs.eq_1, kX2.eq_1, kX1.eq_1, kS3.eq_1, kS2.eq_1, kS1.eq_1, kTup.eq_1, kLst.eq_1, kL1.eq_1, kSq.eq_1, kTru.eq_1, kTNot.eq_1, kCons.eq_1, kLk.eq_1, kConsR.eq_1, kAt.eq_1, kPar.eq_1, kFor.eq_1, kNot.eq_1, kAnd.eq_1, kAnd.eq_2, kOr.eq_1, kOr.eq_2, kN3.eq_1, kN3.eq_2, kIte.eq_1, kIte.eq_2, kTAnd.eq_1, kTAnd.eq_2, kTOr.eq_1, kTOr.eq_2, kArg.eq_1, kArg.eq_2, kRs.eq_1, kRs.eq_2, kAs.eq_1, kAs.eq_2, kRet.eq_1, kRet.eq_2, kIf.eq_1, kIf.eq_2, kThen.eq_1, kThen.eq_2, kO_s, kD_s, kBl_s, kTb_s, kIt_s, kEn_s, kVar_d, kVar_o, l_d, f_d, fin_ret, truth, okLen, LINE, r_ok, r_okS, r_of, l_o, l_b, o_l, its_l, its_t, q_set, kSe1.eq_1, kSe2.eq_1, kSe3.eq_1, q_retV, kRv_s, frzAt, e1, e2, e3, g8, g9]
end K47

set_option Elab.async false
set_option linter.all false
set_option maxRecDepth 100000
set_option maxHeartbeats 4000000
namespace K47
open Gx
theorem lk_stable : ∀ {n n' : Nat} {v : D}, tr n v = true → n ≤ n' → lk n' v = lk n v
  | n, 0, v, _, h => by
    have : n = 0 := by omega
    rw [this]
  | 0, n' + 1, v, h, _ => by
    cases v with
    | tup xs => simp [tr] at h
    | _ => rfl
  | n + 1, n' + 1, v, h, hn => by
    simp only [lk]
    split
    · rfl
    · rename_i s x
      obtain ⟨j, e, _, hx⟩ := tr_tup h
      cases e
      rw [lk_stable (hx x (by simp)) (Nat.le_of_succ_le_succ hn)]
    · rename_i s x y
      obtain ⟨j, e, _, hx⟩ := tr_tup h
      cases e
      rw [lk_stable (hx x (by simp)) (Nat.le_of_succ_le_succ hn), lk_stable (hx y (by simp)) (Nat.le_of_succ_le_succ hn)]
    · rfl
theorem lk_pos : ∀ (n : Nat) (v : D), 1 ≤ (lk n v).1 ∧ 1 ≤ (lk n v).2
  | 0, v => by simp [lk]
  | n + 1, v => by
    simp only [lk]
    split
    · split <;> simp
    · rename_i s x
      have h1 := lk_pos n x
      split
      · simp only; omega
      · simp
    · rename_i s x y
      have h1 := lk_pos n x
      have h2 := lk_pos n y
      split
      · simp only; omega
      · split <;> simp
    · simp
theorem kinds2 (s : Nat) : (s ∈ PL ∧ s ∉ CM ∧ s ∉ AL ∧ s ∉ JO) ∨ (s ∉ PL ∧ s ∈ CM ∧ s ∉ AL ∧ s ∉ JO) ∨ (s ∉ PL ∧ s ∉ CM ∧ s ∈ AL ∧ s ∉ JO) ∨ (s ∉ PL ∧ s ∉ CM ∧ s ∉ AL ∧ s ∈ JO) ∨ (s ∉ PL ∧ s ∉ CM ∧ s ∉ AL ∧ s ∉ JO) := by
  by_cases h1 : s ∈ PL
  · left
    refine ⟨h1, ?_, ?_, ?_⟩ <;> (simp only [PL, List.mem_cons, List.not_mem_nil, or_false] at h1; rcases h1 with rfl | rfl <;> decide)
  · right
    by_cases h2 : s ∈ CM
    · left
      refine ⟨h1, h2, ?_, ?_⟩ <;> (simp only [CM, List.mem_cons, List.not_mem_nil, or_false] at h2; rcases h2 with rfl | rfl | rfl | rfl <;> decide)
    · right
      by_cases h3 : s ∈ AL
      · left
        refine ⟨h1, h2, h3, ?_⟩
        simp only [AL, List.mem_cons, List.not_mem_nil, or_false] at h3
        rcases h3 with rfl | rfl | rfl | rfl | rfl | rfl | rfl <;> decide
      · right
        by_cases h4 : s ∈ JO
        · exact .inl ⟨h1, h2, h3, h4⟩
        · exact .inr ⟨h1, h2, h3, h4⟩
def two (p : Int × Int) : D := .tup [.int p.1, .int p.2]
theorem max_two {a b : Int} : (if b > a then b else a) = max a b := by omega
theorem c_look : ∀ (n : Nat) (v : D) (k : Nat) (m : Mem), n ≤ 50 → tr n v = true → callF fsL glL (k + n + 2) 17 [v] m = .ok (.d (two (lk n v))) m
  | n, .tup [], k, m, hn, h => by cases n <;> rfl
  | n, .tup (x :: xs), k, m, hn, h => by
    have px : pl x = true := by
      obtain ⟨j, _, _, hx⟩ := tr_tup h
      exact tr_pl (hx x (by simp))
    have e1 := eq_nil (by omega) h
    cases x with
    | str s =>
      obtain ⟨j, rfl, hl, hx⟩ := tr_tup h
      match xs, hx, e1 with
      | [], hx, e1 =>
        rw [call_eq (k := k + (j + 1) + 1) (fi := b17) rfl rfl]
        rcases kinds2 s with ⟨h1, h2, h3, h4⟩ | ⟨h1, h2, h3, h4⟩ | ⟨h1, h2, h3, h4⟩ | ⟨h1, h2, h3, h4⟩ | ⟨h1, h2, h3, h4⟩ <;>
          simp [b17, q_var, q_con, q_glb, q_bin, q_not, q_and, q_or, q_cmp, q_chn, q_ite, q_call, q_bi, q_isi, q_idx, q_slc, q_tup, q_lst, q_lc1, q_seq, q_tru, q_tand, q_tor, q_tnot, q_tyes, q_nil, q_cons, q_lnil, q_lcons, q_rnil, q_rcons, q_asg, q_asgT, q_par, q_ret, q_if, q_for, q_frz, q_snil, q_scons, kB2.eq_1, kB1.eq_1, kC2.eq_1, kC1.eq_1, kN2.eq_1, kN1.eq_1, kCall.eq_1, kBi.eq_1, kIs.eq_1, kX2.eq_1, kX1.eq_1, kS3.eq_1, kS2.eq_1, kS1.eq_1, kTup.eq_1, kLst.eq_1, kL1.eq_1, kSq.eq_1, kTru.eq_1, kTNot.eq_1, kCons.eq_1, kLk.eq_1, kConsR.eq_1, kAt.eq_1, kPar.eq_1, kFor.eq_1, kNot.eq_1, kAnd.eq_1, kAnd.eq_2, kOr.eq_1, kOr.eq_2, kN3.eq_1, kN3.eq_2, kIte.eq_1, kIte.eq_2, kTAnd.eq_1, kTAnd.eq_2, kTOr.eq_1, kTOr.eq_2, kArg.eq_1, kArg.eq_2, kRs.eq_1, kRs.eq_2, kAs.eq_1, kAs.eq_2, kRet.eq_1, kRet.eq_2, kIf.eq_1, kIf.eq_2, kThen.eq_1, kThen.eq_2, kO_s, kD_s, kBl_s, kTb_s, kIt_s, kEn_s, kVar_d, kVar_o, l_d, f_d, fin_ret, truth, okLen, LINE, r_ok, r_okS, r_of, l_o, l_b, o_l, its_l, its_t, q_set, kSe1.eq_1, kSe2.eq_1, kSe3.eq_1, q_retV, kRv_s, isTys, isTy, e1, ix0, eq_int, in_PL, in_CM, in_AL, in_JO, biV, lk, two, h1, h2, h3, h4]
      | [x], hx, e1 =>
        have t1 := hx x (by simp)
        have c1 := c_look j x k m (by omega) t1
        rw [call_eq (k := k + (j + 1) + 1) (fi := b17) rfl rfl]
        rcases kinds2 s with ⟨h1, h2, h3, h4⟩ | ⟨h1, h2, h3, h4⟩ | ⟨h1, h2, h3, h4⟩ | ⟨h1, h2, h3, h4⟩ | ⟨h1, h2, h3, h4⟩
        case inr.inr.inl =>
          rw [show k + j + 2 = k + (j + 1) + 1 by omega] at c1
          simp [b17, q_var, q_con, q_glb, q_bin, q_not, q_and, q_or, q_cmp, q_chn, q_ite, q_call, q_bi, q_isi, q_idx, q_slc, q_tup, q_lst, q_lc1, q_seq, q_tru, q_tand, q_tor, q_tnot, q_tyes, q_nil, q_cons, q_lnil, q_lcons, q_rnil, q_rcons, q_asg, q_asgT, q_par, q_ret, q_if, q_for, q_frz, q_snil, q_scons, kB2.eq_1, kB1.eq_1, kC2.eq_1, kC1.eq_1, kN2.eq_1, kN1.eq_1, kCall.eq_1, kBi.eq_1, kIs.eq_1, kX2.eq_1, kX1.eq_1, kS3.eq_1, kS2.eq_1, kS1.eq_1, kTup.eq_1, kLst.eq_1, kL1.eq_1, kSq.eq_1, kTru.eq_1, kTNot.eq_1, kCons.eq_1, kLk.eq_1, kConsR.eq_1, kAt.eq_1, kPar.eq_1, kFor.eq_1, kNot.eq_1, kAnd.eq_1, kAnd.eq_2, kOr.eq_1, kOr.eq_2, kN3.eq_1, kN3.eq_2, kIte.eq_1, kIte.eq_2, kTAnd.eq_1, kTAnd.eq_2, kTOr.eq_1, kTOr.eq_2, kArg.eq_1, kArg.eq_2, kRs.eq_1, kRs.eq_2, kAs.eq_1, kAs.eq_2, kRet.eq_1, kRet.eq_2, kIf.eq_1, kIf.eq_2, kThen.eq_1, kThen.eq_2, kO_s, kD_s, kBl_s, kTb_s, kIt_s, kEn_s, kVar_d, kVar_o, l_d, f_d, fin_ret, truth, okLen, LINE, r_ok, r_okS, r_of, l_o, l_b, o_l, its_l, its_t, q_set, kSe1.eq_1, kSe2.eq_1, kSe3.eq_1, q_retV, kRv_s, isTys, isTy, e1, ix0, eq_int, in_PL, in_CM, in_AL, in_JO, biV, lk, h1, h2, h3, h4, slcV, D.part, cut1, frzAt, asgT, wip, lcL, elF, D.its, c1, two, ix1, intL, maxL, bin_add]
        all_goals simp [b17, q_var, q_con, q_glb, q_bin, q_not, q_and, q_or, q_cmp, q_chn, q_ite, q_call, q_bi, q_isi, q_idx, q_slc, q_tup, q_lst, q_lc1, q_seq, q_tru, q_tand, q_tor, q_tnot, q_tyes, q_nil, q_cons, q_lnil, q_lcons, q_rnil, q_rcons, q_asg, q_asgT, q_par, q_ret, q_if, q_for, q_frz, q_snil, q_scons, kB2.eq_1, kB1.eq_1, kC2.eq_1, kC1.eq_1, kN2.eq_1, kN1.eq_1, kCall.eq_1, kBi.eq_1, kIs.eq_1, kX2.eq_1, kX1.eq_1, kS3.eq_1, kS2.eq_1, kS1.eq_1, kTup.eq_1, kLst.eq_1, kL1.eq_1, kSq.eq_1, kTru.eq_1, kTNot.eq_1, kCons.eq_1, kLk.eq_1, kConsR.eq_1, kAt.eq_1, kPar.eq_1, kFor.eq_1, kNot.eq_1, kAnd.eq_1, kAnd.eq_2, kOr.eq_1, kOr.eq_2, kN3.eq_1, kN3.eq_2, kIte.eq_1, kIte.eq_2, kTAnd.eq_1, kTAnd.eq_2, kTOr.eq_1, kTOr.eq_2, kArg.eq_1, kArg.eq_2, kRs.eq_1, kRs.eq_2, kAs.eq_1, kAs.eq_2, kRet.eq_1, kRet.eq_2, kIf.eq_1, kIf.eq_2, kThen.eq_1, kThen.eq_2, kO_s, kD_s, kBl_s, kTb_s, kIt_s, kEn_s, kVar_d, kVar_o, l_d, f_d, fin_ret, truth, okLen, LINE, r_ok, r_okS, r_of, l_o, l_b, o_l, its_l, its_t, q_set, kSe1.eq_1, kSe2.eq_1, kSe3.eq_1, q_retV, kRv_s, isTys, isTy, e1, ix0, eq_int, in_PL, in_CM, in_AL, in_JO, biV, lk, two, h1, h2, h3, h4]
      | [x, y], hx, e1 =>
        have t1 := hx x (by simp)
        have t2 := hx y (by simp)
        have c1 := c_look j x k m (by omega) t1
        have c2 := c_look j y k m (by omega) t2
        have d1 := c_un j x (k + 1) m (by omega) t1
        have d2 := c_un j y (k + 1) m (by omega) t2
        rw [U_of (by omega) t1, show k + 1 + j + 1 = k + (j + 1) + 1 by omega] at d1
        rw [U_of (by omega) t2, show k + 1 + j + 1 = k + (j + 1) + 1 by omega] at d2
        rw [show k + j + 2 = k + (j + 1) + 1 by omega] at c1 c2
        rw [call_eq (k := k + (j + 1) + 1) (fi := b17) rfl rfl]
        rcases kinds2 s with ⟨h1, h2, h3, h4⟩ | ⟨h1, h2, h3, h4⟩ | ⟨h1, h2, h3, h4⟩ | ⟨h1, h2, h3, h4⟩ | ⟨h1, h2, h3, h4⟩
        case inr.inl =>
          by_cases u1 : U x ≤ 5 <;> by_cases u2 : U y ≤ 5 <;>
            simp [b17, q_var, q_con, q_glb, q_bin, q_not, q_and, q_or, q_cmp, q_chn, q_ite, q_call, q_bi, q_isi, q_idx, q_slc, q_tup, q_lst, q_lc1, q_seq, q_tru, q_tand, q_tor, q_tnot, q_tyes, q_nil, q_cons, q_lnil, q_lcons, q_rnil, q_rcons, q_asg, q_asgT, q_par, q_ret, q_if, q_for, q_frz, q_snil, q_scons, kB2.eq_1, kB1.eq_1, kC2.eq_1, kC1.eq_1, kN2.eq_1, kN1.eq_1, kCall.eq_1, kBi.eq_1, kIs.eq_1, kX2.eq_1, kX1.eq_1, kS3.eq_1, kS2.eq_1, kS1.eq_1, kTup.eq_1, kLst.eq_1, kL1.eq_1, kSq.eq_1, kTru.eq_1, kTNot.eq_1, kCons.eq_1, kLk.eq_1, kConsR.eq_1, kAt.eq_1, kPar.eq_1, kFor.eq_1, kNot.eq_1, kAnd.eq_1, kAnd.eq_2, kOr.eq_1, kOr.eq_2, kN3.eq_1, kN3.eq_2, kIte.eq_1, kIte.eq_2, kTAnd.eq_1, kTAnd.eq_2, kTOr.eq_1, kTOr.eq_2, kArg.eq_1, kArg.eq_2, kRs.eq_1, kRs.eq_2, kAs.eq_1, kAs.eq_2, kRet.eq_1, kRet.eq_2, kIf.eq_1, kIf.eq_2, kThen.eq_1, kThen.eq_2, kO_s, kD_s, kBl_s, kTb_s, kIt_s, kEn_s, kVar_d, kVar_o, l_d, f_d, fin_ret, truth, okLen, LINE, r_ok, r_okS, r_of, l_o, l_b, o_l, its_l, its_t, q_set, kSe1.eq_1, kSe2.eq_1, kSe3.eq_1, q_retV, kRv_s, isTys, isTy, e1, ix0, ix1, ix2, eq_int, le_int, in_PL, in_CM, in_AL, in_JO, biV, lk, two, h1, h2, h3, h4, d1, d2, u1, u2]
        case inr.inr.inr.inl =>
          simp [b17, q_var, q_con, q_glb, q_bin, q_not, q_and, q_or, q_cmp, q_chn, q_ite, q_call, q_bi, q_isi, q_idx, q_slc, q_tup, q_lst, q_lc1, q_seq, q_tru, q_tand, q_tor, q_tnot, q_tyes, q_nil, q_cons, q_lnil, q_lcons, q_rnil, q_rcons, q_asg, q_asgT, q_par, q_ret, q_if, q_for, q_frz, q_snil, q_scons, kB2.eq_1, kB1.eq_1, kC2.eq_1, kC1.eq_1, kN2.eq_1, kN1.eq_1, kCall.eq_1, kBi.eq_1, kIs.eq_1, kX2.eq_1, kX1.eq_1, kS3.eq_1, kS2.eq_1, kS1.eq_1, kTup.eq_1, kLst.eq_1, kL1.eq_1, kSq.eq_1, kTru.eq_1, kTNot.eq_1, kCons.eq_1, kLk.eq_1, kConsR.eq_1, kAt.eq_1, kPar.eq_1, kFor.eq_1, kNot.eq_1, kAnd.eq_1, kAnd.eq_2, kOr.eq_1, kOr.eq_2, kN3.eq_1, kN3.eq_2, kIte.eq_1, kIte.eq_2, kTAnd.eq_1, kTAnd.eq_2, kTOr.eq_1, kTOr.eq_2, kArg.eq_1, kArg.eq_2, kRs.eq_1, kRs.eq_2, kAs.eq_1, kAs.eq_2, kRet.eq_1, kRet.eq_2, kIf.eq_1, kIf.eq_2, kThen.eq_1, kThen.eq_2, kO_s, kD_s, kBl_s, kTb_s, kIt_s, kEn_s, kVar_d, kVar_o, l_d, f_d, fin_ret, truth, okLen, LINE, r_ok, r_okS, r_of, l_o, l_b, o_l, its_l, its_t, q_set, kSe1.eq_1, kSe2.eq_1, kSe3.eq_1, q_retV, kRv_s, isTys, isTy, e1, ix0, eq_int, in_PL, in_CM, in_AL, in_JO, biV, lk, h1, h2, h3, h4, slcV, D.part, cut1, frzAt, asgT, wip, lcL, elF, D.its, c1, c2, two, ix1, intL, maxL, bin_add, max_two]
        all_goals simp [b17, q_var, q_con, q_glb, q_bin, q_not, q_and, q_or, q_cmp, q_chn, q_ite, q_call, q_bi, q_isi, q_idx, q_slc, q_tup, q_lst, q_lc1, q_seq, q_tru, q_tand, q_tor, q_tnot, q_tyes, q_nil, q_cons, q_lnil, q_lcons, q_rnil, q_rcons, q_asg, q_asgT, q_par, q_ret, q_if, q_for, q_frz, q_snil, q_scons, kB2.eq_1, kB1.eq_1, kC2.eq_1, kC1.eq_1, kN2.eq_1, kN1.eq_1, kCall.eq_1, kBi.eq_1, kIs.eq_1, kX2.eq_1, kX1.eq_1, kS3.eq_1, kS2.eq_1, kS1.eq_1, kTup.eq_1, kLst.eq_1, kL1.eq_1, kSq.eq_1, kTru.eq_1, kTNot.eq_1, kCons.eq_1, kLk.eq_1, kConsR.eq_1, kAt.eq_1, kPar.eq_1, kFor.eq_1, kNot.eq_1, kAnd.eq_1, kAnd.eq_2, kOr.eq_1, kOr.eq_2, kN3.eq_1, kN3.eq_2, kIte.eq_1, kIte.eq_2, kTAnd.eq_1, kTAnd.eq_2, kTOr.eq_1, kTOr.eq_2, kArg.eq_1, kArg.eq_2, kRs.eq_1, kRs.eq_2, kAs.eq_1, kAs.eq_2, kRet.eq_1, kRet.eq_2, kIf.eq_1, kIf.eq_2, kThen.eq_1, kThen.eq_2, kO_s, kD_s, kBl_s, kTb_s, kIt_s, kEn_s, kVar_d, kVar_o, l_d, f_d, fin_ret, truth, okLen, LINE, r_ok, r_okS, r_of, l_o, l_b, o_l, its_l, its_t, q_set, kSe1.eq_1, kSe2.eq_1, kSe3.eq_1, q_retV, kRv_s, isTys, isTy, e1, ix0, eq_int, in_PL, in_CM, in_AL, in_JO, biV, lk, two, h1, h2, h3, h4]
      | x :: y :: z :: xs, hx, e1 =>
        have l1 : ¬ ((xs.length : Int) + 1 + 1 + 1 + 1 = 1) := by omega
        have l2 : ¬ ((xs.length : Int) + 1 + 1 + 1 + 1 = 2) := by omega
        have l3 : ¬ ((xs.length : Int) + 1 + 1 + 1 + 1 = 3) := by omega
        rw [call_eq (k := k + (j + 1) + 1) (fi := b17) rfl rfl]
        rcases kinds2 s with ⟨h1, h2, h3, h4⟩ | ⟨h1, h2, h3, h4⟩ | ⟨h1, h2, h3, h4⟩ | ⟨h1, h2, h3, h4⟩ | ⟨h1, h2, h3, h4⟩ <;>
          simp [b17, q_var, q_con, q_glb, q_bin, q_not, q_and, q_or, q_cmp, q_chn, q_ite, q_call, q_bi, q_isi, q_idx, q_slc, q_tup, q_lst, q_lc1, q_seq, q_tru, q_tand, q_tor, q_tnot, q_tyes, q_nil, q_cons, q_lnil, q_lcons, q_rnil, q_rcons, q_asg, q_asgT, q_par, q_ret, q_if, q_for, q_frz, q_snil, q_scons, kB2.eq_1, kB1.eq_1, kC2.eq_1, kC1.eq_1, kN2.eq_1, kN1.eq_1, kCall.eq_1, kBi.eq_1, kIs.eq_1, kX2.eq_1, kX1.eq_1, kS3.eq_1, kS2.eq_1, kS1.eq_1, kTup.eq_1, kLst.eq_1, kL1.eq_1, kSq.eq_1, kTru.eq_1, kTNot.eq_1, kCons.eq_1, kLk.eq_1, kConsR.eq_1, kAt.eq_1, kPar.eq_1, kFor.eq_1, kNot.eq_1, kAnd.eq_1, kAnd.eq_2, kOr.eq_1, kOr.eq_2, kN3.eq_1, kN3.eq_2, kIte.eq_1, kIte.eq_2, kTAnd.eq_1, kTAnd.eq_2, kTOr.eq_1, kTOr.eq_2, kArg.eq_1, kArg.eq_2, kRs.eq_1, kRs.eq_2, kAs.eq_1, kAs.eq_2, kRet.eq_1, kRet.eq_2, kIf.eq_1, kIf.eq_2, kThen.eq_1, kThen.eq_2, kO_s, kD_s, kBl_s, kTb_s, kIt_s, kEn_s, kVar_d, kVar_o, l_d, f_d, fin_ret, truth, okLen, LINE, r_ok, r_okS, r_of, l_o, l_b, o_l, its_l, its_t, q_set, kSe1.eq_1, kSe2.eq_1, kSe3.eq_1, q_retV, kRv_s, isTys, isTy, e1, ix0, eq_int, in_PL, in_CM, in_AL, in_JO, biV, lk, two, h1, h2, h3, h4, l1, l2, l3]
    | _ =>
      obtain ⟨j, rfl, hl, hx⟩ := tr_tup h
      rw [call_eq (k := k + (j + 1) + 1) (fi := b17) rfl rfl]
      first | (cases px; done) | simp [b17, q_var, q_con, q_glb, q_bin, q_not, q_and, q_or, q_cmp, q_chn, q_ite, q_call, q_bi, q_isi, q_idx, q_slc, q_tup, q_lst, q_lc1, q_seq, q_tru, q_tand, q_tor, q_tnot, q_tyes, q_nil, q_cons, q_lnil, q_lcons, q_rnil, q_rcons, q_asg, q_asgT, q_par, q_ret, q_if, q_for, q_frz, q_snil, q_scons, kB2.eq_1, kB1.eq_1, kC2.eq_1, kC1.eq_1, kN2.eq_1, kN1.eq_1, kCall.eq_1, kBi.eq_1, kIs.eq_1, kX2.eq_1, kX1.eq_1, kS3.eq_1, kS2.eq_1, kS1.eq_1, kTup.eq_1, kLst.eq_1, kL1.eq_1, kSq.eq_1, kTru.eq_1, kTNot.eq_1, kCons.eq_1, kLk.eq_1, kConsR.eq_1, kAt.eq_1, kPar.eq_1, kFor.eq_1, kNot.eq_1, kAnd.eq_1, kAnd.eq_2, kOr.eq_1, kOr.eq_2, kN3.eq_1, kN3.eq_2, kIte.eq_1, kIte.eq_2, kTAnd.eq_1, kTAnd.eq_2, kTOr.eq_1, kTOr.eq_2, kArg.eq_1, kArg.eq_2, kRs.eq_1, kRs.eq_2, kAs.eq_1, kAs.eq_2, kRet.eq_1, kRet.eq_2, kIf.eq_1, kIf.eq_2, kThen.eq_1, kThen.eq_2, kO_s, kD_s, kBl_s, kTb_s, kIt_s, kEn_s, kVar_d, kVar_o, l_d, f_d, fin_ret, truth, okLen, LINE, r_ok, r_okS, r_of, l_o, l_b, o_l, its_l, its_t, q_set, kSe1.eq_1, kSe2.eq_1, kSe3.eq_1, q_retV, kRv_s, isTys, isTy, e1, ix0, biV, lk, two]
  | n, .non, k, m, hn, h => by cases n <;> rfl
  | n, .int _, k, m, hn, h => by cases n <;> rfl
  | n, .str _, k, m, hn, h => by cases n <;> rfl
  | n, .lst _, k, m, hn, h => by cases n <;> rfl
  | n, .bl _, k, m, hn, h => by cases (tr_pl h)
  | n, .ref _, k, m, hn, h => by cases (tr_pl h)
  | n, .fn _, k, m, hn, h => by cases (tr_pl h)
  | n, .ty _, k, m, hn, h => by cases (tr_pl h)
  | n, .dct _ _, k, m, hn, h => by cases (tr_pl h)
  | n, .set _, k, m, hn, h => by cases (tr_pl h)
end K47

set_option Elab.async false
set_option linter.all false
set_option maxRecDepth 100000
set_option maxHeartbeats 4000000
namespace K47
open Gx
def LS (L : List D) : Int := (L.map fun x => (lk 60 x).1).sum
def DM : List D → Int
  | [] => 0
  | x :: L => max (lk 60 x).2 (DM L)
def kids (x : D) : List D := match kid x with
  | .tup xs => xs
  | _ => []
def isN (x : D) : Bool := match x with
  | .non => true
  | _ => false
def isE (x : D) : Bool := match x with
  | .tup [] => true
  | _ => false
theorem kid_lk (p : Nat) {n : Nat} {v : D} (h : tr n v = true) :
    (kid v = .non ∧ lk (p + 1) v = (99, 99)) ∨ (kid v = .tup [] ∧ lk (p + 1) v = (1, 1)) ∨ (∃ y, kid v = .tup [y] ∧ lk (p + 1) v = ((lk p y).1, 1 + (lk p y).2) ∧ tr n y = true) ∨
      (∃ y z, kid v = .tup [y, z] ∧ lk (p + 1) v = ((lk p y).1 + (lk p z).1, 1 + max (lk p y).2 (lk p z).2) ∧ tr n y = true ∧ tr n z = true) := by
  unfold kid
  simp only [lk]
  split
  · split
    · exact .inr (.inl ⟨rfl, rfl⟩)
    · exact .inl ⟨rfl, rfl⟩
  · rename_i s x
    obtain ⟨j, rfl, _, hx⟩ := tr_tup h
    have tx : tr (j + 1) x = true := tr_mono (by omega) (hx x (by simp))
    split
    · exact .inr (.inr (.inl ⟨x, rfl, rfl, tx⟩))
    · exact .inl ⟨rfl, rfl⟩
  · rename_i s x y
    obtain ⟨j, rfl, _, hx⟩ := tr_tup h
    have tx : tr (j + 1) x = true := tr_mono (by omega) (hx x (by simp))
    have ty : tr (j + 1) y = true := tr_mono (by omega) (hx y (by simp))
    split
    · exact .inr (.inr (.inr ⟨x, y, rfl, rfl, tx, ty⟩))
    · split
      · exact .inr (.inl ⟨rfl, rfl⟩)
      · exact .inl ⟨rfl, rfl⟩
  · exact .inl ⟨rfl, rfl⟩
theorem kid_cases {n : Nat} {v : D} (hn : n ≤ 50) (h : tr n v = true) :
    (kid v = .non ∧ lk 60 v = (99, 99)) ∨ (kid v = .tup [] ∧ lk 60 v = (1, 1)) ∨ (∃ y, kid v = .tup [y] ∧ lk 60 v = ((lk 60 y).1, 1 + (lk 60 y).2) ∧ tr n y = true) ∨
      (∃ y z, kid v = .tup [y, z] ∧ lk 60 v = ((lk 60 y).1 + (lk 60 z).1, 1 + max (lk 60 y).2 (lk 60 z).2) ∧ tr n y = true ∧ tr n z = true) := by
  have st : ∀ {y : D}, tr n y = true → lk 59 y = lk 60 y := fun hy => (lk_stable (n := 59) (n' := 60) (tr_mono (by omega) hy) (by omega)).symm
  rcases kid_lk 59 h with ⟨a, b⟩ | ⟨a, b⟩ | ⟨y, a, b, c⟩ | ⟨y, z, a, b, c, d⟩
  · exact .inl ⟨a, b⟩
  · exact .inr (.inl ⟨a, b⟩)
  · exact .inr (.inr (.inl ⟨y, a, by rw [← st c]; exact b, c⟩))
  · exact .inr (.inr (.inr ⟨y, z, a, by rw [← st c, ← st d]; exact b, c, d⟩))
theorem LS_nonneg : ∀ L : List D, (L.length : Int) ≤ LS L
  | [] => by simp [LS]
  | x :: L => by
    have h1 := LS_nonneg L
    have h2 := lk_pos 60 x
    simp only [LS, List.map_cons, List.sum_cons, List.length_cons] at h1 ⊢
    omega
theorem DM_nonneg : ∀ L : List D, 0 ≤ DM L
  | [] => by simp [DM]
  | x :: L => by
    have h1 := DM_nonneg L
    simp only [DM]
    omega
theorem LS_app (L M : List D) : LS (L ++ M) = LS L + LS M := by simp [LS]
theorem DM_app : ∀ (L M : List D), DM (L ++ M) = max (DM L) (DM M)
  | [], M => by
    have := DM_nonneg M
    simp only [List.nil_append, DM]
    omega
  | x :: L, M => by
    simp only [List.cons_append, DM, DM_app L M]
    omega
theorem LS_bad {n : Nat} (hn : n ≤ 50) : ∀ {L : List D}, (∀ x ∈ L, tr n x = true) → (L.any fun x => isN (kid x)) = true → 99 ≤ LS L
  | [], _, h => by cases h
  | x :: L, ht, h => by
    have h1 := LS_nonneg L
    have h2 := lk_pos 60 x
    simp only [LS, List.map_cons, List.sum_cons] at h1 ⊢
    rw [List.any_cons, Bool.or_eq_true] at h
    rcases h with h | h
    · rcases kid_cases hn (ht x (by simp)) with ⟨a, b⟩ | ⟨a, b⟩ | ⟨y, a, b, _⟩ | ⟨y, z, a, b, _⟩
      · rw [b]
        simp only
        omega
      · rw [a] at h; cases h
      · rw [a] at h; cases h
      · rw [a] at h; cases h
    · have h3 := LS_bad hn (fun y hy => ht y (by simp [hy])) h
      simp only [LS] at h3
      omega
theorem step_ok {n : Nat} (hn : n ≤ 50) : ∀ {L : List D}, (∀ x ∈ L, tr n x = true) → (L.any fun x => isN (kid x)) = false →
    LS L = ((L.countP fun x => isE (kid x) : Nat) : Int) + LS (L.flatMap kids) ∧ (L ≠ [] → DM L = 1 + DM (L.flatMap kids)) ∧ (∀ y ∈ L.flatMap kids, tr n y = true) ∧ (L.flatMap kids).length ≤ 2 * L.length
  | [], _, _ => by simp [LS]
  | x :: L, ht, h => by
    rw [List.any_cons, Bool.or_eq_false_iff] at h
    obtain ⟨i1, i2, i3, i4⟩ := step_ok hn (L := L) (fun y hy => ht y (by simp [hy])) h.2
    have eL : LS (x :: L) = (lk 60 x).1 + LS L := by simp [LS]
    have eD : DM (x :: L) = max (lk 60 x).2 (DM L) := rfl
    have dn := DM_nonneg (L.flatMap kids)
    have fm : (x :: L).flatMap kids = kids x ++ L.flatMap kids := List.flatMap_cons
    have dL : L = [] ∨ DM L = 1 + DM (L.flatMap kids) := by
      by_cases e : L = []
      · exact .inl e
      · exact .inr (i2 e)
    have d0 : L = [] → DM L = 0 ∧ DM (L.flatMap kids) = 0 := by
      rintro rfl
      exact ⟨rfl, rfl⟩
    rw [fm, LS_app, DM_app, List.countP_cons, List.length_append, List.length_cons]
    rcases kid_cases hn (ht x (by simp)) with ⟨a, b⟩ | ⟨a, b⟩ | ⟨y, a, b, c⟩ | ⟨y, z, a, b, c, d⟩
    · rw [a] at h; cases h.1
    · have k1 : kids x = [] := by simp only [kids, a]
      have k2 : isE (kid x) = true := by rw [a]; rfl
      rw [eL, eD, b, k1, k2]
      refine ⟨?_, fun _ => ?_, ?_, ?_⟩
      · simp [LS]; simp [LS] at i1; omega
      · simp only [DM]
        rcases dL with q | q
        · have := d0 q; omega
        · omega
      · simpa using i3
      · simp only [List.length_nil, List.length_cons]; omega
    · have k1 : kids x = [y] := by simp only [kids, a]
      have k2 : isE (kid x) = false := by rw [a]; rfl
      have hy := lk_pos 60 y
      rw [eL, eD, b, k1, k2]
      refine ⟨?_, fun _ => ?_, ?_, ?_⟩
      · simp [LS]; simp [LS] at i1; omega
      · simp only [DM]
        rcases dL with q | q
        · have := d0 q; omega
        · omega
      · intro w hw
        rcases List.mem_append.mp hw with q | q
        · simp at q; rw [q]; exact c
        · exact i3 w q
      · simp only [List.length_nil, List.length_cons]; omega
    · have k1 : kids x = [y, z] := by simp only [kids, a]
      have k2 : isE (kid x) = false := by rw [a]; rfl
      have hy := lk_pos 60 y
      have hz := lk_pos 60 z
      rw [eL, eD, b, k1, k2]
      refine ⟨?_, fun _ => ?_, ?_, ?_⟩
      · simp [LS]; simp [LS] at i1; omega
      · simp only [DM]
        rcases dL with q | q
        · have := d0 q; omega
        · omega
      · intro w hw
        rcases List.mem_append.mp hw with q | q
        · simp at q
          rcases q with rfl | rfl
          · exact c
          · exact d
        · exact i3 w q
      · simp only [List.length_nil, List.length_cons]; omega
def tg9 (L : List D) (l d : Int) : Bool := decide (l + LS L ≤ 6) && decide (d + DM L ≤ 6)
end K47

set_option Elab.async false
set_option linter.all false
set_option maxRecDepth 100000
set_option maxHeartbeats 4000000
namespace K47
open Gx
/-- a number that grows -/
def kAug (i : Nat) (e : Env) : Option (Option Rv) → Rs Rv → RS
  | some (some (.d (.int x))), .ok (.d (.int y)) m => .nx (e.set i (some (.d (.int (x + y))))) m
  | some (some (.d _)), .ok _ _ => .no
  | some (some (.d _)), .ex c as m => .ex c as m
  | some (some (.d _)), .no => .no
  | _, _ => .no
theorem q_aug {cl : Cl} {gl : Gl} {i : Nat} {a : CE} {e : Env} {m : Mem} : evS cl gl (.aug i .add a) e m = kAug i e e[i]? (evE cl gl a e m) := by
  simp only [evS]
  rcases e[i]? with _ | _ | x | x | x
  · rfl
  · rfl
  · simp only
    cases evE cl gl a e m with
    | ok y m1 =>
      cases x with
      | int x =>
        cases y with
        | d y => cases y <;> rfl
        | _ => rfl
      | _ => rfl
    | ex _ _ _ => cases x <;> rfl
    | no => cases x <;> rfl
  · rfl
  · rfl
theorem filt {α : Type} (l : List α) : l.filter (fun _ => true) = l := by
  induction l with
  | nil => rfl
  | cons x l ih => rw [List.filter_cons, if_pos rfl, ih]
theorem bi_len {xs : List D} : biV .len [.lst xs] = some (.d (.int xs.length)) := rfl
theorem any_isN {L : List D} : ((L.map kid).any fun z => eqD z .non) = L.any fun x => isN (kid x) := by
  induction L with
  | nil => rfl
  | cons x L ih =>
    rw [List.map_cons, List.any_cons, List.any_cons, ih]
    congr 1
    cases kid x <;> rfl
theorem count_isE {L : List D} : ((L.map kid).countP fun z => eqD z (.tup [])) = L.countP fun x => isE (kid x) := by
  induction L with
  | nil => rfl
  | cons x L ih =>
    rw [List.map_cons, List.countP_cons, List.countP_cons, ih]
    congr 1
    cases h : kid x with
    | tup xs => cases xs <;> rfl
    | _ => rfl
theorem tr_kid {n : Nat} {x : D} (hn : n ≤ 50) (h : tr n x = true) : tr (n + 1) (kid x) = true := by
  rcases kid_cases hn h with ⟨a, _⟩ | ⟨a, _⟩ | ⟨y, a, _, c⟩ | ⟨y, z, a, _, c, d⟩
  · rw [a]; rfl
  · rw [a]; rfl
  · rw [a]; simp [tr, trs, c]
  · rw [a]; simp [tr, trs, c, d]
theorem sh_kids {n : Nat} {L : List D} (hn : n ≤ 50) (h : ∀ x ∈ L, tr n x = true) : shs 60 (L.map kid) = true := by
  refine trs_sh (trs_mono (n := n + 1) (by omega) (trs_all.mpr fun x hx => ?_))
  obtain ⟨y, hy, rfl⟩ := List.mem_map.mp hx
  exact tr_kid hn (h y hy)
theorem in_non {n : Nat} {L : List D} (hn : n ≤ 50) (h : ∀ x ∈ L, tr n x = true) : cmpV .isin .non (.lst (L.map kid)) = some (L.any fun x => isN (kid x)) := by
  simp only [cmpV, D.seq, eqOks, sh_kids hn h, sh, Bool.and_self, if_pos, any_isN]
theorem bi_count {n : Nat} {L : List D} (hn : n ≤ 50) (h : ∀ x ∈ L, tr n x = true) : biV .count [.lst (L.map kid), .tup []] = some (.d (.int (L.countP fun x => isE (kid x) : Nat))) := by
  have : sh 60 (.tup []) = true := rfl
  simp only [biV, eqOks, sh_kids hn h, this, Bool.and_self, if_pos, count_isE]
theorem its_kid {x : D} (h : isN (kid x) = false) {n : Nat} (hn : n ≤ 50) (ht : tr n x = true) : kid x = .tup (kids x) := by
  rcases kid_cases hn ht with ⟨a, _⟩ | ⟨a, _⟩ | ⟨y, a, _, c⟩ | ⟨y, z, a, _, c, d⟩
  · rw [a] at h; cases h
  · simp only [kids, a]
  · simp only [kids, a]
  · simp only [kids, a]
def EN (v : D) (L : List D) (l d : Int) (p : Option Rv) : Env := [some (.d v), some (.own (.lst L)), some (.d (.int l)), some (.d (.int d)), p, none, none, none]
def W9 (n : Nat) (v : D) (b : Bool) (m : Mem) (i : Nat) (e : Env) (m' : Mem) : Prop :=
  ∃ L l d p, e = EN v L l d p ∧ m' = m ∧ (∀ x ∈ L, tr n x = true) ∧ 0 ≤ l ∧ l ≤ 6 ∧ 0 ≤ d ∧ d ≤ 6 ∧ L.length ≤ 8 ∧ tg9 L l d = b ∧ 8 - d ≤ i ∧ i ≤ 1000
def mind (v : D) : Bool := decide ((lk 60 v).1 ≤ 6) && decide ((lk 60 v).2 ≤ 6)
theorem lcL_kids {k : Nat} {n : Nat} {L : List D} {v : D} {l d : Int} {p : Option Rv} {m : Mem} (hn : n ≤ 50) (h : ∀ x ∈ L, tr n x = true) :
    lcL (.nm 5) (evT (callF fsL glL (k + 6)) glL .yes) (elF (callF fsL glL (k + 6)) glL (.call 8 (.cons (.var 5) .nil))) L (EN v L l d p) m = .ok (L.map kid) m := by
  have := lcL_ok (tg := .nm 5) (c := evT (callF fsL glL (k + 6)) glL .yes) (f := elF (callF fsL glL (k + 6)) glL (.call 8 (.cons (.var 5) .nil))) (e := EN v L l d p) (m := m) (fun _ => true) kid L fun x hx => by
    have ck := c_kid (k := k) (m := m) hn (h x hx)
    exact ⟨(EN v L l d p).set 5 (some (.d x)), by simp [asgT, EN], q_tyes, fun _ => by simp [elF, EN, q_var, q_con, q_glb, q_bin, q_not, q_and, q_or, q_cmp, q_chn, q_ite, q_call, q_bi, q_isi, q_idx, q_slc, q_tup, q_lst, q_lc1, q_seq, q_tru, q_tand, q_tor, q_tnot, q_tyes, q_nil, q_cons, q_lnil, q_lcons, q_rnil, q_rcons, q_asg, q_asgT, q_par, q_ret, q_if, q_for, q_frz, q_snil, q_scons, kB2.eq_1, kB1.eq_1, kC2.eq_1, kC1.eq_1, kN2.eq_1, kN1.eq_1, kCall.eq_1, kBi.eq_1, kIs.eq_1, kX2.eq_1, kX1.eq_1, kS3.eq_1, kS2.eq_1, kS1.eq_1, kTup.eq_1, kLst.eq_1, kL1.eq_1, kSq.eq_1, kTru.eq_1, kTNot.eq_1, kCons.eq_1, kLk.eq_1, kConsR.eq_1, kAt.eq_1, kPar.eq_1, kFor.eq_1, kNot.eq_1, kAnd.eq_1, kAnd.eq_2, kOr.eq_1, kOr.eq_2, kN3.eq_1, kN3.eq_2, kIte.eq_1, kIte.eq_2, kTAnd.eq_1, kTAnd.eq_2, kTOr.eq_1, kTOr.eq_2, kArg.eq_1, kArg.eq_2, kRs.eq_1, kRs.eq_2, kAs.eq_1, kAs.eq_2, kRet.eq_1, kRet.eq_2, kIf.eq_1, kIf.eq_2, kThen.eq_1, kThen.eq_2, kO_s, kD_s, kBl_s, kTb_s, kIt_s, kEn_s, kVar_d, kVar_o, l_d, f_d, fin_ret, truth, okLen, LINE, r_ok, r_okS, r_of, l_o, l_b, o_l, its_l, its_t, q_set, kSe1.eq_1, kSe2.eq_1, kSe3.eq_1, q_retV, kRv_s, ck]⟩
  rw [this, filt]
theorem lcO_kids {k : Nat} {n : Nat} {L : List D} {v : D} {l d : Int} {p : Option Rv} {m : Mem} (hn : n ≤ 50) (h : ∀ x ∈ L, tr n x = true) (hN : (L.any fun x => isN (kid x)) = false) {M : List D} :
    lcO (.nm 6) (evT (callF fsL glL (k + 6)) glL .yes) (elO (callF fsL glL (k + 6)) glL [5] (.nm 5) (.seq (.var 6)) .yes (.var 5)) (L.map kid) (EN v M l d p) m = .ok (L.flatMap kids) m := by
  have := lcO_ok (tg := .nm 6) (c := evT (callF fsL glL (k + 6)) glL .yes) (f := elO (callF fsL glL (k + 6)) glL [5] (.nm 5) (.seq (.var 6)) .yes (.var 5)) (e := EN v M l d p) (m := m) (fun _ => true) (fun z => match z with
    | .tup xs => xs
    | _ => []) (L.map kid) fun z hz => by
    obtain ⟨x, hx, rfl⟩ := List.mem_map.mp hz
    have nN : isN (kid x) = false := by
      have := List.any_eq_false.mp hN x hx
      simpa using this
    have ek := its_kid nN hn (h x hx)
    refine ⟨(EN v M l d p).set 6 (some (.d (kid x))), by simp [asgT, EN], q_tyes, fun _ => ?_⟩
    rw [ek]
    have := lcL_ok (tg := .nm 5) (c := evT (callF fsL glL (k + 6)) glL .yes) (f := elF (callF fsL glL (k + 6)) glL (.var 5)) (e := (EN v M l d p).set 6 (some (.d (.tup (kids x))))) (m := m) (fun _ => true) id (kids x) fun y _ =>
      ⟨((EN v M l d p).set 6 (some (.d (.tup (kids x))))).set 5 (some (.d y)), by simp [asgT, EN], q_tyes, fun _ => by simp [elF, EN, q_var, q_con, q_glb, q_bin, q_not, q_and, q_or, q_cmp, q_chn, q_ite, q_call, q_bi, q_isi, q_idx, q_slc, q_tup, q_lst, q_lc1, q_seq, q_tru, q_tand, q_tor, q_tnot, q_tyes, q_nil, q_cons, q_lnil, q_lcons, q_rnil, q_rcons, q_asg, q_asgT, q_par, q_ret, q_if, q_for, q_frz, q_snil, q_scons, kB2.eq_1, kB1.eq_1, kC2.eq_1, kC1.eq_1, kN2.eq_1, kN1.eq_1, kCall.eq_1, kBi.eq_1, kIs.eq_1, kX2.eq_1, kX1.eq_1, kS3.eq_1, kS2.eq_1, kS1.eq_1, kTup.eq_1, kLst.eq_1, kL1.eq_1, kSq.eq_1, kTru.eq_1, kTNot.eq_1, kCons.eq_1, kLk.eq_1, kConsR.eq_1, kAt.eq_1, kPar.eq_1, kFor.eq_1, kNot.eq_1, kAnd.eq_1, kAnd.eq_2, kOr.eq_1, kOr.eq_2, kN3.eq_1, kN3.eq_2, kIte.eq_1, kIte.eq_2, kTAnd.eq_1, kTAnd.eq_2, kTOr.eq_1, kTOr.eq_2, kArg.eq_1, kArg.eq_2, kRs.eq_1, kRs.eq_2, kAs.eq_1, kAs.eq_2, kRet.eq_1, kRet.eq_2, kIf.eq_1, kIf.eq_2, kThen.eq_1, kThen.eq_2, kO_s, kD_s, kBl_s, kTb_s, kIt_s, kEn_s, kVar_d, kVar_o, l_d, f_d, fin_ret, truth, okLen, LINE, r_ok, r_okS, r_of, l_o, l_b, o_l, its_l, its_t, q_set, kSe1.eq_1, kSe2.eq_1, kSe3.eq_1, q_retV, kRv_s]⟩
    simp only [filt, List.map_id] at this
    simp [elO, EN, q_var, q_con, q_glb, q_bin, q_not, q_and, q_or, q_cmp, q_chn, q_ite, q_call, q_bi, q_isi, q_idx, q_slc, q_tup, q_lst, q_lc1, q_seq, q_tru, q_tand, q_tor, q_tnot, q_tyes, q_nil, q_cons, q_lnil, q_lcons, q_rnil, q_rcons, q_asg, q_asgT, q_par, q_ret, q_if, q_for, q_frz, q_snil, q_scons, kB2.eq_1, kB1.eq_1, kC2.eq_1, kC1.eq_1, kN2.eq_1, kN1.eq_1, kCall.eq_1, kBi.eq_1, kIs.eq_1, kX2.eq_1, kX1.eq_1, kS3.eq_1, kS2.eq_1, kS1.eq_1, kTup.eq_1, kLst.eq_1, kL1.eq_1, kSq.eq_1, kTru.eq_1, kTNot.eq_1, kCons.eq_1, kLk.eq_1, kConsR.eq_1, kAt.eq_1, kPar.eq_1, kFor.eq_1, kNot.eq_1, kAnd.eq_1, kAnd.eq_2, kOr.eq_1, kOr.eq_2, kN3.eq_1, kN3.eq_2, kIte.eq_1, kIte.eq_2, kTAnd.eq_1, kTAnd.eq_2, kTOr.eq_1, kTOr.eq_2, kArg.eq_1, kArg.eq_2, kRs.eq_1, kRs.eq_2, kAs.eq_1, kAs.eq_2, kRet.eq_1, kRet.eq_2, kIf.eq_1, kIf.eq_2, kThen.eq_1, kThen.eq_2, kO_s, kD_s, kBl_s, kTb_s, kIt_s, kEn_s, kVar_d, kVar_o, l_d, f_d, fin_ret, truth, okLen, LINE, r_ok, r_okS, r_of, l_o, l_b, o_l, its_l, its_t, q_set, kSe1.eq_1, kSe2.eq_1, kSe3.eq_1, q_retV, kRv_s, D.its, wip] at this ⊢
    exact this
  rw [this]
  simp only [filt, List.flatMap_map]
  congr 1
theorem c_mind {n k : Nat} {v : D} {m : Mem} (hn : n ≤ 50) (h : tr n v = true) : callF fsL glL (k + 7) 9 [v] m = .ok (.d (.bl (mind v))) m := by
  suffices z : (callF fsL glL (k + 7) 9 [v] m).Sat (fun r m' => r = .d (.bl (mind v)) ∧ m' = m) by
    obtain ⟨r, m', e, rfl, rfl⟩ := z
    exact e
  refine sat_call (k := k + 6) (fi := b9) rfl rfl ?_
  have tg : tg9 [v] 0 0 = mind v := by
    have p := lk_pos 60 v
    simp only [tg9, mind, LS, DM, List.map_cons, List.map_nil, List.sum_cons, List.sum_nil]
    congr 2
    · apply propext; omega
    · apply propext; omega
  simp only [b9]
  refine sat_cons (M := fun e m' => e = [some (.d v), none, none, none, none, none, none, none] ∧ m' = m) (by simp [q_frz, frzAt]; exact .nx ⟨rfl, rfl⟩) fun e m' he => ?_
  obtain ⟨rfl, rfl⟩ := he
  refine sat_cons (M := W9 n v (mind v) m' 20) ?_ fun e m1 he => ?_
  · simp [q_var, q_con, q_glb, q_bin, q_not, q_and, q_or, q_cmp, q_chn, q_ite, q_call, q_bi, q_isi, q_idx, q_slc, q_tup, q_lst, q_lc1, q_seq, q_tru, q_tand, q_tor, q_tnot, q_tyes, q_nil, q_cons, q_lnil, q_lcons, q_rnil, q_rcons, q_asg, q_asgT, q_par, q_ret, q_if, q_for, q_frz, q_snil, q_scons, kB2.eq_1, kB1.eq_1, kC2.eq_1, kC1.eq_1, kN2.eq_1, kN1.eq_1, kCall.eq_1, kBi.eq_1, kIs.eq_1, kX2.eq_1, kX1.eq_1, kS3.eq_1, kS2.eq_1, kS1.eq_1, kTup.eq_1, kLst.eq_1, kL1.eq_1, kSq.eq_1, kTru.eq_1, kTNot.eq_1, kCons.eq_1, kLk.eq_1, kConsR.eq_1, kAt.eq_1, kPar.eq_1, kFor.eq_1, kNot.eq_1, kAnd.eq_1, kAnd.eq_2, kOr.eq_1, kOr.eq_2, kN3.eq_1, kN3.eq_2, kIte.eq_1, kIte.eq_2, kTAnd.eq_1, kTAnd.eq_2, kTOr.eq_1, kTOr.eq_2, kArg.eq_1, kArg.eq_2, kRs.eq_1, kRs.eq_2, kAs.eq_1, kAs.eq_2, kRet.eq_1, kRet.eq_2, kIf.eq_1, kIf.eq_2, kThen.eq_1, kThen.eq_2, kO_s, kD_s, kBl_s, kTb_s, kIt_s, kEn_s, kVar_d, kVar_o, l_d, f_d, fin_ret, truth, okLen, LINE, r_ok, r_okS, r_of, l_o, l_b, o_l, its_l, its_t, q_set, kSe1.eq_1, kSe2.eq_1, kSe3.eq_1, q_retV, kRv_s, setAll]
    exact .nx ⟨[v], 0, 0, none, rfl, rfl, by simpa using h, by omega, by omega, by omega, by omega, by simp, tg, by omega, by omega⟩
  refine sat_cons (M := fun e m1 => mind v = true ∧ m1 = m') ?_ fun e m1 he => ?_
  · simp only [evS]
    refine sat_whl (W9 n v (mind v) m') (fun i e m1 w => ?_) FUEL 20 e m1 (by decide) he
    obtain ⟨L, l, d, p, rfl, rfl, hL, l0, l6, d0, d6, h8, ht, hi, hi2⟩ := w
    refine ⟨!L.isEmpty, m1, by simp [q_var, q_con, q_glb, q_bin, q_not, q_and, q_or, q_cmp, q_chn, q_ite, q_call, q_bi, q_isi, q_idx, q_slc, q_tup, q_lst, q_lc1, q_seq, q_tru, q_tand, q_tor, q_tnot, q_tyes, q_nil, q_cons, q_lnil, q_lcons, q_rnil, q_rcons, q_asg, q_asgT, q_par, q_ret, q_if, q_for, q_frz, q_snil, q_scons, kB2.eq_1, kB1.eq_1, kC2.eq_1, kC1.eq_1, kN2.eq_1, kN1.eq_1, kCall.eq_1, kBi.eq_1, kIs.eq_1, kX2.eq_1, kX1.eq_1, kS3.eq_1, kS2.eq_1, kS1.eq_1, kTup.eq_1, kLst.eq_1, kL1.eq_1, kSq.eq_1, kTru.eq_1, kTNot.eq_1, kCons.eq_1, kLk.eq_1, kConsR.eq_1, kAt.eq_1, kPar.eq_1, kFor.eq_1, kNot.eq_1, kAnd.eq_1, kAnd.eq_2, kOr.eq_1, kOr.eq_2, kN3.eq_1, kN3.eq_2, kIte.eq_1, kIte.eq_2, kTAnd.eq_1, kTAnd.eq_2, kTOr.eq_1, kTOr.eq_2, kArg.eq_1, kArg.eq_2, kRs.eq_1, kRs.eq_2, kAs.eq_1, kAs.eq_2, kRet.eq_1, kRet.eq_2, kIf.eq_1, kIf.eq_2, kThen.eq_1, kThen.eq_2, kO_s, kD_s, kBl_s, kTb_s, kIt_s, kEn_s, kVar_d, kVar_o, l_d, f_d, fin_ret, truth, okLen, LINE, r_ok, r_okS, r_of, l_o, l_b, o_l, its_l, its_t, q_set, kSe1.eq_1, kSe2.eq_1, kSe3.eq_1, q_retV, kRv_s, EN], fun zz => ⟨?_, rfl⟩, fun zz => ?_⟩
    · cases L with
      | nil =>
        rw [← ht]
        simp [tg9, LS, DM]
        omega
      | cons x L => cases zz
    · have hne : L ≠ [] := by
        rintro rfl
        cases zz
      have lsn := LS_nonneg L
      have hp : 1 ≤ L.length := by
        cases L with
        | nil => exact absurd rfl hne
        | cons x L => simp
      obtain ⟨j, rfl⟩ : ∃ j, i = j + 1 := ⟨i - 1, by omega⟩
      refine ⟨j, rfl, ?_⟩
      have c1 := lcL_kids (k := k) (v := v) (l := l) (d := d + 1) (p := p) (m := m1) hn hL
      simp only [EN] at c1
      have okl : L.length ≤ 16777216 := by omega
      have cn := in_non hn hL
      have dm1 : 1 ≤ DM L := by
        cases L with
        | nil => exact absurd rfl hne
        | cons x L =>
          have := lk_pos 60 x
          simp only [DM]
          omega
      have no : (6 < l + LS L ∨ 6 < d + DM L) → mind v = false := fun h => by
        rw [← ht, tg9, Bool.and_eq_false_iff]
        rcases h with h | h
        · exact .inl (decide_eq_false (by omega))
        · exact .inr (decide_eq_false (by omega))
      by_cases hN : (L.any fun x => isN (kid x)) = true
      · have lb := LS_bad hn hL hN
        rw [hN] at cn
        simp only [EN]
        simp [q_var, q_con, q_glb, q_bin, q_not, q_and, q_or, q_cmp, q_chn, q_ite, q_call, q_bi, q_isi, q_idx, q_slc, q_tup, q_lst, q_lc1, q_seq, q_tru, q_tand, q_tor, q_tnot, q_tyes, q_nil, q_cons, q_lnil, q_lcons, q_rnil, q_rcons, q_asg, q_asgT, q_par, q_ret, q_if, q_for, q_frz, q_snil, q_scons, kB2.eq_1, kB1.eq_1, kC2.eq_1, kC1.eq_1, kN2.eq_1, kN1.eq_1, kCall.eq_1, kBi.eq_1, kIs.eq_1, kX2.eq_1, kX1.eq_1, kS3.eq_1, kS2.eq_1, kS1.eq_1, kTup.eq_1, kLst.eq_1, kL1.eq_1, kSq.eq_1, kTru.eq_1, kTNot.eq_1, kCons.eq_1, kLk.eq_1, kConsR.eq_1, kAt.eq_1, kPar.eq_1, kFor.eq_1, kNot.eq_1, kAnd.eq_1, kAnd.eq_2, kOr.eq_1, kOr.eq_2, kN3.eq_1, kN3.eq_2, kIte.eq_1, kIte.eq_2, kTAnd.eq_1, kTAnd.eq_2, kTOr.eq_1, kTOr.eq_2, kArg.eq_1, kArg.eq_2, kRs.eq_1, kRs.eq_2, kAs.eq_1, kAs.eq_2, kRet.eq_1, kRet.eq_2, kIf.eq_1, kIf.eq_2, kThen.eq_1, kThen.eq_2, kO_s, kD_s, kBl_s, kTb_s, kIt_s, kEn_s, kVar_d, kVar_o, l_d, f_d, fin_ret, truth, okLen, LINE, r_ok, r_okS, r_of, l_o, l_b, o_l, its_l, its_t, q_set, kSe1.eq_1, kSe2.eq_1, kSe3.eq_1, q_retV, kRv_s, q_aug, kAug, frzAt, wip, c1, okl, cn, gt_int, g7]
        exact RS.Sat.ret ⟨by rw [no (.inl (by omega))], rfl⟩
      · rw [Bool.not_eq_true] at hN
        rw [hN] at cn
        by_cases hd : 6 < d + 1
        · simp only [EN]
          simp [q_var, q_con, q_glb, q_bin, q_not, q_and, q_or, q_cmp, q_chn, q_ite, q_call, q_bi, q_isi, q_idx, q_slc, q_tup, q_lst, q_lc1, q_seq, q_tru, q_tand, q_tor, q_tnot, q_tyes, q_nil, q_cons, q_lnil, q_lcons, q_rnil, q_rcons, q_asg, q_asgT, q_par, q_ret, q_if, q_for, q_frz, q_snil, q_scons, kB2.eq_1, kB1.eq_1, kC2.eq_1, kC1.eq_1, kN2.eq_1, kN1.eq_1, kCall.eq_1, kBi.eq_1, kIs.eq_1, kX2.eq_1, kX1.eq_1, kS3.eq_1, kS2.eq_1, kS1.eq_1, kTup.eq_1, kLst.eq_1, kL1.eq_1, kSq.eq_1, kTru.eq_1, kTNot.eq_1, kCons.eq_1, kLk.eq_1, kConsR.eq_1, kAt.eq_1, kPar.eq_1, kFor.eq_1, kNot.eq_1, kAnd.eq_1, kAnd.eq_2, kOr.eq_1, kOr.eq_2, kN3.eq_1, kN3.eq_2, kIte.eq_1, kIte.eq_2, kTAnd.eq_1, kTAnd.eq_2, kTOr.eq_1, kTOr.eq_2, kArg.eq_1, kArg.eq_2, kRs.eq_1, kRs.eq_2, kAs.eq_1, kAs.eq_2, kRet.eq_1, kRet.eq_2, kIf.eq_1, kIf.eq_2, kThen.eq_1, kThen.eq_2, kO_s, kD_s, kBl_s, kTb_s, kIt_s, kEn_s, kVar_d, kVar_o, l_d, f_d, fin_ret, truth, okLen, LINE, r_ok, r_okS, r_of, l_o, l_b, o_l, its_l, its_t, q_set, kSe1.eq_1, kSe2.eq_1, kSe3.eq_1, q_retV, kRv_s, q_aug, kAug, frzAt, wip, c1, okl, cn, gt_int, g7, hd]
          exact RS.Sat.ret ⟨by rw [no (.inr (by omega))], rfl⟩
        · obtain ⟨s1, s2, s3, s4⟩ := step_ok hn hL hN
          have s2 := s2 hne
          have c2 := lcO_kids (k := k) (v := v) (l := l + ((L.countP fun x => isE (kid x) : Nat) : Int)) (d := d + 1) (p := some (.own (.lst (L.map kid)))) (m := m1) hn hL hN (M := L)
          simp only [EN] at c2
          have ct := bi_count hn hL
          have lf := LS_nonneg (L.flatMap kids)
          have dn := DM_nonneg (L.flatMap kids)
          generalize L.flatMap kids = F at *
          generalize (L.countP fun x => isE (kid x)) = cN at *
          have okf : F.length ≤ 16777216 := by omega
          by_cases h6 : 6 < l + (cN : Int) + (F.length : Nat)
          · simp only [EN]
            simp [q_var, q_con, q_glb, q_bin, q_not, q_and, q_or, q_cmp, q_chn, q_ite, q_call, q_bi, q_isi, q_idx, q_slc, q_tup, q_lst, q_lc1, q_seq, q_tru, q_tand, q_tor, q_tnot, q_tyes, q_nil, q_cons, q_lnil, q_lcons, q_rnil, q_rcons, q_asg, q_asgT, q_par, q_ret, q_if, q_for, q_frz, q_snil, q_scons, kB2.eq_1, kB1.eq_1, kC2.eq_1, kC1.eq_1, kN2.eq_1, kN1.eq_1, kCall.eq_1, kBi.eq_1, kIs.eq_1, kX2.eq_1, kX1.eq_1, kS3.eq_1, kS2.eq_1, kS1.eq_1, kTup.eq_1, kLst.eq_1, kL1.eq_1, kSq.eq_1, kTru.eq_1, kTNot.eq_1, kCons.eq_1, kLk.eq_1, kConsR.eq_1, kAt.eq_1, kPar.eq_1, kFor.eq_1, kNot.eq_1, kAnd.eq_1, kAnd.eq_2, kOr.eq_1, kOr.eq_2, kN3.eq_1, kN3.eq_2, kIte.eq_1, kIte.eq_2, kTAnd.eq_1, kTAnd.eq_2, kTOr.eq_1, kTOr.eq_2, kArg.eq_1, kArg.eq_2, kRs.eq_1, kRs.eq_2, kAs.eq_1, kAs.eq_2, kRet.eq_1, kRet.eq_2, kIf.eq_1, kIf.eq_2, kThen.eq_1, kThen.eq_2, kO_s, kD_s, kBl_s, kTb_s, kIt_s, kEn_s, kVar_d, kVar_o, l_d, f_d, fin_ret, truth, okLen, LINE, r_ok, r_okS, r_of, l_o, l_b, o_l, its_l, its_t, q_set, kSe1.eq_1, kSe2.eq_1, kSe3.eq_1, q_retV, kRv_s, q_aug, kAug, frzAt, wip, c1, c2, okl, okf, cn, ct, gt_int, g6, g7, hd, q_lc2, kL2.eq_1, bi_len, bin_add, h6]
            exact RS.Sat.ret ⟨by rw [no (.inl (by omega))], rfl⟩
          · simp only [EN]
            simp [q_var, q_con, q_glb, q_bin, q_not, q_and, q_or, q_cmp, q_chn, q_ite, q_call, q_bi, q_isi, q_idx, q_slc, q_tup, q_lst, q_lc1, q_seq, q_tru, q_tand, q_tor, q_tnot, q_tyes, q_nil, q_cons, q_lnil, q_lcons, q_rnil, q_rcons, q_asg, q_asgT, q_par, q_ret, q_if, q_for, q_frz, q_snil, q_scons, kB2.eq_1, kB1.eq_1, kC2.eq_1, kC1.eq_1, kN2.eq_1, kN1.eq_1, kCall.eq_1, kBi.eq_1, kIs.eq_1, kX2.eq_1, kX1.eq_1, kS3.eq_1, kS2.eq_1, kS1.eq_1, kTup.eq_1, kLst.eq_1, kL1.eq_1, kSq.eq_1, kTru.eq_1, kTNot.eq_1, kCons.eq_1, kLk.eq_1, kConsR.eq_1, kAt.eq_1, kPar.eq_1, kFor.eq_1, kNot.eq_1, kAnd.eq_1, kAnd.eq_2, kOr.eq_1, kOr.eq_2, kN3.eq_1, kN3.eq_2, kIte.eq_1, kIte.eq_2, kTAnd.eq_1, kTAnd.eq_2, kTOr.eq_1, kTOr.eq_2, kArg.eq_1, kArg.eq_2, kRs.eq_1, kRs.eq_2, kAs.eq_1, kAs.eq_2, kRet.eq_1, kRet.eq_2, kIf.eq_1, kIf.eq_2, kThen.eq_1, kThen.eq_2, kO_s, kD_s, kBl_s, kTb_s, kIt_s, kEn_s, kVar_d, kVar_o, l_d, f_d, fin_ret, truth, okLen, LINE, r_ok, r_okS, r_of, l_o, l_b, o_l, its_l, its_t, q_set, kSe1.eq_1, kSe2.eq_1, kSe3.eq_1, q_retV, kRv_s, q_aug, kAug, frzAt, wip, c1, c2, okl, okf, cn, ct, gt_int, g6, g7, hd, q_lc2, kL2.eq_1, bi_len, bin_add, h6]
            refine .nx ⟨F, l + cN, d + 1, _, rfl, rfl, s3, by omega, by omega, by omega, by omega, by omega, ?_, by omega, by omega⟩
            rw [← ht, tg9, tg9]
            congr 2
            · apply propext; omega
            · apply propext; omega
  · obtain ⟨ht, rfl⟩ := he
    simp [q_var, q_con, q_glb, q_bin, q_not, q_and, q_or, q_cmp, q_chn, q_ite, q_call, q_bi, q_isi, q_idx, q_slc, q_tup, q_lst, q_lc1, q_seq, q_tru, q_tand, q_tor, q_tnot, q_tyes, q_nil, q_cons, q_lnil, q_lcons, q_rnil, q_rcons, q_asg, q_asgT, q_par, q_ret, q_if, q_for, q_frz, q_snil, q_scons, kB2.eq_1, kB1.eq_1, kC2.eq_1, kC1.eq_1, kN2.eq_1, kN1.eq_1, kCall.eq_1, kBi.eq_1, kIs.eq_1, kX2.eq_1, kX1.eq_1, kS3.eq_1, kS2.eq_1, kS1.eq_1, kTup.eq_1, kLst.eq_1, kL1.eq_1, kSq.eq_1, kTru.eq_1, kTNot.eq_1, kCons.eq_1, kLk.eq_1, kConsR.eq_1, kAt.eq_1, kPar.eq_1, kFor.eq_1, kNot.eq_1, kAnd.eq_1, kAnd.eq_2, kOr.eq_1, kOr.eq_2, kN3.eq_1, kN3.eq_2, kIte.eq_1, kIte.eq_2, kTAnd.eq_1, kTAnd.eq_2, kTOr.eq_1, kTOr.eq_2, kArg.eq_1, kArg.eq_2, kRs.eq_1, kRs.eq_2, kAs.eq_1, kAs.eq_2, kRet.eq_1, kRet.eq_2, kIf.eq_1, kIf.eq_2, kThen.eq_1, kThen.eq_2, kO_s, kD_s, kBl_s, kTb_s, kIt_s, kEn_s, kVar_d, kVar_o, l_d, f_d, fin_ret, truth, okLen, LINE, r_ok, r_okS, r_of, l_o, l_b, o_l, its_l, its_t, q_set, kSe1.eq_1, kSe2.eq_1, kSe3.eq_1, q_retV, kRv_s]
    refine .ret ⟨?_, rfl⟩
    rw [ht]
end K47

set_option Elab.async false
set_option linter.all false
set_option maxRecDepth 100000
set_option maxHeartbeats 4000000
namespace K47
open Gx
/-! ### rolls -/
def CM2 (a b : Int) : Mem := [.lst [.int a, .int b]]
def Cup (m : Mem) : Prop := ∃ a b, m = CM2 a b ∧ 0 ≤ a ∧ 0 ≤ b ∧ b < 2147483648
theorem ixr0 {a b : Int} : idxV (.ref 0) (.int 0) (CM2 a b) = some (.int a) := rfl
theorem ixr1 {a b : Int} : idxV (.ref 0) (.int 1) (CM2 a b) = some (.int b) := rfl
theorem set0 {e : Env} {a b x : Int} : kSe4 e (some (.int x)) (.d (.ref 0)) (.d (.int 0)) (CM2 a b) = .nx e (CM2 x b) := rfl
theorem set1 {e : Env} {a b x : Int} : kSe4 e (some (.int x)) (.d (.ref 0)) (.d (.int 1)) (CM2 a b) = .nx e (CM2 a x) := rfl
theorem c_roll {n : Int} {k : Nat} {m : Mem} (h : Cup m) (h1 : 1 ≤ n) (h2 : n < 1073741824) : ∃ j m', callF fsL glL (k + 1) 11 [.ref 0, .int n] m = .ok (.d (.int j)) m' ∧ 0 ≤ j ∧ j < n ∧ Cup m' := by
  obtain ⟨a, b, rfl, ha, hb, hb2⟩ := h
  rw [call_eq (k := k) (fi := b11) rfl rfl]
  have e1 := bin_fdiv (a := a) (n := n) (by omega) h2
  have e2 := bin_mod (a := a) (n := n) (by omega)
  by_cases c : 0 < a
  · refine ⟨a.fmod n, CM2 (a.fdiv n) b, ?_, Int.fmod_nonneg_of_pos _ (by omega), Int.fmod_lt_of_pos _ (by omega), _, _, rfl, Int.fdiv_nonneg (by omega) (by omega), hb, hb2⟩
    simp [b11, q_var, q_con, q_glb, q_bin, q_not, q_and, q_or, q_cmp, q_chn, q_ite, q_call, q_bi, q_isi, q_idx, q_slc, q_tup, q_lst, q_lc1, q_seq, q_tru, q_tand, q_tor, q_tnot, q_tyes, q_nil, q_cons, q_lnil, q_lcons, q_rnil, q_rcons, q_asg, q_asgT, q_par, q_ret, q_if, q_for, q_frz, q_snil, q_scons, kB2.eq_1, kB1.eq_1, kC2.eq_1, kC1.eq_1, kN2.eq_1, kN1.eq_1, kCall.eq_1, kBi.eq_1, kIs.eq_1, kX2.eq_1, kX1.eq_1, kS3.eq_1, kS2.eq_1, kS1.eq_1, kTup.eq_1, kLst.eq_1, kL1.eq_1, kSq.eq_1, kTru.eq_1, kTNot.eq_1, kCons.eq_1, kLk.eq_1, kConsR.eq_1, kAt.eq_1, kPar.eq_1, kFor.eq_1, kNot.eq_1, kAnd.eq_1, kAnd.eq_2, kOr.eq_1, kOr.eq_2, kN3.eq_1, kN3.eq_2, kIte.eq_1, kIte.eq_2, kTAnd.eq_1, kTAnd.eq_2, kTOr.eq_1, kTOr.eq_2, kArg.eq_1, kArg.eq_2, kRs.eq_1, kRs.eq_2, kAs.eq_1, kAs.eq_2, kRet.eq_1, kRet.eq_2, kIf.eq_1, kIf.eq_2, kThen.eq_1, kThen.eq_2, kO_s, kD_s, kBl_s, kTb_s, kIt_s, kEn_s, kVar_d, kVar_o, l_d, f_d, fin_ret, truth, okLen, LINE, r_ok, r_okS, r_of, l_o, l_b, o_l, its_l, its_t, q_set, kSe1.eq_1, kSe2.eq_1, kSe3.eq_1, q_retV, kRv_s, ixr0, ixr1, set0, set1, gt_int, c, bi_int, e1, e2]
  · generalize hy : (b * 31079 + 8039).fmod 2147483477 = y
    have y0 : 0 ≤ y := by rw [← hy]; exact Int.fmod_nonneg_of_pos _ (by omega)
    have y1 : y < 2147483477 := by rw [← hy]; exact Int.fmod_lt_of_pos _ (by omega)
    refine ⟨((((y * (y + 241)).fmod 2147483587).fdiv 829).fmod n), CM2 a y, ?_, Int.fmod_nonneg_of_pos _ (by omega), Int.fmod_lt_of_pos _ (by omega), _, _, rfl, ha, y0, by omega⟩
    have f1 := bin_mulR (a := b) (n := 31079) (by decide) (by decide)
    have f2 := bin_mod (a := b * 31079 + 8039) (n := 2147483477) (by decide)
    rw [hy] at f2
    have f3 := bin_mulR (a := y) (n := y + 241) (by omega) (by omega)
    have f4 := bin_mod (a := y * (y + 241)) (n := 2147483587) (by decide)
    have f5 := bin_fdiv (a := (y * (y + 241)).fmod 2147483587) (n := 829) (by decide) (by decide)
    have f6 := bin_mod (a := ((y * (y + 241)).fmod 2147483587).fdiv 829) (n := n) (by omega)
    simp [b11, q_var, q_con, q_glb, q_bin, q_not, q_and, q_or, q_cmp, q_chn, q_ite, q_call, q_bi, q_isi, q_idx, q_slc, q_tup, q_lst, q_lc1, q_seq, q_tru, q_tand, q_tor, q_tnot, q_tyes, q_nil, q_cons, q_lnil, q_lcons, q_rnil, q_rcons, q_asg, q_asgT, q_par, q_ret, q_if, q_for, q_frz, q_snil, q_scons, kB2.eq_1, kB1.eq_1, kC2.eq_1, kC1.eq_1, kN2.eq_1, kN1.eq_1, kCall.eq_1, kBi.eq_1, kIs.eq_1, kX2.eq_1, kX1.eq_1, kS3.eq_1, kS2.eq_1, kS1.eq_1, kTup.eq_1, kLst.eq_1, kL1.eq_1, kSq.eq_1, kTru.eq_1, kTNot.eq_1, kCons.eq_1, kLk.eq_1, kConsR.eq_1, kAt.eq_1, kPar.eq_1, kFor.eq_1, kNot.eq_1, kAnd.eq_1, kAnd.eq_2, kOr.eq_1, kOr.eq_2, kN3.eq_1, kN3.eq_2, kIte.eq_1, kIte.eq_2, kTAnd.eq_1, kTAnd.eq_2, kTOr.eq_1, kTOr.eq_2, kArg.eq_1, kArg.eq_2, kRs.eq_1, kRs.eq_2, kAs.eq_1, kAs.eq_2, kRet.eq_1, kRet.eq_2, kIf.eq_1, kIf.eq_2, kThen.eq_1, kThen.eq_2, kO_s, kD_s, kBl_s, kTb_s, kIt_s, kEn_s, kVar_d, kVar_o, l_d, f_d, fin_ret, truth, okLen, LINE, r_ok, r_okS, r_of, l_o, l_b, o_l, its_l, its_t, q_set, kSe1.eq_1, kSe2.eq_1, kSe3.eq_1, q_retV, kRv_s, ixr0, ixr1, set0, set1, gt_int, c, bi_int, bin_addI, f1, f2, f3, f4, f5, f6]
theorem c_some {xs : List D} {k : Nat} {m : Mem} (h : Cup m) (h1 : xs ≠ []) (h2 : xs.length < 1073741824) : ∃ x m', callF fsL glL (k + 2) 12 [.ref 0, .lst xs] m = .ok (.d x) m' ∧ x ∈ xs ∧ Cup m' := by
  have hp : 1 ≤ xs.length := by
    cases xs with
    | nil => exact absurd rfl h1
    | cons x xs => simp
  obtain ⟨j, m', e, h3, h4, h5⟩ := c_roll (k := k) (n := (xs.length : Int)) h (by omega) (by omega)
  obtain ⟨x, hx, ex⟩ := at_in h3 h4
  refine ⟨x, m', ?_, hx, h5⟩
  rw [call_eq (k := k + 1) (fi := b12) rfl rfl]
  have ex' : idxV (.lst xs) (.int j) m' = some x := ex
  simp [b12, q_var, q_con, q_glb, q_bin, q_not, q_and, q_or, q_cmp, q_chn, q_ite, q_call, q_bi, q_isi, q_idx, q_slc, q_tup, q_lst, q_lc1, q_seq, q_tru, q_tand, q_tor, q_tnot, q_tyes, q_nil, q_cons, q_lnil, q_lcons, q_rnil, q_rcons, q_asg, q_asgT, q_par, q_ret, q_if, q_for, q_frz, q_snil, q_scons, kB2.eq_1, kB1.eq_1, kC2.eq_1, kC1.eq_1, kN2.eq_1, kN1.eq_1, kCall.eq_1, kBi.eq_1, kIs.eq_1, kX2.eq_1, kX1.eq_1, kS3.eq_1, kS2.eq_1, kS1.eq_1, kTup.eq_1, kLst.eq_1, kL1.eq_1, kSq.eq_1, kTru.eq_1, kTNot.eq_1, kCons.eq_1, kLk.eq_1, kConsR.eq_1, kAt.eq_1, kPar.eq_1, kFor.eq_1, kNot.eq_1, kAnd.eq_1, kAnd.eq_2, kOr.eq_1, kOr.eq_2, kN3.eq_1, kN3.eq_2, kIte.eq_1, kIte.eq_2, kTAnd.eq_1, kTAnd.eq_2, kTOr.eq_1, kTOr.eq_2, kArg.eq_1, kArg.eq_2, kRs.eq_1, kRs.eq_2, kAs.eq_1, kAs.eq_2, kRet.eq_1, kRet.eq_2, kIf.eq_1, kIf.eq_2, kThen.eq_1, kThen.eq_2, kO_s, kD_s, kBl_s, kTb_s, kIt_s, kEn_s, kVar_d, kVar_o, l_d, f_d, fin_ret, truth, okLen, LINE, r_ok, r_okS, r_of, l_o, l_b, o_l, its_l, its_t, q_set, kSe1.eq_1, kSe2.eq_1, kSe3.eq_1, q_retV, kRv_s, frzAt, bi_len, e, ex']
/-! ### drawn values: short tuples -/
mutual
def tc : Nat → D → Bool
  | _, .non => true
  | _, .int _ => true
  | _, .str n => STR.contains n
  | n + 1, .tup xs => Nat.ble xs.length 3 && tcs n xs
  | n + 1, .lst xs => Nat.ble xs.length 3 && tcs n xs
  | _, _ => false
def tcs : Nat → List D → Bool
  | _, [] => true
  | n, x :: xs => tc n x && tcs n xs
end
theorem tcs_all : ∀ {n : Nat} {xs : List D}, tcs n xs = true ↔ ∀ x ∈ xs, tc n x = true
  | n, [] => by simp [tcs]
  | n, x :: xs => by
    rw [tcs, Bool.and_eq_true, List.forall_mem_cons, tcs_all]
mutual
theorem tc_tr : ∀ {n : Nat} {x : D}, tc n x = true → tr n x = true
  | n, .non, _ => by cases n <;> rfl
  | n, .int _, _ => by cases n <;> rfl
  | n, .str _, h => by cases n <;> simpa [tc, tr] using h
  | 0, .tup xs, h => by simp [tc] at h
  | n + 1, .tup xs, h => by
    simp only [tc, tr, Bool.and_eq_true] at h ⊢
    exact ⟨Nat.ble_eq_true_of_le (Nat.le_trans (Nat.le_of_ble_eq_true h.1) (by decide)), tcs_trs h.2⟩
  | 0, .lst xs, h => by simp [tc] at h
  | n + 1, .lst xs, h => by
    simp only [tc, tr, Bool.and_eq_true] at h ⊢
    exact ⟨Nat.ble_eq_true_of_le (Nat.le_trans (Nat.le_of_ble_eq_true h.1) (by decide)), tcs_trs h.2⟩
  | n, .bl _, h => by cases n <;> simp [tc] at h
  | n, .ref _, h => by cases n <;> simp [tc] at h
  | n, .fn _, h => by cases n <;> simp [tc] at h
  | n, .ty _, h => by cases n <;> simp [tc] at h
  | n, .dct _ _, h => by cases n <;> simp [tc] at h
  | n, .set _, h => by cases n <;> simp [tc] at h
theorem tcs_trs : ∀ {n : Nat} {xs : List D}, tcs n xs = true → trs n xs = true
  | _, [], _ => by simp [trs]
  | n, x :: xs, h => by
    simp only [tcs, trs, Bool.and_eq_true] at h ⊢
    exact ⟨tc_tr h.1, tcs_trs h.2⟩
end
mutual
theorem tc_up : ∀ {n m : Nat} {x : D}, n ≤ m → tc n x = true → tc m x = true
  | n, m, .non, _, _ => by simp [tc]
  | n, m, .int _, _, _ => by simp [tc]
  | n, m, .str _, _, h => by simpa [tc] using h
  | 0, m, .tup xs, _, h => by simp [tc] at h
  | n + 1, 0, .tup xs, hn, h => by omega
  | n + 1, m + 1, .tup xs, hn, h => by
    simp only [tc, Bool.and_eq_true] at h ⊢
    exact ⟨h.1, tcs_up (by omega) h.2⟩
  | 0, m, .lst xs, _, h => by simp [tc] at h
  | n + 1, 0, .lst xs, hn, h => by omega
  | n + 1, m + 1, .lst xs, hn, h => by
    simp only [tc, Bool.and_eq_true] at h ⊢
    exact ⟨h.1, tcs_up (by omega) h.2⟩
  | n, _, .bl _, _, h => by cases n <;> simp [tc] at h
  | n, _, .ref _, _, h => by cases n <;> simp [tc] at h
  | n, _, .fn _, _, h => by cases n <;> simp [tc] at h
  | n, _, .ty _, _, h => by cases n <;> simp [tc] at h
  | n, _, .dct _ _, _, h => by cases n <;> simp [tc] at h
  | n, _, .set _, _, h => by cases n <;> simp [tc] at h
theorem tcs_up : ∀ {n m : Nat} {xs : List D}, n ≤ m → tcs n xs = true → tcs m xs = true
  | _, _, [], _, _ => by simp [tcs]
  | n, m, x :: xs, hn, h => by
    simp only [tcs, Bool.and_eq_true] at h ⊢
    exact ⟨tc_up hn h.1, tcs_up hn h.2⟩
end
theorem tc_int {n : Nat} {i : Int} : tc n (.int i) = true := by cases n <;> rfl
theorem tc_tup {n : Nat} {xs : List D} (hl : xs.length ≤ 3) (h : ∀ x ∈ xs, tc n x = true) : tc (n + 1) (.tup xs) = true := by
  simp only [tc, Bool.and_eq_true]
  exact ⟨Nat.ble_eq_true_of_le hl, tcs_all.mpr h⟩
/-! ### expressions -/
/-- the names that are drawn -/
def Nms (N : List Nat) : Prop := N.length ≤ 2 ∧ ∀ n ∈ N, n = 97 ∨ n = 25442
theorem U_is {i : Int} (h0 : 0 ≤ i) (h1 : i ≤ 9) : U (.tup [.str 29545, .int i]) = 1 := by
  have e : wh (.int i) 0 9 = true := by simp [wh, h0, h1]
  have e2 : ∀ n, un (n + 1) (.tup [.str 29545, .int i]) = 1 := fun n => by simp only [un, if_pos, e]
  exact e2 59
theorem U_of2 {n : Nat} (h : n = 97 ∨ n = 25442) : U (.tup [.str 26223, .str n]) = 1 := by
  rcases h with rfl | rfl <;> rfl
theorem U_node {s : Nat} {x y : D} {n : Nat} (hn : n ≤ 50) (hs : s ∈ SG) (hx : tc n x = true) (hy : tc n y = true) : U (.tup [.str s, x, y]) = min 99 (U x + U y) := by
  show (if s ∈ SG then min 99 (un 59 x + un 59 y) else 99) = _
  rw [if_pos hs, U_of (by omega) (tr_mono (by omega) (tc_tr hx)), U_of (by omega) (tr_mono (by omega) (tc_tr hy))]
theorem tc_str {n s : Nat} (h : s ∈ STR) : tc n (.str s) = true := by
  cases n <;> simpa [tc] using h
theorem SG_STR {s : Nat} (h : s ∈ SG) : s ∈ STR := by
  simp only [SG, List.mem_cons, List.not_mem_nil, or_false] at h
  rcases h with rfl | rfl | rfl | rfl <;> decide
theorem eq_nilL {L : List D} (h : shs 59 L = true) : cmpV .eq (.lst L) (.lst []) = some L.isEmpty := by
  have h1 : sh 60 (.lst L) = true := by simpa [sh] using h
  have h2 : sh 60 (.lst []) = true := rfl
  simp only [cmpV, eqOk, h1, h2, Bool.and_self, if_pos, eqD]
  cases L <;> rfl
end K47

set_option Elab.async false
set_option linter.all false
set_option maxRecDepth 100000
set_option maxHeartbeats 4000000
namespace K47
open Gx
def lfS : CSs := CSs.cons (CS.frz [0, 0, 0, 1]) (CSs.cons (CS.ret (CE.ite (CT.or (CT.tru (CE.cmp CO.eq (CE.var 1) (CE.lst CEs.nil))) (CT.tru (CE.cmp CO.eq (CE.call 11 (CEs.cons (CE.var 0) (CEs.cons (CE.con (D.int 3)) CEs.nil))) (CE.con (D.int 0))))) (CE.tup (CEs.cons (CE.con (D.str 29545)) (CEs.cons (CE.call 11 (CEs.cons (CE.var 0) (CEs.cons (CE.con (D.int 4)) CEs.nil))) CEs.nil))) (CE.tup (CEs.cons (CE.con (D.str 26223)) (CEs.cons (CE.call 12 (CEs.cons (CE.var 0) (CEs.cons (CE.var 1) CEs.nil))) CEs.nil))))) CSs.nil)
theorem shs_N (N : List Nat) : shs 59 (N.map D.str) = true := shs_str N 59
theorem i1 : tc 0 (.str 29545) = true := by decide
theorem i2 : tc 0 (.str 26223) = true := by decide
theorem lf_ok {k : Nat} {N : List Nat} {u : Int} {m : Mem} {o : Option Rv} (hN : Nms N) (h : Cup m) :
    ∃ v m', evSs (callF fsL glL (k + 2)) glL lfS [some (.d (.ref 0)), some (.d (.lst (N.map .str))), some (.d (.int u)), o] m = .ret (.d v) m' ∧ tc 1 v = true ∧ U v = 1 ∧ Cup m' := by
  have en := eq_nilL (shs_N N)
  by_cases hn : N = []
  · subst hn
    obtain ⟨j, m', e, h1, h2, h3⟩ := c_roll (k := k + 1) (n := 4) h (by decide) (by decide)
    refine ⟨.tup [.str 29545, .int j], m', ?_, ?_, U_is h1 (by omega), h3⟩
    · simp at en
      simp [lfS, q_var, q_con, q_glb, q_bin, q_not, q_and, q_or, q_cmp, q_chn, q_ite, q_call, q_bi, q_isi, q_idx, q_slc, q_tup, q_lst, q_lc1, q_seq, q_tru, q_tand, q_tor, q_tnot, q_tyes, q_nil, q_cons, q_lnil, q_lcons, q_rnil, q_rcons, q_asg, q_asgT, q_par, q_ret, q_if, q_for, q_frz, q_snil, q_scons, kB2.eq_1, kB1.eq_1, kC2.eq_1, kC1.eq_1, kN2.eq_1, kN1.eq_1, kCall.eq_1, kBi.eq_1, kIs.eq_1, kX2.eq_1, kX1.eq_1, kS3.eq_1, kS2.eq_1, kS1.eq_1, kTup.eq_1, kLst.eq_1, kL1.eq_1, kSq.eq_1, kTru.eq_1, kTNot.eq_1, kCons.eq_1, kLk.eq_1, kConsR.eq_1, kAt.eq_1, kPar.eq_1, kFor.eq_1, kNot.eq_1, kAnd.eq_1, kAnd.eq_2, kOr.eq_1, kOr.eq_2, kN3.eq_1, kN3.eq_2, kIte.eq_1, kIte.eq_2, kTAnd.eq_1, kTAnd.eq_2, kTOr.eq_1, kTOr.eq_2, kArg.eq_1, kArg.eq_2, kRs.eq_1, kRs.eq_2, kAs.eq_1, kAs.eq_2, kRet.eq_1, kRet.eq_2, kIf.eq_1, kIf.eq_2, kThen.eq_1, kThen.eq_2, kO_s, kD_s, kBl_s, kTb_s, kIt_s, kEn_s, kVar_d, kVar_o, l_d, f_d, fin_ret, truth, okLen, LINE, r_ok, r_okS, r_of, l_o, l_b, o_l, its_l, its_t, q_set, kSe1.eq_1, kSe2.eq_1, kSe3.eq_1, q_retV, kRv_s, frzAt, en, e]
    · exact tc_tup (by simp) (by simp [tc_int, i1])
  · have en' : cmpV .eq (.lst (N.map .str)) (.lst []) = some false := by
      rw [en]
      cases N with
      | nil => exact absurd rfl hn
      | cons a b => rfl
    obtain ⟨i, m1, e1, _, _, h1⟩ := c_roll (k := k + 1) (n := 3) h (by decide) (by decide)
    by_cases hi : i = 0
    · obtain ⟨j, m', e, h2, h3, h4⟩ := c_roll (k := k + 1) (n := 4) h1 (by decide) (by decide)
      refine ⟨.tup [.str 29545, .int j], m', ?_, ?_, U_is h2 (by omega), h4⟩
      · simp [lfS, q_var, q_con, q_glb, q_bin, q_not, q_and, q_or, q_cmp, q_chn, q_ite, q_call, q_bi, q_isi, q_idx, q_slc, q_tup, q_lst, q_lc1, q_seq, q_tru, q_tand, q_tor, q_tnot, q_tyes, q_nil, q_cons, q_lnil, q_lcons, q_rnil, q_rcons, q_asg, q_asgT, q_par, q_ret, q_if, q_for, q_frz, q_snil, q_scons, kB2.eq_1, kB1.eq_1, kC2.eq_1, kC1.eq_1, kN2.eq_1, kN1.eq_1, kCall.eq_1, kBi.eq_1, kIs.eq_1, kX2.eq_1, kX1.eq_1, kS3.eq_1, kS2.eq_1, kS1.eq_1, kTup.eq_1, kLst.eq_1, kL1.eq_1, kSq.eq_1, kTru.eq_1, kTNot.eq_1, kCons.eq_1, kLk.eq_1, kConsR.eq_1, kAt.eq_1, kPar.eq_1, kFor.eq_1, kNot.eq_1, kAnd.eq_1, kAnd.eq_2, kOr.eq_1, kOr.eq_2, kN3.eq_1, kN3.eq_2, kIte.eq_1, kIte.eq_2, kTAnd.eq_1, kTAnd.eq_2, kTOr.eq_1, kTOr.eq_2, kArg.eq_1, kArg.eq_2, kRs.eq_1, kRs.eq_2, kAs.eq_1, kAs.eq_2, kRet.eq_1, kRet.eq_2, kIf.eq_1, kIf.eq_2, kThen.eq_1, kThen.eq_2, kO_s, kD_s, kBl_s, kTb_s, kIt_s, kEn_s, kVar_d, kVar_o, l_d, f_d, fin_ret, truth, okLen, LINE, r_ok, r_okS, r_of, l_o, l_b, o_l, its_l, its_t, q_set, kSe1.eq_1, kSe2.eq_1, kSe3.eq_1, q_retV, kRv_s, frzAt, en', e, e1, eq_int, hi]
      · exact tc_tup (by simp) (by simp [tc_int, i1])
    · obtain ⟨x, m', e, hx, h4⟩ := c_some (k := k) (xs := N.map .str) h1 (by simpa using hn) (by have := hN.1; simp; omega)
      obtain ⟨n, hn1, rfl⟩ := List.mem_map.mp hx
      have hn2 := hN.2 n hn1
      refine ⟨.tup [.str 26223, .str n], m', ?_, ?_, U_of2 hn2, h4⟩
      · simp [lfS, q_var, q_con, q_glb, q_bin, q_not, q_and, q_or, q_cmp, q_chn, q_ite, q_call, q_bi, q_isi, q_idx, q_slc, q_tup, q_lst, q_lc1, q_seq, q_tru, q_tand, q_tor, q_tnot, q_tyes, q_nil, q_cons, q_lnil, q_lcons, q_rnil, q_rcons, q_asg, q_asgT, q_par, q_ret, q_if, q_for, q_frz, q_snil, q_scons, kB2.eq_1, kB1.eq_1, kC2.eq_1, kC1.eq_1, kN2.eq_1, kN1.eq_1, kCall.eq_1, kBi.eq_1, kIs.eq_1, kX2.eq_1, kX1.eq_1, kS3.eq_1, kS2.eq_1, kS1.eq_1, kTup.eq_1, kLst.eq_1, kL1.eq_1, kSq.eq_1, kTru.eq_1, kTNot.eq_1, kCons.eq_1, kLk.eq_1, kConsR.eq_1, kAt.eq_1, kPar.eq_1, kFor.eq_1, kNot.eq_1, kAnd.eq_1, kAnd.eq_2, kOr.eq_1, kOr.eq_2, kN3.eq_1, kN3.eq_2, kIte.eq_1, kIte.eq_2, kTAnd.eq_1, kTAnd.eq_2, kTOr.eq_1, kTOr.eq_2, kArg.eq_1, kArg.eq_2, kRs.eq_1, kRs.eq_2, kAs.eq_1, kAs.eq_2, kRet.eq_1, kRet.eq_2, kIf.eq_1, kIf.eq_2, kThen.eq_1, kThen.eq_2, kO_s, kD_s, kBl_s, kTb_s, kIt_s, kEn_s, kVar_d, kVar_o, l_d, f_d, fin_ret, truth, okLen, LINE, r_ok, r_okS, r_of, l_o, l_b, o_l, its_l, its_t, q_set, kSe1.eq_1, kSe2.eq_1, kSe3.eq_1, q_retV, kRv_s, frzAt, en', e, e1, eq_int, hi]
      · have : n ∈ STR := by rcases hn2 with rfl | rfl <;> decide
        exact tc_tup (by simp) (by simp [i2, tc_str this])
theorem c_expr : ∀ (u : Nat) (k : Nat) (N : List Nat) (m : Mem), u ≤ 40 → Nms N → Cup m →
    ∃ v m', callF fsL glL (k + u + 3) 13 [.ref 0, .lst (N.map .str), .int u] m = .ok (.d v) m' ∧ tc (u + 1) v = true ∧ U v ≤ max 1 u ∧ Cup m'
  | u, k, N, m, hu, hN, h => by
    rw [call_eq (k := k + u + 2) (fi := b13) rfl rfl]
    have eb : b13.body = CSs.cons (CS.frz [0]) (CSs.cons (CS.ifS (CT.or (CT.tru (CE.cmp CO.lt (CE.var 2) (CE.con (D.int 2)))) (CT.tru (CE.cmp CO.eq (CE.call 11 (CEs.cons (CE.var 0) (CEs.cons (CE.con (D.int 2)) CEs.nil))) (CE.con (D.int 0))))) lfS CSs.nil)
      (CSs.cons (CS.frz [0]) (CSs.cons (CS.asg (TGt.nm 3) (CE.bin BO.add (CE.con (D.int 1)) (CE.call 11 (CEs.cons (CE.var 0) (CEs.cons (CE.bin BO.sub (CE.var 2) (CE.con (D.int 1))) CEs.nil))))) (CSs.cons (CS.frz [0, 0, 1, 3, 0, 1]) (CSs.cons (CS.ret (CE.tup (CEs.cons (CE.call 12 (CEs.cons (CE.var 0) (CEs.cons (CE.lst (CEs.cons (CE.con (D.str 1937075312)) (CEs.cons (CE.con (D.str 1937075312)) (CEs.cons (CE.con (D.str 495891409261)) (CEs.cons (CE.con (D.str 495622908276)) (CEs.cons (CE.con (D.str 1953719666)) CEs.nil)))))) CEs.nil))) (CEs.cons (CE.call 13 (CEs.cons (CE.var 0) (CEs.cons (CE.var 1) (CEs.cons (CE.var 3) CEs.nil)))) (CEs.cons (CE.call 13 (CEs.cons (CE.var 0) (CEs.cons (CE.var 1) (CEs.cons (CE.bin BO.sub (CE.var 2) (CE.var 3)) CEs.nil)))) CEs.nil))))) CSs.nil))))) := rfl
    rw [eb]
    have done : ∀ {v : D} {m' : Mem}, tc 1 v = true → U v = 1 → Cup m' → tc (u + 1) v = true ∧ U v ≤ max 1 u ∧ Cup m' := fun a b c => ⟨tc_up (by omega) a, by rw [b]; omega, c⟩
    by_cases h2 : (u : Int) < 2
    · obtain ⟨v, m', e, p1, p2, p3⟩ := lf_ok (k := k + u) (u := u) (o := none) hN h
      refine ⟨v, m', ?_, done p1 p2 p3⟩
      simp [q_var, q_con, q_glb, q_bin, q_not, q_and, q_or, q_cmp, q_chn, q_ite, q_call, q_bi, q_isi, q_idx, q_slc, q_tup, q_lst, q_lc1, q_seq, q_tru, q_tand, q_tor, q_tnot, q_tyes, q_nil, q_cons, q_lnil, q_lcons, q_rnil, q_rcons, q_asg, q_asgT, q_par, q_ret, q_if, q_for, q_frz, q_snil, q_scons, kB2.eq_1, kB1.eq_1, kC2.eq_1, kC1.eq_1, kN2.eq_1, kN1.eq_1, kCall.eq_1, kBi.eq_1, kIs.eq_1, kX2.eq_1, kX1.eq_1, kS3.eq_1, kS2.eq_1, kS1.eq_1, kTup.eq_1, kLst.eq_1, kL1.eq_1, kSq.eq_1, kTru.eq_1, kTNot.eq_1, kCons.eq_1, kLk.eq_1, kConsR.eq_1, kAt.eq_1, kPar.eq_1, kFor.eq_1, kNot.eq_1, kAnd.eq_1, kAnd.eq_2, kOr.eq_1, kOr.eq_2, kN3.eq_1, kN3.eq_2, kIte.eq_1, kIte.eq_2, kTAnd.eq_1, kTAnd.eq_2, kTOr.eq_1, kTOr.eq_2, kArg.eq_1, kArg.eq_2, kRs.eq_1, kRs.eq_2, kAs.eq_1, kAs.eq_2, kRet.eq_1, kRet.eq_2, kIf.eq_1, kIf.eq_2, kThen.eq_1, kThen.eq_2, kO_s, kD_s, kBl_s, kTb_s, kIt_s, kEn_s, kVar_d, kVar_o, l_d, f_d, fin_ret, truth, okLen, LINE, r_ok, r_okS, r_of, l_o, l_b, o_l, its_l, its_t, q_set, kSe1.eq_1, kSe2.eq_1, kSe3.eq_1, q_retV, kRv_s, frzAt, lt_int, h2, e, b13]
    · obtain ⟨i, m1, e1, _, _, h1⟩ := c_roll (k := k + u + 1) (n := 2) h (by decide) (by decide)
      by_cases hi : i = 0
      · obtain ⟨v, m', e, p1, p2, p3⟩ := lf_ok (k := k + u) (u := u) (o := none) hN h1
        refine ⟨v, m', ?_, done p1 p2 p3⟩
        simp [q_var, q_con, q_glb, q_bin, q_not, q_and, q_or, q_cmp, q_chn, q_ite, q_call, q_bi, q_isi, q_idx, q_slc, q_tup, q_lst, q_lc1, q_seq, q_tru, q_tand, q_tor, q_tnot, q_tyes, q_nil, q_cons, q_lnil, q_lcons, q_rnil, q_rcons, q_asg, q_asgT, q_par, q_ret, q_if, q_for, q_frz, q_snil, q_scons, kB2.eq_1, kB1.eq_1, kC2.eq_1, kC1.eq_1, kN2.eq_1, kN1.eq_1, kCall.eq_1, kBi.eq_1, kIs.eq_1, kX2.eq_1, kX1.eq_1, kS3.eq_1, kS2.eq_1, kS1.eq_1, kTup.eq_1, kLst.eq_1, kL1.eq_1, kSq.eq_1, kTru.eq_1, kTNot.eq_1, kCons.eq_1, kLk.eq_1, kConsR.eq_1, kAt.eq_1, kPar.eq_1, kFor.eq_1, kNot.eq_1, kAnd.eq_1, kAnd.eq_2, kOr.eq_1, kOr.eq_2, kN3.eq_1, kN3.eq_2, kIte.eq_1, kIte.eq_2, kTAnd.eq_1, kTAnd.eq_2, kTOr.eq_1, kTOr.eq_2, kArg.eq_1, kArg.eq_2, kRs.eq_1, kRs.eq_2, kAs.eq_1, kAs.eq_2, kRet.eq_1, kRet.eq_2, kIf.eq_1, kIf.eq_2, kThen.eq_1, kThen.eq_2, kO_s, kD_s, kBl_s, kTb_s, kIt_s, kEn_s, kVar_d, kVar_o, l_d, f_d, fin_ret, truth, okLen, LINE, r_ok, r_okS, r_of, l_o, l_b, o_l, its_l, its_t, q_set, kSe1.eq_1, kSe2.eq_1, kSe3.eq_1, q_retV, kRv_s, frzAt, lt_int, h2, e, e1, eq_int, hi, b13]
      · obtain ⟨j, m2, e2, j0, j1, h3⟩ := c_roll (k := k + u + 1) (n := (u : Int) - 1) h1 (by omega) (by omega)
        obtain ⟨a, ea⟩ : ∃ a : Nat, (a : Int) = 1 + j := ⟨(1 + j).toNat, by omega⟩
        obtain ⟨b, ebb⟩ : ∃ b : Nat, (b : Int) = u - (1 + j) := ⟨(u - (1 + j)).toNat, by omega⟩
        have ha : a < u := by omega
        have hb : b < u := by omega
        obtain ⟨s, m3, e3, hs, h4⟩ := c_some (k := k + u) (xs := [.str 1937075312, .str 1937075312, .str 495891409261, .str 495622908276, .str 1953719666]) h3 (by simp) (by simp)
        obtain ⟨x, m4, e4, x1, x2, h5⟩ := c_expr a (k + (u - a) - 1) N m3 (by omega) hN h4
        obtain ⟨y, m5, e5, y1, y2, h6⟩ := c_expr b (k + (u - b) - 1) N m4 (by omega) hN h5
        rw [show k + (u - a) - 1 + a + 3 = k + u + 2 by omega, ea] at e4
        rw [show k + (u - b) - 1 + b + 3 = k + u + 2 by omega, ebb] at e5
        obtain ⟨t, rfl, ht⟩ : ∃ t, s = .str t ∧ t ∈ SG := by
          simp only [List.mem_cons, List.not_mem_nil, or_false] at hs
          rcases hs with rfl | rfl | rfl | rfl | rfl <;> exact ⟨_, rfl, by decide⟩
        refine ⟨.tup [.str t, x, y], m5, ?_, tc_tup (by simp) ?_, ?_, h6⟩
        · simp [q_var, q_con, q_glb, q_bin, q_not, q_and, q_or, q_cmp, q_chn, q_ite, q_call, q_bi, q_isi, q_idx, q_slc, q_tup, q_lst, q_lc1, q_seq, q_tru, q_tand, q_tor, q_tnot, q_tyes, q_nil, q_cons, q_lnil, q_lcons, q_rnil, q_rcons, q_asg, q_asgT, q_par, q_ret, q_if, q_for, q_frz, q_snil, q_scons, kB2.eq_1, kB1.eq_1, kC2.eq_1, kC1.eq_1, kN2.eq_1, kN1.eq_1, kCall.eq_1, kBi.eq_1, kIs.eq_1, kX2.eq_1, kX1.eq_1, kS3.eq_1, kS2.eq_1, kS1.eq_1, kTup.eq_1, kLst.eq_1, kL1.eq_1, kSq.eq_1, kTru.eq_1, kTNot.eq_1, kCons.eq_1, kLk.eq_1, kConsR.eq_1, kAt.eq_1, kPar.eq_1, kFor.eq_1, kNot.eq_1, kAnd.eq_1, kAnd.eq_2, kOr.eq_1, kOr.eq_2, kN3.eq_1, kN3.eq_2, kIte.eq_1, kIte.eq_2, kTAnd.eq_1, kTAnd.eq_2, kTOr.eq_1, kTOr.eq_2, kArg.eq_1, kArg.eq_2, kRs.eq_1, kRs.eq_2, kAs.eq_1, kAs.eq_2, kRet.eq_1, kRet.eq_2, kIf.eq_1, kIf.eq_2, kThen.eq_1, kThen.eq_2, kO_s, kD_s, kBl_s, kTb_s, kIt_s, kEn_s, kVar_d, kVar_o, l_d, f_d, fin_ret, truth, okLen, LINE, r_ok, r_okS, r_of, l_o, l_b, o_l, its_l, its_t, q_set, kSe1.eq_1, kSe2.eq_1, kSe3.eq_1, q_retV, kRv_s, frzAt, lt_int, h2, e1, eq_int, hi, bin_addI, bin_sub, e2, e3, e4, e5, b13]
        · have := tc_up (m := u) (by omega) x1
          have := tc_up (m := u) (by omega) y1
          simp [*, tc_str (SG_STR ht)]
        · rw [U_node (n := u) (by omega) ht (tc_up (by omega) x1) (tc_up (by omega) y1)]
          omega
  termination_by u => u
end K47

set_option Elab.async false
set_option linter.all false
set_option maxRecDepth 100000
set_option maxHeartbeats 4000000
namespace K47
open Gx
theorem lk_pl {s n : Nat} (h : s ∈ PL) : lk (n + 1) (.tup [.str s]) = (1, 1) := by simp only [lk, if_pos h]
theorem lk_cm {s n : Nat} {x y : D} (h : s ∈ CM) (hx : U x ≤ 5) (hy : U y ≤ 5) : lk (n + 1) (.tup [.str s, x, y]) = (1, 1) := by
  have : s ∉ JO := by
    rcases kinds2 s with ⟨a, b, c, d⟩ | ⟨a, b, c, d⟩ | ⟨a, b, c, d⟩ | ⟨a, b, c, d⟩ | ⟨a, b, c, d⟩ <;> first | exact d | exact absurd h b
  simp only [lk, if_neg this, h, hx, hy, and_self, if_pos]
theorem lk_al {s n : Nat} {x : D} (h : s ∈ AL) : lk (n + 1) (.tup [.str s, x]) = ((lk n x).1, 1 + (lk n x).2) := by simp only [lk, if_pos h]
theorem lk_jo {s n : Nat} {x y : D} (h : s ∈ JO) : lk (n + 1) (.tup [.str s, x, y]) = ((lk n x).1 + (lk n y).1, 1 + max (lk n x).2 (lk n y).2) := by simp only [lk, if_pos h]
theorem lk_60 {n : Nat} {v : D} (hn : n ≤ 50) (h : tc n v = true) : lk 59 v = lk 60 v := (lk_stable (n := 59) (n' := 60) (tr_mono (by omega) (tc_tr h)) (by omega)).symm
theorem PL_STR {s : Nat} (h : s ∈ PL) : s ∈ STR := by
  simp only [PL, List.mem_cons, List.not_mem_nil, or_false] at h
  rcases h with rfl | rfl <;> decide
theorem CM_STR {s : Nat} (h : s ∈ CM) : s ∈ STR := by
  simp only [CM, List.mem_cons, List.not_mem_nil, or_false] at h
  rcases h with rfl | rfl | rfl | rfl <;> decide
theorem AL_STR {s : Nat} (h : s ∈ AL) : s ∈ STR := by
  simp only [AL, List.mem_cons, List.not_mem_nil, or_false] at h
  rcases h with rfl | rfl | rfl | rfl | rfl | rfl | rfl <;> decide
theorem JO_STR {s : Nat} (h : s ∈ JO) : s ∈ STR := by
  simp only [JO, List.mem_cons, List.not_mem_nil, or_false] at h
  rcases h with rfl | rfl <;> decide
theorem c_leafd (k : Nat) {N : List Nat} {m : Mem} (hN : Nms N) (h : Cup m) :
    ∃ v m', callF fsL glL (k + 6) 14 [.ref 0, .lst (N.map .str)] m = .ok (.d v) m' ∧ tc 4 v = true ∧ lk 60 v = (1, 1) ∧ Cup m' := by
  rw [call_eq (k := k + 5) (fi := b14) rfl rfl]
  obtain ⟨i, m1, e1, _, _, h1⟩ := c_roll (k := k + 4) (n := 9) h (by decide) (by decide)
  by_cases hi : i = 0
  · obtain ⟨s, m2, e2, hs, h2⟩ := c_some (k := k + 3) (xs := [.tup [.str 1702195828], .tup [.str 435728179558]]) h1 (by simp) (by simp)
    obtain ⟨t, rfl, ht⟩ : ∃ t, s = .tup [.str t] ∧ t ∈ PL := by
      simp only [List.mem_cons, List.not_mem_nil, or_false] at hs
      rcases hs with rfl | rfl <;> exact ⟨_, rfl, by decide⟩
    refine ⟨.tup [.str t], m2, ?_, tc_tup (by simp) (by simp [tc_str (PL_STR ht)]), lk_pl ht, h2⟩
    simp [b14, q_var, q_con, q_glb, q_bin, q_not, q_and, q_or, q_cmp, q_chn, q_ite, q_call, q_bi, q_isi, q_idx, q_slc, q_tup, q_lst, q_lc1, q_seq, q_tru, q_tand, q_tor, q_tnot, q_tyes, q_nil, q_cons, q_lnil, q_lcons, q_rnil, q_rcons, q_asg, q_asgT, q_par, q_ret, q_if, q_for, q_frz, q_snil, q_scons, kB2.eq_1, kB1.eq_1, kC2.eq_1, kC1.eq_1, kN2.eq_1, kN1.eq_1, kCall.eq_1, kBi.eq_1, kIs.eq_1, kX2.eq_1, kX1.eq_1, kS3.eq_1, kS2.eq_1, kS1.eq_1, kTup.eq_1, kLst.eq_1, kL1.eq_1, kSq.eq_1, kTru.eq_1, kTNot.eq_1, kCons.eq_1, kLk.eq_1, kConsR.eq_1, kAt.eq_1, kPar.eq_1, kFor.eq_1, kNot.eq_1, kAnd.eq_1, kAnd.eq_2, kOr.eq_1, kOr.eq_2, kN3.eq_1, kN3.eq_2, kIte.eq_1, kIte.eq_2, kTAnd.eq_1, kTAnd.eq_2, kTOr.eq_1, kTOr.eq_2, kArg.eq_1, kArg.eq_2, kRs.eq_1, kRs.eq_2, kAs.eq_1, kAs.eq_2, kRet.eq_1, kRet.eq_2, kIf.eq_1, kIf.eq_2, kThen.eq_1, kThen.eq_2, kO_s, kD_s, kBl_s, kTb_s, kIt_s, kEn_s, kVar_d, kVar_o, l_d, f_d, fin_ret, truth, okLen, LINE, r_ok, r_okS, r_of, l_o, l_b, o_l, its_l, its_t, q_set, kSe1.eq_1, kSe2.eq_1, kSe3.eq_1, q_retV, kRv_s, frzAt, e1, eq_int, hi, e2]
  · obtain ⟨s, m2, e2, hs, h2⟩ := c_some (k := k + 3) (xs := [.str 1701667187, .str 111512004619893, .str 1936942444, .str 1953722221]) h1 (by simp) (by simp)
    obtain ⟨t, rfl, ht⟩ : ∃ t, s = .str t ∧ t ∈ CM := by
      simp only [List.mem_cons, List.not_mem_nil, or_false] at hs
      rcases hs with rfl | rfl | rfl | rfl <;> exact ⟨_, rfl, by decide⟩
    obtain ⟨x, m3, e3, x1, x2, h3⟩ := c_expr 2 k N m2 (by omega) hN h2
    obtain ⟨y, m4, e4, y1, y2, h4⟩ := c_expr 2 k N m3 (by omega) hN h3
    refine ⟨.tup [.str t, x, y], m4, ?_, tc_tup (by simp) (by simp [tc_str (CM_STR ht), x1, y1]), lk_cm ht (by omega) (by omega), h4⟩
    rw [show k + 2 + 3 = k + 5 from rfl] at e3 e4
    simp at e3 e4
    simp [b14, q_var, q_con, q_glb, q_bin, q_not, q_and, q_or, q_cmp, q_chn, q_ite, q_call, q_bi, q_isi, q_idx, q_slc, q_tup, q_lst, q_lc1, q_seq, q_tru, q_tand, q_tor, q_tnot, q_tyes, q_nil, q_cons, q_lnil, q_lcons, q_rnil, q_rcons, q_asg, q_asgT, q_par, q_ret, q_if, q_for, q_frz, q_snil, q_scons, kB2.eq_1, kB1.eq_1, kC2.eq_1, kC1.eq_1, kN2.eq_1, kN1.eq_1, kCall.eq_1, kBi.eq_1, kIs.eq_1, kX2.eq_1, kX1.eq_1, kS3.eq_1, kS2.eq_1, kS1.eq_1, kTup.eq_1, kLst.eq_1, kL1.eq_1, kSq.eq_1, kTru.eq_1, kTNot.eq_1, kCons.eq_1, kLk.eq_1, kConsR.eq_1, kAt.eq_1, kPar.eq_1, kFor.eq_1, kNot.eq_1, kAnd.eq_1, kAnd.eq_2, kOr.eq_1, kOr.eq_2, kN3.eq_1, kN3.eq_2, kIte.eq_1, kIte.eq_2, kTAnd.eq_1, kTAnd.eq_2, kTOr.eq_1, kTOr.eq_2, kArg.eq_1, kArg.eq_2, kRs.eq_1, kRs.eq_2, kAs.eq_1, kAs.eq_2, kRet.eq_1, kRet.eq_2, kIf.eq_1, kIf.eq_2, kThen.eq_1, kThen.eq_2, kO_s, kD_s, kBl_s, kTb_s, kIt_s, kEn_s, kVar_d, kVar_o, l_d, f_d, fin_ret, truth, okLen, LINE, r_ok, r_okS, r_of, l_o, l_b, o_l, its_l, its_t, q_set, kSe1.eq_1, kSe2.eq_1, kSe3.eq_1, q_retV, kRv_s, frzAt, e1, eq_int, hi, e2, e3, e4]
theorem pow2 {d : Nat} (h : 2 ≤ d) : (2 : Int) ^ (d - 1) = 2 * 2 ^ (d - 1 - 1) := by
  obtain ⟨e, rfl⟩ : ∃ e, d = e + 2 := ⟨d - 2, by omega⟩
  show (2 : Int) ^ (e + 1) = 2 * 2 ^ e
  rw [Int.pow_succ]
  omega
theorem c_claim : ∀ (d k : Nat) (m : Mem), 1 ≤ d → d ≤ 30 → Cup m →
    ∃ v m', callF fsL glL (k + d + 7) 15 [.ref 0, .int d] m = .ok (.d v) m' ∧ tc (d + 4) v = true ∧ (lk 60 v).1 ≤ 2 ^ (d - 1) ∧ (lk 60 v).2 ≤ d ∧ Cup m'
  | d, k, m, hd, hd2, h => by
    rw [call_eq (k := k + d + 6) (fi := b15) rfl rfl]
    have ab : Nms [97, 25442] := ⟨by simp, by simp⟩
    have one : (1 : Int) ≤ 2 ^ (d - 1) := by
      have : (0 : Int) < 2 ^ (d - 1) := Int.pow_pos (by decide)
      omega
    by_cases h2 : (d : Int) < 2
    · obtain ⟨v, m1, e1, v1, v2, h1⟩ := c_leafd (k + d) ab h
      simp at e1
      refine ⟨v, m1, ?_, tc_up (by omega) v1, by rw [v2]; exact one, by rw [v2]; simp; omega, h1⟩
      simp [b15, q_var, q_con, q_glb, q_bin, q_not, q_and, q_or, q_cmp, q_chn, q_ite, q_call, q_bi, q_isi, q_idx, q_slc, q_tup, q_lst, q_lc1, q_seq, q_tru, q_tand, q_tor, q_tnot, q_tyes, q_nil, q_cons, q_lnil, q_lcons, q_rnil, q_rcons, q_asg, q_asgT, q_par, q_ret, q_if, q_for, q_frz, q_snil, q_scons, kB2.eq_1, kB1.eq_1, kC2.eq_1, kC1.eq_1, kN2.eq_1, kN1.eq_1, kCall.eq_1, kBi.eq_1, kIs.eq_1, kX2.eq_1, kX1.eq_1, kS3.eq_1, kS2.eq_1, kS1.eq_1, kTup.eq_1, kLst.eq_1, kL1.eq_1, kSq.eq_1, kTru.eq_1, kTNot.eq_1, kCons.eq_1, kLk.eq_1, kConsR.eq_1, kAt.eq_1, kPar.eq_1, kFor.eq_1, kNot.eq_1, kAnd.eq_1, kAnd.eq_2, kOr.eq_1, kOr.eq_2, kN3.eq_1, kN3.eq_2, kIte.eq_1, kIte.eq_2, kTAnd.eq_1, kTAnd.eq_2, kTOr.eq_1, kTOr.eq_2, kArg.eq_1, kArg.eq_2, kRs.eq_1, kRs.eq_2, kAs.eq_1, kAs.eq_2, kRet.eq_1, kRet.eq_2, kIf.eq_1, kIf.eq_2, kThen.eq_1, kThen.eq_2, kO_s, kD_s, kBl_s, kTb_s, kIt_s, kEn_s, kVar_d, kVar_o, l_d, f_d, fin_ret, truth, okLen, LINE, r_ok, r_okS, r_of, l_o, l_b, o_l, its_l, its_t, q_set, kSe1.eq_1, kSe2.eq_1, kSe3.eq_1, q_retV, kRv_s, frzAt, lt_int, h2, e1]
    · obtain ⟨i, m1, e1, _, _, h1⟩ := c_roll (k := k + d + 5) (n := 4) h (by decide) (by decide)
      by_cases hi : i = 0
      · obtain ⟨v, m2, e2, v1, v2, h2'⟩ := c_leafd (k + d) ab h1
        simp at e2
        refine ⟨v, m2, ?_, tc_up (by omega) v1, by rw [v2]; exact one, by rw [v2]; simp; omega, h2'⟩
        simp [b15, q_var, q_con, q_glb, q_bin, q_not, q_and, q_or, q_cmp, q_chn, q_ite, q_call, q_bi, q_isi, q_idx, q_slc, q_tup, q_lst, q_lc1, q_seq, q_tru, q_tand, q_tor, q_tnot, q_tyes, q_nil, q_cons, q_lnil, q_lcons, q_rnil, q_rcons, q_asg, q_asgT, q_par, q_ret, q_if, q_for, q_frz, q_snil, q_scons, kB2.eq_1, kB1.eq_1, kC2.eq_1, kC1.eq_1, kN2.eq_1, kN1.eq_1, kCall.eq_1, kBi.eq_1, kIs.eq_1, kX2.eq_1, kX1.eq_1, kS3.eq_1, kS2.eq_1, kS1.eq_1, kTup.eq_1, kLst.eq_1, kL1.eq_1, kSq.eq_1, kTru.eq_1, kTNot.eq_1, kCons.eq_1, kLk.eq_1, kConsR.eq_1, kAt.eq_1, kPar.eq_1, kFor.eq_1, kNot.eq_1, kAnd.eq_1, kAnd.eq_2, kOr.eq_1, kOr.eq_2, kN3.eq_1, kN3.eq_2, kIte.eq_1, kIte.eq_2, kTAnd.eq_1, kTAnd.eq_2, kTOr.eq_1, kTOr.eq_2, kArg.eq_1, kArg.eq_2, kRs.eq_1, kRs.eq_2, kAs.eq_1, kAs.eq_2, kRet.eq_1, kRet.eq_2, kIf.eq_1, kIf.eq_2, kThen.eq_1, kThen.eq_2, kO_s, kD_s, kBl_s, kTb_s, kIt_s, kEn_s, kVar_d, kVar_o, l_d, f_d, fin_ret, truth, okLen, LINE, r_ok, r_okS, r_of, l_o, l_b, o_l, its_l, its_t, q_set, kSe1.eq_1, kSe2.eq_1, kSe3.eq_1, q_retV, kRv_s, frzAt, lt_int, h2, e1, eq_int, hi, e2]
      · have hdd : 2 ≤ d := by omega
        have p2 := pow2 hdd
        have ed : (d : Int) - 1 = ((d - 1 : Nat) : Int) := by omega
        obtain ⟨j, m2, e2, _, _, h3⟩ := c_roll (k := k + d + 5) (n := 3) h1 (by decide) (by decide)
        by_cases hj : j = 0
        · obtain ⟨s, m3, e3, hs, h4⟩ := c_some (k := k + d + 4) (xs := [.str 6581857, .str 29295]) h3 (by simp) (by simp)
          obtain ⟨t, rfl, ht⟩ : ∃ t, s = .str t ∧ t ∈ JO := by
            simp only [List.mem_cons, List.not_mem_nil, or_false] at hs
            rcases hs with rfl | rfl <;> exact ⟨_, rfl, by decide⟩
          obtain ⟨x, m4, e4, x1, x2, x3, h5⟩ := c_claim (d - 1) k m3 (by omega) (by omega) h4
          obtain ⟨y, m5, e5, y1, y2, y3, h6⟩ := c_claim (d - 1) k m4 (by omega) (by omega) h5
          rw [show k + (d - 1) + 7 = k + d + 6 by omega, ← ed] at e4 e5
          have lx : lk 60 (.tup [.str t, x, y]) = ((lk 60 x).1 + (lk 60 y).1, 1 + max (lk 60 x).2 (lk 60 y).2) := by
            rw [lk_jo (n := 59) ht, lk_60 (by omega) x1, lk_60 (by omega) y1]
          refine ⟨.tup [.str t, x, y], m5, ?_, tc_tup (n := d + 3) (by simp) ?_, ?_, ?_, h6⟩
          · simp [b15, q_var, q_con, q_glb, q_bin, q_not, q_and, q_or, q_cmp, q_chn, q_ite, q_call, q_bi, q_isi, q_idx, q_slc, q_tup, q_lst, q_lc1, q_seq, q_tru, q_tand, q_tor, q_tnot, q_tyes, q_nil, q_cons, q_lnil, q_lcons, q_rnil, q_rcons, q_asg, q_asgT, q_par, q_ret, q_if, q_for, q_frz, q_snil, q_scons, kB2.eq_1, kB1.eq_1, kC2.eq_1, kC1.eq_1, kN2.eq_1, kN1.eq_1, kCall.eq_1, kBi.eq_1, kIs.eq_1, kX2.eq_1, kX1.eq_1, kS3.eq_1, kS2.eq_1, kS1.eq_1, kTup.eq_1, kLst.eq_1, kL1.eq_1, kSq.eq_1, kTru.eq_1, kTNot.eq_1, kCons.eq_1, kLk.eq_1, kConsR.eq_1, kAt.eq_1, kPar.eq_1, kFor.eq_1, kNot.eq_1, kAnd.eq_1, kAnd.eq_2, kOr.eq_1, kOr.eq_2, kN3.eq_1, kN3.eq_2, kIte.eq_1, kIte.eq_2, kTAnd.eq_1, kTAnd.eq_2, kTOr.eq_1, kTOr.eq_2, kArg.eq_1, kArg.eq_2, kRs.eq_1, kRs.eq_2, kAs.eq_1, kAs.eq_2, kRet.eq_1, kRet.eq_2, kIf.eq_1, kIf.eq_2, kThen.eq_1, kThen.eq_2, kO_s, kD_s, kBl_s, kTb_s, kIt_s, kEn_s, kVar_d, kVar_o, l_d, f_d, fin_ret, truth, okLen, LINE, r_ok, r_okS, r_of, l_o, l_b, o_l, its_l, its_t, q_set, kSe1.eq_1, kSe2.eq_1, kSe3.eq_1, q_retV, kRv_s, frzAt, lt_int, h2, e1, eq_int, hi, e2, hj, e3, bin_sub, e4, e5]
          · have := tc_up (m := d + 3) (by omega) x1
            have := tc_up (m := d + 3) (by omega) y1
            simp [*, tc_str (JO_STR ht)]
          · rw [lx]
            simp only
            omega
          · rw [lx]
            simp only
            omega
        · obtain ⟨s, m3, e3, hs, h4⟩ := c_some (k := k + d + 4) (xs := [.str 7630702, .str 1701670771, .str 1751343461, .str 26213, .str 26209, .str 26469, .str 26465]) h3 (by simp) (by simp)
          obtain ⟨t, rfl, ht⟩ : ∃ t, s = .str t ∧ t ∈ AL := by
            simp only [List.mem_cons, List.not_mem_nil, or_false] at hs
            rcases hs with rfl | rfl | rfl | rfl | rfl | rfl | rfl <;> exact ⟨_, rfl, by decide⟩
          obtain ⟨x, m4, e4, x1, x2, x3, h5⟩ := c_claim (d - 1) k m3 (by omega) (by omega) h4
          rw [show k + (d - 1) + 7 = k + d + 6 by omega, ← ed] at e4
          have lx : lk 60 (.tup [.str t, x]) = ((lk 60 x).1, 1 + (lk 60 x).2) := by
            rw [lk_al (n := 59) ht, lk_60 (by omega) x1]
          have q : (0 : Int) < 2 ^ (d - 1 - 1) := Int.pow_pos (by decide)
          refine ⟨.tup [.str t, x], m4, ?_, tc_tup (n := d + 3) (by simp) ?_, ?_, ?_, h5⟩
          · simp [b15, q_var, q_con, q_glb, q_bin, q_not, q_and, q_or, q_cmp, q_chn, q_ite, q_call, q_bi, q_isi, q_idx, q_slc, q_tup, q_lst, q_lc1, q_seq, q_tru, q_tand, q_tor, q_tnot, q_tyes, q_nil, q_cons, q_lnil, q_lcons, q_rnil, q_rcons, q_asg, q_asgT, q_par, q_ret, q_if, q_for, q_frz, q_snil, q_scons, kB2.eq_1, kB1.eq_1, kC2.eq_1, kC1.eq_1, kN2.eq_1, kN1.eq_1, kCall.eq_1, kBi.eq_1, kIs.eq_1, kX2.eq_1, kX1.eq_1, kS3.eq_1, kS2.eq_1, kS1.eq_1, kTup.eq_1, kLst.eq_1, kL1.eq_1, kSq.eq_1, kTru.eq_1, kTNot.eq_1, kCons.eq_1, kLk.eq_1, kConsR.eq_1, kAt.eq_1, kPar.eq_1, kFor.eq_1, kNot.eq_1, kAnd.eq_1, kAnd.eq_2, kOr.eq_1, kOr.eq_2, kN3.eq_1, kN3.eq_2, kIte.eq_1, kIte.eq_2, kTAnd.eq_1, kTAnd.eq_2, kTOr.eq_1, kTOr.eq_2, kArg.eq_1, kArg.eq_2, kRs.eq_1, kRs.eq_2, kAs.eq_1, kAs.eq_2, kRet.eq_1, kRet.eq_2, kIf.eq_1, kIf.eq_2, kThen.eq_1, kThen.eq_2, kO_s, kD_s, kBl_s, kTb_s, kIt_s, kEn_s, kVar_d, kVar_o, l_d, f_d, fin_ret, truth, okLen, LINE, r_ok, r_okS, r_of, l_o, l_b, o_l, its_l, its_t, q_set, kSe1.eq_1, kSe2.eq_1, kSe3.eq_1, q_retV, kRv_s, frzAt, lt_int, h2, e1, eq_int, hi, e2, hj, e3, bin_sub, e4]
          · have := tc_up (m := d + 3) (by omega) x1
            simp [*, tc_str (AL_STR ht)]
          · rw [lx]
            simp only
            omega
          · rw [lx]
            simp only
            omega
  termination_by d => d
theorem c_sum : ∀ (u k : Nat) (m : Mem), 1 ≤ u → u ≤ 40 → Cup m →
    ∃ v m', callF fsL glL (k + u + 3) 19 [.ref 0, .int u] m = .ok (.d v) m' ∧ tc (u + 1) v = true ∧ U v = u ∧ Cup m'
  | u, k, m, hu, hu2, h => by
    rw [call_eq (k := k + u + 2) (fi := b19) rfl rfl]
    by_cases h2 : (u : Int) < 2
    · obtain ⟨s, m1, e1, hs, h1⟩ := c_some (k := k + u) (xs := [.tup [.str 29545, .int 9], .tup [.str 26223, .str 97]]) h (by simp) (by simp)
      have ps : tc 1 s = true ∧ U s = 1 := by
        simp only [List.mem_cons, List.not_mem_nil, or_false] at hs
        rcases hs with rfl | rfl
        · exact ⟨by decide, U_is (by decide) (by decide)⟩
        · exact ⟨by decide, U_of2 (.inl rfl)⟩
      refine ⟨s, m1, ?_, tc_up (by omega) ps.1, by rw [ps.2]; omega, h1⟩
      simp [b19, q_var, q_con, q_glb, q_bin, q_not, q_and, q_or, q_cmp, q_chn, q_ite, q_call, q_bi, q_isi, q_idx, q_slc, q_tup, q_lst, q_lc1, q_seq, q_tru, q_tand, q_tor, q_tnot, q_tyes, q_nil, q_cons, q_lnil, q_lcons, q_rnil, q_rcons, q_asg, q_asgT, q_par, q_ret, q_if, q_for, q_frz, q_snil, q_scons, kB2.eq_1, kB1.eq_1, kC2.eq_1, kC1.eq_1, kN2.eq_1, kN1.eq_1, kCall.eq_1, kBi.eq_1, kIs.eq_1, kX2.eq_1, kX1.eq_1, kS3.eq_1, kS2.eq_1, kS1.eq_1, kTup.eq_1, kLst.eq_1, kL1.eq_1, kSq.eq_1, kTru.eq_1, kTNot.eq_1, kCons.eq_1, kLk.eq_1, kConsR.eq_1, kAt.eq_1, kPar.eq_1, kFor.eq_1, kNot.eq_1, kAnd.eq_1, kAnd.eq_2, kOr.eq_1, kOr.eq_2, kN3.eq_1, kN3.eq_2, kIte.eq_1, kIte.eq_2, kTAnd.eq_1, kTAnd.eq_2, kTOr.eq_1, kTOr.eq_2, kArg.eq_1, kArg.eq_2, kRs.eq_1, kRs.eq_2, kAs.eq_1, kAs.eq_2, kRet.eq_1, kRet.eq_2, kIf.eq_1, kIf.eq_2, kThen.eq_1, kThen.eq_2, kO_s, kD_s, kBl_s, kTb_s, kIt_s, kEn_s, kVar_d, kVar_o, l_d, f_d, fin_ret, truth, okLen, LINE, r_ok, r_okS, r_of, l_o, l_b, o_l, its_l, its_t, q_set, kSe1.eq_1, kSe2.eq_1, kSe3.eq_1, q_retV, kRv_s, frzAt, lt_int, h2, e1]
    · obtain ⟨j, m1, e1, j0, j1, h1⟩ := c_roll (k := k + u + 1) (n := (u : Int) - 1) h (by omega) (by omega)
      obtain ⟨a, ea⟩ : ∃ a : Nat, (a : Int) = 1 + j := ⟨(1 + j).toNat, by omega⟩
      obtain ⟨b, ebb⟩ : ∃ b : Nat, (b : Int) = u - (1 + j) := ⟨(u - (1 + j)).toNat, by omega⟩
      have ha : a < u := by omega
      have hb : b < u := by omega
      obtain ⟨s, m2, e2, hs, h3⟩ := c_some (k := k + u) (xs := [.str 1937075312, .str 495891409261, .str 495622908276, .str 1953719666]) h1 (by simp) (by simp)
      obtain ⟨t, rfl, ht⟩ : ∃ t, s = .str t ∧ t ∈ SG := by
        simp only [List.mem_cons, List.not_mem_nil, or_false] at hs
        rcases hs with rfl | rfl | rfl | rfl <;> exact ⟨_, rfl, by decide⟩
      obtain ⟨x, m3, e3, x1, x2, h4⟩ := c_sum a (k + (u - a) - 1) m2 (by omega) (by omega) h3
      obtain ⟨y, m4, e4, y1, y2, h5⟩ := c_sum b (k + (u - b) - 1) m3 (by omega) (by omega) h4
      rw [show k + (u - a) - 1 + a + 3 = k + u + 2 by omega, ea] at e3
      rw [show k + (u - b) - 1 + b + 3 = k + u + 2 by omega, ebb] at e4
      refine ⟨.tup [.str t, x, y], m4, ?_, tc_tup (by simp) ?_, ?_, h5⟩
      · simp [b19, q_var, q_con, q_glb, q_bin, q_not, q_and, q_or, q_cmp, q_chn, q_ite, q_call, q_bi, q_isi, q_idx, q_slc, q_tup, q_lst, q_lc1, q_seq, q_tru, q_tand, q_tor, q_tnot, q_tyes, q_nil, q_cons, q_lnil, q_lcons, q_rnil, q_rcons, q_asg, q_asgT, q_par, q_ret, q_if, q_for, q_frz, q_snil, q_scons, kB2.eq_1, kB1.eq_1, kC2.eq_1, kC1.eq_1, kN2.eq_1, kN1.eq_1, kCall.eq_1, kBi.eq_1, kIs.eq_1, kX2.eq_1, kX1.eq_1, kS3.eq_1, kS2.eq_1, kS1.eq_1, kTup.eq_1, kLst.eq_1, kL1.eq_1, kSq.eq_1, kTru.eq_1, kTNot.eq_1, kCons.eq_1, kLk.eq_1, kConsR.eq_1, kAt.eq_1, kPar.eq_1, kFor.eq_1, kNot.eq_1, kAnd.eq_1, kAnd.eq_2, kOr.eq_1, kOr.eq_2, kN3.eq_1, kN3.eq_2, kIte.eq_1, kIte.eq_2, kTAnd.eq_1, kTAnd.eq_2, kTOr.eq_1, kTOr.eq_2, kArg.eq_1, kArg.eq_2, kRs.eq_1, kRs.eq_2, kAs.eq_1, kAs.eq_2, kRet.eq_1, kRet.eq_2, kIf.eq_1, kIf.eq_2, kThen.eq_1, kThen.eq_2, kO_s, kD_s, kBl_s, kTb_s, kIt_s, kEn_s, kVar_d, kVar_o, l_d, f_d, fin_ret, truth, okLen, LINE, r_ok, r_okS, r_of, l_o, l_b, o_l, its_l, its_t, q_set, kSe1.eq_1, kSe2.eq_1, kSe3.eq_1, q_retV, kRv_s, frzAt, lt_int, h2, bin_addI, bin_sub, e1, e2, e3, e4]
      · have := tc_up (m := u) (by omega) x1
        have := tc_up (m := u) (by omega) y1
        simp [*, tc_str (SG_STR ht)]
      · rw [U_node (n := u) (by omega) ht (tc_up (by omega) x1) (tc_up (by omega) y1), x2, y2]
        omega
  termination_by u => u
end K47

set_option Elab.async false
set_option linter.all false
set_option maxRecDepth 100000
set_option maxHeartbeats 4000000
namespace K47
open Gx
theorem slc_t1 {xs : List D} {i : Int} : slcV (.tup xs) .non (.int i) = some (.d (.tup (cut xs none (some i)))) := rfl
theorem slc_t2 {xs : List D} {i : Int} : slcV (.tup xs) (.int i) .non = some (.d (.tup (cut xs (some i) none))) := rfl
theorem slc_t3 {xs : List D} {i j : Int} : slcV (.tup xs) (.int i) (.int j) = some (.d (.tup (cut xs (some i) (some j)))) := rfl
theorem cut_mem {xs : List D} {l h : Option Int} {x : D} (m : x ∈ cut xs l h) : x ∈ xs := List.mem_of_mem_drop (List.mem_of_mem_take m)
theorem cut_len {xs : List D} {l h : Option Int} : (cut xs l h).length ≤ xs.length := by
  simp only [cut, List.length_take, List.length_drop]
  omega
theorem bin_tup {xs ys : List D} (h : (xs ++ ys).length ≤ 16777216) : binV .add (.tup xs) (.tup ys) = some (.d (.tup (xs ++ ys))) := by
  have : okLen (xs ++ ys) = true := Nat.ble_eq_true_of_le h
  simp only [binV, this, if_pos]
theorem bi_lenT {xs : List D} : biV .len [.tup xs] = some (.d (.int xs.length)) := rfl
theorem bi_listT {xs : List D} : biV .list [.tup xs] = some (.own (.lst xs)) := rfl
theorem tr_tupI {n : Nat} {xs : List D} (hl : xs.length ≤ 16) (h : ∀ x ∈ xs, tr n x = true) : tr (n + 1) (.tup xs) = true := by
  simp only [tr, Bool.and_eq_true]
  exact ⟨Nat.ble_eq_true_of_le hl, trs_all.mpr h⟩
theorem tr_lstI {n : Nat} {xs : List D} (hl : xs.length ≤ 16) (h : ∀ x ∈ xs, tr n x = true) : tr (n + 1) (.lst xs) = true := by
  simp only [tr, Bool.and_eq_true]
  exact ⟨Nat.ble_eq_true_of_le hl, trs_all.mpr h⟩
/-- a value, or a list of one's own -/
def Gv (r : Rv) (x : D) : Prop := r = .d x ∨ ∃ xs, r = .own (.lst xs) ∧ x = .lst xs
theorem kArg_g {cl : Cl} {gl : Gl} {as : CEs} {e : Env} {r : Rv} {x : D} {m : Mem} (h : Gv r x) : kArg cl gl as e (.ok r m) = kCons x (evEs cl gl as e m) := by
  rcases h with rfl | ⟨xs, rfl, rfl⟩ <;> rfl
theorem isTup_of {x : D} (h : pl x = true) : isTys x [.tuple] = some (match x with
    | .tup _ => true
    | _ => false) := by
  cases x <;> first | rfl | (cases h; done)
theorem tc_tupD {n : Nat} {xs : List D} (h : tc n (.tup xs) = true) : ∃ k, n = k + 1 ∧ xs.length ≤ 3 ∧ ∀ x ∈ xs, tc k x = true := by
  cases n with
  | zero => simp [tc] at h
  | succ k =>
    simp only [tc, Bool.and_eq_true] at h
    exact ⟨k, rfl, Nat.le_of_ble_eq_true h.1, tcs_all.mp h.2⟩
def odds : List D := [.non, .tup [], .lst [], .int 0, .str 97, .str 1702195828, .str 495925030507, .tup [.str 1702195828], .tup [.str 26213], .tup [.str 29545, .int 3], .tup [.str 26223, .str 97], .tup [.str 7630702, .tup [.str 1702195828]], .tup [.str 1701667187, .tup [.str 29545, .int 1]]]
theorem odds_tr : ∀ x ∈ odds, tr 4 x = true := trs_all.mp (by decide)
theorem c_spoil : ∀ (n k : Nat) (v : D) (m : Mem), n ≤ 40 → tc n v = true → Cup m →
    ∃ r x m', callF fsL glL (k + n + 3) 18 [.ref 0, v] m = .ok r m' ∧ Gv r x ∧ tr (n + 4) x = true ∧ Cup m'
  | n, k, v, m, hn, hv, h => by
    have tv := tc_tr hv
    have e0 := isTup_of (tr_pl tv)
    have odd : ∀ {m1 : Mem}, Cup m1 → ∃ x m', callF fsL glL (k + n + 2) 12 [.ref 0, .lst odds] m1 = .ok (.d x) m' ∧ tr (n + 4) x = true ∧ Cup m' := fun {m1} h1 => by
      obtain ⟨x, m', e, hx, h2⟩ := c_some (k := k + n) (xs := odds) h1 (by decide) (by decide)
      exact ⟨x, m', e, tr_mono (by omega) (odds_tr x hx), h2⟩
    by_cases hi : ∃ xs, v = .tup xs
    · obtain ⟨xs, rfl⟩ := hi
      obtain ⟨n', rfl, hl, hx⟩ := tc_tupD hv
      have e1 := eq_nil (by omega) tv
      rw [call_eq (k := k + (n' + 1) + 2) (fi := b18) rfl rfl]
      by_cases hxs : xs = []
      · subst hxs
        obtain ⟨x, m', e, h1, h2⟩ := odd h
        simp only [odds] at e
        simp at e1
        refine ⟨_, x, m', ?_, .inl rfl, h1, h2⟩
        simp [b18, q_var, q_con, q_glb, q_bin, q_not, q_and, q_or, q_cmp, q_chn, q_ite, q_call, q_bi, q_isi, q_idx, q_slc, q_tup, q_lst, q_lc1, q_seq, q_tru, q_tand, q_tor, q_tnot, q_tyes, q_nil, q_cons, q_lnil, q_lcons, q_rnil, q_rcons, q_asg, q_asgT, q_par, q_ret, q_if, q_for, q_frz, q_snil, q_scons, kB2.eq_1, kB1.eq_1, kC2.eq_1, kC1.eq_1, kN2.eq_1, kN1.eq_1, kCall.eq_1, kBi.eq_1, kIs.eq_1, kX2.eq_1, kX1.eq_1, kS3.eq_1, kS2.eq_1, kS1.eq_1, kTup.eq_1, kLst.eq_1, kL1.eq_1, kSq.eq_1, kTru.eq_1, kTNot.eq_1, kCons.eq_1, kLk.eq_1, kConsR.eq_1, kAt.eq_1, kPar.eq_1, kFor.eq_1, kNot.eq_1, kAnd.eq_1, kAnd.eq_2, kOr.eq_1, kOr.eq_2, kN3.eq_1, kN3.eq_2, kIte.eq_1, kIte.eq_2, kTAnd.eq_1, kTAnd.eq_2, kTOr.eq_1, kTOr.eq_2, kArg.eq_1, kArg.eq_2, kRs.eq_1, kRs.eq_2, kAs.eq_1, kAs.eq_2, kRet.eq_1, kRet.eq_2, kIf.eq_1, kIf.eq_2, kThen.eq_1, kThen.eq_2, kO_s, kD_s, kBl_s, kTb_s, kIt_s, kEn_s, kVar_d, kVar_o, l_d, f_d, fin_ret, truth, okLen, LINE, r_ok, r_okS, r_of, l_o, l_b, o_l, its_l, its_t, q_set, kSe1.eq_1, kSe2.eq_1, kSe3.eq_1, q_retV, kRv_s, frzAt, e0, e1, e]
      · have e1' : cmpV .eq (.tup xs) (.tup []) = some false := by
          rw [e1]
          cases xs with
          | nil => exact absurd rfl hxs
          | cons a b => rfl
        have hp : 1 ≤ xs.length := by
          cases xs with
          | nil => exact absurd rfl hxs
          | cons a b => simp
        obtain ⟨i, m1, e2, _, _, h1⟩ := c_roll (k := k + (n' + 1) + 1) (n := 6) h (by decide) (by decide)
        by_cases hi : i = 0
        · obtain ⟨x, m', e, h2, h3⟩ := odd h1
          simp only [odds] at e
          refine ⟨_, x, m', ?_, .inl rfl, h2, h3⟩
          simp [b18, q_var, q_con, q_glb, q_bin, q_not, q_and, q_or, q_cmp, q_chn, q_ite, q_call, q_bi, q_isi, q_idx, q_slc, q_tup, q_lst, q_lc1, q_seq, q_tru, q_tand, q_tor, q_tnot, q_tyes, q_nil, q_cons, q_lnil, q_lcons, q_rnil, q_rcons, q_asg, q_asgT, q_par, q_ret, q_if, q_for, q_frz, q_snil, q_scons, kB2.eq_1, kB1.eq_1, kC2.eq_1, kC1.eq_1, kN2.eq_1, kN1.eq_1, kCall.eq_1, kBi.eq_1, kIs.eq_1, kX2.eq_1, kX1.eq_1, kS3.eq_1, kS2.eq_1, kS1.eq_1, kTup.eq_1, kLst.eq_1, kL1.eq_1, kSq.eq_1, kTru.eq_1, kTNot.eq_1, kCons.eq_1, kLk.eq_1, kConsR.eq_1, kAt.eq_1, kPar.eq_1, kFor.eq_1, kNot.eq_1, kAnd.eq_1, kAnd.eq_2, kOr.eq_1, kOr.eq_2, kN3.eq_1, kN3.eq_2, kIte.eq_1, kIte.eq_2, kTAnd.eq_1, kTAnd.eq_2, kTOr.eq_1, kTOr.eq_2, kArg.eq_1, kArg.eq_2, kRs.eq_1, kRs.eq_2, kAs.eq_1, kAs.eq_2, kRet.eq_1, kRet.eq_2, kIf.eq_1, kIf.eq_2, kThen.eq_1, kThen.eq_2, kO_s, kD_s, kBl_s, kTb_s, kIt_s, kEn_s, kVar_d, kVar_o, l_d, f_d, fin_ret, truth, okLen, LINE, r_ok, r_okS, r_of, l_o, l_b, o_l, its_l, its_t, q_set, kSe1.eq_1, kSe2.eq_1, kSe3.eq_1, q_retV, kRv_s, frzAt, e0, e1', e2, eq_int, hi, e]
        · obtain ⟨a, m2, e3, a0, a1, h2⟩ := c_roll (k := k + (n' + 1) + 1) (n := (xs.length : Int)) h1 (by omega) (by omega)
          obtain ⟨w, m3, e4, _, _, h3⟩ := c_roll (k := k + (n' + 1) + 1) (n := 9) h2 (by decide) (by decide)
          have t4 : ∀ {y : D}, y ∈ xs → tr (n' + 4) y = true := fun hy => tr_mono (by omega) (tc_tr (hx _ hy))
          have cl : ∀ l h, (cut xs l h).length ≤ 3 := fun l h => Nat.le_trans cut_len hl
          by_cases w0 : w = 0
          · refine ⟨_, .tup (cut xs none (some a) ++ cut xs (some (a + 1)) none), m3, ?_, .inl rfl, ?_, h3⟩
            · have lb : (cut xs none (some a) ++ cut xs (some (a + 1)) none).length ≤ 16777216 := by
                rw [List.length_append]
                have := cl none (some a)
                have := cl (some (a + 1)) none
                omega
              simp [b18, q_var, q_con, q_glb, q_bin, q_not, q_and, q_or, q_cmp, q_chn, q_ite, q_call, q_bi, q_isi, q_idx, q_slc, q_tup, q_lst, q_lc1, q_seq, q_tru, q_tand, q_tor, q_tnot, q_tyes, q_nil, q_cons, q_lnil, q_lcons, q_rnil, q_rcons, q_asg, q_asgT, q_par, q_ret, q_if, q_for, q_frz, q_snil, q_scons, kB2.eq_1, kB1.eq_1, kC2.eq_1, kC1.eq_1, kN2.eq_1, kN1.eq_1, kCall.eq_1, kBi.eq_1, kIs.eq_1, kX2.eq_1, kX1.eq_1, kS3.eq_1, kS2.eq_1, kS1.eq_1, kTup.eq_1, kLst.eq_1, kL1.eq_1, kSq.eq_1, kTru.eq_1, kTNot.eq_1, kCons.eq_1, kLk.eq_1, kConsR.eq_1, kAt.eq_1, kPar.eq_1, kFor.eq_1, kNot.eq_1, kAnd.eq_1, kAnd.eq_2, kOr.eq_1, kOr.eq_2, kN3.eq_1, kN3.eq_2, kIte.eq_1, kIte.eq_2, kTAnd.eq_1, kTAnd.eq_2, kTOr.eq_1, kTOr.eq_2, kArg.eq_1, kArg.eq_2, kRs.eq_1, kRs.eq_2, kAs.eq_1, kAs.eq_2, kRet.eq_1, kRet.eq_2, kIf.eq_1, kIf.eq_2, kThen.eq_1, kThen.eq_2, kO_s, kD_s, kBl_s, kTb_s, kIt_s, kEn_s, kVar_d, kVar_o, l_d, f_d, fin_ret, truth, okLen, LINE, r_ok, r_okS, r_of, l_o, l_b, o_l, its_l, its_t, q_set, kSe1.eq_1, kSe2.eq_1, kSe3.eq_1, q_retV, kRv_s, frzAt, e0, e1', e2, eq_int, hi, bi_lenT, e3, e4, setAll, w0, slc_t1, slc_t2, bin_addI, bin_tup lb]
            · refine tr_tupI (n := n' + 4) ?_ fun y hy => ?_
              · rw [List.length_append]
                have := cl none (some a)
                have := cl (some (a + 1)) none
                omega
              · rcases List.mem_append.mp hy with q | q <;> exact t4 (cut_mem q)
          · by_cases w1 : w = 1
            · have c1 := cl none (some a)
              have c2 := cl (some a) (some (a + 1))
              have c3 := cl (some a) none
              refine ⟨_, .tup ((cut xs none (some a) ++ cut xs (some a) (some (a + 1))) ++ cut xs (some a) none), m3, ?_, .inl rfl, ?_, h3⟩
              · have l1 : (cut xs none (some a) ++ cut xs (some a) (some (a + 1))).length ≤ 16777216 := by
                  rw [List.length_append]
                  omega
                have l2 : ((cut xs none (some a) ++ cut xs (some a) (some (a + 1))) ++ cut xs (some a) none).length ≤ 16777216 := by
                  rw [List.length_append, List.length_append]
                  omega
                have b1 := bin_tup l1
                have b2 := bin_tup l2
                generalize cut xs none (some a) ++ cut xs (some a) (some (a + 1)) = P at *
                generalize P ++ cut xs (some a) none = Z at *
                simp [b18, q_var, q_con, q_glb, q_bin, q_not, q_and, q_or, q_cmp, q_chn, q_ite, q_call, q_bi, q_isi, q_idx, q_slc, q_tup, q_lst, q_lc1, q_seq, q_tru, q_tand, q_tor, q_tnot, q_tyes, q_nil, q_cons, q_lnil, q_lcons, q_rnil, q_rcons, q_asg, q_asgT, q_par, q_ret, q_if, q_for, q_frz, q_snil, q_scons, kB2.eq_1, kB1.eq_1, kC2.eq_1, kC1.eq_1, kN2.eq_1, kN1.eq_1, kCall.eq_1, kBi.eq_1, kIs.eq_1, kX2.eq_1, kX1.eq_1, kS3.eq_1, kS2.eq_1, kS1.eq_1, kTup.eq_1, kLst.eq_1, kL1.eq_1, kSq.eq_1, kTru.eq_1, kTNot.eq_1, kCons.eq_1, kLk.eq_1, kConsR.eq_1, kAt.eq_1, kPar.eq_1, kFor.eq_1, kNot.eq_1, kAnd.eq_1, kAnd.eq_2, kOr.eq_1, kOr.eq_2, kN3.eq_1, kN3.eq_2, kIte.eq_1, kIte.eq_2, kTAnd.eq_1, kTAnd.eq_2, kTOr.eq_1, kTOr.eq_2, kArg.eq_1, kArg.eq_2, kRs.eq_1, kRs.eq_2, kAs.eq_1, kAs.eq_2, kRet.eq_1, kRet.eq_2, kIf.eq_1, kIf.eq_2, kThen.eq_1, kThen.eq_2, kO_s, kD_s, kBl_s, kTb_s, kIt_s, kEn_s, kVar_d, kVar_o, l_d, f_d, fin_ret, truth, okLen, LINE, r_ok, r_okS, r_of, l_o, l_b, o_l, its_l, its_t, q_set, kSe1.eq_1, kSe2.eq_1, kSe3.eq_1, q_retV, kRv_s, frzAt, e0, e1', e2, eq_int, hi, bi_lenT, e3, e4, setAll, w1, slc_t1, slc_t2, slc_t3, bin_addI, b1, b2]
              · refine tr_tupI (n := n' + 4) ?_ fun y hy => ?_
                · rw [List.length_append, List.length_append]
                  omega
                · rcases List.mem_append.mp hy with q | q
                  · rcases List.mem_append.mp q with q | q <;> exact t4 (cut_mem q)
                  · exact t4 (cut_mem q)
            · by_cases w2 : w = 2
              · refine ⟨_, .lst xs, m3, ?_, .inr ⟨xs, rfl, rfl⟩, tr_lstI (n := n' + 4) (by omega) fun y hy => t4 hy, h3⟩
                simp [b18, q_var, q_con, q_glb, q_bin, q_not, q_and, q_or, q_cmp, q_chn, q_ite, q_call, q_bi, q_isi, q_idx, q_slc, q_tup, q_lst, q_lc1, q_seq, q_tru, q_tand, q_tor, q_tnot, q_tyes, q_nil, q_cons, q_lnil, q_lcons, q_rnil, q_rcons, q_asg, q_asgT, q_par, q_ret, q_if, q_for, q_frz, q_snil, q_scons, kB2.eq_1, kB1.eq_1, kC2.eq_1, kC1.eq_1, kN2.eq_1, kN1.eq_1, kCall.eq_1, kBi.eq_1, kIs.eq_1, kX2.eq_1, kX1.eq_1, kS3.eq_1, kS2.eq_1, kS1.eq_1, kTup.eq_1, kLst.eq_1, kL1.eq_1, kSq.eq_1, kTru.eq_1, kTNot.eq_1, kCons.eq_1, kLk.eq_1, kConsR.eq_1, kAt.eq_1, kPar.eq_1, kFor.eq_1, kNot.eq_1, kAnd.eq_1, kAnd.eq_2, kOr.eq_1, kOr.eq_2, kN3.eq_1, kN3.eq_2, kIte.eq_1, kIte.eq_2, kTAnd.eq_1, kTAnd.eq_2, kTOr.eq_1, kTOr.eq_2, kArg.eq_1, kArg.eq_2, kRs.eq_1, kRs.eq_2, kAs.eq_1, kAs.eq_2, kRet.eq_1, kRet.eq_2, kIf.eq_1, kIf.eq_2, kThen.eq_1, kThen.eq_2, kO_s, kD_s, kBl_s, kTb_s, kIt_s, kEn_s, kVar_d, kVar_o, l_d, f_d, fin_ret, truth, okLen, LINE, r_ok, r_okS, r_of, l_o, l_b, o_l, its_l, its_t, q_set, kSe1.eq_1, kSe2.eq_1, kSe3.eq_1, q_retV, kRv_s, frzAt, e0, e1', e2, eq_int, hi, bi_lenT, e3, e4, setAll, w0, w1, w2, bi_listT]
              · obtain ⟨y, hy, ey⟩ := at_in (xs := xs) a0 a1
                have ey' : ∀ m, idxV (.tup xs) (.int a) m = some y := fun m => ey
                obtain ⟨r, x, m4, e5, g5, x5, h4⟩ := c_spoil n' k y m3 (by omega) (hx y hy) h3
                rw [show k + n' + 3 = k + (n' + 1) + 2 by omega] at e5
                have c1 := cl none (some a)
                have c3 := cl (some (a + 1)) none
                refine ⟨_, .tup ((cut xs none (some a) ++ [x]) ++ cut xs (some (a + 1)) none), m4, ?_, .inl rfl, ?_, h4⟩
                · have l1 : (cut xs none (some a) ++ [x]).length ≤ 16777216 := by
                    rw [List.length_append]
                    simp
                    omega
                  have l2 : ((cut xs none (some a) ++ [x]) ++ cut xs (some (a + 1)) none).length ≤ 16777216 := by
                    rw [List.length_append, List.length_append]
                    simp only [List.length_singleton]
                    omega
                  have b1 := bin_tup l1
                  have b2 := bin_tup l2
                  generalize cut xs none (some a) ++ [x] = P at *
                  generalize P ++ cut xs (some (a + 1)) none = Z at *
                  simp [b18, q_var, q_con, q_glb, q_bin, q_not, q_and, q_or, q_cmp, q_chn, q_ite, q_call, q_bi, q_isi, q_idx, q_slc, q_tup, q_lst, q_lc1, q_seq, q_tru, q_tand, q_tor, q_tnot, q_tyes, q_nil, q_cons, q_lnil, q_lcons, q_rnil, q_rcons, q_asg, q_asgT, q_par, q_ret, q_if, q_for, q_frz, q_snil, q_scons, kB2.eq_1, kB1.eq_1, kC2.eq_1, kC1.eq_1, kN2.eq_1, kN1.eq_1, kCall.eq_1, kBi.eq_1, kIs.eq_1, kX2.eq_1, kX1.eq_1, kS3.eq_1, kS2.eq_1, kS1.eq_1, kTup.eq_1, kLst.eq_1, kL1.eq_1, kSq.eq_1, kTru.eq_1, kTNot.eq_1, kCons.eq_1, kLk.eq_1, kConsR.eq_1, kAt.eq_1, kPar.eq_1, kFor.eq_1, kNot.eq_1, kAnd.eq_1, kAnd.eq_2, kOr.eq_1, kOr.eq_2, kN3.eq_1, kN3.eq_2, kIte.eq_1, kIte.eq_2, kTAnd.eq_1, kTAnd.eq_2, kTOr.eq_1, kTOr.eq_2, kArg.eq_1, kArg.eq_2, kRs.eq_1, kRs.eq_2, kAs.eq_1, kAs.eq_2, kRet.eq_1, kRet.eq_2, kIf.eq_1, kIf.eq_2, kThen.eq_1, kThen.eq_2, kO_s, kD_s, kBl_s, kTb_s, kIt_s, kEn_s, kVar_d, kVar_o, l_d, f_d, fin_ret, truth, okLen, LINE, r_ok, r_okS, r_of, l_o, l_b, o_l, its_l, its_t, q_set, kSe1.eq_1, kSe2.eq_1, kSe3.eq_1, q_retV, kRv_s, frzAt, e0, e1', e2, eq_int, hi, bi_lenT, e3, e4, setAll, w0, w1, w2, slc_t1, slc_t2, slc_t3, bin_addI, ey', e5, kArg_g g5, b1, b2]
                · refine tr_tupI (n := n' + 4) ?_ fun z hz => ?_
                  · rw [List.length_append, List.length_append]
                    simp only [List.length_singleton]
                    omega
                  · rcases List.mem_append.mp hz with q | q
                    · rcases List.mem_append.mp q with q | q
                      · exact t4 (cut_mem q)
                      · simp at q
                        rw [q]
                        exact x5
                    · exact t4 (cut_mem q)
    · have e0' : isTys v [.tuple] = some false := by
        rw [e0]
        cases v with
        | tup xs => exact absurd ⟨xs, rfl⟩ hi
        | _ => rfl
      obtain ⟨x, m', e, h1, h2⟩ := odd h
      simp only [odds] at e
      rw [call_eq (k := k + n + 2) (fi := b18) rfl rfl]
      refine ⟨_, x, m', ?_, .inl rfl, h1, h2⟩
      simp [b18, q_var, q_con, q_glb, q_bin, q_not, q_and, q_or, q_cmp, q_chn, q_ite, q_call, q_bi, q_isi, q_idx, q_slc, q_tup, q_lst, q_lc1, q_seq, q_tru, q_tand, q_tor, q_tnot, q_tyes, q_nil, q_cons, q_lnil, q_lcons, q_rnil, q_rcons, q_asg, q_asgT, q_par, q_ret, q_if, q_for, q_frz, q_snil, q_scons, kB2.eq_1, kB1.eq_1, kC2.eq_1, kC1.eq_1, kN2.eq_1, kN1.eq_1, kCall.eq_1, kBi.eq_1, kIs.eq_1, kX2.eq_1, kX1.eq_1, kS3.eq_1, kS2.eq_1, kS1.eq_1, kTup.eq_1, kLst.eq_1, kL1.eq_1, kSq.eq_1, kTru.eq_1, kTNot.eq_1, kCons.eq_1, kLk.eq_1, kConsR.eq_1, kAt.eq_1, kPar.eq_1, kFor.eq_1, kNot.eq_1, kAnd.eq_1, kAnd.eq_2, kOr.eq_1, kOr.eq_2, kN3.eq_1, kN3.eq_2, kIte.eq_1, kIte.eq_2, kTAnd.eq_1, kTAnd.eq_2, kTOr.eq_1, kTOr.eq_2, kArg.eq_1, kArg.eq_2, kRs.eq_1, kRs.eq_2, kAs.eq_1, kAs.eq_2, kRet.eq_1, kRet.eq_2, kIf.eq_1, kIf.eq_2, kThen.eq_1, kThen.eq_2, kO_s, kD_s, kBl_s, kTb_s, kIt_s, kEn_s, kVar_d, kVar_o, l_d, f_d, fin_ret, truth, okLen, LINE, r_ok, r_okS, r_of, l_o, l_b, o_l, its_l, its_t, q_set, kSe1.eq_1, kSe2.eq_1, kSe3.eq_1, q_retV, kRv_s, frzAt, e0', e]
  termination_by n => n
end K47

set_option Elab.async false
set_option linter.all false
set_option maxRecDepth 100000
set_option maxHeartbeats 4000000
namespace K47
open Gx
abbrev CL : Cl := callF fsL glL 99
theorem bi_listL {xs : List D} : biV .list [.lst xs] = some (.own (.lst xs)) := rfl
theorem c_cup (k : Nat) (ns : List Int) (hl : ns.length ≤ 63) : ∃ m, callF fsL glL (k + 1) 10 [.lst (ns.map .int)] [] = .ok (.d (.ref 0)) m ∧ Cup m := by
  rw [call_eq (k := k) (fi := b10) rfl rfl]
  have lb : (ns.map D.int ++ [D.int 0]).length ≤ 16777216 := by simp; omega
  have bl := bin_lst (L := ns.map D.int) (M := [D.int 0]) lb
  obtain ⟨c, hc⟩ : ∃ c, idxV (.lst (ns.map D.int ++ [D.int 0])) (.int 0) [] = some (.int c) := by
    cases ns with
    | nil => exact ⟨0, rfl⟩
    | cons n ns => exact ⟨n, by rw [List.map_cons, List.cons_append]; exact ixL0⟩
  generalize hd : (if c < 0 then -c else c) = d
  have d0 : 0 ≤ d := by rw [← hd]; split <;> omega
  have ba : biV .abs [.int c] = some (.d (.int d)) := by rw [← hd]; rfl
  have bp : binV .pow (.int 10) (.int 18) = some (.d (.int 1000000000000000000)) := by rfl
  have f1 := bin_fdiv (a := d) (n := 79) (by decide) (by decide)
  have f2 := bin_mulR (a := d) (n := 293) (by decide) (by decide)
  have f3 := bin_mod (a := d * 293 + 2903) (n := 2077503127) (by decide)
  have y0 : 0 ≤ (d * 293 + 2903).fmod 2077503127 := Int.fmod_nonneg_of_pos _ (by omega)
  have y1 : (d * 293 + 2903).fmod 2077503127 < 2077503127 := Int.fmod_lt_of_pos _ (by omega)
  by_cases h : 1000000000000000000 ≤ d
  · refine ⟨CM2 (d.fdiv 79) ((d * 293 + 2903).fmod 2077503127 + 181), ?_, _, _, rfl, Int.fdiv_nonneg (by omega) (by omega), by omega, by omega⟩
    simp [b10, q_var, q_con, q_glb, q_bin, q_not, q_and, q_or, q_cmp, q_chn, q_ite, q_call, q_bi, q_isi, q_idx, q_slc, q_tup, q_lst, q_lc1, q_seq, q_tru, q_tand, q_tor, q_tnot, q_tyes, q_nil, q_cons, q_lnil, q_lcons, q_rnil, q_rcons, q_asg, q_asgT, q_par, q_ret, q_if, q_for, q_frz, q_snil, q_scons, kB2.eq_1, kB1.eq_1, kC2.eq_1, kC1.eq_1, kN2.eq_1, kN1.eq_1, kCall.eq_1, kBi.eq_1, kIs.eq_1, kX2.eq_1, kX1.eq_1, kS3.eq_1, kS2.eq_1, kS1.eq_1, kTup.eq_1, kLst.eq_1, kL1.eq_1, kSq.eq_1, kTru.eq_1, kTNot.eq_1, kCons.eq_1, kLk.eq_1, kConsR.eq_1, kAt.eq_1, kPar.eq_1, kFor.eq_1, kNot.eq_1, kAnd.eq_1, kAnd.eq_2, kOr.eq_1, kOr.eq_2, kN3.eq_1, kN3.eq_2, kIte.eq_1, kIte.eq_2, kTAnd.eq_1, kTAnd.eq_2, kTOr.eq_1, kTOr.eq_2, kArg.eq_1, kArg.eq_2, kRs.eq_1, kRs.eq_2, kAs.eq_1, kAs.eq_2, kRet.eq_1, kRet.eq_2, kIf.eq_1, kIf.eq_2, kThen.eq_1, kThen.eq_2, kO_s, kD_s, kBl_s, kTb_s, kIt_s, kEn_s, kVar_d, kVar_o, l_d, f_d, fin_ret, truth, okLen, LINE, r_ok, r_okS, r_of, l_o, l_b, o_l, its_l, its_t, q_set, kSe1.eq_1, kSe2.eq_1, kSe3.eq_1, q_retV, kRv_s, bi_listL, bl, hc, ba, bp, ge_int, h, f1, f2, f3, bin_addI, bi_int, q_lstP, kLstP, CM2]
  · refine ⟨CM2 0 ((d * 293 + 2903).fmod 2077503127 + 181), ?_, _, _, rfl, by omega, by omega, by omega⟩
    simp [b10, q_var, q_con, q_glb, q_bin, q_not, q_and, q_or, q_cmp, q_chn, q_ite, q_call, q_bi, q_isi, q_idx, q_slc, q_tup, q_lst, q_lc1, q_seq, q_tru, q_tand, q_tor, q_tnot, q_tyes, q_nil, q_cons, q_lnil, q_lcons, q_rnil, q_rcons, q_asg, q_asgT, q_par, q_ret, q_if, q_for, q_frz, q_snil, q_scons, kB2.eq_1, kB1.eq_1, kC2.eq_1, kC1.eq_1, kN2.eq_1, kN1.eq_1, kCall.eq_1, kBi.eq_1, kIs.eq_1, kX2.eq_1, kX1.eq_1, kS3.eq_1, kS2.eq_1, kS1.eq_1, kTup.eq_1, kLst.eq_1, kL1.eq_1, kSq.eq_1, kTru.eq_1, kTNot.eq_1, kCons.eq_1, kLk.eq_1, kConsR.eq_1, kAt.eq_1, kPar.eq_1, kFor.eq_1, kNot.eq_1, kAnd.eq_1, kAnd.eq_2, kOr.eq_1, kOr.eq_2, kN3.eq_1, kN3.eq_2, kIte.eq_1, kIte.eq_2, kTAnd.eq_1, kTAnd.eq_2, kTOr.eq_1, kTOr.eq_2, kArg.eq_1, kArg.eq_2, kRs.eq_1, kRs.eq_2, kAs.eq_1, kAs.eq_2, kRet.eq_1, kRet.eq_2, kIf.eq_1, kIf.eq_2, kThen.eq_1, kThen.eq_2, kO_s, kD_s, kBl_s, kTb_s, kIt_s, kEn_s, kVar_d, kVar_o, l_d, f_d, fin_ret, truth, okLen, LINE, r_ok, r_okS, r_of, l_o, l_b, o_l, its_l, its_t, q_set, kSe1.eq_1, kSe2.eq_1, kSe3.eq_1, q_retV, kRv_s, bi_listL, bl, hc, ba, bp, ge_int, h, f1, f2, f3, bin_addI, bi_int, q_lstP, kLstP, CM2]
/-- the law's first loop -/
theorem mind_ef {x y : D} (hx : tc 20 x = true) (hy : tc 20 y = true) (u : Int) (ux : U x = u) (uy : U y ≤ 5) : mind (.tup [.str 26213, .tup [.str 1936942444, x, y]]) = decide (u < 6) := by
  have l1 : lk 60 (.tup [.str 26213, .tup [.str 1936942444, x, y]]) = ((lk 59 (.tup [.str 1936942444, x, y])).1, 1 + (lk 59 (.tup [.str 1936942444, x, y])).2) := lk_al (n := 59) (by decide)
  by_cases h : u < 6
  · have l2 : lk 59 (.tup [.str 1936942444, x, y]) = (1, 1) := lk_cm (n := 58) (by decide) (by omega) uy
    rw [mind, l1, l2]
    simp [h]
  · have l2 : lk 59 (.tup [.str 1936942444, x, y]) = (99, 99) := by
      have : ∀ n, lk (n + 1) (.tup [.str 1936942444, x, y]) = (99, 99) := fun n => by
        simp only [lk]
        rw [if_neg (by decide), if_neg (by omega)]
      exact this 58
    rw [mind, l1, l2]
    simp [h]

theorem tcS {n s : Nat} : tc n (.str s) = STR.contains s := by cases n <;> rfl
theorem ne_bl {a b : Bool} : cmpV .ne (.bl a) (.bl b) = some (!(a == b)) := by
  have h1 : sh 60 (.bl a) = true := by simp [sh]
  have h2 : sh 60 (.bl b) = true := by simp [sh]
  simp only [cmpV, eqOk, h1, h2, Bool.and_self, if_pos, eqD]
theorem notB_bl {a b : Bool} : cmpV .notB (.bl a) (.bl b) = some (!(a == b)) := rfl
theorem isB_bl {a : Bool} : isTys (.bl a) [.bool] = some true := rfl
def body1 : CSs := (CSs.cons (CS.frz [1, 2, 1, 1]) (CSs.cons (CS.asg (TGt.nm 5) (CE.call 9 (CEs.cons (CE.tup (CEs.cons (CE.con (D.str 26213)) (CEs.cons (CE.tup (CEs.cons (CE.con (D.str 1936942444)) (CEs.cons (CE.call 19 (CEs.cons (CE.var 1) (CEs.cons (CE.var 2) CEs.nil))) (CEs.cons (CE.call 19 (CEs.cons (CE.var 1) (CEs.cons (CE.bin BO.add (CE.con (D.int 1)) (CE.call 11 (CEs.cons (CE.var 1) (CEs.cons (CE.con (D.int 5)) CEs.nil)))) CEs.nil))) CEs.nil)))) CEs.nil))) CEs.nil))) (CSs.cons (CS.ifS (CT.or (CT.not (CT.tru (CE.isi (CE.var 5) [TyN.bool]))) (CT.tru (CE.cmp CO.ne (CE.var 5) (CE.cmp CO.lt (CE.var 2) (CE.con (D.int 6)))))) (CSs.cons (CS.ret (CE.con (D.bl false))) CSs.nil) CSs.nil) CSs.nil)))
theorem b1_ok {s : Rv} {u : Nat} {m : Mem} {x5 x3 x4 x6 x7 x8 x9 xa xb xc xd : Option Rv} (h4 : 4 ≤ u) (h6 : u ≤ 6) (h : Cup m) :
    ∃ y5 m', evSs CL glL body1 [some s, some (.d (.ref 0)), some (.d (.int u)), x3, x4, x5, x6, x7, x8, x9, xa, xb, xc, xd] m = .nx [some s, some (.d (.ref 0)), some (.d (.int u)), x3, x4, y5, x6, x7, x8, x9, xa, xb, xc, xd] m' ∧ Cup m' := by
  obtain ⟨x, m1, e1, x1, x2, h1⟩ := c_sum u (96 - u) m (by omega) (by omega) h
  obtain ⟨j, m2, e2, j0, j1, h2⟩ := c_roll (k := 98) (n := 5) h1 (by decide) (by decide)
  obtain ⟨w, ew⟩ : ∃ w : Nat, (w : Int) = 1 + j := ⟨(1 + j).toNat, by omega⟩
  obtain ⟨y, m3, e3, y1, y2, h3⟩ := c_sum w (96 - w) m2 (by omega) (by omega) h2
  rw [show 96 - u + u + 3 = 99 by omega] at e1
  rw [show 96 - w + w + 3 = 99 by omega, ew] at e3
  have e2' : callF fsL glL 99 11 [.ref 0, .int 5] m1 = .ok (.d (.int j)) m2 := e2
  have tx := tc_up (m := 20) (by omega) x1
  have ty := tc_up (m := 20) (by omega) y1
  have tv : tc 22 (.tup [.str 26213, .tup [.str 1936942444, x, y]]) = true := tc_tup (by simp) (by
    have : tc 21 (.tup [.str 1936942444, x, y]) = true := tc_tup (by simp) (by simp [tx, ty, tcS, STR])
    simp [this, tcS, STR])
  have em : callF fsL glL 99 9 [.tup [.str 26213, .tup [.str 1936942444, x, y]]] m3 = _ := c_mind (k := 92) (n := 22) (by decide) (tc_tr tv)
  rw [mind_ef tx ty u x2 (by omega)] at em
  refine ⟨some (.d (.bl (decide ((u : Int) < 6)))), m3, ?_, h3⟩
  simp [CL, body1, q_var, q_con, q_glb, q_bin, q_not, q_and, q_or, q_cmp, q_chn, q_ite, q_call, q_bi, q_isi, q_idx, q_slc, q_tup, q_lst, q_lc1, q_seq, q_tru, q_tand, q_tor, q_tnot, q_tyes, q_nil, q_cons, q_lnil, q_lcons, q_rnil, q_rcons, q_asg, q_asgT, q_par, q_ret, q_if, q_for, q_frz, q_snil, q_scons, kB2.eq_1, kB1.eq_1, kC2.eq_1, kC1.eq_1, kN2.eq_1, kN1.eq_1, kCall.eq_1, kBi.eq_1, kIs.eq_1, kX2.eq_1, kX1.eq_1, kS3.eq_1, kS2.eq_1, kS1.eq_1, kTup.eq_1, kLst.eq_1, kL1.eq_1, kSq.eq_1, kTru.eq_1, kTNot.eq_1, kCons.eq_1, kLk.eq_1, kConsR.eq_1, kAt.eq_1, kPar.eq_1, kFor.eq_1, kNot.eq_1, kAnd.eq_1, kAnd.eq_2, kOr.eq_1, kOr.eq_2, kN3.eq_1, kN3.eq_2, kIte.eq_1, kIte.eq_2, kTAnd.eq_1, kTAnd.eq_2, kTOr.eq_1, kTOr.eq_2, kArg.eq_1, kArg.eq_2, kRs.eq_1, kRs.eq_2, kAs.eq_1, kAs.eq_2, kRet.eq_1, kRet.eq_2, kIf.eq_1, kIf.eq_2, kThen.eq_1, kThen.eq_2, kO_s, kD_s, kBl_s, kTb_s, kIt_s, kEn_s, kVar_d, kVar_o, l_d, f_d, fin_ret, truth, okLen, LINE, r_ok, r_okS, r_of, l_o, l_b, o_l, its_l, its_t, q_set, kSe1.eq_1, kSe2.eq_1, kSe3.eq_1, q_retV, kRv_s, frzAt, e1, e2', bin_addI, e3, em, isB_bl, ne_bl, lt_int]

/-! the odd claims -/
theorem lk_n2 {s n : Nat} {x : D} (h : s ∉ AL) : lk (n + 1) (.tup [.str s, x]) = (99, 99) := by simp only [lk, if_neg h]
theorem lk_n3 {s n : Nat} {x y : D} (h1 : s ∉ JO) (h2 : s ∉ CM) : lk (n + 1) (.tup [.str s, x, y]) = (99, 99) := by
  simp only [lk, if_neg h1]
  rw [if_neg fun z => h2 z.1]
theorem bad2 {s : Nat} {x : D} (h : s ∉ AL) : mind (.tup [.str s, x]) = false := by
  have : lk 60 (.tup [.str s, x]) = (99, 99) := lk_n2 (n := 59) h
  rw [mind, this]
  rfl
theorem bad3 {s : Nat} {x y : D} (h1 : s ∉ JO) (h2 : s ∉ CM) : mind (.tup [.str s, x, y]) = false := by
  have : lk 60 (.tup [.str s, x, y]) = (99, 99) := lk_n3 (n := 59) h1 h2
  rw [mind, this]
  rfl
def O1 (one two : D) : List D := [.tup [.str 1684828020, one, two], .tup [.str 465625706101, one, two], .tup [.str 495925030507, .int 0, one], .tup [.str 1936027492, .int 0], .tup [.str 1954047342, one], .tup [.str 1919252069, one], .tup [.str 126965163453537, one]]
def O2 (one : D) : List D := [.tup [.str 7233891, .tup [.int 0], one], .tup [.str 7235959, .tup [.int 0], one], .tup [.str 1684828008, .tup [.int 0], one], .tup [.str 435710683251, .tup [.int 0], one], .tup [.str 121424856313699, .tup [.int 0], one]]
def O3 (one two : D) : List D := [.tup [.str 26223, one], .tup [.str 1937075312, one, two]]
def O4 (one two : D) : List D := [.tup [.str 7630702, .tup [.str 1684828020, one, two]], .tup [.str 6581857, one, .tup [.str 1936027492, .int 0]]]
def OO (one two : D) : List D := O1 one two ++ O2 one ++ O3 one two ++ O4 one two
theorem OO_ok {one two : D} (h1 : tc 10 one = true) (h2 : tc 10 two = true) : ∀ x ∈ OO one two, tr 20 x = true ∧ mind x = false := by
  have g1 := tc_tr (tc_up (m := 11) (by decide) h1)
  have g2 := tc_tr (tc_up (m := 11) (by decide) h2)
  have a1 := tr_mono (m := 19) (by decide) (tc_tr h1)
  have a2 := tr_mono (m := 19) (by decide) (tc_tr h2)
  have b1 := tr_mono (m := 18) (by decide) (tc_tr h1)
  have b2 := tr_mono (m := 18) (by decide) (tc_tr h2)
  have p1 := (lk_pos 59 one)
  have e1 : mind (.tup [.str 7630702, .tup [.str 1684828020, one, two]]) = false := by
    have z : lk 60 (.tup [.str 7630702, .tup [.str 1684828020, one, two]]) = ((lk 59 (.tup [.str 1684828020, one, two])).1, 1 + (lk 59 (.tup [.str 1684828020, one, two])).2) := lk_al (n := 59) (by decide)
    have z2 : lk 59 (.tup [.str 1684828020, one, two]) = (99, 99) := lk_n3 (n := 58) (by decide) (by decide)
    rw [mind, z, z2]
    rfl
  have e2 : mind (.tup [.str 6581857, one, .tup [.str 1936027492, .int 0]]) = false := by
    have z : lk 60 (.tup [.str 6581857, one, .tup [.str 1936027492, .int 0]]) = ((lk 59 one).1 + (lk 59 (.tup [.str 1936027492, .int 0])).1, 1 + max (lk 59 one).2 (lk 59 (.tup [.str 1936027492, .int 0])).2) := lk_jo (n := 59) (by decide)
    have z2 : lk 59 (.tup [.str 1936027492, .int 0]) = (99, 99) := lk_n2 (n := 58) (by decide)
    rw [mind, z, z2, Bool.and_eq_false_iff]
    left
    apply decide_eq_false
    simp only
    omega
  intro x hx
  simp only [OO, O1, O2, O3, O4, List.cons_append, List.nil_append, List.mem_cons, List.not_mem_nil, or_false] at hx
  rcases hx with rfl | rfl | rfl | rfl | rfl | rfl | rfl | rfl | rfl | rfl | rfl | rfl | rfl | rfl | rfl | rfl
  · exact ⟨by simp [tr, trs, STR, a1, a2], bad3 (by decide) (by decide)⟩
  · exact ⟨by simp [tr, trs, STR, a1, a2], bad3 (by decide) (by decide)⟩
  · exact ⟨by simp [tr, trs, STR, a1, a2], bad3 (by decide) (by decide)⟩
  · exact ⟨by simp [tr, trs, STR, a1, a2], bad2 (by decide)⟩
  · exact ⟨by simp [tr, trs, STR, a1, a2], bad2 (by decide)⟩
  · exact ⟨by simp [tr, trs, STR, a1, a2], bad2 (by decide)⟩
  · exact ⟨by simp [tr, trs, STR, a1, a2], bad2 (by decide)⟩
  · exact ⟨by simp [tr, trs, STR, a1, a2], bad3 (by decide) (by decide)⟩
  · exact ⟨by simp [tr, trs, STR, a1, a2], bad3 (by decide) (by decide)⟩
  · exact ⟨by simp [tr, trs, STR, a1, a2], bad3 (by decide) (by decide)⟩
  · exact ⟨by simp [tr, trs, STR, a1, a2], bad3 (by decide) (by decide)⟩
  · exact ⟨by simp [tr, trs, STR, a1, a2], bad3 (by decide) (by decide)⟩
  · exact ⟨by simp [tr, trs, STR, a1, a2], bad2 (by decide)⟩
  · exact ⟨by simp [tr, trs, STR, a1, a2], bad3 (by decide) (by decide)⟩
  · exact ⟨by simp [tr, trs, STR, a1, a2, b1, b2], e1⟩
  · exact ⟨by simp [tr, trs, STR, a1, a2, b1, b2], e2⟩
end K47

set_option Elab.async false
set_option linter.all false
set_option maxRecDepth 100000
set_option maxHeartbeats 4000000
namespace K47
open Gx
theorem filt0 {α : Type} (l : List α) : l.filter (fun _ => false) = [] := by
  induction l with
  | nil => rfl
  | cons x l ih => rw [List.filter_cons, if_neg Bool.false_ne_true, ih]
/-- no odd claim is one -/
theorem lc_odd {one two : D} {m : Mem} {e : Env} (he : e.length = 14) (h1 : tc 10 one = true) (h2 : tc 10 two = true) :
    lcL (.nm 8) (evT CL glL (.tru (.cmp .notB (.call 9 (.cons (.var 8) .nil)) (.con (.bl false))))) (elF CL glL (.var 8)) (OO one two) e m = .ok [] m := by
  have ok := OO_ok h1 h2
  have := lcL_ok (tg := .nm 8) (c := evT CL glL (.tru (.cmp .notB (.call 9 (.cons (.var 8) .nil)) (.con (.bl false))))) (f := elF CL glL (.var 8)) (e := e) (m := m) (fun _ => false) id (OO one two) fun x hx => by
    obtain ⟨t, q⟩ := ok x hx
    have em : callF fsL glL 99 9 [x] m = _ := c_mind (k := 92) (n := 20) (by decide) t
    rw [q] at em
    refine ⟨e.set 8 (some (.d x)), by simp [asgT, he], ?_, fun z => by cases z⟩
    have g : (e.set 8 (some (Rv.d x)))[8]? = some (some (.d x)) := by simp [he]
    simp [CL, q_var, q_con, q_glb, q_bin, q_not, q_and, q_or, q_cmp, q_chn, q_ite, q_call, q_bi, q_isi, q_idx, q_slc, q_tup, q_lst, q_lc1, q_seq, q_tru, q_tand, q_tor, q_tnot, q_tyes, q_nil, q_cons, q_lnil, q_lcons, q_rnil, q_rcons, q_asg, q_asgT, q_par, q_ret, q_if, q_for, q_frz, q_snil, q_scons, kB2.eq_1, kB1.eq_1, kC2.eq_1, kC1.eq_1, kN2.eq_1, kN1.eq_1, kCall.eq_1, kBi.eq_1, kIs.eq_1, kX2.eq_1, kX1.eq_1, kS3.eq_1, kS2.eq_1, kS1.eq_1, kTup.eq_1, kLst.eq_1, kL1.eq_1, kSq.eq_1, kTru.eq_1, kTNot.eq_1, kCons.eq_1, kLk.eq_1, kConsR.eq_1, kAt.eq_1, kPar.eq_1, kFor.eq_1, kNot.eq_1, kAnd.eq_1, kAnd.eq_2, kOr.eq_1, kOr.eq_2, kN3.eq_1, kN3.eq_2, kIte.eq_1, kIte.eq_2, kTAnd.eq_1, kTAnd.eq_2, kTOr.eq_1, kTOr.eq_2, kArg.eq_1, kArg.eq_2, kRs.eq_1, kRs.eq_2, kAs.eq_1, kAs.eq_2, kRet.eq_1, kRet.eq_2, kIf.eq_1, kIf.eq_2, kThen.eq_1, kThen.eq_2, kO_s, kD_s, kBl_s, kTb_s, kIt_s, kEn_s, kVar_d, kVar_o, l_d, f_d, fin_ret, truth, okLen, LINE, r_ok, r_okS, r_of, l_o, l_b, o_l, its_l, its_t, q_set, kSe1.eq_1, kSe2.eq_1, kSe3.eq_1, q_retV, kRv_s, f_o, g, em, notB_bl]
  rw [this, filt0]
  rfl
def bodyA : CSs := (CSs.cons (CS.frz [9]) (CSs.cons (CS.asg (TGt.tp [TGt.nm 10, TGt.nm 11]) (CE.call 17 (CEs.cons (CE.var 9) CEs.nil))) (CSs.cons (CS.frz [9]) (CSs.cons (CS.asg (TGt.nm 5) (CE.call 9 (CEs.cons (CE.var 9) CEs.nil))) (CSs.cons (CS.ifS (CT.or (CT.not (CT.tru (CE.isi (CE.var 5) [TyN.bool]))) (CT.tru (CE.cmp CO.ne (CE.var 5) (CE.andE (CE.cmp CO.le (CE.var 10) (CE.con (D.int 6))) (CE.cmp CO.le (CE.var 11) (CE.con (D.int 6))))))) (CSs.cons (CS.ret (CE.con (D.bl false))) CSs.nil) CSs.nil) CSs.nil)))))
theorem bA_ok {v : D} {m : Mem} {x0 x1 x2 x3 x4 x5 x6 x7 x8 xa xb xc xd : Option Rv} (h : tr 20 v = true) :
    ∃ y5 ya yb, evSs CL glL bodyA [x0, x1, x2, x3, x4, x5, x6, x7, x8, some (.d v), xa, xb, xc, xd] m = .nx [x0, x1, x2, x3, x4, y5, x6, x7, x8, some (.d v), ya, yb, xc, xd] m := by
  have e1 : callF fsL glL 99 17 [v] m = .ok (.d (two (lk 20 v))) m := c_look 20 v 77 m (by decide) h
  have e2 : callF fsL glL 99 9 [v] m = _ := c_mind (k := 92) (n := 20) (by decide) h
  have e3 : lk 60 v = lk 20 v := lk_stable h (by decide)
  simp only [mind, e3] at e2
  refine ⟨some (.d (.bl (decide ((lk 20 v).1 ≤ 6) && decide ((lk 20 v).2 ≤ 6)))), some (.d (.int (lk 20 v).1)), some (.d (.int (lk 20 v).2)), ?_⟩
  by_cases c1 : (lk 20 v).1 ≤ 6
  · simp [CL, bodyA, q_var, q_con, q_glb, q_bin, q_not, q_and, q_or, q_cmp, q_chn, q_ite, q_call, q_bi, q_isi, q_idx, q_slc, q_tup, q_lst, q_lc1, q_seq, q_tru, q_tand, q_tor, q_tnot, q_tyes, q_nil, q_cons, q_lnil, q_lcons, q_rnil, q_rcons, q_asg, q_asgT, q_par, q_ret, q_if, q_for, q_frz, q_snil, q_scons, kB2.eq_1, kB1.eq_1, kC2.eq_1, kC1.eq_1, kN2.eq_1, kN1.eq_1, kCall.eq_1, kBi.eq_1, kIs.eq_1, kX2.eq_1, kX1.eq_1, kS3.eq_1, kS2.eq_1, kS1.eq_1, kTup.eq_1, kLst.eq_1, kL1.eq_1, kSq.eq_1, kTru.eq_1, kTNot.eq_1, kCons.eq_1, kLk.eq_1, kConsR.eq_1, kAt.eq_1, kPar.eq_1, kFor.eq_1, kNot.eq_1, kAnd.eq_1, kAnd.eq_2, kOr.eq_1, kOr.eq_2, kN3.eq_1, kN3.eq_2, kIte.eq_1, kIte.eq_2, kTAnd.eq_1, kTAnd.eq_2, kTOr.eq_1, kTOr.eq_2, kArg.eq_1, kArg.eq_2, kRs.eq_1, kRs.eq_2, kAs.eq_1, kAs.eq_2, kRet.eq_1, kRet.eq_2, kIf.eq_1, kIf.eq_2, kThen.eq_1, kThen.eq_2, kO_s, kD_s, kBl_s, kTb_s, kIt_s, kEn_s, kVar_d, kVar_o, l_d, f_d, fin_ret, truth, okLen, LINE, r_ok, r_okS, r_of, l_o, l_b, o_l, its_l, its_t, q_set, kSe1.eq_1, kSe2.eq_1, kSe3.eq_1, q_retV, kRv_s, f_o, frzAt, e1, e2, two, asgT, asgTs, isB_bl, ne_bl, le_int, c1]
  · simp [CL, bodyA, q_var, q_con, q_glb, q_bin, q_not, q_and, q_or, q_cmp, q_chn, q_ite, q_call, q_bi, q_isi, q_idx, q_slc, q_tup, q_lst, q_lc1, q_seq, q_tru, q_tand, q_tor, q_tnot, q_tyes, q_nil, q_cons, q_lnil, q_lcons, q_rnil, q_rcons, q_asg, q_asgT, q_par, q_ret, q_if, q_for, q_frz, q_snil, q_scons, kB2.eq_1, kB1.eq_1, kC2.eq_1, kC1.eq_1, kN2.eq_1, kN1.eq_1, kCall.eq_1, kBi.eq_1, kIs.eq_1, kX2.eq_1, kX1.eq_1, kS3.eq_1, kS2.eq_1, kS1.eq_1, kTup.eq_1, kLst.eq_1, kL1.eq_1, kSq.eq_1, kTru.eq_1, kTNot.eq_1, kCons.eq_1, kLk.eq_1, kConsR.eq_1, kAt.eq_1, kPar.eq_1, kFor.eq_1, kNot.eq_1, kAnd.eq_1, kAnd.eq_2, kOr.eq_1, kOr.eq_2, kN3.eq_1, kN3.eq_2, kIte.eq_1, kIte.eq_2, kTAnd.eq_1, kTAnd.eq_2, kTOr.eq_1, kTOr.eq_2, kArg.eq_1, kArg.eq_2, kRs.eq_1, kRs.eq_2, kAs.eq_1, kAs.eq_2, kRet.eq_1, kRet.eq_2, kIf.eq_1, kIf.eq_2, kThen.eq_1, kThen.eq_2, kO_s, kD_s, kBl_s, kTb_s, kIt_s, kEn_s, kVar_d, kVar_o, l_d, f_d, fin_ret, truth, okLen, LINE, r_ok, r_okS, r_of, l_o, l_b, o_l, its_l, its_t, q_set, kSe1.eq_1, kSe2.eq_1, kSe3.eq_1, q_retV, kRv_s, f_o, frzAt, e1, e2, two, asgT, asgTs, isB_bl, ne_bl, le_int, c1]

def bodyB : CSs := (CSs.cons (CS.frz [1, 1]) (CSs.cons (CS.asg (TGt.nm 8) (CE.call 15 (CEs.cons (CE.var 1) (CEs.cons (CE.bin BO.add (CE.con (D.int 2)) (CE.call 11 (CEs.cons (CE.var 1) (CEs.cons (CE.con (D.int 6)) CEs.nil)))) CEs.nil)))) (CSs.cons (CS.frz [8, 1, 8, 1, 8]) (CSs.cons (CS.forS (TGt.nm 9) (CI.seq (CE.lst (CEs.cons (CE.var 8) (CEs.cons (CE.call 18 (CEs.cons (CE.var 1) (CEs.cons (CE.var 8) CEs.nil))) (CEs.cons (CE.call 18 (CEs.cons (CE.var 1) (CEs.cons (CE.var 8) CEs.nil))) CEs.nil))))) bodyA) CSs.nil))))
def EB (s : Rv) (o one two : D) (x2 x4 x5 x8 x9 xa xb : Option Rv) (xo : Option Rv) : Env := [some s, some (.d (.ref 0)), x2, xo, x4, x5, some (.d one), some (.d two), x8, x9, xa, xb, none, none]
def WB (s : Rv) (one two : D) (xo : Option Rv) (e : Env) (m : Mem) : Prop := ∃ x2 x4 x5 x8 x9 xa xb, e = [some s, some (.d (.ref 0)), x2, xo, x4, x5, some (.d one), some (.d two), x8, x9, xa, xb, none, none] ∧ Cup m
theorem bB_ok {s : Rv} {one two : D} {xo x2 x4 x5 x8 x9 xa xb : Option Rv} {m : Mem} {R : Rv → Mem → Prop} (h : Cup m) :
    (evSs CL glL bodyB [some s, some (.d (.ref 0)), x2, xo, x4, x5, some (.d one), some (.d two), x8, x9, xa, xb, none, none] m).Sat (WB s one two xo) R := by
  obtain ⟨j, m1, e1, j0, j1, h1⟩ := c_roll (k := 98) (n := 6) h (by decide) (by decide)
  have e1' : callF fsL glL 99 11 [.ref 0, .int 6] m = .ok (.d (.int j)) m1 := e1
  obtain ⟨d, ed⟩ : ∃ d : Nat, (d : Int) = 2 + j := ⟨(2 + j).toNat, by omega⟩
  obtain ⟨v, m2, e2, v1, _, _, h2⟩ := c_claim d (92 - d) m1 (by omega) (by omega) h1
  rw [show 92 - d + d + 7 = 99 by omega, ed] at e2
  have tv := tc_up (m := 12) (by omega) v1
  obtain ⟨ra, a, m3, e3, ga, ta, h3⟩ := c_spoil 12 84 v m2 (by decide) tv h2
  obtain ⟨rb, b, m4, e4, gb, tb, h4⟩ := c_spoil 12 84 v m3 (by decide) tv h3
  have e3' : callF fsL glL 99 18 [.ref 0, v] m2 = .ok ra m3 := e3
  have e4' : callF fsL glL 99 18 [.ref 0, v] m3 = .ok rb m4 := e4
  have head : evSs CL glL bodyB [some s, some (.d (.ref 0)), x2, xo, x4, x5, some (.d one), some (.d two), x8, x9, xa, xb, none, none] m =
      kThen CL glL .nil (forL (.nm 9) (evSs CL glL bodyA) [v, a, b] [some s, some (.d (.ref 0)), x2, xo, x4, x5, some (.d one), some (.d two), some (.d v), x9, xa, xb, none, none] m4) := by
    simp [CL, bodyB, q_var, q_con, q_glb, q_bin, q_not, q_and, q_or, q_cmp, q_chn, q_ite, q_call, q_bi, q_isi, q_idx, q_slc, q_tup, q_lst, q_lc1, q_seq, q_tru, q_tand, q_tor, q_tnot, q_tyes, q_nil, q_cons, q_lnil, q_lcons, q_rnil, q_rcons, q_asg, q_asgT, q_par, q_ret, q_if, q_for, q_frz, q_snil, q_scons, kB2.eq_1, kB1.eq_1, kC2.eq_1, kC1.eq_1, kN2.eq_1, kN1.eq_1, kCall.eq_1, kBi.eq_1, kIs.eq_1, kX2.eq_1, kX1.eq_1, kS3.eq_1, kS2.eq_1, kS1.eq_1, kTup.eq_1, kLst.eq_1, kL1.eq_1, kSq.eq_1, kTru.eq_1, kTNot.eq_1, kCons.eq_1, kLk.eq_1, kConsR.eq_1, kAt.eq_1, kPar.eq_1, kFor.eq_1, kNot.eq_1, kAnd.eq_1, kAnd.eq_2, kOr.eq_1, kOr.eq_2, kN3.eq_1, kN3.eq_2, kIte.eq_1, kIte.eq_2, kTAnd.eq_1, kTAnd.eq_2, kTOr.eq_1, kTOr.eq_2, kArg.eq_1, kArg.eq_2, kRs.eq_1, kRs.eq_2, kAs.eq_1, kAs.eq_2, kRet.eq_1, kRet.eq_2, kIf.eq_1, kIf.eq_2, kThen.eq_1, kThen.eq_2, kO_s, kD_s, kBl_s, kTb_s, kIt_s, kEn_s, kVar_d, kVar_o, l_d, f_d, fin_ret, truth, okLen, LINE, r_ok, r_okS, r_of, l_o, l_b, o_l, its_l, its_t, q_set, kSe1.eq_1, kSe2.eq_1, kSe3.eq_1, q_retV, kRv_s, f_o, frzAt, e1', bin_addI, e2, e3', e4', kArg_g ga, kArg_g gb]
  rw [head]
  have tv' := tr_mono (m := 20) (by decide) (tc_tr tv)
  have ta' := tr_mono (m := 20) (by decide) ta
  have tb' := tr_mono (m := 20) (by decide) tb
  have lp : (forL (.nm 9) (evSs CL glL bodyA) [v, a, b] [some s, some (.d (.ref 0)), x2, xo, x4, x5, some (.d one), some (.d two), some (.d v), x9, xa, xb, none, none] m4).Sat (WB s one two xo) R := by
    refine sat_for (fun _ e m => WB s one two xo e m) (fun i x e m hx w => ?_) (fun e m w => w) _ _ ⟨_, _, _, _, _, _, _, rfl, h4⟩
    obtain ⟨y2, y4, y5, y8, y9, ya, yb, rfl, hc⟩ := w
    have tx : tr 20 x = true := by
      have := List.mem_of_getElem? hx
      simp only [List.mem_cons, List.not_mem_nil, or_false] at this
      rcases this with rfl | rfl | rfl
      · exact tv'
      · exact ta'
      · exact tb'
    refine ⟨_, by simp [asgT]; rfl, ?_⟩
    obtain ⟨z5, za, zb, ez⟩ := bA_ok (v := x) (m := m) (x0 := some s) (x1 := some (.d (.ref 0))) (x2 := y2) (x3 := xo) (x4 := y4) (x5 := y5) (x6 := some (.d one)) (x7 := some (.d two)) (x8 := y8) (xa := ya) (xb := yb) (xc := none) (xd := none) tx
    rw [ez]
    exact .nx ⟨_, _, _, _, _, _, _, rfl, hc⟩
  rcases lp with ⟨e, m', z, q⟩ | ⟨r, m', z, q⟩
  · rw [z]
    simp only [kThen, evSs]
    exact .nx q
  · rw [z]
    exact .ret q
theorem plain0 (ns : List Int) (hl : ns.length ≤ 63) : ∃ m, callF fsL glL 100 20 [.lst (ns.map .int)] [] = .ok (.d (.bl true)) m := by
  suffices z : (callF fsL glL 100 20 [.lst (ns.map .int)] []).Sat (fun r _ => r = .d (.bl true)) by
    obtain ⟨r, m, e, rfl⟩ := z
    exact ⟨m, e⟩
  refine sat_call (k := 99) (fi := b20) rfl rfl ?_
  obtain ⟨m0, e0, h0⟩ := c_cup 98 ns hl
  have e0' : callF fsL glL 99 10 [.lst (ns.map .int)] [] = .ok (.d (.ref 0)) m0 := e0
  simp only [b20]
  generalize hS : Rv.d (D.lst (ns.map D.int)) = S0
  refine sat_cons (M := fun e m => e = [some S0, none, none, none, none, none, none, none, none, none, none, none, none, none] ∧ m = []) (by simp [q_frz, frzAt, ← hS]; exact .nx ⟨rfl, rfl⟩) fun e m he => ?_
  obtain ⟨rfl, rfl⟩ := he
  refine sat_cons (M := fun e m => e = [some S0, some (.d (.ref 0)), none, none, none, none, none, none, none, none, none, none, none, none] ∧ Cup m) ?_ fun e m he => ?_
  · subst hS
    simp [q_var, q_con, q_glb, q_bin, q_not, q_and, q_or, q_cmp, q_chn, q_ite, q_call, q_bi, q_isi, q_idx, q_slc, q_tup, q_lst, q_lc1, q_seq, q_tru, q_tand, q_tor, q_tnot, q_tyes, q_nil, q_cons, q_lnil, q_lcons, q_rnil, q_rcons, q_asg, q_asgT, q_par, q_ret, q_if, q_for, q_frz, q_snil, q_scons, kB2.eq_1, kB1.eq_1, kC2.eq_1, kC1.eq_1, kN2.eq_1, kN1.eq_1, kCall.eq_1, kBi.eq_1, kIs.eq_1, kX2.eq_1, kX1.eq_1, kS3.eq_1, kS2.eq_1, kS1.eq_1, kTup.eq_1, kLst.eq_1, kL1.eq_1, kSq.eq_1, kTru.eq_1, kTNot.eq_1, kCons.eq_1, kLk.eq_1, kConsR.eq_1, kAt.eq_1, kPar.eq_1, kFor.eq_1, kNot.eq_1, kAnd.eq_1, kAnd.eq_2, kOr.eq_1, kOr.eq_2, kN3.eq_1, kN3.eq_2, kIte.eq_1, kIte.eq_2, kTAnd.eq_1, kTAnd.eq_2, kTOr.eq_1, kTOr.eq_2, kArg.eq_1, kArg.eq_2, kRs.eq_1, kRs.eq_2, kAs.eq_1, kAs.eq_2, kRet.eq_1, kRet.eq_2, kIf.eq_1, kIf.eq_2, kThen.eq_1, kThen.eq_2, kO_s, kD_s, kBl_s, kTb_s, kIt_s, kEn_s, kVar_d, kVar_o, l_d, f_d, fin_ret, truth, okLen, LINE, r_ok, r_okS, r_of, l_o, l_b, o_l, its_l, its_t, q_set, kSe1.eq_1, kSe2.eq_1, kSe3.eq_1, q_retV, kRv_s, f_o, e0']
    exact .nx ⟨rfl, h0⟩
  obtain ⟨rfl, h1⟩ := he
  refine sat_cons (M := fun e m => ∃ x2 x5, e = [some S0, some (.d (.ref 0)), x2, none, none, x5, none, none, none, none, none, none, none, none] ∧ Cup m) ?_ fun e m he => ?_
  · rw [q_for, q_rng2 (i := 4) (j := 7) (m1 := m) (m2 := m) (by simp [q_con]) (by simp [q_con]) (by decide) (by decide)]
    refine sat_for (fun _ e m => ∃ x2 x5, e = [some S0, some (.d (.ref 0)), x2, none, none, x5, none, none, none, none, none, none, none, none] ∧ Cup m) (fun i x e m hx w => ?_) (fun e m w => w) _ _ ⟨none, none, rfl, h1⟩
    obtain ⟨x2, x5, rfl, hc⟩ := w
    obtain ⟨u, rfl, u4, u6⟩ : ∃ u : Nat, x = .int u ∧ 4 ≤ u ∧ u ≤ 6 := by
      have hm := List.mem_of_getElem? hx
      have er : rngL 4 (7 - 4 : Int).toNat = [.int 4, .int 5, .int 6] := rfl
      rw [er] at hm
      simp only [List.mem_cons, List.not_mem_nil, or_false] at hm
      rcases hm with rfl | rfl | rfl
      · exact ⟨4, rfl, by decide, by decide⟩
      · exact ⟨5, rfl, by decide, by decide⟩
      · exact ⟨6, rfl, by decide, by decide⟩
    refine ⟨_, by simp [asgT]; rfl, ?_⟩
    obtain ⟨y5, m', eb, hc'⟩ := b1_ok (s := S0) (x5 := x5) (x3 := none) (x4 := none) (x6 := none) (x7 := none) (x8 := none) (x9 := none) (xa := none) (xb := none) (xc := none) (xd := none) u4 u6 hc
    have eb' := eb
    simp only [body1, CL] at eb'
    rw [eb']
    exact .nx ⟨_, _, rfl, hc'⟩
  obtain ⟨x2, x5, rfl, h2⟩ := he
  obtain ⟨one, m1, f1, o1, o2, o3, h3⟩ := c_claim 2 90 m (by decide) (by decide) h2
  obtain ⟨two, m2, f2, t1, t2, h4⟩ := c_leafd 93 (N := [97]) ⟨by simp, by simp⟩ h3
  have f1' : callF fsL glL 99 15 [.ref 0, .int 2] m = .ok (.d one) m1 := f1
  have f2' : callF fsL glL 99 14 [.ref 0, .lst [.str 97]] m1 = .ok (.d two) m2 := f2
  have ho := tc_up (m := 10) (by decide) o1
  have ht := tc_up (m := 10) (by decide) t1
  have em : callF fsL glL 99 9 [one] m2 = _ := c_mind (k := 92) (n := 10) (by decide) (tc_tr ho)
  have mt : mind one = true := by
    rw [mind, Bool.and_eq_true]
    exact ⟨decide_eq_true (by simp at o2; omega), decide_eq_true (by simp at o3; omega)⟩
  rw [mt] at em
  refine sat_cons (M := fun e m' => e = [some S0, some (.d (.ref 0)), x2, none, none, x5, none, none, none, none, none, none, none, none] ∧ m' = m) (by simp [q_frz, frzAt]; exact .nx ⟨rfl, rfl⟩) fun e m' he => ?_
  obtain ⟨rfl, rfl⟩ := he
  refine sat_cons (M := fun e m' => e = [some S0, some (.d (.ref 0)), x2, none, none, x5, some (.d one), some (.d two), none, none, none, none, none, none] ∧ m' = m2) ?_ fun e m' he => ?_
  · simp [q_var, q_con, q_glb, q_bin, q_not, q_and, q_or, q_cmp, q_chn, q_ite, q_call, q_bi, q_isi, q_idx, q_slc, q_tup, q_lst, q_lc1, q_seq, q_tru, q_tand, q_tor, q_tnot, q_tyes, q_nil, q_cons, q_lnil, q_lcons, q_rnil, q_rcons, q_asg, q_asgT, q_par, q_ret, q_if, q_for, q_frz, q_snil, q_scons, kB2.eq_1, kB1.eq_1, kC2.eq_1, kC1.eq_1, kN2.eq_1, kN1.eq_1, kCall.eq_1, kBi.eq_1, kIs.eq_1, kX2.eq_1, kX1.eq_1, kS3.eq_1, kS2.eq_1, kS1.eq_1, kTup.eq_1, kLst.eq_1, kL1.eq_1, kSq.eq_1, kTru.eq_1, kTNot.eq_1, kCons.eq_1, kLk.eq_1, kConsR.eq_1, kAt.eq_1, kPar.eq_1, kFor.eq_1, kNot.eq_1, kAnd.eq_1, kAnd.eq_2, kOr.eq_1, kOr.eq_2, kN3.eq_1, kN3.eq_2, kIte.eq_1, kIte.eq_2, kTAnd.eq_1, kTAnd.eq_2, kTOr.eq_1, kTOr.eq_2, kArg.eq_1, kArg.eq_2, kRs.eq_1, kRs.eq_2, kAs.eq_1, kAs.eq_2, kRet.eq_1, kRet.eq_2, kIf.eq_1, kIf.eq_2, kThen.eq_1, kThen.eq_2, kO_s, kD_s, kBl_s, kTb_s, kIt_s, kEn_s, kVar_d, kVar_o, l_d, f_d, fin_ret, truth, okLen, LINE, r_ok, r_okS, r_of, l_o, l_b, o_l, its_l, its_t, q_set, kSe1.eq_1, kSe2.eq_1, kSe3.eq_1, q_retV, kRv_s, f_o, f1', f2', setAll]
    exact .nx ⟨rfl, rfl⟩
  obtain ⟨rfl, rfl⟩ := he
  refine sat_cons (M := fun e m2 => e = [some S0, some (.d (.ref 0)), x2, none, none, x5, some (.d one), some (.d two), none, none, none, none, none, none] ∧ m2 = m') (by simp [q_frz, frzAt]; exact .nx ⟨rfl, rfl⟩) fun e m2 he => ?_
  obtain ⟨rfl, rfl⟩ := he
  refine sat_cons (M := fun e m' => e = [some S0, some (.d (.ref 0)), x2, some (.own (.lst (O1 one two))), none, x5, some (.d one), some (.d two), none, none, none, none, none, none] ∧ m' = m2) ?_ fun e m' he => ?_
  · simp [q_var, q_con, q_glb, q_bin, q_not, q_and, q_or, q_cmp, q_chn, q_ite, q_call, q_bi, q_isi, q_idx, q_slc, q_tup, q_lst, q_lc1, q_seq, q_tru, q_tand, q_tor, q_tnot, q_tyes, q_nil, q_cons, q_lnil, q_lcons, q_rnil, q_rcons, q_asg, q_asgT, q_par, q_ret, q_if, q_for, q_frz, q_snil, q_scons, kB2.eq_1, kB1.eq_1, kC2.eq_1, kC1.eq_1, kN2.eq_1, kN1.eq_1, kCall.eq_1, kBi.eq_1, kIs.eq_1, kX2.eq_1, kX1.eq_1, kS3.eq_1, kS2.eq_1, kS1.eq_1, kTup.eq_1, kLst.eq_1, kL1.eq_1, kSq.eq_1, kTru.eq_1, kTNot.eq_1, kCons.eq_1, kLk.eq_1, kConsR.eq_1, kAt.eq_1, kPar.eq_1, kFor.eq_1, kNot.eq_1, kAnd.eq_1, kAnd.eq_2, kOr.eq_1, kOr.eq_2, kN3.eq_1, kN3.eq_2, kIte.eq_1, kIte.eq_2, kTAnd.eq_1, kTAnd.eq_2, kTOr.eq_1, kTOr.eq_2, kArg.eq_1, kArg.eq_2, kRs.eq_1, kRs.eq_2, kAs.eq_1, kAs.eq_2, kRet.eq_1, kRet.eq_2, kIf.eq_1, kIf.eq_2, kThen.eq_1, kThen.eq_2, kO_s, kD_s, kBl_s, kTb_s, kIt_s, kEn_s, kVar_d, kVar_o, l_d, f_d, fin_ret, truth, okLen, LINE, r_ok, r_okS, r_of, l_o, l_b, o_l, its_l, its_t, q_set, kSe1.eq_1, kSe2.eq_1, kSe3.eq_1, q_retV, kRv_s, f_o]
    exact .nx ⟨rfl, rfl⟩
  obtain ⟨rfl, rfl⟩ := he
  refine sat_cons (M := fun e m2 => e = [some S0, some (.d (.ref 0)), x2, some (.own (.lst (O1 one two))), none, x5, some (.d one), some (.d two), none, none, none, none, none, none] ∧ m2 = m') (by simp [q_frz, frzAt]; exact .nx ⟨rfl, rfl⟩) fun e m2 he => ?_
  obtain ⟨rfl, rfl⟩ := he
  have l1 : (O1 one two ++ O2 one).length ≤ 16777216 := by simp [O1, O2]
  have l2 : (O1 one two ++ O2 one ++ O3 one two).length ≤ 16777216 := by simp [O1, O2, O3]
  have l3 : (O1 one two ++ O2 one ++ O3 one two ++ O4 one two).length ≤ 16777216 := by simp [O1, O2, O3, O4]
  have a1 := bin_lst l1
  have a2 := bin_lst l2
  have a3 := bin_lst l3
  refine sat_cons (M := fun e m' => e = [some S0, some (.d (.ref 0)), x2, some (.own (.lst (O1 one two ++ O2 one ++ O3 one two))), none, x5, some (.d one), some (.d two), none, none, none, none, none, none] ∧ m' = m2) ?_ fun e m' he => ?_
  · simp only [O2, O3] at a1 a2
    simp [q_var, q_con, q_glb, q_bin, q_not, q_and, q_or, q_cmp, q_chn, q_ite, q_call, q_bi, q_isi, q_idx, q_slc, q_tup, q_lst, q_lc1, q_seq, q_tru, q_tand, q_tor, q_tnot, q_tyes, q_nil, q_cons, q_lnil, q_lcons, q_rnil, q_rcons, q_asg, q_asgT, q_par, q_ret, q_if, q_for, q_frz, q_snil, q_scons, kB2.eq_1, kB1.eq_1, kC2.eq_1, kC1.eq_1, kN2.eq_1, kN1.eq_1, kCall.eq_1, kBi.eq_1, kIs.eq_1, kX2.eq_1, kX1.eq_1, kS3.eq_1, kS2.eq_1, kS1.eq_1, kTup.eq_1, kLst.eq_1, kL1.eq_1, kSq.eq_1, kTru.eq_1, kTNot.eq_1, kCons.eq_1, kLk.eq_1, kConsR.eq_1, kAt.eq_1, kPar.eq_1, kFor.eq_1, kNot.eq_1, kAnd.eq_1, kAnd.eq_2, kOr.eq_1, kOr.eq_2, kN3.eq_1, kN3.eq_2, kIte.eq_1, kIte.eq_2, kTAnd.eq_1, kTAnd.eq_2, kTOr.eq_1, kTOr.eq_2, kArg.eq_1, kArg.eq_2, kRs.eq_1, kRs.eq_2, kAs.eq_1, kAs.eq_2, kRet.eq_1, kRet.eq_2, kIf.eq_1, kIf.eq_2, kThen.eq_1, kThen.eq_2, kO_s, kD_s, kBl_s, kTb_s, kIt_s, kEn_s, kVar_d, kVar_o, l_d, f_d, fin_ret, truth, okLen, LINE, r_ok, r_okS, r_of, l_o, l_b, o_l, its_l, its_t, q_set, kSe1.eq_1, kSe2.eq_1, kSe3.eq_1, q_retV, kRv_s, f_o, wip, lcL, elF, asgT, a1, a2]
    exact .nx ⟨by simp [O2, O3], rfl⟩
  obtain ⟨rfl, rfl⟩ := he
  refine sat_cons (M := fun e m2 => e = [some S0, some (.d (.ref 0)), x2, some (.own (.lst (O1 one two ++ O2 one ++ O3 one two))), none, x5, some (.d one), some (.d two), none, none, none, none, none, none] ∧ m2 = m') (by simp [q_frz, frzAt]; exact .nx ⟨rfl, rfl⟩) fun e m2 he => ?_
  obtain ⟨rfl, rfl⟩ := he
  refine sat_cons (M := fun e m' => e = [some S0, some (.d (.ref 0)), x2, some (.own (.lst (O1 one two ++ O2 one ++ O3 one two))), none, x5, some (.d one), some (.d two), none, none, none, none, none, none] ∧ m' = m2) ?_ fun e m' he => ?_
  · have i0 : ∀ m, idxV (.lst (O1 one two ++ O2 one ++ O3 one two)) (.int 0) m = some (.tup [.str 1684828020, one, two]) := fun m => rfl
    have i3 : ∀ m, idxV (.lst (O1 one two ++ O2 one ++ O3 one two)) (.int 3) m = some (.tup [.str 1936027492, .int 0]) := fun m => rfl
    have lo := lc_odd (one := one) (two := two) (m := m2) (e := [some S0, some (.d (.ref 0)), x2, some (.own (.lst (O1 one two ++ O2 one ++ O3 one two))), none, x5, some (.d one), some (.d two), none, none, none, none, none, none]) rfl ho ht
    simp only [OO] at lo
    simp only [O4] at a3 lo
    have ne0 : cmpV .ne (.lst []) (.lst []) = some false := ne_nilL (L := []) rfl
    generalize O1 one two ++ O2 one ++ O3 one two = Z at *
    simp [q_var, q_con, q_glb, q_bin, q_not, q_and, q_or, q_cmp, q_chn, q_ite, q_call, q_bi, q_isi, q_idx, q_slc, q_tup, q_lst, q_lc1, q_seq, q_tru, q_tand, q_tor, q_tnot, q_tyes, q_nil, q_cons, q_lnil, q_lcons, q_rnil, q_rcons, q_asg, q_asgT, q_par, q_ret, q_if, q_for, q_frz, q_snil, q_scons, kB2.eq_1, kB1.eq_1, kC2.eq_1, kC1.eq_1, kN2.eq_1, kN1.eq_1, kCall.eq_1, kBi.eq_1, kIs.eq_1, kX2.eq_1, kX1.eq_1, kS3.eq_1, kS2.eq_1, kS1.eq_1, kTup.eq_1, kLst.eq_1, kL1.eq_1, kSq.eq_1, kTru.eq_1, kTNot.eq_1, kCons.eq_1, kLk.eq_1, kConsR.eq_1, kAt.eq_1, kPar.eq_1, kFor.eq_1, kNot.eq_1, kAnd.eq_1, kAnd.eq_2, kOr.eq_1, kOr.eq_2, kN3.eq_1, kN3.eq_2, kIte.eq_1, kIte.eq_2, kTAnd.eq_1, kTAnd.eq_2, kTOr.eq_1, kTOr.eq_2, kArg.eq_1, kArg.eq_2, kRs.eq_1, kRs.eq_2, kAs.eq_1, kAs.eq_2, kRet.eq_1, kRet.eq_2, kIf.eq_1, kIf.eq_2, kThen.eq_1, kThen.eq_2, kO_s, kD_s, kBl_s, kTb_s, kIt_s, kEn_s, kVar_d, kVar_o, l_d, f_d, fin_ret, truth, okLen, LINE, r_ok, r_okS, r_of, l_o, l_b, o_l, its_l, its_t, q_set, kSe1.eq_1, kSe2.eq_1, kSe3.eq_1, q_retV, kRv_s, f_o, wip, i0, i3, a3, lo, ne0, em, notB_bl]
    exact .nx ⟨rfl, rfl⟩
  obtain ⟨rfl, rfl⟩ := he
  refine sat_cons (M := WB S0 one two (some (.own (.lst (O1 one two ++ O2 one ++ O3 one two))))) ?_ fun e m2 he => ?_
  · rw [q_for, q_rng1 (i := 8) (m1 := m') (by simp [q_con]) (by decide)]
    refine sat_for (fun _ e m => WB S0 one two (some (.own (.lst (O1 one two ++ O2 one ++ O3 one two)))) e m) (fun i x e m hx w => ?_) (fun e m w => w) _ _ ⟨_, _, _, _, _, _, _, rfl, h4⟩
    obtain ⟨y2, y4, y5, y8, y9, ya, yb, rfl, hc⟩ := w
    refine ⟨_, by simp [asgT]; rfl, ?_⟩
    exact bB_ok hc
  · simp [q_var, q_con, q_glb, q_bin, q_not, q_and, q_or, q_cmp, q_chn, q_ite, q_call, q_bi, q_isi, q_idx, q_slc, q_tup, q_lst, q_lc1, q_seq, q_tru, q_tand, q_tor, q_tnot, q_tyes, q_nil, q_cons, q_lnil, q_lcons, q_rnil, q_rcons, q_asg, q_asgT, q_par, q_ret, q_if, q_for, q_frz, q_snil, q_scons, kB2.eq_1, kB1.eq_1, kC2.eq_1, kC1.eq_1, kN2.eq_1, kN1.eq_1, kCall.eq_1, kBi.eq_1, kIs.eq_1, kX2.eq_1, kX1.eq_1, kS3.eq_1, kS2.eq_1, kS1.eq_1, kTup.eq_1, kLst.eq_1, kL1.eq_1, kSq.eq_1, kTru.eq_1, kTNot.eq_1, kCons.eq_1, kLk.eq_1, kConsR.eq_1, kAt.eq_1, kPar.eq_1, kFor.eq_1, kNot.eq_1, kAnd.eq_1, kAnd.eq_2, kOr.eq_1, kOr.eq_2, kN3.eq_1, kN3.eq_2, kIte.eq_1, kIte.eq_2, kTAnd.eq_1, kTAnd.eq_2, kTOr.eq_1, kTOr.eq_2, kArg.eq_1, kArg.eq_2, kRs.eq_1, kRs.eq_2, kAs.eq_1, kAs.eq_2, kRet.eq_1, kRet.eq_2, kIf.eq_1, kIf.eq_2, kThen.eq_1, kThen.eq_2, kO_s, kD_s, kBl_s, kTb_s, kIt_s, kEn_s, kVar_d, kVar_o, l_d, f_d, fin_ret, truth, okLen, LINE, r_ok, r_okS, r_of, l_o, l_b, o_l, its_l, its_t, q_set, kSe1.eq_1, kSe2.eq_1, kSe3.eq_1, q_retV, kRv_s, f_o]
    exact .ret rfl
end K47

set_option Elab.async false
set_option maxRecDepth 100000
set_option maxHeartbeats 0
namespace K47
open PySem PySem.Spec PyProof.Rows L2 Gx
theorem fs_eq : fs = fsL := by kernel_rfl
theorem gl_eq : gl = glL := by kernel_rfl
end K47

set_option Elab.async false
set_option linter.all false
set_option maxRecDepth 100000
set_option maxHeartbeats 0
namespace K47
open PySem PySem.Spec PyProof.Rows L2 Gx
def KK : Nat := 100
theorem plain (ns : List Int) (h : ns.length ≤ 63) : ∃ m, callF fs gl KK 20 [.lst (ns.map .int)] [] = .ok (.d (.bl true)) m := by
  have h1 := plain0 ns h
  rw [← fs_eq, ← gl_eq] at h1
  exact h1
end K47
open PySem PySem.W PySem.Calls PyProof.Rows
theorem PySem.Challenge.cw_gamecheck_k47_claims_of_minds_holds : PySem.Challenge.rw_gamecheck_k47_claims_of_minds.Holds := by
  w_on; o_law
  refine HandSHeadRun.head_any (r := OpenLaw.row PySem.Challenge.rw_gamecheck_k47_claims_of_minds) (q := view (OpenLaw.row PySem.Challenge.rw_gamecheck_k47_claims_of_minds).prog [37]) (H := K47.hk) (ob := K47.ob) (M := 3000) (loose := K47.loose) (d := HandSHeadRun.topDef (OpenLaw.row PySem.Challenge.rw_gamecheck_k47_claims_of_minds).prog 37) (kwd := []) K47.ob_eq
    (by kernel_rfl) (fun s => by kernel_rfl) K47.run (by kernel_rfl) (by kernel_rfl) (by kernel_rfl) (by rfl) (by first | assumption | decide +kernel) (by decide +kernel) ⟨rfl, rfl, rfl, rfl, rfl, by decide +kernel⟩ ?hw ?hc
  case hw => w_witness2
  case hc =>
    refine L2.walk_ofE (l := PySem.Challenge.rw_gamecheck_k47_claims_of_minds) (n := 63) (k := K47.KK) (x := "script") (CX := L2.CX0) rfl (by decide) (by kernel_rfl) ⟨rfl, by decide, by decide⟩ ?F (fun _ _ _ _ z => z)
    intro w mg fa h Y G hmg0
    obtain ⟨K, KX, c⟩ := Y
    have hmg : mg ("law" : PySem.Str) = some (.ref fa) := by
      have e : (HandSHeadRun.topDef (OpenLaw.row PySem.Challenge.rw_gamecheck_k47_claims_of_minds).prog 37).name = ("law" : PySem.Str) := by kernel_rfl
      rw [← e]
      exact hmg0
    obtain ⟨fd, sp, hb, hsp, hF⟩ := Gx.law_end (pins := K47.pins) (P := (PySem.Challenge.rw_gamecheck_k47_claims_of_minds).prog) (w := w) (k := K47.KK) (n := 20) (d := ⟨"law", K47.top 37, ["script", "cup", "units", "odd", "turn", "found", "one", "two", "claim", "some", "leaves", "deep", "word", ".0"]⟩) KX G c K47.hn K47.hc (by decide +kernel) hmg (by rfl) (by decide +kernel) K47.plain
    exact ⟨K, fd, sp, KX, hb, hsp, hF⟩

