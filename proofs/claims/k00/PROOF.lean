import PyProof.Rows.All
import HandS.ForMost
import HandS.Deep
import HandS.Flow
import HandS.Style
import HandS.TupAny
import HandS.TupMul
import HandS.Conv
import HandS.IsInst
import HandS.Strs
import KE.GoesEnum
import HandS.Codes
import PySem.Challenge.RW_lockfree_k00_cells_of_any_number
set_option Elab.async false
set_option linter.all false
set_option maxRecDepth 100000
namespace Ev
open PySem PySem.Spec
open PyProof.Rows L2

/-! ### the data and the store of the small language -/
abbrev D := PyData
/-- a mutable object of the store -/
inductive Ob where
  | lst (xs : List D) | dct (kvs : List (Key × D)) | dead
abbrev Sto := List Ob
abbrev DE := List (Option D)
abbrev Fn0 := List D → Sto → Option (D × Sto)
/-- the mutable object number i as a datum -/
def rf (i : Nat) : D := .dict [(.dict [], .int (Int.ofNat i))]
def asRf : D → Option Nat
  | .dict [(.dict [], .int i)] => some i.toNat
  | _ => none
/-- a list that the text has not made (the script): it is read alone -/
def frn (xs : List D) : D := .dict [(.dict [], .list xs)]
theorem asRf_rf (i : Nat) : asRf (rf i) = some i := rfl
mutual
/-- no mutable object from number n on is named -/
def below (n : Nat) : D → Bool
  | .list xs => belowA n xs
  | .tuple xs => belowA n xs
  | .dict [(.dict [], .int i)] => decide (i.toNat < n)
  | .dict [(.dict [], .list xs)] => belowA n xs
  | .dict _ => true
  | _ => true
def belowA (n : Nat) : List D → Bool
  | [] => true
  | x :: xs => below n x && belowA n xs
end
def obBelow (n : Nat) : Ob → Bool
  | .lst xs => belowA n xs
  | .dct kvs => belowA n (kvs.map (·.2))
  | .dead => true
def stoBelow (n : Nat) (S : Sto) : Bool := S.all (obBelow n)

/-- a new list: mutable (in the store), or a datum for good -/
def mkl (m : Bool) (xs : List D) (S : Sto) : D × Sto := if m then (rf S.length, S ++ [.lst xs]) else (.list xs, S)
/-- what a list holds -/
def seqv (x : D) (S : Sto) : Option (List D) := match x with
  | .list xs => some xs
  | x => match asRf x with
    | some i => match S[i]? with
      | some (.lst xs) => some xs
      | _ => none
    | none => none
/-- a list or a tuple -/
def itv (x : D) (S : Sto) : Option (List D) := match x with
  | .tuple xs => some xs
  | .dict [(.dict [], .list xs)] => some xs
  | x => seqv x S

/-! ### operations by values -/
inductive O2 where
  | add | sub | mul | fdiv | mod | pow
def smallI (i : Int) : Bool := decide (-(2 ^ 64) < i ∧ i < 2 ^ 64)
def addv (m : Bool) (x y : D) (S : Sto) : Option (D × Sto) := match x, y with
  | .int i, .int j => some (.int (i + j), S)
  | .str i, .str j => if i.length + j.length ≤ sizeLine then some (.str (i ++ j), S) else none
  | .tuple xs, .tuple ys => if xs.length + ys.length ≤ sizeLine then some (.tuple (xs ++ ys), S) else none
  | x, y => (seqv x S).bind fun xs => (seqv y S).bind fun ys => if xs.length + ys.length ≤ sizeLine then some (mkl m (xs ++ ys) S) else none
def mulv (x y : D) (S : Sto) : Option (D × Sto) := match x, y with
  | .int i, .int j => if smallI i || smallI j then some (.int (i * j), S) else none
  | .tuple xs, .int k => if xs ≠ [] ∧ 1 ≤ k ∧ k ≤ 1000 ∧ xs.length ≤ 1000 then some (.tuple (List.replicate k.toNat xs).flatten, S) else none
  | _, _ => none
/-- whole numbers in, under a condition, and a whole number out -/
def intv (c : Int → Int → Bool) (f : Int → Int → Int) (x y : D) (S : Sto) : Option (D × Sto) := match x, y with
  | .int i, .int j => if c i j then some (.int (f i j), S) else none
  | _, _ => none
def opv (o : O2) (m : Bool) (x y : D) (S : Sto) : Option (D × Sto) := match o with
  | .add => addv m x y S
  | .sub => intv (fun _ _ => true) (fun i j => i - j) x y S
  | .mul => mulv x y S
  | .fdiv => intv (fun _ j => decide (0 < j) && decide (j < 1073741824)) (fun i j => i / j) x y S
  | .mod => intv (fun _ j => decide (0 < j)) (fun i j => i % j) x y S
  | .pow => intv (fun i j => decide (0 ≤ j) && decide (j ≤ 1000000) && decide (i.natAbs < 2 ^ 64)) (fun i j => i ^ j.toNat) x y S
def eqD (x y : D) : Option Bool := match x, y with
  | .int i, .int j => some (decide (i = j))
  | .str i, .str j => some (decide (i = j))
  | .bool i, .bool j => some (decide (i = j))
  | x, y => if SeqAt.shaped x && SeqAt.shaped y then some (PyData.eqv x y) else none
def ordv (p : Int → Int → Bool) (x y : D) : Option Bool := match x, y with
  | .int i, .int j => some (p i j)
  | _, _ => none
def isD (x y : D) : Option Bool := match y with
  | .none => some (match x with | .none => true | _ => false)
  | .bool j => match x with
    | .bool i => some (decide (i = j))
    | _ => none
  | _ => none
def inD (x y : D) (S : Sto) : Option Bool := match y with
  | .tuple ys => if SeqAt.shaped x && SeqAt.shaped (.tuple ys) then some (ys.any fun z => PyData.eqv z x) else none
  | y => (seqv y S).bind fun ys => if SeqAt.shaped x && SeqAt.shaped (.list ys) then some (ys.any fun z => PyData.eqv z x) else none
def cmpv (o : CmpOp) (x y : D) (S : Sto) : Option Bool := match o with
  | .Eq => eqD x y
  | .NotEq => (eqD x y).map fun k => !k
  | .Lt => ordv (fun i j => decide (i < j)) x y
  | .LtE => ordv (fun i j => decide (i ≤ j)) x y
  | .Gt => ordv (fun i j => decide (j < i)) x y
  | .GtE => ordv (fun i j => decide (j ≤ i)) x y
  | .Is => isD x y
  | .IsNot => (isD x y).map fun k => !k
  | .In => inD x y S
  | .NotIn => (inD x y S).map fun k => !k
def truv (x : D) (S : Sto) : Option Bool := match x with
  | .none => some false
  | .bool b => some b
  | .int i => some (i != 0)
  | .str s => if s.length ≤ sizeLine then some ((s.length : Int) != 0) else none
  | .tuple xs => some (!xs.isEmpty)
  | x => (seqv x S).map fun xs => !xs.isEmpty
def lenv (x : D) (S : Sto) : Option Nat := match x with
  | .str s => if s.length ≤ sizeLine then some s.length else none
  | x => (itv x S).map List.length
def ixv (x y : D) (S : Sto) : Option D := match y with
  | .int i => match x with
    | .str s => if s.length ≤ sizeLine then (atI s.cps.toList i).map fun c => .str ⟨#[c]⟩ else none
    | x => (itv x S).bind fun xs => atI xs i
  | _ => none
def cutD (xs : List D) (lo hi : Option Int) : List D := (xs.drop (HT.sIx xs.length 0 lo)).take (HT.sIx xs.length xs.length hi - HT.sIx xs.length 0 lo)
def slcv (m : Bool) (x : D) (lo hi : Option Int) (S : Sto) : Option (D × Sto) := match x with
  | .tuple xs => some (.tuple (cutD xs lo hi), S)
  | x => (seqv x S).map fun xs => mkl m (cutD xs lo hi) S
def partv : D → Option (Option Int)
  | .int i => some (some i)
  | _ => none

/-- x += y, x -= y of whole numbers -/
def augv (o : O2) (x y : D) : Option D := match x, y with
  | .int a, .int b => match o with
    | .add => some (.int (a + b))
    | .sub => some (.int (a - b))
    | _ => none
  | _, _ => none

/-! ### built-ins by name -/
inductive Bi where
  | len | abs | int | max | tuple | list | sum
def intsOf : List D → Option (List Int)
  | [] => some []
  | .int i :: r => (intsOf r).map (i :: ·)
  | _ :: _ => none
def biv (b : Bi) (m : Bool) (xs : List D) (S : Sto) : Option (D × Sto) := match b, xs with
  | .len, [x] => (lenv x S).map fun (n : Nat) => (.int (n : Int), S)
  | .abs, [.int i] => some (.int (if i < 0 then -i else i), S)
  | .int, [.int i] => some (.int i, S)
  | .int, [.bool k] => some (.int (if k then 1 else 0), S)
  | .max, [.int i, .int j] => some (.int (if j > i then j else i), S)
  | .tuple, [.tuple xs] => some (.tuple xs, S)
  | .tuple, [x] => (seqv x S).map fun xs => (.tuple xs, S)
  | .list, [x] => (itv x S).map fun xs => mkl m xs S
  | .sum, [x] => (seqv x S).bind fun xs => (intsOf xs).map fun ns => (.int ns.sum, S)
  | _, _ => none
inductive Ty where
  | tuple | str | int | bool | list | dict
def isv (t : Ty) (x : D) : Option Bool := match x with
  | .none => some false
  | .bool _ => some (match t with | .bool => true | .int => true | _ => false)
  | .int _ => some (match t with | .int => true | _ => false)
  | .str _ => some (match t with | .str => true | _ => false)
  | .tuple _ => some (match t with | .tuple => true | _ => false)
  | .list _ => some (match t with | .list => true | _ => false)
  | .dict _ => none

/-! ### methods -/
inductive Mt where
  | append
def firstIx (x : D) : List D → Option Nat
  | [] => none
  | y :: r => if PyData.eqv y x then some 0 else (firstIx x r).map (· + 1)
def mtv (t : Mt) (x : D) (xs : List D) (S : Sto) : Option (D × Sto) := match t, xs with
  | .append, [y] => (asRf x).bind fun i => match S[i]? with
    | some (.lst ys) => if ys.length < sizeLine then some (.none, S.set i (.lst (ys ++ [y]))) else none
    | _ => none
  | _, _ => none
/-- x.index(y) -/
def idxv (x y : D) (S : Sto) : Option D := match x with
  | .tuple ys => if SeqAt.shaped y && SeqAt.shaped (.tuple ys) then (firstIx y ys).map fun j => .int (j : Nat) else none
  | x => (seqv x S).bind fun ys => if SeqAt.shaped y && SeqAt.shaped (.list ys) then (firstIx y ys).map fun j => .int (j : Nat) else none
def rcvT (x : D) (S : Sto) : Bool := match x with
  | .tuple _ => true
  | x => (seqv x S).isSome

/-! ### the texts -/
mutual
inductive E where
  | var (i : Nat)
  | cst (d : D)
  | glo (x : Str) (d : D)
  | op (o : O2) (m : Bool) (a b : E)
  | neg (a : E)
  | cmp (o : CmpOp) (a b : E)
  | cmp2 (o o' : CmpOp) (a b c : E)
  | bop (k : Bool) (es : Es)
  | not (a : E)
  | ife (c : T) (a b : E)
  | tup (es : Es)
  | lst (m : Bool) (es : Es)
  | sub (a i : E)
  | slc (m : Bool) (a : E) (lo hi : O)
  | rvs (m : Bool) (a : E)
  | call (f : Nat) (es : Es)
  | bi (b : Bi) (m : Bool) (es : Es)
  | rgl (k : Bool) (m : Bool) (es : Es)
  | isi (a : E) (t : Ty)
  | meth (t : Mt) (a : E) (es : Es)
  | idx (a b : E)
  | lc (m : Bool) (elt : E) (t : Tg) (it : It) (ifs : Ts) (own : List Nat)
inductive Es where
  | nil | cons (e : E) (r : Es)
inductive T where
  | val (e : E) | not (t : T) | bop (k : Bool) (ts : Ts)
inductive Ts where
  | nil | cons (t : T) (r : Ts)
inductive O where
  | gap | at (e : E)
inductive It where
  | over (e : E) | rng (es : Es) | enum (e : E)
inductive Tg where
  | nm (i : Nat) | tup (ts : Tgs)
inductive Tgs where
  | nil | cons (t : Tg) (r : Tgs)
end
mutual
inductive S where
  | asg (t : Tg) (e : E)
  | par (i j : Nat) (a b : E)
  | aug (i : Nat) (o : O2) (e : E)
  | put (a i e : E)
  | ex (e : E) | ret (e : E) | retN
  | ife (c : T) (a b : Ss)
  | loop (t : Tg) (it : It) (b : Ss)
  | whl (c : T) (b : Ss)
  | pass | brk | cont
inductive Ss where
  | nil | cons (s : S) (r : Ss) | frz (i : Nat) (r : Ss)
end
inductive Fl where
  | nx | bk | ct | rt (d : D)
/-- what runs around: the defs of the text, and how many turns a while may take -/
structure Cl where
  fn : Nat → Fn0
  turns : Nat

/-! ### the evaluator -/
def wipeD (δ : DE) : List Nat → DE
  | [] => δ
  | v :: vs => (wipeD δ vs).set v none
mutual
def tgv : Tg → D → DE → Option DE
  | .nm i, d, δ => some (δ.set i (some d))
  | .tup ts, d, δ => match d with
    | .tuple xs => tgvs ts xs δ
    | _ => none
def tgvs : Tgs → List D → DE → Option DE
  | .nil, [], δ => some δ
  | .cons t r, x :: xs, δ => (tgv t x δ).bind fun δ' => tgvs r xs δ'
  | _, _, _ => none
end
def rngD (lo : Int) (n : Nat) : List D := (List.range n).map fun i => .int (lo + (i : Nat))
def b62 (i : Int) : Bool := decide (-(2 ^ 62) ≤ i) && decide (i < 2 ^ 62)
def rngv : List D → Option (Int × Nat)
  | [.int j] => if b62 j then some (0, j.toNat) else none
  | [.int i, .int j] => if b62 i && b62 j then some (i, (j - i).toNat) else none
  | _ => none
def strD (s : Str) : List D := s.cps.toList.map fun c => .str ⟨#[c]⟩
def enumD : Nat → List D → List D
  | _, [] => []
  | i, x :: xs => .tuple [.int (i : Nat), x] :: enumD (i + 1) xs
/-- turns of a comprehension -/
def lcv (turn : D → Sto → Option (Option D × Sto)) : List D → List D → Sto → Option (List D × Sto)
  | [], acc, S => some (acc, S)
  | x :: xs, acc, S => (turn x S).bind fun p => match p.1 with
    | some y => lcv turn xs (acc ++ [y]) p.2
    | none => lcv turn xs acc p.2
/-- turns of a for -/
def forv (turn : D → DE → Sto → Option (Fl × DE × Sto)) : List D → DE → Sto → Option (Fl × DE × Sto)
  | [], δ, S => some (.nx, δ, S)
  | x :: xs, δ, S => (turn x δ S).bind fun p => match p.1 with
    | .nx => forv turn xs p.2.1 p.2.2
    | .ct => forv turn xs p.2.1 p.2.2
    | .bk => some (.nx, p.2.1, p.2.2)
    | .rt d => some (.rt d, p.2.1, p.2.2)
def whlv (test : DE → Sto → Option (Bool × Sto)) (turn : DE → Sto → Option (Fl × DE × Sto)) : Nat → DE → Sto → Option (Fl × DE × Sto)
  | 0, _, _ => none
  | n + 1, δ, S => (test δ S).bind fun p => if p.1 then (turn δ p.2).bind fun q => match q.1 with
      | .nx => whlv test turn n q.2.1 q.2.2
      | .ct => whlv test turn n q.2.1 q.2.2
      | .bk => some (.nx, q.2.1, q.2.2)
      | .rt d => some (.rt d, q.2.1, q.2.2)
    else some (.nx, δ, p.2)
variable (C : Cl)
mutual
def evE : E → DE → Sto → Option (D × Sto)
  | .var i, δ, S => match δ[i]? with
    | some (some d) => some (d, S)
    | _ => none
  | .cst d, _, S => some (d, S)
  | .glo _ d, _, S => some (d, S)
  | .op o m a b, δ, S => (evE a δ S).bind fun p => (evE b δ p.2).bind fun q => opv o m p.1 q.1 q.2
  | .neg a, δ, S => (evE a δ S).bind fun p => match p.1 with
    | .int i => some (.int (-i), p.2)
    | _ => none
  | .cmp o a b, δ, S => (evE a δ S).bind fun p => (evE b δ p.2).bind fun q => (cmpv o p.1 q.1 q.2).map fun k => (.bool k, q.2)
  | .cmp2 o o' a b c, δ, S => (evE a δ S).bind fun p => (evE b δ p.2).bind fun q => (cmpv o p.1 q.1 q.2).bind fun k =>
      if k then (evE c δ q.2).bind fun r => (cmpv o' q.1 r.1 r.2).map fun k' => (.bool k', r.2) else some (.bool false, q.2)
  | .bop k es, δ, S => evB k es δ S
  | .not a, δ, S => (evE a δ S).bind fun p => (truv p.1 p.2).map fun k => (.bool !k, p.2)
  | .ife c a b, δ, S => (evT c δ S).bind fun p => if p.1 then evE a δ p.2 else evE b δ p.2
  | .tup es, δ, S => (evA es δ S).bind fun p => if p.1.length ≤ sizeLine then some (.tuple p.1, p.2) else none
  | .lst m es, δ, S => (evA es δ S).bind fun p => if p.1.length ≤ sizeLine then some (mkl m p.1 p.2) else none
  | .sub a i, δ, S => (evE a δ S).bind fun p => (evE i δ p.2).bind fun q => (ixv p.1 q.1 q.2).map fun d => (d, q.2)
  | .slc m a lo hi, δ, S => (evE a δ S).bind fun p => (evO lo δ p.2).bind fun q => (evO hi δ q.2).bind fun r => slcv m p.1 q.1 r.1 r.2
  | .rvs m a, δ, S => (evE a δ S).bind fun p => (seqv p.1 p.2).map fun xs => mkl m xs.reverse p.2
  | .call f es, δ, S => (evA es δ S).bind fun p => C.fn f p.1 p.2
  | .bi b m es, δ, S => (evA es δ S).bind fun p => biv b m p.1 p.2
  | .rgl k m es, δ, S => (evA es δ S).bind fun p => (rngv p.1).bind fun r => if r.2 ≤ 2 ^ 24 then some (if k then (.tuple (rngD r.1 r.2), p.2) else mkl m (rngD r.1 r.2) p.2) else none
  | .isi a t, δ, S => (evE a δ S).bind fun p => (isv t p.1).map fun k => (.bool k, p.2)
  | .meth t a es, δ, S => (evE a δ S).bind fun p => if (seqv p.1 p.2).isSome then (evA es δ p.2).bind fun q => mtv t p.1 q.1 q.2 else none
  | .idx a b, δ, S => (evE a δ S).bind fun p => if rcvT p.1 p.2 then (evE b δ p.2).bind fun q => (idxv p.1 q.1 q.2).map fun d => (d, q.2) else none
  | .lc m elt t it ifs own, δ, S => (evI it δ S).bind fun p => if p.1.2 then
      (lcv (fun x S => (tgv t x (wipeD δ own)).bind fun δ' => (evB1 ifs δ' S).bind fun k => if k.1 then (evE elt δ' k.2).map fun r => (some r.1, r.2) else some (none, k.2)) p.1.1 [] p.2).map fun r => mkl m r.1 r.2 else none
/-- and (k), or: by values -/
def evB (k : Bool) : Es → DE → Sto → Option (D × Sto)
  | .nil, _, _ => none
  | .cons a .nil, δ, S => evE a δ S
  | .cons a r, δ, S => (evE a δ S).bind fun p => (truv p.1 p.2).bind fun t => if t = k then evB k r δ p.2 else some (p.1, p.2)
/-- a comprehension's tests: at most one -/
def evB1 : Ts → DE → Sto → Option (Bool × Sto)
  | .nil, _, S => some (true, S)
  | .cons a .nil, δ, S => evT a δ S
  | .cons _ _, _, _ => none
/-- a test -/
def evT : T → DE → Sto → Option (Bool × Sto)
  | .val e, δ, S => (evE e δ S).bind fun p => (truv p.1 p.2).map fun k => (k, p.2)
  | .not a, δ, S => (evT a δ S).map fun p => (!p.1, p.2)
  | .bop k es, δ, S => evTs k es δ S
def evTs (k : Bool) : Ts → DE → Sto → Option (Bool × Sto)
  | .nil, _, _ => none
  | .cons a .nil, δ, S => evT a δ S
  | .cons a r, δ, S => (evT a δ S).bind fun p => if p.1 = k then evTs k r δ p.2 else some (!k, p.2)
/-- a part of a slice -/
def evO : O → DE → Sto → Option (Option Int × Sto)
  | .gap, _, S => some (none, S)
  | .at e, δ, S => (evE e δ S).bind fun p => (partv p.1).map fun i => (i, p.2)
def evA : Es → DE → Sto → Option (List D × Sto)
  | .nil, _, S => some ([], S)
  | .cons e r, δ, S => (evE e δ S).bind fun p => (evA r δ p.2).map fun q => (p.1 :: q.1, q.2)
/-- what is walked: the items, and whether they are no more than a list may hold (a list or a tuple for good has room) -/
def evI : It → DE → Sto → Option ((List D × Bool) × Sto)
  | .over e, δ, S => (evE e δ S).bind fun p => match p.1 with
    | .str s => some ((strD s, decide (s.cps.size ≤ sizeLine)), p.2)
    | .list xs => some ((xs, true), p.2)
    | .tuple xs => some ((xs, true), p.2)
    | .dict [(.dict [], .list xs)] => some ((xs, true), p.2)
    | _ => none
  | .rng es, δ, S => (evA es δ S).bind fun p => (rngv p.1).map fun r => ((rngD r.1 r.2, decide (r.2 ≤ sizeLine)), p.2)
  | .enum e, δ, S => (evE e δ S).bind fun p => match p.1 with
    | .list xs => some ((enumD 0 xs, true), p.2)
    | .tuple xs => some ((enumD 0 xs, true), p.2)
    | _ => none
end
mutual
def evS : S → DE → Sto → Option (Fl × DE × Sto)
  | .asg t e, δ, S => (evE C e δ S).bind fun p => (tgv t p.1 δ).map fun δ' => (.nx, δ', p.2)
  | .par i j a b, δ, S => (evE C a δ S).bind fun p => (evE C b δ p.2).map fun q => (.nx, (δ.set i (some p.1)).set j (some q.1), q.2)
  | .aug i o e, δ, S => match δ[i]? with
    | some (some x) => (evE C e δ S).bind fun p => (augv o x p.1).map fun d => (.nx, δ.set i (some d), p.2)
    | _ => none
  | .put a i e, δ, S => (evE C e δ S).bind fun v => (evE C a δ v.2).bind fun p => (evE C i δ p.2).bind fun q => match q.1 with
      | .int k => (asRf p.1).bind fun r => match q.2[r]? with
        | some (.lst xs) => (ixN xs.length k).map fun j => (.nx, δ, q.2.set r (.lst (xs.set j v.1)))
        | _ => none
      | _ => none
  | .ex e, δ, S => (evE C e δ S).map fun p => (.nx, δ, p.2)
  | .ret e, δ, S => (evE C e δ S).map fun p => (.rt p.1, δ, p.2)
  | .retN, δ, S => some (.rt .none, δ, S)
  | .ife c a b, δ, S => (evT C c δ S).bind fun p => if p.1 then evSs a δ p.2 else evSs b δ p.2
  | .loop t it b, δ, S => (evI C it δ S).bind fun p =>
      forv (fun x δ S => (tgv t x δ).bind fun δ' => evSs b δ' S) p.1.1 δ p.2
  | .whl c b, δ, S => whlv (evT C c) (evSs b) C.turns δ S
  | .pass, δ, S => some (.nx, δ, S)
  | .brk, δ, S => some (.bk, δ, S)
  | .cont, δ, S => some (.ct, δ, S)
def evSs : Ss → DE → Sto → Option (Fl × DE × Sto)
  | .nil, δ, S => some (.nx, δ, S)
  | .cons s r, δ, S => (evS s δ S).bind fun p => match p.1 with
    | .nx => evSs r p.2.1 p.2.2
    | f => some (f, p.2.1, p.2.2)
  | .frz i r, δ, S => match δ[i]? with
    | some (some x) => match asRf x with
      | some n => match S[n]? with
        | some (.lst xs) => evSs r (δ.set i (some (.list xs))) (S.set n .dead)
        | _ => none
      | none => none
    | _ => none
end

/-- a def: its parameters' number, its names' number, whether it leaves nothing of its own in the store, its body -/
structure Df where
  many : Nat
  slots : Nat
  tidy : Bool
  body : Ss
/-- a def called -/
def callv (df : Df) (xs : List D) (S : Sto) : Option (D × Sto) :=
  if xs.length = df.many then
    (evSs C df.body (xs.map some ++ List.replicate (df.slots - xs.length) none) S).bind fun p => match p.1 with
      | .nx => fin .none p.2.2
      | .rt d => fin d p.2.2
      | _ => none
  else none
where
  fin (d : D) (S' : Sto) : Option (D × Sto) :=
    if df.tidy then (if below S.length d && stoBelow S.length (S'.take S.length) then some (d, S'.take S.length) else none) else some (d, S')
/-- the defs of a text, n calls deep -/
def fnN (T : List Df) (turns : Nat) : Nat → Nat → Fn0
  | 0 => fun _ _ _ => none
  | n + 1 => fun f xs S => match T[f]? with
    | some df => callv ⟨fnN T turns n, turns⟩ df xs S
    | none => none
end Ev

namespace Ev
open PySem PySem.Spec
open PyProof.Rows L2

/-! ### tuples of which one knows that they bear no dict (so their methods may be called) -/
def TupR (K : PySem.W.Frag) (F : Hp) (a : Addr) (vs : List V) : Prop :=
  (∃ o : Obj, F a = some (.frz o (.tup vs)) ∧ o.dict = none) ∨
    ∃ (o : Obj) (us : Array Value) (n : Nat), K.lookup a = some o ∧ o.cls = .type "tuple" ∧ o.dict = none ∧ o.data = .seq us n ∧ us.size ≤ sizeLine ∧ Vals vs us.toList
theorem TupR.sq {K : PySem.W.Frag} {F : Hp} {a : Addr} {vs : List V} (h : TupR K F a vs) : SqT K F a vs := by
  rcases h with ⟨o, e, _⟩ | ⟨o, us, n, e, c, _, d, z, r⟩
  · exact .inl (.inr ⟨o, e⟩)
  · exact .inr ⟨o, us, n, e, c, d, z, r⟩
theorem TupR.same {K : PySem.W.Frag} {F F' : Hp} {a : Addr} {vs : List V} (s : Same F F') (h : TupR K F a vs) : TupR K F' a vs := by
  rcases h with ⟨o, e, d⟩ | h
  · exact .inl ⟨o, s _ _ e, d⟩
  · exact .inr h
/-- a new tuple of vs, and then Q -/
def NewT (vs : List V) (H : Hp) (Q : VK) : Prop := ∀ (p : Addr) (o : Obj), H p = none → o.dict = none → Q (.ref p) (upd H p (.frz o (.tup vs)))
def tob (us : List Value) : Obj := { cls := .type "tuple", data := .seq us.toArray }
section
variable {X : Cx} {pins : List (Addr × Obj)} {σ : L2.St} {H : Hp} {s : Shared}
theorem tnew {vs : List V} {us : List Value} {t' : Nat} {Q : VK} (I : L2.Inv X pins σ H s) (r : Vals vs us) (z : vs.length ≤ sizeLine) (q : NewT vs H Q) :
    EP X pins σ Q (.ref s.heap.objs.size) { s with heap := s.heap.push (tob us), toks := t' } := by
  have n := I.hok.fresh (Nat.le_refl s.heap.objs.size)
  have ok : ObjOk X.prog X.w (upd H s.heap.objs.size (.frz (tob us) (.tup vs))) (s.heap.push (tob us)) s.heap.objs.size (.frz (tob us) (.tup vs)) :=
    ⟨Heap.get?_push_size _ rfl, z, us, r, IsTup.new _ _⟩
  exact ⟨.ref _, _, I.laid (t' := t') (fun b o e => Heap.get?_push_of_some _ e) (Nat.le_refl _) ok, rfl, q _ (tob us) n rfl⟩
variable {es : List Expr} {pos : Pos} {t : TA}
/-- (a, b, ..) -/
def tTupF (t : TA) : TE := fun σ H Q => t σ H fun vs H1 => vs.length ≤ sizeLine ∧ NewT vs H1 Q
theorem pe_tupF {x1 : Nat} (h : PA X es t) : PE X (.Tuple es x1 pos) (tTupF t) := by
  refine ⟨fun pins s σ H Q I hq => ?_⟩
  refine wpAny_Tuple_spliced (thn (h.run pos pins s σ H _ I hq) fun us s1 ⟨vs, H1, I1, r, z, q⟩ => ⟨?_, tnew I1 r z q⟩)
  rw [← r.length]
  exact z
/-- t + u -/
def rCatF (K : PySem.W.Frag) : R2 := fun x y H Q => ∃ a b vs ws, x = .ref a ∧ y = .ref b ∧ SqT K H a vs ∧ SqT K H b ws ∧ vs.length + ws.length ≤ sizeLine ∧
  (vs = [] → Q (.ref b) H) ∧ (vs ≠ [] → ws = [] → Q (.ref a) H) ∧ (vs ≠ [] → ws ≠ [] → NewT (vs ++ ws) H Q)
theorem op_catF : OpR X (binaryOp .Add) (rCatF X.K) := by
  intro pins s σ H x y v u Q I rx ry h
  obtain ⟨a, b, vs, ws, rfl, rfl, ha, hb, hz, q0, q1, q2⟩ := h
  cases rx
  cases ry
  obtain ⟨us, r1, p1, z1⟩ := I.tuple ha
  obtain ⟨us2, r2, p2, z2⟩ := I.tuple hb
  by_cases hv : vs = []
  · subst hv
    cases r1
    exact cat_tup0 p1 p2 ⟨.ref b, H, I, rfl, q0 rfl⟩
  · have e1 : us = [] ↔ vs = [] := r1.nil_iff
    have e2 : us2 = [] ↔ ws = [] := r2.nil_iff
    refine HT.cat_tup p1 p2 (fun z => hv (e1.mp z)) (fun z => ⟨.ref a, H, I, rfl, q1 hv (e2.mp z)⟩) (fun z => ?_) ?_
    · exact tnew (us := us ++ us2) (t' := s.toks) I (r1.append r2) (by rw [List.length_append]; exact hz) (q2 hv fun w => z (e2.mpr w))
    · rw [← r1.length, ← r2.length]
      exact hz
/-- t[lo:hi] -/
def rSlF (K : PySem.W.Frag) : V → Option Int → Option Int → Hp → VK → Prop := fun x lo hi H Q => ∃ a vs, x = .ref a ∧ SqT K H a vs ∧
  (HT.sIx vs.length 0 lo = 0 ∧ HT.sIx vs.length vs.length hi = vs.length → Q (.ref a) H) ∧ (¬ (HT.sIx vs.length 0 lo = 0 ∧ HT.sIx vs.length vs.length hi = vs.length) → NewT (cutV vs lo hi) H Q)
theorem sl_tupF : SlR X (rSlF X.K) := by
  intro pins s σ H x v vl vu lo hi sl Q I rx hs pl pu h
  obtain ⟨a, vs, rfl, hx, q1, q2⟩ := h
  cases rx
  obtain ⟨us, r, ht, hz⟩ := I.tuple hx
  have len : us.toArray.size = vs.length := by rw [List.size_toArray]; exact r.length.symm
  refine ⟨"tuple", _, PyProof.Rows.slot_tuple_getitem.lookup, ht.typeIs, ?_⟩
  by_cases hw : HT.sIx vs.length 0 lo = 0 ∧ HT.sIx vs.length vs.length hi = vs.length
  · exact getItem_tuple_whole ht hs pl pu (by rw [len]; exact hw) ⟨.ref a, H, I, rfl, q1 hw⟩
  · refine HT.getItem_tuple_cut ht hs pl pu (by rw [len]; exact hw) ?_ (by rw [len]; exact hz)
    rw [len]
    exact tnew (t' := s.toks) I ((r.drop _).take _) (Nat.le_trans (cutV_length vs lo hi) hz) (q2 hw)
/-- tuple(xs) of a list, of a tuple (itself) -/
def rTupF (K : PySem.W.Frag) : List V → Hp → VK → Prop := fun xs H Q => ∃ p vs, xs = [.ref p] ∧ ((SqL K H p vs ∧ NewT vs H Q) ∨ (SqT K H p vs ∧ Q (.ref p) H))
theorem call_tupF : CallR X (.type "tuple") (rTupF X.K) := by
  intro pins s σ H xs us Q I r h
  obtain ⟨p, vs, rfl, h⟩ := h
  obtain ⟨u, rfl, ru⟩ := vals1 r
  cases ru
  rcases h with ⟨hl, q⟩ | ⟨ht, q⟩
  · obtain ⟨ws, rv, pl, hz⟩ := I.list hl
    refine call_tuple_list pl.isList (fun h' hk => ?_) (by rw [List.size_toArray, ← rv.length]; exact hz)
    have I1 : L2.Inv X pins σ H { s with heap := h' } := I.kept (t' := s.toks) hk
    exact tnew (s := { s with heap := h' }) (t' := s.toks) I1 rv hz q
  · obtain ⟨ws, rv, pl, hz⟩ := I.tuple ht
    exact call_tuple_tup pl ⟨.ref p, H, I, rfl, q⟩
/-- t * k -/
def rRepF (K : PySem.W.Frag) : R2 := fun x y H Q => ∃ l k vs, x = .ref l ∧ y = .int k ∧ SqT K H l vs ∧ vs ≠ [] ∧ 1 ≤ k ∧ k ≤ 1000 ∧ vs.length ≤ 1000 ∧ (k = 1 → Q (.ref l) H) ∧ (k ≠ 1 → NewT (List.replicate k.toNat vs).flatten H Q)
theorem tuple_mul1 (l : Addr) (items : Array Value) (n : Nat) (dd : Option Addr) (sl : Array (Option Value)) (u : Tok) (hs : items.size ≤ sizeLine) :
    Meets (Builtin.«tuple.__mul__» ⟨[.ref l, .int 1 u], []⟩) (fun _ R s => s.heap.get? l = some { cls := .type "tuple", dict := dd, data := .seq items n, slots := sl } ∧ R (.ok (.ret (Value.ref l))) s) :=
  .of_wp fun prog w A R s h => by
    obtain ⟨hp, g, d, tk, os⟩ := s
    obtain ⟨hl, h⟩ := h
    have f1 := AutoSeq1.idx_int
    wp_walk using wpAny_loadPart' hl
    exact ⟨_, rfl, h⟩
theorem op_repF : OpR X (binaryOp .Mult) (rRepF X.K) := by
  intro pins s σ H x y v u Q I rx ry h
  obtain ⟨l, k, vs, rfl, rfl, hT, hne, h1, h2, hz, q1, q2⟩ := h
  cases rx
  obtain ⟨t, rfl⟩ := ry
  obtain ⟨us, r, ⟨⟨cls, dd, data, sl⟩, ho, hc, n, hd⟩, hs⟩ := I.tuple hT
  simp only at hc hd
  subst hc hd
  have hle : us.length = vs.length := r.length.symm
  have hsz : us.toArray.size = vs.length := by rw [List.size_toArray, hle]
  have go : ∀ {R : Result → Shared → Prop}, Meets (Builtin.«tuple.__mul__» ⟨[.ref l, .int k t], []⟩) (fun _ R s => s.heap.get? l = some { cls := .type "tuple", dict := dd, data := .seq us.toArray n, slots := sl } ∧ R (.ok (.ret (Value.ref l))) s) →
      Q (.ref l) H → wpAny (model X.prog X.w) X.A (binaryOp .Mult (.ref l) (.int k t)) (EP X pins σ Q) X.xe s := fun m q =>
    wpAny_binaryOp_repeat_ref (T := "tuple") (U := "int") (by decide) ⟨_, ho, rfl⟩ (fun s' => typeIs_int s' k t) noFill_tuple_mul F.fills_int_mul F.slot_int_rmul repeat_tuple F.slot_int_index.lookup
      (call_meets F.slot_int_rmul (typeIs_int s k t) F.entry_int_rmul (F.args_int_rmul_2 _ _) (int_rmul_tuple k t l us.toArray n dd sl)
        ⟨ho, rfl, ⟨_, ho, rfl⟩, call_meets F.slot_tuple_mul ⟨_, ho, rfl⟩ F.entry_tuple_mul (F.args_tuple_mul_2 _ _) m ⟨ho, ⟨.ref l, H, I, rfl, q⟩⟩⟩)
  by_cases hk : k = 1
  · subst hk
    exact go (R := fun _ _ => True) (tuple_mul1 l us.toArray n dd sl t (by rw [hsz]; exact hs)) (q1 rfl)
  · have hn : us ≠ [] := fun e => hne (r.nil_iff.mp e)
    have hi : us.toArray.isEmpty = false := by
      cases us with
      | nil => exact absurd rfl hn
      | cons a b => rfl
    have a1 : ((vs.length : Nat) : Int) * k ≤ 1000 * k := Int.mul_le_mul_of_nonneg_right (by omega) (by omega)
    have hm : ((us.toArray.size : Nat) : Int) * k ≤ 1000000 := by rw [hsz]; omega
    have flen : (List.replicate k.toNat us).flatten.length ≤ sizeLine := by
      rw [PyProof.Rows.lm_len_rep_flat, hle, sizeLine_eq]
      have a1 : k.toNat * vs.length ≤ 1000 * 1000 := Nat.mul_le_mul (by omega) hz
      omega
    have c0 : (decide (k < -(2 ^ 63)) || decide (k ≥ 2 ^ 63)) = false := by
      rw [Bool.or_eq_false_iff, decide_eq_false_iff_not, decide_eq_false_iff_not]
      omega
    have c1 : (us.toArray.isEmpty || k == 1) = false := by
      rw [hi, Bool.false_or]
      simpa using hk
    have c2 : (decide (k ≤ 0) || us.toArray.isEmpty) = false := by
      rw [hi, Bool.or_false, decide_eq_false_iff_not]
      omega
    have c4 : Builtin.Tuple.tupleTooMany (((us.toArray.size : Nat) : Int) * k) = false := by
      unfold Builtin.Tuple.tupleTooMany
      rw [sizeLine_eq, decide_eq_false_iff_not]
      omega
    have m := tuple_mulW l us.toArray n dd sl k t c0 c1 c2 (by omega) c4 (by rw [size_rep, List.size_toArray]; exact flen)
    refine wpAny_binaryOp_repeat_ref (T := "tuple") (U := "int") (by decide) ⟨_, ho, rfl⟩ (fun s' => typeIs_int s' k t) noFill_tuple_mul F.fills_int_mul F.slot_int_rmul repeat_tuple F.slot_int_index.lookup
      (call_meets F.slot_int_rmul (typeIs_int s k t) F.entry_int_rmul (F.args_int_rmul_2 _ _) (int_rmul_tuple k t l us.toArray n dd sl)
        ⟨ho, rfl, ⟨_, ho, rfl⟩, call_meets F.slot_tuple_mul ⟨_, ho, rfl⟩ F.entry_tuple_mul (F.args_tuple_mul_2 _ _) m ⟨ho, ?_⟩⟩)
    rw [size_rep]
    refine tnew (t' := s.toks) I (r.rep k.toNat) ?_ (q2 hk)
    rw [PyProof.Rows.lm_len_rep_flat, ← hle, ← PyProof.Rows.lm_len_rep_flat]
    exact flen
theorem tupR_is (I : L2.Inv X pins σ H s) {a : Addr} {vs : List V} (h : TupR X.K H a vs) : s.TypeIs (.ref a) "tuple" ∧ ∀ b, Value.ref a = .ref b → ∃ ob, s.heap.get? b = some ob ∧ ob.dict = none := by
  rcases h with ⟨o, e, d⟩ | ⟨o, us, n, e, c, d, _⟩
  · obtain ⟨e1, z, us, r, p⟩ := I.hok a _ e
    refine ⟨p.typeIs, fun b eb => ?_⟩
    cases eb
    exact ⟨o, e1, d⟩
  · refine ⟨⟨o, I.kIn a o e, c⟩, fun b eb => ?_⟩
    cases eb
    exact ⟨o, I.kIn _ o e, d⟩
/-- x.m(e, ..), m a method of list and of tuple -/
def tBMG (K : PySem.W.Frag) (rL rT : V → List V → Hp → VK → Prop) (to : TE) (t : TA) : TE := fun σ H Q => to σ H fun x H1 => (tyV K "list" x H1 ∧ t σ H1 fun xs H2 => rL x xs H2 Q) ∨ ((∃ a vs, x = .ref a ∧ TupR K H1 a vs) ∧ t σ H1 fun xs H2 => rT x xs H2 Q)
theorem pe_bmG {o e : Expr} {to : TE} {name : Str} {apos cpos : Pos} {idL idT : String} {rL rT : V → List V → Hp → VK → Prop} (slotL : Slot "list" name idL) (htyL : typeOf (.builtin idL) = pure (.type "method_descriptor")) (hmL : MtR X idL rL)
    (slotT : Slot "tuple" name idT) (htyT : typeOf (.builtin idT) = pure (.type "method_descriptor")) (hmT : MtR X idT rT) (ho : PE X o to) (ha : PA X (e :: es) t)
    (hbase : attributeBase o name X.env (eval o X.env) = eval o X.env)
    (hfew : ((backTo cpos (starEach (e :: es) X.env)).all (fun x => !x.1) && (backToKw cpos (keywordEach [] X.env)).all (fun x => x.1.isSome) && decide ((e :: es).length + ([] : List Keyword).length + (if ([] : List Keyword).isEmpty then 0 else 1) < 30)) = true)
    (hline : (apos.endLine == cpos.line) = true) (hs : starEach (e :: es) X.env = (false, eval e X.env) :: starEach es X.env) (hpl : (backTo cpos (starEach es X.env)).any (·.1) = false) :
    PE X (.Call (.Attribute o name apos) (e :: es) [] cpos) (tBMG X.K rL rT to t) := by
  refine ⟨fun pins s σ H Q I h => ?_⟩
  refine wpAny_Call_method_late hbase hfew hline rfl (thn (ho.run pins s σ H _ I h) fun v s1 ⟨x, H1, I1, r1, alt⟩ => ?_)
  have hb : ((false, eval e X.env) :: backTo cpos (starEach es X.env)).any (·.1) = false := by
    rw [List.any_cons, hpl]
    rfl
  rcases alt with ⟨ty, q1⟩ | ⟨⟨a, vs, ex, ht⟩, q1⟩
  · obtain ⟨h1, h2⟩ := tyV_is I1 r1 ty
    refine ⟨"list", idL, PySem.F.plainAttrs_list, slotL, htyL, h1, h2, ?_⟩
    have hA := ha.run cpos pins s1 σ H1 _ I1 q1
    rw [hs] at hA ⊢
    exact Calls.callWith_builtin hb (Calls.evalArgs_plain (thn hA fun us s2 ⟨vs, H2, I2, r2, q2⟩ => hmL pins s2 σ H2 x vs v us Q I2 r1 r2 q2))
  · subst ex
    cases r1
    obtain ⟨h1, h2⟩ := tupR_is I1 ht
    refine ⟨"tuple", idT, PySem.F.plainAttrs_tuple, slotT, htyT, h1, h2, ?_⟩
    have hA := ha.run cpos pins s1 σ H1 _ I1 q1
    rw [hs] at hA ⊢
    exact Calls.callWith_builtin hb (Calls.evalArgs_plain (thn hA fun us s2 ⟨vs, H2, I2, r2, q2⟩ => hmT pins s2 σ H2 (.ref a) vs (.ref a) us Q I2 rfl r2 q2))
/-- t.index(x): data at any depth -/
def rIndexT (K : PySem.W.Frag) : V → List V → Hp → VK → Prop := fun x xs H Q => ∃ (a : Addr) (y : V) (d : PyData) (ds : List PyData) (j : Nat) (z : PyData), x = V.ref a ∧ xs = [y] ∧ Dp K H (V.ref a) (.tuple ds) ∧ Dp K H y d ∧
  SeqAt.shaped (.tuple ds) = true ∧ SeqAt.shaped d = true ∧ ds[j]? = some z ∧ PyData.eqv z d = true ∧ (∀ (m : Nat) (z' : PyData), m < j → ds[m]? = some z' → PyData.eqv z' d = false) ∧ Q (.int (j : Nat)) H
theorem mt_indexT (hu : X.A.units + 65 < cLine) : MtR X "tuple.index" (rIndexT X.K) := by
  intro pins s σ H x xs v us Q I rx rxs h
  obtain ⟨a, y, d, ds, j, z, rfl, rfl, hl, hy, sl, sd, hz, hzj, hno, q⟩ := h
  cases rx
  obtain ⟨uy, rfl, ry⟩ := vals1 rxs
  obtain ⟨bs, r1⟩ := Dp.reads I d y uy hy ry
  have lay : PyData.canLayAll0 ds = true := SeqAt.canLay_of_shaped sl
  cases hl with
  | tup hs ha =>
    obtain ⟨its, rv, ⟨⟨cls, dd, data, sls⟩, ho, hc, n, hd⟩, hlen⟩ := I.tuple hs
    simp only at hc hd
    subst hc hd
    obtain ⟨as, h4⟩ := Dp.readsAll I ds _ its ha rv
    have hn : its.length = ds.length := SeqAt.ReadsAll.length ds its as h4
    have hmap : its.map (SeqAt.readOf s.heap) = ds := SeqAt.readsAll_map ds its as lay h4
    have hjl : j < its.toArray.size := by
      rw [List.size_toArray, hn]
      exact (List.getElem?_eq_some_iff.mp hz).1
    have at_ : ∀ (m : Nat) (hm : m < its.toArray.size), ds[m]? = some (SeqAt.readOf s.heap its.toArray[m]) := fun m hm => by
      have hm' : m < its.length := by simpa using hm
      rw [← hmap, List.getElem?_map, List.getElem?_eq_getElem hm']
      simp
    refine call_meets PySem.F.slot_tuple_index ⟨_, ho, rfl⟩ PySem.F.entry_tuple_index (PySem.F.args_tuple_index_2 _ _) (TI.tuple_indexAt a its.toArray n dd sls uy (fun u => PyData.eqv (SeqAt.readOf s.heap u) d) j hjl ?_ ?_)
      ⟨ho, SeqAt.items_eqAt (vs := its.toArray) (show ReadsAll s.heap its.toArray.toList ds as from h4) r1 lay (SeqAt.canLay_of_shaped sd) (room_in_shaped sd hu), ⟨.int (j : Nat), H, I.tok _, ⟨_, rfl⟩, q⟩⟩
    · have e := (at_ j hjl).symm.trans hz
      rw [Option.some.injEq] at e
      show PyData.eqv (SeqAt.readOf s.heap its.toArray[j]) d = true
      rw [e]
      exact hzj
    · intro m hm hmj
      exact hno m _ hmj (at_ m hm)
/-- x in t, t a tuple of data at any depth -/
def rInT (K : PySem.W.Frag) (k : Bool) : R2 := fun x y H Q => ∃ d ds, Dp K H x d ∧ Dp K H y (.tuple ds) ∧ SeqAt.shaped d = true ∧ SeqAt.shaped (.tuple ds) = true ∧ Q (.bl (if k then ds.any fun z => PyData.eqv z d else !ds.any fun z => PyData.eqv z d)) H
theorem op_inT (hu : X.A.units + 65 < cLine) : OpR X (compareOp .In) (rInT X.K true) := by
  intro pins s σ H x y v u Q I rx ry h
  obtain ⟨d, ds, hd, he, sd, se, q⟩ := h
  obtain ⟨as, r1⟩ := Dp.reads I d x v hd rx
  obtain ⟨bs, r2⟩ := Dp.reads I (.tuple ds) y u he ry
  exact SeqAt.in_tuple_reads r2 r1 (SeqAt.canLay_of_shaped se) (SeqAt.canLay_of_shaped sd) (room_in_shaped sd hu) ⟨.bl _, H, I, rfl, q⟩
theorem op_notInT (hu : X.A.units + 65 < cLine) : OpR X (compareOp .NotIn) (rInT X.K false) := by
  intro pins s σ H x y v u Q I rx ry h
  obtain ⟨d, ds, hd, he, sd, se, q⟩ := h
  obtain ⟨as, r1⟩ := Dp.reads I d x v hd rx
  obtain ⟨bs, r2⟩ := Dp.reads I (.tuple ds) y u he ry
  exact SeqAt.notIn_tuple_reads r2 r1 (SeqAt.canLay_of_shaped se) (SeqAt.canLay_of_shaped sd) (room_in_shaped sd hu) ⟨.bl _, H, I, rfl, q⟩
end
end Ev

namespace Ev
open PySem PySem.Spec
open PyProof.Rows L2

/-! ### enumerate(v) of a list or a tuple, its pairs laid as tuples for good -/
set_option maxHeartbeats 1000000 in
theorem meets_enum1 {v : Value} {o : Obj} {P : Heap → Prop} (B : Begins v o P) :
    Meets (Builtin.«enumerate.__new__» ⟨[.type "enumerate", v], []⟩) (fun _ R s => P s.heap ∧
      R (.ok (.ret (.ref (s.heap.push o).objs.size))) { s with heap := (s.heap.push o).push { cls := .type "enumerate", data := .fields #[.none, .bool false, .ref s.heap.objs.size, rawInt 0, .none, .none] } }) :=
  .of_wp fun prog w A R s h => by
    obtain ⟨hp, g, d, tk, os⟩ := s
    obtain ⟨h1, h⟩ := h
    have sub := sub_enumerate
    have q1 : ∀ {A' : Around} {E : Value → Shared → Prop} {Q : Value → Shared → Prop}, Q (.ref hp.objs.size) ⟨hp.push o, g, d, tk, os⟩ → wpAny (model prog w) A' (pyIter v) Q E ⟨hp, g, d, tk, os⟩ := fun q => B.iter prog w _ _ ⟨hp, g, d, tk, os⟩ _ h1 q
    wp_walk using q1
    refine wpAny_stack_any fun st => wpAny_pure ?_
    split
    · rename_i c _ _ _ _ _
      cases (c == Value.type "enumerate") <;> (wp_walk using q1; exact ⟨_, rfl, h⟩)
    · wp_walk using q1
      exact ⟨_, rfl, h⟩
theorem enum1 {prog : Program} {w : World} {A : Around} {E : Value → Shared → Prop} {s : Shared} {v : Value} {o : Obj} {P : Heap → Prop} {Q : Value → Shared → Prop} (B : Begins v o P) (h1 : P s.heap) (fo : o.isFreed = false)
    (h : ∀ h', IsEnum h' (s.heap.objs.size + 1) s.heap.objs.size 0 .none → h'.get? s.heap.objs.size = some o → (∀ b u, s.heap.get? b = some u → h'.get? b = some u) → Q (.ref (s.heap.objs.size + 1)) { s with heap := h' }) :
    wpAny (model prog w) A (call (.type "enumerate") [v]) Q E s := by
  refine callType_new F.called_enumerate (by decide) (F.typeCall_enumerate_1 _) (F.newCall_enumerate_1 _) (fun obj => F.args_object_init_2 obj _) F.entry_enumerate_new (meets_enum1 B) ⟨h1, ?_⟩
  have hz : (s.heap.push o).objs.size = s.heap.objs.size + 1 := Heap.size_push ..
  generalize ho : ({ cls := .type "enumerate", data := .fields #[.none, .bool false, .ref s.heap.objs.size, rawInt 0, .none, .none] } : Obj) = oe
  have e2 : ((s.heap.push o).push oe).get? (s.heap.objs.size + 1) = some oe := by
    have q := Heap.get?_push_size (s.heap.push o) (o := oe) (by rw [← ho]; rfl)
    rw [hz] at q
    exact q
  show _ ∧ _
  rw [hz]
  refine ⟨⟨_, e2, by rw [← ho]⟩, h _ (by rw [← ho] at e2 ⊢; exact e2) (Heap.get?_push_of_some _ (Heap.get?_push_size _ fo)) fun b u x => Heap.get?_push_of_some _ (Heap.get?_push_of_some _ x)⟩
def SqB (b : Bool) (K : PySem.W.Frag) (H : Hp) (a : Addr) (vs : List V) : Prop := if b then SqT K H a vs else SqL K H a vs
/-- at turn i: the pair of i and the item -/
def Enm (b : Bool) (K : PySem.W.Frag) (a : Addr) : L2.It :=
  ⟨fun i H => ∃ vs, SqB b K H a vs ∧ i < vs.length,
   fun i H v H' => ∃ (T : Addr) (o : Obj) (x : V), v = .ref T ∧ H T = none ∧ o.dict = none ∧ H' = upd H T (.frz o (.tup [.int (i : Nat), x])) ∧ ∀ vs, SqB b K H a vs → vs[i]? = some x,
   fun i H => ∃ vs, SqB b K H a vs ∧ vs.length = i⟩
/-- the iterator at it over the sequence at a, at place i -/
def ItAt (b : Bool) (it a : Addr) (i : Nat) (h : Heap) : Prop := if b then h.IsTupleIter it a i else h.IsListIter it a i
theorem ItAt.live {b : Bool} {it a : Addr} {i : Nat} {h : Heap} (x : ItAt b it a i h) : ∃ o, h.get? it = some o ∧ ∀ v, o.data ≠ .cell v := by
  cases b with
  | true =>
    obtain ⟨o, e, c, d⟩ := (show h.IsTupleIter it a i from x)
    exact ⟨o, e, fun v q => by rw [d] at q; cases q⟩
  | false =>
    obtain ⟨o, e, c, d⟩ := (show h.IsListIter it a i from x)
    exact ⟨o, e, fun v q => by rw [d] at q; cases q⟩
theorem ItAt.at_ {b : Bool} {it a : Addr} {i : Nat} {h h' : Heap} (x : ItAt b it a i h) (k : ∀ o, h.get? it = some o → h'.get? it = some o) : ItAt b it a i h' := by
  cases b with
  | true => exact (show h.IsTupleIter it a i from x).at k
  | false => exact (show h.IsListIter it a i from x).at k
section
variable {X : Cx} {pins : List (Addr × Obj)} {σ : L2.St} {H : Hp} {s : Shared}
theorem sqB_inj {b : Bool} {a : Addr} {vs ws : List V} (I : L2.Inv X pins σ H s) (h : SqB b X.K H a vs) (h' : SqB b X.K H a ws) : vs = ws := by
  cases b with
  | true => exact I.tuple_inj h h'
  | false => exact I.list_inj h h'
/-- what the sequence draws, and that its place is not e's -/
theorem sqB_draws {b : Bool} {a it e : Addr} {i : Nat} {vs : List V} (I : L2.Inv X pins σ H s) (hd : X.A.handled = none) (h : SqB b X.K H a vs) (hi : ItAt b it a i s.heap) (he : ∃ old, IsEnum s.heap e it ((i : Nat) : Int) old) :
    ∃ us : List Value, Vals vs us ∧ e ≠ a ∧ ∃ St : Nat → Heap → Prop, Draws X.prog X.w X.A.in1 it [it, a] us.toArray.size (fun i v => us.toArray[i]? = some v) St ∧ St i s.heap ∧ ∀ j h', St j h' → ItAt b it a j h' := by
  obtain ⟨old, he⟩ := he
  cases b with
  | true =>
    obtain ⟨us, r, p, z⟩ := I.tuple (show SqT X.K H a vs from h)
    have ha : a ≠ it := fun q => by
      obtain ⟨o, e1, c, _⟩ := p
      obtain ⟨o2, e2, c2, _⟩ := (show s.heap.IsTupleIter it a i from hi)
      rw [q, e2] at e1
      cases e1
      rw [c] at c2
      exact absurd c2 (by decide +kernel)
    refine ⟨us, r, fun q => ?_, _, Draws.tuple (show X.A.in1.handled = none from hd) it a ha us.toArray, ⟨hi, p⟩, fun j h' q => q.1⟩
    obtain ⟨o, e1, c, _⟩ := p
    rw [← q] at e1
    have e2 : s.heap.get? e = _ := he
    rw [e2] at e1
    cases e1
    exact absurd (show Value.type "enumerate" = Value.type "tuple" from c) (by decide +kernel)
  | false =>
    obtain ⟨us, r, p, z⟩ := I.list (show SqL X.K H a vs from h)
    have ha : a ≠ it := fun q => by
      obtain ⟨o, _, e1, c, _⟩ := p
      obtain ⟨o2, e2, c2, _⟩ := (show s.heap.IsListIter it a i from hi)
      rw [q, e2] at e1
      cases e1
      rw [c] at c2
      exact absurd c2 (by decide +kernel)
    refine ⟨us, r, fun q => ?_, _, Draws.list (show X.A.in1.handled = none from hd) it a ha us.toArray, ⟨hi, p.isList⟩, fun j h' q => q.1⟩
    obtain ⟨o, _, e1, c, _⟩ := p
    rw [← q] at e1
    have e2 : s.heap.get? e = _ := he
    rw [e2] at e1
    cases e1
    exact absurd (show Value.type "enumerate" = Value.type "list" from c) (by decide +kernel)
end
theorem turn_enm {P : Program} {w : World} {K : PySem.W.Frag} {elts : List Expr} {kk : Nat} {tpos : Pos} (b : Bool) (a e it : Addr) :
    Turn P w K (.Tuple elts kk tpos) (Enm b K a) [e, it] e (fun i h => (∃ old, IsEnum h e it ((i : Nat) : Int) old) ∧ ItAt b it a i h ∧ e ≠ it) where
  mem := List.mem_cons_self
  obj := fun i h st c hc => by
    obtain ⟨⟨old, he⟩, hi, _⟩ := st
    rcases List.mem_cons.mp hc with rfl | hc
    · exact ⟨_, he, fun v q => nomatch q⟩
    · obtain rfl : c = it := by simpa using hc
      exact hi.live
  keep := fun i h h' st k => by
    obtain ⟨⟨old, he⟩, hi, hne⟩ := st
    exact ⟨⟨old, k e List.mem_cons_self _ he⟩, hi.at_ fun o q => k it (by simp) o q, hne⟩
  item := by
    intro X hP hw hK hc i pins s σ H E I hf st hg
    subst hP hw hK
    obtain ⟨he, hit, hne⟩ := st
    obtain ⟨vs, hq, hx⟩ := hg
    obtain ⟨us, r, nea, St, Dr, st0, stI⟩ := sqB_draws I (I.ok.hd hc) hq hit he
    obtain ⟨old, he⟩ := he
    have elt : e < s.heap.objs.size := Heap.lt_size he
    have ilt : it < s.heap.objs.size := by
      obtain ⟨_, q, _⟩ := hit.live
      exact Heap.lt_size q
    have hlen : i < us.toArray.size := by rw [List.size_toArray, ← r.length]; exact hx
    refine wpAny_pyNext_enum_itemD Dr he st0 hlen hne (by simp [hne, nea]) fun u h1 tk hu ho st1 hT hsz hk => ?_
    obtain ⟨u', hu', ru⟩ := r.get (List.getElem?_eq_getElem hx)
    obtain rfl : u = u' := by
      have q : us[i]? = some u := by simpa using hu
      rw [q] at hu'
      cases hu'
      rfl
    refine ⟨_, rfl, wpAny_letOwnedTupleGo_enum (s := { s with heap := h1, toks := tk + 1 }) ho fun h2 he2 sb => ?_⟩
    have g2 : h2.get? s.heap.objs.size = some (tob [.int i tk, u]) := (sb.2 _ (Nat.ne_of_gt elt)).trans hT
    have new : ObjOk X.prog X.w (upd H s.heap.objs.size (.frz (tob [.int i tk, u]) (.tup [.int (i : Nat), vs[i]]))) h2 s.heap.objs.size (.frz (tob [.int i tk, u]) (.tup [.int (i : Nat), vs[i]])) :=
      ⟨g2, by show 2 ≤ sizeLine; decide, [.int i tk, u], .cons ⟨_, rfl⟩ (.cons ru .nil), ⟨_, g2, rfl, _, rfl⟩⟩
    have kp : ∀ c ob, c ∉ [e, it] → s.heap.get? c = some ob → h2.get? c = some ob := fun c ob hc q => by
      have h1' : c ≠ e := fun z => hc (by simp [z])
      have h2' : c ≠ it := fun z => hc (by simp [z])
      exact (sb.2 c h1').trans (hk c ob h1' h2' q)
    have I1 := I.turnedNew (t' := tk + 1) kp hf (Nat.le_refl _) new
    refine ⟨.ref s.heap.objs.size, _, I1, rfl, ⟨_, _, vs[i], rfl, I.hok.fresh (Nat.le_refl _), rfl, rfl, fun ws hw => ?_⟩, ⟨⟨u, ?_⟩, (stI _ _ st1).at_ fun o q => (sb.2 it (Ne.symm hne)).trans q, hne⟩, fun c hc => ?_⟩
    · rw [sqB_inj I hw hq]
      exact List.getElem?_eq_getElem hx
    · rw [show ((i + 1 : Nat) : Int) = (i : Int) + 1 by omega]
      exact he2
    · have hc' : c < s.heap.objs.size := by
        rcases List.mem_cons.mp hc with z | z
        · rw [z]; exact elt
        · have z' : c = it := by simpa using z
          rw [z']; exact ilt
      rw [upd_ne (Nat.ne_of_lt hc')]
      exact (hf c hc).1
  done := by
    intro X hP hw hK hc i pins s σ H E I hf st hg
    subst hP hw hK
    obtain ⟨he, hit, hne⟩ := st
    obtain ⟨vs, hq, hx⟩ := hg
    obtain ⟨us, r, nea, St, Dr, st0, stI⟩ := sqB_draws I (I.ok.hd hc) hq hit he
    obtain ⟨old, he⟩ := he
    obtain ⟨f0, f1, f2, f3, f4, f5⟩ := hf it (by simp)
    have hn : us.toArray.size = i := by rw [List.size_toArray, ← r.length]; exact hx
    rw [← hn] at st0
    exact wpAny_pyNext_enum_endD Dr he st0 fun h1 q => ⟨rfl, I.turned (t' := s.toks) (fun c o hc e => q c o hc e) f0 f1 f3 f4 f5⟩
  self := fun A i s Q E st h => by
    obtain ⟨⟨old, he⟩, _⟩ := st
    exact wpAny_pyIter_enum he h
section
variable {X : Cx} {pins : List (Addr × Obj)} {σ : L2.St} {H : Hp} {s : Shared}
def iEnm (K : PySem.W.Frag) (te : TA) : TI := fun σ H R => te σ H fun vs H1 => ∃ (b : Bool) (a : Addr) (ws : List V), vs = [.ref a] ∧ SqB b K H1 a ws ∧ R (Enm b K a) H1
theorem pi_enm {e : Expr} {ta : TA} {p pos tpos : Pos} {elts : List Expr} {kk : Nat} (hg : Gl X "enumerate") (hm : X.mg "enumerate" = none) (ha : PA X [e] ta) (hs : starEach [e] X.env = [(false, eval e X.env)]) :
    PI X (.Tuple elts kk tpos) (.Call (.Name "enumerate" p) [e] [] pos) (iEnm X.K ta) := by
  refine ⟨fun pins s σ H R I h => ?_⟩
  refine Call_ (ld_blt I hg hm boot_enumerate (PyProof.Rows.callWith_type1 (thn (ha.run pos pins s σ H _ I h) fun us s1 ⟨vs, H1, I1, r1, b, a, ws, ex, hq, q⟩ => ?_) hs rfl))
  subst ex
  have r2 := r1.length
  cases r1 with
  | cons r rr =>
    cases rr
    cases r
    have main : ∀ {o : Obj} {P : Heap → Prop}, Begins (.ref a) o P → P s1.heap → o.isFreed = false → (∀ h' : Heap, h'.get? s1.heap.objs.size = some o → ItAt b s1.heap.objs.size a 0 h') →
        wpAny (model X.prog X.w) X.A (call (.type "enumerate") [.ref a]) (fun v s2 => wpAny (model X.prog X.w) X.A (pyIter v) (PIE X pins σ (.Tuple elts kk tpos) R) X.xe s2) X.xe s1 := fun B p0 fo mk => by
      refine enum1 B p0 fo fun h' he ho hk => wpAny_pyIter_enum he ?_
      have I2 : L2.Inv X pins σ H1 { s1 with heap := h' } := I1.kept (t' := s1.toks) hk
      refine ⟨s1.heap.objs.size + 1, [s1.heap.objs.size + 1, s1.heap.objs.size], _, _, H1, rfl, I2, turn_enm b a (s1.heap.objs.size + 1) s1.heap.objs.size, ⟨⟨.none, he⟩, mk h' ho, Nat.succ_ne_self _⟩, fun c hc => ?_, q⟩
      have hle : s1.heap.objs.size ≤ c := by
        rcases List.mem_cons.mp hc with z | z
        · rw [z]; exact Nat.le_succ _
        · have z' : c = s1.heap.objs.size := by simpa using z
          rw [z']; exact Nat.le_refl _
      exact I1.fpOk hle (I1.hok.fresh hle)
    cases b with
    | true =>
      obtain ⟨us2, rv, p', hz⟩ := I1.tuple (show SqT X.K H1 a ws from hq)
      exact main (begins_tuple a us2.toArray) p' rfl fun h' e => ⟨_, e, rfl, rfl⟩
    | false =>
      obtain ⟨us2, rv, p', hz⟩ := I1.list (show SqL X.K H1 a ws from hq)
      exact main (begins_list a us2.toArray) p'.isList rfl fun h' e => ⟨_, e, rfl, rfl⟩
end
end Ev

namespace Ev
open PySem PySem.Spec
open PyProof.Rows L2

/-! ### which values stand for which data -/
section
variable (K : PySem.W.Frag) (μ : List Addr) (F : Hp)
mutual
inductive R : V → D → Prop
  | non : R .non .none
  | bl (b : Bool) : R (.bl b) (.bool b)
  | int (i : Int) : R (.int i) (.int i)
  | str (x : Str) : R (.str x) (.str x)
  | lst {a : Addr} {vs : List V} {ds : List D} : Rd F a (.lst vs) → vs.length ≤ sizeLine → RA vs ds → R (.ref a) (.list ds)
  | tup {a : Addr} {vs : List V} {ds : List D} : TupR K F a vs → vs.length ≤ sizeLine → RA vs ds → R (.ref a) (.tuple ds)
  | frn {a : Addr} {vs : List V} {ds : List D} : SqL K F a vs → vs.length ≤ sizeLine → RA vs ds → R (.ref a) (.dict [(.dict [], .list ds)])
  | rf {a : Addr} {i : Nat} : μ[i]? = some a → R (.ref a) (.dict [(.dict [], .int (Int.ofNat i))])
inductive RA : List V → List D → Prop
  | nil : RA [] []
  | cons {v : V} {vs : List V} {d : D} {ds : List D} : R v d → RA vs ds → RA (v :: vs) (d :: ds)
end
inductive RE : L2.St → DE → Prop
  | nil : RE [] []
  | no {x : Option V} {σ : L2.St} {δ : DE} : RE σ δ → RE (x :: σ) (none :: δ)
  | yes {v : V} {d : D} {σ : L2.St} {δ : DE} : R K μ F v d → RE σ δ → RE (some v :: σ) (some d :: δ)
end
section
variable {K : PySem.W.Frag} {μ μ' : List Addr} {F F' : Hp}
theorem sameR (s : Same F F') {a : Addr} {o : HO} (h : Rd F a o) : Rd F' a o := by
  rcases h with h | ⟨u, h⟩
  · exact Or.inl (s _ _ h)
  · exact Or.inr ⟨u, s _ _ h⟩
theorem sameT (s : Same F F') {a : Addr} {vs : List V} (h : SqT K F a vs) : SqT K F' a vs := by
  rcases h with (h | ⟨o, h⟩) | h
  · exact Or.inl (Or.inl (s _ _ h))
  · exact Or.inl (Or.inr ⟨o, s _ _ h⟩)
  · exact Or.inr h
abbrev Grow (μ μ' : List Addr) : Prop := ∀ (i : Nat) (a : Addr), μ[i]? = some a → μ'[i]? = some a
mutual
theorem R.mono (g : Grow μ μ') (s : Same F F') : ∀ {v : V} {d : D}, R K μ F v d → R K μ' F' v d
  | _, _, .non => .non
  | _, _, .bl b => .bl b
  | _, _, .int i => .int i
  | _, _, .str x => .str x
  | _, _, .lst h z r => .lst (sameR s h) z (RA.mono g s r)
  | _, _, .tup h z r => .tup (h.same s) z (RA.mono g s r)
  | _, _, .frn h z r => .frn (s.seq h) z (RA.mono g s r)
  | _, _, .rf h => .rf (g _ _ h)
theorem RA.mono (g : Grow μ μ') (s : Same F F') : ∀ {vs : List V} {ds : List D}, RA K μ F vs ds → RA K μ' F' vs ds
  | _, _, .nil => .nil
  | _, _, .cons h r => .cons (R.mono g s h) (RA.mono g s r)
end
theorem RE.mono (g : Grow μ μ') (s : Same F F') : ∀ {σ : L2.St} {δ : DE}, RE K μ F σ δ → RE K μ' F' σ δ
  | _, _, .nil => .nil
  | _, _, .no r => .no (RE.mono g s r)
  | _, _, .yes h r => .yes (h.mono g s) (RE.mono g s r)
theorem RA.len : ∀ {vs : List V} {ds : List D}, RA K μ F vs ds → vs.length = ds.length
  | _, _, .nil => rfl
  | _, _, .cons _ r => by rw [List.length_cons, List.length_cons, RA.len r]
theorem RA.get : ∀ {vs : List V} {ds : List D} {i : Nat} {v : V}, RA K μ F vs ds → vs[i]? = some v → ∃ d, ds[i]? = some d ∧ R K μ F v d
  | _, _, i, v, .nil, e => by simp at e
  | _, _, 0, v, .cons h r, e => by simp at e; subst e; exact ⟨_, rfl, h⟩
  | _, _, i + 1, v, .cons h r, e => by
    obtain ⟨d, e1, h1⟩ := RA.get (i := i) (v := v) r (by simpa using e)
    exact ⟨d, by simpa using e1, h1⟩
theorem RA.get' {vs : List V} {ds : List D} {i : Nat} {d : D} (r : RA K μ F vs ds) (e : ds[i]? = some d) : ∃ v, vs[i]? = some v ∧ R K μ F v d := by
  have hi : i < ds.length := (List.getElem?_eq_some_iff.mp e).1
  have hv : i < vs.length := by rw [r.len]; exact hi
  obtain ⟨d', e', h⟩ := r.get (List.getElem?_eq_getElem hv)
  rw [e] at e'
  cases e'
  exact ⟨_, List.getElem?_eq_getElem hv, h⟩
theorem RA.append : ∀ {vs ws : List V} {ds es : List D}, RA K μ F vs ds → RA K μ F ws es → RA K μ F (vs ++ ws) (ds ++ es)
  | _, _, _, _, .nil, q => q
  | _, _, _, _, .cons h r, q => .cons h (RA.append r q)
theorem RA.set {v : V} {d : D} (h : R K μ F v d) : ∀ {vs : List V} {ds : List D} (i : Nat), RA K μ F vs ds → RA K μ F (vs.set i v) (ds.set i d)
  | _, _, _, .nil => .nil
  | _, _, 0, .cons _ r => .cons h r
  | _, _, i + 1, .cons q r => .cons q (RA.set h i r)
theorem RA.take : ∀ {vs : List V} {ds : List D} (n : Nat), RA K μ F vs ds → RA K μ F (vs.take n) (ds.take n)
  | _, _, 0, _ => .nil
  | _, _, _ + 1, .nil => .nil
  | _, _, n + 1, .cons h r => .cons h (RA.take n r)
theorem RA.drop : ∀ {vs : List V} {ds : List D} (n : Nat), RA K μ F vs ds → RA K μ F (vs.drop n) (ds.drop n)
  | _, _, 0, r => r
  | _, _, _ + 1, .nil => .nil
  | _, _, n + 1, .cons _ r => RA.drop n r
theorem RA.reverse {vs : List V} {ds : List D} (r : RA K μ F vs ds) : RA K μ F vs.reverse ds.reverse := by
  induction vs generalizing ds with
  | nil => cases r; exact .nil
  | cons v vs ih =>
    cases r with
    | cons h r =>
      rw [List.reverse_cons, List.reverse_cons]
      exact (ih r).append (.cons h .nil)
theorem RA.rep {vs : List V} {ds : List D} (r : RA K μ F vs ds) : ∀ k : Nat, RA K μ F (List.replicate k vs).flatten (List.replicate k ds).flatten
  | 0 => .nil
  | k + 1 => by
    rw [List.replicate_succ, List.replicate_succ, List.flatten_cons, List.flatten_cons]
    exact r.append (RA.rep r k)
theorem RE.len : ∀ {σ : L2.St} {δ : DE}, RE K μ F σ δ → σ.length = δ.length
  | _, _, .nil => rfl
  | _, _, .no r => by rw [List.length_cons, List.length_cons, RE.len r]
  | _, _, .yes _ r => by rw [List.length_cons, List.length_cons, RE.len r]
theorem RE.get : ∀ {σ : L2.St} {δ : DE} {i : Nat} {d : D}, RE K μ F σ δ → δ[i]? = some (some d) → ∃ v, σ[i]? = some (some v) ∧ R K μ F v d
  | _, _, i, d, .nil, e => by simp at e
  | _, _, 0, d, .no r, e => by simp at e
  | _, _, i + 1, d, .no r, e => by
    obtain ⟨v, e1, h1⟩ := RE.get (i := i) (d := d) r (by simpa using e)
    exact ⟨v, by simpa using e1, h1⟩
  | _, _, 0, d, .yes h r, e => by simp at e; subst e; exact ⟨_, rfl, h⟩
  | _, _, i + 1, d, .yes h r, e => by
    obtain ⟨v, e1, h1⟩ := RE.get (i := i) (d := d) r (by simpa using e)
    exact ⟨v, by simpa using e1, h1⟩
theorem RE.set {v : V} {d : D} (h : R K μ F v d) : ∀ {σ : L2.St} {δ : DE} (i : Nat), RE K μ F σ δ → RE K μ F (σ.set i (some v)) (δ.set i (some d))
  | _, _, _, .nil => .nil
  | _, _, 0, .no r => .yes h r
  | _, _, 0, .yes _ r => .yes h r
  | _, _, i + 1, .no r => .no (RE.set h i r)
  | _, _, i + 1, .yes q r => .yes q (RE.set h i r)
theorem RE.wipe1 : ∀ {σ : L2.St} {δ : DE} (i : Nat), RE K μ F σ δ → RE K μ F (σ.set i none) (δ.set i none)
  | _, _, _, .nil => .nil
  | _, _, 0, .no r => .no r
  | _, _, 0, .yes _ r => .no r
  | _, _, i + 1, .no r => .no (RE.wipe1 i r)
  | _, _, i + 1, .yes q r => .yes q (RE.wipe1 i r)
theorem RE.wipe {σ : L2.St} {δ : DE} (r : RE K μ F σ δ) : ∀ vs : List Nat, RE K μ F (wipe σ vs) (wipeD δ vs)
  | [] => r
  | v :: vs => (RE.wipe r vs).wipe1 v
theorem RE.start : ∀ {vs : List V} {ds : List D} (n : Nat), RA K μ F vs ds → RE K μ F (vs.map some ++ List.replicate n none) (ds.map some ++ List.replicate n none)
  | _, _, 0, .nil => .nil
  | _, _, n + 1, .nil => by
    rw [List.replicate_succ]
    exact .no (RE.start n .nil)
  | _, _, n, .cons h r => .yes h (RE.start n r)

/-! ### data without names of mutable objects -/
mutual
theorem R.dp (s : Same F F') : ∀ {v : V} {d : D}, R K μ F v d → d.canLay0 = true → Dp K F' v d
  | _, _, .non, _ => .non
  | _, _, .bl b, _ => .bl b
  | _, _, .int i, _ => .int i
  | _, _, .str x, _ => .str x
  | _, .list ds, .lst h _ r, c => .lst (Or.inl (sameR s h)) (RA.dp s r (by simpa [PyData.canLay0] using c))
  | _, .tuple ds, .tup h _ r, c => .tup (sameT s h.sq) (RA.dp s r (by simpa [PyData.canLay0] using c))
  | _, _, .frn _ _ _, c => by simp [PyData.canLay0] at c
  | _, _, .rf h, c => by simp [PyData.canLay0] at c
theorem RA.dp (s : Same F F') : ∀ {vs : List V} {ds : List D}, RA K μ F vs ds → PyData.canLayAll0 ds = true → DpAll K F' vs ds
  | _, _, .nil, _ => .nil
  | _, _, .cons h r, c => by
    simp only [PyData.canLayAll0, Bool.and_eq_true] at c
    exact .cons (R.dp s h c.1) (RA.dp s r c.2)
end
mutual
theorem R.cut (n : Nat) : ∀ {v : V} {d : D}, R K μ F v d → below n d = true → R K (μ.take n) F v d
  | _, _, .non, _ => .non
  | _, _, .bl b, _ => .bl b
  | _, _, .int i, _ => .int i
  | _, _, .str x, _ => .str x
  | _, .list ds, .lst h z r, c => .lst h z (RA.cut n r (by simpa [below] using c))
  | _, .tuple ds, .tup h z r, c => .tup h z (RA.cut n r (by simpa [below] using c))
  | _, _, .frn h z r, c => .frn h z (RA.cut n r (by simpa [below] using c))
  | _, _, .rf (i := i) h, c => .rf (by
    have hi : i < n := by simpa [below] using c
    rw [List.getElem?_take_of_lt hi]
    exact h)
theorem RA.cut (n : Nat) : ∀ {vs : List V} {ds : List D}, RA K μ F vs ds → belowA n ds = true → RA K (μ.take n) F vs ds
  | _, _, .nil, _ => .nil
  | _, _, .cons h r, c => by
    simp only [belowA, Bool.and_eq_true] at c
    exact .cons (R.cut n h c.1) (RA.cut n r c.2)
end
end

/-! ### the store and the heap -/
/-- b is the place of a mutable object that lives -/
def Lv (μ : List Addr) (S : Sto) (b : Addr) : Prop := ∃ (i : Nat) (o : Ob), μ[i]? = some b ∧ S[i]? = some o ∧ o ≠ .dead
/-- what may change: a list that is being built, a mutable object that lives -/
def Mv (Z μ : List Addr) (S : Sto) (b : Addr) : Prop := b ∈ Z ∨ Lv μ S b
open Classical in
/-- what stays as it is -/
noncomputable def fz (Z μ : List Addr) (S : Sto) (H : Hp) : Hp := fun b => if Mv Z μ S b then none else H b
theorem fz_of {Z μ : List Addr} {S : Sto} {H : Hp} {b : Addr} (h : ¬ Mv Z μ S b) : fz Z μ S H b = H b := by
  unfold fz
  rw [if_neg h]
theorem fz_lv {Z μ : List Addr} {S : Sto} {H : Hp} {b : Addr} (h : Mv Z μ S b) : fz Z μ S H b = none := by
  unfold fz
  rw [if_pos h]
theorem fz_some {Z μ : List Addr} {S : Sto} {H : Hp} {b : Addr} {o : HO} (h : fz Z μ S H b = some o) : ¬ Mv Z μ S b ∧ H b = some o := by
  by_cases l : Mv Z μ S b
  · rw [fz_lv l] at h
    cases h
  · rw [fz_of l] at h
    exact ⟨l, h⟩
theorem fz_same (Z μ : List Addr) (S : Sto) (H : Hp) : Same (fz Z μ S H) H := fun _ _ h => (fz_some h).2

def OR (K : PySem.W.Frag) (μ : List Addr) (F H : Hp) (a : Addr) : Ob → Prop
  | .lst ds => ∃ vs, H a = some (.lst vs) ∧ vs.length ≤ sizeLine ∧ RA K μ F vs ds
  | .dct kvs => ∃ kws, H a = some (.dK kws) ∧ kws.map (·.1) = kvs.map (·.1) ∧ RA K μ F (kws.map (·.2)) (kvs.map (·.2))
  | .dead => H a ≠ none
theorem OR.there {K : PySem.W.Frag} {μ : List Addr} {F H : Hp} {a : Addr} {o : Ob} (h : OR K μ F H a o) : H a ≠ none := by
  cases o with
  | lst ds => obtain ⟨vs, e, _⟩ := h; rw [e]; exact fun z => by cases z
  | dct kvs => obtain ⟨vs, e, _⟩ := h; rw [e]; exact fun z => by cases z
  | dead => exact h
theorem OR.move {K : PySem.W.Frag} {μ μ' : List Addr} {F F' H H' : Hp} {a : Addr} {o : Ob} (h : OR K μ F H a o) (g : Grow μ μ') (s : Same F F') (e : H' a = H a) : OR K μ' F' H' a o := by
  cases o with
  | lst ds => obtain ⟨vs, e1, z, r⟩ := h; exact ⟨vs, e.trans e1, z, r.mono g s⟩
  | dct kvs => obtain ⟨vs, e1, z, r⟩ := h; exact ⟨vs, e.trans e1, z, r.mono g s⟩
  | dead => show H' a ≠ none; rw [e]; exact h

structure Wd (K : PySem.W.Frag) (Z μ : List Addr) (S : Sto) (H : Hp) : Prop where
  len : μ.length = S.length
  nd : μ.Nodup
  hz : ∀ b ∈ Z, H b ≠ none ∧ b ∉ μ
  ob : ∀ (i : Nat) (a : Addr) (o : Ob), μ[i]? = some a → S[i]? = some o → OR K μ (fz Z μ S H) H a o
section
variable {K : PySem.W.Frag} {Z μ : List Addr} {S : Sto} {H : Hp} {p a : Addr} {i : Nat}
theorem Wd.at_ (w : Wd K Z μ S H) {o : Ob} (e : S[i]? = some o) : ∃ a, μ[i]? = some a := by
  have hi : i < μ.length := by rw [w.len]; exact (List.getElem?_eq_some_iff.mp e).1
  exact ⟨_, List.getElem?_eq_getElem hi⟩
theorem Wd.sto (w : Wd K Z μ S H) (e : μ[i]? = some a) : ∃ o, S[i]? = some o := by
  have hi : i < S.length := by rw [← w.len]; exact (List.getElem?_eq_some_iff.mp e).1
  exact ⟨_, List.getElem?_eq_getElem hi⟩
theorem Wd.there (w : Wd K Z μ S H) (e : μ[i]? = some a) : H a ≠ none := by
  obtain ⟨o, eo⟩ := w.sto e
  exact (w.ob i a o e eo).there
theorem Wd.new (w : Wd K Z μ S H) (n : H p = none) : p ∉ μ := fun h => by
  obtain ⟨i, e⟩ := List.getElem?_of_mem h
  exact w.there e n
theorem Wd.newZ (w : Wd K Z μ S H) (n : H p = none) : p ∉ Z := fun h => (w.hz p h).1 n
theorem Wd.newL (w : Wd K Z μ S H) (n : H p = none) : ¬ Mv Z μ S p := fun h => h.elim (w.newZ n) fun ⟨i, _, e, _, _⟩ => w.there e n
theorem Wd.out (w : Wd K Z μ S H) (e : μ[i]? = some a) : a ∉ Z := fun h => (w.hz a h).2 (List.mem_of_getElem? e)
theorem ixU {l : List Addr} (nd : l.Nodup) {i j : Nat} {a : Addr} (e : l[i]? = some a) (f : l[j]? = some a) : i = j := nd_ix nd e f

/-- a thing for good is laid -/
theorem fz_upd (w : Wd K Z μ S H) (n : H p = none) (o : HO) : fz Z μ S (upd H p o) = upd (fz Z μ S H) p o := by
  funext b
  by_cases l : Mv Z μ S b
  · have hb : b ≠ p := fun z => by subst z; exact w.newL n l
    rw [fz_lv l, upd_ne hb, fz_lv l]
  · rw [fz_of l]
    by_cases hb : b = p
    · subst hb
      rw [upd_same, upd_same]
    · rw [upd_ne hb, upd_ne hb, fz_of l]
theorem same_up {F : Hp} {o : HO} (n : F p = none) : Same F (upd F p o) := fun b x e => by
  rw [upd_ne (ne_of_none e n)]
  exact e
theorem fz_none (n : H p = none) : fz Z μ S H p = none := by
  by_cases l : Mv Z μ S p
  · exact fz_lv l
  · rw [fz_of l]
    exact n
theorem Wd.lay (w : Wd K Z μ S H) (n : H p = none) (o : HO) : Wd K Z μ S (upd H p o) ∧ Same (fz Z μ S H) (fz Z μ S (upd H p o)) ∧ fz Z μ S (upd H p o) p = some o := by
  have s : Same (fz Z μ S H) (fz Z μ S (upd H p o)) := by
    rw [fz_upd w n]
    exact same_up (fz_none n)
  refine ⟨⟨w.len, w.nd, fun b hb => ⟨?_, (w.hz b hb).2⟩, fun i a ob e1 e2 => ?_⟩, s, by rw [fz_upd w n, upd_same]⟩
  · rw [upd_ne (show b ≠ p from fun z => (w.hz b hb).1 (z ▸ n))]
    exact (w.hz b hb).1
  · refine (w.ob i a ob e1 e2).move (fun _ _ z => z) s ?_
    exact upd_ne fun z => w.there e1 (z ▸ n)

theorem get_snoc {α : Type} {l : List α} {x y : α} {i : Nat} (e : (l ++ [x])[i]? = some y) : l[i]? = some y ∨ (i = l.length ∧ y = x) := by
  by_cases h : i < l.length
  · rw [List.getElem?_append_left h] at e
    exact .inl e
  · rw [List.getElem?_append_right (by omega)] at e
    have : i - l.length = 0 := by
      cases q : i - l.length with
      | zero => rfl
      | succ n => rw [q] at e; simp at e
    rw [this] at e
    simp at e
    exact .inr ⟨by omega, e.symm⟩
theorem grow_snoc (μ : List Addr) (p : Addr) : Grow μ (μ ++ [p]) := fun i a e => by
  rw [List.getElem?_append_left (List.getElem?_eq_some_iff.mp e).1]
  exact e
/-- p, which is tracked nowhere yet, becomes the place of a new mutable object; Z' is Z with or without p -/
theorem Wd.add' {Z' : List Addr} {H' : Hp} (w : Wd K Z' μ S H) (np : p ∉ μ) (nz : p ∉ Z) (sub : ∀ b ∈ Z, b ∈ Z') (sup : ∀ b ∈ Z', b ∈ Z ∨ b = p) (hp : p ∈ Z' ∨ H p = none) (keep : ∀ b, b ≠ p → H' b = H b) {ob : Ob} (live : ob ≠ .dead)
    (ok : OR K (μ ++ [p]) (fz Z' μ S H) H' p ob) :
    Wd K Z (μ ++ [p]) (S ++ [ob]) H' ∧ Grow μ (μ ++ [p]) ∧ fz Z (μ ++ [p]) (S ++ [ob]) H' = fz Z' μ S H ∧ (μ ++ [p])[S.length]? = some p := by
  have lv : ∀ b, Mv Z (μ ++ [p]) (S ++ [ob]) b ↔ Mv Z' μ S b ∨ b = p := fun b => by
    constructor
    · rintro (h | ⟨i, o', e1, e2, h⟩)
      · exact .inl (.inl (sub b h))
      rcases get_snoc e1 with e1 | ⟨e1, e3⟩
      · rcases get_snoc e2 with e2 | ⟨e2, _⟩
        · exact .inl (.inr ⟨i, o', e1, e2, h⟩)
        · have := (List.getElem?_eq_some_iff.mp e1).1
          rw [w.len] at this
          omega
      · exact .inr e3
    · have here : Mv Z (μ ++ [p]) (S ++ [ob]) p := .inr ⟨μ.length, ob, by simp, by rw [w.len]; simp, live⟩
      rintro ((h | ⟨i, o', e1, e2, h⟩) | h)
      · rcases sup b h with h | h
        · exact .inl h
        · subst h; exact here
      · refine .inr ⟨i, o', grow_snoc _ _ _ _ e1, ?_, h⟩
        rw [List.getElem?_append_left (List.getElem?_eq_some_iff.mp e2).1]
        exact e2
      · subst h
        exact here
  have fp : fz Z' μ S H p = none := by
    rcases hp with h | h
    · exact fz_lv (.inl h)
    · exact fz_none h
  have hf : fz Z (μ ++ [p]) (S ++ [ob]) H' = fz Z' μ S H := by
    funext b
    by_cases hb : b = p
    · subst hb
      rw [fz_lv ((lv b).mpr (.inr rfl)), fp]
    · by_cases l : Mv Z' μ S b
      · rw [fz_lv l, fz_lv ((lv b).mpr (.inl l))]
      · rw [fz_of l, fz_of (fun z => ((lv b).mp z).elim l hb), keep b hb]
  refine ⟨⟨by simp [w.len], ?_, fun b hb => ?_, fun i a o' e1 e2 => ?_⟩, grow_snoc _ _, hf, by rw [← w.len]; simp⟩
  · rw [List.nodup_append]
    exact ⟨w.nd, by simp, fun a ha b hb => by
      have : b = p := by simpa using hb
      subst this
      exact fun z => np (z ▸ ha)⟩
  · have hbp : b ≠ p := fun z => nz (z ▸ hb)
    obtain ⟨h1, h2⟩ := w.hz b (sub b hb)
    refine ⟨by rw [keep b hbp]; exact h1, fun z => ?_⟩
    rcases List.mem_append.mp z with z | z
    · exact h2 z
    · exact hbp (by simpa using z)
  · rw [hf]
    rcases get_snoc e1 with e1 | ⟨e1, e3⟩
    · rcases get_snoc e2 with e2 | ⟨e2, _⟩
      · exact (w.ob i a o' e1 e2).move (grow_snoc _ _) (Same.refl _) (keep a fun z => np (z ▸ List.mem_of_getElem? e1))
      · have := (List.getElem?_eq_some_iff.mp e1).1
        rw [w.len] at this
        omega
    · rcases get_snoc e2 with e2 | ⟨_, e2⟩
      · have := (List.getElem?_eq_some_iff.mp e2).1
        rw [← w.len] at this
        omega
      · subst e3 e2
        exact ok
/-- a mutable object is laid -/
theorem Wd.add (w : Wd K Z μ S H) (n : H p = none) {o : HO} {ob : Ob} (live : ob ≠ .dead) (ok : OR K (μ ++ [p]) (fz Z μ S H) (upd H p o) p ob) :
    Wd K Z (μ ++ [p]) (S ++ [ob]) (upd H p o) ∧ Grow μ (μ ++ [p]) ∧ Same (fz Z μ S H) (fz Z (μ ++ [p]) (S ++ [ob]) (upd H p o)) ∧ (μ ++ [p])[S.length]? = some p := by
  obtain ⟨a, b, c, d⟩ := w.add' (Z := Z) (w.new n) (w.newZ n) (fun _ h => h) (fun _ h => .inl h) (.inr n) (H' := upd H p o) (fun b hb => upd_ne hb) live ok
  exact ⟨a, b, by rw [c]; exact Same.refl _, d⟩
theorem set_get {α : Type} {l : List α} {x y : α} {i j : Nat} (e : (l.set i x)[j]? = some y) : (j = i ∧ y = x) ∨ (j ≠ i ∧ l[j]? = some y) := by
  by_cases h : j = i
  · subst h
    rw [List.getElem?_set] at e
    simp at e
    exact .inl ⟨rfl, e.2.symm⟩
  · rw [List.getElem?_set_ne (Ne.symm h)] at e
    exact .inr ⟨h, e⟩
/-- a mutable object is written -/
theorem Wd.wr (w : Wd K Z μ S H) (ei : μ[i]? = some a) {ob ob' : Ob} (es : S[i]? = some ob) (l1 : ob ≠ .dead) (l2 : ob' ≠ .dead) {H' : Hp} (hH : ∀ b, b ≠ a → H' b = H b) (ok : OR K μ (fz Z μ S H) H' a ob') :
    Wd K Z μ (S.set i ob') H' ∧ fz Z μ (S.set i ob') H' = fz Z μ S H := by
  have lv : ∀ b, Mv Z μ (S.set i ob') b ↔ Mv Z μ S b := fun b => by
    constructor
    · rintro (h | ⟨j, o', e1, e2, h⟩)
      · exact .inl h
      rcases set_get e2 with ⟨rfl, rfl⟩ | ⟨_, e2⟩
      · exact .inr ⟨j, ob, e1, es, l1⟩
      · exact .inr ⟨j, o', e1, e2, h⟩
    · rintro (h | ⟨j, o', e1, e2, h⟩)
      · exact .inl h
      by_cases hj : j = i
      · subst hj
        exact .inr ⟨j, ob', e1, by rw [List.getElem?_set_self (List.getElem?_eq_some_iff.mp es).1], l2⟩
      · exact .inr ⟨j, o', e1, by rw [List.getElem?_set_ne (Ne.symm hj)]; exact e2, h⟩
  have la : Mv Z μ S a := .inr ⟨i, ob, ei, es, l1⟩
  have hf : fz Z μ (S.set i ob') H' = fz Z μ S H := by
    funext b
    by_cases l : Mv Z μ S b
    · rw [fz_lv l, fz_lv ((lv b).mpr l)]
    · rw [fz_of l, fz_of fun z => l ((lv b).mp z)]
      exact hH b fun z => l (z ▸ la)
  refine ⟨⟨by rw [List.length_set]; exact w.len, w.nd, fun b hb => ⟨?_, (w.hz b hb).2⟩, fun j b o' e1 e2 => ?_⟩, hf⟩
  · rw [hH b fun z => w.out ei (z ▸ hb)]
    exact (w.hz b hb).1
  · rw [hf]
    rcases set_get e2 with ⟨rfl, rfl⟩ | ⟨hj, e2⟩
    · rw [ei] at e1
      cases e1
      exact ok
    · refine (w.ob j b o' e1 e2).move (fun _ _ z => z) (Same.refl _) (hH b fun z => ?_)
      subst z
      exact hj (ixU w.nd e1 ei)
/-- a mutable list is one for good from now on -/
theorem Wd.frz (w : Wd K Z μ S H) (ei : μ[i]? = some a) {ds : List D} (es : S[i]? = some (.lst ds)) : Wd K Z μ (S.set i .dead) H ∧ Same (fz Z μ S H) (fz Z μ (S.set i .dead) H) ∧ ∃ vs, fz Z μ (S.set i .dead) H a = some (.lst vs) ∧ vs.length ≤ sizeLine ∧ RA K μ (fz Z μ (S.set i .dead) H) vs ds := by
  have lv : ∀ b, Mv Z μ (S.set i .dead) b → Mv Z μ S b := fun b => by
    rintro (h | ⟨j, o', e1, e2, h⟩)
    · exact .inl h
    rcases set_get e2 with ⟨rfl, rfl⟩ | ⟨_, e2⟩
    · exact absurd rfl h
    · exact .inr ⟨j, o', e1, e2, h⟩
  have s : Same (fz Z μ S H) (fz Z μ (S.set i .dead) H) := fun b o e => by
    obtain ⟨l, e⟩ := fz_some e
    exact (fz_of fun z => l (lv b z)).trans e
  have na : ¬ Mv Z μ (S.set i .dead) a := by
    rintro (h | ⟨j, o', e1, e2, h⟩)
    · exact w.out ei h
    have hj : j = i := ixU w.nd e1 ei
    subst hj
    rcases set_get e2 with ⟨_, rfl⟩ | ⟨q, _⟩
    · exact h rfl
    · exact q rfl
  obtain ⟨vs, e, z, r⟩ := w.ob i a _ ei es
  refine ⟨⟨by rw [List.length_set]; exact w.len, w.nd, w.hz, fun j b o' e1 e2 => ?_⟩, s, vs, (fz_of na).trans e, z, r.mono (fun _ _ z => z) s⟩
  rcases set_get e2 with ⟨rfl, rfl⟩ | ⟨hj, e2⟩
  · exact w.there e1
  · exact (w.ob j b o' e1 e2).move (fun _ _ z => z) s rfl
/-- what a def has made is let go -/
theorem Wd.cut (w : Wd K Z μ S H) (n : Nat) (ok : stoBelow n (S.take n) = true) : Wd K Z (μ.take n) (S.take n) H ∧ Same (fz Z μ S H) (fz Z (μ.take n) (S.take n) H) := by
  have s : Same (fz Z μ S H) (fz Z (μ.take n) (S.take n) H) := fun b o e => by
    obtain ⟨l, e⟩ := fz_some e
    refine (fz_of ?_).trans e
    rintro (h | ⟨i, o', e1, e2, h⟩)
    · exact l (.inl h)
    refine l (.inr ⟨i, o', ?_, ?_, h⟩)
    · rw [List.getElem?_take] at e1
      split at e1
      · exact e1
      · cases e1
    · rw [List.getElem?_take] at e2
      split at e2
      · exact e2
      · cases e2
  refine ⟨⟨by rw [List.length_take, List.length_take, w.len], w.nd.sublist (List.take_sublist _ _), fun b hb => ⟨(w.hz b hb).1, fun z => (w.hz b hb).2 (List.mem_of_mem_take z)⟩, fun i a o e1 e2 => ?_⟩, s⟩
  have hb : obBelow n o = true := List.all_eq_true.mp ok o (List.mem_of_getElem? e2)
  rw [List.getElem?_take] at e1 e2
  split at e1
  · rename_i hi
    rw [if_pos hi] at e2
    have q := w.ob i a o e1 e2
    cases o with
    | lst ds => obtain ⟨vs, e, z, r⟩ := q; exact ⟨vs, e, z, (r.cut n hb).mono (fun _ _ z => z) s⟩
    | dct kvs => obtain ⟨vs, e, z, r⟩ := q; exact ⟨vs, e, z, (r.cut n hb).mono (fun _ _ z => z) s⟩
    | dead => exact q
  · cases e1

/-! ### a list that is being built -/
/-- a place is hidden, a hidden place is written -/
theorem Wd.hid (w : Wd K Z μ S H) (n : H p = none) (o : HO) : Wd K (p :: Z) μ S (upd H p o) ∧ fz (p :: Z) μ S (upd H p o) = fz Z μ S H := by
  have hf : fz (p :: Z) μ S (upd H p o) = fz Z μ S H := by
    funext b
    by_cases hb : b = p
    · subst hb
      rw [fz_lv (.inl List.mem_cons_self), fz_none n]
    · by_cases l : Mv Z μ S b
      · rw [fz_lv l, fz_lv (l.imp (List.mem_cons_of_mem _) id)]
      · rw [fz_of l, fz_of (fun z => z.elim (fun z => (List.mem_cons.mp z).elim hb fun z => l (.inl z)) fun z => l (.inr z)), upd_ne hb]
  refine ⟨⟨w.len, w.nd, fun b hb => ?_, fun i a o' e1 e2 => ?_⟩, hf⟩
  · rcases List.mem_cons.mp hb with rfl | hb
    · refine ⟨?_, w.new n⟩
      rw [upd_same]
      exact fun z => by cases z
    · refine ⟨?_, (w.hz b hb).2⟩
      rw [upd_ne (show b ≠ p from fun z => (w.hz b hb).1 (z ▸ n))]
      exact (w.hz b hb).1
  · rw [hf]
    exact (w.ob i a o' e1 e2).move (fun _ _ z => z) (Same.refl _) (upd_ne fun z => w.there e1 (z ▸ n))
theorem Wd.hwr (w : Wd K Z μ S H) (h : p ∈ Z) (o : HO) : Wd K Z μ S (upd H p o) ∧ fz Z μ S (upd H p o) = fz Z μ S H := by
  have hf : fz Z μ S (upd H p o) = fz Z μ S H := by
    funext b
    by_cases l : Mv Z μ S b
    · rw [fz_lv l, fz_lv l]
    · rw [fz_of l, fz_of l, upd_ne (show b ≠ p from fun z => l (.inl (z ▸ h)))]
  refine ⟨⟨w.len, w.nd, fun b hb => ⟨?_, (w.hz b hb).2⟩, fun i a o' e1 e2 => ?_⟩, hf⟩
  · by_cases z : b = p
    · subst z
      rw [upd_same]
      exact fun z => by cases z
    · rw [upd_ne z]
      exact (w.hz b hb).1
  · rw [hf]
    exact (w.ob i a o' e1 e2).move (fun _ _ z => z) (Same.refl _) (upd_ne fun z => w.out e1 (z ▸ h))
/-- it is done: a list for good -/
theorem Wd.show_ (w : Wd K (p :: Z) μ S H) (nz : p ∉ Z) : Wd K Z μ S H ∧ Same (fz (p :: Z) μ S H) (fz Z μ S H) ∧ fz Z μ S H p = H p := by
  have s : Same (fz (p :: Z) μ S H) (fz Z μ S H) := fun b o e => by
    obtain ⟨l, e⟩ := fz_some e
    exact (fz_of fun z => l (z.imp (List.mem_cons_of_mem _) id)).trans e
  refine ⟨⟨w.len, w.nd, fun b hb => w.hz b (List.mem_cons_of_mem _ hb), fun i a o' e1 e2 => (w.ob i a o' e1 e2).move (fun _ _ z => z) s rfl⟩, s, fz_of ?_⟩
  rintro (h | ⟨i, o', e1, e2, h⟩)
  · exact nz h
  · exact w.out e1 List.mem_cons_self
end
end Ev

namespace Ev
open PySem PySem.Spec
open PyProof.Rows L2

/-! ### what is known behind a step -/
structure Le (Z μ : List Addr) (S : Sto) (H : Hp) (μ' : List Addr) (S' : Sto) (H' : Hp) : Prop where
  g : Grow μ μ'
  s : Same (fz Z μ S H) (fz Z μ' S' H')
  h : ∀ b ∈ Z, H' b = H b
theorem Le.refl {Z μ : List Addr} {S : Sto} {H : Hp} : Le Z μ S H μ S H := ⟨fun _ _ e => e, Same.refl _, fun _ _ => rfl⟩
theorem Le.trans {Z μ μ1 μ2 : List Addr} {S S1 S2 : Sto} {H H1 H2 : Hp} (a : Le Z μ S H μ1 S1 H1) (b : Le Z μ1 S1 H1 μ2 S2 H2) : Le Z μ S H μ2 S2 H2 := ⟨fun i x e => b.g i x (a.g i x e), a.s.trans b.s, fun c hc => (b.h c hc).trans (a.h c hc)⟩
/-- whatever stands for d behind the step, Q holds of it -/
def Pst (K : PySem.W.Frag) (Z μ : List Addr) (S : Sto) (H : Hp) (S' : Sto) (d : D) (Q : VK) : Prop :=
  ∀ (μ' : List Addr) (H' : Hp) (v : V), Wd K Z μ' S' H' → Le Z μ S H μ' S' H' → R K μ' (fz Z μ' S' H') v d → Q v H'
section
variable {K : PySem.W.Frag} {Z μ : List Addr} {S S' : Sto} {H : Hp} {Q : VK} {d x y : D} {vx vy : V}
theorem Pst.here (p : Pst K Z μ S H S d Q) (w : Wd K Z μ S H) {v : V} (r : R K μ (fz Z μ S H) v d) : Q v H := p μ H v w .refl r
theorem Pst.tup (p : Pst K Z μ S H S (.tuple ds) Q) (w : Wd K Z μ S H) {vs : List V} (z : vs.length ≤ sizeLine) (r : RA K μ (fz Z μ S H) vs ds) : NewT vs H Q := fun q o n hd => by
  obtain ⟨w1, s, e⟩ := w.lay n (.frz o (.tup vs))
  exact p μ _ _ w1 ⟨fun _ _ e => e, s, fun b hb => upd_ne fun z => (w.hz b hb).1 (z ▸ n)⟩ (.tup (.inl ⟨o, e, hd⟩) z (r.mono (fun _ _ e => e) s))
theorem Pst.lst {m : Bool} {ds : List D} (p : Pst K Z μ S H (mkl m ds S).2 (mkl m ds S).1 Q) (w : Wd K Z μ S H) {vs : List V} (z : vs.length ≤ sizeLine) (r : RA K μ (fz Z μ S H) vs ds) : ∀ q, H q = none → Q (.ref q) (upd H q (.lst vs)) := fun q n => by
  cases m with
  | false =>
    obtain ⟨w1, s, e⟩ := w.lay n (.lst vs)
    exact p μ _ _ w1 ⟨fun _ _ e => e, s, fun b hb => upd_ne fun z => (w.hz b hb).1 (z ▸ n)⟩ (.lst (.inl e) z (r.mono (fun _ _ e => e) s))
  | true =>
    obtain ⟨w1, g, s, e⟩ := w.add (ob := .lst ds) n (fun z => by cases z) ⟨vs, upd_same, z, r.mono (grow_snoc _ _) (Same.refl _)⟩
    exact p (μ ++ [q]) _ _ w1 ⟨g, s, fun b hb => upd_ne fun z => (w.hz b hb).1 (z ▸ n)⟩ (.rf e)
theorem some2 {α β : Type} {a a' : α} {b b' : β} (h : some (a, b) = some (a', b')) : a = a' ∧ b = b' := by
  cases h
  exact ⟨rfl, rfl⟩
theorem asRf_eq {i : Nat} (h : asRf x = some i) : ∃ j : Int, x = .dict [(.dict [], .int j)] ∧ i = j.toNat := by
  unfold asRf at h
  split at h
  · cases h
    exact ⟨_, rfl, rfl⟩
  · cases h
theorem rf_R {i : Nat} (h : asRf x = some i) (r : R K μ F vx x) : ∃ a, vx = .ref a ∧ μ[i]? = some a := by
  obtain ⟨j, rfl, rfl⟩ := asRf_eq h
  cases r with
  | rf e => exact ⟨_, rfl, e⟩
/-- what a list holds -/
theorem seq_R (w : Wd K Z μ S H) {xs : List D} (h : seqv x S = some xs) (r : R K μ (fz Z μ S H) vx x) : ∃ a vs, vx = .ref a ∧ Rd H a (.lst vs) ∧ vs.length ≤ sizeLine ∧ RA K μ (fz Z μ S H) vs xs := by
  unfold seqv at h
  split at h
  · cases h
    cases r with
    | lst e z q => exact ⟨_, _, rfl, sameR (fz_same Z μ S H) e, z, q⟩
  · split at h
    · rename_i i hi
      obtain ⟨a, rfl, e⟩ := rf_R hi r
      split at h
      · rename_i ys hs
        cases h
        obtain ⟨vs, e1, z, q⟩ := w.ob i a _ e hs
        exact ⟨a, vs, rfl, .inl e1, z, q⟩
      · cases h
    · cases h
theorem it_R (w : Wd K Z μ S H) {xs : List D} (h : itv x S = some xs) (r : R K μ (fz Z μ S H) vx x) : ∃ a vs, vx = .ref a ∧ (SqL K H a vs ∨ SqT K H a vs) ∧ vs.length ≤ sizeLine ∧ RA K μ (fz Z μ S H) vs xs := by
  unfold itv at h
  split at h
  · cases h
    cases r with
    | tup e z q => exact ⟨_, _, rfl, .inr (sameT (fz_same Z μ S H) e.sq), z, q⟩
  · cases h
    cases r with
    | frn e z q => exact ⟨_, _, rfl, .inl ((fz_same Z μ S H).seq e), z, q⟩
  · obtain ⟨a, vs, e, l, z, q⟩ := seq_R w h r
    exact ⟨a, vs, e, .inl (.inl l), z, q⟩
theorem R.dpH (r : R K μ (fz Z μ S H) vx x) (c : SeqAt.shaped x = true) : Dp K H vx x := r.dp (fz_same Z μ S H) (SeqAt.canLay_of_shaped c)
theorem seq_dp (w : Wd K Z μ S H) {xs : List D} (h : seqv x S = some xs) (r : R K μ (fz Z μ S H) vx x) (c : SeqAt.shaped (.list xs) = true) : Dp K H vx (.list xs) := by
  obtain ⟨a, vs, rfl, l, z, q⟩ := seq_R w h r
  exact .lst (.inl l) (q.dp (fz_same Z μ S H) (by simpa [PyData.canLay0] using SeqAt.canLay_of_shaped c))
end

/-! ### rules of my own -/
section
variable {X : Cx} {pins : List (Addr × Obj)} {σ : L2.St} {H : Hp} {s : Shared}
theorem lstRd (I : L2.Inv X pins σ H s) {a : Addr} {vs : List V} (h : Rd H a (.lst vs)) : vs.length ≤ sizeLine ∧ ∃ (us : List Value) (n : Nat), Vals vs us ∧ vs.length = us.length ∧ s.heap.get? a = some { cls := .type "list", data := .seq us.toArray n } := by
  obtain ⟨z, us, n, r, e⟩ := h.ok I.hok
  exact ⟨z, us, n, r, r.length, e⟩
/-- list + list, any lists -/
def rCatR : R2 := fun x y H Q => ∃ a b vs ws, x = .ref a ∧ y = .ref b ∧ Rd H a (.lst vs) ∧ Rd H b (.lst ws) ∧ vs.length + ws.length ≤ sizeLine ∧ ∀ q, H q = none → Q (.ref q) (upd H q (.lst (vs ++ ws)))
theorem op_catR : OpR X (binaryOp .Add) rCatR := by
  intro pins s σ H x y v u Q I rx ry h
  obtain ⟨a, b, vs, ws, rfl, rfl, ha, hb, hz, hq⟩ := h
  cases rx
  cases ry
  obtain ⟨z1, us, n, r1, l1, e1⟩ := lstRd I ha
  obtain ⟨z2, us2, n2, r2, l2, e2⟩ := lstRd I hb
  refine PySem.P.add_list e1 e2 ?_ (by simp only [List.size_toArray]; omega)
  rw [show us.toArray ++ us2.toArray = (us ++ us2).toArray by simp]
  have I2 := I.lnew (t' := s.toks) (r1.append r2) (by rw [List.length_append]; exact hz)
  exact ⟨.ref _, _, I2, rfl, hq _ I.fresh⟩
end

/-! ### operations by values -/
def rAdd (K : PySem.W.Frag) : R2 := fun x y H Q => rI0 (fun i j => .int (i + j)) x y H Q ∨ (∃ i j, x = .str i ∧ y = .str j ∧ i.length + j.length ≤ sizeLine ∧ Q (.str (i ++ j)) H) ∨ rCatR x y H Q ∨ rCatF K x y H Q
theorem op_addAll {X : Cx} : OpR X (binaryOp .Add) (rAdd X.K) := op_add.or (op_add_str.or (op_catR.or op_catF))
def rMul (K : PySem.W.Frag) : R2 := fun x y H Q => rI CMul (fun i j => .int (i * j)) x y H Q ∨ rRepF K x y H Q
theorem op_mulAll {X : Cx} : OpR X (binaryOp .Mult) (rMul X.K) := op_mul.or op_repF
theorem smallI_iff {i : Int} : smallI i = true ↔ -(2 ^ 64) < i ∧ i < 2 ^ 64 := by
  unfold smallI
  exact decide_eq_true_iff
/-- a two-place operation of the evaluator is one of Python -/
def Val2 (K : PySem.W.Frag) (f : D → D → Sto → Option (D × Sto)) (r : R2) : Prop :=
  ∀ {Z μ : List Addr} {S : Sto} {H : Hp} {x y : D} {vx vy : V} {d : D} {S' : Sto} {Q : VK}, Wd K Z μ S H → R K μ (fz Z μ S H) vx x → R K μ (fz Z μ S H) vy y → f x y S = some (d, S') → Pst K Z μ S H S' d Q → r vx vy H Q
section
variable {K : PySem.W.Frag} {m : Bool}
theorem cut2 (K : PySem.W.Frag) {μ : List Addr} {F H : Hp} {a : Addr} {vs : List V} (s : Same F H) (h : SqT K F a vs) : SqT K H a vs := sameT s h
theorem v_add : Val2 K (addv m) (rAdd K) := by
  intro Z μ S H x y vx vy d S' Q w rx ry h p
  unfold addv at h
  split at h
  · obtain ⟨rfl, rfl⟩ := some2 h
    cases rx; cases ry
    exact .inl ⟨_, _, rfl, rfl, p.here w (.int _)⟩
  · split at h
    · rename_i hz
      obtain ⟨rfl, rfl⟩ := some2 h
      cases rx; cases ry
      exact .inr (.inl ⟨_, _, rfl, rfl, hz, p.here w (.str _)⟩)
    · cases h
  · split at h
    · rename_i hz
      obtain ⟨rfl, rfl⟩ := some2 h
      cases rx with
      | tup e1 z1 r1 =>
        cases ry with
        | tup e2 z2 r2 =>
          refine .inr (.inr (.inr ⟨_, _, _, _, rfl, rfl, sameT (fz_same Z μ S H) e1.sq, sameT (fz_same Z μ S H) e2.sq, by rw [r1.len, r2.len]; exact hz, fun e => ?_, fun _ e => ?_, fun _ _ => ?_⟩))
          · subst e
            cases r1
            exact p.here w (.tup e2 z2 r2)
          · subst e
            cases r2
            rw [List.append_nil] at p
            exact p.here w (.tup e1 z1 r1)
          · exact p.tup w (by rw [List.length_append, r1.len, r2.len]; exact hz) (r1.append r2)
    · cases h
  · simp only [Option.bind_eq_some_iff] at h
    obtain ⟨xs, h1, ys, h2, h3⟩ := h
    split at h3
    · rename_i hz
      have e3 := Option.some.inj h3
      have e4 : (mkl m (xs ++ ys) S).1 = d := congrArg Prod.fst e3
      have e5 : (mkl m (xs ++ ys) S).2 = S' := congrArg Prod.snd e3
      subst e4 e5
      obtain ⟨a, vs, rfl, e1, z1, r1⟩ := seq_R w h1 rx
      obtain ⟨b, ws, rfl, e2, z2, r2⟩ := seq_R w h2 ry
      exact .inr (.inr (.inl ⟨a, b, vs, ws, rfl, rfl, e1, e2, by rw [r1.len, r2.len]; exact hz, p.lst w (by rw [List.length_append, r1.len, r2.len]; exact hz) (r1.append r2)⟩))
    · cases h3
theorem v_mul : Val2 K mulv (rMul K) := by
  intro Z μ S H x y vx vy d S' Q w rx ry h p
  unfold mulv at h
  split at h
  · split at h
    · rename_i hz
      obtain ⟨rfl, rfl⟩ := some2 h
      cases rx; cases ry
      refine .inl ⟨_, _, rfl, rfl, ?_, p.here w (.int _)⟩
      rw [Bool.or_eq_true, smallI_iff, smallI_iff] at hz
      exact hz
    · cases h
  · split at h
    · rename_i hz
      obtain ⟨rfl, rfl⟩ := some2 h
      cases rx with
      | tup e1 z1 r1 =>
        cases ry
        rename_i xs k a vs
        obtain ⟨h1, h2, h3, h4⟩ := hz
        have hne : vs ≠ [] := fun e => by
          subst e
          cases r1
          exact h1 rfl
        refine .inr ⟨_, _, _, rfl, rfl, sameT (fz_same Z μ S H) e1.sq, hne, h2, h3, by rw [r1.len]; exact h4, fun hk => p.here w ?_, fun _ => p.tup w ?_ (r1.rep _)⟩
        · subst hk
          have e : (List.replicate (1 : Int).toNat xs).flatten = xs := by simp
          rw [e]
          exact .tup e1 z1 r1
        · rw [PyProof.Rows.lm_len_rep_flat, r1.len, sizeLine_eq]
          have a1 : k.toNat * xs.length ≤ 1000 * 1000 := Nat.mul_le_mul (by omega) h4
          omega
    · cases h
  · cases h
theorem v_int {c : Int → Int → Bool} {f : Int → Int → Int} {C : Int → Int → Prop} (hc : ∀ i j, c i j = true → C i j) : Val2 K (intv c f) (rI C fun i j => .int (f i j)) := by
  intro Z μ S H x y vx vy d S' Q w rx ry h p
  unfold intv at h
  split at h
  · split at h
    · rename_i hz
      obtain ⟨rfl, rfl⟩ := some2 h
      cases rx; cases ry
      exact ⟨_, _, rfl, rfl, hc _ _ hz, p.here w (.int _)⟩
    · cases h
  · cases h
/-- which operator stands for which -/
def opr : O2 → Operator
  | .add => .Add | .sub => .Sub | .mul => .Mult | .fdiv => .FloorDiv | .mod => .Mod | .pow => .Pow
def rOp (K : PySem.W.Frag) : O2 → R2
  | .add => rAdd K
  | .sub => rI (fun _ _ => True) fun i j => .int (i - j)
  | .mul => rMul K
  | .fdiv => rI CDiv fun i j => .int (i / j)
  | .mod => rI (fun _ j => 0 < j) fun i j => .int (i % j)
  | .pow => rI CPow fun i j => .int (i ^ j.toNat)
theorem op_subT {X : Cx} : OpR X (binaryOp .Sub) (rI (fun _ _ => True) fun i j => .int (i - j)) := opI fun _ _ _ _ _ _ _ _ q => sub_int q
theorem op_all {X : Cx} : ∀ o : O2, OpR X (binaryOp (opr o)) (rOp X.K o)
  | .add => op_addAll
  | .sub => op_subT
  | .mul => op_mulAll
  | .fdiv => op_fdiv
  | .mod => op_mod
  | .pow => op_pow
theorem v_op : ∀ o : O2, Val2 K (opv o m) (rOp K o)
  | .add => v_add
  | .sub => v_int fun _ _ _ => trivial
  | .mul => v_mul
  | .fdiv => v_int fun i j h => by
    simp only [Bool.and_eq_true, decide_eq_true_eq] at h
    exact h
  | .mod => v_int fun i j h => by
    simp only [decide_eq_true_eq] at h
    exact h
  | .pow => v_int fun i j h => by
    simp only [Bool.and_eq_true, decide_eq_true_eq] at h
    exact ⟨h.1.1, h.1.2, h.2⟩
end

/-! ### comparisons by values -/
/-- a comparison of the evaluator is one of Python -/
def ValC (K : PySem.W.Frag) (f : D → D → Sto → Option Bool) (r : R2) : Prop :=
  ∀ {Z μ : List Addr} {S : Sto} {H : Hp} {x y : D} {vx vy : V} {k : Bool} {Q : VK}, Wd K Z μ S H → R K μ (fz Z μ S H) vx x → R K μ (fz Z μ S H) vy y → f x y S = some k → Q (.bl k) H → r vx vy H Q
def rCmp (K : PySem.W.Frag) : CmpOp → R2
  | .Eq => fun x y H Q => rEq x y H Q ∨ rEqD K x y H Q
  | .NotEq => fun x y H Q => rNe x y H Q ∨ rNeD K x y H Q
  | .Lt => rI0 fun i j => .bl (decide (i < j))
  | .LtE => rI0 fun i j => .bl (decide (i ≤ j))
  | .Gt => rI0 fun i j => .bl (decide (j < i))
  | .GtE => rI0 fun i j => .bl (decide (j ≤ i))
  | .Is => fun x y H Q => (y = .non ∧ Q (.bl (decide (x = .non))) H) ∨ rIsB x y H Q
  | .IsNot => fun x y H Q => (y = .non ∧ Q (.bl (!decide (x = .non))) H) ∨ rNotB x y H Q
  | .In => fun x y H Q => rInD K x y H Q ∨ rInT K true x y H Q
  | .NotIn => fun x y H Q => rNotInD K x y H Q ∨ rInT K false x y H Q
theorem op_cmp {X : Cx} (hu : X.A.units + 65 < cLine) : ∀ o : CmpOp, OpR X (compareOp o) (rCmp X.K o)
  | .Eq => op_eq.or (op_eqD (by omega))
  | .NotEq => op_ne.or (op_neD (by omega))
  | .Lt => op_lt
  | .LtE => op_le
  | .Gt => op_gt
  | .GtE => op_ge
  | .Is => op_isN.or op_isBl
  | .IsNot => op_notN.or op_notBl
  | .In => (op_inD hu).or (op_inT hu)
  | .NotIn => (op_notInD hu).or (op_notInT hu)
section
variable {K : PySem.W.Frag}
theorem v_ord {p : Int → Int → Bool} : ValC K (fun x y _ => ordv p x y) (rI0 fun i j => .bl (p i j)) := by
  intro Z μ S H x y vx vy k Q w rx ry h q
  dsimp only at h
  unfold ordv at h
  split at h
  · cases h; cases rx; cases ry
    exact ⟨_, _, rfl, rfl, q⟩
  · cases h
theorem R.isNon {μ : List Addr} {F : Hp} {v : V} : ∀ {d : D}, R K μ F v d → decide (v = .non) = (match d with | .none => true | _ => false)
  | _, .non => rfl
  | _, .bl _ => rfl
  | _, .int _ => rfl
  | _, .str _ => rfl
  | _, .lst _ _ _ => rfl
  | _, .tup _ _ _ => rfl
  | _, .frn _ _ _ => rfl
  | _, .rf _ => rfl
/-- equal or not: by scalars, or by data -/
theorem v_eqD {Z μ : List Addr} {S : Sto} {H : Hp} {x y : D} {vx vy : V} {k : Bool} (rx : R K μ (fz Z μ S H) vx x) (ry : R K μ (fz Z μ S H) vy y) (h : eqD x y = some k) :
    (scal vx vy = true ∧ k = decide (vx = vy)) ∨ (Dp K H vx x ∧ Dp K H vy y ∧ SeqAt.shaped x = true ∧ SeqAt.shaped y = true ∧ k = PyData.eqv x y) := by
  unfold eqD at h
  split at h
  · cases h; cases rx; cases ry
    exact .inl ⟨rfl, by simp⟩
  · cases h; cases rx; cases ry
    exact .inl ⟨rfl, by simp⟩
  · cases h; cases rx; cases ry
    exact .inl ⟨rfl, by simp⟩
  · split at h
    · rename_i hz
      cases h
      rw [Bool.and_eq_true] at hz
      exact .inr ⟨rx.dpH hz.1, ry.dpH hz.2, hz.1, hz.2, rfl⟩
    · cases h
theorem v_isD {μ : List Addr} {F : Hp} {x y : D} {vx vy : V} {k : Bool} (rx : R K μ F vx x) (ry : R K μ F vy y) (h : isD x y = some k) : (vy = .non ∧ k = decide (vx = .non)) ∨ ∃ a b : Bool, vx = .bl a ∧ vy = .bl b ∧ k = decide (a = b) := by
  unfold isD at h
  split at h
  · cases h; cases ry
    exact .inl ⟨rfl, rx.isNon.symm⟩
  · split at h
    · cases h; cases rx; cases ry
      exact .inr ⟨_, _, rfl, rfl, rfl⟩
    · cases h
  · cases h
theorem v_inD {Z μ : List Addr} {S : Sto} {H : Hp} {x y : D} {vx vy : V} {k : Bool} (w : Wd K Z μ S H) (rx : R K μ (fz Z μ S H) vx x) (ry : R K μ (fz Z μ S H) vy y) (h : inD x y S = some k) :
    ∃ ds, Dp K H vx x ∧ (Dp K H vy (.list ds) ∧ SeqAt.shaped (.list ds) = true ∨ Dp K H vy (.tuple ds) ∧ SeqAt.shaped (.tuple ds) = true) ∧ SeqAt.shaped x = true ∧ k = ds.any fun z => PyData.eqv z x := by
  unfold inD at h
  split at h
  · split at h
    · rename_i hz
      cases h
      rw [Bool.and_eq_true] at hz
      exact ⟨_, rx.dpH hz.1, .inr ⟨ry.dpH hz.2, hz.2⟩, hz.1, rfl⟩
    · cases h
  · rw [Option.bind_eq_some_iff] at h
    obtain ⟨ys, h1, h2⟩ := h
    split at h2
    · rename_i hz
      cases h2
      rw [Bool.and_eq_true] at hz
      exact ⟨ys, rx.dpH hz.1, .inl ⟨seq_dp w h1 ry hz.2, hz.2⟩, hz.1, rfl⟩
    · cases h2
theorem v_cmp : ∀ o : CmpOp, ValC K (cmpv o) (rCmp K o)
  | .Lt => v_ord
  | .LtE => v_ord
  | .Gt => v_ord
  | .GtE => v_ord
  | .Eq => fun w rx ry h q => by
    rcases v_eqD rx ry h with ⟨s, rfl⟩ | ⟨a, b, c, d, rfl⟩
    · exact .inl ⟨s, q⟩
    · exact .inr ⟨_, _, a, b, c, d, q⟩
  | .NotEq => fun w rx ry h q => by
    obtain ⟨k, h0, rfl⟩ := Option.map_eq_some_iff.mp h
    rcases v_eqD rx ry h0 with ⟨s, rfl⟩ | ⟨a, b, c, d, rfl⟩
    · exact .inl ⟨s, q⟩
    · exact .inr ⟨_, _, a, b, c, d, q⟩
  | .Is => fun w rx ry h q => by
    rcases v_isD rx ry h with ⟨s, rfl⟩ | ⟨a, b, c, d, rfl⟩
    · exact .inl ⟨s, q⟩
    · exact .inr ⟨_, _, c, d, q⟩
  | .IsNot => fun w rx ry h q => by
    obtain ⟨k, h0, rfl⟩ := Option.map_eq_some_iff.mp h
    rcases v_isD rx ry h0 with ⟨s, rfl⟩ | ⟨a, b, c, d, rfl⟩
    · exact .inl ⟨s, q⟩
    · exact .inr ⟨_, _, c, d, q⟩
  | .In => fun w rx ry h q => by
    obtain ⟨ds, a, ⟨b, d⟩ | ⟨b, d⟩, c, rfl⟩ := v_inD w rx ry h
    · exact .inl ⟨_, _, a, b, c, d, q⟩
    · exact .inr ⟨_, _, a, b, c, d, q⟩
  | .NotIn => fun w rx ry h q => by
    obtain ⟨k, h0, rfl⟩ := Option.map_eq_some_iff.mp h
    obtain ⟨ds, a, ⟨b, d⟩ | ⟨b, d⟩, c, rfl⟩ := v_inD w rx ry h0
    · exact .inl ⟨_, _, a, b, c, d, q⟩
    · exact .inr ⟨_, _, a, b, c, d, q⟩

/-! ### truth, length, items, slices by values -/
variable {Z μ : List Addr} {S S' : Sto} {H : Hp} {x y d : D} {vx vy : V} {k m : Bool} {Q : VK}
theorem isEmpty_RA {μ : List Addr} {F : Hp} {vs : List V} {ds : List D} (r : RA K μ F vs ds) : vs.isEmpty = ds.isEmpty := by
  cases r <;> rfl
theorem v_tru (w : Wd K Z μ S H) (rx : R K μ (fz Z μ S H) vx x) (h : truv x S = some k) : TruV K vx H k := by
  unfold truv at h
  split at h
  · cases h; cases rx; exact rfl
  · cases h; cases rx; exact rfl
  · cases h; cases rx; exact rfl
  · split at h
    · rename_i hz
      cases h; cases rx; exact ⟨hz, rfl⟩
    · cases h
  · cases h
    cases rx with
    | tup e z r => exact .inr (.inl ⟨_, sameT (fz_same Z μ S H) e.sq, by rw [isEmpty_RA r]⟩)
  · obtain ⟨xs, h0, rfl⟩ := Option.map_eq_some_iff.mp h
    obtain ⟨a, vs, rfl, e, z, r⟩ := seq_R w h0 rx
    exact .inl ⟨vs, .inl e, by rw [isEmpty_RA r]⟩
theorem v_len {n : Nat} (w : Wd K Z μ S H) (rx : R K μ (fz Z μ S H) vx x) (h : lenv x S = some n) : LenV K vx H n := by
  unfold lenv at h
  split at h
  · split at h
    · rename_i hz
      cases h; cases rx; exact ⟨hz, rfl⟩
    · cases h
  · obtain ⟨xs, h0, rfl⟩ := Option.map_eq_some_iff.mp h
    obtain ⟨a, vs, rfl, e, z, r⟩ := it_R w h0 rx
    rcases e with e | e
    · exact .inl ⟨vs, e, r.len.symm⟩
    · exact .inr ⟨vs, e, r.len.symm⟩
theorem atI_R {F : Hp} {vs : List V} {ds : List D} {i : Int} (r : RA K μ F vs ds) (h : atI ds i = some d) : ∃ v, atI vs i = some v ∧ R K μ F v d := by
  unfold atI at h ⊢
  rw [Option.bind_eq_some_iff] at h
  obtain ⟨j, h1, h2⟩ := h
  obtain ⟨v, e, q⟩ := r.get' h2
  exact ⟨v, by rw [r.len, h1]; exact e, q⟩
theorem v_ix (w : Wd K Z μ S H) (rx : R K μ (fz Z μ S H) vx x) (ry : R K μ (fz Z μ S H) vy y) (h : ixv x y S = some d) (p : Pst K Z μ S H S d Q) : rIx K vx vy H Q := by
  unfold ixv at h
  split at h
  · cases ry
    split at h
    · split at h
      · rename_i hz
        obtain ⟨c, h0, rfl⟩ := Option.map_eq_some_iff.mp h
        cases rx
        exact .inr (.inr ⟨_, _, c, rfl, rfl, hz, h0, p.here w (.str _)⟩)
      · cases h
    · obtain ⟨xs, h1, h2⟩ := Option.bind_eq_some_iff.mp h
      obtain ⟨a, vs, rfl, e, z, r⟩ := it_R w h1 rx
      obtain ⟨v, e2, q⟩ := atI_R r h2
      rcases e with e | e
      · exact .inl ⟨_, _, _, v, rfl, rfl, e, e2, p.here w q⟩
      · exact .inr (.inl ⟨_, _, _, v, rfl, rfl, e, e2, p.here w q⟩)
  · cases h
theorem cut_RA {F : Hp} {vs : List V} {ds : List D} (lo hi : Option Int) (r : RA K μ F vs ds) : RA K μ F (cutV vs lo hi) (cutD ds lo hi) := by
  unfold cutV cutD
  rw [r.len]
  exact (r.drop _).take _
theorem cutV_whole {vs : List V} {lo hi : Option Int} (h : HT.sIx vs.length 0 lo = 0 ∧ HT.sIx vs.length vs.length hi = vs.length) : cutV vs lo hi = vs := by
  unfold cutV
  rw [h.1, h.2]
  simp
theorem v_slc {lo hi : Option Int} (w : Wd K Z μ S H) (rx : R K μ (fz Z μ S H) vx x) (h : slcv m x lo hi S = some (d, S')) (p : Pst K Z μ S H S' d Q) : rSlL K vx lo hi H Q ∨ rSlF K vx lo hi H Q := by
  unfold slcv at h
  split at h
  · obtain ⟨rfl, rfl⟩ := some2 h
    cases rx with
    | tup e z r =>
      refine .inr ⟨_, _, rfl, sameT (fz_same Z μ S H) e.sq, fun hw => ?_, fun _ => p.tup w (Nat.le_trans (cutV_length _ _ _) z) (cut_RA lo hi r)⟩
      have q := cut_RA lo hi r
      rw [cutV_whole hw] at q
      exact p.here w (.tup e z q)
  · obtain ⟨xs, h0, e3⟩ := Option.map_eq_some_iff.mp h
    have e4 : (mkl m (cutD xs lo hi) S).1 = d := congrArg Prod.fst e3
    have e5 : (mkl m (cutD xs lo hi) S).2 = S' := congrArg Prod.snd e3
    subst e4 e5
    obtain ⟨a, vs, rfl, e, z, r⟩ := seq_R w h0 rx
    exact .inl ⟨a, vs, rfl, .inl e, p.lst w (Nat.le_trans (cutV_length _ _ _) z) (cut_RA lo hi r)⟩

/-! ### built-ins and methods by values -/
def biN : Bi → Str
  | .len => "len" | .abs => "abs" | .int => "int" | .max => "max" | .tuple => "tuple" | .list => "list" | .sum => "sum"
def rBi (K : PySem.W.Frag) : Bi → List V → Hp → VK → Prop
  | .len => fun xs H Q => ∃ (x : V) (n : Nat), xs = [x] ∧ LenV K x H n ∧ Q (.int n) H
  | .abs => fun xs H Q => ∃ i, xs = [.int i] ∧ Q (.int (if i < 0 then -i else i)) H
  | .int => fun xs H Q => (∃ i, xs = [.int i] ∧ Q (.int i) H) ∨ ∃ k, xs = [.bl k] ∧ Q (.int (if k then 1 else 0)) H
  | .max => fun xs H Q => ∃ i j, xs = [.int i, .int j] ∧ Q (.int (if j > i then j else i)) H
  | .tuple => rTupF K
  | .list => fun xs H Q => ∃ p ys, xs = [.ref p] ∧ (SqL K H p ys ∨ SqT K H p ys) ∧ ∀ l, H l = none → Q (.ref l) (upd H l (.lst ys))
  | .sum => rSum K
theorem ints_RA : ∀ {F : Hp} {ds : List D} {vs : List V} {ns : List Int}, RA K μ F vs ds → intsOf ds = some ns → vs = ns.map V.int
  | _, [], _, _, .nil, h => by cases h; rfl
  | _, .int i :: r, _, _, .cons q qs, h => by
    obtain ⟨ms, h0, rfl⟩ := Option.map_eq_some_iff.mp h
    cases q
    rw [ints_RA qs h0]
    rfl
  | _, .none :: _, _, _, _, h => by cases h
  | _, .bool _ :: _, _, _, _, h => by cases h
  | _, .str _ :: _, _, _, _, h => by cases h
  | _, .list _ :: _, _, _, _, h => by cases h
  | _, .tuple _ :: _, _, _, _, h => by cases h
  | _, .dict _ :: _, _, _, _, h => by cases h
theorem RA.one (r : RA K μ F vs [d]) : ∃ v, vs = [v] ∧ R K μ F v d := by
  cases r with
  | cons h r => cases r; exact ⟨_, rfl, h⟩
theorem RA.two (r : RA K μ F vs [d, x]) : ∃ v u, vs = [v, u] ∧ R K μ F v d ∧ R K μ F u x := by
  cases r with
  | cons h r =>
    cases r with
    | cons h' r => cases r; exact ⟨_, _, rfl, h, h'⟩
theorem v_bi {xs : List D} {vs : List V} (w : Wd K Z μ S H) (r : RA K μ (fz Z μ S H) vs xs) (b : Bi) (h : biv b m xs S = some (d, S')) (p : Pst K Z μ S H S' d Q) : rBi K b vs H Q := by
  unfold biv at h
  split at h
  · obtain ⟨n, h0, e⟩ := Option.map_eq_some_iff.mp h
    cases e
    obtain ⟨v, rfl, q⟩ := r.one
    exact ⟨v, n, rfl, v_len w q h0, p.here w (.int _)⟩
  · obtain ⟨rfl, rfl⟩ := some2 h
    obtain ⟨v, rfl, q⟩ := r.one
    cases q
    exact ⟨_, rfl, p.here w (.int _)⟩
  · obtain ⟨rfl, rfl⟩ := some2 h
    obtain ⟨v, rfl, q⟩ := r.one
    cases q
    exact .inl ⟨_, rfl, p.here w (.int _)⟩
  · obtain ⟨rfl, rfl⟩ := some2 h
    obtain ⟨v, rfl, q⟩ := r.one
    cases q
    exact .inr ⟨_, rfl, p.here w (.int _)⟩
  · obtain ⟨rfl, rfl⟩ := some2 h
    obtain ⟨v, u, rfl, q, q'⟩ := r.two
    cases q; cases q'
    exact ⟨_, _, rfl, p.here w (.int _)⟩
  · obtain ⟨rfl, rfl⟩ := some2 h
    obtain ⟨v, rfl, q⟩ := r.one
    cases q with
    | tup e z r => exact ⟨_, _, rfl, .inr ⟨sameT (fz_same Z μ S H) e.sq, p.here w (.tup e z r)⟩⟩
  · obtain ⟨ys, h0, e⟩ := Option.map_eq_some_iff.mp h
    cases e
    obtain ⟨v, rfl, q⟩ := r.one
    obtain ⟨a, vs, rfl, e, z, r⟩ := seq_R w h0 q
    exact ⟨_, _, rfl, .inl ⟨.inl e, p.tup w z r⟩⟩
  · obtain ⟨ys, h0, e3⟩ := Option.map_eq_some_iff.mp h
    have e4 : (mkl m ys S).1 = d := congrArg Prod.fst e3
    have e5 : (mkl m ys S).2 = S' := congrArg Prod.snd e3
    subst e4 e5
    obtain ⟨v, rfl, q⟩ := r.one
    obtain ⟨a, vs, rfl, e, z, r⟩ := it_R w h0 q
    exact ⟨_, _, rfl, e, p.lst w z r⟩
  · obtain ⟨ys, h1, h⟩ := Option.bind_eq_some_iff.mp h
    obtain ⟨ns, h2, e⟩ := Option.map_eq_some_iff.mp h
    cases e
    obtain ⟨v, rfl, q⟩ := r.one
    obtain ⟨a, vs, rfl, e, z, r⟩ := seq_R w h1 q
    have e2 := ints_RA r h2
    subst e2
    exact ⟨_, ns, rfl, .inl e, p.here w (.int _)⟩
  · cases h
theorem firstIx_at {x : D} : ∀ {ds : List D} {j : Nat}, firstIx x ds = some j → (∃ z, ds[j]? = some z ∧ PyData.eqv z x = true) ∧ ∀ (n : Nat) (z : D), n < j → ds[n]? = some z → PyData.eqv z x = false
  | [], j, h => by cases h
  | y :: r, j, h => by
    unfold firstIx at h
    split at h
    · rename_i hz
      cases h
      exact ⟨⟨y, rfl, hz⟩, fun n z hn _ => by omega⟩
    · rename_i hz
      obtain ⟨i, h0, rfl⟩ := Option.map_eq_some_iff.mp h
      obtain ⟨⟨z, e, q⟩, q2⟩ := firstIx_at h0
      refine ⟨⟨z, by simpa using e, q⟩, fun n z hn e => ?_⟩
      cases n with
      | zero =>
        simp at e
        subst e
        simpa using hz
      | succ n => exact q2 n z (by omega) (by simpa using e)
def rMt (K : PySem.W.Frag) : Mt → V → List V → Hp → VK → Prop
  | .append => rAppend
theorem v_mt {xs : List D} {vs : List V} (w : Wd K Z μ S H) (rx : R K μ (fz Z μ S H) vx x) (r : RA K μ (fz Z μ S H) vs xs) (t : Mt) (h : mtv t x xs S = some (d, S')) (p : Pst K Z μ S H S' d Q) : rMt K t vx vs H Q := by
  unfold mtv at h
  split at h
  · obtain ⟨i, hi, h⟩ := Option.bind_eq_some_iff.mp h
    obtain ⟨a, rfl, e⟩ := rf_R hi rx
    split at h
    · rename_i ys hs
      split at h
      · rename_i hz
        obtain ⟨rfl, rfl⟩ := some2 h
        obtain ⟨v, rfl, q⟩ := r.one
        obtain ⟨ws, e1, z, r1⟩ := w.ob i a _ e hs
        refine ⟨a, ws, v, rfl, rfl, e1, by rw [r1.len]; exact hz, ?_⟩
        obtain ⟨w1, ef⟩ := w.wr (ob' := .lst (ys ++ [_])) (H' := upd H a (.lst (ws ++ [v]))) e hs (fun z => by cases z) (fun z => by cases z) (fun b hb => upd_ne hb) ⟨_, upd_same, by rw [List.length_append, List.length_singleton, r1.len]; omega, r1.append (.cons q .nil)⟩
        exact p μ _ _ w1 ⟨fun _ _ z => z, by rw [ef]; exact Same.refl _, fun b hb => upd_ne fun z => w.out e (z ▸ hb)⟩ .non
      · cases h
    · cases h
  · cases h
theorem v_idx (w : Wd K Z μ S H) (rx : R K μ (fz Z μ S H) vx x) (ry : R K μ (fz Z μ S H) vy y) (h : idxv x y S = some d) (p : Pst K Z μ S H S d Q) : ((∃ ys, seqv x S = some ys) ∧ rIndexD K vx [vy] H Q) ∨ (∃ ys, x = .tuple ys) ∧ rIndexT K vx [vy] H Q := by
  unfold idxv at h
  split at h
  · split at h
    · rename_i hz
      rw [Bool.and_eq_true] at hz
      obtain ⟨j, h2, e⟩ := Option.map_eq_some_iff.mp h
      cases e
      obtain ⟨⟨z, e1, e2⟩, e3⟩ := firstIx_at h2
      cases rx with
      | tup e z1 r1 => exact .inr ⟨⟨_, rfl⟩, _, vy, _, _, j, z, rfl, rfl, (R.tup e z1 r1).dpH hz.2, ry.dpH hz.1, hz.2, hz.1, e1, e2, e3, p.here w (.int _)⟩
    · cases h
  · obtain ⟨ys, h1, h⟩ := Option.bind_eq_some_iff.mp h
    split at h
    · rename_i hz
      rw [Bool.and_eq_true] at hz
      obtain ⟨j, h2, e⟩ := Option.map_eq_some_iff.mp h
      cases e
      obtain ⟨⟨z, e1, e2⟩, e3⟩ := firstIx_at h2
      obtain ⟨a, vs, rfl, _⟩ := seq_R w h1 rx
      exact .inl ⟨⟨ys, h1⟩, a, vy, _, ys, j, z, rfl, rfl, seq_dp w h1 rx hz.2, ry.dpH hz.1, hz.2, hz.1, e1, e2, e3, p.here w (.int _)⟩
    · cases h
end
end Ev

namespace Ev
open PySem PySem.Spec
open PyProof.Rows L2

/-! ### readings out of the evaluator -/
structure At (K : PySem.W.Frag) (Z μ : List Addr) (S : Sto) (H : Hp) (σ : L2.St) (δ : DE) : Prop where
  w : Wd K Z μ S H
  r : RE K μ (fz Z μ S H) σ δ
section
variable {K : PySem.W.Frag} {Z μ μ1 : List Addr} {S S1 S' : Sto} {H H1 : Hp} {σ : L2.St} {δ : DE} {d : D} {Q : VK}
theorem At.go (a : At K Z μ S H σ δ) (w : Wd K Z μ1 S1 H1) (l : Le Z μ S H μ1 S1 H1) : At K Z μ1 S1 H1 σ δ := ⟨w, a.r.mono l.g l.s⟩
theorem R.le {v : V} (r : R K μ (fz Z μ S H) v d) (l : Le Z μ S H μ1 S1 H1) : R K μ1 (fz Z μ1 S1 H1) v d := r.mono l.g l.s
theorem RA.le {vs : List V} {ds : List D} (r : RA K μ (fz Z μ S H) vs ds) (l : Le Z μ S H μ1 S1 H1) : RA K μ1 (fz Z μ1 S1 H1) vs ds := r.mono l.g l.s
theorem Pst.le (p : Pst K Z μ S H S' d Q) (l : Le Z μ S H μ1 S1 H1) : Pst K Z μ1 S1 H1 S' d Q := fun μ' H' v w l' r => p μ' H' v w (l.trans l') r
end
def tE (K : PySem.W.Frag) (ev : DE → Sto → Option (D × Sto)) : TE := fun σ H Q => ∃ Z μ S δ d S', At K Z μ S H σ δ ∧ ev δ S = some (d, S') ∧ Pst K Z μ S H S' d Q
def tT (K : PySem.W.Frag) (ev : DE → Sto → Option (Bool × Sto)) : TT := fun σ H Q => ∃ Z μ S δ k S', At K Z μ S H σ δ ∧ ev δ S = some (k, S') ∧ ∀ (μ' : List Addr) (H' : Hp), Wd K Z μ' S' H' → Le Z μ S H μ' S' H' → Q k H'
def tA (K : PySem.W.Frag) (ev : DE → Sto → Option (List D × Sto)) : TA := fun σ H Q => ∃ Z μ S δ ds S', At K Z μ S H σ δ ∧ ev δ S = some (ds, S') ∧ ∀ (μ' : List Addr) (H' : Hp) (vs : List V), Wd K Z μ' S' H' → Le Z μ S H μ' S' H' → RA K μ' (fz Z μ' S' H') vs ds → Q vs H'
def tO (K : PySem.W.Frag) (ev : DE → Sto → Option (Option Int × Sto)) : TO := fun σ H Q => ∃ Z μ S δ o S', At K Z μ S H σ δ ∧ ev δ S = some (o, S') ∧ ∀ (μ' : List Addr) (H' : Hp), Wd K Z μ' S' H' → Le Z μ S H μ' S' H' → Q o H'
theorem _root_.L2.PE.wk {X : Cx} {e : Expr} {t t' : TE} (h : PE X e t) (w : ∀ σ H Q, t' σ H Q → t σ H Q) : PE X e t' := ⟨fun pins s σ H Q I q => h.run pins s σ H Q I (w σ H Q q)⟩
theorem _root_.L2.PT.wk {X : Cx} {e : Expr} {t t' : TT} (h : PT X e t) (w : ∀ σ H Q, t' σ H Q → t σ H Q) : PT X e t' := ⟨fun pins s σ H Q I q => h.run pins s σ H Q I (w σ H Q q)⟩
theorem _root_.L2.PW.wk {X : Cx} {e : Expr} {t t' : TT} (h : PW X e t) (w : ∀ σ H Q, t' σ H Q → t σ H Q) : PW X e t' := ⟨fun wh pins s σ H Q I q => h.run wh pins s σ H Q I (w σ H Q q)⟩
theorem _root_.L2.PTs.wk {X : Cx} {e : List Expr} {t t' : TT} (h : PTs X e t) (w : ∀ σ H Q, t' σ H Q → t σ H Q) : PTs X e t' := ⟨fun pins s σ H Q I q => h.run pins s σ H Q I (w σ H Q q)⟩
theorem _root_.L2.PA.wk {X : Cx} {e : List Expr} {t t' : TA} (h : PA X e t) (w : ∀ σ H Q, t' σ H Q → t σ H Q) : PA X e t' := ⟨fun pos pins s σ H Q I q => h.run pos pins s σ H Q I (w σ H Q q)⟩
theorem _root_.L2.PO.wk {X : Cx} {e : Option Expr} {t t' : TO} (h : PO X e t) (w : ∀ σ H Q, t' σ H Q → t σ H Q) : PO X e t' := ⟨fun pins s σ H Q I q => h.run pins s σ H Q I (w σ H Q q)⟩
theorem _root_.L2.PI.wk {X : Cx} {tg e : Expr} {t t' : TI} (h : PI X tg e t) (w : ∀ σ H Q, t' σ H Q → t σ H Q) : PI X tg e t' := ⟨fun pins s σ H Q I q => h.run pins s σ H Q I (w σ H Q q)⟩
theorem _root_.L2.PG.wk {X : Cx} {e : Expr} {t t' : TG} (h : PG X e t) (w : ∀ v σ H Q, t' v σ H Q → t v σ H Q) : PG X e t' := ⟨fun pins s σ H v u Q I r q => h.run pins s σ H v u Q I r (w v σ H Q q)⟩
theorem _root_.L2.PGs.wk {X : Cx} {e : List Expr} {t t' : TGs} (h : PGs X e t) (w : ∀ v σ H Q, t' v σ H Q → t v σ H Q) : PGs X e t' := ⟨fun pins s σ H v u Q I r q => h.run pins s σ H v u Q I r (w v σ H Q q)⟩
theorem _root_.L2.PS.wk {X : Cx} {e : Stmt} {t t' : TS} (h : PS X e t) (w : ∀ D σ H, t' D σ H → t D σ H) : PS X e t' := ⟨fun pins s σ H D I q => h.run pins s σ H D I (w D σ H q)⟩
theorem _root_.L2.PSs.wk {X : Cx} {e : List Stmt} {t t' : TS} (h : PSs X e t) (w : ∀ D σ H, t' D σ H → t D σ H) : PSs X e t' := ⟨fun pins s σ H D I q => h.run pins s σ H D I (w D σ H q)⟩

/-! ### expressions -/
section
variable {X : Cx} {a b c e : Expr} {pos : Pos} {ea eb ec : DE → Sto → Option (D × Sto)}
theorem bindE {α β : Type} {x : Option α} {f : α → Option β} {y : β} (h : x.bind f = some y) : ∃ z, x = some z ∧ f z = some y := Option.bind_eq_some_iff.mp h
theorem mapE {α β : Type} {x : Option α} {f : α → β} {y : β} (h : x.map f = some y) : ∃ z, x = some z ∧ f z = y := Option.map_eq_some_iff.mp h
theorem se_var {i : Nat} {x : Str} (hN : X.N[i]? = some x) (hv : Vis X.env.scope x) (hd : (x == ("__debug__" : Str)) = false) (hcd : (x == ("__classdict__" : Str)) = false) {C : Cl} : PE X (.Name x pos) (tE X.K (evE C (.var i))) :=
  (pe_var hN hv hd hcd).wk fun σ H Q ⟨Z, μ, S, δ, d, S', at_, h, p⟩ => by
    unfold evE at h
    split at h
    · rename_i e
      obtain ⟨rfl, rfl⟩ := some2 h
      obtain ⟨v, e1, r⟩ := at_.r.get e
      exact ⟨v, e1, p.here at_.w r⟩
    · cases h
theorem se_op {p : Operator} (o : O2) {m : Bool} (hp : p = opr o) (ha : PE X a (tE X.K ea)) (hb : PE X b (tE X.K eb)) : PE X (.BinOp a p b pos) (tE X.K fun δ S => (ea δ S).bind fun p => (eb δ p.2).bind fun q => opv o m p.1 q.1 q.2) := by
  subst hp
  refine (pe_op (op_all o) ha hb).wk fun σ H Q ⟨Z, μ, S, δ, d, S', at_, h, p⟩ => ?_
  obtain ⟨x, h1, h⟩ := bindE h
  obtain ⟨y, h2, h⟩ := bindE h
  exact ⟨Z, μ, S, δ, x.1, x.2, at_, h1, fun μ1 H1 v w1 l1 r1 => ⟨Z, μ1, x.2, δ, y.1, y.2, at_.go w1 l1, h2, fun μ2 H2 u w2 l2 r2 => v_op o w2 (r1.le l2) r2 h (p.le (l1.trans l2))⟩⟩
theorem se_neg (ha : PE X a (tE X.K ea)) : PE X (.UnaryOp .USub a pos) (tE X.K fun δ S => (ea δ S).bind fun p => match p.1 with | .int i => some (.int (-i), p.2) | _ => none) := by
  refine (pe_un un_neg ha).wk fun σ H Q ⟨Z, μ, S, δ, d, S', at_, h, p⟩ => ?_
  obtain ⟨x, h1, h⟩ := bindE h
  refine ⟨Z, μ, S, δ, x.1, x.2, at_, h1, fun μ1 H1 v w1 l1 r1 => ?_⟩
  split at h
  · rename_i e
    obtain ⟨rfl, rfl⟩ := some2 h
    rw [e] at r1
    cases r1
    exact ⟨_, rfl, (p.le l1).here w1 (.int _)⟩
  · cases h
theorem se_cmp (o : CmpOp) (hu : X.A.units + 65 < cLine) (ha : PE X a (tE X.K ea)) (hb : PE X b (tE X.K eb)) (hm : behindInMarks o b = false) :
    PE X (.Compare a [o] [b] pos) (tE X.K fun δ S => (ea δ S).bind fun p => (eb δ p.2).bind fun q => (cmpv o p.1 q.1 q.2).map fun k => (.bool k, q.2)) := by
  refine (pe_cmpR (op_cmp hu o) ha hb hm).wk fun σ H Q ⟨Z, μ, S, δ, d, S', at_, h, p⟩ => ?_
  obtain ⟨x, h1, h⟩ := bindE h
  obtain ⟨y, h2, h⟩ := bindE h
  obtain ⟨k, h3, h⟩ := mapE h
  cases h
  exact ⟨Z, μ, S, δ, x.1, x.2, at_, h1, fun μ1 H1 v w1 l1 r1 => ⟨Z, μ1, x.2, δ, y.1, y.2, at_.go w1 l1, h2, fun μ2 H2 u w2 l2 r2 => v_cmp o w2 (r1.le l2) r2 h3 ((p.le (l1.trans l2)).here w2 (.bl _))⟩⟩
theorem st_cmp (o : CmpOp) (hu : X.A.units + 65 < cLine) (ha : PE X a (tE X.K ea)) (hb : PE X b (tE X.K eb)) (hm : behindInMarks o b = false) :
    PT X (.Compare a [o] [b] pos) (tT X.K fun δ S => (ea δ S).bind fun p => (eb δ p.2).bind fun q => (cmpv o p.1 q.1 q.2).map fun k => (k, q.2)) := by
  refine (pt_cmpR (op_cmp hu o) ha hb hm).wk fun σ H Q ⟨Z, μ, S, δ, d, S', at_, h, p⟩ => ?_
  obtain ⟨x, h1, h⟩ := bindE h
  obtain ⟨y, h2, h⟩ := bindE h
  obtain ⟨k, h3, h⟩ := mapE h
  cases h
  exact ⟨Z, μ, S, δ, x.1, x.2, at_, h1, fun μ1 H1 v w1 l1 r1 => ⟨Z, μ1, x.2, δ, y.1, y.2, at_.go w1 l1, h2, fun μ2 H2 u w2 l2 r2 => v_cmp o w2 (r1.le l2) r2 h3 ⟨_, rfl, p μ2 H2 w2 (l1.trans l2)⟩⟩⟩
theorem se_cmp2 (o o' : CmpOp) (hu : X.A.units + 65 < cLine) (ha : PE X a (tE X.K ea)) (hb : PE X b (tE X.K eb)) (hc : PE X c (tE X.K ec)) (hm : lastMarks [o, o'] [b, c] = false) :
    PE X (.Compare a [o, o'] [b, c] pos) (tE X.K fun δ S => (ea δ S).bind fun p => (eb δ p.2).bind fun q => (cmpv o p.1 q.1 q.2).bind fun k =>
      if k then (ec δ q.2).bind fun r => (cmpv o' q.1 r.1 r.2).map fun k' => (.bool k', r.2) else some (.bool false, q.2)) := by
  refine (pe_chain (op_cmp hu o) (op_cmp hu o') ha hb hc hm).wk fun σ H Q ⟨Z, μ, S, δ, d, S', at_, h, p⟩ => ?_
  obtain ⟨x, h1, h⟩ := bindE h
  obtain ⟨y, h2, h⟩ := bindE h
  obtain ⟨k, h3, h⟩ := bindE h
  refine ⟨Z, μ, S, δ, x.1, x.2, at_, h1, fun μ1 H1 v w1 l1 r1 => ⟨Z, μ1, x.2, δ, y.1, y.2, at_.go w1 l1, h2, fun μ2 H2 u w2 l2 r2 => v_cmp o w2 (r1.le l2) r2 h3 ⟨k, rfl, ?_⟩⟩⟩
  cases k with
  | false =>
    obtain ⟨rfl, rfl⟩ := some2 h
    exact iteF ((p.le (l1.trans l2)).here w2 (.bl _))
  | true =>
    obtain ⟨z, h4, h⟩ := bindE (show (ec δ y.2).bind _ = _ from h)
    obtain ⟨k, h5, h⟩ := mapE h
    cases h
    exact iteT ⟨Z, μ2, y.2, δ, z.1, z.2, at_.go w2 (l1.trans l2), h4, fun μ3 H3 t w3 l3 r3 => v_cmp o' w3 (r2.le l3) r3 h5 ((p.le (l1.trans (l2.trans l3))).here w3 (.bl _))⟩
theorem st_cmp2 (o o' : CmpOp) (hu : X.A.units + 65 < cLine) (ha : PE X a (tE X.K ea)) (hb : PE X b (tE X.K eb)) (hc : PE X c (tE X.K ec)) (hm : lastMarks [o, o'] [b, c] = false) :
    PT X (.Compare a [o, o'] [b, c] pos) (tT X.K fun δ S => (ea δ S).bind fun p => (eb δ p.2).bind fun q => (cmpv o p.1 q.1 q.2).bind fun k =>
      if k then (ec δ q.2).bind fun r => (cmpv o' q.1 r.1 r.2).map fun k' => (k', r.2) else some (false, q.2)) := by
  refine (pt_chain (op_cmp hu o) (op_cmp hu o') ha hb hc hm).wk fun σ H Q ⟨Z, μ, S, δ, d, S', at_, h, p⟩ => ?_
  obtain ⟨x, h1, h⟩ := bindE h
  obtain ⟨y, h2, h⟩ := bindE h
  obtain ⟨k, h3, h⟩ := bindE h
  refine ⟨Z, μ, S, δ, x.1, x.2, at_, h1, fun μ1 H1 v w1 l1 r1 => ⟨Z, μ1, x.2, δ, y.1, y.2, at_.go w1 l1, h2, fun μ2 H2 u w2 l2 r2 => v_cmp o w2 (r1.le l2) r2 h3 ⟨k, rfl, ?_⟩⟩⟩
  cases k with
  | false =>
    obtain ⟨rfl, rfl⟩ := some2 h
    exact iteF ⟨false, rfl, p μ2 H2 w2 (l1.trans l2)⟩
  | true =>
    obtain ⟨z, h4, h⟩ := bindE (show (ec δ y.2).bind _ = _ from h)
    obtain ⟨k, h5, h⟩ := mapE h
    cases h
    exact iteT ⟨Z, μ2, y.2, δ, z.1, z.2, at_.go w2 (l1.trans l2), h4, fun μ3 H3 t w3 l3 r3 => v_cmp o' w3 (r2.le l3) r3 h5 ⟨_, rfl, p μ3 H3 w3 (l1.trans (l2.trans l3))⟩⟩
theorem se_not (ha : PE X a (tE X.K ea)) : PE X (.UnaryOp .Not a pos) (tE X.K fun δ S => (ea δ S).bind fun p => (truv p.1 p.2).map fun k => (.bool !k, p.2)) := by
  refine (pe_notT ha).wk fun σ H Q ⟨Z, μ, S, δ, d, S', at_, h, p⟩ => ?_
  obtain ⟨x, h1, h⟩ := bindE h
  obtain ⟨k, h2, h⟩ := mapE h
  cases h
  exact ⟨Z, μ, S, δ, x.1, x.2, at_, h1, fun μ1 H1 v w1 l1 r1 => ⟨k, v_tru w1 r1 h2, (p.le l1).here w1 (.bl _)⟩⟩
theorem st_val (ha : PE X a (tE X.K ea)) (he : ∀ whole, isTrue a X.env whole = (do let v ← whole; standAt a.pos; holding [v] (truthy v))) :
    PT X a (tT X.K fun δ S => (ea δ S).bind fun p => (truv p.1 p.2).map fun k => (k, p.2)) := by
  refine (pt_truth ha he).wk fun σ H Q ⟨Z, μ, S, δ, d, S', at_, h, p⟩ => ?_
  obtain ⟨x, h1, h⟩ := bindE h
  obtain ⟨k, h2, h⟩ := mapE h
  cases h
  exact ⟨Z, μ, S, δ, x.1, x.2, at_, h1, fun μ1 H1 v w1 l1 r1 => ⟨_, v_tru w1 r1 h2, p μ1 H1 w1 l1⟩⟩
variable {ta tb : DE → Sto → Option (Bool × Sto)} {rest : List Expr}
theorem st_not (ha : PT X a (tT X.K ta)) : PT X (.UnaryOp .Not a pos) (tT X.K fun δ S => (ta δ S).map fun p => (!p.1, p.2)) := by
  refine (pt_not ha).wk fun σ H Q ⟨Z, μ, S, δ, d, S', at_, h, p⟩ => ?_
  obtain ⟨x, h1, h⟩ := mapE h
  cases h
  exact ⟨Z, μ, S, δ, x.1, x.2, at_, h1, fun μ1 H1 w1 l1 => p μ1 H1 w1 l1⟩
def bopr (k : Bool) : PySem.BoolOp := if k then .And else .Or
theorem st_bop (k : Bool) (ha : PT X a (tT X.K ta)) (hb : PW X (.BoolOp (bopr k) (b :: rest) pos) (tT X.K tb)) : PW X (.BoolOp (bopr k) (a :: b :: rest) pos) (tT X.K fun δ S => (ta δ S).bind fun p => if p.1 = k then tb δ p.2 else some (!k, p.2)) := by
  cases k with
  | true =>
    refine (pw_and ha hb).wk fun σ H Q ⟨Z, μ, S, δ, d, S', at_, h, p⟩ => ?_
    obtain ⟨x, h1, h⟩ := bindE h
    refine ⟨Z, μ, S, δ, x.1, x.2, at_, h1, fun μ1 H1 w1 l1 => ?_⟩
    split at h
    · rename_i e
      rw [e]
      exact iteT ⟨Z, μ1, x.2, δ, d, S', at_.go w1 l1, h, fun μ2 H2 w2 l2 => p μ2 H2 w2 (l1.trans l2)⟩
    · rename_i e
      obtain ⟨rfl, rfl⟩ := some2 h
      rw [Bool.not_eq_true] at e
      rw [e]
      exact iteF (p μ1 H1 w1 l1)
  | false =>
    refine (pw_or ha hb).wk fun σ H Q ⟨Z, μ, S, δ, d, S', at_, h, p⟩ => ?_
    obtain ⟨x, h1, h⟩ := bindE h
    refine ⟨Z, μ, S, δ, x.1, x.2, at_, h1, fun μ1 H1 w1 l1 => ?_⟩
    split at h
    · rename_i e
      rw [e]
      exact iteF ⟨Z, μ1, x.2, δ, d, S', at_.go w1 l1, h, fun μ2 H2 w2 l2 => p μ2 H2 w2 (l1.trans l2)⟩
    · rename_i e
      obtain ⟨rfl, rfl⟩ := some2 h
      rw [Bool.not_eq_false] at e
      rw [e]
      exact iteT (p μ1 H1 w1 l1)
theorem st_bop1 (k : Bool) (ha : PT X a (tT X.K ta)) : PW X (.BoolOp (bopr k) [a] pos) (tT X.K ta) := by
  cases k with
  | true => exact pw_and1 ha
  | false => exact pw_or1 ha
theorem se_bop (k : Bool) (ha : PE X a (tE X.K ea)) (hb : PE X (.BoolOp (bopr k) (b :: rest) pos) (tE X.K eb)) : PE X (.BoolOp (bopr k) (a :: b :: rest) pos) (tE X.K fun δ S => (ea δ S).bind fun p => (truv p.1 p.2).bind fun t => if t = k then eb δ p.2 else some (p.1, p.2)) := by
  cases k with
  | true =>
    refine (pe_andT ha hb).wk fun σ H Q ⟨Z, μ, S, δ, d, S', at_, h, p⟩ => ?_
    obtain ⟨x, h1, h⟩ := bindE h
    obtain ⟨k, h2, h⟩ := bindE h
    refine ⟨Z, μ, S, δ, x.1, x.2, at_, h1, fun μ1 H1 v w1 l1 r1 => ⟨k, v_tru w1 r1 h2, ?_⟩⟩
    cases k with
    | true => exact iteT ⟨Z, μ1, x.2, δ, d, S', at_.go w1 l1, by rw [if_pos rfl] at h; exact h, p.le l1⟩
    | false =>
      rw [if_neg (by decide)] at h
      obtain ⟨rfl, rfl⟩ := some2 h
      exact iteF ((p.le l1).here w1 r1)
  | false =>
    refine (pe_orT ha hb).wk fun σ H Q ⟨Z, μ, S, δ, d, S', at_, h, p⟩ => ?_
    obtain ⟨x, h1, h⟩ := bindE h
    obtain ⟨k, h2, h⟩ := bindE h
    refine ⟨Z, μ, S, δ, x.1, x.2, at_, h1, fun μ1 H1 v w1 l1 r1 => ⟨k, v_tru w1 r1 h2, ?_⟩⟩
    cases k with
    | false => exact iteF ⟨Z, μ1, x.2, δ, d, S', at_.go w1 l1, by rw [if_pos rfl] at h; exact h, p.le l1⟩
    | true =>
      rw [if_neg (by decide)] at h
      obtain ⟨rfl, rfl⟩ := some2 h
      exact iteT ((p.le l1).here w1 r1)
theorem se_ife (hc : PT X c (tT X.K ta)) (ha : PE X a (tE X.K ea)) (hb : PE X b (tE X.K eb)) : PE X (.IfExp c a b pos) (tE X.K fun δ S => (ta δ S).bind fun p => if p.1 then ea δ p.2 else eb δ p.2) := by
  refine (pe_ifExp hc ha hb).wk fun σ H Q ⟨Z, μ, S, δ, d, S', at_, h, p⟩ => ?_
  obtain ⟨x, h1, h⟩ := bindE h
  refine ⟨Z, μ, S, δ, x.1, x.2, at_, h1, fun μ1 H1 w1 l1 => ?_⟩
  split at h
  · rename_i e
    rw [e]
    exact iteT ⟨Z, μ1, x.2, δ, d, S', at_.go w1 l1, h, p.le l1⟩
  · rename_i e
    rw [Bool.not_eq_true] at e
    rw [e]
    exact iteF ⟨Z, μ1, x.2, δ, d, S', at_.go w1 l1, h, p.le l1⟩

/-! ### arguments -/
variable {es : List Expr} {eas : DE → Sto → Option (List D × Sto)}
theorem sa_nil : PA X [] (tA X.K fun _ S => some ([], S)) := pa_nil.wk fun σ H Q ⟨Z, μ, S, δ, d, S', at_, h, p⟩ => by
  obtain ⟨rfl, rfl⟩ := some2 h
  exact p μ H [] at_.w .refl .nil
theorem sa_cons (ha : PE X a (tE X.K ea)) (hr : PA X es (tA X.K eas)) (hs : starEach (a :: es) X.env = (false, eval a X.env) :: starEach es X.env) : PA X (a :: es) (tA X.K fun δ S => (ea δ S).bind fun p => (eas δ p.2).map fun q => (p.1 :: q.1, q.2)) := by
  refine (pa_cons ha hr hs).wk fun σ H Q ⟨Z, μ, S, δ, d, S', at_, h, p⟩ => ?_
  obtain ⟨x, h1, h⟩ := bindE h
  obtain ⟨y, h2, h⟩ := mapE h
  cases h
  exact ⟨Z, μ, S, δ, x.1, x.2, at_, h1, fun μ1 H1 v w1 l1 r1 => ⟨Z, μ1, x.2, δ, y.1, y.2, at_.go w1 l1, h2, fun μ2 H2 vs w2 l2 r2 => p μ2 H2 _ w2 (l1.trans l2) (.cons (r1.le l2) r2)⟩⟩
theorem se_tup {x1 : Nat} (ha : PA X es (tA X.K eas)) : PE X (.Tuple es x1 pos) (tE X.K fun δ S => (eas δ S).bind fun p => if p.1.length ≤ sizeLine then some (.tuple p.1, p.2) else none) := by
  refine (pe_tupF ha).wk fun σ H Q ⟨Z, μ, S, δ, d, S', at_, h, p⟩ => ?_
  obtain ⟨x, h1, h⟩ := bindE h
  split at h
  · rename_i hz
    obtain ⟨rfl, rfl⟩ := some2 h
    refine ⟨Z, μ, S, δ, x.1, x.2, at_, h1, fun μ1 H1 vs w1 l1 r1 => ⟨by rw [r1.len]; exact hz, (p.le l1).tup w1 (by rw [r1.len]; exact hz) r1⟩⟩
  · cases h
theorem se_lst {m : Bool} (ha : PA X es (tA X.K eas)) : PE X (.List es pos) (tE X.K fun δ S => (eas δ S).bind fun p => if p.1.length ≤ sizeLine then some (mkl m p.1 p.2) else none) := by
  refine (pe_lst ha).wk fun σ H Q ⟨Z, μ, S, δ, d, S', at_, h, p⟩ => ?_
  obtain ⟨x, h1, h⟩ := bindE h
  split at h
  · rename_i hz
    have e3 := Option.some.inj h
    have e4 : (mkl m x.1 x.2).1 = d := congrArg Prod.fst e3
    have e5 : (mkl m x.1 x.2).2 = S' := congrArg Prod.snd e3
    subst e4 e5
    refine ⟨Z, μ, S, δ, x.1, x.2, at_, h1, fun μ1 H1 vs w1 l1 r1 => ⟨by rw [r1.len]; exact hz, (p.le l1).lst w1 (by rw [r1.len]; exact hz) r1⟩⟩
  · cases h

/-! ### items, slices -/
theorem se_sub (ha : PE X a (tE X.K ea)) (hb : PE X b (tE X.K eb)) (hs : PlainIx b) : PE X (.Subscript a b pos) (tE X.K fun δ S => (ea δ S).bind fun p => (eb δ p.2).bind fun q => (ixv p.1 q.1 q.2).map fun d => (d, q.2)) := by
  refine (pe_ix ix_seq ha hb hs).wk fun σ H Q ⟨Z, μ, S, δ, d, S', at_, h, p⟩ => ?_
  obtain ⟨x, h1, h⟩ := bindE h
  obtain ⟨y, h2, h⟩ := bindE h
  obtain ⟨z, h3, h⟩ := mapE h
  cases h
  exact ⟨Z, μ, S, δ, x.1, x.2, at_, h1, fun μ1 H1 v w1 l1 r1 => ⟨Z, μ1, x.2, δ, y.1, y.2, at_.go w1 l1, h2, fun μ2 H2 u w2 l2 r2 => v_ix w2 (r1.le l2) r2 h3 (p.le (l1.trans l2))⟩⟩
variable {lo hi : Option Expr} {ol oh : DE → Sto → Option (Option Int × Sto)} {p2 : Pos}
theorem so_gap : PO X none (tO X.K fun _ S => some (none, S)) := po_none.wk fun σ H Q ⟨Z, μ, S, δ, d, S', at_, h, p⟩ => by
  obtain ⟨rfl, rfl⟩ := some2 h
  exact p μ H at_.w .refl
theorem so_at (ha : PE X a (tE X.K ea)) : PO X (some a) (tO X.K fun δ S => (ea δ S).bind fun p => (partv p.1).map fun i => (i, p.2)) := by
  refine (po_some ha).wk fun σ H Q ⟨Z, μ, S, δ, d, S', at_, h, p⟩ => ?_
  obtain ⟨x, h1, h⟩ := bindE h
  obtain ⟨y, h2, h⟩ := mapE h
  cases h
  refine ⟨Z, μ, S, δ, x.1, x.2, at_, h1, fun μ1 H1 v w1 l1 r1 => ?_⟩
  unfold partv at h2
  split at h2
  · rename_i e
    cases h2
    rw [e] at r1
    cases r1
    exact ⟨_, rfl, p μ1 H1 w1 l1⟩
  · cases h2
theorem se_slc {m : Bool} (ha : PE X a (tE X.K ea)) (hl : PO X lo (tO X.K ol)) (hh : PO X hi (tO X.K oh)) : PE X (.Subscript a (.Slice lo hi none p2) pos) (tE X.K fun δ S => (ea δ S).bind fun p => (ol δ p.2).bind fun q => (oh δ q.2).bind fun r => slcv m p.1 q.1 r.1 r.2) := by
  refine (pe_slice (sl_list.or sl_tupF) ha hl hh).wk fun σ H Q ⟨Z, μ, S, δ, d, S', at_, h, p⟩ => ?_
  obtain ⟨x, h1, h⟩ := bindE h
  obtain ⟨y, h2, h⟩ := bindE h
  obtain ⟨z, h3, h⟩ := bindE h
  exact ⟨Z, μ, S, δ, x.1, x.2, at_, h1, fun μ1 H1 v w1 l1 r1 => ⟨Z, μ1, x.2, δ, y.1, y.2, at_.go w1 l1, h2, fun μ2 H2 w2 l2 => ⟨Z, μ2, y.2, δ, z.1, z.2, at_.go w2 (l1.trans l2), h3, fun μ3 H3 w3 l3 => v_slc w3 (r1.le (l2.trans l3)) h (p.le (l1.trans (l2.trans l3)))⟩⟩⟩
theorem se_rvs {m : Bool} {k : Nat} {p1 p3 : Pos} (ha : PE X a (tE X.K ea)) : PE X (.Subscript a (.Slice none none (some (.UnaryOp .USub (.Constant (.int 1) k p1) p2)) p3) pos) (tE X.K fun δ S => (ea δ S).bind fun p => (seqv p.1 p.2).map fun xs => mkl m xs.reverse p.2) := by
  refine (pe_revL ha).wk fun σ H Q ⟨Z, μ, S, δ, d, S', at_, h, p⟩ => ?_
  obtain ⟨x, h1, h⟩ := bindE h
  obtain ⟨xs, h2, e3⟩ := mapE h
  have e4 : (mkl m xs.reverse x.2).1 = d := congrArg Prod.fst e3
  have e5 : (mkl m xs.reverse x.2).2 = S' := congrArg Prod.snd e3
  subst e4 e5
  refine ⟨Z, μ, S, δ, x.1, x.2, at_, h1, fun μ1 H1 v w1 l1 r1 => ?_⟩
  obtain ⟨q, vs, rfl, e, z, r⟩ := seq_R w1 h2 r1
  exact ⟨q, vs, rfl, .inl e, (p.le l1).lst w1 (by rw [List.length_reverse]; exact z) r.reverse⟩

/-! ### calls -/
/-- what a def promises: what the evaluator's def gives -/
def spF (K : PySem.W.Frag) (f : Fn0) : Sp := fun vs H Q _ => ∃ Z μ S ds d S', Wd K Z μ S H ∧ RA K μ (fz Z μ S H) vs ds ∧ f ds S = some (d, S') ∧ Pst K Z μ S H S' d Q
theorem tcall {f : Fn0} {σ : L2.St} {H : Hp} {Q : VK} {K : PySem.W.Frag} (h : tE K (fun δ S => (eas δ S).bind fun p => f p.1 p.2) σ H Q) : tA K eas σ H fun vs H1 => spF K f (vs ++ []) H1 Q E0 := by
  obtain ⟨Z, μ, S, δ, d, S', at_, h, p⟩ := h
  obtain ⟨x, h1, h⟩ := bindE h
  exact ⟨Z, μ, S, δ, x.1, x.2, at_, h1, fun μ1 H1 vs w1 l1 r1 => ⟨Z, μ1, x.2, x.1, d, S', w1, by rw [List.append_nil]; exact r1, h, p.le l1⟩⟩
variable {f : Fn0} {fa : Addr} {fd : FuncData} {ps : List Str} {k : Nat} {x : Str} {p : Pos}
theorem se_call (F : FnOk X.prog X.w X.K X.mg X.base CX0 k fa fd ps (spF X.K f)) (hr : Room k X.A) (hg : Gl X x) (hm : X.mg x = some (.ref fa)) (hk : PySem.W.keepIn X.K (.ref fa) = true) (hb : Binds X.K fd ps [])
    (ha : PA X (e :: es) (tA X.K eas)) (hdb : (x == ("__debug__" : Str)) = false) (he : starEach (e :: es) X.env = (false, eval e X.env) :: starEach es X.env) (hpl : (backTo pos (starEach es X.env)).any (·.1) = false) :
    PE X (.Call (.Name x p) (e :: es) [] pos) (tE X.K fun δ S => (eas δ S).bind fun p => f p.1 p.2) :=
  (pe_call F hr hg hm hk hb .nil pass0 ha hdb he hpl).wk fun σ H Q h => tcall h
theorem se_call0 (F : FnOk X.prog X.w X.K X.mg X.base CX0 k fa fd ps (spF X.K f)) (hr : Room k X.A) (hg : Gl X x) (hm : X.mg x = some (.ref fa)) (hk : PySem.W.keepIn X.K (.ref fa) = true) (hb : Binds X.K fd ps [])
    (hdb : (x == ("__debug__" : Str)) = false) :
    PE X (.Call (.Name x p) [] [] pos) (tE X.K fun δ S => (some (([] : List D), S)).bind fun p => f p.1 p.2) :=
  (pe_call0 F hr hg hm hk hb .nil pass0 hdb).wk fun σ H Q h => by
    obtain ⟨Z, μ, S, δ, d, S', at_, h, p⟩ := h
    exact ⟨Z, μ, S, [], d, S', at_.w, .nil, h, p⟩
def biT : Bi → Bool
  | .int => true | .tuple => true | .list => true | _ => false
theorem cr_bi (hc : X.calm = true) : ∀ b : Bi, ∃ v : Value, bootBuiltins (biN b) = some v ∧ CallR X v (rBi X.K b) ∧ ((∃ id, v = .builtin id) ∨ ∃ T, v = .type T)
  | .len => ⟨.builtin "len", by decide +kernel, call_len, .inl ⟨_, rfl⟩⟩
  | .abs => ⟨.builtin "abs", by decide +kernel, call_abs, .inl ⟨_, rfl⟩⟩
  | .int => ⟨.type "int", by decide +kernel, call_int1, .inr ⟨_, rfl⟩⟩
  | .max => ⟨.builtin "max", by decide +kernel, call_max2 hc, .inl ⟨_, rfl⟩⟩
  | .tuple => ⟨.type "tuple", by decide +kernel, call_tupF, .inr ⟨_, rfl⟩⟩
  | .list => ⟨.type "list", by decide +kernel, call_list_of, .inr ⟨_, rfl⟩⟩
  | .sum => ⟨.builtin "sum", by decide +kernel, cr_sum hc, .inl ⟨_, rfl⟩⟩
theorem biN_ne (b : Bi) : biN b ≠ "__name__" ∧ (biN b == ("__debug__" : Str)) = false := by
  cases b <;> decide +kernel
theorem se_bi (b : Bi) {m : Bool} (hc : X.calm = true) (hx : x = biN b) (hg : Gl X x) (hm : X.mg x = none) (ha : PA X (e :: es) (tA X.K eas)) (he : starEach (e :: es) X.env = (false, eval e X.env) :: starEach es X.env) (hpl : (backTo pos (starEach es X.env)).any (·.1) = false) :
    PE X (.Call (.Name x p) (e :: es) [] pos) (tE X.K fun δ S => (eas δ S).bind fun p => biv b m p.1 p.2) := by
  subst hx
  obtain ⟨v, hv, hr, hk⟩ := cr_bi hc b
  have h : PE X (.Call (.Name (biN b) p) (e :: es) [] pos) (tCB (rBi X.K b) (tA X.K eas)) := by
    rcases hk with ⟨id, rfl⟩ | ⟨T, rfl⟩
    · exact pe_callB hr hg hm hv ha (biN_ne b).1 (biN_ne b).2 he hpl
    · exact pe_callTy hr hg hm hv ha (biN_ne b).1 (biN_ne b).2 he hpl
  refine h.wk fun σ H Q ⟨Z, μ, S, δ, d, S', at_, h, p⟩ => ?_
  obtain ⟨y, h1, h⟩ := bindE h
  exact ⟨Z, μ, S, δ, y.1, y.2, at_, h1, fun μ1 H1 vs w1 l1 r1 => v_bi w1 r1 b h (p.le l1)⟩
end
end Ev

namespace Ev
open PySem PySem.Spec
open PyProof.Rows L2

/-! ### methods -/
section
variable {X : Cx} {a b e : Expr} {es : List Expr} {pos apos p1 p2 : Pos} {ea eb : DE → Sto → Option (D × Sto)} {eas : DE → Sto → Option (List D × Sto)}
theorem tyV_seq {K : PySem.W.Frag} {Z μ : List Addr} {S : Sto} {H : Hp} {x : D} {vx : V} (w : Wd K Z μ S H) (h : (seqv x S).isSome = true) (r : R K μ (fz Z μ S H) vx x) : tyV K "list" vx H := by
  obtain ⟨xs, h⟩ := Option.isSome_iff_exists.mp h
  obtain ⟨q, vs, rfl, e, _⟩ := seq_R w h r
  exact .inl ⟨rfl, vs, .inl e⟩
/-- what a method call looks like -/
structure MArgs (X : Cx) (o e : Expr) (es : List Expr) (name : Str) (apos cpos : Pos) : Prop where
  base : attributeBase o name X.env (eval o X.env) = eval o X.env
  few : ((backTo cpos (starEach (e :: es) X.env)).all (fun x => !x.1) && (backToKw cpos (keywordEach [] X.env)).all (fun x => x.1.isSome) && decide ((e :: es).length + ([] : List Keyword).length + (if ([] : List Keyword).isEmpty then 0 else 1) < 30)) = true
  line : (apos.endLine == cpos.line) = true
  star : starEach (e :: es) X.env = (false, eval e X.env) :: starEach es X.env
  plain : (backTo cpos (starEach es X.env)).any (·.1) = false
def mtN : Mt → Str
  | .append => "append"
theorem se_meth (t : Mt) (m : MArgs X a e es (mtN t) apos pos) (ha : PE X a (tE X.K ea)) (hr : PA X (e :: es) (tA X.K eas)) :
    PE X (.Call (.Attribute a (mtN t) apos) (e :: es) [] pos) (tE X.K fun δ S => (ea δ S).bind fun p => if (seqv p.1 p.2).isSome then (eas δ p.2).bind fun q => mtv t p.1 q.1 q.2 else none) := by
  have h : PE X (.Call (.Attribute a (mtN t) apos) (e :: es) [] pos) (tBM X.K "list" (rMt X.K t) (tE X.K ea) (tA X.K eas)) := by
    cases t with
    | append => exact pe_bm PySem.F.plainAttrs_list PySem.F.slot_list_append PySem.F.type_list_append mt_append ha hr m.base m.few m.line m.star m.plain
  refine h.wk fun σ H Q ⟨Z, μ, S, δ, d, S', at_, h, p⟩ => ?_
  obtain ⟨x, h1, h⟩ := bindE h
  split at h
  · rename_i hs
    obtain ⟨y, h2, h⟩ := bindE h
    exact ⟨Z, μ, S, δ, x.1, x.2, at_, h1, fun μ1 H1 v w1 l1 r1 => ⟨tyV_seq w1 hs r1, Z, μ1, x.2, δ, y.1, y.2, at_.go w1 l1, h2, fun μ2 H2 vs w2 l2 r2 => v_mt w2 (r1.le l2) r2 t h (p.le (l1.trans l2))⟩⟩
  · cases h
theorem firstIx_mem {x : D} : ∀ {ds : List D} {j : Nat}, firstIx x ds = some j → j < ds.length
  | [], j, h => by cases h
  | y :: r, j, h => by
    unfold firstIx at h
    split at h
    · cases h
      exact Nat.succ_pos _
    · obtain ⟨i, h0, rfl⟩ := mapE h
      exact Nat.succ_lt_succ (firstIx_mem h0)
theorem se_idx (hu : X.A.units + 65 < cLine) (m : MArgs X a b [] "index" apos pos) (ha : PE X a (tE X.K ea)) (hb : PE X b (tE X.K eb)) :
    PE X (.Call (.Attribute a "index" apos) [b] [] pos) (tE X.K fun δ S => (ea δ S).bind fun p => if rcvT p.1 p.2 then (eb δ p.2).bind fun q => (idxv p.1 q.1 q.2).map fun d => (d, q.2) else none) := by
  have hr : PA X [b] (tA X.K _) := sa_cons hb sa_nil m.star
  have h := pe_bmG PySem.F.slot_list_index PySem.F.type_list_index (mt_indexD hu) PySem.F.slot_tuple_index PySem.F.type_tuple_index (mt_indexT hu) ha hr m.base m.few m.line m.star m.plain
  refine h.wk fun σ H Q ⟨Z, μ, S, δ, d, S', at_, h, p⟩ => ?_
  obtain ⟨x, h1, h⟩ := bindE h
  split at h
  · rename_i hs
    obtain ⟨y, h2, h⟩ := bindE h
    obtain ⟨z, h3, h⟩ := mapE h
    cases h
    have args : ∀ (μ1 : List Addr) (H1 : Hp) (v : V) (w1 : Wd X.K Z μ1 x.2 H1) (l1 : Le Z μ S H μ1 x.2 H1) (r1 : R X.K μ1 (fz Z μ1 x.2 H1) v x.1) (rr : V → List V → Hp → VK → Prop),
        (∀ (μ2 : List Addr) (H2 : Hp) (u : V), Wd X.K Z μ2 y.2 H2 → Le Z μ1 x.2 H1 μ2 y.2 H2 → R X.K μ2 (fz Z μ2 y.2 H2) u y.1 → R X.K μ2 (fz Z μ2 y.2 H2) v x.1 → rr v [u] H2 Q) → tA X.K (fun δ S => (eb δ S).bind fun p => (some (([] : List D), p.2)).map fun q => (p.1 :: q.1, q.2)) σ H1 fun xs H2 => rr v xs H2 Q := fun μ1 H1 v w1 l1 r1 rr f =>
      ⟨Z, μ1, x.2, δ, [y.1], y.2, at_.go w1 l1, by simp only [h2, Option.bind_some, Option.map_some], fun μ2 H2 vs w2 l2 r2 => by
        obtain ⟨u, rfl, q⟩ := r2.one
        exact f μ2 H2 u w2 l2 q (r1.le l2)⟩
    refine ⟨Z, μ, S, δ, x.1, x.2, at_, h1, fun μ1 H1 v w1 l1 r1 => ?_⟩
    unfold rcvT at hs
    split at hs
    · rename_i ys ex
      refine .inr ⟨?_, args μ1 H1 v w1 l1 r1 _ fun μ2 H2 u w2 l2 q q' => ?_⟩
      · rw [ex] at r1
        cases r1 with
        | tup e z r => exact ⟨_, _, rfl, e.same (fz_same Z μ1 x.2 H1)⟩
      · rcases v_idx w2 q' q h3 (p.le (l1.trans l2)) with ⟨⟨ys, q⟩, _⟩ | ⟨_, q⟩
        · rw [ex] at q
          cases q
        · exact q
    · rename_i nt
      refine .inl ⟨tyV_seq w1 hs r1, args μ1 H1 v w1 l1 r1 _ fun μ2 H2 u w2 l2 q q' => ?_⟩
      rcases v_idx w2 q' q h3 (p.le (l1.trans l2)) with ⟨_, q⟩ | ⟨⟨ys, q⟩, _⟩
      · exact q
      · exact absurd q (nt ys)
  · cases h

/-! ### isinstance -/
def tyN : Ty → String
  | .tuple => "tuple" | .str => "str" | .int => "int" | .bool => "bool" | .list => "list" | .dict => "dict"
theorem boot_ty (t : Ty) : bootBuiltins (Str.ofString (tyN t)) = some (.type (tyN t)) ∧ Str.ofString (tyN t) ≠ "__name__" ∧ (Str.ofString (tyN t) == ("__debug__" : Str)) = false := by
  cases t <;> decide +kernel
theorem R.ty {K : PySem.W.Frag} {μ : List Addr} {F H : Hp} (s : Same F H) {v : V} {x : D} (r : R K μ F v x) {t : Ty} {k : Bool} (h : isv t x = some k) : ∃ n, TyX K H v (.type n) ∧ kitB n (tyN t) = some k := by
  cases r with
  | non => cases h; exact ⟨"NoneType", .base .non, by cases t <;> decide +kernel⟩
  | bl b => cases h; exact ⟨"bool", .base (.bl b), by cases t <;> decide +kernel⟩
  | int i => cases h; exact ⟨"int", .base (.int i), by cases t <;> decide +kernel⟩
  | str x => cases h; exact ⟨"str", .base (.str x), by cases t <;> decide +kernel⟩
  | lst e z r =>
    cases h
    refine ⟨"list", ?_, by cases t <;> decide +kernel⟩
    rcases e with e | ⟨o, e⟩
    · exact .base (.lst (s _ _ e))
    · exact .base (.frz (s _ _ e))
  | tup e z r =>
    cases h
    refine ⟨"tuple", ?_, by cases t <;> decide +kernel⟩
    rcases e with ⟨o, e, _⟩ | ⟨o, us, n, e, c, _⟩
    · exact .fTuple (s _ _ e)
    · exact .kTuple e c
  | frn e z r => cases h
  | rf e => cases h
theorem se_isi (t : Ty) {k1 : Nat} (hg : Gl X "isinstance") (hm : X.mg "isinstance" = none) (hg2 : Gl X (Str.ofString (tyN t))) (hm2 : X.mg (Str.ofString (tyN t)) = none) (ha : PE X a (tE X.K ea))
    (h1 : starEach [a, .Name (Str.ofString (tyN t)) p2] X.env = (false, eval a X.env) :: starEach [.Name (Str.ofString (tyN t)) p2] X.env) :
    PE X (.Call (.Name "isinstance" p1) [a, .Name (Str.ofString (tyN t)) p2] [] pos) (tE X.K fun δ S => (ea δ S).bind fun p => (isv t p.1).map fun k => (.bool k, p.2)) := by
  obtain ⟨b1, b2, b3⟩ := boot_ty t
  have hn : PE X (.Name (Str.ofString (tyN t)) p2) (tC (.ty (tyN t))) := pe_bltn hg2 hm2 b1 rfl b2 b3
  have hA : PA X [a, .Name (Str.ofString (tyN t)) p2] (tCons (tE X.K ea) (tCons (tC (.ty (tyN t))) tNil)) := pa_cons ha (pa_cons hn pa_nil) h1
  refine (pe_callB call_isi hg hm (by decide +kernel) hA (by decide +kernel) (by decide +kernel) h1 (by rfl)).wk fun σ H Q ⟨Z, μ, S, δ, d, S', at_, h, p⟩ => ?_
  obtain ⟨x, h1, h⟩ := bindE h
  obtain ⟨k, h2, h⟩ := mapE h
  cases h
  refine ⟨Z, μ, S, δ, x.1, x.2, at_, h1, fun μ1 H1 v w1 l1 r1 => ?_⟩
  obtain ⟨n, ty, kb⟩ := r1.ty (fz_same Z μ1 x.2 H1) h2
  exact ⟨v, .ty (tyN t), .type n, .type (tyN t), _, rfl, .ty _, ty, kit_ty kb, (p.le l1).here w1 (.bl _)⟩
/-- list(range(..)), tuple(range(..)) -/
theorem rg_RA {K : PySem.W.Frag} {μ : List Addr} {F : Hp} (lo : Int) : ∀ n : Nat, RA K μ F ((List.range n).map fun i => V.int (lo + (i : Nat))) (rngD lo n) := fun n => by
  unfold rngD
  generalize List.range n = l
  induction l with
  | nil => exact .nil
  | cons i l ih => exact .cons (.int _) ih
theorem b62_iff {i : Int} : b62 i = true ↔ -(2 ^ 62) ≤ i ∧ i < 2 ^ 62 := by
  unfold b62
  rw [Bool.and_eq_true, decide_eq_true_iff, decide_eq_true_iff]
theorem rngv_1 {i : D} {lo : Int} {n : Nat} (h : rngv [i] = some (lo, n)) : ∃ j : Int, i = .int j ∧ (-(2 ^ 62) ≤ j ∧ j < 2 ^ 62) ∧ lo = 0 ∧ n = j.toNat := by
  unfold rngv at h
  split at h
  · rename_i j e
    split at h
    · rename_i hb
      cases e
      cases h
      exact ⟨j, rfl, b62_iff.mp hb, rfl, rfl⟩
    · cases h
  · rename_i e; cases e
  · cases h
theorem rngv_2 {x y : D} {lo : Int} {n : Nat} (h : rngv [x, y] = some (lo, n)) : ∃ i j : Int, x = .int i ∧ y = .int j ∧ (-(2 ^ 62) ≤ i ∧ i < 2 ^ 62) ∧ (-(2 ^ 62) ≤ j ∧ j < 2 ^ 62) ∧ lo = i ∧ n = (j - i).toNat := by
  unfold rngv at h
  split at h
  · rename_i j e; cases e
  · rename_i i j e
    split at h
    · rename_i hb
      cases e
      cases h
      rw [Bool.and_eq_true, b62_iff, b62_iff] at hb
      exact ⟨_, j, rfl, rfl, hb.1, hb.2, rfl, rfl⟩
    · cases h
  · cases h
/-- the reading of a range as an argument -/
def tRg (K : PySem.W.Frag) (er : DE → Sto → Option ((Int × Nat) × Sto)) : L2.St → Hp → (Int → Int → Hp → Prop) → Prop := fun σ H Q => ∃ Z μ S δ lo n S', At K Z μ S H σ δ ∧ er δ S = some ((lo, n), S') ∧
  ∀ (μ' : List Addr) (H' : Hp) (i j : Int), Wd K Z μ' S' H' → Le Z μ S H μ' S' H' → (-(2 ^ 62) ≤ i ∧ i < 2 ^ 62) → (-(2 ^ 62) ≤ j ∧ j < 2 ^ 62) → i = lo → n = (j - i).toNat → Q i j H'
theorem _root_.L2.PRg.wk {X : Cx} {e : Expr} {t t' : L2.St → Hp → (Int → Int → Hp → Prop) → Prop} (h : PRg X e t) (w : ∀ σ H Q, t' σ H Q → t σ H Q) : PRg X e t' := fun pins s σ H Q I q => h pins s σ H Q I (w σ H Q q)
def evRg (eas : DE → Sto → Option (List D × Sto)) : DE → Sto → Option ((Int × Nat) × Sto) := fun δ S => (eas δ S).bind fun p => (rngv p.1).map fun r => (r, p.2)
theorem sr_1 (hg : Gl X "range") (hm : X.mg "range" = none) (ha : PE X a (tE X.K ea)) (h1 : starEach [a] X.env = (false, eval a X.env) :: starEach [] X.env) :
    PRg X (.Call (.Name "range" p1) [a] [] pos) (tRg X.K (evRg fun δ S => (ea δ S).bind fun p => (some (([] : List D), p.2)).map fun q => (p.1 :: q.1, q.2))) := by
  refine (prg_1 hg hm ha h1).wk fun σ H Q ⟨Z, μ, S, δ, lo, n, S', at_, h, p⟩ => ?_
  unfold evRg at h
  obtain ⟨x, g1, h⟩ := bindE h
  obtain ⟨y, g2, h3⟩ := bindE g1
  cases h3
  obtain ⟨r, h2, h⟩ := mapE h
  cases h
  obtain ⟨j, e, hb, rfl, rfl⟩ := rngv_1 h2
  refine ⟨Z, μ, S, δ, y.1, y.2, at_, g2, fun μ1 H1 v w1 l1 r1 => ?_⟩
  rw [e] at r1
  cases r1
  exact ⟨j, rfl, p μ1 H1 0 j w1 l1 (by omega) hb rfl (by rw [Int.sub_zero])⟩
theorem sr_2 (hg : Gl X "range") (hm : X.mg "range" = none) (ha : PE X a (tE X.K ea)) (hb : PE X b (tE X.K eb)) (h1 : starEach [a, b] X.env = (false, eval a X.env) :: starEach [b] X.env) (h2 : starEach [b] X.env = (false, eval b X.env) :: starEach [] X.env) :
    PRg X (.Call (.Name "range" p1) [a, b] [] pos) (tRg X.K (evRg fun δ S => (ea δ S).bind fun p => ((eb δ p.2).bind fun q => (some (([] : List D), q.2)).map fun r => (q.1 :: r.1, r.2)).map fun q => (p.1 :: q.1, q.2))) := by
  refine (prg_2 hg hm ha hb h1 h2 (by rw [h2]; rfl)).wk fun σ H Q ⟨Z, μ, S, δ, lo, n, S', at_, h, p⟩ => ?_
  unfold evRg at h
  obtain ⟨x, g1, h⟩ := bindE h
  obtain ⟨y, g2, g3⟩ := bindE g1
  obtain ⟨z, g4, h4⟩ := mapE g3
  obtain ⟨u, g5, h5⟩ := bindE g4
  cases h5
  cases h4
  obtain ⟨r, h2, h⟩ := mapE h
  cases h
  obtain ⟨i, j, e1, e2, hi, hj, el, en⟩ := rngv_2 h2
  refine ⟨Z, μ, S, δ, y.1, y.2, at_, g2, fun μ1 H1 v w1 l1 r1 => ⟨Z, μ1, y.2, δ, u.1, u.2, at_.go w1 l1, g5, fun μ2 H2 v2 w2 l2 r2 => ?_⟩⟩
  rw [e1] at r1
  rw [e2] at r2
  cases r1
  cases r2
  exact ⟨i, j, rfl, rfl, p μ2 H2 i j w2 (l1.trans l2) hi hj el.symm en⟩
theorem se_rgl {er : DE → Sto → Option (List D × Sto)} {m : Bool} (hc : X.calm = true) (hg : Gl X "list") (hm : X.mg "list" = none) (he : PRg X e (tRg X.K (evRg er))) (h1 : starEach [e] X.env = (false, eval e X.env) :: starEach [] X.env) :
    PE X (.Call (.Name "list" p1) [e] [] pos) (tE X.K fun δ S => (er δ S).bind fun p => (rngv p.1).bind fun r => if r.2 ≤ 2 ^ 24 then some (mkl m (rngD r.1 r.2) p.2) else none) := by
  refine (pe_listRg hc hg hm he h1).wk fun σ H Q ⟨Z, μ, S, δ, d, S', at_, h, p⟩ => ?_
  obtain ⟨x, h1, h⟩ := bindE h
  obtain ⟨r, h2, h⟩ := bindE h
  split at h
  · rename_i hz
    have e3 := Option.some.inj h
    have e4 : (mkl m (rngD r.1 r.2) x.2).1 = d := congrArg Prod.fst e3
    have e5 : (mkl m (rngD r.1 r.2) x.2).2 = S' := congrArg Prod.snd e3
    subst e4 e5
    refine ⟨Z, μ, S, δ, r.1, r.2, x.2, at_, by simp only [evRg, h1, Option.bind_some, h2, Option.map_some], fun μ1 H1 i j w1 l1 hi hj e1 e2 => ⟨⟨hi.1, hi.2, hj.1, hj.2, by rw [← e2]; exact hz⟩, ?_⟩⟩
    have q := (p.le l1).lst w1 (vs := rgV i j) (by rw [rgV_length, ← e2, sizeLine_eq]; omega) (by rw [← e1, e2]; exact rg_RA i _)
    exact q
  · cases h
end
end Ev

namespace Ev
open PySem PySem.Spec
open PyProof.Rows L2

/-! ### what is walked -/
/-- J walks the items xs, wherever what stood still stands -/
def Itm (K : PySem.W.Frag) (μ : List Addr) (F : Hp) (xs : List D) (J : L2.It) : Prop :=
  ∀ (Z2 μ2 : List Addr) (S2 : Sto) (H2 : Hp), Wd K Z2 μ2 S2 H2 → Grow μ μ2 → Same F (fz Z2 μ2 S2 H2) →
    (∀ (i : Nat) (x : D), xs[i]? = some x → J.go i H2 ∧ ∀ (v : V) (H3 : Hp), J.yld i H2 v H3 → Wd K Z2 μ2 S2 H3 ∧ Le Z2 μ2 S2 H2 μ2 S2 H3 ∧ R K μ2 (fz Z2 μ2 S2 H3) v x) ∧ J.stop xs.length H2
def tI (K : PySem.W.Frag) (ev : DE → Sto → Option ((List D × Bool) × Sto)) : TI := fun σ H Q => ∃ Z μ S δ xs ok S', At K Z μ S H σ δ ∧ ev δ S = some ((xs, ok), S') ∧
  ∀ (μ' : List Addr) (H' : Hp) (J : L2.It), Wd K Z μ' S' H' → Le Z μ S H μ' S' H' → Itm K μ' (fz Z μ' S' H') xs J → (ok = true → xs.length ≤ sizeLine) → Q J H'
section
variable {K : PySem.W.Frag} {Z μ : List Addr} {S : Sto} {H F : Hp} {a : Addr} {vs : List V} {xs : List D}
theorem itm_list (h : SqL K F a vs) (r : RA K μ F vs xs) : Itm K μ F xs (Itl K a) := fun Z2 μ2 S2 H2 w g s => by
  have h2 : SqL K H2 a vs := (fz_same Z2 μ2 S2 H2).seq (s.seq h)
  refine ⟨fun i x e => ?_, vs, h2, by rw [r.len]; exact Nat.le_refl _⟩
  obtain ⟨v, ev, q⟩ := r.get' e
  refine ⟨⟨vs, v, h2, ev⟩, fun v' H3 y => ?_⟩
  obtain ⟨rfl, y⟩ := y
  have q2 := y vs h2
  rw [ev] at q2
  cases q2
  exact ⟨w, .refl, q.mono g s⟩
theorem itm_tup (h : SqT K F a vs) (r : RA K μ F vs xs) : Itm K μ F xs (Itt K a) := fun Z2 μ2 S2 H2 w g s => by
  have h2 : SqT K H2 a vs := sameT (fz_same Z2 μ2 S2 H2) (sameT s h)
  refine ⟨fun i x e => ?_, vs, h2, by rw [r.len]; exact Nat.le_refl _⟩
  obtain ⟨v, ev, q⟩ := r.get' e
  refine ⟨⟨vs, v, h2, ev⟩, fun v' H3 y => ?_⟩
  obtain ⟨rfl, y⟩ := y
  have q2 := y vs h2
  rw [ev] at q2
  cases q2
  exact ⟨w, .refl, q.mono g s⟩
theorem itm_str (z : Str) : Itm K μ F (strD z) (Its z) := fun Z2 μ2 S2 H2 w g s => by
  have hl : (strD z).length = z.cps.size := by unfold strD; simp
  refine ⟨fun i x e => ?_, by show z.cps.size ≤ _; rw [hl]; exact Nat.le_refl _⟩
  have hi : i < z.cps.size := by rw [← hl]; exact (List.getElem?_eq_some_iff.mp e).1
  refine ⟨hi, fun v H3 y => ?_⟩
  obtain ⟨rfl, c, hc, rfl⟩ := y
  unfold strD at e
  rw [List.getElem?_map, Array.getElem?_toList, hc] at e
  cases e
  exact ⟨w, .refl, .str _⟩
theorem itm_rng (lo : Int) (n : Nat) : Itm K μ F (rngD lo n) (Itr lo n) := fun Z2 μ2 S2 H2 w g s => by
  have hl : (rngD lo n).length = n := by unfold rngD; simp
  refine ⟨fun i x e => ?_, by show n ≤ _; rw [hl]; exact Nat.le_refl _⟩
  have hi : i < n := by rw [← hl]; exact (List.getElem?_eq_some_iff.mp e).1
  refine ⟨hi, fun v H3 y => ?_⟩
  obtain ⟨rfl, rfl⟩ := y
  unfold rngD at e
  rw [List.getElem?_map, List.getElem?_range hi] at e
  cases e
  exact ⟨w, .refl, .int _⟩
theorem enumD_len : ∀ (k : Nat) (xs : List D), (enumD k xs).length = xs.length
  | _, [] => rfl
  | k, x :: xs => by unfold enumD; rw [List.length_cons, List.length_cons, enumD_len (k + 1) xs]
theorem enumD_get : ∀ (k : Nat) (xs : List D) (i : Nat), (enumD k xs)[i]? = xs[i]?.map fun x => .tuple [.int ((k + i : Nat) : Int), x]
  | _, [], i => by simp [enumD]
  | k, x :: xs, 0 => by simp [enumD]
  | k, x :: xs, i + 1 => by
    unfold enumD
    rw [List.getElem?_cons_succ, List.getElem?_cons_succ, enumD_get (k + 1) xs i]
    congr 1
    funext y
    rw [show k + 1 + i = k + (i + 1) by omega]
theorem sameB {b : Bool} {F F' : Hp} (s : Same F F') (h : SqB b K F a vs) : SqB b K F' a vs := by
  cases b with
  | true => exact sameT s h
  | false => exact s.seq h
theorem itm_enm {b : Bool} (h : SqB b K F a vs) (r : RA K μ F vs xs) : Itm K μ F (enumD 0 xs) (Enm b K a) := fun Z2 μ2 S2 H2 w g s => by
  have h2 : SqB b K H2 a vs := sameB (fz_same Z2 μ2 S2 H2) (sameB s h)
  refine ⟨fun i x e => ?_, vs, h2, by rw [enumD_len, r.len]⟩
  rw [enumD_get] at e
  obtain ⟨y, e0, rfl⟩ := mapE e
  obtain ⟨v, ev, q⟩ := r.get' e0
  refine ⟨⟨vs, h2, (List.getElem?_eq_some_iff.mp ev).1⟩, fun v' H3 yl => ?_⟩
  obtain ⟨T, o, u, rfl, nT, hd, rfl, yl⟩ := yl
  have q2 := yl vs h2
  rw [ev] at q2
  cases q2
  obtain ⟨w1, s1, e1⟩ := w.lay nT (.frz o (.tup [.int (i : Nat), v]))
  refine ⟨w1, ⟨fun _ _ z => z, s1, fun b hb => upd_ne fun z => (w.hz b hb).1 (z ▸ nT)⟩, .tup (.inl ⟨o, e1, hd⟩) (by show 2 ≤ sizeLine; decide) ?_⟩
  rw [Nat.zero_add]
  exact .cons (.int _) (.cons (q.mono g (s.trans s1)) .nil)
end
section
variable {X : Cx} {e tg : Expr} {ee : DE → Sto → Option (D × Sto)} {eas : DE → Sto → Option (List D × Sto)} {p pos : Pos}
/-- a list, a tuple, a text -/
def iOver (K : PySem.W.Frag) (te : TE) : TI := fun σ H R => te σ H fun v H1 => (∃ a vs, v = .ref a ∧ SqL K H1 a vs ∧ R (Itl K a) H1) ∨ (∃ a vs, v = .ref a ∧ SqT K H1 a vs ∧ R (Itt K a) H1) ∨ ∃ z, v = .str z ∧ R (Its z) H1
theorem one_it {pins : List (Addr × Obj)} {σ : L2.St} {H : Hp} {s : Shared} {R : L2.It → Hp → Prop} {J : L2.It} {o : Obj} {tn : Nat → Heap → Prop} (I : L2.Inv X pins σ H s) (fo : o.isFreed = false) (T : Turn X.prog X.w X.K tg J [s.heap.objs.size] s.heap.objs.size tn) (t0 : ∀ h : Heap, h.get? s.heap.objs.size = some o → tn 0 h) (q : R J H) :
    PIE X pins σ tg R (.ref s.heap.objs.size) { s with heap := s.heap.push o } := by
  refine ⟨s.heap.objs.size, [s.heap.objs.size], tn, J, H, rfl, I.kept (t' := s.toks) fun b u e => Heap.get?_push_of_some _ e, T, t0 _ (Heap.get?_push_size _ fo), fun b hb => ?_, q⟩
  have hb' : b = s.heap.objs.size := by simpa using hb
  subst hb'
  exact I.fpOk (Nat.le_refl _) (I.hok.fresh (Nat.le_refl _))
theorem pi_over {te : TE} (he : PE X e te) : PI X tg e (iOver X.K te) := by
  have hs : PI X tg e (iStr te) := pi_str he
  refine ⟨fun pins s σ H R I h => ?_⟩
  have step : ∀ (v : Value) (s1 : Shared), EP X pins σ (fun v H1 => (∃ a vs, v = .ref a ∧ SqL X.K H1 a vs ∧ R (Itl X.K a) H1) ∨ (∃ a vs, v = .ref a ∧ SqT X.K H1 a vs ∧ R (Itt X.K a) H1) ∨ ∃ z, v = .str z ∧ R (Its z) H1) v s1 →
      wpAny (model X.prog X.w) X.A (pyIter v) (PIE X pins σ tg R) X.xe s1 := fun v s1 ⟨x, H1, I1, r1, q1⟩ => by
    rcases q1 with ⟨a, vs, rfl, hl, q⟩ | ⟨a, vs, rfl, ht, q⟩ | ⟨z, rfl, q⟩
    · cases r1
      obtain ⟨us, rv, pl, _⟩ := I1.list hl
      exact wpAny_pyIter_list pl.isList (one_it I1 rfl (turn_list a _) (fun h e => ⟨_, e, rfl, rfl⟩) q)
    · cases r1
      obtain ⟨us, rv, pl, _⟩ := I1.tuple ht
      exact wpAny_pyIter_tuple (show s1.heap.IsTuple a us.toArray from pl) (one_it I1 rfl (turn_tuple a _) (fun h e => ⟨_, e, rfl, rfl⟩) q)
    · obtain ⟨t, rfl⟩ := r1
      cases ha : z.cps.all (· < 128)
      · exact wpAny_pyIter_wide ha (one_it I1 rfl (turn_str _ z t "str_iterator" (.inr rfl)) (fun h e => ⟨_, e, rfl, rfl⟩) q)
      · exact wpAny_pyIter_ascii ha (one_it I1 rfl (turn_str _ z t "str_ascii_iterator" (.inl rfl)) (fun h e => ⟨_, e, rfl, rfl⟩) q)
  exact thn (he.run pins s σ H _ I h) step
theorem si_over (he : PE X e (tE X.K ee)) : PI X tg e (tI X.K fun δ S => (ee δ S).bind fun p => match p.1 with
    | .str s => some ((strD s, decide (s.cps.size ≤ sizeLine)), p.2)
    | .list xs => some ((xs, true), p.2)
    | .tuple xs => some ((xs, true), p.2)
    | .dict [(.dict [], .list xs)] => some ((xs, true), p.2)
    | _ => none) := by
  refine (pi_over he).wk fun σ H Q ⟨Z, μ, S, δ, xs, ok, S', at_, h, p⟩ => ?_
  obtain ⟨x, h1, h⟩ := bindE h
  refine ⟨Z, μ, S, δ, x.1, x.2, at_, h1, fun μ1 H1 v w1 l1 r1 => ?_⟩
  split at h
  · rename_i s ex
    cases h
    rw [ex] at r1
    cases r1
    refine .inr (.inr ⟨s, rfl, p μ1 H1 _ w1 l1 (itm_str s) fun hz => ?_⟩)
    have q : s.cps.size ≤ sizeLine := of_decide_eq_true hz
    unfold strD
    simpa using q
  · rename_i ys ex
    cases h
    rw [ex] at r1
    cases r1 with
    | lst e z r => exact .inl ⟨_, _, rfl, .inl (sameR (fz_same Z μ1 _ H1) e), p μ1 H1 _ w1 l1 (itm_list (.inl e) r) fun _ => by rw [← r.len]; exact z⟩
  · rename_i ys ex
    cases h
    rw [ex] at r1
    cases r1 with
    | tup e z r => exact .inr (.inl ⟨_, _, rfl, sameT (fz_same Z μ1 _ H1) e.sq, p μ1 H1 _ w1 l1 (itm_tup e.sq r) fun _ => by rw [← r.len]; exact z⟩)
  · rename_i ys ex
    cases h
    rw [ex] at r1
    cases r1 with
    | frn e z r => exact .inl ⟨_, _, rfl, (fz_same Z μ1 _ H1).seq e, p μ1 H1 _ w1 l1 (itm_list e r) fun _ => by rw [← r.len]; exact z⟩
  · cases h
variable {a b : Expr} {ea eb : DE → Sto → Option (D × Sto)}
theorem RA.two' {K : PySem.W.Frag} {μ : List Addr} {F : Hp} {vs : List V} {d x : D} (r : RA K μ F vs [d, x]) : ∃ v u, vs = [v, u] ∧ R K μ F v d ∧ R K μ F u x := r.two
theorem si_rng1 (hg : Gl X "range") (hm : X.mg "range" = none) (ha : PA X [a] (tA X.K eas)) (hs : starEach [a] X.env = [(false, eval a X.env)]) (h1 : ∀ δ S ds S', eas δ S = some (ds, S') → ds.length = 1) :
    PI X tg (.Call (.Name "range" p) [a] [] pos) (tI X.K fun δ S => (eas δ S).bind fun p => (rngv p.1).map fun r => ((rngD r.1 r.2, decide (r.2 ≤ sizeLine)), p.2)) := by
  refine (pi_range1 hg hm ha hs).wk fun σ H Q ⟨Z, μ, S, δ, xs, ok, S', at_, h, p⟩ => ?_
  obtain ⟨x, g1, h⟩ := bindE h
  obtain ⟨⟨lo, n⟩, g2, h⟩ := mapE h
  cases h
  refine ⟨Z, μ, S, δ, x.1, x.2, at_, g1, fun μ1 H1 vs w1 l1 r1 => ?_⟩
  have hl := h1 _ _ _ _ g1
  obtain ⟨d, hd⟩ : ∃ d, x.1 = [d] := by
    match x.1, hl with
    | [d], _ => exact ⟨d, rfl⟩
  rw [hd] at g2 r1
  obtain ⟨j, rfl, hb, rfl, rfl⟩ := rngv_1 g2
  obtain ⟨v, rfl, q⟩ := r1.one
  cases q
  exact ⟨j, rfl, hb.1, hb.2, p μ1 H1 _ w1 l1 (itm_rng _ _) fun hz => by have q := of_decide_eq_true hz; unfold rngD; simpa using q⟩
theorem si_rng2 (hg : Gl X "range") (hm : X.mg "range" = none) (ha : PA X [a, b] (tA X.K eas)) (hs : starEach [a, b] X.env = [(false, eval a X.env), (false, eval b X.env)]) (hs2 : starEach [b] X.env = [(false, eval b X.env)]) (h1 : ∀ δ S ds S', eas δ S = some (ds, S') → ds.length = 2) :
    PI X tg (.Call (.Name "range" p) [a, b] [] pos) (tI X.K fun δ S => (eas δ S).bind fun p => (rngv p.1).map fun r => ((rngD r.1 r.2, decide (r.2 ≤ sizeLine)), p.2)) := by
  refine (pi_range2 hg hm ha hs hs2).wk fun σ H Q ⟨Z, μ, S, δ, xs, ok, S', at_, h, p⟩ => ?_
  obtain ⟨x, g1, h⟩ := bindE h
  obtain ⟨⟨lo, n⟩, g2, h⟩ := mapE h
  cases h
  refine ⟨Z, μ, S, δ, x.1, x.2, at_, g1, fun μ1 H1 vs w1 l1 r1 => ?_⟩
  have hl := h1 _ _ _ _ g1
  obtain ⟨d, e, hd⟩ : ∃ d e, x.1 = [d, e] := by
    match x.1, hl with
    | [d, e], _ => exact ⟨d, e, rfl⟩
  rw [hd] at g2 r1
  obtain ⟨i, j, rfl, rfl, hi, hj, el, en⟩ := rngv_2 g2
  obtain ⟨v, u, rfl, q, q'⟩ := r1.two
  cases q
  cases q'
  subst el en
  refine ⟨_, j, rfl, ⟨hi.1, hi.2, hj.1, hj.2⟩, ?_⟩
  exact p μ1 H1 _ w1 l1 (itm_rng _ _) fun hz => by have q := of_decide_eq_true hz; unfold rngD; simpa using q
theorem si_enm {tpos : Pos} {elts : List Expr} {kk : Nat} (hg : Gl X "enumerate") (hm : X.mg "enumerate" = none) (ha : PE X a (tE X.K ea)) (hs : starEach [a] X.env = (false, eval a X.env) :: starEach [] X.env) :
    PI X (.Tuple elts kk tpos) (.Call (.Name "enumerate" p) [a] [] pos) (tI X.K fun δ S => (ea δ S).bind fun p => match p.1 with
      | .list xs => some ((enumD 0 xs, true), p.2)
      | .tuple xs => some ((enumD 0 xs, true), p.2)
      | _ => none) := by
  have hA : PA X [a] (tA X.K _) := sa_cons ha sa_nil hs
  refine (pi_enm hg hm hA hs).wk fun σ H Q ⟨Z, μ, S, δ, xs, ok, S', at_, h, p⟩ => ?_
  obtain ⟨x, g1, h⟩ := bindE h
  refine ⟨Z, μ, S, δ, [x.1], x.2, at_, by simp only [g1, Option.bind_some, Option.map_some], fun μ1 H1 vs w1 l1 r1 => ?_⟩
  obtain ⟨v, rfl, q1⟩ := r1.one
  split at h
  · rename_i ys ex
    cases h
    rw [ex] at q1
    cases q1 with
    | lst e z r => exact ⟨false, _, _, rfl, .inl (sameR (fz_same Z μ1 _ H1) e), p μ1 H1 _ w1 l1 (itm_enm (b := false) (.inl e) r) fun _ => by rw [enumD_len, ← r.len]; exact z⟩
  · rename_i ys ex
    cases h
    rw [ex] at q1
    cases q1 with
    | tup e z r => exact ⟨true, _, _, rfl, sameT (fz_same Z μ1 _ H1) e.sq, p μ1 H1 _ w1 l1 (itm_enm (b := true) e.sq r) fun _ => by rw [enumD_len, ← r.len]; exact z⟩
  · cases h
end

/-! ### targets -/
mutual
def slotsOf : Tg → List Nat
  | .nm i => [i]
  | .tup ts => slotsOfs ts
def slotsOfs : Tgs → List Nat
  | .nil => []
  | .cons t r => slotsOf t ++ slotsOfs r
end
/-- forgetting the slots vs, one cannot tell σ' from σ -/
def SameBut (vs : List Nat) (σ σ' : L2.St) : Prop := ∀ own : List Nat, (∀ i ∈ vs, i ∈ own) → wipe σ' own = wipe σ own
theorem wipe_set {σ : L2.St} {i : Nat} {x : Option V} : ∀ {own : List Nat}, i ∈ own → wipe (σ.set i x) own = wipe σ own
  | v :: vs, h => by
    by_cases e : i ∈ vs
    · show (wipe (σ.set i x) vs).set v none = (wipe σ vs).set v none
      rw [wipe_set e]
    · have hv : i = v := (List.mem_cons.mp h).resolve_right e
      subst hv
      show (wipe (σ.set i x) vs).set i none = (wipe σ vs).set i none
      have c : ∀ {τ : L2.St} {y : Option V} {us : List Nat}, i ∉ us → wipe (τ.set i y) us = (wipe τ us).set i y := fun {τ y us} => by
        induction us with
        | nil => intro _; rfl
        | cons u us ih =>
          intro hu
          show (wipe (τ.set i y) us).set u none = ((wipe τ us).set u none).set i y
          rw [ih fun z => hu (List.mem_cons_of_mem _ z), List.set_comm _ _ (fun z => hu (by rw [z]; exact List.mem_cons_self))]
      rw [c e, List.set_set]
theorem wipe_wipe (σ : L2.St) (own : List Nat) : wipe (wipe σ own) own = wipe σ own := by
  have c : ∀ us : List Nat, (∀ i ∈ us, i ∈ own) → wipe (wipe σ us) own = wipe σ own := fun us => by
    induction us with
    | nil => intro _; rfl
    | cons u us ih =>
      intro h
      show wipe ((wipe σ us).set u none) own = wipe σ own
      rw [wipe_set (h u List.mem_cons_self), ih fun i hi => h i (List.mem_cons_of_mem _ hi)]
  exact c own fun _ h => h
def tG (K : PySem.W.Frag) (t : Tg) : TG := fun v σ H Q => ∃ Z μ S δ d δ', At K Z μ S H σ δ ∧ R K μ (fz Z μ S H) v d ∧ tgv t d δ = some δ' ∧ ∀ σ' : L2.St, RE K μ (fz Z μ S H) σ' δ' → SameBut (slotsOf t) σ σ' → Q σ' H
def tGs (K : PySem.W.Frag) (t : Tgs) : TGs := fun vs σ H Q => ∃ Z μ S δ ds δ', At K Z μ S H σ δ ∧ RA K μ (fz Z μ S H) vs ds ∧ tgvs t ds δ = some δ' ∧ ∀ σ' : L2.St, RE K μ (fz Z μ S H) σ' δ' → SameBut (slotsOfs t) σ σ' → Q σ' H
section
variable {X : Cx} {e : Expr} {es : List Expr} {pos : Pos} {t : Tg} {ts : Tgs}
theorem sg_nm {i : Nat} {x : Str} (hN : X.N.Nodup) (hi : X.N[i]? = some x) (hx : Loc X.env.scope x) (hf : X.fn x = true ∨ X.env.scope.names.lookup x = some .local) : PG X (.Name x pos) (tG X.K (.nm i)) :=
  (pg_name hN hi hx hf).wk fun v σ H Q ⟨Z, μ, S, δ, d, δ', at_, r, h, p⟩ => by
    cases h
    exact p _ (at_.r.set r i) fun own ho => wipe_set (ho i (by simp [slotsOf]))
theorem sgs_nil : PGs X [] (tGs X.K .nil) := pgs_nil.wk fun vs σ H Q ⟨Z, μ, S, δ, d, δ', at_, r, h, p⟩ => by
  cases r with
  | nil =>
    cases h
    exact ⟨rfl, p σ at_.r fun _ _ => rfl⟩
  | cons _ _ => cases h
theorem sgs_cons (h1 : PG X e (tG X.K t)) (h2 : PGs X es (tGs X.K ts)) (hs : (assignEach (e :: es) X.env).map (·.2) = assign e X.env :: (assignEach es X.env).map (·.2)) : PGs X (e :: es) (tGs X.K (.cons t ts)) :=
  (pgs_cons h1 h2 hs).wk fun vs σ H Q ⟨Z, μ, S, δ, d, δ', at_, r, h, p⟩ => by
    cases r with
    | nil => cases h
    | cons rv rr =>
      obtain ⟨δ1, g1, g2⟩ := bindE (show (tgv t _ δ).bind _ = _ from h)
      refine ⟨_, _, rfl, Z, μ, S, δ, _, δ1, at_, rv, g1, fun σ1 r1 s1 => ⟨Z, μ, S, δ1, _, δ', ⟨at_.w, r1⟩, rr, g2, fun σ2 r2 s2 => p σ2 r2 fun own ho => ?_⟩⟩
      rw [s2 own fun i hi => ho i (List.mem_append_right _ hi), s1 own fun i hi => ho i (List.mem_append_left _ hi)]
def lenT : Tgs → Nat
  | .nil => 0
  | .cons _ r => lenT r + 1
theorem tgvs_len : ∀ {ts : Tgs} {ds : List D} {δ δ' : DE}, tgvs ts ds δ = some δ' → ds.length = lenT ts
  | .nil, [], _, _, _ => rfl
  | .nil, _ :: _, _, _, h => by cases h
  | .cons _ _, [], _, _, h => by cases h
  | .cons t r, d :: ds, δ, δ', h => by
    obtain ⟨δ1, _, g2⟩ := bindE (show (tgv t d δ).bind _ = _ from h)
    rw [List.length_cons, tgvs_len g2]
    rfl
theorem sg_tup {k : Nat} (hc : X.calm = true) (h : PGs X es (tGs X.K ts)) (hn : (assignEach es X.env).length = lenT ts) (hst : (assignEach es X.env).findIdx? (·.1) = none) : PG X (.Tuple es k pos) (tG X.K (.tup ts)) :=
  (pg_tup hc h hn hst).wk fun v σ H Q ⟨Z, μ, S, δ, d, δ', at_, r, h, p⟩ => by
    unfold tgv at h
    split at h
    · cases r with
      | tup e z rr => exact ⟨_, _, rfl, sameT (fz_same Z μ S H) e.sq, by rw [rr.len]; exact tgvs_len h, Z, μ, S, δ, _, δ', at_, rr, h, p⟩
    · cases h
end

/-! ### comprehensions -/
theorem drop_get {α : Type} {l : List α} {i : Nat} (h : i < l.length) : l.drop i = l[i] :: l.drop (i + 1) := List.drop_eq_getElem_cons h
section
variable {X : Cx} {elt tg iter : Expr} {ifs : List Expr} {scope : Scope} {own : List (Str × Nat)} {pos : Pos} {t : Tg} {m : Bool} {ei : DE → Sto → Option ((List D × Bool) × Sto)} {ek : DE → Sto → Option (Bool × Sto)} {ee : DE → Sto → Option (D × Sto)}
/-- one turn of a comprehension -/
def turnC (t : Tg) (ek : DE → Sto → Option (Bool × Sto)) (ee : DE → Sto → Option (D × Sto)) (δ0 : DE) (x : D) (S : Sto) : Option (Option D × Sto) :=
  (tgv t x δ0).bind fun δ' => (ek δ' S).bind fun k => if k.1 then (ee δ' k.2).map fun r => (some r.1, r.2) else some (none, k.2)
def evLc (m : Bool) (t : Tg) (ei : DE → Sto → Option ((List D × Bool) × Sto)) (ek : DE → Sto → Option (Bool × Sto)) (ee : DE → Sto → Option (D × Sto)) (own : List Nat) : DE → Sto → Option (D × Sto) := fun δ S =>
  (ei δ S).bind fun p => if p.1.2 then (lcv (turnC t ek ee (wipeD δ own)) p.1.1 [] p.2).map fun r => mkl m r.1 r.2 else none
theorem lc_wk {K : PySem.W.Frag} (hown : ∀ i ∈ slotsOf t, i ∈ own.map (·.2)) {σ : L2.St} {H : Hp} {Q : VK} (hq : tE K (evLc m t ei ek ee (own.map (·.2))) σ H Q) : tLc (tI K ei) (tG K t) (tT K ek) (tE K ee) (own.map (·.2)) σ H Q := by
  obtain ⟨Z, μ, S, δ, d, S', at_, h, p⟩ := hq
  unfold evLc at h
  obtain ⟨⟨⟨xs, ok⟩, S1⟩, g1, h⟩ := bindE h
  dsimp only at h
  split at h
  case isFalse => cases h
  rename_i hok
  obtain ⟨⟨ys, S2⟩, g2, e3⟩ := mapE h
  have e4 : (mkl m ys S2).1 = d := congrArg Prod.fst e3
  have e5 : (mkl m ys S2).2 = S' := congrArg Prod.snd e3
  subst e4 e5
  generalize hw : own.map (·.2) = ow at hown g2 ⊢
  refine ⟨Z, μ, S, δ, xs, ok, S1, at_, g1, fun μ1 H1 J w1 l1 itm hz D nD => ?_⟩
  have hz := hz hok
  have nZ : D ∉ Z := w1.newZ nD
  refine ⟨fun i m' H2 => m' = xs.length - i ∧ i ≤ xs.length ∧ ∃ μ2 T acc vs, Wd K (D :: Z) μ2 T H2 ∧ Grow μ1 μ2 ∧ Same (fz Z μ1 S1 H1) (fz (D :: Z) μ2 T H2) ∧ (∀ b ∈ Z, H2 b = H1 b) ∧ H2 D = some (.lst vs) ∧
    RA K μ2 (fz (D :: Z) μ2 T H2) vs acc ∧ vs.length ≤ i ∧ lcv (turnC t ek ee (wipeD δ ow)) (xs.drop i) acc T = some (ys, S2), ⟨xs.length, by simp, Nat.zero_le _, ?_⟩, fun i m' H2 hW => ?_⟩
  · obtain ⟨w2, f2⟩ := w1.hid nD (.lst [])
    refine ⟨μ1, S1, [], [], w2, fun _ _ z => z, by rw [f2]; exact Same.refl _, fun b hb => upd_ne fun z => nZ (z ▸ hb), upd_same, .nil, Nat.le_refl _, ?_⟩
    rw [List.drop_zero]
    exact g2
  · obtain ⟨rfl, hi, μ2, T, acc, vs, w2, gr, sm, kz, eD, rv, hvi, g3⟩ := hW
    obtain ⟨it1, it2⟩ := itm (D :: Z) μ2 T H2 w2 gr sm
    by_cases hlt : i < xs.length
    · refine .inr ⟨(it1 i _ (List.getElem?_eq_getElem hlt)).1, fun H' => ∃ m'', m'' < xs.length - i ∧ (m'' = xs.length - (i + 1) ∧ i + 1 ≤ xs.length ∧ ∃ μ2 T acc vs, Wd K (D :: Z) μ2 T H' ∧ Grow μ1 μ2 ∧ Same (fz Z μ1 S1 H1) (fz (D :: Z) μ2 T H') ∧ (∀ b ∈ Z, H' b = H1 b) ∧ H' D = some (.lst vs) ∧
        RA K μ2 (fz (D :: Z) μ2 T H') vs acc ∧ vs.length ≤ i + 1 ∧ lcv (turnC t ek ee (wipeD δ ow)) (xs.drop (i + 1)) acc T = some (ys, S2)), fun H' hN => hN, fun v H3 hy => ?_⟩
      obtain ⟨w3, l3, rx⟩ := (it1 i _ (List.getElem?_eq_getElem hlt)).2 v H3 hy
      have rx := rx
      rw [drop_get hlt] at g3
      obtain ⟨⟨oy, T1⟩, g4, g5⟩ := bindE (show (turnC t ek ee (wipeD δ ow) xs[i] T).bind _ = _ from g3)
      obtain ⟨δ1, g6, g7⟩ := bindE (show (tgv t xs[i] (wipeD δ ow)).bind _ = _ from g4)
      obtain ⟨⟨k, T2⟩, g8, g9⟩ := bindE g7
      have re : RE K μ2 (fz (D :: Z) μ2 T H3) (wipe σ ow) (wipeD δ ow) := ((((at_.r.mono l1.g l1.s).mono gr sm).mono l3.g l3.s).wipe ow)
      refine ⟨D :: Z, μ2, T, wipeD δ ow, xs[i], δ1, ⟨w3, re⟩, rx, g6, fun σ2 r2 sb => ⟨by rw [sb ow hown]; exact wipe_wipe σ ow, ?_⟩⟩
      refine ⟨D :: Z, μ2, T, δ1, k, T2, ⟨w3, r2⟩, g8, fun μ4 H4 w4 l4 => ?_⟩
      have sm4 : Same (fz Z μ1 S1 H1) (fz (D :: Z) μ4 T2 H4) := (sm.trans l3.s).trans l4.s
      have gr4 : Grow μ1 μ4 := fun j b e => l4.g j b (l3.g j b (gr j b e))
      have eD4 : H4 D = some (.lst vs) := (l4.h D List.mem_cons_self).trans ((l3.h D List.mem_cons_self).trans eD)
      have kz4 : ∀ b ∈ Z, H4 b = H1 b := fun b hb => (l4.h b (List.mem_cons_of_mem _ hb)).trans ((l3.h b (List.mem_cons_of_mem _ hb)).trans (kz b hb))
      have rv4 : RA K μ4 (fz (D :: Z) μ4 T2 H4) vs acc := (rv.mono l3.g l3.s).mono l4.g l4.s
      cases k with
      | false =>
        obtain ⟨rfl, rfl⟩ := some2 (show some ((none : Option Ev.D), T2) = some (oy, T1) from g9)
        exact iteF ⟨_, by omega, rfl, hlt, μ4, T2, acc, vs, w4, gr4, sm4, kz4, eD4, rv4, by omega, g5⟩
      | true =>
        obtain ⟨⟨y, T3⟩, g10, g11⟩ := mapE (show (ee δ1 T2).map (fun r => (some r.1, r.2)) = some (oy, T1) from g9)
        cases g11
        refine iteT ⟨D :: Z, μ4, T2, δ1, y, T3, ⟨w4, r2.mono l4.g l4.s⟩, g10, fun μ5 H5 u w5 l5 r5 => ⟨vs, (l5.h D List.mem_cons_self).trans eD4, ?_, ?_⟩⟩
        · exact Nat.lt_of_le_of_lt hvi (Nat.lt_of_lt_of_le hlt hz)
        · obtain ⟨w6, f6⟩ := w5.hwr (p := D) List.mem_cons_self (.lst (vs ++ [u]))
          refine ⟨_, by omega, rfl, hlt, μ5, T3, acc ++ [y], vs ++ [u], w6, fun j b e => l5.g j b (gr4 j b e), by rw [f6]; exact sm4.trans l5.s, fun b hb => ?_, upd_same, ?_, by rw [List.length_append, List.length_singleton]; omega, g5⟩
          · rw [upd_ne (show b ≠ D from fun z => nZ (z ▸ hb)), l5.h b (List.mem_cons_of_mem _ hb)]
            exact kz4 b hb
          · rw [f6]
            exact (rv4.mono l5.g l5.s).append (.cons r5 .nil)
    · have hi2 : i = xs.length := by omega
      subst hi2
      rw [List.drop_length] at g3
      cases g3
      refine .inl ⟨it2, ?_⟩
      have hvz : vs.length ≤ sizeLine := Nat.le_trans hvi hz
      cases m with
      | false =>
        obtain ⟨w4, s4, e4⟩ := w2.show_ nZ
        refine p μ2 H2 _ w4 (l1.trans ⟨gr, sm.trans s4, kz⟩) ?_
        exact .lst (.inl (e4.trans eD)) hvz (rv.mono (fun _ _ z => z) s4)
      | true =>
        obtain ⟨w4, g4, f4, e4⟩ := w2.add' (p := D) (Z := Z) (ob := .lst ys) (H' := H2) (w2.hz D List.mem_cons_self).2 nZ (fun b hb => List.mem_cons_of_mem _ hb) (fun b hb => (List.mem_cons.mp hb).symm) (.inl List.mem_cons_self) (fun _ _ => rfl) (fun z => by cases z)
          ⟨vs, eD, hvz, rv.mono (grow_snoc _ _) (Same.refl _)⟩
        refine p (μ2 ++ [D]) H2 _ w4 (l1.trans ⟨fun j b e => g4 j b (gr j b e), ?_, kz⟩) (.rf e4)
        show Same _ (fz Z (μ2 ++ [D]) (S2 ++ [.lst ys]) H2)
        rw [f4]
        exact sm
theorem se_lc (hc : X.calm = true) (hN : X.N.Nodup) (hown : ∀ i ∈ slotsOf t, i ∈ own.map (·.2)) (hi : PI X tg iter (tI X.K ei)) (ok : BlkOk X.N X.env.scope scope own)
    (hg : ∀ (s : Shared) (H : Hp) (C : Addr) (cl : List (Str × Addr)) (fp : List Addr), PG (X.blk s H scope (compEnvC scope cl C X.env) fp) tg (tG X.K t))
    (ht : ∀ (s : Shared) (H : Hp) (C : Addr) (cl : List (Str × Addr)) (fp : List Addr), PTs (X.blk s H scope (compEnvC scope cl C X.env) fp) ifs (tT X.K ek))
    (he : ∀ (s : Shared) (H : Hp) (C : Addr) (cl : List (Str × Addr)) (fp : List Addr), PE (X.blk s H scope (compEnvC scope cl C X.env) fp) elt (tE X.K ee)) (hs : ∀ x, foldedSetIterable iter X.env x = pure x) :
    PE X (.ListComp elt [⟨tg, iter, ifs, 0⟩] scope pos) (tE X.K (evLc m t ei ek ee (own.map (·.2)))) :=
  (pe_lc hc hN hi ok hg ht he hs).wk fun σ H Q h => lc_wk hown h
theorem sts_nil : PTs X [] (tT X.K fun _ S => some (true, S)) := pts_nil.wk fun σ H Q ⟨Z, μ, S, δ, d, S', at_, h, p⟩ => by
  obtain ⟨rfl, rfl⟩ := some2 h
  exact p μ H at_.w .refl

/-! ### statements -/
def Fpost (K : PySem.W.Frag) (Z μ : List Addr) (S : Sto) (H : Hp) (f : Fl) (δ' : DE) (S' : Sto) (Dn : Ends) : Prop :=
  ∀ (μ' : List Addr) (H' : Hp), Wd K Z μ' S' H' → Le Z μ S H μ' S' H' → match f with
    | .nx => ∀ σ' : L2.St, RE K μ' (fz Z μ' S' H') σ' δ' → Dn.nx σ' H'
    | .bk => ∀ σ' : L2.St, RE K μ' (fz Z μ' S' H') σ' δ' → Dn.bk σ' H'
    | .ct => ∀ σ' : L2.St, RE K μ' (fz Z μ' S' H') σ' δ' → Dn.ct σ' H'
    | .rt d => ∀ v : V, R K μ' (fz Z μ' S' H') v d → Dn.rt v H'
theorem Fpost.le {K : PySem.W.Frag} {Z μ μ1 : List Addr} {S S1 S' : Sto} {H H1 : Hp} {f : Fl} {δ' : DE} {Dn : Ends} (p : Fpost K Z μ S H f δ' S' Dn) (l : Le Z μ S H μ1 S1 H1) : Fpost K Z μ1 S1 H1 f δ' S' Dn := fun μ' H' w l' => p μ' H' w (l.trans l')
def tS (K : PySem.W.Frag) (ex : DE → Sto → Option (Fl × DE × Sto)) : TS := fun Dn σ H => ∃ Z μ S δ f δ' S', At K Z μ S H σ δ ∧ ex δ S = some (f, δ', S') ∧ Fpost K Z μ S H f δ' S' Dn
theorem some3 {α β γ : Type} {a a' : α} {b b' : β} {c c' : γ} (h : some (a, b, c) = some (a', b', c')) : a = a' ∧ b = b' ∧ c = c' := by
  cases h
  exact ⟨rfl, rfl, rfl⟩
variable {e a b : Expr} {ea eb : DE → Sto → Option (D × Sto)} {et : DE → Sto → Option (Bool × Sto)} {st : Stmt} {rest sa sb : List Stmt} {xs xr xa xb : DE → Sto → Option (Fl × DE × Sto)}
theorem ss_nil : PSs X [] (tS X.K fun δ S => some (.nx, δ, S)) := pss_nil.wk fun Dn σ H ⟨Z, μ, S, δ, f, δ', S', at_, h, p⟩ => by
  obtain ⟨rfl, rfl, rfl⟩ := some3 h
  exact p μ H at_.w .refl σ at_.r
theorem ss_cons (h1 : PS X st (tS X.K xs)) (h2 : PSs X rest (tS X.K xr)) : PSs X (st :: rest) (tS X.K fun δ S => (xs δ S).bind fun p => match p.1 with
    | .nx => xr p.2.1 p.2.2
    | f => some (f, p.2.1, p.2.2)) :=
  (pss_cons h1 h2).wk fun Dn σ H ⟨Z, μ, S, δ, f, δ', S', at_, h, p⟩ => by
    obtain ⟨⟨f1, δ1, S1⟩, g1, g2⟩ := bindE h
    refine ⟨Z, μ, S, δ, f1, δ1, S1, at_, g1, fun μ1 H1 w1 l1 => ?_⟩
    cases f1 with
    | nx => exact fun σ1 r1 => ⟨Z, μ1, S1, δ1, f, δ', S', ⟨w1, r1⟩, g2, p.le l1⟩
    | bk => obtain ⟨rfl, rfl, rfl⟩ := some3 g2; exact p μ1 H1 w1 l1
    | ct => obtain ⟨rfl, rfl, rfl⟩ := some3 g2; exact p μ1 H1 w1 l1
    | rt d => obtain ⟨rfl, rfl, rfl⟩ := some3 g2; exact p μ1 H1 w1 l1
theorem ss_frz (i : Nat) (h2 : PSs X rest (tS X.K xr)) : PSs X rest (tS X.K fun δ S => match δ[i]? with
    | some (some x) => match asRf x with
      | some n => match S[n]? with
        | some (.lst xs) => xr (δ.set i (some (.list xs))) (S.set n .dead)
        | _ => none
      | none => none
    | _ => none) :=
  h2.wk fun Dn σ H ⟨Z, μ, S, δ, f, δ', S', at_, h, p⟩ => by
    dsimp only at h
    split at h
    · rename_i x ex
      split at h
      · rename_i n en
        split at h
        · rename_i xs es
          obtain ⟨v, ev, rv⟩ := at_.r.get ex
          obtain ⟨a, rfl, ea⟩ := rf_R en rv
          obtain ⟨w1, s1, vs, e1, z1, r1⟩ := at_.w.frz ea es
          have l1 : Le Z μ S H μ (S.set n .dead) H := ⟨fun _ _ z => z, s1, fun _ _ => rfl⟩
          have re := (at_.r.mono l1.g l1.s).set (R.lst (K := X.K) (.inl e1) z1 r1) i
          have same : σ.set i (some (.ref a)) = σ := by
            apply List.ext_getElem?
            intro j
            rw [List.getElem?_set]
            split
            · rename_i hj
              subst hj
              rw [ev]
              split
              · rfl
              · rename_i hn
                exact absurd (List.getElem?_eq_some_iff.mp ev).1 hn
            · rfl
          rw [same] at re
          exact ⟨Z, μ, S.set n .dead, δ.set i (some (.list xs)), f, δ', S', ⟨w1, re⟩, h, p.le l1⟩
        · cases h
      · cases h
    · cases h
theorem s_asg {tg : Expr} {t : Tg} (he : PE X e (tE X.K ea)) (hg : PG X tg (tG X.K t)) (hs : swapsWithSole [tg] e pos.line X.env = pure false) (hw : swappedStores [tg] e X.env = pure none) (h1 : (assignEach [tg] X.env).map (·.2) = [assign tg X.env]) :
    PS X (.Assign [tg] e pos) (tS X.K fun δ S => (ea δ S).bind fun p => (tgv t p.1 δ).map fun δ' => (.nx, δ', p.2)) :=
  (ps_asg he hg hs hw h1).wk fun Dn σ H ⟨Z, μ, S, δ, f, δ', S', at_, h, p⟩ => by
    obtain ⟨x, g1, h⟩ := bindE h
    obtain ⟨δ1, g2, h⟩ := mapE h
    obtain ⟨rfl, rfl, rfl⟩ := some3 (congrArg some h)
    exact ⟨Z, μ, S, δ, x.1, x.2, at_, g1, fun μ1 H1 v w1 l1 r1 => ⟨Z, μ1, x.2, δ, x.1, δ1, at_.go w1 l1, r1, g2, fun σ1 re _ => p μ1 H1 w1 l1 σ1 re⟩⟩
theorem s_asgLc {i : Nat} {y : Str} {py spos : Pos} (hc : X.calm = true) (hN : X.N.Nodup) (hown : ∀ i ∈ slotsOf t, i ∈ own.map (·.2)) (hy : X.N[i]? = some y) (hyl : X.env.scope.names.lookup y = some .local)
    (hsw : swapsWith (.ListComp elt [⟨tg, iter, ifs, 0⟩] scope pos) (some (.Name y py)) spos.line X.env = pure true) (hi : PI X tg iter (tI X.K ei)) (ok : BlkOk X.N X.env.scope scope own)
    (hg : ∀ (s : Shared) (H : Hp) (C : Addr) (cl : List (Str × Addr)) (fp : List Addr), PG (X.blk s H scope (compEnvC scope cl C X.env) fp) tg (tG X.K t))
    (ht : ∀ (s : Shared) (H : Hp) (C : Addr) (cl : List (Str × Addr)) (fp : List Addr), PTs (X.blk s H scope (compEnvC scope cl C X.env) fp) ifs (tT X.K ek))
    (he : ∀ (s : Shared) (H : Hp) (C : Addr) (cl : List (Str × Addr)) (fp : List Addr), PE (X.blk s H scope (compEnvC scope cl C X.env) fp) elt (tE X.K ee)) (hs : ∀ x, foldedSetIterable iter X.env x = pure x) :
    PS X (.Assign [.Name y py] (.ListComp elt [⟨tg, iter, ifs, 0⟩] scope pos) spos) (tS X.K fun δ S => (evLc m t ei ek ee (own.map (·.2)) δ S).bind fun p => (tgv (.nm i) p.1 δ).map fun δ' => (.nx, δ', p.2)) :=
  (ps_setLc hc hN hy hyl hsw hi ok hg ht he hs).wk fun Dn σ H ⟨Z, μ, S, δ, f, δ', S', at_, h, p⟩ => by
    obtain ⟨x, g1, h⟩ := bindE h
    obtain ⟨δ1, g2, h⟩ := mapE h
    obtain ⟨rfl, rfl, rfl⟩ := some3 (congrArg some h)
    cases g2
    exact lc_wk (m := m) hown ⟨Z, μ, S, δ, x.1, x.2, at_, g1, fun μ1 H1 v w1 l1 r1 => p μ1 H1 w1 l1 _ ((at_.go w1 l1).r.set r1 i)⟩
theorem s_par {i j : Nat} {x y : Str} {px py pt pos' : Pos} {kt k2 : Nat} {pt2 : Pos} (hc : X.calm = true) (hN : X.N.Nodup) (hi : X.N[i]? = some x) (hj : X.N[j]? = some y) (hij : i ≠ j)
    (hx : X.env.scope.names.lookup x = some .local) (hy : X.env.scope.names.lookup y = some .local) (ha : PE X a (tE X.K ea)) (hb : PE X b (tE X.K eb)) (sa1 : starEach [a, b] X.env = (false, eval a X.env) :: starEach [b] X.env) (sb1 : starEach [b] X.env = (false, eval b X.env) :: starEach [] X.env)
    (hw : swappedStores [.Tuple [.Name x px, .Name y py] kt pt] (.Tuple [a, b] k2 pt2) X.env = pure (some [x, y])) :
    PS X (.Assign [.Tuple [.Name x px, .Name y py] kt pt] (.Tuple [a, b] k2 pt2) pos') (tS X.K fun δ S => (ea δ S).bind fun p => (eb δ p.2).map fun q => (.nx, (δ.set i (some p.1)).set j (some q.1), q.2)) :=
  (ps_par hc hN hi hj hij hx hy (sa_cons ha (sa_cons hb sa_nil sb1) sa1) hw).wk fun Dn σ H ⟨Z, μ, S, δ, f, δ', S', at_, h, p⟩ => by
    obtain ⟨x, g1, h⟩ := bindE h
    obtain ⟨y, g2, h⟩ := mapE h
    obtain ⟨rfl, rfl, rfl⟩ := some3 (congrArg some h)
    refine ⟨Z, μ, S, δ, [x.1, y.1], y.2, at_, by simp only [g1, g2, Option.bind_some, Option.map_some], fun μ1 H1 vs w1 l1 r1 => ?_⟩
    obtain ⟨v, u, rfl, q1, q2⟩ := r1.two
    exact ⟨v, u, rfl, p μ1 H1 w1 l1 _ (((at_.go w1 l1).r.set q1 i).set q2 j)⟩
theorem s_aug {i : Nat} {x : Str} {px pos' : Pos} (o : O2) (k : Bool) (ho : o = if k then .add else .sub) (hN : X.N.Nodup) (hi : X.N[i]? = some x) (hx : Loc X.env.scope x) (hf : X.fn x = true ∨ X.env.scope.names.lookup x = some .local) (he : PE X e (tE X.K ea)) :
    PS X (.AugAssign (.Name x px) (opr o) e pos') (tS X.K fun δ S => match δ[i]? with
    | some (some x) => (ea δ S).bind fun p => (augv o x p.1).map fun d => (.nx, δ.set i (some d), p.2)
    | _ => none) := by
  have hp : PIp X (opr o) (ipI fun u v => if k then u + v else u - v) := by
    subst ho
    cases k with
    | true => exact ip_add
    | false => exact ip_sub
  refine (ps_aug hN hi hx he hp hf).wk fun Dn σ H ⟨Z, μ, S, δ, f, δ', S', at_, h, p⟩ => ?_
  dsimp only at h
  split at h
  · rename_i d ed
    obtain ⟨y, g1, h⟩ := bindE h
    obtain ⟨z, g2, h⟩ := mapE h
    obtain ⟨rfl, rfl, rfl⟩ := some3 (congrArg some h)
    obtain ⟨v, ev, rv⟩ := at_.r.get ed
    refine ⟨v, ev, Z, μ, S, δ, y.1, y.2, at_, g1, fun μ1 H1 u w1 l1 r1 => ?_⟩
    revert r1 g2
    generalize y.1 = y1
    intro g2 r1
    unfold augv at g2
    split at g2
    · cases rv
      cases r1
      subst ho
      cases k with
      | true =>
        cases g2
        exact ⟨_, _, rfl, rfl, p μ1 H1 w1 l1 _ ((at_.go w1 l1).r.set (.int _) i)⟩
      | false =>
        cases g2
        exact ⟨_, _, rfl, rfl, p μ1 H1 w1 l1 _ ((at_.go w1 l1).r.set (.int _) i)⟩
    · cases g2
  · cases h
theorem s_put {pt pos' : Pos} (he : PE X e (tE X.K xe)) (ha : PE X a (tE X.K ea)) (hb : PE X b (tE X.K eb)) (hs : swapsWithSole [.Subscript a b pt] e pos'.line X.env = pure false) (hw : swappedStores [.Subscript a b pt] e X.env = pure none) (h1 : (assignEach [.Subscript a b pt] X.env).map (·.2) = [assign (.Subscript a b pt) X.env])
    (has : ∀ v, assign (.Subscript a b pt) X.env v = (do
      let ov ← holding [v] (eval a X.env)
      let iv ← holding [v, ov] (eval b X.env)
      standAt pt
      holding [v, ov, iv] (setItem ov iv v)
      release [v, ov, iv] [])) :
    PS X (.Assign [.Subscript a b pt] e pos') (tS X.K fun δ S => (xe δ S).bind fun v => (ea δ v.2).bind fun p => (eb δ p.2).bind fun q => match q.1 with
      | .int k => (asRf p.1).bind fun r => match q.2[r]? with
        | some (.lst xs) => (ixN xs.length k).map fun j => (.nx, δ, q.2.set r (.lst (xs.set j v.1)))
        | _ => none
      | _ => none) :=
  (ps_asg he (pg_sub ha hb set_list has) hs hw h1).wk fun Dn σ H ⟨Z, μ, S, δ, f, δ', S', at_, h, p⟩ => by
    obtain ⟨x, g1, h⟩ := bindE h
    obtain ⟨y, g2, h⟩ := bindE h
    obtain ⟨z, g3, h⟩ := bindE h
    refine ⟨Z, μ, S, δ, x.1, x.2, at_, g1, fun μ1 H1 v w1 l1 r1 => ⟨Z, μ1, x.2, δ, y.1, y.2, at_.go w1 l1, g2, fun μ2 H2 u w2 l2 r2 => ⟨Z, μ2, y.2, δ, z.1, z.2, at_.go w2 (l1.trans l2), g3, fun μ3 H3 t w3 l3 r3 => ?_⟩⟩⟩
    split at h
    · rename_i k ek
      obtain ⟨r, g4, h⟩ := bindE h
      split at h
      · rename_i xs es
        obtain ⟨j, g5, h⟩ := mapE h
        obtain ⟨rfl, rfl, rfl⟩ := some3 (congrArg some h)
        obtain ⟨q, rfl, eq⟩ := rf_R g4 (r2.le l3)
        rw [ek] at r3
        cases r3
        obtain ⟨vs, ev, hz, rv⟩ := w3.ob r q _ eq es
        refine ⟨q, vs, k, j, rfl, rfl, ev, by rw [rv.len]; exact g5, ?_⟩
        obtain ⟨w4, f4⟩ := w3.wr (ob' := .lst (xs.set j x.1)) (H' := upd H3 q (.lst (vs.set j v))) eq es (fun z => by cases z) (fun z => by cases z) (fun b hb => upd_ne hb) ⟨_, upd_same, by rw [List.length_set]; exact hz, rv.set (r1.le (l2.trans l3)) j⟩
        have l4 : Le Z μ3 z.2 H3 μ3 (z.2.set r (.lst (xs.set j x.1))) (upd H3 q (.lst (vs.set j v))) := ⟨fun _ _ z => z, by rw [f4]; exact Same.refl _, fun b hb => upd_ne fun z => w3.out eq (z ▸ hb)⟩
        have l5 := l1.trans (l2.trans (l3.trans l4))
        exact p μ3 _ w4 l5 σ (at_.go w4 l5).r
      · cases h
    · cases h
theorem s_ex (he : PE X e (tE X.K ea)) (hs : swapsWith e none pos.line X.env = pure false) : PS X (.Expr e pos) (tS X.K fun δ S => (ea δ S).map fun p => (.nx, δ, p.2)) :=
  (ps_expr he hs).wk fun Dn σ H ⟨Z, μ, S, δ, f, δ', S', at_, h, p⟩ => by
    obtain ⟨x, g1, h⟩ := mapE h
    obtain ⟨rfl, rfl, rfl⟩ := some3 (congrArg some h)
    exact ⟨Z, μ, S, δ, x.1, x.2, at_, g1, fun μ1 H1 v w1 l1 r1 => p μ1 H1 w1 l1 σ (at_.go w1 l1).r⟩
theorem s_ret (he : PE X e (tE X.K ea)) : PS X (.Return (some e) pos) (tS X.K fun δ S => (ea δ S).map fun p => (.rt p.1, δ, p.2)) :=
  (ps_ret he).wk fun Dn σ H ⟨Z, μ, S, δ, f, δ', S', at_, h, p⟩ => by
    obtain ⟨x, g1, h⟩ := mapE h
    obtain ⟨rfl, rfl, rfl⟩ := some3 (congrArg some h)
    exact ⟨Z, μ, S, δ, x.1, x.2, at_, g1, fun μ1 H1 v w1 l1 r1 => p μ1 H1 w1 l1 v r1⟩
theorem s_retN : PS X (.Return none pos) (tS X.K fun δ S => some (.rt .none, δ, S)) :=
  ps_retN.wk fun Dn σ H ⟨Z, μ, S, δ, f, δ', S', at_, h, p⟩ => by
    obtain ⟨rfl, rfl, rfl⟩ := some3 h
    exact p μ H at_.w .refl _ .non
theorem s_pass : PS X (.Pass pos) (tS X.K fun δ S => some (.nx, δ, S)) :=
  ps_pass.wk fun Dn σ H ⟨Z, μ, S, δ, f, δ', S', at_, h, p⟩ => by
    obtain ⟨rfl, rfl, rfl⟩ := some3 h
    exact p μ H at_.w .refl _ at_.r
theorem s_brk : PS X (.Break pos) (tS X.K fun δ S => some (.bk, δ, S)) :=
  ps_break.wk fun Dn σ H ⟨Z, μ, S, δ, f, δ', S', at_, h, p⟩ => by
    obtain ⟨rfl, rfl, rfl⟩ := some3 h
    exact p μ H at_.w .refl _ at_.r
theorem s_cont : PS X (.Continue pos) (tS X.K fun δ S => some (.ct, δ, S)) :=
  ps_continue.wk fun Dn σ H ⟨Z, μ, S, δ, f, δ', S', at_, h, p⟩ => by
    obtain ⟨rfl, rfl, rfl⟩ := some3 h
    exact p μ H at_.w .refl _ at_.r
theorem s_ife {c : Expr} (hc : PT X c (tT X.K et)) (ha : PSs X sa (tS X.K xa)) (hb : PSs X sb (tS X.K xb)) : PS X (.If c sa sb pos) (tS X.K fun δ S => (et δ S).bind fun p => if p.1 then xa δ p.2 else xb δ p.2) :=
  (ps_if hc ha hb).wk fun Dn σ H ⟨Z, μ, S, δ, f, δ', S', at_, h, p⟩ => by
    obtain ⟨⟨k, S1⟩, g1, h⟩ := bindE h
    refine ⟨Z, μ, S, δ, k, S1, at_, g1, fun μ1 H1 w1 l1 => ?_⟩
    cases k with
    | true => exact iteT ⟨Z, μ1, S1, δ, f, δ', S', at_.go w1 l1, h, p.le l1⟩
    | false => exact iteF ⟨Z, μ1, S1, δ, f, δ', S', at_.go w1 l1, h, p.le l1⟩
theorem s_loop (hp : PassesOwn (model X.prog X.w) X.A X.env X.xe) (hc : X.calm = true) (hi : PI X tg iter (tI X.K ei)) (hg : PG X tg (tG X.K t)) (hb : PSs X sb (tS X.K xb)) (hs : ∀ x, foldedSetIterable iter X.env x = pure x) :
    PS X (.For tg iter sb [] pos) (tS X.K fun δ S => (ei δ S).bind fun p => forv (fun x δ S => (tgv t x δ).bind fun δ' => xb δ' S) p.1.1 δ p.2) :=
  (ps_for hp hc hi hg hb hs).wk fun Dn σ H ⟨Z, μ, S, δ, f, δ', S', at_, h, p⟩ => by
    obtain ⟨⟨⟨xs, ok⟩, S1⟩, g1, h⟩ := bindE h
    refine ⟨Z, μ, S, δ, xs, ok, S1, at_, g1, fun μ1 H1 J w1 l1 itm _ => ?_⟩
    refine ⟨fun i m σ2 H2 => m = xs.length - i ∧ i ≤ xs.length ∧ ∃ μ2 T δ2, At X.K Z μ2 T H2 σ2 δ2 ∧ Le Z μ1 S1 H1 μ2 T H2 ∧ forv (fun x δ S => (tgv t x δ).bind fun δ' => xb δ' S) (xs.drop i) δ2 T = some (f, δ', S'),
      ⟨xs.length, by simp, Nat.zero_le _, μ1, S1, δ, at_.go w1 l1, .refl, by rw [List.drop_zero]; exact h⟩, fun i m σ2 H2 hW => ?_⟩
    obtain ⟨rfl, hi, μ2, T, δ2, at2, l2, g2⟩ := hW
    obtain ⟨it1, it2⟩ := itm Z μ2 T H2 at2.w l2.g l2.s
    by_cases hlt : i < xs.length
    · refine .inr ⟨(it1 i _ (List.getElem?_eq_getElem hlt)).1, fun σ3 H3 => ∃ m', m' < xs.length - i ∧ (m' = xs.length - (i + 1) ∧ i + 1 ≤ xs.length ∧ ∃ μ2 T δ2, At X.K Z μ2 T H3 σ3 δ2 ∧ Le Z μ1 S1 H1 μ2 T H3 ∧ forv (fun x δ S => (tgv t x δ).bind fun δ' => xb δ' S) (xs.drop (i + 1)) δ2 T = some (f, δ', S')),
        fun _ _ hN => hN, fun v H3 hy => ?_⟩
      obtain ⟨w3, l3, rx⟩ := (it1 i _ (List.getElem?_eq_getElem hlt)).2 v H3 hy
      rw [drop_get hlt] at g2
      obtain ⟨⟨f1, δ3, T1⟩, g3, g4⟩ := bindE (show ((tgv t xs[i] δ2).bind fun δ' => xb δ' T).bind _ = _ from g2)
      obtain ⟨δ4, g5, g6⟩ := bindE g3
      refine ⟨Z, μ2, T, δ2, xs[i], δ4, at2.go w3 l3, rx, g5, fun σ4 r4 _ => ⟨Z, μ2, T, δ4, f1, δ3, T1, ⟨w3, r4⟩, g6, fun μ5 H5 w5 l5 => ?_⟩⟩
      have l6 := l2.trans (l3.trans l5)
      cases f1 with
      | nx => exact fun σ5 r5 => ⟨_, by omega, rfl, hlt, μ5, T1, δ3, ⟨w5, r5⟩, l6, g4⟩
      | ct => exact fun σ5 r5 => ⟨_, by omega, rfl, hlt, μ5, T1, δ3, ⟨w5, r5⟩, l6, g4⟩
      | bk =>
        obtain ⟨rfl, rfl, rfl⟩ := some3 g4
        exact fun σ5 r5 => p μ5 H5 w5 (l1.trans l6) σ5 r5
      | rt d =>
        obtain ⟨rfl, rfl, rfl⟩ := some3 g4
        exact fun v r5 => p μ5 H5 w5 (l1.trans l6) v r5
    · have hi2 : i = xs.length := by omega
      subst hi2
      rw [List.drop_length] at g2
      obtain ⟨rfl, rfl, rfl⟩ := some3 g2
      exact .inl ⟨it2, p μ2 H2 at2.w (l1.trans l2) σ2 at2.r⟩
theorem s_whl {c : Expr} (turns : Nat) (hp : PassesOwn (model X.prog X.w) X.A X.env X.xe) (hc : PT X c (tT X.K et)) (hb : PSs X sb (tS X.K xb)) : PS X (.While c sb [] pos) (tS X.K fun δ S => whlv et xb turns δ S) :=
  (ps_while hp hc hb).wk fun Dn σ H ⟨Z, μ, S, δ, f, δ', S', at_, h, p⟩ => by
    refine ⟨fun m σ2 H2 => ∃ μ2 T δ2, At X.K Z μ2 T H2 σ2 δ2 ∧ Le Z μ S H μ2 T H2 ∧ whlv et xb m δ2 T = some (f, δ', S'), ⟨turns, μ, S, δ, at_, .refl, h⟩, fun m σ2 H2 hW => ?_⟩
    obtain ⟨μ2, T, δ2, at2, l2, g2⟩ := hW
    cases m with
    | zero => cases g2
    | succ n =>
      obtain ⟨⟨k, T1⟩, g3, g4⟩ := bindE (show (et δ2 T).bind _ = _ from g2)
      refine ⟨Z, μ2, T, δ2, k, T1, at2, g3, fun μ3 H3 w3 l3 => ?_⟩
      cases k with
      | false =>
        obtain ⟨rfl, rfl, rfl⟩ := some3 (show some (Fl.nx, δ2, T1) = _ from g4)
        exact iteF (p μ3 H3 w3 (l2.trans l3) σ2 (at2.go w3 l3).r)
      | true =>
        obtain ⟨⟨f1, δ3, T2⟩, g5, g6⟩ := bindE (show (xb δ2 T1).bind _ = _ from g4)
        refine iteT ⟨fun σ4 H4 => ∃ m', m' < n + 1 ∧ ∃ μ2 T δ2, At X.K Z μ2 T H4 σ4 δ2 ∧ Le Z μ S H μ2 T H4 ∧ whlv et xb m' δ2 T = some (f, δ', S'), fun _ _ hN => hN, Z, μ3, T1, δ2, f1, δ3, T2, at2.go w3 l3, g5, fun μ5 H5 w5 l5 => ?_⟩
        have l6 := l2.trans (l3.trans l5)
        cases f1 with
        | nx => exact fun σ5 r5 => ⟨n, Nat.lt_succ_self _, μ5, T2, δ3, ⟨w5, r5⟩, l6, g6⟩
        | ct => exact fun σ5 r5 => ⟨n, Nat.lt_succ_self _, μ5, T2, δ3, ⟨w5, r5⟩, l6, g6⟩
        | bk =>
          obtain ⟨rfl, rfl, rfl⟩ := some3 g6
          exact fun σ5 r5 => p μ5 H5 w5 l6 σ5 r5
        | rt d =>
          obtain ⟨rfl, rfl, rfl⟩ := some3 g6
          exact fun v r5 => p μ5 H5 w5 l6 v r5
end
end Ev

namespace Ev
open PySem PySem.Spec
open PyProof.Rows L2

/-! ### equal data -/
mutual
def sameD : D → D → Bool
  | .none, y => match y with | .none => true | _ => false
  | .bool a, y => match y with | .bool b => a == b | _ => false
  | .int a, y => match y with | .int b => a == b | _ => false
  | .str a, y => match y with | .str b => a == b | _ => false
  | .list a, y => match y with | .list b => sameDs a b | _ => false
  | .tuple a, y => match y with | .tuple b => sameDs a b | _ => false
  | .dict _, _ => false
def sameDs : List D → List D → Bool
  | [], y => match y with | [] => true | _ => false
  | a :: r, y => match y with | b :: s => sameD a b && sameDs r s | _ => false
end
mutual
theorem sameD_eq : ∀ {a b : D}, sameD a b = true → a = b
  | .none, b, h => by unfold sameD at h; split at h <;> first | rfl | cases h
  | .bool a, b, h => by unfold sameD at h; split at h <;> first | (rw [eq_of_beq h]) | cases h
  | .int a, b, h => by unfold sameD at h; split at h <;> first | (rw [eq_of_beq h]) | cases h
  | .str a, b, h => by unfold sameD at h; split at h <;> first | (rw [eq_of_beq h]) | cases h
  | .list a, b, h => by
    unfold sameD at h
    split at h
    · rw [sameDs_eq h]
    · cases h
  | .tuple a, b, h => by
    unfold sameD at h
    split at h
    · rw [sameDs_eq h]
    · cases h
  | .dict _, _, h => by unfold sameD at h; cases h
theorem sameDs_eq : ∀ {a b : List D}, sameDs a b = true → a = b
  | [], b, h => by unfold sameDs at h; split at h <;> first | rfl | cases h
  | a :: r, b, h => by
    unfold sameDs at h
    split at h
    · rw [Bool.and_eq_true] at h
      rw [sameD_eq h.1, sameDs_eq h.2]
    · cases h
end

/-! ### what texts look like -/
def isStar : Expr → Bool
  | .Starred _ _ => true
  | _ => false
theorem star1 {e : Expr} (h : isStar e = false) (es : List Expr) (env : PySem.Env) : starEach (e :: es) env = (false, eval e env) :: starEach es env := by
  cases e <;> first | rfl | cases h
def noStars (es : List Expr) : Bool := es.all fun e => !isStar e
theorem plainA {pos : Pos} {env : PySem.Env} : ∀ {es : List Expr}, noStars es = true → (backTo pos (starEach es env)).any (·.1) = false
  | [], _ => rfl
  | e :: es, h => by
    simp only [noStars, List.all_cons, Bool.and_eq_true, Bool.not_eq_true'] at h
    rw [star1 h.1]
    have q := plainA (pos := pos) (env := env) (es := es) h.2
    simpa [backTo] using q
theorem allA {pos : Pos} {env : PySem.Env} : ∀ {es : List Expr}, noStars es = true → (backTo pos (starEach es env)).all (fun x => !x.1) = true
  | [], _ => rfl
  | e :: es, h => by
    simp only [noStars, List.all_cons, Bool.and_eq_true, Bool.not_eq_true'] at h
    rw [star1 h.1]
    have q := allA (pos := pos) (env := env) (es := es) h.2
    simpa [backTo] using q
def isSlice : Expr → Bool
  | .Slice _ _ _ _ => true
  | _ => false
theorem plainIx_of {b : Expr} (h : isSlice b = false) : PlainIx b := by
  intro o i
  cases b <;> first | rfl | cases h
def plainT : Expr → Bool
  | .UnaryOp _ _ _ => false
  | .BoolOp _ _ _ => false
  | .IfExp _ _ _ _ => false
  | .Compare _ _ _ _ => false
  | _ => true
theorem isTrue_of {e : Expr} (h : plainT e = true) (env : PySem.Env) (whole : Sem Value) : isTrue e env whole = (do let v ← whole; standAt e.pos; holding [v] (truthy v)) := by
  cases e <;> first | rfl | cases h
def isComp : Expr → Bool
  | .ListComp _ _ _ _ => true
  | .SetComp _ _ _ _ => true
  | .DictComp _ _ _ _ _ => true
  | _ => false
theorem swaps_not {e : Expr} (h : isComp e = false) (t : Option Expr) (l : Nat) (env : PySem.Env) : swapsWith e t l env = pure false := by
  cases e <;> first | rfl | cases h
def isSet : Expr → Bool
  | .Set _ _ _ => true
  | _ => false
theorem folded_not {e : Expr} (h : isSet e = false) (env : PySem.Env) (x : Value) : foldedSetIterable e env x = pure x := by
  cases e <;> first | rfl | cases h
def isTup : Expr → Bool
  | .Tuple _ _ _ => true
  | _ => false
def isName : Expr → Bool
  | .Name _ _ => true
  | _ => false
theorem swapped_val {t e : Expr} (h : isTup e = false) (env : PySem.Env) : swappedStores [t] e env = pure none := by
  cases e <;> first | (cases t <;> rfl) | cases h
theorem swapped_tgt {t e : Expr} (h : isTup t = false) (h2 : ∀ es p, t ≠ .List es p) (env : PySem.Env) : swappedStores [t] e env = pure none := by
  cases t with
  | List es p => exact absurd rfl (h2 es p)
  | Tuple es k p => cases h
  | _ => rfl
def recvOk : Expr → Bool
  | .Call _ [] [] _ => false
  | _ => true
theorem attrBase {o : Expr} (h : recvOk o = true) (name : Str) (env : PySem.Env) (w : Sem Value) : attributeBase o name env w = w := by
  cases o with
  | Call f as kw p =>
    cases f <;> first | rfl | (cases as <;> cases kw <;> first | rfl | cases h)
  | _ => rfl
theorem put_shape {o i : Expr} {pos : Pos} (h : isSlice i = false) (env : PySem.Env) (v : Value) : assign (.Subscript o i pos) env v = (do
      let ov ← holding [v] (eval o env)
      let iv ← holding [v, ov] (eval i env)
      standAt pos
      holding [v, ov, iv] (setItem ov iv v)
      release [v, ov, iv] []) := by
  cases i <;> first | rfl | cases h
/-- the two names that are stored from the right -/
def parB (sc : Scope) (x y : Str) (px py : Pos) (a b : Expr) : Bool :=
  (sc.names.lookup x == some .local) && (sc.names.lookup y == some .local) && (px.line == py.line) && !(x == y) && !isStar a && !isStar b && !(foldedForSure 8 a && foldedForSure 8 b) && !(constantsAlone 8 a && constantsAlone 8 b)
theorem par_swapped {env : PySem.Env} (hk : env.scope.kind = .function) {x y : Str} {px py pt p2 : Pos} {kt k2 : Nat} {a b : Expr} (h : parB env.scope x y px py a b = true) :
    swappedStores [.Tuple [.Name x px, .Name y py] kt pt] (.Tuple [a, b] k2 p2) env = pure (some [x, y]) := by
  simp only [parB, Bool.and_eq_true, Bool.not_eq_true', beq_iff_eq] at h
  obtain ⟨⟨⟨⟨⟨⟨⟨h1, h2⟩, h3⟩, h4⟩, h5⟩, h6⟩, h7⟩, h8⟩ := h
  have kx : env.kindOf x = some .local := h1
  have ky : env.kindOf y = some .local := h2
  have hb : env.blockKind = .function := by unfold Env.blockKind; rw [hk]; rfl
  have sa : ∀ e : Expr, isStar e = false → ∀ {α : Type} (u v : α), (match e with | .Starred .. => u | _ => v) = v := fun e q => by cases e <;> first | (intro _ _ _; rfl) | cases q
  have hyx : (y == x) = false := by rw [Bool.beq_comm]; exact h4
  have e1 : (px.line == px.line) = true := by simp
  have e2 : (py.line == px.line) = true := by rw [h3]; simp
  have nd : ([x, y] : List Str).eraseDups.length = 2 := by
    rw [List.eraseDups_cons]
    have e : List.filter (fun b => !b == x) [y] = [y] := by simp [List.filter, hyx]
    rw [e, List.eraseDups_cons]
    rfl
  unfold swappedStores
  simp only [List.length_cons, List.length_nil, hb, List.any_cons, List.any_nil, sa a h5, sa b h6, List.head?_cons, Option.map_some, Option.getD_some, List.filterMap_cons, List.filterMap_nil, kx, ky, Expr.pos, e2, List.all_cons, List.all_nil, Bool.and_true, h7, h8]
  simp [nd]
  intro hh
  exfalso
  rcases hh with hh | hh
  · cases a <;> first | exact Bool.false_ne_true hh | cases h5
  · cases b <;> first | exact Bool.false_ne_true hh | cases h6
end Ev

namespace Ev
open PySem PySem.Spec
open PyProof.Rows L2

/-! ### small facts for the checker -/
def isLoc : Option NameKind → Bool
  | some .local => true
  | some .cell => true
  | _ => false
def isVis : Option NameKind → Bool
  | some .local => true
  | some .cell => true
  | some .free => true
  | _ => false
def isGl : Option NameKind → Bool
  | some .globalImplicit => true
  | _ => false
def kin (sc : Scope) (x : Str) : Option NameKind := sc.names.lookup x
def nameOk (x : Str) : Bool := !(x == ("__debug__" : Str)) && !(x == ("__classdict__" : Str))
theorem isLoc_loc {sc : Scope} {x : Str} (h : isLoc (kin sc x) = true) : Loc sc x := by
  unfold isLoc kin at h
  split at h
  · exact .inl (by assumption)
  · exact .inr (by assumption)
  · cases h
theorem isVis_vis {sc : Scope} {x : Str} (h : isVis (kin sc x) = true) : Vis sc x := by
  unfold isVis kin at h
  split at h
  · exact .inl (by assumption)
  · exact .inr (.inl (by assumption))
  · exact .inr (.inr (by assumption))
  · cases h
theorem isGl_gl {X : Cx} {x : Str} (h : isGl (kin X.env.scope x) = true) : Gl X x := by
  unfold isGl kin at h
  split at h
  · rename_i e; exact e
  · cases h
def isOp (p : Operator) (o : O2) : Bool := match p, o with
  | .Add, .add => true | .Sub, .sub => true | .Mult, .mul => true | .FloorDiv, .fdiv => true | .Mod, .mod => true | .Pow, .pow => true
  | _, _ => false
theorem isOp_eq {p : Operator} {o : O2} (h : isOp p o = true) : p = opr o := by
  cases o <;> cases p <;> first | rfl | cases h
def isBop (p : PySem.BoolOp) (k : Bool) : Bool := match p, k with
  | .And, true => true | .Or, false => true | _, _ => false
theorem isBop_eq {p : PySem.BoolOp} {k : Bool} (h : isBop p k = true) : p = bopr k := by
  cases k <;> cases p <;> first | rfl | cases h
def isConst : D → Const → Bool
  | .none, c => match c with | .none => true | _ => false
  | .bool b, c => match c with | .bool b' => b == b' | _ => false
  | .int b, c => match c with | .int b' => b == b' | _ => false
  | .str b, c => match c with | .str b' => b == b' | _ => false
  | _, _ => false
theorem se_cst {X : Cx} {C : Cl} {d : D} {c : Const} {j : Nat} {pos : Pos} (h : isConst d c = true) : PE X (.Constant c j pos) (tE X.K (evE C (.cst d))) := by
  have fin : ∀ {v : V}, (∀ μ F, R X.K μ F v d) → PE X (.Constant c j pos) (tC v) → PE X (.Constant c j pos) (tE X.K (evE C (.cst d))) := fun {v} r pe => pe.wk fun σ H Q ⟨Z, μ, S, δ, d', S', at_, h, p⟩ => by
    unfold evE at h
    obtain ⟨rfl, rfl⟩ := some2 h
    exact p.here at_.w (r _ _)
  unfold isConst at h
  split at h
  · split at h
    · exact fin (fun _ _ => .non) pe_non
    · cases h
  · split at h
    · have e := eq_of_beq h
      subst e
      exact fin (fun _ _ => .bl _) pe_bl
    · cases h
  · split at h
    · have e := eq_of_beq h
      subst e
      exact fin (fun _ _ => .int _) pe_int
    · cases h
  · split at h
    · have e := eq_of_beq h
      subst e
      exact fin (fun _ _ => .str _) pe_str
    · cases h
  · cases h
structure Tx where
  names : List Str
  glb : List (Str × D)
def blts : List Str := ["len", "abs", "int", "max", "tuple", "list", "sum", "isinstance", "range", "enumerate", "str", "bool", "dict"]
def ownN (N : List Str) (own : List Nat) : List (Str × Nat) := own.map fun i => ((N[i]?).getD "", i)
theorem ownN_snd (N : List Str) (own : List Nat) : (ownN N own).map (·.2) = own := by
  unfold ownN
  rw [List.map_map]
  exact List.map_id own
mutual
def tgLen : Tgs → Nat
  | .nil => 0
  | .cons _ r => tgLen r + 1
end
/-! ### the checker -/
mutual
def chkG (N : List Str) (fn : Str → Bool) : Tg → Scope → Expr → Bool
  | .nm i, sc, e => match e with
    | .Name x _ => (N[i]? == some x) && isLoc (kin sc x) && (fn x || (match kin sc x with | some .local => true | _ => false))
    | _ => false
  | .tup ts, sc, e => match e with
    | .Tuple xs _ _ => noStars xs && chkGs N fn ts sc xs
    | _ => false
def chkGs (N : List Str) (fn : Str → Bool) : Tgs → Scope → List Expr → Bool
  | .nil, sc, es => match es with
    | [] => true
    | _ => false
  | .cons t r, sc, es => match es with
    | x :: xs => chkG N fn t sc x && chkGs N fn r sc xs
    | [] => false
end
variable (tx : Tx) (N : List Str)
def glB (sc : Scope) (x : Str) : Bool := isGl (kin sc x)
/-- a built-in's name -/
def blB (sc : Scope) (x y : Str) : Bool := (x == y) && glB sc x && blts.contains x
mutual
def chkE : E → Scope → Expr → Bool
  | .var i, sc, e => match e with
    | .Name x _ => (N[i]? == some x) && isVis (kin sc x) && nameOk x
    | _ => false
  | .cst d, sc, e => match e with
    | .Constant c _ _ => isConst d c
    | _ => false
  | .glo y d, sc, e => match e with
    | .Name x _ => (x == y) && glB sc x && nameOk x && (match tx.glb.lookup x with | some d' => sameD d d' | none => false)
    | _ => false
  | .op o m a b, sc, e => match e with
    | .BinOp l p r _ => isOp p o && chkE a sc l && chkE b sc r
    | _ => false
  | .neg a, sc, e => match e with
    | .UnaryOp .USub x _ => chkE a sc x
    | _ => false
  | .not a, sc, e => match e with
    | .UnaryOp .Not x _ => chkE a sc x
    | _ => false
  | .cmp o a b, sc, e => match e with
    | .Compare l [p] [r] _ => decide (p = o) && !behindInMarks o r && chkE a sc l && chkE b sc r
    | _ => false
  | .cmp2 o o' a b c, sc, e => match e with
    | .Compare l [p, q] [r, t] _ => decide (p = o) && decide (q = o') && !lastMarks [o, o'] [r, t] && chkE a sc l && chkE b sc r && chkE c sc t
    | _ => false
  | .bop k es, sc, e => match e with
    | .BoolOp p xs _ => isBop p k && chkEs es sc xs && !xs.isEmpty
    | _ => false
  | .ife c a b, sc, e => match e with
    | .IfExp t x y _ => chkT c sc t && chkE a sc x && chkE b sc y
    | _ => false
  | .tup es, sc, e => match e with
    | .Tuple xs _ _ => noStars xs && chkEs es sc xs
    | _ => false
  | .lst m es, sc, e => match e with
    | .List xs _ => noStars xs && chkEs es sc xs
    | _ => false
  | .sub a i, sc, e => match e with
    | .Subscript x y _ => !isSlice y && chkE a sc x && chkE i sc y
    | _ => false
  | .slc m a lo hi, sc, e => match e with
    | .Subscript x (.Slice l h none _) _ => chkE a sc x && chkO lo sc l && chkO hi sc h
    | _ => false
  | .rvs m a, sc, e => match e with
    | .Subscript x (.Slice none none (some (.UnaryOp .USub (.Constant (.int i) k p1) p2)) p3) _ => (i == 1) && chkE a sc x
    | _ => false
  | .call f es, sc, e => match e with
    | .Call (.Name x _) xs [] _ => (tx.names[f]? == some x) && glB sc x && nameOk x && noStars xs && chkEs es sc xs
    | _ => false
  | .bi b m es, sc, e => match e with
    | .Call (.Name x _) (y :: ys) [] _ => blB sc x (biN b) && noStars (y :: ys) && chkEs es sc (y :: ys)
    | _ => false
  | .rgl k m es, sc, e => match e with
    | .Call (.Name x _) [.Call (.Name y _) xs [] _] [] _ => !k && blB sc x "list" && blB sc y "range" && noStars xs && chkEs es sc xs && decide (xs.length = 1 ∨ xs.length = 2)
    | _ => false
  | .isi a t, sc, e => match e with
    | .Call (.Name x _) [y, .Name z _] [] _ => blB sc x "isinstance" && blB sc z (Str.ofString (tyN t)) && !isStar y && chkE a sc y
    | _ => false
  | .meth t a es, sc, e => match e with
    | .Call (.Attribute o nm apos) (y :: ys) [] cpos => (nm == mtN t) && recvOk o && noStars (y :: ys) && decide (ys.length < 28) && (apos.endLine == cpos.line) && chkE a sc o && chkEs es sc (y :: ys)
    | _ => false
  | .idx a b, sc, e => match e with
    | .Call (.Attribute o nm apos) [y] [] cpos => (nm == ("index" : Str)) && recvOk o && !isStar y && (apos.endLine == cpos.line) && chkE a sc o && chkE b sc y
    | _ => false
  | .lc m elt t it ifs own, sc, e => match e with
    | .ListComp el [⟨tg, iter, fs, as⟩] scope _ => decide (as = 0) && !isSet iter && blkC N sc scope (ownN N own) && (slotsOf t).all (fun i => own.contains i) && chkI (match tg with | .Tuple _ _ _ => true | _ => false) it sc iter &&
        chkG N (fun x => scope.names.lookup x == some .cell) t (relS scope sc) tg && chkF ifs (relS scope sc) fs && chkE elt (relS scope sc) el
    | _ => false
def chkEs : Es → Scope → List Expr → Bool
  | .nil, sc, es => match es with
    | [] => true
    | _ => false
  | .cons e r, sc, es => match es with
    | x :: xs => chkE e sc x && chkEs r sc xs
    | [] => false
def chkT : T → Scope → Expr → Bool
  | .val a, sc, e => chkE a sc e && (match e with
    | .Compare _ _ _ _ => true
    | e => plainT e)
  | .not a, sc, e => match e with
    | .UnaryOp .Not x _ => chkT a sc x
    | _ => false
  | .bop k es, sc, e => match e with
    | .BoolOp p xs _ => isBop p k && chkTs es sc xs && !xs.isEmpty
    | _ => false
def chkTs : Ts → Scope → List Expr → Bool
  | .nil, sc, es => match es with
    | [] => true
    | _ => false
  | .cons e r, sc, es => match es with
    | x :: xs => chkT e sc x && chkTs r sc xs
    | [] => false
/-- a comprehension's tests: none or one -/
def chkF : Ts → Scope → List Expr → Bool
  | .nil, sc, es => match es with
    | [] => true
    | _ => false
  | .cons e .nil, sc, es => match es with
    | [x] => chkT e sc x
    | _ => false
  | .cons _ _, _, _ => false
def chkO : O → Scope → Option Expr → Bool
  | .gap, sc, e => match e with
    | none => true
    | _ => false
  | .at a, sc, e => match e with
    | some x => chkE a sc x
    | none => false
def chkI (tup : Bool) : It → Scope → Expr → Bool
  | .over a, sc, e => chkE a sc e && !isSet e
  | .rng es, sc, e => match e with
    | .Call (.Name y _) xs [] _ => blB sc y "range" && noStars xs && chkEs es sc xs && decide (xs.length = 1 ∨ xs.length = 2)
    | _ => false
  | .enum a, sc, e => match e with
    | .Call (.Name y _) [x] [] _ => tup && blB sc y "enumerate" && !isStar x && chkE a sc x
    | _ => false
end
def swapC (sc : Scope) (y : Str) (py cpos : Pos) (scope : Scope) : Bool := (py.line == cpos.line) && !(scope.names.any fun (n, k) => n == y && (k == .local || k == .cell))
mutual
def chkS : S → Scope → Stmt → Bool
  | .asg t a, sc, st => match st with
    | .Assign [tg] v _ => (match tg with | .List _ _ => false | _ => true) && (!isTup tg || !isTup v) && chkG N (fun _ => true) t sc tg && chkE tx N a sc v && (!isComp v || (match tg, v with
        | .Name y py, .ListComp _ [_] scope cpos => (match kin sc y with | some .local => swapC sc y py cpos scope | some .cell => true | _ => false)
        | _, _ => false))
    | _ => false
  | .par i j a b, sc, st => match st with
    | .Assign [.Tuple [.Name x px, .Name y py] _ _] (.Tuple [u, v] _ _) _ => (N[i]? == some x) && (N[j]? == some y) && !(i == j) && parB sc x y px py u v && chkE tx N a sc u && chkE tx N b sc v
    | _ => false
  | .aug i o a, sc, st => match st with
    | .AugAssign (.Name x _) p v _ => (N[i]? == some x) && isLoc (kin sc x) && (match o with | .add => true | .sub => true | _ => false) && isOp p o && chkE tx N a sc v
    | _ => false
  | .put a i v, sc, st => match st with
    | .Assign [.Subscript x y _] u _ => !isSlice y && !isComp u && chkE tx N v sc u && chkE tx N a sc x && chkE tx N i sc y
    | _ => false
  | .ex a, sc, st => match st with
    | .Expr u _ => !isComp u && chkE tx N a sc u
    | _ => false
  | .ret a, sc, st => match st with
    | .Return (some u) _ => chkE tx N a sc u
    | _ => false
  | .retN, sc, st => match st with
    | .Return none _ => true
    | _ => false
  | .ife c a b, sc, st => match st with
    | .If t u v _ => chkT tx N c sc t && chkSs a sc u && chkSs b sc v
    | _ => false
  | .loop t it b, sc, st => match st with
    | .For tg iter u [] _ => !isSet iter && chkI tx N (match tg with | .Tuple _ _ _ => true | _ => false) it sc iter && chkG N (fun _ => true) t sc tg && chkSs b sc u
    | _ => false
  | .whl c b, sc, st => match st with
    | .While t u [] _ => chkT tx N c sc t && chkSs b sc u
    | _ => false
  | .pass, sc, st => match st with
    | .Pass _ => true
    | _ => false
  | .brk, sc, st => match st with
    | .Break _ => true
    | _ => false
  | .cont, sc, st => match st with
    | .Continue _ => true
    | _ => false
def chkSs : Ss → Scope → List Stmt → Bool
  | .nil, sc, l => match l with
    | [] => true
    | _ => false
  | .cons s r, sc, l => match l with
    | x :: xs => chkS s sc x && chkSs r sc xs
    | [] => false
  | .frz i r, sc, l => chkSs r sc l
end

/-! ### soundness -/
structure Amb (tx : Tx) (C : Cl) (k : Nat) (X : Cx) : Prop where
  calm : X.calm = true
  nd : X.N.Nodup
  room : Room k X.A
  fn : ∀ f x, tx.names[f]? = some x → ∃ a fd ps, X.mg x = some (.ref a) ∧ PySem.W.keepIn X.K (.ref a) = true ∧ Binds X.K fd ps [] ∧ FnOk X.prog X.w X.K X.mg X.base CX0 k a fd ps (spF X.K (C.fn f))
  blt : ∀ x ∈ blts, X.mg x = none
  glb : ∀ x d, tx.glb.lookup x = some d → ∃ u v, X.mg x = some u ∧ RelV v u ∧ ∀ μ F, R X.K μ F v d
variable {tx : Tx} {C : Cl} {k : Nat} {X : Cx}
theorem Amb.blk (A : Amb tx C k X) (s : Shared) (H : Hp) (scope : Scope) (cenv : PySem.Env) (fp : List Addr) : Amb tx C k (X.blk s H scope cenv fp) := ⟨A.calm, A.nd, A.room, A.fn, A.blt, A.glb⟩
theorem Amb.units (A : Amb tx C k X) : X.A.units + 65 < cLine := by have := A.room.un; omega
theorem blB_of (A : Amb tx C k X) {x y : Str} (h : blB X.env.scope x y = true) : x = y ∧ Gl X x ∧ X.mg x = none := by
  simp only [blB, Bool.and_eq_true, beq_iff_eq] at h
  exact ⟨h.1.1, isGl_gl h.1.2, A.blt _ (List.contains_iff_mem.mp h.2)⟩
theorem name_db {x : Str} (h : nameOk x = true) : (x == ("__debug__" : Str)) = false ∧ (x == ("__classdict__" : Str)) = false := by
  simpa [nameOk, Bool.and_eq_true] using h
theorem noStars_cons {e : Expr} {es : List Expr} (h : noStars (e :: es) = true) : isStar e = false ∧ noStars es = true := by
  simpa [noStars, List.all_cons, Bool.and_eq_true] using h
end Ev

namespace Ev
open PySem PySem.Spec
open PyProof.Rows L2
theorem _root_.L2.PE.ev {X : Cx} {e : Expr} {f g : DE → Sto → Option (D × Sto)} (h : PE X e (tE X.K f)) (w : ∀ δ S, g δ S = f δ S) : PE X e (tE X.K g) := by
  have e : g = f := funext fun δ => funext fun S => w δ S
  rw [e]; exact h
theorem _root_.L2.PT.ev {X : Cx} {e : Expr} {f g : DE → Sto → Option (Bool × Sto)} (h : PT X e (tT X.K f)) (w : ∀ δ S, g δ S = f δ S) : PT X e (tT X.K g) := by
  have e : g = f := funext fun δ => funext fun S => w δ S
  rw [e]; exact h
theorem _root_.L2.PW.ev {X : Cx} {e : Expr} {f g : DE → Sto → Option (Bool × Sto)} (h : PW X e (tT X.K f)) (w : ∀ δ S, g δ S = f δ S) : PW X e (tT X.K g) := by
  have e : g = f := funext fun δ => funext fun S => w δ S
  rw [e]; exact h
theorem _root_.L2.PTs.ev {X : Cx} {e : List Expr} {f g : DE → Sto → Option (Bool × Sto)} (h : PTs X e (tT X.K f)) (w : ∀ δ S, g δ S = f δ S) : PTs X e (tT X.K g) := by
  have e : g = f := funext fun δ => funext fun S => w δ S
  rw [e]; exact h
theorem _root_.L2.PA.ev {X : Cx} {e : List Expr} {f g : DE → Sto → Option (List D × Sto)} (h : PA X e (tA X.K f)) (w : ∀ δ S, g δ S = f δ S) : PA X e (tA X.K g) := by
  have e : g = f := funext fun δ => funext fun S => w δ S
  rw [e]; exact h
theorem _root_.L2.PO.ev {X : Cx} {e : Option Expr} {f g : DE → Sto → Option (Option Int × Sto)} (h : PO X e (tO X.K f)) (w : ∀ δ S, g δ S = f δ S) : PO X e (tO X.K g) := by
  have e : g = f := funext fun δ => funext fun S => w δ S
  rw [e]; exact h
theorem _root_.L2.PI.ev {X : Cx} {tg e : Expr} {f g : DE → Sto → Option ((List D × Bool) × Sto)} (h : PI X tg e (tI X.K f)) (w : ∀ δ S, g δ S = f δ S) : PI X tg e (tI X.K g) := by
  have e : g = f := funext fun δ => funext fun S => w δ S
  rw [e]; exact h
theorem _root_.L2.PS.ev {X : Cx} {e : Stmt} {f g : DE → Sto → Option (Fl × DE × Sto)} (h : PS X e (tS X.K f)) (w : ∀ δ S, g δ S = f δ S) : PS X e (tS X.K g) := by
  have e : g = f := funext fun δ => funext fun S => w δ S
  rw [e]; exact h
theorem _root_.L2.PSs.ev {X : Cx} {e : List Stmt} {f g : DE → Sto → Option (Fl × DE × Sto)} (h : PSs X e (tS X.K f)) (w : ∀ δ S, g δ S = f δ S) : PSs X e (tS X.K g) := by
  have e : g = f := funext fun δ => funext fun S => w δ S
  rw [e]; exact h
section
variable {X : Cx} {C : Cl} {a b c : Expr} {pos : Pos}
/-- a single part -/
theorem se_bop1 {p : PySem.BoolOp} {f : DE → Sto → Option (D × Sto)} (h : PE X a (tE X.K f)) : PE X (.BoolOp p [a] pos) (tE X.K f) := ⟨fun pins s σ H Q I q => h.run pins s σ H Q I q⟩
theorem pt_of_pw {e : Expr} {t : TT} (h : PW X e t) : PT X e t := h.pt
theorem ev_val_cmp {o : CmpOp} {x y : E} (δ : DE) (S : Sto) : evT C (.val (.cmp o x y)) δ S = (evE C x δ S).bind fun p => (evE C y δ p.2).bind fun q => (cmpv o p.1 q.1 q.2).map fun k => (k, q.2) := by
  simp only [evT, evE]
  cases evE C x δ S with
  | none => rfl
  | some p =>
    simp only [Option.bind_some]
    cases evE C y δ p.2 with
    | none => rfl
    | some q =>
      simp only [Option.bind_some]
      cases cmpv o p.1 q.1 q.2 <;> rfl
theorem ev_val_cmp2 {o o' : CmpOp} {x y z : E} (δ : DE) (S : Sto) : evT C (.val (.cmp2 o o' x y z)) δ S = (evE C x δ S).bind fun p => (evE C y δ p.2).bind fun q => (cmpv o p.1 q.1 q.2).bind fun k =>
      if k then (evE C z δ q.2).bind fun r => (cmpv o' q.1 r.1 r.2).map fun k' => (k', r.2) else some (false, q.2) := by
  simp only [evT, evE]
  cases evE C x δ S with
  | none => rfl
  | some p =>
    simp only [Option.bind_some]
    cases evE C y δ p.2 with
    | none => rfl
    | some q =>
      simp only [Option.bind_some]
      cases cmpv o p.1 q.1 q.2 with
      | none => rfl
      | some k =>
        cases k with
        | false => rfl
        | true =>
          simp only [Option.bind_some, if_true]
          cases evE C z δ q.2 with
          | none => rfl
          | some r =>
            simp only [Option.bind_some]
            cases cmpv o' q.1 r.1 r.2 <;> rfl
theorem evA_len : ∀ (es : Es) {δ : DE} {S S' : Sto} {ds : List D} {sc : Scope} {tx : Tx} {N : List Str} {xs : List Expr}, chkEs tx N es sc xs = true → evA C es δ S = some (ds, S') → ds.length = xs.length
  | .nil, δ, S, S', ds, sc, tx, N, xs, h, q => by
    unfold chkEs at h
    split at h
    · unfold evA at q
      cases q
      rfl
    · cases h
  | .cons e r, δ, S, S', ds, sc, tx, N, xs, h, q => by
    unfold chkEs at h
    split at h
    · rw [Bool.and_eq_true] at h
      unfold evA at q
      obtain ⟨p, q1, q⟩ := bindE q
      obtain ⟨p2, q2, q⟩ := mapE q
      cases q
      rw [List.length_cons, List.length_cons, evA_len r h.2 q2]
    · cases h
theorem margs {o e : Expr} {es : List Expr} {nm : Str} {apos cpos : Pos} (h1 : recvOk o = true) (h2 : noStars (e :: es) = true) (h3 : es.length < 28) (h4 : (apos.endLine == cpos.line) = true) : MArgs X o e es nm apos cpos where
  base := attrBase h1 _ _ _
  few := by
    rw [Bool.and_eq_true, Bool.and_eq_true]
    refine ⟨⟨allA h2, rfl⟩, ?_⟩
    rw [decide_eq_true_eq]
    simp only [List.length_cons, List.length_nil, List.isEmpty_nil, if_true]
    omega
  line := h4
  star := star1 (noStars_cons h2).1 _ _
  plain := plainA (noStars_cons h2).2
end
/-! ### targets -/
theorem assignEach_map {env : PySem.Env} {e : Expr} (h : isStar e = false) (es : List Expr) : (assignEach (e :: es) env).map (·.2) = assign e env :: (assignEach es env).map (·.2) := by
  cases e <;> first | rfl | cases h
theorem assignEach_star {env : PySem.Env} : ∀ {es : List Expr}, noStars es = true → (assignEach es env).findIdx? (·.1) = none ∧ (assignEach es env).length = es.length
  | [], _ => ⟨rfl, rfl⟩
  | e :: es, h => by
    obtain ⟨h1, h2⟩ := noStars_cons h
    obtain ⟨i1, i2⟩ := assignEach_star (env := env) h2
    have q : ∃ f, assignEach (e :: es) env = (false, f) :: assignEach es env := by cases e <;> first | exact ⟨_, rfl⟩ | cases h1
    obtain ⟨f, q⟩ := q
    rw [q]
    refine ⟨?_, by rw [List.length_cons, List.length_cons, i2]⟩
    rw [List.findIdx?_cons, i1]
    rfl
mutual
theorem sndG : ∀ (t : Tg) {X : Cx} {N : List Str} {fn : Str → Bool} (hN : X.N = N) (hf : X.fn = fn) (hnd : X.N.Nodup) (hc : X.calm = true) {e : Expr}, chkG N fn t X.env.scope e = true → PG X e (tG X.K t)
  | .nm i, X, N, fn, hN, hf, hnd, hc, e, h => by
    subst hN hf
    unfold chkG at h
    split at h
    · rename_i x _
      simp only [Bool.and_eq_true, Bool.or_eq_true, beq_iff_eq] at h
      refine sg_nm hnd h.1.1 (isLoc_loc h.1.2) ?_
      rcases h.2 with q | q
      · exact .inl q
      · refine .inr ?_
        unfold kin at q
        split at q
        · assumption
        · cases q
    · cases h
  | .tup ts, X, N, fn, hN, hf, hnd, hc, e, h => by
    unfold chkG at h
    split at h
    · rename_i xs _ _
      rw [Bool.and_eq_true] at h
      obtain ⟨q, l⟩ := sndGs ts hN hf hnd hc h.1 h.2
      exact sg_tup hc q ((assignEach_star h.1).2.trans l) (assignEach_star h.1).1
    · cases h
theorem sndGs : ∀ (ts : Tgs) {X : Cx} {N : List Str} {fn : Str → Bool} (hN : X.N = N) (hf : X.fn = fn) (hnd : X.N.Nodup) (hc : X.calm = true) {es : List Expr}, noStars es = true → chkGs N fn ts X.env.scope es = true → PGs X es (tGs X.K ts) ∧ es.length = lenT ts
  | .nil, X, N, fn, hN, hf, hnd, hc, es, hs, h => by
    unfold chkGs at h
    split at h
    · exact ⟨sgs_nil, rfl⟩
    · cases h
  | .cons t r, X, N, fn, hN, hf, hnd, hc, es, hs, h => by
    unfold chkGs at h
    split at h
    · rename_i x xs
      rw [Bool.and_eq_true] at h
      obtain ⟨h1, h2⟩ := noStars_cons hs
      obtain ⟨q, l⟩ := sndGs r hN hf hnd hc h2 h.2
      exact ⟨sgs_cons (sndG t hN hf hnd hc h.1) q (assignEach_map h1 _), by rw [List.length_cons, l, lenT]⟩
    · cases h
end

/-! ### expressions, tests, arguments, walks -/
theorem turnC_eq {C : Cl} {m : Bool} {elt : E} {t : Tg} {it : It} {ifs : Ts} {own : List Nat} (δ : DE) (S : Sto) : evE C (.lc m elt t it ifs own) δ S = evLc m t (evI C it) (evB1 C ifs) (evE C elt) own δ S := by
  rw [evE]
  rfl
mutual
theorem sndE : ∀ (e : E) {tx : Tx} {C : Cl} {k : Nat} {X : Cx} (A : Amb tx C k X) {x : Expr}, chkE tx X.N e X.env.scope x = true → PE X x (tE X.K (evE C e))
  | .var i, tx, C, k, X, A, x, h => by
    unfold chkE at h
    split at h
    · simp only [Bool.and_eq_true, beq_iff_eq] at h
      exact se_var h.1.1 (isVis_vis h.1.2) (name_db h.2).1 (name_db h.2).2
    · cases h
  | .cst d, tx, C, k, X, A, x, h => by
    unfold chkE at h
    split at h
    · exact se_cst h
    · cases h
  | .glo y d, tx, C, k, X, A, x, h => by
    unfold chkE at h
    split at h
    · simp only [Bool.and_eq_true, beq_iff_eq] at h
      obtain ⟨⟨⟨rfl, h2⟩, h3⟩, h4⟩ := h
      split at h4
      · rename_i d' e
        obtain ⟨u, v, g1, g2, g3⟩ := A.glb _ _ e
        have e2 := sameD_eq h4
        subst e2
        refine (pe_glob (isGl_gl h2) g1 g2 (name_db h3).1).wk fun σ H Q ⟨Z, μ, S, δ, d', S', at_, h, p⟩ => ?_
        unfold evE at h
        obtain ⟨rfl, rfl⟩ := some2 h
        exact p.here at_.w (g3 _ _)
      · cases h4
    · cases h
  | .op o m a b, tx, C, k, X, A, x, h => by
    unfold chkE at h
    split at h
    · simp only [Bool.and_eq_true] at h
      exact (se_op o (isOp_eq h.1.1) (sndE a A h.1.2) (sndE b A h.2)).ev fun δ S => by rw [evE] <;> rfl
    · cases h
  | .neg a, tx, C, k, X, A, x, h => by
    unfold chkE at h
    split at h
    · exact (se_neg (sndE a A h)).ev fun δ S => by rw [evE] <;> rfl
    · cases h
  | .not a, tx, C, k, X, A, x, h => by
    unfold chkE at h
    split at h
    · exact (se_not (sndE a A h)).ev fun δ S => by rw [evE] <;> rfl
    · cases h
  | .cmp o a b, tx, C, k, X, A, x, h => by
    unfold chkE at h
    split at h
    · simp only [Bool.and_eq_true, decide_eq_true_eq, Bool.not_eq_true'] at h
      obtain ⟨⟨⟨rfl, h1⟩, h2⟩, h3⟩ := h
      exact (se_cmp _ A.units (sndE a A h2) (sndE b A h3) h1).ev fun δ S => by rw [evE] <;> rfl
    · cases h
  | .cmp2 o o' a b c, tx, C, k, X, A, x, h => by
    unfold chkE at h
    split at h
    · simp only [Bool.and_eq_true, decide_eq_true_eq, Bool.not_eq_true'] at h
      obtain ⟨⟨⟨⟨⟨rfl, rfl⟩, h1⟩, h2⟩, h3⟩, h4⟩ := h
      exact (se_cmp2 _ _ A.units (sndE a A h2) (sndE b A h3) (sndE c A h4) h1).ev fun δ S => by rw [evE] <;> rfl
    · cases h
  | .bop k' es, tx, C, k, X, A, x, h => by
    unfold chkE at h
    split at h
    · simp only [Bool.and_eq_true] at h
      rw [isBop_eq h.1.1]
      exact (sndB es k' A h.1.2 h.2).ev fun δ S => by rw [evE] <;> rfl
    · cases h
  | .ife c a b, tx, C, k, X, A, x, h => by
    unfold chkE at h
    split at h
    · simp only [Bool.and_eq_true] at h
      exact (se_ife (sndT c A h.1.1) (sndE a A h.1.2) (sndE b A h.2)).ev fun δ S => by rw [evE] <;> rfl
    · cases h
  | .tup es, tx, C, k, X, A, x, h => by
    unfold chkE at h
    split at h
    · simp only [Bool.and_eq_true] at h
      exact (se_tup (sndA es A h.1 h.2)).ev fun δ S => by rw [evE] <;> rfl
    · cases h
  | .lst m es, tx, C, k, X, A, x, h => by
    unfold chkE at h
    split at h
    · simp only [Bool.and_eq_true] at h
      exact (se_lst (m := m) (sndA es A h.1 h.2)).ev fun δ S => by rw [evE] <;> rfl
    · cases h
  | .sub a i, tx, C, k, X, A, x, h => by
    unfold chkE at h
    split at h
    · simp only [Bool.and_eq_true, Bool.not_eq_true'] at h
      exact (se_sub (sndE a A h.1.2) (sndE i A h.2) (plainIx_of h.1.1)).ev fun δ S => by rw [evE] <;> rfl
    · cases h
  | .slc m a lo hi, tx, C, k, X, A, x, h => by
    unfold chkE at h
    split at h
    · simp only [Bool.and_eq_true] at h
      exact (se_slc (m := m) (sndE a A h.1.1) (sndO lo A h.1.2) (sndO hi A h.2)).ev fun δ S => by rw [evE] <;> rfl
    · cases h
  | .rvs m a, tx, C, k, X, A, x, h => by
    unfold chkE at h
    split at h
    · simp only [Bool.and_eq_true, beq_iff_eq] at h
      obtain ⟨rfl, h⟩ := h
      exact (se_rvs (m := m) (sndE a A h)).ev fun δ S => by rw [evE] <;> rfl
    · cases h
  | .call f es, tx, C, k, X, A, x, h => by
    unfold chkE at h
    split at h
    · rename_i y _ xs _
      simp only [Bool.and_eq_true, beq_iff_eq] at h
      obtain ⟨⟨⟨⟨h1, h2⟩, h3⟩, h4⟩, h5⟩ := h
      obtain ⟨a, fd, ps, g1, g2, g3, g4⟩ := A.fn f y h1
      have q := sndA es A h4 h5
      cases xs with
      | nil =>
        refine (se_call0 g4 A.room (isGl_gl h2) g1 g2 g3 (name_db h3).1).ev fun δ S => ?_
        cases es with
        | nil => rw [evE, evA]
        | cons e r => unfold chkEs at h5; cases h5
      | cons e r => exact (se_call g4 A.room (isGl_gl h2) g1 g2 g3 q (name_db h3).1 (star1 (noStars_cons h4).1 _ _) (plainA (noStars_cons h4).2)).ev fun δ S => by rw [evE] <;> rfl
    · cases h
  | .bi b m es, tx, C, k, X, A, x, h => by
    unfold chkE at h
    split at h
    · simp only [Bool.and_eq_true] at h
      obtain ⟨e, g1, g2⟩ := blB_of A h.1.1
      exact (se_bi b (m := m) A.calm e g1 g2 (sndA es A h.1.2 h.2) (star1 (noStars_cons h.1.2).1 _ _) (plainA (noStars_cons h.1.2).2)).ev fun δ S => by rw [evE] <;> rfl
    · cases h
  | .rgl k' m es, tx, C, k, X, A, x, h => by
    unfold chkE at h
    split at h
    · rename_i x1 _ y _ xs _ _
      simp only [Bool.and_eq_true, Bool.not_eq_true', decide_eq_true_eq] at h
      obtain ⟨⟨⟨⟨⟨rfl, h1⟩, h2⟩, h3⟩, h4⟩, h5⟩ := h
      obtain ⟨rfl, g1, g2⟩ := blB_of A h1
      obtain ⟨rfl, g3, g4⟩ := blB_of A h2
      match es, xs, h3, h4, h5 with
      | .cons e1 .nil, [x1], h3, h4, _ =>
        unfold chkEs at h4
        rw [Bool.and_eq_true] at h4
        exact (se_rgl (m := m) A.calm g1 g2 (sr_1 g3 g4 (sndE e1 A h4.1) (star1 (noStars_cons h3).1 _ _)) (by rfl)).ev fun δ S => by rw [evE, evA]; simp only [evA]; rfl
      | .cons e1 (.cons e2 .nil), [x1, x2], h3, h4, _ =>
        unfold chkEs at h4
        rw [Bool.and_eq_true] at h4
        have h6 := h4.2
        unfold chkEs at h6
        rw [Bool.and_eq_true] at h6
        exact (se_rgl (m := m) A.calm g1 g2 (sr_2 g3 g4 (sndE e1 A h4.1) (sndE e2 A h6.1) (star1 (noStars_cons h3).1 _ _) (star1 (noStars_cons (noStars_cons h3).2).1 _ _)) (by rfl)).ev fun δ S => by rw [evE, evA]; simp only [evA]; rfl
      | .nil, xs, h3, h4, h5 =>
        unfold chkEs at h4
        split at h4
        · exact absurd h5 (by decide)
        · cases h4
      | .cons _ .nil, [], _, h4, _ => unfold chkEs at h4; cases h4
      | .cons _ .nil, _ :: _ :: _, _, h4, _ => unfold chkEs at h4; rw [Bool.and_eq_true] at h4; have h6 := h4.2; unfold chkEs at h6; cases h6
      | .cons _ (.cons _ r), [], _, h4, _ => unfold chkEs at h4; cases h4
      | .cons _ (.cons _ r), [_], _, h4, _ => unfold chkEs at h4; rw [Bool.and_eq_true] at h4; have h6 := h4.2; unfold chkEs at h6; cases h6
      | .cons _ (.cons _ (.cons _ _)), _ :: _ :: [], _, h4, _ => unfold chkEs at h4; rw [Bool.and_eq_true] at h4; have h6 := h4.2; unfold chkEs at h6; rw [Bool.and_eq_true] at h6; have h7 := h6.2; unfold chkEs at h7; cases h7
      | _, _ :: _ :: _ :: _, _, _, h5 => simp at h5
    · cases h
  | .isi a t, tx, C, k, X, A, x, h => by
    unfold chkE at h
    split at h
    · simp only [Bool.and_eq_true, Bool.not_eq_true'] at h
      obtain ⟨⟨⟨h1, h2⟩, h3⟩, h4⟩ := h
      obtain ⟨rfl, g1, g2⟩ := blB_of A h1
      obtain ⟨rfl, g3, g4⟩ := blB_of A h2
      exact (se_isi t (k1 := 0) g1 g2 g3 g4 (sndE a A h4) (star1 h3 _ _)).ev fun δ S => by rw [evE] <;> rfl
    · cases h
  | .meth t a es, tx, C, k, X, A, x, h => by
    unfold chkE at h
    split at h
    · simp only [Bool.and_eq_true, beq_iff_eq, decide_eq_true_eq] at h
      obtain ⟨⟨⟨⟨⟨⟨rfl, h1⟩, h2⟩, h3⟩, h4⟩, h5⟩, h6⟩ := h
      exact (se_meth t (margs h1 h2 h3 (by rw [h4]; simp)) (sndE a A h5) (sndA es A h2 h6)).ev fun δ S => by rw [evE] <;> rfl
    · cases h
  | .idx a b, tx, C, k, X, A, x, h => by
    unfold chkE at h
    split at h
    · simp only [Bool.and_eq_true, beq_iff_eq, Bool.not_eq_true'] at h
      obtain ⟨⟨⟨⟨⟨rfl, h1⟩, h2⟩, h3⟩, h4⟩, h5⟩ := h
      exact (se_idx A.units (margs h1 (by simp [noStars, h2]) (by simp) (by rw [h3]; simp)) (sndE a A h4) (sndE b A h5)).ev fun δ S => by rw [evE] <;> rfl
    · cases h
  | .lc m elt t it ifs own, tx, C, k, X, A, x, h => by
    unfold chkE at h
    split at h
    · simp only [Bool.and_eq_true, Bool.not_eq_true', decide_eq_true_eq] at h
      obtain ⟨⟨⟨⟨⟨⟨⟨rfl, h1⟩, h2⟩, h3⟩, h4⟩, h5⟩, h6⟩, h7⟩ := h
      refine (se_lc (m := m) (own := ownN X.N own) A.calm A.nd ?_ (sndI it A h4) (blkOk_by h2) (fun s H C' cl fp => sndG t (X := X.blk s H _ (compEnvC _ cl C' X.env) fp) rfl rfl A.nd A.calm h5) (fun s H C' cl fp => sndF ifs (A.blk s H _ _ fp) h6) (fun s H C' cl fp => sndE elt (A.blk s H _ _ fp) h7) (folded_not h1 _)).ev fun δ S => ?_
      · rw [ownN_snd]
        intro i hi
        exact List.contains_iff_mem.mp (List.all_eq_true.mp h3 i hi)
      · rw [ownN_snd]
        exact turnC_eq δ S
    · cases h
theorem sndB : ∀ (es : Es) (k' : Bool) {tx : Tx} {C : Cl} {k : Nat} {X : Cx} (A : Amb tx C k X) {pos : Pos} {xs : List Expr}, chkEs tx X.N es X.env.scope xs = true → (!xs.isEmpty) = true → PE X (.BoolOp (bopr k') xs pos) (tE X.K (evB C k' es))
  | .nil, k', tx, C, k, X, A, pos, xs, h, hn => by
    unfold chkEs at h
    split at h
    · cases hn
    · cases h
  | .cons e .nil, k', tx, C, k, X, A, pos, xs, h, hn => by
    unfold chkEs at h
    split at h
    · rename_i x xs
      rw [Bool.and_eq_true] at h
      have h6 := h.2
      unfold chkEs at h6
      split at h6
      · exact (se_bop1 (sndE e A h.1)).ev fun δ S => by rw [evB]
      · cases h6
    · cases h
  | .cons e (.cons e2 r), k', tx, C, k, X, A, pos, xs, h, hn => by
    unfold chkEs at h
    split at h
    · rename_i x xs
      rw [Bool.and_eq_true] at h
      have h6 := h.2
      cases xs with
      | nil => unfold chkEs at h6; cases h6
      | cons y ys => exact (se_bop k' (sndE e A h.1) (sndB (.cons e2 r) k' A h6 rfl)).ev fun δ S => by rw [evB]; intro q; cases q
    · cases h
theorem sndT : ∀ (t : T) {tx : Tx} {C : Cl} {k : Nat} {X : Cx} (A : Amb tx C k X) {x : Expr}, chkT tx X.N t X.env.scope x = true → PT X x (tT X.K (evT C t))
  | .val a, tx, C, k, X, A, x, h => by
    unfold chkT at h
    rw [Bool.and_eq_true] at h
    obtain ⟨h1, h2⟩ := h
    by_cases hp : plainT x = true
    · exact (st_val (sndE a A h1) (isTrue_of hp _)).ev fun δ S => by rw [evT] <;> rfl
    · cases a with
      | cmp o a b =>
        unfold chkE at h1
        split at h1
        · simp only [Bool.and_eq_true, decide_eq_true_eq, Bool.not_eq_true'] at h1
          obtain ⟨⟨⟨rfl, h4⟩, h5⟩, h6⟩ := h1
          exact (st_cmp _ A.units (sndE a A h5) (sndE b A h6) h4).ev ev_val_cmp
        · cases h1
      | cmp2 o o' a b c =>
        unfold chkE at h1
        split at h1
        · simp only [Bool.and_eq_true, decide_eq_true_eq, Bool.not_eq_true'] at h1
          obtain ⟨⟨⟨⟨⟨rfl, rfl⟩, h4⟩, h5⟩, h6⟩, h7⟩ := h1
          exact (st_cmp2 _ _ A.units (sndE a A h5) (sndE b A h6) (sndE c A h7) h4).ev ev_val_cmp2
        · cases h1
      | _ =>
        split at h2
        · unfold chkE at h1
          cases h1
        · exact absurd h2 hp
  | .not a, tx, C, k, X, A, x, h => by
    unfold chkT at h
    split at h
    · exact (st_not (sndT a A h)).ev fun δ S => by rw [evT] <;> rfl
    · cases h
  | .bop k' es, tx, C, k, X, A, x, h => by
    unfold chkT at h
    split at h
    · simp only [Bool.and_eq_true] at h
      rw [isBop_eq h.1.1]
      exact (pt_of_pw (sndTs es k' A h.1.2 h.2)).ev fun δ S => by rw [evT] <;> rfl
    · cases h
theorem sndTs : ∀ (es : Ts) (k' : Bool) {tx : Tx} {C : Cl} {k : Nat} {X : Cx} (A : Amb tx C k X) {pos : Pos} {xs : List Expr}, chkTs tx X.N es X.env.scope xs = true → (!xs.isEmpty) = true → PW X (.BoolOp (bopr k') xs pos) (tT X.K (evTs C k' es))
  | .nil, k', tx, C, k, X, A, pos, xs, h, hn => by
    unfold chkTs at h
    split at h
    · cases hn
    · cases h
  | .cons e .nil, k', tx, C, k, X, A, pos, xs, h, hn => by
    unfold chkTs at h
    split at h
    · rename_i x xs
      rw [Bool.and_eq_true] at h
      have h6 := h.2
      unfold chkTs at h6
      split at h6
      · exact (st_bop1 k' (sndT e A h.1)).ev fun δ S => by rw [evTs]
      · cases h6
    · cases h
  | .cons e (.cons e2 r), k', tx, C, k, X, A, pos, xs, h, hn => by
    unfold chkTs at h
    split at h
    · rename_i x xs
      rw [Bool.and_eq_true] at h
      have h6 := h.2
      cases xs with
      | nil => unfold chkTs at h6; cases h6
      | cons y ys => exact (st_bop k' (sndT e A h.1) (sndTs (.cons e2 r) k' A h6 rfl)).ev fun δ S => by rw [evTs]; intro q; cases q
    · cases h
theorem sndF : ∀ (es : Ts) {tx : Tx} {C : Cl} {k : Nat} {X : Cx} (A : Amb tx C k X) {xs : List Expr}, chkF tx X.N es X.env.scope xs = true → PTs X xs (tT X.K (evB1 C es))
  | .nil, tx, C, k, X, A, xs, h => by
    unfold chkF at h
    split at h
    · exact sts_nil.ev fun δ S => by rw [evB1]
    · cases h
  | .cons e .nil, tx, C, k, X, A, xs, h => by
    unfold chkF at h
    split at h
    · exact (pts_one (sndT e A h)).ev fun δ S => by rw [evB1]
    · cases h
  | .cons e (.cons e2 r), tx, C, k, X, A, xs, h => by
    unfold chkF at h
    cases h
theorem sndO : ∀ (o : O) {tx : Tx} {C : Cl} {k : Nat} {X : Cx} (A : Amb tx C k X) {x : Option Expr}, chkO tx X.N o X.env.scope x = true → PO X x (tO X.K (evO C o))
  | .gap, tx, C, k, X, A, x, h => by
    unfold chkO at h
    split at h
    · exact so_gap.ev fun δ S => by rw [evO] <;> rfl
    · cases h
  | .at a, tx, C, k, X, A, x, h => by
    unfold chkO at h
    split at h
    · exact (so_at (sndE a A h)).ev fun δ S => by rw [evO] <;> rfl
    · cases h
theorem sndA : ∀ (es : Es) {tx : Tx} {C : Cl} {k : Nat} {X : Cx} (A : Amb tx C k X) {xs : List Expr}, noStars xs = true → chkEs tx X.N es X.env.scope xs = true → PA X xs (tA X.K (evA C es))
  | .nil, tx, C, k, X, A, xs, hs, h => by
    unfold chkEs at h
    split at h
    · exact sa_nil.ev fun δ S => by rw [evA] <;> rfl
    · cases h
  | .cons e r, tx, C, k, X, A, xs, hs, h => by
    unfold chkEs at h
    split at h
    · rw [Bool.and_eq_true] at h
      exact (sa_cons (sndE e A h.1) (sndA r A (noStars_cons hs).2 h.2) (star1 (noStars_cons hs).1 _ _)).ev fun δ S => by rw [evA] <;> rfl
    · cases h
theorem sndI : ∀ (i : It) {tx : Tx} {C : Cl} {k : Nat} {X : Cx} (A : Amb tx C k X) {tg x : Expr}, chkI tx X.N (match tg with | .Tuple _ _ _ => true | _ => false) i X.env.scope x = true → PI X tg x (tI X.K (evI C i))
  | .over a, tx, C, k, X, A, tg, x, h => by
    unfold chkI at h
    rw [Bool.and_eq_true] at h
    exact (si_over (sndE a A h.1)).ev fun δ S => by rw [evI] <;> rfl
  | .rng es, tx, C, k, X, A, tg, x, h => by
    unfold chkI at h
    split at h
    · rename_i y _ xs _
      simp only [Bool.and_eq_true, decide_eq_true_eq] at h
      obtain ⟨⟨⟨h1, h2⟩, h3⟩, h4⟩ := h
      obtain ⟨rfl, g1, g2⟩ := blB_of A h1
      have q := sndA es A h2 h3
      match xs, h2, h3, h4, q with
      | [], _, _, h4, _ => simp at h4
      | [a], h2, h3, _, q => exact (si_rng1 g1 g2 q (star1 (noStars_cons h2).1 _ _) fun δ S ds S' z => evA_len es h3 z).ev fun δ S => by rw [evI] <;> rfl
      | [a, b], h2, h3, _, q =>
        have e2 : starEach [b] X.env = [(false, eval b X.env)] := star1 (noStars_cons (noStars_cons h2).2).1 _ _
        exact (si_rng2 g1 g2 q ((star1 (noStars_cons h2).1 _ _).trans (by rw [e2])) e2 fun δ S ds S' z => evA_len es h3 z).ev fun δ S => by rw [evI] <;> rfl
      | _ :: _ :: _ :: _, _, _, h4, _ => simp at h4
    · cases h
  | .enum a, tx, C, k, X, A, tg, x, h => by
    unfold chkI at h
    split at h
    · simp only [Bool.and_eq_true, Bool.not_eq_true'] at h
      obtain ⟨⟨⟨h1, h2⟩, h3⟩, h4⟩ := h
      obtain ⟨rfl, g1, g2⟩ := blB_of A h2
      split at h1
      · exact (si_enm g1 g2 (sndE a A h4) (star1 h3 _ _)).ev fun δ S => by rw [evI] <;> rfl
      · cases h1
    · cases h
end
end Ev

namespace Ev
open PySem PySem.Spec
open PyProof.Rows L2

structure AmbS (tx : Tx) (C : Cl) (k : Nat) (X : Cx) : Prop extends Amb tx C k X where
  kind : X.env.scope.kind = .function
  fnT : X.fn = fun _ => true
  xeF : X.xe = fun _ _ => False
theorem AmbS.pass {tx : Tx} {C : Cl} {k : Nat} {X : Cx} (A : AmbS tx C k X) : PassesOwn (model X.prog X.w) X.A X.env X.xe := by
  rw [A.xeF]; exact PassesOwn.never
theorem sw_cell {elt : Expr} {gs : List Comprehension} {scope : Scope} {pos py : Pos} {y : Str} {l : Nat} {env : PySem.Env} (hy : env.scope.names.lookup y = some .cell) : swapsWith (.ListComp elt gs scope pos) (some (.Name y py)) l env = pure false := by
  have ky : env.kindOf y = some .cell := hy
  unfold swapsWith
  simp only [ky]
  have e : ((some NameKind.cell : Option NameKind) == some .local) = false := by decide
  rw [e, Bool.and_false, Bool.false_and, Bool.false_and]
theorem sole_not {t e : Expr} (h : isComp e = false) (l : Nat) (env : PySem.Env) : swapsWithSole [t] e l env = pure false := swaps_not h (some t) l env
theorem sole_cell {elt : Expr} {gs : List Comprehension} {scope : Scope} {pos py : Pos} {y : Str} {env : PySem.Env} (hy : env.scope.names.lookup y = some .cell) (l : Nat) : swapsWithSole [.Name y py] (.ListComp elt gs scope pos) l env = pure false := sw_cell (l := l) hy
theorem not_list {t : Expr} (h : (match t with | .List _ _ => false | _ => true) = true) : ∀ es p, t ≠ .List es p := by
  intro es p e
  subst e
  cases h
theorem swapped_no {t e : Expr} (h : (!isTup t || !isTup e) = true) (h2 : ∀ es p, t ≠ .List es p) (env : PySem.Env) : swappedStores [t] e env = pure none := by
  rw [Bool.or_eq_true, Bool.not_eq_true', Bool.not_eq_true'] at h
  rcases h with h | h
  · exact swapped_tgt h h2 env
  · exact swapped_val h env
theorem assignEach_one {N : List Str} {fn : Str → Bool} {t : Tg} {sc : Scope} {tg : Expr} (h : chkG N fn t sc tg = true) (env : PySem.Env) : (assignEach [tg] env).map (·.2) = [assign tg env] := by
  refine assignEach_map ?_ []
  cases t <;> unfold chkG at h <;> (split at h) <;> first | rfl | cases h
mutual
theorem sndS : ∀ (s : S) {tx : Tx} {C : Cl} {k : Nat} {X : Cx} (A : AmbS tx C k X) {x : Stmt}, chkS tx X.N s X.env.scope x = true → PS X x (tS X.K (evS C s))
  | .asg t a, tx, C, k, X, A, x, h => by
    unfold chkS at h
    split at h
    · rename_i tg v stp
      simp only [Bool.and_eq_true] at h
      obtain ⟨⟨⟨⟨h1, h2⟩, h3⟩, h4⟩, h5⟩ := h
      have g := sndG t rfl A.fnT A.nd A.calm h3
      have sw0 := swapped_no h2 (not_list h1) X.env
      have one := assignEach_one h3 X.env
      by_cases hc : isComp v = false
      · exact (s_asg (sndE a A.toAmb h4) g (swaps_not hc _ _ _) sw0 one).ev fun δ S => by rw [evS] <;> rfl
      · rw [Bool.not_eq_false] at hc
        rw [hc] at h5
        simp only [Bool.not_true, Bool.false_or] at h5
        split at h5
        · rename_i y py _ gen scope cpos
          split at h5
          · rename_i hy
            unfold kin at hy
            have hh : (py.line == cpos.line) = true ∧ (scope.names.any fun (n, k) => n == y && (k == .local || k == .cell)) = false := by
              simpa only [swapC, Bool.and_eq_true, Bool.not_eq_true'] using h5
            cases a with
            | lc m elt t' it ifs own =>
              unfold chkE at h4
              split at h4
              · rename_i z1 tg' iter fs as scope' p' hz
                cases hz
                simp only [Bool.and_eq_true, Bool.not_eq_true', decide_eq_true_eq] at h4
                obtain ⟨⟨⟨⟨⟨⟨⟨rfl, q1⟩, q2⟩, q3⟩, q4⟩, q5⟩, q6⟩, q7⟩ := h4
                cases t with
                | nm i =>
                  unfold chkG at h3
                  simp only [Bool.and_eq_true, beq_iff_eq] at h3
                  refine (s_asgLc (m := m) (own := ownN X.N own) A.calm A.nd ?_ h3.1.1 hy (sw_true A.kind hy hh.1 hh.2) (sndI it A.toAmb q4) (blkOk_by q2) (fun s H C' cl fp => sndG t' (X := X.blk s H _ (compEnvC _ cl C' X.env) fp) rfl rfl A.nd A.calm q5) (fun s H C' cl fp => sndF ifs (A.toAmb.blk s H _ _ fp) q6) (fun s H C' cl fp => sndE elt (A.toAmb.blk s H _ _ fp) q7) (folded_not q1 _)).ev fun δ S => ?_
                  · rw [ownN_snd]
                    intro i hi
                    exact List.contains_iff_mem.mp (List.all_eq_true.mp q3 i hi)
                  · rw [ownN_snd, evS, turnC_eq]
                | tup ts => unfold chkG at h3; cases h3
              · cases h4
            | _ => unfold chkE at h4; cases h4
          · rename_i hy
            exact (s_asg (pos := stp) (sndE a A.toAmb h4) g (sole_cell hy _) sw0 one).ev fun δ S => by rw [evS] <;> rfl
          · cases h5
        · cases h5
    · cases h
  | .par i j a b, tx, C, k, X, A, x, h => by
    unfold chkS at h
    split at h
    · simp only [Bool.and_eq_true, beq_iff_eq, Bool.not_eq_true'] at h
      obtain ⟨⟨⟨⟨⟨h1, h2⟩, h3⟩, h4⟩, h5⟩, h6⟩ := h
      have h7 := h4
      simp only [parB, Bool.and_eq_true, Bool.not_eq_true', beq_iff_eq] at h7
      obtain ⟨⟨⟨⟨⟨⟨⟨l1, l2⟩, l3⟩, l4⟩, l5⟩, l6⟩, l7⟩, l8⟩ := h7
      exact (s_par A.calm A.nd h1 h2 (by intro e; subst e; simp at h3) l1 l2 (sndE a A.toAmb h5) (sndE b A.toAmb h6) (star1 l5 _ _) (star1 l6 _ _) (par_swapped A.kind h4)).ev fun δ S => by rw [evS] <;> rfl
    · cases h
  | .aug i o a, tx, C, k, X, A, x, h => by
    unfold chkS at h
    split at h
    · simp only [Bool.and_eq_true, beq_iff_eq] at h
      obtain ⟨⟨⟨⟨h1, h2⟩, h3⟩, h4⟩, h5⟩ := h
      rw [isOp_eq h4]
      have hf : ∀ y : Str, X.fn y = true := fun y => by rw [A.fnT]
      cases o with
      | add => exact (s_aug .add true rfl A.nd h1 (isLoc_loc h2) (.inl (hf _)) (sndE a A.toAmb h5)).ev fun δ S => by rw [evS] <;> rfl
      | sub => exact (s_aug .sub false rfl A.nd h1 (isLoc_loc h2) (.inl (hf _)) (sndE a A.toAmb h5)).ev fun δ S => by rw [evS] <;> rfl
      | _ => cases h3
    · cases h
  | .put a i v, tx, C, k, X, A, x, h => by
    unfold chkS at h
    split at h
    · simp only [Bool.and_eq_true, Bool.not_eq_true'] at h
      obtain ⟨⟨⟨⟨h1, h2⟩, h3⟩, h4⟩, h5⟩ := h
      exact (s_put (sndE v A.toAmb h3) (sndE a A.toAmb h4) (sndE i A.toAmb h5) (sole_not h2 _ _) (swapped_tgt rfl (fun _ _ e => by cases e) _) (assignEach_map rfl []) (put_shape h1 _)).ev fun δ S => by rw [evS] <;> rfl
    · cases h
  | .ex a, tx, C, k, X, A, x, h => by
    unfold chkS at h
    split at h
    · simp only [Bool.and_eq_true, Bool.not_eq_true'] at h
      exact (s_ex (sndE a A.toAmb h.2) (swaps_not h.1 _ _ _)).ev fun δ S => by rw [evS] <;> rfl
    · cases h
  | .ret a, tx, C, k, X, A, x, h => by
    unfold chkS at h
    split at h
    · exact (s_ret (sndE a A.toAmb h)).ev fun δ S => by rw [evS] <;> rfl
    · cases h
  | .retN, tx, C, k, X, A, x, h => by
    unfold chkS at h
    split at h
    · exact s_retN.ev fun δ S => by rw [evS] <;> rfl
    · cases h
  | .ife c a b, tx, C, k, X, A, x, h => by
    unfold chkS at h
    split at h
    · simp only [Bool.and_eq_true] at h
      exact (s_ife (sndT c A.toAmb h.1.1) (sndSs a A h.1.2) (sndSs b A h.2)).ev fun δ S => by rw [evS] <;> rfl
    · cases h
  | .loop t it b, tx, C, k, X, A, x, h => by
    unfold chkS at h
    split at h
    · simp only [Bool.and_eq_true, Bool.not_eq_true'] at h
      obtain ⟨⟨⟨h1, h2⟩, h3⟩, h4⟩ := h
      exact (s_loop A.pass A.calm (sndI it A.toAmb h2) (sndG t rfl A.fnT A.nd A.calm h3) (sndSs b A h4) (folded_not h1 _)).ev fun δ S => by rw [evS] <;> rfl
    · cases h
  | .whl c b, tx, C, k, X, A, x, h => by
    unfold chkS at h
    split at h
    · simp only [Bool.and_eq_true] at h
      exact (s_whl C.turns A.pass (sndT c A.toAmb h.1) (sndSs b A h.2)).ev fun δ S => by rw [evS] <;> rfl
    · cases h
  | .pass, tx, C, k, X, A, x, h => by
    unfold chkS at h
    split at h
    · exact s_pass.ev fun δ S => by rw [evS] <;> rfl
    · cases h
  | .brk, tx, C, k, X, A, x, h => by
    unfold chkS at h
    split at h
    · exact s_brk.ev fun δ S => by rw [evS] <;> rfl
    · cases h
  | .cont, tx, C, k, X, A, x, h => by
    unfold chkS at h
    split at h
    · exact s_cont.ev fun δ S => by rw [evS] <;> rfl
    · cases h
theorem sndSs : ∀ (s : Ss) {tx : Tx} {C : Cl} {k : Nat} {X : Cx} (A : AmbS tx C k X) {x : List Stmt}, chkSs tx X.N s X.env.scope x = true → PSs X x (tS X.K (evSs C s))
  | .nil, tx, C, k, X, A, x, h => by
    unfold chkSs at h
    split at h
    · exact ss_nil.ev fun δ S => by rw [evSs] <;> rfl
    · cases h
  | .cons s r, tx, C, k, X, A, x, h => by
    unfold chkSs at h
    split at h
    · rw [Bool.and_eq_true] at h
      exact (ss_cons (sndS s A h.1) (sndSs r A h.2)).ev fun δ S => by rw [evSs] <;> rfl
    · cases h
  | .frz i r, tx, C, k, X, A, x, h => by
    unfold chkSs at h
    exact (ss_frz i (sndSs r A h)).ev fun δ S => by rw [evSs] <;> rfl
end

/-! ### a def -/
section
variable {P : Program} {w : World} {K : PySem.W.Frag} {mg : Str → Option Value} {base : Heap}
theorem callv_len {C : Cl} {df : Df} {xs : List D} {S : Sto} {r : D × Sto} (h : callv C df xs S = some r) : xs.length = df.many := by
  unfold callv at h
  split at h
  · assumption
  · cases h
theorem fin_Pst {df : Df} {Z μ : List Addr} {S S1 S' : Sto} {H : Hp} {d d1 : D} {Q : VK} (hw : Wd K Z μ S H) (h : callv.fin df S d1 S1 = some (d, S')) (p : Pst K Z μ S H S' d Q) : Pst K Z μ S H S1 d1 Q := by
  unfold callv.fin at h
  split at h
  · split at h
    · rename_i hb
      obtain ⟨rfl, rfl⟩ := some2 h
      rw [Bool.and_eq_true] at hb
      intro μ' H' v w1 l1 r1
      obtain ⟨w2, s2⟩ := w1.cut S.length hb.2
      refine p _ H' v w2 ⟨fun i a e => ?_, l1.s.trans s2, l1.h⟩ (R.cut S.length (r1.mono (fun _ _ e => e) s2) hb.1)
      have hi : i < S.length := by
        obtain ⟨o, ho⟩ := hw.sto e
        exact (List.getElem?_eq_some_iff.mp ho).1
      rw [List.getElem?_take_of_lt hi]
      exact l1.g i a e
    · cases h
  · obtain ⟨rfl, rfl⟩ := some2 h
    exact p
theorem def_ok {x qual : Str} {st : Stmt} {f : Addr} {fd : FuncData} {N ps : List Str} {n : Nat} {tx : Tx} {C : Cl} {df : Df} (F : Fun K x qual st f fd) (Sc : FnScope N ps (defScope st)) (hm : df.many = ps.length) (hs : df.slots = N.length)
    (hc : chkSs tx N df.body (defScope st) (defBody st) = true)
    (fn : ∀ f x, tx.names[f]? = some x → ∃ a fd ps, mg x = some (.ref a) ∧ PySem.W.keepIn K (.ref a) = true ∧ Binds K fd ps [] ∧ FnOk P w K mg base CX0 n a fd ps (spF K (C.fn f)))
    (blt : ∀ x ∈ blts, mg x = none) (glb : ∀ x d, tx.glb.lookup x = some d → ∃ u v, mg x = some u ∧ RelV v u ∧ ∀ μ F, R K μ F v d) : FnOk P w K mg base CX0 (n + 1) f fd ps (spF K (callv C df)) := by
  refine Fun.ok F Sc (fun vs H Q E ⟨Z, μ, S, ds, d, S', _, r, h, _⟩ => by rw [r.len, callv_len h, hm]) fun cdv A outer s H vs Q E room hsp => ?_
  have amb : AmbS tx C n (cxOf CX0 P w K mg base N qual (defScope st) f cdv A outer s H E).nox := ⟨⟨rfl, Sc.nd, room, fn, blt, glb⟩, Sc.kind, rfl, rfl⟩
  refine ⟨_, sndSs df.body amb hc, ?_⟩
  obtain ⟨Z, μ, S, ds, d, S', wd, r, h, p⟩ := hsp
  have hl := callv_len h
  unfold callv at h
  rw [if_pos hl] at h
  obtain ⟨⟨fl, δ', S1⟩, g1, g2⟩ := bindE h
  refine ⟨Z, μ, S, _, fl, δ', S1, ⟨wd, ?_⟩, g1, ?_⟩
  · unfold L2.start
    rw [show df.slots - ds.length = N.length - vs.length by rw [hs, r.len]]
    exact RE.start _ r
  · intro μ' H' w1 l1
    cases fl with
    | nx => exact fun σ' _ => fin_Pst wd g2 p μ' H' .non w1 l1 .non
    | rt d1 => exact fun v rv => fin_Pst wd g2 p μ' H' v w1 l1 rv
    | bk => cases g2
    | ct => cases g2
end
end Ev

namespace Ev
open PySem PySem.Spec
open PyProof.Rows L2

/-- a def of the text: its name, its names by slots, its parameters, its statement, its text in the small language -/
structure Rw where
  x : Str
  N : List Str
  ps : List Str
  st : Stmt
  df : Df
def RowK (K : PySem.W.Frag) (r : Rw) : Prop := ∃ f fd, Fun K r.x r.x r.st f fd ∧ PySem.W.nsIn K mainGlobals r.x = some (some (.ref f)) ∧ ∀ us : List Value, us.length = r.ps.length → bindArgs fd ⟨us, []⟩ = pure (r.ps.zip us)
def rowC (tx : Tx) (r : Rw) : Bool :=
  C8.scC r.N r.ps (defScope r.st) && decide (r.df.many = r.ps.length) && decide (r.df.slots = r.N.length) && chkSs tx r.N r.df.body (defScope r.st) (defBody r.st)
def txOf (L : List Rw) (glb : List (Str × D)) : Tx := ⟨L.map (·.x), glb⟩
section
variable {P : Program} {w : World} {K : PySem.W.Frag} {mg : Str → Option Value} {h : Heap}
theorem all_fn {L : List Rw} {glb : List (Str × D)} (turns : Nat) (X : K.In h) (G : h.Ns mainGlobals mg) (hK : ∀ r ∈ L, RowK K r) (hc : L.all (rowC (txOf L glb)) = true)
    (blt : ∀ x ∈ blts, PySem.W.nsIn K mainGlobals x = some none) (gl : ∀ x d, glb.lookup x = some d → ∃ u v, PySem.W.nsIn K mainGlobals x = some (some u) ∧ RelV v u ∧ ∀ μ F, R K μ F v d) :
    ∀ n f r, L[f]? = some r → ∃ a fd, mg r.x = some (.ref a) ∧ PySem.W.keepIn K (.ref a) = true ∧ (∀ us : List Value, us.length = r.ps.length → bindArgs fd ⟨us, []⟩ = pure (r.ps.zip us)) ∧ ∀ base : Heap, FnOk P w K mg base CX0 n a fd r.ps (spF K (fnN (L.map (·.df)) turns n f)) := by
  intro n
  induction n with
  | zero =>
    intro f r hr
    obtain ⟨a, fd, F, ns, b⟩ := hK r (List.mem_of_getElem? hr)
    refine ⟨a, fd, PySem.W.mg_of X G ns, F.kp, b, fun base => ⟨fun vs H Q E z => ?_, fun A outer s H args us vs Q E _ _ _ _ z => ?_⟩⟩
    · obtain ⟨_, _, _, _, _, _, _, _, q, _⟩ := z
      cases q
    · obtain ⟨_, _, _, _, _, _, _, _, q, _⟩ := z
      cases q
  | succ n ih =>
    intro f r hr
    obtain ⟨a, fd, F, ns, b⟩ := hK r (List.mem_of_getElem? hr)
    have c := List.all_eq_true.mp hc r (List.mem_of_getElem? hr)
    simp only [rowC, Bool.and_eq_true, decide_eq_true_eq] at c
    obtain ⟨⟨⟨c1, c2⟩, c3⟩, c4⟩ := c
    refine ⟨a, fd, PySem.W.mg_of X G ns, F.kp, b, fun base => ?_⟩
    have e : fnN (L.map (·.df)) turns (n + 1) f = callv ⟨fnN (L.map (·.df)) turns n, turns⟩ r.df := by
      funext xs S
      have e1 : (L.map (·.df))[f]? = some r.df := by rw [List.getElem?_map, hr]; rfl
      show (match (L.map Rw.df)[f]? with | some df => callv ⟨fnN (L.map Rw.df) turns n, turns⟩ df xs S | none => none) = _
      rw [e1]
    rw [e]
    refine def_ok F (C8.fnScope_by c1) c2 c3 c4 (fun g x hx => ?_) (fun x hx => PySem.W.mg_none_of X G (blt x hx)) (fun x d hd => ?_)
    · have hx : (L.map (·.x))[g]? = some x := hx
      rw [List.getElem?_map] at hx
      obtain ⟨r2, h2, rfl⟩ := mapE hx
      obtain ⟨a2, fd2, q1, q2, q3, q4⟩ := ih g r2 h2
      exact ⟨a2, fd2, r2.ps, q1, q2, .all q3, q4 base⟩
    · obtain ⟨u, v, g1, g2, g3⟩ := gl x d hd
      exact ⟨u, v, PySem.W.mg_of X G g1, g2, g3⟩
theorem row_mk {x : Str} {N ps : List Str} {st : Stmt} {df : Df} {f : Addr} {oc : Value} {od an : Option Addr} {osl : Array (Option Value)} {kV doc pm cdv ct : Value} (a : PySem.W.nsIn K mainGlobals x = some (some (.ref f)))
    (l : K.lookup f = some ⟨oc, od, .func (PySem.W.fnOf x x (defArgs st) (defBody st) (defScope st) .none kV doc pm an cdv ct), osl⟩)
    (c : PySem.W.codeIn K cdv x = true) (k : PySem.W.keepIn K (.ref f) = true)
    (b : ∀ (kV doc pm : Value) (an : Option Addr) (cdv ct : Value) (us : List Value), us.length = ps.length → bindArgs (PySem.W.fnOf x x (defArgs st) (defBody st) (defScope st) .none kV doc pm an cdv ct) ⟨us, []⟩ = pure (ps.zip us)) : RowK K ⟨x, N, ps, st, df⟩ :=
  ⟨f, _, fun_mk l c k, a, b kV doc pm an cdv ct⟩
/-- the law's promise -/
def spLaw (K : PySem.W.Frag) (f : Fn0) : Sp := spF K f
theorem law_start {f : Fn0} {H : Hp} {a : Addr} {ns : List Int} {S' : Sto} (hl : ns.length ≤ 63) (hS : SqL K H a (ns.map V.int)) (h : f [frn (ns.map PyData.int)] [] = some (.bool true, S')) (E : XK) : spF K f [.ref a] H (fun v _ => v = .bl true) E := by
  have e : fz [] [] [] H = H := by
    funext b
    refine fz_of fun z => ?_
    rcases z with z | ⟨i, o, z, _⟩
    · cases z
    · cases z
  have ra : ∀ {F : Hp} (l : List Int), RA K [] F (l.map V.int) (l.map PyData.int) := fun l => by
    induction l with
    | nil => exact .nil
    | cons i l ih => exact .cons (.int i) ih
  refine ⟨[], [], [], [frn (ns.map PyData.int)], .bool true, S', ?_, .cons ?_ .nil, h, fun μ' H' v w l r => by cases r; rfl⟩
  · exact ⟨rfl, List.nodup_nil, (fun b hb => by cases hb), fun i a o hi => by cases hi⟩
  · exact .frn (by rw [e]; exact hS) (by rw [List.length_map]; exact Nat.le_trans hl (by decide)) (ra ns)
end
end Ev

namespace Ev
open PySem PySem.Spec
open PyProof.Rows L2
/-! ### reckoning by values -/
section
variable {m : Bool} {S : Sto} {i j : Int} {xs ys : List D} {x y : Str} {d : D}
@[simp] theorem v_addI : opv .add m (.int i) (.int j) S = some (.int (i + j), S) := rfl
@[simp] theorem v_addT : opv .add m (.tuple xs) (.tuple ys) S = if xs.length + ys.length ≤ sizeLine then some (.tuple (xs ++ ys), S) else none := rfl
@[simp] theorem v_addL : opv .add m (.list xs) (.list ys) S = if xs.length + ys.length ≤ sizeLine then some (mkl m (xs ++ ys) S) else none := rfl
@[simp] theorem v_subI : opv .sub m (.int i) (.int j) S = some (.int (i - j), S) := rfl
@[simp] theorem v_mulI : opv .mul m (.int i) (.int j) S = if smallI i || smallI j then some (.int (i * j), S) else none := rfl
@[simp] theorem v_mulT : opv .mul m (.tuple xs) (.int i) S = if xs ≠ [] ∧ 1 ≤ i ∧ i ≤ 1000 ∧ xs.length ≤ 1000 then some (.tuple (List.replicate i.toNat xs).flatten, S) else none := rfl
@[simp] theorem v_fdivI : opv .fdiv m (.int i) (.int j) S = if decide (0 < j) && decide (j < 1073741824) then some (.int (i / j), S) else none := rfl
@[simp] theorem v_modI : opv .mod m (.int i) (.int j) S = if decide (0 < j) then some (.int (i % j), S) else none := rfl
@[simp] theorem v_powI : opv .pow m (.int i) (.int j) S = if decide (0 ≤ j) && decide (j ≤ 1000000) && decide (i.natAbs < 2 ^ 64) then some (.int (i ^ j.toNat), S) else none := rfl
@[simp] theorem c_eqI : cmpv .Eq (.int i) (.int j) S = some (decide (i = j)) := rfl
@[simp] theorem c_neI : cmpv .NotEq (.int i) (.int j) S = some (!decide (i = j)) := rfl
@[simp] theorem c_eqS : cmpv .Eq (.str x) (.str y) S = some (decide (x = y)) := rfl
@[simp] theorem c_neS : cmpv .NotEq (.str x) (.str y) S = some (!decide (x = y)) := rfl
@[simp] theorem c_eqB {a b : Bool} : cmpv .Eq (.bool a) (.bool b) S = some (decide (a = b)) := rfl
@[simp] theorem c_neB {a b : Bool} : cmpv .NotEq (.bool a) (.bool b) S = some (!decide (a = b)) := rfl
@[simp] theorem c_ltI : cmpv .Lt (.int i) (.int j) S = some (decide (i < j)) := rfl
@[simp] theorem c_leI : cmpv .LtE (.int i) (.int j) S = some (decide (i ≤ j)) := rfl
@[simp] theorem c_gtI : cmpv .Gt (.int i) (.int j) S = some (decide (j < i)) := rfl
@[simp] theorem c_geI : cmpv .GtE (.int i) (.int j) S = some (decide (j ≤ i)) := rfl
@[simp] theorem c_isN0 : cmpv .Is .none .none S = some true := rfl
@[simp] theorem c_isNi : cmpv .Is (.int i) .none S = some false := rfl
@[simp] theorem c_isNs : cmpv .Is (.str x) .none S = some false := rfl
@[simp] theorem c_isNt : cmpv .Is (.tuple xs) .none S = some false := rfl
@[simp] theorem c_isNl : cmpv .Is (.list xs) .none S = some false := rfl
@[simp] theorem c_inN0 : cmpv .IsNot .none .none S = some false := rfl
@[simp] theorem c_inNi : cmpv .IsNot (.int i) .none S = some true := rfl
@[simp] theorem c_inNs : cmpv .IsNot (.str x) .none S = some true := rfl
@[simp] theorem c_inNt : cmpv .IsNot (.tuple xs) .none S = some true := rfl
@[simp] theorem t_N : truv .none S = some false := rfl
@[simp] theorem t_B {b : Bool} : truv (.bool b) S = some b := rfl
@[simp] theorem t_I : truv (.int i) S = some (i != 0) := rfl
@[simp] theorem t_T : truv (.tuple xs) S = some (!xs.isEmpty) := rfl
@[simp] theorem t_L : truv (.list xs) S = some (!xs.isEmpty) := rfl
@[simp] theorem l_T : biv .len m [.tuple xs] S = some (.int xs.length, S) := rfl
@[simp] theorem l_L : biv .len m [.list xs] S = some (.int xs.length, S) := rfl
@[simp] theorem l_F : biv .len m [frn xs] S = some (.int xs.length, S) := rfl
@[simp] theorem b_abs : biv .abs m [.int i] S = some (.int (if i < 0 then -i else i), S) := rfl
@[simp] theorem b_int : biv .int m [.int i] S = some (.int i, S) := rfl
@[simp] theorem b_intB {b : Bool} : biv .int m [.bool b] S = some (.int (if b then 1 else 0), S) := rfl
@[simp] theorem b_max : biv .max m [.int i, .int j] S = some (.int (if j > i then j else i), S) := rfl
@[simp] theorem b_tupT : biv .tuple m [.tuple xs] S = some (.tuple xs, S) := rfl
@[simp] theorem b_tupL : biv .tuple m [.list xs] S = some (.tuple xs, S) := rfl
@[simp] theorem b_lstT : biv .list m [.tuple xs] S = some (mkl m xs S) := rfl
@[simp] theorem b_lstL : biv .list m [.list xs] S = some (mkl m xs S) := rfl
@[simp] theorem b_lstF : biv .list m [frn xs] S = some (mkl m xs S) := rfl
@[simp] theorem b_sumL : biv .sum m [.list xs] S = (intsOf xs).map fun ns => (.int ns.sum, S) := rfl
@[simp] theorem x_T : ixv (.tuple xs) (.int i) S = atI xs i := rfl
@[simp] theorem x_L : ixv (.list xs) (.int i) S = atI xs i := rfl
@[simp] theorem mkl_f : mkl false xs S = (.list xs, S) := rfl
@[simp] theorem mkl_t : mkl true xs S = (rf S.length, S ++ [.lst xs]) := rfl
@[simp] theorem s_T {lo hi : Option Int} : slcv m (.tuple xs) lo hi S = some (.tuple (cutD xs lo hi), S) := rfl
@[simp] theorem s_L {lo hi : Option Int} : slcv m (.list xs) lo hi S = some (mkl m (cutD xs lo hi) S) := rfl
@[simp] theorem sq_L : seqv (.list xs) S = some xs := rfl
@[simp] theorem p_I : partv (.int i) = some (some i) := rfl
@[simp] theorem au_a : augv .add (.int i) (.int j) = some (.int (i + j)) := rfl
@[simp] theorem au_s : augv .sub (.int i) (.int j) = some (.int (i - j)) := rfl
@[simp] theorem rc_T : rcvT (.tuple xs) S = true := rfl
@[simp] theorem rc_L : rcvT (.list xs) S = true := rfl
theorem x_rf {n : Nat} (h : S[n]? = some (.lst xs)) : ixv (rf n) (.int i) S = atI xs i := by
  show ((match asRf (rf n) with | some i => (match S[i]? with | some (.lst xs) => some xs | _ => none) | none => none).bind fun xs => atI xs i) = _
  rw [asRf_rf]
  show ((match S[n]? with | some (.lst xs) => some xs | _ => none).bind fun xs => atI xs i) = _
  rw [h]
  rfl
theorem sq_rf {n : Nat} (h : S[n]? = some (.lst xs)) : seqv (rf n) S = some xs := by
  show ((match asRf (rf n) with | some i => (match S[i]? with | some (.lst xs) => some xs | _ => none) | none => none)) = _
  rw [asRf_rf]
  show ((match S[n]? with | some (.lst xs) => some xs | _ => none)) = _
  rw [h]
@[simp] theorem x_rf0 {R : Sto} : ixv (rf 0) (.int i) (.lst xs :: R) = atI xs i := x_rf rfl
@[simp] theorem sq_rf0 {R : Sto} : seqv (rf 0) (.lst xs :: R) = some xs := sq_rf rfl
@[simp] theorem at_0 {α : Type} {a : α} {l : List α} : atI (a :: l) 0 = some a := by simp [atI, ixN]
@[simp] theorem at_1 {α : Type} {a b : α} {l : List α} : atI (a :: b :: l) 1 = some b := by
  unfold atI ixN
  rw [if_pos (by decide), if_pos (by simp only [List.length_cons]; omega)]
  rfl
@[simp] theorem at_2 {α : Type} {a b c : α} {l : List α} : atI (a :: b :: c :: l) 2 = some c := by
  unfold atI ixN
  rw [if_pos (by decide), if_pos (by simp only [List.length_cons]; omega)]
  rfl
@[simp] theorem at_3 {α : Type} {a b c d : α} {l : List α} : atI (a :: b :: c :: d :: l) 3 = some d := by
  unfold atI ixN
  rw [if_pos (by decide), if_pos (by simp only [List.length_cons]; omega)]
  rfl
theorem at_nat {α : Type} {l : List α} {n : Nat} {a : α} (h : l[n]? = some a) : atI l (n : Int) = some a := by
  have hl : n < l.length := (List.getElem?_eq_some_iff.mp h).1
  unfold atI ixN
  rw [if_pos (by omega), if_pos (by omega), Option.bind_some, Int.toNat_natCast, h]
end
/-! ### the evaluator by constructs (walks and comprehensions apart) -/
section
variable {C : Cl} {δ : DE} {S : Sto} {a b c : E} {es : Es} {m : Bool}
theorem e_var {i : Nat} : evE C (.var i) δ S = match δ[i]? with | some (some d) => some (d, S) | _ => none := by rw [evE] <;> rfl
theorem e_cst {d : D} : evE C (.cst d) δ S = some (d, S) := by rw [evE]
theorem e_glo {x : Str} {d : D} : evE C (.glo x d) δ S = some (d, S) := by rw [evE]
theorem e_op {o : O2} : evE C (.op o m a b) δ S = (evE C a δ S).bind fun p => (evE C b δ p.2).bind fun q => opv o m p.1 q.1 q.2 := by rw [evE]
theorem e_neg : evE C (.neg a) δ S = (evE C a δ S).bind fun p => match p.1 with | .int i => some (.int (-i), p.2) | _ => none := by rw [evE] <;> rfl
theorem e_cmp {o : CmpOp} : evE C (.cmp o a b) δ S = (evE C a δ S).bind fun p => (evE C b δ p.2).bind fun q => (cmpv o p.1 q.1 q.2).map fun k => (.bool k, q.2) := by rw [evE]
theorem e_cmp2 {o o' : CmpOp} : evE C (.cmp2 o o' a b c) δ S = (evE C a δ S).bind fun p => (evE C b δ p.2).bind fun q => (cmpv o p.1 q.1 q.2).bind fun k =>
      if k then (evE C c δ q.2).bind fun r => (cmpv o' q.1 r.1 r.2).map fun k' => (.bool k', r.2) else some (.bool false, q.2) := by rw [evE]
theorem e_bop {k : Bool} : evE C (.bop k es) δ S = evB C k es δ S := by rw [evE]
theorem e_not : evE C (.not a) δ S = (evE C a δ S).bind fun p => (truv p.1 p.2).map fun k => (.bool !k, p.2) := by rw [evE]
theorem e_ife {t : T} : evE C (.ife t a b) δ S = (evT C t δ S).bind fun p => if p.1 then evE C a δ p.2 else evE C b δ p.2 := by rw [evE]
theorem e_tup : evE C (.tup es) δ S = (evA C es δ S).bind fun p => if p.1.length ≤ sizeLine then some (.tuple p.1, p.2) else none := by rw [evE]
theorem e_lst : evE C (.lst m es) δ S = (evA C es δ S).bind fun p => if p.1.length ≤ sizeLine then some (mkl m p.1 p.2) else none := by rw [evE]
theorem e_sub : evE C (.sub a b) δ S = (evE C a δ S).bind fun p => (evE C b δ p.2).bind fun q => (ixv p.1 q.1 q.2).map fun d => (d, q.2) := by rw [evE]
theorem e_slc {lo hi : O} : evE C (.slc m a lo hi) δ S = (evE C a δ S).bind fun p => (evO C lo δ p.2).bind fun q => (evO C hi δ q.2).bind fun r => slcv m p.1 q.1 r.1 r.2 := by rw [evE]
theorem e_rvs : evE C (.rvs m a) δ S = (evE C a δ S).bind fun p => (seqv p.1 p.2).map fun xs => mkl m xs.reverse p.2 := by rw [evE]
theorem e_call {f : Nat} : evE C (.call f es) δ S = (evA C es δ S).bind fun p => C.fn f p.1 p.2 := by rw [evE]
theorem e_bi {f : Bi} : evE C (.bi f m es) δ S = (evA C es δ S).bind fun p => biv f m p.1 p.2 := by rw [evE]
theorem e_rgl {k : Bool} : evE C (.rgl k m es) δ S = (evA C es δ S).bind fun p => (rngv p.1).bind fun r => if r.2 ≤ 2 ^ 24 then some (if k then (.tuple (rngD r.1 r.2), p.2) else mkl m (rngD r.1 r.2) p.2) else none := by rw [evE]
theorem e_isi {t : Ty} : evE C (.isi a t) δ S = (evE C a δ S).bind fun p => (isv t p.1).map fun k => (.bool k, p.2) := by rw [evE]
theorem e_meth {t : Mt} : evE C (.meth t a es) δ S = (evE C a δ S).bind fun p => if (seqv p.1 p.2).isSome then (evA C es δ p.2).bind fun q => mtv t p.1 q.1 q.2 else none := by rw [evE]
theorem e_idx : evE C (.idx a b) δ S = (evE C a δ S).bind fun p => if rcvT p.1 p.2 then (evE C b δ p.2).bind fun q => (idxv p.1 q.1 q.2).map fun d => (d, q.2) else none := by rw [evE]
theorem eb_1 {k : Bool} : evB C k (.cons a .nil) δ S = evE C a δ S := by rw [evB]
theorem eb_2 {k : Bool} : evB C k (.cons a (.cons b es)) δ S = (evE C a δ S).bind fun p => (truv p.1 p.2).bind fun t => if t = k then evB C k (.cons b es) δ p.2 else some (p.1, p.2) := by rw [evB]; intro q; cases q
theorem et_val : evT C (.val a) δ S = (evE C a δ S).bind fun p => (truv p.1 p.2).map fun k => (k, p.2) := by rw [evT]
theorem et_not {t : T} : evT C (.not t) δ S = (evT C t δ S).map fun p => (!p.1, p.2) := by rw [evT]
theorem et_bop {k : Bool} {ts : Ts} : evT C (.bop k ts) δ S = evTs C k ts δ S := by rw [evT]
theorem ets_1 {k : Bool} {t : T} : evTs C k (.cons t .nil) δ S = evT C t δ S := by rw [evTs]
theorem ets_2 {k : Bool} {t u : T} {ts : Ts} : evTs C k (.cons t (.cons u ts)) δ S = (evT C t δ S).bind fun p => if p.1 = k then evTs C k (.cons u ts) δ p.2 else some (!k, p.2) := by rw [evTs]; intro q; cases q
theorem eo_g : evO C .gap δ S = some (none, S) := by rw [evO]
theorem eo_a : evO C (.at a) δ S = (evE C a δ S).bind fun p => (partv p.1).map fun i => (i, p.2) := by rw [evO]
theorem ea_n : evA C .nil δ S = some ([], S) := by rw [evA]
theorem ea_c : evA C (.cons a es) δ S = (evE C a δ S).bind fun p => (evA C es δ p.2).map fun q => (p.1 :: q.1, q.2) := by rw [evA]
theorem es_asg {t : Tg} : evS C (.asg t a) δ S = (evE C a δ S).bind fun p => (tgv t p.1 δ).map fun δ' => (.nx, δ', p.2) := by rw [evS]
theorem es_par {i j : Nat} : evS C (.par i j a b) δ S = (evE C a δ S).bind fun p => (evE C b δ p.2).map fun q => (.nx, (δ.set i (some p.1)).set j (some q.1), q.2) := by rw [evS]
theorem es_aug {i : Nat} {o : O2} : evS C (.aug i o a) δ S = match δ[i]? with
    | some (some x) => (evE C a δ S).bind fun p => (augv o x p.1).map fun d => (.nx, δ.set i (some d), p.2)
    | _ => none := by rw [evS] <;> rfl
theorem es_put : evS C (.put a b c) δ S = (evE C c δ S).bind fun v => (evE C a δ v.2).bind fun p => (evE C b δ p.2).bind fun q => match q.1 with
      | .int k => (asRf p.1).bind fun r => match q.2[r]? with
        | some (.lst xs) => (ixN xs.length k).map fun j => (.nx, δ, q.2.set r (.lst (xs.set j v.1)))
        | _ => none
      | _ => none := by rw [evS] <;> rfl
theorem es_ex : evS C (.ex a) δ S = (evE C a δ S).map fun p => (.nx, δ, p.2) := by rw [evS]
theorem es_ret : evS C (.ret a) δ S = (evE C a δ S).map fun p => (.rt p.1, δ, p.2) := by rw [evS]
theorem es_retN : evS C .retN δ S = some (.rt .none, δ, S) := by rw [evS]
theorem es_ife {t : T} {u v : Ss} : evS C (.ife t u v) δ S = (evT C t δ S).bind fun p => if p.1 then evSs C u δ p.2 else evSs C v δ p.2 := by rw [evS]
theorem es_loop {t : Tg} {it : It} {u : Ss} : evS C (.loop t it u) δ S = (evI C it δ S).bind fun p => forv (fun x δ S => (tgv t x δ).bind fun δ' => evSs C u δ' S) p.1.1 δ p.2 := by rw [evS]
theorem ess_n : evSs C .nil δ S = some (.nx, δ, S) := by rw [evSs]
theorem ess_c {s : Ev.S} {r : Ss} : evSs C (.cons s r) δ S = (evS C s δ S).bind fun p => match p.1 with
    | .nx => evSs C r p.2.1 p.2.2
    | f => some (f, p.2.1, p.2.2) := by rw [evSs] <;> rfl
theorem callv_rt {df : Df} {xs : List D} {d : D} {δ' : DE} {S' : Sto} (hl : xs.length = df.many) (ht : df.tidy = false) (h : evSs C df.body (xs.map some ++ List.replicate (df.slots - xs.length) none) S = some (.rt d, δ', S')) : callv C df xs S = some (d, S') := by
  unfold callv
  rw [if_pos hl, h, Option.bind_some]
  show callv.fin df S d S' = _
  unfold callv.fin
  rw [ht]
  rfl
/-! ### walks -/
theorem i_F {xs : List D} {S' : Sto} (h : evE C a δ S = some (frn xs, S')) : evI C (.over a) δ S = some ((xs, true), S') := by rw [evI, h]; rfl
theorem i_L {xs : List D} {S' : Sto} (h : evE C a δ S = some (.list xs, S')) : evI C (.over a) δ S = some ((xs, true), S') := by rw [evI, h]; rfl
theorem i_T {xs : List D} {S' : Sto} (h : evE C a δ S = some (.tuple xs, S')) : evI C (.over a) δ S = some ((xs, true), S') := by rw [evI, h]; rfl
theorem i_R {n : Nat} {S' : Sto} (h : evA C es δ S = some ([.int (n : Int)], S')) (hn : n ≤ 1000000) : evI C (.rng es) δ S = some ((rngD 0 n, true), S') := by
  rw [evI, h]
  have e : rngv [.int (n : Int)] = some (0, n) := by
    show (if b62 (n : Int) then some ((0 : Int), (n : Int).toNat) else none) = _
    have hb : b62 (n : Int) = true := by
      unfold b62
      rw [Bool.and_eq_true, decide_eq_true_iff, decide_eq_true_iff]
      omega
    rw [if_pos hb, Int.toNat_natCast]
  rw [Option.bind_some]
  show ((rngv [.int (n : Int)]).map fun r => ((rngD r.1 r.2, decide (r.2 ≤ sizeLine)), S')) = _
  rw [e, Option.map_some]
  show some ((rngD 0 n, decide (n ≤ sizeLine)), S') = _
  rw [decide_eq_true (by rw [sizeLine_eq]; omega)]
theorem i_ET {xs : List D} {S' : Sto} (h : evE C a δ S = some (.tuple xs, S')) : evI C (.enum a) δ S = some ((enumD 0 xs, true), S') := by rw [evI, h]; rfl
theorem i_EL {xs : List D} {S' : Sto} (h : evE C a δ S = some (.list xs, S')) : evI C (.enum a) δ S = some ((enumD 0 xs, true), S') := by rw [evI, h]; rfl
theorem rngD_get {n i : Nat} {lo : Int} {x : D} (h : (rngD lo n)[i]? = some x) : x = .int (lo + (i : Nat)) ∧ i < n := by
  unfold rngD at h
  rw [List.getElem?_map] at h
  obtain ⟨j, e, rfl⟩ := mapE h
  obtain ⟨h1, h2⟩ := List.getElem?_eq_some_iff.mp e
  rw [List.getElem_range] at h2
  rw [List.length_range] at h1
  exact ⟨by rw [h2], h1⟩
theorem rngD_len {n : Nat} {lo : Int} : (rngD lo n).length = n := by unfold rngD; simp
/-- a for without leaving -/
theorem forv_nx {turn : D → DE → Sto → Option (Fl × DE × Sto)} (P : Nat → DE → Sto → Prop) : ∀ {xs : List D} (k : Nat) {δ : DE} {S : Sto}, (∀ i x δ S, xs[i]? = some x → P (k + i) δ S → ∃ f δ' S', turn x δ S = some (f, δ', S') ∧ (f = .nx ∨ f = .ct) ∧ P (k + i + 1) δ' S') → P k δ S →
    ∃ δ' S', forv turn xs δ S = some (.nx, δ', S') ∧ P (k + xs.length) δ' S'
  | [], k, δ, S, _, h0 => ⟨δ, S, rfl, h0⟩
  | x :: xs, k, δ, S, h, h0 => by
    obtain ⟨f, δ1, S1, e, hf, h1⟩ := h 0 x δ S rfl h0
    obtain ⟨δ2, S2, e2, h2⟩ := forv_nx P (xs := xs) (k + 1) (fun i x δ S hx hp => by
      obtain ⟨f, δ', S', a, b, c⟩ := h (i + 1) x δ S hx (by rw [show k + (i + 1) = k + 1 + i by omega]; exact hp)
      exact ⟨f, δ', S', a, b, by rw [show k + 1 + i + 1 = k + (i + 1) + 1 by omega]; exact c⟩) h1
    refine ⟨δ2, S2, ?_, by rw [List.length_cons, show k + (xs.length + 1) = k + 1 + xs.length by omega]; exact h2⟩
    show ((turn x δ S).bind _) = _
    rw [e, Option.bind_some]
    rcases hf with rfl | rfl <;> exact e2
/-- a for that returns at the first i with a found item -/
theorem forv_rt {turn : D → DE → Sto → Option (Fl × DE × Sto)} (P : Nat → DE → Sto → Prop) : ∀ {xs : List D} (k j : Nat) {δ : DE} {S : Sto} {d : D} {Q : DE → Sto → Prop}, j < xs.length → (∀ i x δ S, i < j → xs[i]? = some x → P (k + i) δ S → ∃ f δ' S', turn x δ S = some (f, δ', S') ∧ (f = .nx ∨ f = .ct) ∧ P (k + i + 1) δ' S') →
    (∀ x δ S, xs[j]? = some x → P (k + j) δ S → ∃ δ' S', turn x δ S = some (.rt d, δ', S') ∧ Q δ' S') → P k δ S →
    ∃ δ' S', forv turn xs δ S = some (.rt d, δ', S') ∧ Q δ' S'
  | [], k, j, δ, S, d, Q, hj, _, _, _ => absurd hj (Nat.not_lt_zero _)
  | x :: xs, k, 0, δ, S, d, Q, hj, _, hr, h0 => by
    obtain ⟨δ1, S1, e, q⟩ := hr x δ S rfl h0
    refine ⟨δ1, S1, ?_, q⟩
    show ((turn x δ S).bind _) = _
    rw [e, Option.bind_some]
  | x :: xs, k, j + 1, δ, S, d, Q, hj, h, hr, h0 => by
    obtain ⟨f, δ1, S1, e, hf, h1⟩ := h 0 x δ S (Nat.succ_pos _) rfl h0
    obtain ⟨δ2, S2, e2, q⟩ := forv_rt P (xs := xs) (Q := Q) (d := d) (k + 1) j (Nat.lt_of_succ_lt_succ hj) (fun i x δ S hi hx hp => by
      obtain ⟨f, δ', S', a, b, c⟩ := h (i + 1) x δ S (Nat.succ_lt_succ hi) hx (by rw [show k + (i + 1) = k + 1 + i by omega]; exact hp)
      exact ⟨f, δ', S', a, b, by rw [show k + 1 + i + 1 = k + (i + 1) + 1 by omega]; exact c⟩) (fun x δ S hx hp => hr x δ S hx (by rw [show k + (j + 1) = k + 1 + j by omega]; exact hp)) h1
    refine ⟨δ2, S2, ?_, q⟩
    show ((turn x δ S).bind _) = _
    rw [e, Option.bind_some]
    rcases hf with rfl | rfl <;> exact e2
/-- a comprehension, item by item -/
theorem lcv_map {turn : D → Sto → Option (Option D × Sto)} {f : D → D} {S : Sto} : ∀ {xs acc : List D}, (∀ x ∈ xs, turn x S = some (some (f x), S)) → lcv turn xs acc S = some (acc ++ xs.map f, S)
  | [], acc, _ => by rw [List.map_nil, List.append_nil]; rfl
  | x :: xs, acc, h => by
    show ((turn x S).bind _) = _
    rw [h x List.mem_cons_self, Option.bind_some]
    show lcv turn xs (acc ++ [f x]) S = _
    rw [lcv_map fun y hy => h y (List.mem_cons_of_mem _ hy), List.map_cons, List.append_assoc]
    rfl
theorem lcv_flt {turn : D → Sto → Option (Option D × Sto)} {p : D → Bool} {f : D → D} {S : Sto} : ∀ {xs acc : List D}, (∀ x ∈ xs, turn x S = some (if p x then some (f x) else none, S)) → lcv turn xs acc S = some (acc ++ (xs.filter p).map f, S)
  | [], acc, _ => by rw [List.filter_nil, List.map_nil, List.append_nil]; rfl
  | x :: xs, acc, h => by
    show ((turn x S).bind _) = _
    rw [h x List.mem_cons_self, Option.bind_some]
    cases hp : p x with
    | true =>
      rw [List.filter_cons_of_pos hp]
      show lcv turn xs (acc ++ [f x]) S = _
      rw [lcv_flt fun y hy => h y (List.mem_cons_of_mem _ hy), List.map_cons, List.append_assoc]
      rfl
    | false =>
      rw [List.filter_cons_of_neg (by rw [hp]; exact Bool.false_ne_true)]
      show lcv turn xs acc S = _
      exact lcv_flt fun y hy => h y (List.mem_cons_of_mem _ hy)
theorem lcv_inv {turn : D → Sto → Option (Option D × Sto)} (P : Nat → List D → Sto → Prop) : ∀ {xs acc : List D} (k : Nat) {S : Sto}, (∀ i x acc S, xs[i]? = some x → P (k + i) acc S → ∃ y S', turn x S = some (some y, S') ∧ P (k + i + 1) (acc ++ [y]) S') → P k acc S →
    ∃ ys S', lcv turn xs acc S = some (ys, S') ∧ P (k + xs.length) ys S'
  | [], acc, k, S, _, h0 => ⟨acc, S, rfl, h0⟩
  | x :: xs, acc, k, S, h, h0 => by
    obtain ⟨y, S1, e, h1⟩ := h 0 x acc S rfl h0
    obtain ⟨ys, S2, e2, h2⟩ := lcv_inv P (xs := xs) (k + 1) (fun i x acc S hx hp => by
      obtain ⟨y, S', a, c⟩ := h (i + 1) x acc S hx (by rw [show k + (i + 1) = k + 1 + i by omega]; exact hp)
      exact ⟨y, S', a, by rw [show k + 1 + i + 1 = k + (i + 1) + 1 by omega]; exact c⟩) h1
    refine ⟨ys, S2, ?_, by rw [List.length_cons, show k + (xs.length + 1) = k + 1 + xs.length by omega]; exact h2⟩
    show ((turn x S).bind _) = _
    rw [e, Option.bind_some]
    exact e2
variable {elt : E} {t : Tg} {it : It} {own : List Nat} {xs : List D} {S' : Sto}
theorem e_lc {ifs : Ts} (hi : evI C it δ S = some ((xs, true), S')) : evE C (.lc m elt t it ifs own) δ S =
    (lcv (fun x S => (tgv t x (wipeD δ own)).bind fun δ' => (evB1 C ifs δ' S).bind fun k => if k.1 then (evE C elt δ' k.2).map fun r => (some r.1, r.2) else some (none, k.2)) xs [] S').map fun r => mkl m r.1 r.2 := by
  rw [evE, hi, Option.bind_some, if_pos rfl]
theorem e_lcmap (f : D → D) (hi : evI C it δ S = some ((xs, true), S')) (h : ∀ x ∈ xs, ((tgv t x (wipeD δ own)).bind fun δ' => evE C elt δ' S') = some (f x, S')) : evE C (.lc m elt t it .nil own) δ S = some (mkl m (xs.map f) S') := by
  rw [e_lc hi, lcv_map (f := f), Option.map_some, List.nil_append]
  intro x hx
  obtain ⟨δ', g1, g2⟩ := bindE (h x hx)
  simp only [g1, Option.bind_some, evB1, if_true, g2, Option.map_some]
theorem e_lcflt (p : D → Bool) (f : D → D) {tt : T} (hi : evI C it δ S = some ((xs, true), S')) (h : ∀ x ∈ xs, ∃ δ', tgv t x (wipeD δ own) = some δ' ∧ evT C tt δ' S' = some (p x, S') ∧ (p x = true → evE C elt δ' S' = some (f x, S'))) :
    evE C (.lc m elt t it (.cons tt .nil) own) δ S = some (mkl m ((xs.filter p).map f) S') := by
  rw [e_lc hi, lcv_flt (p := p) (f := f), Option.map_some, List.nil_append]
  intro x hx
  obtain ⟨δ', g1, g2, g3⟩ := h x hx
  simp only [g1, Option.bind_some, evB1, g2]
  cases hp : p x with
  | true => simp only [if_true, g3 hp, Option.map_some]
  | false => simp
theorem e_lcinv (P : Nat → List D → Sto → Prop) (hi : evI C it δ S = some ((xs, true), S')) (h : ∀ i x acc S, xs[i]? = some x → P i acc S → ∃ y S', ((tgv t x (wipeD δ own)).bind fun δ' => evE C elt δ' S) = some (y, S') ∧ P (i + 1) (acc ++ [y]) S') (h0 : P 0 [] S') :
    ∃ ys S2, evE C (.lc m elt t it .nil own) δ S = some (mkl m ys S2) ∧ P xs.length ys S2 := by
  rw [e_lc hi]
  obtain ⟨ys, S2, e, q⟩ := lcv_inv (turn := fun x S => (tgv t x (wipeD δ own)).bind fun δ' => (evB1 C .nil δ' S).bind fun k => if k.1 then (evE C elt δ' k.2).map fun r => (some r.1, r.2) else some (none, k.2)) P (xs := xs) (acc := []) (S := S') 0 (fun i x acc S hx hp => by
    obtain ⟨y, S', g1, g2⟩ := h i x acc S hx (by rw [Nat.zero_add] at hp; exact hp)
    obtain ⟨δ', g3, g4⟩ := bindE g1
    refine ⟨y, S', ?_, by rw [Nat.zero_add]; exact g2⟩
    simp only [g3, Option.bind_some, evB1, if_true, g4, Option.map_some]) h0
  refine ⟨ys, S2, by rw [e]; rfl, by rw [Nat.zero_add] at q; exact q⟩
end
end Ev

namespace K00
open PySem PySem.Spec
open PyProof.Rows L2 Ev
def f_node_in : Df := ⟨2, 2, false,
    (.cons (.ife (.val (.cmp2 .LtE .Lt (.glo (Str.ofString "FIRST_NODE") (.int 100)) (.var 0) (.op .add false (.glo (Str.ofString "FIRST_NODE") (.int 100)) (.var 1)))) (.cons (.ret (.op .sub false (.var 0) (.glo (Str.ofString "FIRST_NODE") (.int 100))))
    .nil) .nil)
    (.cons (.ret (.neg (.cst (.int 1))))
    .nil))⟩
def f_add_body : Df := ⟨3, 4, false,
    (.cons (.loop (.nm 3) (.over (.var 1)) (.cons (.ife (.val (.cmp .Eq (.sub (.var 3) (.cst (.int 0))) (.cst (.str (Str.ofString "if"))))) (.cons (.ex (.call 2 (.cons (.var 0) (.cons (.var 3) (.cons (.var 2) .nil)))))
    .nil) (.cons (.ife (.val (.cmp .Eq (.sub (.var 3) (.cst (.int 0))) (.cst (.str (Str.ofString "loop"))))) (.cons (.ex (.call 3 (.cons (.var 0) (.cons (.sub (.var 3) (.cst (.int 1))) .nil))))
    .nil) (.cons (.ife (.val (.cmp .Eq (.sub (.var 3) (.cst (.int 0))) (.cst (.str (Str.ofString "break"))))) (.cons (.ex (.meth .append (.var 2) (.cons (.bi .len false (.cons (.var 0) .nil)) .nil)))
    (.cons (.ex (.meth .append (.var 0) (.cons (.tup (.cons (.cst (.str (Str.ofString "jump"))) (.cons (.cst (.int 0)) .nil))) .nil)))
    .nil)) (.cons (.ex (.meth .append (.var 0) (.cons (.var 3) .nil)))
    .nil))
    .nil))
    .nil))
    .nil))
    .nil)⟩
def f_add_choice : Df := ⟨3, 5, false,
    (.cons (.asg (.nm 3) (.bi .len false (.cons (.var 0) .nil)))
    (.cons (.ex (.meth .append (.var 0) (.cons (.tup (.cons (.cst (.str (Str.ofString "unless"))) (.cons (.sub (.var 1) (.cst (.int 1))) (.cons (.cst (.int 0)) .nil)))) .nil)))
    (.cons (.ex (.call 1 (.cons (.var 0) (.cons (.sub (.var 1) (.cst (.int 2))) (.cons (.var 2) .nil)))))
    (.cons (.ife (.val (.cmp .Eq (.bi .len false (.cons (.sub (.var 1) (.cst (.int 3))) .nil)) (.cst (.int 0)))) (.cons (.put (.var 0) (.var 3) (.tup (.cons (.cst (.str (Str.ofString "unless"))) (.cons (.sub (.var 1) (.cst (.int 1))) (.cons (.bi .len false (.cons (.var 0) .nil)) .nil)))))
    (.cons .retN
    .nil)) .nil)
    (.cons (.asg (.nm 4) (.bi .len false (.cons (.var 0) .nil)))
    (.cons (.ex (.meth .append (.var 0) (.cons (.tup (.cons (.cst (.str (Str.ofString "jump"))) (.cons (.cst (.int 0)) .nil))) .nil)))
    (.cons (.put (.var 0) (.var 3) (.tup (.cons (.cst (.str (Str.ofString "unless"))) (.cons (.sub (.var 1) (.cst (.int 1))) (.cons (.bi .len false (.cons (.var 0) .nil)) .nil)))))
    (.cons (.ex (.call 1 (.cons (.var 0) (.cons (.sub (.var 1) (.cst (.int 3))) (.cons (.var 2) .nil)))))
    (.cons (.put (.var 0) (.var 4) (.tup (.cons (.cst (.str (Str.ofString "jump"))) (.cons (.bi .len false (.cons (.var 0) .nil)) .nil))))
    .nil)))))))))⟩
def f_add_loop : Df := ⟨2, 5, false,
    (.cons (.asg (.nm 2) (.bi .len false (.cons (.var 0) .nil)))
    (.cons (.asg (.nm 3) (.lst true .nil))
    (.cons (.ex (.call 1 (.cons (.var 0) (.cons (.var 1) (.cons (.var 3) .nil)))))
    (.cons (.ex (.meth .append (.var 0) (.cons (.tup (.cons (.cst (.str (Str.ofString "jump"))) (.cons (.var 2) .nil))) .nil)))
    (.cons (.loop (.nm 4) (.over (.var 3)) (.cons (.put (.var 0) (.var 4) (.tup (.cons (.cst (.str (Str.ofString "jump"))) (.cons (.bi .len false (.cons (.var 0) .nil)) .nil))))
    .nil))
    .nil)))))⟩
def f_translated : Df := ⟨1, 2, false,
    (.cons (.asg (.nm 1) (.lst true .nil))
    (.cons (.ex (.call 1 (.cons (.var 1) (.cons (.var 0) (.cons (.lst true .nil) .nil)))))
    (.cons (.ret (.bi .tuple false (.cons (.var 1) .nil)))
    .nil)))⟩
def f_is_structure : Df := ⟨1, 1, false,
    (.cons (.ret (.cmp .Eq (.sub (.var 0) (.cst (.int 0))) (.cst (.str (Str.ofString "structure")))))
    .nil)⟩
def f_count_words : Df := ⟨1, 3, false,
    (.cons (.ret (.bi .sum false (.cons (.lc false (.bi .len false (.cons (.var 2) .nil)) (.tup (.cons (.nm 1) (.cons (.nm 2) .nil))) (.over (.var 0)) .nil [1, 2]) .nil)))
    .nil)⟩
def f_size_of_object : Df := ⟨1, 1, false,
    (.cons (.ife (.not (.val (.call 5 (.cons (.var 0) .nil)))) (.cons (.ret (.cst (.int 0)))
    .nil) .nil)
    (.cons (.ret (.op .add false (.call 6 (.cons (.sub (.var 0) (.glo (Str.ofString "SHARED") (.int 6))) .nil)) (.op .mul false (.sub (.var 0) (.glo (Str.ofString "ROOM") (.int 3))) (.bi .len false (.cons (.sub (.var 0) (.glo (Str.ofString "FIELDS") (.int 2))) .nil)))))
    .nil))⟩
def f_bases_of : Df := ⟨1, 4, false,
    (.cons (.asg (.nm 1) (.lst true .nil))
    (.cons (.asg (.nm 2) (.call 6 (.cons (.sub (.var 0) (.cst (.int 0))) .nil)))
    (.cons (.loop (.nm 3) (.over (.sub (.var 0) (.cst (.int 1)))) (.cons (.ex (.meth .append (.var 1) (.cons (.var 2) .nil)))
    (.cons (.aug 2 .add (.call 7 (.cons (.var 3) .nil)))
    .nil)))
    (.cons (.ret (.bi .tuple false (.cons (.var 1) .nil)))
    .nil))))⟩
def f_codes_of : Df := ⟨1, 2, false,
    (.cons (.ife (.not (.val (.call 5 (.cons (.var 0) .nil)))) (.cons (.ret (.tup .nil))
    .nil) .nil)
    (.cons (.ret (.bi .tuple false (.cons (.lc false (.call 4 (.cons (.sub (.var 1) (.cst (.int 3))) .nil)) (.nm 1) (.over (.sub (.var 0) (.glo (Str.ofString "OPERATIONS") (.int 8)))) .nil [1]) .nil)))
    .nil))⟩
def f_program_of : Df := ⟨1, 1, false,
    (.cons (.ife (.val (.cmp .Eq (.sub (.var 0) (.cst (.int 0))) (.cst (.str (Str.ofString "menu"))))) (.cons (.ret (.tup .nil))
    .nil) .nil)
    (.cons (.ret (.call 4 (.cons (.sub (.var 0) (.cst (.int 2))) .nil)))
    .nil))⟩
def f_system_of : Df := ⟨1, 4, false,
    (.cons (.asg (.nm 1) (.bi .tuple false (.cons (.lc false (.call 9 (.cons (.var 2) .nil)) (.nm 2) (.over (.sub (.var 0) (.cst (.int 1)))) .nil [2]) .nil)))
    (.cons (.ret (.tup (.cons (.var 0) (.cons (.call 8 (.cons (.var 0) .nil)) (.cons (.var 1) (.cons (.bi .tuple false (.cons (.lc false (.call 10 (.cons (.var 3) .nil)) (.nm 3) (.over (.sub (.var 0) (.cst (.int 2)))) .nil [3]) .nil)) .nil))))))
    .nil))⟩
def f_shared_of : Df := ⟨2, 2, false,
    (.cons (.ife (.val (.cmp .Lt (.var 1) (.cst (.int 0)))) (.cons (.ret (.sub (.sub (.var 0) (.cst (.int 0))) (.cst (.int 0))))
    .nil) .nil)
    (.cons (.ret (.sub (.sub (.sub (.sub (.var 0) (.cst (.int 0))) (.cst (.int 1))) (.var 1)) (.glo (Str.ofString "SHARED") (.int 6))))
    .nil))⟩
def f_base_of : Df := ⟨2, 2, false,
    (.cons (.ife (.val (.cmp .Lt (.var 1) (.cst (.int 0)))) (.cons (.ret (.cst (.int 0)))
    .nil) .nil)
    (.cons (.ret (.sub (.sub (.var 0) (.cst (.int 1))) (.var 1)))
    .nil))⟩
def f_cell_address : Df := ⟨4, 7, false,
    (.cons (.asg (.nm 4) (.call 13 (.cons (.var 0) (.cons (.var 1) .nil))))
    (.cons (.loop (.tup (.cons (.nm 5) (.cons (.nm 6) .nil))) (.over (.call 12 (.cons (.var 0) (.cons (.var 1) .nil)))) (.cons (.ife (.val (.cmp .Eq (.var 5) (.var 2))) (.cons (.ret (.op .add false (.var 4) (.op .mod false (.var 3) (.bi .len false (.cons (.var 6) .nil)))))
    .nil) .nil)
    (.cons (.aug 4 .add (.bi .len false (.cons (.var 6) .nil)))
    .nil)))
    (.cons (.ret (.neg (.cst (.int 1))))
    .nil)))⟩
def f_first_field : Df := ⟨3, 4, false,
    (.cons (.asg (.nm 3) (.sub (.sub (.sub (.var 0) (.cst (.int 0))) (.cst (.int 1))) (.var 1)))
    (.cons (.ret (.op .add false (.op .add false (.sub (.sub (.var 0) (.cst (.int 1))) (.var 1)) (.call 6 (.cons (.sub (.var 3) (.glo (Str.ofString "SHARED") (.int 6))) .nil))) (.op .mul false (.var 2) (.bi .len false (.cons (.sub (.var 3) (.glo (Str.ofString "FIELDS") (.int 2))) .nil)))))
    .nil))⟩
def f_field_address : Df := ⟨4, 6, false,
    (.cons (.asg (.nm 4) (.sub (.sub (.sub (.var 0) (.cst (.int 0))) (.cst (.int 1))) (.var 1)))
    (.cons (.asg (.nm 5) (.call 0 (.cons (.var 2) (.cons (.sub (.var 4) (.glo (Str.ofString "ROOM") (.int 3))) .nil))))
    (.cons (.ife (.val (.cmp .Lt (.var 5) (.cst (.int 0)))) (.cons (.ret (.neg (.cst (.int 1))))
    .nil) .nil)
    (.cons (.ret (.op .add false (.call 15 (.cons (.var 0) (.cons (.var 1) (.cons (.var 5) .nil)))) (.idx (.sub (.var 4) (.glo (Str.ofString "FIELDS") (.int 2))) (.var 3))))
    .nil))))⟩
def f_owner_of : Df := ⟨2, 5, false,
    (.cons (.asg (.nm 2) (.neg (.cst (.int 1))))
    (.cons (.loop (.tup (.cons (.nm 3) (.cons (.nm 4) .nil))) (.enum (.sub (.var 0) (.cst (.int 1)))) (.cons (.ife (.val (.cmp .LtE (.var 4) (.var 1))) (.cons (.asg (.nm 2) (.var 3))
    .nil) .nil)
    .nil))
    (.cons (.ret (.var 2))
    .nil)))⟩
def f_told_address : Df := ⟨2, 7, false,
    (.cons (.asg (.nm 2) (.call 17 (.cons (.var 0) (.cons (.var 1) .nil))))
    (.cons (.asg (.nm 3) (.op .sub false (.var 1) (.call 13 (.cons (.var 0) (.cons (.var 2) .nil)))))
    (.cons (.loop (.tup (.cons (.nm 4) (.cons (.nm 5) .nil))) (.over (.call 12 (.cons (.var 0) (.cons (.var 2) .nil)))) (.cons (.ife (.val (.cmp .Lt (.var 3) (.bi .len false (.cons (.var 5) .nil)))) (.cons (.ret (.tup (.cons (.cst (.str (Str.ofString "cell"))) (.cons (.var 2) (.cons (.var 4) (.cons (.var 3) .nil))))))
    .nil) .nil)
    (.cons (.aug 3 .sub (.bi .len false (.cons (.var 5) .nil)))
    .nil)))
    (.cons (.asg (.nm 6) (.sub (.sub (.sub (.sub (.var 0) (.cst (.int 0))) (.cst (.int 1))) (.var 2)) (.glo (Str.ofString "FIELDS") (.int 2))))
    (.cons (.ret (.tup (.cons (.cst (.str (Str.ofString "field"))) (.cons (.var 2) (.cons (.op .fdiv false (.var 3) (.bi .len false (.cons (.var 6) .nil))) (.cons (.sub (.var 6) (.op .mod false (.var 3) (.bi .len false (.cons (.var 6) .nil)))) .nil))))))
    .nil)))))⟩
def f__law_all_words : Df := ⟨0, 0, false,
    (.cons (.ret (.op .add false (.op .add false (.op .add false (.op .add false (.rgl false false (.cons (.cst (.int 32)) .nil)) (.lst false (.cons (.cst (.int 99)) .nil))) (.rgl false false (.cons (.cst (.int 100)) (.cons (.cst (.int 108)) .nil)))) (.lst false (.cons (.cst (.int 199)) .nil))) (.rgl false false (.cons (.cst (.int 200)) (.cons (.cst (.int 208)) .nil)))))
    .nil)⟩
def f__law_same : Df := ⟨2, 3, false,
    (.cons (.ife (.val (.isi (.var 1) .tuple)) (.cons (.ife (.bop false (.cons (.not (.val (.isi (.var 0) .tuple))) (.cons (.val (.cmp .NotEq (.bi .len false (.cons (.var 0) .nil)) (.bi .len false (.cons (.var 1) .nil)))) .nil))) (.cons (.ret (.cst (.bool false)))
    .nil) .nil)
    (.cons (.loop (.nm 2) (.rng (.cons (.bi .len false (.cons (.var 1) .nil)) .nil)) (.cons (.ife (.not (.val (.call 20 (.cons (.sub (.var 0) (.var 2)) (.cons (.sub (.var 1) (.var 2)) .nil))))) (.cons (.ret (.cst (.bool false)))
    .nil) .nil)
    .nil))
    (.cons (.ret (.cst (.bool true)))
    .nil))) .nil)
    (.cons (.ife (.bop false (.cons (.val (.cmp .Is (.var 1) (.cst .none))) (.cons (.val (.cmp .Is (.var 0) (.cst .none))) .nil))) (.cons (.ret (.bop true (.cons (.cmp .Is (.var 1) (.cst .none)) (.cons (.cmp .Is (.var 0) (.cst .none)) .nil))))
    .nil) .nil)
    (.cons (.ife (.val (.isi (.var 1) .str)) (.cons (.ret (.bop true (.cons (.isi (.var 0) .str) (.cons (.cmp .Eq (.var 0) (.var 1)) .nil))))
    .nil) .nil)
    (.cons (.ife (.bop false (.cons (.val (.cmp .NotEq (.isi (.var 0) .bool) (.isi (.var 1) .bool))) (.cons (.not (.val (.isi (.var 0) .int))) .nil))) (.cons (.ret (.cst (.bool false)))
    .nil) .nil)
    (.cons (.ret (.cmp .Eq (.var 0) (.var 1)))
    .nil)))))⟩
def f__law_draw : Df := ⟨2, 4, false,
    (.cons (.ife (.val (.cmp .Eq (.sub (.var 0) (.cst (.int 2))) (.cst (.int 0)))) (.cons (.asg (.nm 3) (.sub (.var 0) (.cst (.int 1))))
    (.cons (.asg (.nm 2) (.cst (.int 0)))
    (.cons (.ife (.val (.cmp .Lt (.var 3) (.bi .len false (.cons (.sub (.var 0) (.cst (.int 0))) .nil)))) (.cons (.asg (.nm 2) (.bi .abs false (.cons (.bi .int false (.cons (.sub (.sub (.var 0) (.cst (.int 0))) (.var 3)) .nil)) .nil)))
    .nil) (.cons (.put (.var 0) (.cst (.int 3)) (.op .mod false (.bi .int false (.cons (.op .add false (.op .add false (.op .mul false (.sub (.var 0) (.cst (.int 3))) (.cst (.int 48271))) (.var 3)) (.cst (.int 1))) .nil)) (.cst (.int 2147483647))))
    (.cons (.asg (.nm 2) (.sub (.var 0) (.cst (.int 3))))
    .nil)))
    (.cons (.put (.var 0) (.cst (.int 1)) (.op .add false (.var 3) (.cst (.int 1))))
    (.cons (.ife (.val (.cmp .Lt (.var 2) (.op .pow false (.cst (.int 10)) (.cst (.int 18))))) (.cons (.asg (.nm 2) (.op .mod false (.bi .int false (.cons (.op .add false (.op .add false (.op .mul false (.var 2) (.cst (.int 48271))) (.op .mul false (.var 3) (.cst (.int 69621)))) (.cst (.int 5))) .nil)) (.cst (.int 2147483647))))
    (.cons (.asg (.nm 2) (.op .mod false (.bi .int false (.cons (.op .mul false (.var 2) (.cst (.int 69621))) .nil)) (.cst (.int 2147483629))))
    (.cons (.ret (.op .mod false (.bi .int false (.cons (.var 2) .nil)) (.bi .max false (.cons (.var 1) (.cons (.cst (.int 1)) .nil)))))
    .nil))) .nil)
    (.cons (.put (.var 0) (.cst (.int 2)) (.var 2))
    .nil)))))) .nil)
    (.cons (.asg (.nm 2) (.sub (.var 0) (.cst (.int 2))))
    (.cons (.put (.var 0) (.cst (.int 2)) (.op .fdiv false (.var 2) (.bi .max false (.cons (.var 1) (.cons (.cst (.int 2)) .nil)))))
    (.cons (.ret (.op .mod false (.bi .int false (.cons (.var 2) .nil)) (.bi .max false (.cons (.var 1) (.cons (.cst (.int 1)) .nil)))))
    .nil))))⟩
def f__law_tape : Df := ⟨1, 3, false,
    (.cons (.asg (.nm 1) (.cst (.int 7)))
    (.cons (.loop (.nm 2) (.over (.var 0)) (.cons (.asg (.nm 1) (.op .mod false (.bi .int false (.cons (.op .add false (.op .mul false (.var 1) (.cst (.int 31))) (.bi .abs false (.cons (.bi .int false (.cons (.var 2) .nil)) .nil))) .nil)) (.cst (.int 2147483647))))
    .nil))
    (.cons (.ret (.lst true (.cons (.bi .list false (.cons (.var 0) .nil)) (.cons (.cst (.int 0)) (.cons (.cst (.int 0)) (.cons (.var 1) .nil))))))
    .nil)))⟩
def f__law_all_cells : Df := ⟨1, 7, false,
    (.cons (.asg (.nm 1) (.lst false .nil))
    (.cons (.loop (.tup (.cons (.nm 2) (.cons (.nm 3) .nil))) (.over (.sub (.var 0) (.cst (.int 0)))) (.cons (.asg (.nm 1) (.op .add false (.var 1) (.lc false (.tup (.cons (.cst (.str (Str.ofString "cell"))) (.cons (.neg (.cst (.int 1))) (.cons (.var 2) (.cons (.var 6) .nil))))) (.nm 6) (.rng (.cons (.bi .len false (.cons (.var 3) .nil)) .nil)) .nil [6])))
    .nil))
    (.cons (.loop (.nm 4) (.rng (.cons (.bi .len false (.cons (.sub (.var 0) (.cst (.int 1))) .nil)) .nil)) (.cons (.asg (.nm 5) (.sub (.sub (.var 0) (.cst (.int 1))) (.var 4)))
    (.cons (.ife (.val (.cmp .Eq (.sub (.var 5) (.cst (.int 0))) (.cst (.str (Str.ofString "structure"))))) (.cons (.loop (.tup (.cons (.nm 2) (.cons (.nm 3) .nil))) (.over (.sub (.var 5) (.cst (.int 6)))) (.cons (.asg (.nm 1) (.op .add false (.var 1) (.lc false (.tup (.cons (.cst (.str (Str.ofString "cell"))) (.cons (.var 4) (.cons (.var 2) (.cons (.var 6) .nil))))) (.nm 6) (.rng (.cons (.bi .len false (.cons (.var 3) .nil)) .nil)) .nil [6])))
    .nil))
    (.cons (.loop (.nm 6) (.rng (.cons (.sub (.var 5) (.cst (.int 3))) .nil)) (.cons (.asg (.nm 1) (.op .add false (.var 1) (.lc false (.tup (.cons (.cst (.str (Str.ofString "field"))) (.cons (.var 4) (.cons (.var 6) (.cons (.var 2) .nil))))) (.nm 2) (.over (.sub (.var 5) (.cst (.int 2)))) .nil [2])))
    .nil))
    .nil)) .nil)
    .nil)))
    (.cons (.ret (.var 1))
    .nil))))⟩
def f__law_row : Df := ⟨2, 3, false,
    (.cons (.ret (.lc false (.call 21 (.cons (.var 0) (.cons (.cst (.int 5040)) .nil))) (.nm 2) (.rng (.cons (.var 1) .nil)) .nil [2]))
    .nil)⟩
def f__law_some_cells : Df := ⟨2, 4, false,
    (.cons (.asg (.nm 2) (.lst false (.cons (.cst (.str (Str.ofString "n"))) (.cons (.cst (.str (Str.ofString "m"))) (.cons (.cst (.str (Str.ofString "s"))) (.cons (.cst (.str (Str.ofString "v_2"))) .nil))))))
    (.cons (.ret (.bi .tuple false (.cons (.lc false (.tup (.cons (.sub (.var 2) (.op .mod false (.bi .int false (.cons (.op .add false (.sub (.var 0) (.cst (.int 0))) (.var 3)) .nil)) (.cst (.int 4)))) (.cons (.op .mul false (.tup (.cons (.var 3) .nil)) (.op .add false (.cst (.int 1)) (.op .mod false (.bi .int false (.cons (.sub (.var 0) (.op .add false (.cst (.int 1)) (.var 3))) .nil)) (.cst (.int 8))))) .nil))) (.nm 3) (.rng (.cons (.var 1) .nil)) .nil [3]) .nil)))
    .nil))⟩
def f__law_some_object : Df := ⟨2, 5, false,
    (.cons (.asg (.nm 2) (.op .mod false (.bi .int false (.cons (.sub (.var 0) (.cst (.int 0))) .nil)) (.cst (.int 6))))
    (.cons (.ife (.val (.cmp .Eq (.var 2) (.cst (.int 0)))) (.cons (.ret (.tup (.cons (.cst (.str (Str.ofString "pair"))) .nil)))
    .nil) .nil)
    (.cons (.ife (.bop true (.cons (.val (.cmp .Eq (.var 2) (.cst (.int 1)))) (.cons (.val (.cmp .IsNot (.var 1) (.cst .none))) .nil))) (.cons (.ret (.var 1))
    .nil) .nil)
    (.cons (.asg (.nm 3) (.bi .tuple false (.cons (.slc false (.lst false (.cons (.cst (.str (Str.ofString "f"))) (.cons (.cst (.str (Str.ofString "n"))) (.cons (.cst (.str (Str.ofString "link"))) (.cons (.cst (.str (Str.ofString "s"))) .nil))))) .gap (.at (.op .mod false (.bi .int false (.cons (.sub (.var 0) (.cst (.int 6))) .nil)) (.cst (.int 5))))) .nil)))
    (.cons (.asg (.nm 4) (.ife (.val (.cmp .Gt (.bi .len false (.cons (.var 3) .nil)) (.cst (.int 0)))) (.op .add false (.cst (.int 1)) (.op .mod false (.bi .int false (.cons (.sub (.var 0) (.cst (.int 7))) .nil)) (.cst (.int 8)))) (.cst (.int 0))))
    (.cons (.ret (.tup (.cons (.cst (.str (Str.ofString "structure"))) (.cons (.cst .none) (.cons (.var 3) (.cons (.var 4) (.cons (.tup .nil) (.cons (.cst (.int 0)) (.cons (.call 25 (.cons (.slc false (.var 0) (.at (.cst (.int 1))) (.at (.cst (.int 5)))) (.cons (.op .mod false (.bi .int false (.cons (.sub (.var 0) (.cst (.int 5))) .nil)) (.cst (.int 4))) .nil))) (.cons (.tup .nil) (.cons (.tup (.cons (.tup (.cons (.cst (.str (Str.ofString "go"))) (.cons (.cst (.int 0)) (.cons (.tup .nil) (.cons (.tup .nil) .nil))))) .nil)) .nil)))))))))))
    .nil))))))⟩
def f__law_bases : Df := ⟨1, 5, false,
    (.cons (.asg (.nm 1) (.lc false (.sub (.var 2) (.cst (.int 1))) (.nm 2) (.over (.call 23 (.cons (.var 0) .nil))) .nil [2]))
    (.cons (.ret (.bi .tuple false (.cons (.lc false (.bi .len false (.cons (.lc false (.var 4) (.nm 4) (.over (.var 1)) (.cons (.val (.cmp .Lt (.var 4) (.var 3))) .nil) [4]) .nil)) (.nm 3) (.rng (.cons (.bi .len false (.cons (.sub (.var 0) (.cst (.int 1))) .nil)) .nil)) .nil [3]) .nil)))
    .nil))⟩
def f__law_asked : Df := ⟨2, 7, false,
    (.cons (.asg (.nm 2) (.sub (.var 0) (.op .mod false (.bi .int false (.cons (.sub (.var 1) (.cst (.int 0))) .nil)) (.bi .len false (.cons (.var 0) .nil)))))
    (.cons (.asg (.nm 3) (.sub (.call 19 .nil) (.op .mod false (.bi .int false (.cons (.sub (.var 1) (.cst (.int 1))) .nil)) (.cst (.int 50)))))
    (.cons (.ife (.val (.cmp .Eq (.sub (.var 2) (.cst (.int 0))) (.cst (.str (Str.ofString "cell"))))) (.cons (.asg (.nm 5) (.bi .len false (.cons (.lc false (.var 6) (.nm 6) (.over (.var 0)) (.cons (.val (.cmp .Eq (.slc false (.var 6) .gap (.at (.cst (.int 3)))) (.slc false (.var 2) .gap (.at (.cst (.int 3)))))) .nil) [6]) .nil)))
    (.cons (.ret (.tup (.cons (.var 2) (.cons (.var 3) (.cons (.idx (.var 0) (.op .add false (.slc false (.var 2) .gap (.at (.cst (.int 3)))) (.tup (.cons (.op .mod false (.bi .int false (.cons (.var 3) .nil)) (.var 5)) .nil)))) .nil)))))
    .nil)) .nil)
    (.cons (.asg (.nm 3) (.sub (.lst false (.cons (.op .add false (.cst (.int 100)) (.sub (.var 2) (.cst (.int 2)))) (.cons (.op .add false (.cst (.int 200)) (.sub (.var 2) (.cst (.int 2)))) (.cons (.var 3) (.cons (.var 3) .nil))))) (.op .mod false (.bi .int false (.cons (.sub (.var 1) (.cst (.int 2))) .nil)) (.cst (.int 4)))))
    (.cons (.asg (.nm 4) (.neg (.cst (.int 1))))
    (.cons (.ife (.val (.cmp .In (.tup (.cons (.cst (.str (Str.ofString "field"))) (.cons (.sub (.var 2) (.cst (.int 1))) (.cons (.op .sub false (.var 3) (.cst (.int 100))) (.cons (.sub (.var 2) (.cst (.int 3))) .nil))))) (.var 0))) (.cons (.asg (.nm 4) (.idx (.var 0) (.tup (.cons (.cst (.str (Str.ofString "field"))) (.cons (.sub (.var 2) (.cst (.int 1))) (.cons (.op .sub false (.var 3) (.cst (.int 100))) (.cons (.sub (.var 2) (.cst (.int 3))) .nil)))))))
    .nil) .nil)
    (.cons (.ret (.tup (.cons (.var 2) (.cons (.var 3) (.cons (.var 4) .nil)))))
    .nil)))))))⟩
def f__law_right : Df := ⟨2, 11, false,
    (.cons (.asg (.nm 2) (.call 23 (.cons (.var 0) .nil)))
    (.cons (.asg (.nm 3) (.call 11 (.cons (.var 0) .nil)))
    (.cons (.asg (.nm 4) (.bi .tuple false (.cons (.lc false (.ife (.val (.cmp .Eq (.sub (.var 10) (.cst (.int 0))) (.cst (.str (Str.ofString "structure"))))) (.tup (.cons (.tup .nil) .nil)) (.tup .nil)) (.nm 10) (.over (.sub (.var 0) (.cst (.int 1)))) .nil [10]) .nil)))
    (.cons (.ife (.not (.val (.call 20 (.cons (.var 3) (.cons (.tup (.cons (.var 0) (.cons (.call 27 (.cons (.var 0) .nil)) (.cons (.var 4) (.cons (.tup (.cons (.tup .nil) .nil)) .nil))))) .nil))))) (.cons (.ret (.cst (.bool false)))
    .nil) .nil)
    (.cons (.loop (.nm 5) (.over (.var 1)) (.cons (.asg (.tup (.cons (.nm 7) (.cons (.nm 8) (.cons (.nm 9) .nil)))) (.call 28 (.cons (.var 2) (.cons (.var 5) .nil))))
    (.cons (.ife (.bop true (.cons (.val (.cmp .Eq (.sub (.var 7) (.cst (.int 0))) (.cst (.str (Str.ofString "cell"))))) (.cons (.not (.val (.call 20 (.cons (.call 14 (.cons (.var 3) (.cons (.sub (.var 7) (.cst (.int 1))) (.cons (.sub (.var 7) (.cst (.int 2))) (.cons (.var 8) .nil))))) (.cons (.var 9) .nil))))) .nil))) (.cons (.ret (.cst (.bool false)))
    .nil) .nil)
    (.cons (.ife (.bop true (.cons (.val (.cmp .Eq (.sub (.var 7) (.cst (.int 0))) (.cst (.str (Str.ofString "field"))))) (.cons (.not (.val (.call 20 (.cons (.call 16 (.cons (.var 3) (.cons (.sub (.var 7) (.cst (.int 1))) (.cons (.var 8) (.cons (.sub (.var 7) (.cst (.int 3))) .nil))))) (.cons (.var 9) .nil))))) .nil))) (.cons (.ret (.cst (.bool false)))
    .nil) .nil)
    .nil))))
    (.cons (.loop (.nm 6) (.rng (.cons (.bi .len false (.cons (.var 2) .nil)) .nil)) (.cons (.ife (.not (.val (.call 20 (.cons (.call 18 (.cons (.var 3) (.cons (.var 6) .nil))) (.cons (.sub (.var 2) (.var 6)) .nil))))) (.cons (.ret (.cst (.bool false)))
    .nil) .nil)
    .nil))
    (.cons (.ret (.cst (.bool true)))
    .nil)))))))⟩
def f_law : Df := ⟨1, 9, false,
    (.cons (.asg (.nm 1) (.call 22 (.cons (.var 0) .nil)))
    (.cons (.asg (.nm 2) (.call 25 (.cons (.call 24 (.cons (.var 1) (.cons (.cst (.int 4)) .nil))) (.cons (.op .add false (.cst (.int 1)) (.call 21 (.cons (.var 1) (.cons (.cst (.int 3)) .nil)))) .nil))))
    (.cons (.asg (.nm 3) (.lst true .nil))
    (.cons (.loop (.nm 4) (.rng (.cons (.op .add false (.cst (.int 2)) (.call 21 (.cons (.var 1) (.cons (.cst (.int 2)) .nil)))) .nil)) (.cons (.ex (.meth .append (.var 3) (.cons (.call 26 (.cons (.call 24 (.cons (.var 1) (.cons (.cst (.int 8)) .nil))) (.cons (.ife (.val (.var 3)) (.sub (.var 3) (.cst (.int 0))) (.cst .none)) .nil))) .nil)))
    .nil))
    (.cons (.asg (.nm 5) (.lc false (.call 24 (.cons (.var 1) (.cons (.cst (.int 3)) .nil))) (.nm 4) (.rng (.cons (.cst (.int 8)) .nil)) .nil [4]))
    (.cons (.asg (.nm 6) (.tup (.cons (.tup (.cons (.cst (.str (Str.ofString "program"))) (.cons (.tup .nil) (.cons (.tup .nil) .nil)))) .nil)))
    (.cons (.par 7 8 (.tup (.cons (.var 2) (.cons (.bi .tuple false (.cons (.var 3) .nil)) (.cons (.var 6) .nil)))) (.tup (.cons (.var 2) (.cons (.bi .tuple false (.cons (.rvs false (.var 3)) .nil)) (.cons (.var 6) .nil)))))
    (.cons (.ret (.bop true (.cons (.call 29 (.cons (.var 7) (.cons (.var 5) .nil))) (.cons (.call 29 (.cons (.var 8) (.cons (.var 5) .nil))) (.cons (.call 29 (.cons (.var 7) (.cons (.var 5) .nil))) .nil)))))
    .nil))))))))⟩
def topS (i : Nat) : Stmt := PySem.Challenge.pw_lockfree_k00_cells_of_any_number.main.body.getD i (.Pass ⟨0, 0, 0, 0⟩)
def r_node_in : Rw := ⟨Str.ofString "node_in", [(Str.ofString "word"), (Str.ofString "room")], [(Str.ofString "word"), (Str.ofString "room")], topS 2, f_node_in⟩
def r_add_body : Rw := ⟨Str.ofString "add_body", [(Str.ofString "code"), (Str.ofString "body"), (Str.ofString "breaks"), (Str.ofString "statement")], [(Str.ofString "code"), (Str.ofString "body"), (Str.ofString "breaks")], topS 4, f_add_body⟩
def r_add_choice : Rw := ⟨Str.ofString "add_choice", [(Str.ofString "code"), (Str.ofString "statement"), (Str.ofString "breaks"), (Str.ofString "test"), (Str.ofString "over")], [(Str.ofString "code"), (Str.ofString "statement"), (Str.ofString "breaks")], topS 5, f_add_choice⟩
def r_add_loop : Rw := ⟨Str.ofString "add_loop", [(Str.ofString "code"), (Str.ofString "body"), (Str.ofString "first"), (Str.ofString "breaks"), (Str.ofString "place")], [(Str.ofString "code"), (Str.ofString "body")], topS 6, f_add_loop⟩
def r_translated : Rw := ⟨Str.ofString "translated", [(Str.ofString "body"), (Str.ofString "code")], [(Str.ofString "body")], topS 7, f_translated⟩
def r_is_structure : Rw := ⟨Str.ofString "is_structure", [(Str.ofString "how")], [(Str.ofString "how")], topS 13, f_is_structure⟩
def r_count_words : Rw := ⟨Str.ofString "count_words", [(Str.ofString "variables"), (Str.ofString "name"), (Str.ofString "words")], [(Str.ofString "variables")], topS 15, f_count_words⟩
def r_size_of_object : Rw := ⟨Str.ofString "size_of_object", [(Str.ofString "how")], [(Str.ofString "how")], topS 16, f_size_of_object⟩
def r_bases_of : Rw := ⟨Str.ofString "bases_of", [(Str.ofString "source"), (Str.ofString "bases"), (Str.ofString "base"), (Str.ofString "how")], [(Str.ofString "source")], topS 17, f_bases_of⟩
def r_codes_of : Rw := ⟨Str.ofString "codes_of", [(Str.ofString "how"), (Str.ofString "operation")], [(Str.ofString "how")], topS 18, f_codes_of⟩
def r_program_of : Rw := ⟨Str.ofString "program_of", [(Str.ofString "way")], [(Str.ofString "way")], topS 19, f_program_of⟩
def r_system_of : Rw := ⟨Str.ofString "system_of", [(Str.ofString "source"), (Str.ofString "codes"), (Str.ofString "how"), (Str.ofString "way")], [(Str.ofString "source")], topS 20, f_system_of⟩
def r_shared_of : Rw := ⟨Str.ofString "shared_of", [(Str.ofString "system"), (Str.ofString "o")], [(Str.ofString "system"), (Str.ofString "o")], topS 21, f_shared_of⟩
def r_base_of : Rw := ⟨Str.ofString "base_of", [(Str.ofString "system"), (Str.ofString "o")], [(Str.ofString "system"), (Str.ofString "o")], topS 22, f_base_of⟩
def r_cell_address : Rw := ⟨Str.ofString "cell_address", [(Str.ofString "system"), (Str.ofString "o"), (Str.ofString "name"), (Str.ofString "index"), (Str.ofString "address"), (Str.ofString "other"), (Str.ofString "words")], [(Str.ofString "system"), (Str.ofString "o"), (Str.ofString "name"), (Str.ofString "index")], topS 23, f_cell_address⟩
def r_first_field : Rw := ⟨Str.ofString "first_field", [(Str.ofString "system"), (Str.ofString "o"), (Str.ofString "node"), (Str.ofString "structure")], [(Str.ofString "system"), (Str.ofString "o"), (Str.ofString "node")], topS 24, f_first_field⟩
def r_field_address : Rw := ⟨Str.ofString "field_address", [(Str.ofString "system"), (Str.ofString "o"), (Str.ofString "word"), (Str.ofString "field"), (Str.ofString "structure"), (Str.ofString "node")], [(Str.ofString "system"), (Str.ofString "o"), (Str.ofString "word"), (Str.ofString "field")], topS 25, f_field_address⟩
def r_owner_of : Rw := ⟨Str.ofString "owner_of", [(Str.ofString "system"), (Str.ofString "address"), (Str.ofString "owner"), (Str.ofString "o"), (Str.ofString "base")], [(Str.ofString "system"), (Str.ofString "address")], topS 26, f_owner_of⟩
def r_told_address : Rw := ⟨Str.ofString "told_address", [(Str.ofString "system"), (Str.ofString "address"), (Str.ofString "o"), (Str.ofString "index"), (Str.ofString "name"), (Str.ofString "words"), (Str.ofString "fields")], [(Str.ofString "system"), (Str.ofString "address")], topS 27, f_told_address⟩
def r__law_all_words : Rw := ⟨Str.ofString "_law_all_words", [], [], topS 29, f__law_all_words⟩
def r__law_same : Rw := ⟨Str.ofString "_law_same", [(Str.ofString "told"), (Str.ofString "wanted"), (Str.ofString "k")], [(Str.ofString "told"), (Str.ofString "wanted")], topS 30, f__law_same⟩
def r__law_draw : Rw := ⟨Str.ofString "_law_draw", [(Str.ofString "tape"), (Str.ofString "count"), (Str.ofString "number"), (Str.ofString "place")], [(Str.ofString "tape"), (Str.ofString "count")], topS 31, f__law_draw⟩
def r__law_tape : Rw := ⟨Str.ofString "_law_tape", [(Str.ofString "script"), (Str.ofString "mixed"), (Str.ofString "cell")], [(Str.ofString "script")], topS 32, f__law_tape⟩
def r__law_all_cells : Rw := ⟨Str.ofString "_law_all_cells", [(Str.ofString "source"), (Str.ofString "row"), (Str.ofString "name"), (Str.ofString "words"), (Str.ofString "o"), (Str.ofString "how"), (Str.ofString "k")], [(Str.ofString "source")], topS 33, f__law_all_cells⟩
def r__law_row : Rw := ⟨Str.ofString "_law_row", [(Str.ofString "tape"), (Str.ofString "many"), (Str.ofString "k")], [(Str.ofString "tape"), (Str.ofString "many")], topS 34, f__law_row⟩
def r__law_some_cells : Rw := ⟨Str.ofString "_law_some_cells", [(Str.ofString "d"), (Str.ofString "many"), (Str.ofString "names"), (Str.ofString "k")], [(Str.ofString "d"), (Str.ofString "many")], topS 35, f__law_some_cells⟩
def r__law_some_object : Rw := ⟨Str.ofString "_law_some_object", [(Str.ofString "d"), (Str.ofString "first"), (Str.ofString "choice"), (Str.ofString "named"), (Str.ofString "size")], [(Str.ofString "d"), (Str.ofString "first")], topS 36, f__law_some_object⟩
def r__law_bases : Rw := ⟨Str.ofString "_law_bases", [(Str.ofString "source"), (Str.ofString "row"), (Str.ofString "entry"), (Str.ofString "k"), (Str.ofString "o")], [(Str.ofString "source")], topS 37, f__law_bases⟩
def r__law_asked : Rw := ⟨Str.ofString "_law_asked", [(Str.ofString "row"), (Str.ofString "q"), (Str.ofString "entry"), (Str.ofString "word"), (Str.ofString "due"), (Str.ofString "count"), (Str.ofString "one")], [(Str.ofString "row"), (Str.ofString "q")], topS 38, f__law_asked⟩
def r__law_right : Rw := ⟨Str.ofString "_law_right", [(Str.ofString "source"), (Str.ofString "asks"), (Str.ofString "row"), (Str.ofString "system"), (Str.ofString "codes"), (Str.ofString "q"), (Str.ofString "at"), (Str.ofString "entry"), (Str.ofString "word"), (Str.ofString "due"), (Str.ofString "how")], [(Str.ofString "source"), (Str.ofString "asks")], topS 39, f__law_right⟩
def r_law : Rw := ⟨Str.ofString "law", [(Str.ofString "script"), (Str.ofString "tape"), (Str.ofString "cells"), (Str.ofString "objects"), (Str.ofString "k"), (Str.ofString "asks"), (Str.ofString "threads"), (Str.ofString "source"), (Str.ofString "other")], [(Str.ofString "script")], topS 40, f_law⟩
def rows : List Rw := [r_node_in, r_add_body, r_add_choice, r_add_loop, r_translated, r_is_structure, r_count_words, r_size_of_object, r_bases_of, r_codes_of, r_program_of, r_system_of, r_shared_of, r_base_of, r_cell_address, r_first_field, r_field_address, r_owner_of, r_told_address, r__law_all_words, r__law_same, r__law_draw, r__law_tape, r__law_all_cells, r__law_row, r__law_some_cells, r__law_some_object, r__law_bases, r__law_asked, r__law_right, r_law]
def glbs : List (Str × D) := [((Str.ofString "FIRST_NODE"), (.int 100)), ((Str.ofString "SHARED"), (.int 6)), ((Str.ofString "ROOM"), (.int 3)), ((Str.ofString "FIELDS"), (.int 2)), ((Str.ofString "OPERATIONS"), (.int 8))]
def T : List Df := rows.map Rw.df
theorem rows_ok : rows.all (rowC (txOf rows glbs)) = true := by decide +kernel
end K00

namespace K00
open PySem PySem.Spec
open PyProof.Rows L2 Ev
abbrev Fd (n i : Nat) : Fn0 := fnN T 100 n i
def C (n : Nat) : Cl := ⟨fnN T 100 n, 100⟩
theorem C_fn (n i : Nat) (xs : List D) (S : Sto) : (C n).fn i xs S = fnN T 100 n i xs S := by cases n <;> rfl
abbrev tp (sc : List D) (p h m : Int) : Ob := .lst [.list sc, .int p, .int h, .int m]
def allI (l : List D) : Prop := ∀ d ∈ l, ∃ i : Int, d = .int i
theorem fn_draw (n : Nat) (xs : List D) (S : Sto) : fnN T 100 (n + 1) 21 xs S = callv (C n) f__law_draw xs S := rfl
theorem get_at {sc : List D} (hi : allI sc) {p : Int} (h0 : 0 ≤ p) (h1 : p < sc.length) : ∃ i : Int, atI sc p = some (.int i) := by
  unfold atI ixN
  rw [if_pos h0, if_pos h1]
  have hl : p.toNat < sc.length := by omega
  obtain ⟨i, e⟩ := hi sc[p.toNat] (List.getElem_mem hl)
  exact ⟨i, by rw [Option.bind_some, List.getElem?_eq_getElem hl, e]⟩
theorem draw_ok (n : Nat) {sc : List D} (hi : allI sc) {p h m : Int} (hp : 0 ≤ p) (R : Sto) {c : Int} (h1 : 1 ≤ c) (h2 : c ≤ 1000000) :
    ∃ r p' h' m' : Int, fnN T 100 (n + 1) 21 [rf 0, .int c] (tp sc p h m :: R) = some (.int r, tp sc p' h' m' :: R) ∧ 0 ≤ r ∧ r < c ∧ 0 ≤ p' := by
  rw [fn_draw]
  have hc1 : (if 1 > c then (1 : Int) else c) = c := by rw [if_neg (by omega)]
  have hc0 : 0 < c := by omega
  have hc2 : 0 < (if 2 > c then (2 : Int) else c) ∧ (if 2 > c then (2 : Int) else c) < 1073741824 := by split <;> omega
  have hm : ∀ x : Int, 0 ≤ x % c ∧ x % c < c := fun x => ⟨Int.emod_nonneg _ (by omega), Int.emod_lt_of_pos _ hc0⟩
  have tail : ∀ {p' m' : Int} {h' : Int}, 0 ≤ p' → ∃ r p'' h'' m'' : Int, (some (PyData.int (h' % c), tp sc p' (h' / (if 2 > c then (2 : Int) else c)) m' :: R)) = some (.int r, tp sc p'' h'' m'' :: R) ∧ 0 ≤ r ∧ r < c ∧ 0 ≤ p'' := fun {p' m' h'} q => ⟨_, _, _, _, rfl, (hm _).1, (hm _).2, q⟩
  have done : ∀ {p' m' h' x : Int}, 0 ≤ p' → ∃ r p'' h'' m'' : Int, (some (PyData.int (x % c), tp sc p' h' m' :: R)) = some (.int r, tp sc p'' h'' m'' :: R) ∧ 0 ≤ r ∧ r < c ∧ 0 ≤ p'' := fun {p' m' h' x} q => ⟨_, _, _, _, rfl, (hm _).1, (hm _).2, q⟩
  by_cases hh : h = 0
  · subst hh
    by_cases hl : p < sc.length
    · obtain ⟨i, hi⟩ := get_at hi hp hl
      by_cases hb : (if i < 0 then -i else i) < 1000000000000000000
      · have e : callv (C n) f__law_draw [rf 0, .int c] (tp sc p 0 m :: R) = some (.int ((((if i < 0 then -i else i) * 48271 + p * 69621 + 5) % 2147483647 * 69621 % 2147483629) % c), tp sc (p + 1) 0 m :: R) := by
          simp -implicitDefEqProofs [f__law_draw, e_var, e_cst, e_glo, e_op, e_neg, e_cmp, e_cmp2, e_bop, e_not, e_ife, e_tup, e_lst, e_sub, e_slc, e_rvs, e_call, e_bi, e_rgl, e_isi, e_meth, e_idx, eb_1, eb_2, et_val, et_not, et_bop, ets_1, ets_2, eo_g, eo_a, ea_n, ea_c, es_asg, es_par, es_aug, es_put, es_ex, es_ret, es_retN, es_ife, ess_n, ess_c, tgv, tgvs, callv, callv.fin, Option.bind_some, Option.map_some, List.getElem?_cons_zero, List.getElem?_cons_succ, List.set_cons_zero, List.set_cons_succ, asRf_rf, ixN, smallI, wipeD, hl, hi, hb, hc1, hc0]
        rw [e]
        exact done (by omega)
      · have e : callv (C n) f__law_draw [rf 0, .int c] (tp sc p 0 m :: R) = some (.int ((if i < 0 then -i else i) % c), tp sc (p + 1) ((if i < 0 then -i else i) / (if 2 > c then (2 : Int) else c)) m :: R) := by
          simp -implicitDefEqProofs [f__law_draw, e_var, e_cst, e_glo, e_op, e_neg, e_cmp, e_cmp2, e_bop, e_not, e_ife, e_tup, e_lst, e_sub, e_slc, e_rvs, e_call, e_bi, e_rgl, e_isi, e_meth, e_idx, eb_1, eb_2, et_val, et_not, et_bop, ets_1, ets_2, eo_g, eo_a, ea_n, ea_c, es_asg, es_par, es_aug, es_put, es_ex, es_ret, es_retN, es_ife, ess_n, ess_c, tgv, tgvs, callv, callv.fin, Option.bind_some, Option.map_some, List.getElem?_cons_zero, List.getElem?_cons_succ, List.set_cons_zero, List.set_cons_succ, asRf_rf, ixN, smallI, wipeD, hl, hi, hb, hc1, hc0, hc2]
        rw [e]
        exact tail (by omega)
    · have hb : (m * 48271 + p + 1) % 2147483647 < 1000000000000000000 := by omega
      have e : callv (C n) f__law_draw [rf 0, .int c] (tp sc p 0 m :: R) = some (.int (((((m * 48271 + p + 1) % 2147483647) * 48271 + p * 69621 + 5) % 2147483647 * 69621 % 2147483629) % c), tp sc (p + 1) 0 ((m * 48271 + p + 1) % 2147483647) :: R) := by
          simp -implicitDefEqProofs [f__law_draw, e_var, e_cst, e_glo, e_op, e_neg, e_cmp, e_cmp2, e_bop, e_not, e_ife, e_tup, e_lst, e_sub, e_slc, e_rvs, e_call, e_bi, e_rgl, e_isi, e_meth, e_idx, eb_1, eb_2, et_val, et_not, et_bop, ets_1, ets_2, eo_g, eo_a, ea_n, ea_c, es_asg, es_par, es_aug, es_put, es_ex, es_ret, es_retN, es_ife, ess_n, ess_c, tgv, tgvs, callv, callv.fin, Option.bind_some, Option.map_some, List.getElem?_cons_zero, List.getElem?_cons_succ, List.set_cons_zero, List.set_cons_succ, asRf_rf, ixN, smallI, wipeD, hl, hb, hc1, hc0]
      rw [e]
      exact done (by omega)
  · have e : callv (C n) f__law_draw [rf 0, .int c] (tp sc p h m :: R) = some (.int (h % c), tp sc p (h / (if 2 > c then (2 : Int) else c)) m :: R) := by
      simp -implicitDefEqProofs [f__law_draw, e_var, e_cst, e_glo, e_op, e_neg, e_cmp, e_cmp2, e_bop, e_not, e_ife, e_tup, e_lst, e_sub, e_slc, e_rvs, e_call, e_bi, e_rgl, e_isi, e_meth, e_idx, eb_1, eb_2, et_val, et_not, et_bop, ets_1, ets_2, eo_g, eo_a, ea_n, ea_c, es_asg, es_par, es_aug, es_put, es_ex, es_ret, es_retN, es_ife, ess_n, ess_c, tgv, tgvs, callv, callv.fin, Option.bind_some, Option.map_some, List.getElem?_cons_zero, List.getElem?_cons_succ, List.set_cons_zero, List.set_cons_succ, asRf_rf, ixN, smallI, wipeD, hh, hc1, hc0, hc2]
    rw [e]
    exact tail hp
end K00

namespace K00
open PySem PySem.Spec
open PyProof.Rows L2 Ev
theorem mem_rng0 {n : Nat} {x : D} (h : x ∈ rngD 0 n) : ∃ k : Nat, k < n ∧ x = .int (k : Nat) := by
  obtain ⟨i, hi⟩ := List.mem_iff_getElem?.mp h
  obtain ⟨e, hl⟩ := rngD_get hi
  exact ⟨i, hl, by rw [e, Int.zero_add]⟩
def Tape (sc : List D) (o : Ob) : Prop := ∃ p h m : Int, 0 ≤ p ∧ o = tp sc p h m
theorem draw {sc : List D} (hi : allI sc) {o : Ob} (t : Tape sc o) (n : Nat) (R : Sto) {c : Int} (h1 : 1 ≤ c) (h2 : c ≤ 1000000) :
    ∃ (r : Int) (o' : Ob), fnN T 100 (n + 1) 21 [rf 0, .int c] (o :: R) = some (.int r, o' :: R) ∧ 0 ≤ r ∧ r < c ∧ Tape sc o' := by
  obtain ⟨p, h, m, hp, rfl⟩ := t
  obtain ⟨r, p', h', m', e, q1, q2, q3⟩ := draw_ok n hi hp R (h := h) (m := m) h1 h2
  exact ⟨r, _, e, q1, q2, p', h', m', q3, rfl⟩
theorem tape (n : Nat) {sc : List D} (hi : allI sc) : ∃ o, fnN T 100 (n + 1) 22 [frn sc] [] = some (rf 0, [o]) ∧ Tape sc o := by
  have e0 : fnN T 100 (n + 1) 22 [frn sc] [] = callv (C n) f__law_tape [frn sc] [] := rfl
  rw [e0]
  obtain ⟨δ, S, e, hP⟩ := forv_nx (turn := fun x δ S => (tgv (.nm 2) x δ).bind fun δ' => evSs (C n) (.cons (.asg (.nm 1) (.op .mod false (.bi .int false (.cons (.op .add false (.op .mul false (.var 1) (.cst (.int 31))) (.bi .abs false (.cons (.bi .int false (.cons (.var 2) .nil)) .nil))) .nil)) (.cst (.int 2147483647)))) .nil) δ' S)
    (fun _ δ S => S = [] ∧ ∃ m : Int, ∃ z, δ = [some (frn sc), some (.int m), z]) (xs := sc) 0 (δ := [some (frn sc), some (.int 7), none]) (S := []) (fun i x δ S hx hp => by
      obtain ⟨rfl, m, z, rfl⟩ := hp
      obtain ⟨j, rfl⟩ := hi x (List.mem_of_getElem? hx)
      refine ⟨.nx, [some (frn sc), some (.int ((m * 31 + (if j < 0 then -j else j)) % 2147483647)), some (.int j)], [], ?_, .inl rfl, rfl, _, _, rfl⟩
      simp -implicitDefEqProofs [e_var, e_cst, e_glo, e_op, e_neg, e_cmp, e_cmp2, e_bop, e_not, e_ife, e_tup, e_lst, e_sub, e_slc, e_rvs, e_call, e_bi, e_rgl, e_isi, e_meth, e_idx, eb_1, eb_2, et_val, et_not, et_bop, ets_1, ets_2, eo_g, eo_a, ea_n, ea_c, es_asg, es_par, es_aug, es_put, es_ex, es_ret, es_retN, es_ife, ess_n, ess_c, tgv, tgvs, callv, callv.fin, Option.bind_some, Option.map_some, List.getElem?_cons_zero, List.getElem?_cons_succ, List.set_cons_zero, List.set_cons_succ, asRf_rf, ixN, smallI, wipeD]) ⟨rfl, 7, none, rfl⟩
  obtain ⟨rfl, m, z, rfl⟩ := hP
  refine ⟨tp sc 0 0 m, ?_, 0, 0, m, by omega, rfl⟩
  have hI : evI (C n) (.over (.var 0)) [some (frn sc), some (.int 7), none] [] = some ((sc, true), []) := i_F (by simp -implicitDefEqProofs [e_var, e_cst, e_glo, e_op, e_neg, e_cmp, e_cmp2, e_bop, e_not, e_ife, e_tup, e_lst, e_sub, e_slc, e_rvs, e_call, e_bi, e_rgl, e_isi, e_meth, e_idx, eb_1, eb_2, et_val, et_not, et_bop, ets_1, ets_2, eo_g, eo_a, ea_n, ea_c, es_asg, es_par, es_aug, es_put, es_ex, es_ret, es_retN, es_ife, ess_n, ess_c, tgv, tgvs, callv, callv.fin, Option.bind_some, Option.map_some, List.getElem?_cons_zero, List.getElem?_cons_succ, List.set_cons_zero, List.set_cons_succ, asRf_rf, ixN, smallI, wipeD])
  have hL : evS (C n) (.loop (.nm 2) (.over (.var 0)) (.cons (.asg (.nm 1) (.op .mod false (.bi .int false (.cons (.op .add false (.op .mul false (.var 1) (.cst (.int 31))) (.bi .abs false (.cons (.bi .int false (.cons (.var 2) .nil)) .nil))) .nil)) (.cst (.int 2147483647)))) .nil)) [some (frn sc), some (.int 7), none] [] = some (.nx, [some (frn sc), some (.int m), z], []) := by
    rw [es_loop, hI, Option.bind_some]
    exact e
  have hs : 4 ≤ sizeLine := by rw [sizeLine_eq]; omega
  simp -implicitDefEqProofs [f__law_tape, e_var, e_cst, e_glo, e_op, e_neg, e_cmp, e_cmp2, e_bop, e_not, e_ife, e_tup, e_lst, e_sub, e_slc, e_rvs, e_call, e_bi, e_rgl, e_isi, e_meth, e_idx, eb_1, eb_2, et_val, et_not, et_bop, ets_1, ets_2, eo_g, eo_a, ea_n, ea_c, es_asg, es_par, es_aug, es_put, es_ex, es_ret, es_retN, es_ife, ess_n, ess_c, tgv, tgvs, callv, callv.fin, Option.bind_some, Option.map_some, List.getElem?_cons_zero, List.getElem?_cons_succ, List.set_cons_zero, List.set_cons_succ, asRf_rf, ixN, smallI, wipeD, hL, hs]
theorem row {sc : List D} (hi : allI sc) {o : Ob} (t : Tape sc o) (n : Nat) (R : Sto) {k : Nat} (hk : k ≤ 100) :
    ∃ (l : List Int) (o' : Ob), fnN T 100 (n + 2) 24 [rf 0, .int (k : Nat)] (o :: R) = some (.list (l.map PyData.int), o' :: R) ∧ l.length = k ∧ (∀ x ∈ l, 0 ≤ x ∧ x < 5040) ∧ Tape sc o' := by
  have e0 : fnN T 100 (n + 2) 24 [rf 0, .int (k : Nat)] (o :: R) = callv (C (n + 1)) f__law_row [rf 0, .int (k : Nat)] (o :: R) := rfl
  rw [e0]
  have hI : evI (C (n + 1)) (.rng (.cons (.var 1) .nil)) [some (rf 0), some (.int (k : Nat)), none] (o :: R) = some ((rngD 0 k, true), o :: R) := i_R (by simp -implicitDefEqProofs [e_var, e_cst, e_glo, e_op, e_neg, e_cmp, e_cmp2, e_bop, e_not, e_ife, e_tup, e_lst, e_sub, e_slc, e_rvs, e_call, e_bi, e_rgl, e_isi, e_meth, e_idx, eb_1, eb_2, et_val, et_not, et_bop, ets_1, ets_2, eo_g, eo_a, ea_n, ea_c, es_asg, es_par, es_aug, es_put, es_ex, es_ret, es_retN, es_ife, ess_n, ess_c, tgv, tgvs, callv, callv.fin, Option.bind_some, Option.map_some, List.getElem?_cons_zero, List.getElem?_cons_succ, List.set_cons_zero, List.set_cons_succ, asRf_rf, ixN, smallI, wipeD]) (by omega)
  obtain ⟨ys, S2, e, l, o', rfl, rfl, hl, hb, ht⟩ := e_lcinv (m := false) (elt := .call 21 (.cons (.var 0) (.cons (.cst (.int 5040)) .nil))) (t := .nm 2) (own := [2]) (fun i ys S => ∃ (l : List Int) (o' : Ob), ys = l.map PyData.int ∧ S = o' :: R ∧ l.length = i ∧ (∀ x ∈ l, 0 ≤ x ∧ x < 5040) ∧ Tape sc o') hI (fun i x acc S hx hp => by
      obtain ⟨l, o', rfl, rfl, hl, hb, ht⟩ := hp
      obtain ⟨r, o2, e, q1, q2, q3⟩ := draw hi ht n R (c := 5040) (by decide) (by decide)
      refine ⟨.int r, o2 :: R, ?_, l ++ [r], o2, by rw [List.map_append]; rfl, rfl, by rw [List.length_append, hl]; rfl, fun x hx => ?_, q3⟩
      · simp -implicitDefEqProofs [e_var, e_cst, e_glo, e_op, e_neg, e_cmp, e_cmp2, e_bop, e_not, e_ife, e_tup, e_lst, e_sub, e_slc, e_rvs, e_call, e_bi, e_rgl, e_isi, e_meth, e_idx, eb_1, eb_2, et_val, et_not, et_bop, ets_1, ets_2, eo_g, eo_a, ea_n, ea_c, es_asg, es_par, es_aug, es_put, es_ex, es_ret, es_retN, es_ife, ess_n, ess_c, tgv, tgvs, callv, callv.fin, Option.bind_some, Option.map_some, List.getElem?_cons_zero, List.getElem?_cons_succ, List.set_cons_zero, List.set_cons_succ, asRf_rf, ixN, smallI, wipeD, C_fn, e]
      · rcases List.mem_append.mp hx with hx | hx
        · exact hb x hx
        · rw [List.mem_singleton] at hx
          rw [hx]
          exact ⟨q1, q2⟩) ⟨[], o, rfl, rfl, rfl, by simp, t⟩
  rw [rngD_len] at hl
  refine ⟨l, o', ?_, hl, hb, ht⟩
  simp -implicitDefEqProofs [f__law_row, e_var, e_cst, e_glo, e_op, e_neg, e_cmp, e_cmp2, e_bop, e_not, e_ife, e_tup, e_lst, e_sub, e_slc, e_rvs, e_call, e_bi, e_rgl, e_isi, e_meth, e_idx, eb_1, eb_2, et_val, et_not, et_bop, ets_1, ets_2, eo_g, eo_a, ea_n, ea_c, es_asg, es_par, es_aug, es_put, es_ex, es_ret, es_retN, es_ife, ess_n, ess_c, tgv, tgvs, callv, callv.fin, Option.bind_some, Option.map_some, List.getElem?_cons_zero, List.getElem?_cons_succ, List.set_cons_zero, List.set_cons_succ, asRf_rf, ixN, smallI, wipeD, e]
/-! ### what is drawn -/
def cellD (c : Str × List D) : D := .tuple [.str c.1, .tuple c.2]
def cellsD (cs : List (Str × List D)) : D := .tuple (cs.map cellD)
def opsD : D := .tuple [.tuple [.str (Str.ofString "go"), .int 0, .tuple [], .tuple []]]
inductive Ho where
  | pair | str (fs : List Str) (size : Nat) (cs : List (Str × List D))
def hoD : Ho → D
  | .pair => .tuple [.str (Str.ofString "pair")]
  | .str fs size cs => .tuple [.str (Str.ofString "structure"), .none, .tuple (fs.map PyData.str), .int (size : Nat), .tuple [], .int 0, cellsD cs, .tuple [], opsD]
structure CellsOk (cs : List (Str × List D)) : Prop where
  nd : (cs.map (·.1)).Nodup
  few : cs.length ≤ 3
  ne : ∀ c ∈ cs, 1 ≤ c.2.length ∧ c.2.length ≤ 8
  iv : ∀ c ∈ cs, allI c.2
  so : ∀ c ∈ cs, PyData.strOk c.1 = true
def HoOk : Ho → Prop
  | .pair => True
  | .str fs size cs => fs.Nodup ∧ fs.length ≤ 4 ∧ size ≤ 8 ∧ (fs = [] → size = 0) ∧ CellsOk cs ∧ ∀ x ∈ fs, PyData.strOk x = true
def nms : List Str := [Str.ofString "n", Str.ofString "m", Str.ofString "s", Str.ofString "v_2"]
theorem int4 {l : List Int} (h : l.length = 4) : ∃ a b c d, l = [a, b, c, d] := by
  match l, h with
  | [a, b, c, d], _ => exact ⟨a, b, c, d, rfl⟩
theorem nms_nd : ∀ r : Fin 4, ∀ m : Fin 4, ((List.range m.val).map fun k : Nat => nms.getD ((r.val + k) % 4) (Str.ofString "n")).Nodup := by decide +kernel
theorem nmk_nd (a : Int) (many : Nat) (hm : many ≤ 3) : ((List.range many).map fun k : Nat => nms.getD ((a + (k : Nat)) % 4).toNat (Str.ofString "n")).Nodup := by
  have h0 := Int.emod_nonneg a (show (4 : Int) ≠ 0 by decide)
  have h1 := Int.emod_lt_of_pos a (show (0 : Int) < 4 by decide)
  have e : (fun k : Nat => nms.getD ((a + (k : Nat)) % 4).toNat (Str.ofString "n")) = fun k : Nat => nms.getD (((a % 4).toNat + k) % 4) (Str.ofString "n") := by
    funext k
    have : ((a + (k : Nat)) % 4).toNat = ((a % 4).toNat + k) % 4 := by omega
    rw [this]
  rw [e]
  exact nms_nd ⟨(a % 4).toNat, by omega⟩ ⟨many, by omega⟩
def nmk (a : Int) (k : Nat) : Str := nms.getD ((a + (k : Nat)) % 4).toNat (Str.ofString "n")
def szk (b c e : Int) (k : Nat) : Nat := (1 + ([b, c, e].getD k 0) % 8).toNat
def ck (a b c e : Int) (k : Nat) : Str × List D := (nmk a k, List.replicate (szk b c e k) (.int (k : Nat)))
def fcell (a b c e : Int) (x : D) : D := match x with | .int k => cellD (ck a b c e k.toNat) | _ => .none
theorem at4 (a : Int) (k : Nat) : atI [PyData.str (Str.ofString "n"), .str (Str.ofString "m"), .str (Str.ofString "s"), .str (Str.ofString "v_2")] ((a + (k : Nat)) % 4) = some (.str (nmk a k)) := by
  have h0 := Int.emod_nonneg (a + (k : Nat)) (show (4 : Int) ≠ 0 by decide)
  have h1 := Int.emod_lt_of_pos (a + (k : Nat)) (show (0 : Int) < 4 by decide)
  unfold nmk
  generalize (a + (k : Nat)) % 4 = j at h0 h1
  have : j = 0 ∨ j = 1 ∨ j = 2 ∨ j = 3 := by omega
  rcases this with rfl | rfl | rfl | rfl
  · exact at_0
  · exact at_1
  · exact at_2
  · exact at_3
theorem atd {a b c e : Int} (hb : 0 ≤ b) (hc : 0 ≤ c) (he : 0 ≤ e) {k : Nat} (hk : k < 3) : ∃ z : Int, 0 ≤ z ∧ atI [PyData.int a, .int b, .int c, .int e] (1 + (k : Nat)) = some (.int z) ∧ szk b c e k = (1 + z % 8).toNat := by
  have : k = 0 ∨ k = 1 ∨ k = 2 := by omega
  rcases this with rfl | rfl | rfl
  · exact ⟨b, hb, at_1, rfl⟩
  · exact ⟨c, hc, at_2, rfl⟩
  · exact ⟨e, he, at_3, rfl⟩
theorem szk_ok {b c e : Int} (hb : 0 ≤ b) (hc : 0 ≤ c) (he : 0 ≤ e) {k : Nat} (hk : k < 3) : 1 ≤ szk b c e k ∧ szk b c e k ≤ 8 := by
  obtain ⟨z, z0, _, e⟩ := atd (a := 0) hb hc he hk
  rw [e]
  omega
theorem flat1 (m : Nat) (d : D) : (List.replicate m [d]).flatten = List.replicate m d := by
  induction m with
  | zero => rfl
  | succ m ih => rw [List.replicate_succ, List.flatten_cons, ih, List.replicate_succ]; rfl
abbrev dNms : D := .list [.str (Str.ofString "n"), .str (Str.ofString "m"), .str (Str.ofString "s"), .str (Str.ofString "v_2")]
abbrev eCell : E := .tup (.cons (.sub (.var 2) (.op .mod false (.bi .int false (.cons (.op .add false (.sub (.var 0) (.cst (.int 0))) (.var 3)) .nil)) (.cst (.int 4)))) (.cons (.op .mul false (.tup (.cons (.var 3) .nil)) (.op .add false (.cst (.int 1)) (.op .mod false (.bi .int false (.cons (.sub (.var 0) (.op .add false (.cst (.int 1)) (.var 3))) .nil)) (.cst (.int 8))))) .nil))
theorem turn_cell (n : Nat) (S : Sto) {a b c e : Int} (hb : 0 ≤ b) (hc : 0 ≤ c) (he : 0 ≤ e) {k : Nat} (hk : k < 3) {d : D} :
    evE (C n) eCell [some (.list [.int a, .int b, .int c, .int e]), some d, some dNms, some (.int (k : Nat))] S = some (cellD (ck a b c e k), S) := by
  obtain ⟨z, z0, ez, es⟩ := atd (a := a) hb hc he hk
  have h1 : 1 ≤ 1 + z % 8 := by omega
  have h2 : 1 + z % 8 ≤ 1000 := by omega
  have hs : 1 ≤ sizeLine := by rw [sizeLine_eq]; omega
  have hs2 : 2 ≤ sizeLine := by rw [sizeLine_eq]; omega
  unfold ck cellD
  rw [es]
  simp -implicitDefEqProofs [e_var, e_cst, e_glo, e_op, e_neg, e_cmp, e_cmp2, e_bop, e_not, e_ife, e_tup, e_lst, e_sub, e_slc, e_rvs, e_call, e_bi, e_rgl, e_isi, e_meth, e_idx, eb_1, eb_2, et_val, et_not, et_bop, ets_1, ets_2, eo_g, eo_a, ea_n, ea_c, es_asg, es_par, es_aug, es_put, es_ex, es_ret, es_retN, es_ife, ess_n, ess_c, tgv, tgvs, callv, callv.fin, Option.bind_some, Option.map_some, List.getElem?_cons_zero, List.getElem?_cons_succ, List.set_cons_zero, List.set_cons_succ, asRf_rf, ixN, smallI, wipeD, at4, ez, h1, h2, hs, hs2, flat1]
theorem nms_ok : ∀ r : Fin 4, PyData.strOk (nms.getD r.val (Str.ofString "n")) = true := by decide +kernel
theorem nmk_ok (a : Int) (k : Nat) : PyData.strOk (nmk a k) = true := by
  have h0 := Int.emod_nonneg (a + (k : Nat)) (show (4 : Int) ≠ 0 by decide)
  have h1 := Int.emod_lt_of_pos (a + (k : Nat)) (show (0 : Int) < 4 by decide)
  exact nms_ok ⟨((a + (k : Nat)) % 4).toNat, by omega⟩
theorem some_cells (n : Nat) (S : Sto) {a b c e : Int} (hb : 0 ≤ b) (hc : 0 ≤ c) (he : 0 ≤ e) {many : Nat} (hm : many ≤ 3) :
    ∃ cs, fnN T 100 (n + 1) 25 [.list [.int a, .int b, .int c, .int e], .int (many : Nat)] S = some (cellsD cs, S) ∧ CellsOk cs ∧ cs.length = many := by
  have e0 : fnN T 100 (n + 1) 25 [.list [.int a, .int b, .int c, .int e], .int (many : Nat)] S = callv (C n) f__law_some_cells [.list [.int a, .int b, .int c, .int e], .int (many : Nat)] S := rfl
  rw [e0]
  have hI : evI (C n) (.rng (.cons (.var 1) .nil)) [some (.list [.int a, .int b, .int c, .int e]), some (.int (many : Nat)), some dNms, none] S = some ((rngD 0 many, true), S) := i_R (by simp -implicitDefEqProofs [e_var, e_cst, e_glo, e_op, e_neg, e_cmp, e_cmp2, e_bop, e_not, e_ife, e_tup, e_lst, e_sub, e_slc, e_rvs, e_call, e_bi, e_rgl, e_isi, e_meth, e_idx, eb_1, eb_2, et_val, et_not, et_bop, ets_1, ets_2, eo_g, eo_a, ea_n, ea_c, es_asg, es_par, es_aug, es_put, es_ex, es_ret, es_retN, es_ife, ess_n, ess_c, tgv, tgvs, callv, callv.fin, Option.bind_some, Option.map_some, List.getElem?_cons_zero, List.getElem?_cons_succ, List.set_cons_zero, List.set_cons_succ, asRf_rf, ixN, smallI, wipeD]) (by omega)
  have el := e_lcmap (m := false) (elt := eCell) (t := .nm 3) (own := [3]) (fcell a b c e) hI (fun x hx => by
    obtain ⟨k, hk, rfl⟩ := mem_rng0 hx
    show evE (C n) eCell [some (.list [.int a, .int b, .int c, .int e]), some (.int (many : Nat)), some dNms, some (.int (k : Nat))] S = _
    rw [turn_cell n S hb hc he (by omega)]
    rfl)
  refine ⟨(List.range many).map (ck a b c e), ?_, ⟨?_, by simp; exact hm, ?_, ?_, ?_⟩, by simp⟩
  · have hs : 4 ≤ sizeLine := by rw [sizeLine_eq]; omega
    have ef : (rngD 0 many).map (fcell a b c e) = ((List.range many).map (ck a b c e)).map cellD := by
      unfold rngD
      rw [List.map_map, List.map_map]
      refine List.map_congr_left fun k _ => ?_
      show fcell a b c e (.int (0 + (k : Nat))) = cellD (ck a b c e k)
      rw [Int.zero_add]
      show cellD (ck a b c e ((k : Nat) : Int).toNat) = _
      rw [Int.toNat_natCast]
    simp only [dNms, eCell] at el
    have c1 : evS (C n) (.asg (.nm 2) (.lst false (.cons (.cst (.str (Str.ofString "n"))) (.cons (.cst (.str (Str.ofString "m"))) (.cons (.cst (.str (Str.ofString "s"))) (.cons (.cst (.str (Str.ofString "v_2"))) .nil)))))) [some (.list [.int a, .int b, .int c, .int e]), some (.int (many : Nat)), none, none] S = some (.nx, [some (.list [.int a, .int b, .int c, .int e]), some (.int (many : Nat)), some dNms, none], S) := by
      simp -implicitDefEqProofs [e_var, e_cst, e_glo, e_op, e_neg, e_cmp, e_cmp2, e_bop, e_not, e_ife, e_tup, e_lst, e_sub, e_slc, e_rvs, e_call, e_bi, e_rgl, e_isi, e_meth, e_idx, eb_1, eb_2, et_val, et_not, et_bop, ets_1, ets_2, eo_g, eo_a, ea_n, ea_c, es_asg, es_par, es_aug, es_put, es_ex, es_ret, es_retN, es_ife, ess_n, ess_c, tgv, tgvs, callv, callv.fin, Option.bind_some, Option.map_some, List.getElem?_cons_zero, List.getElem?_cons_succ, List.set_cons_zero, List.set_cons_succ, asRf_rf, ixN, smallI, wipeD, hs]
    refine callv_rt rfl rfl (δ' := [some (.list [.int a, .int b, .int c, .int e]), some (.int (many : Nat)), some dNms, none]) ?_
    show evSs (C n) f__law_some_cells.body [some (.list [.int a, .int b, .int c, .int e]), some (.int (many : Nat)), none, none] S = _
    unfold f__law_some_cells
    rw [ess_c, c1, Option.bind_some]
    show evSs (C n) _ [some (.list [.int a, .int b, .int c, .int e]), some (.int (many : Nat)), some dNms, none] S = _
    rw [ess_c, es_ret, e_bi, ea_c, el, Option.bind_some, ea_n, Option.map_some, Option.bind_some, mkl_f, b_tupL, Option.map_some, Option.bind_some, ef]
    rfl
  · rw [List.map_map]
    exact nmk_nd a many hm
  · intro x hx
    obtain ⟨k, hk, rfl⟩ := List.mem_map.mp hx
    rw [List.mem_range] at hk
    show 1 ≤ (List.replicate (szk b c e k) _).length ∧ (List.replicate (szk b c e k) _).length ≤ 8
    rw [List.length_replicate]
    exact szk_ok hb hc he (by omega)
  · intro x hx
    obtain ⟨k, hk, rfl⟩ := List.mem_map.mp hx
    intro d hd
    exact ⟨k, List.eq_of_mem_replicate hd⟩
  · intro x hx
    obtain ⟨k, hk, rfl⟩ := List.mem_map.mp hx
    exact nmk_ok a k
end K00

namespace K00
open PySem PySem.Spec
open PyProof.Rows L2 Ev
def flds : List Str := [Str.ofString "f", Str.ofString "n", Str.ofString "link", Str.ofString "s"]
theorem cut_flds : ∀ k : Fin 5, cutD [PyData.str (Str.ofString "f"), .str (Str.ofString "n"), .str (Str.ofString "link"), .str (Str.ofString "s")] none (some ((k.val : Nat) : Int)) = (flds.take k.val).map PyData.str := by
  intro k
  match k with
  | ⟨0, _⟩ => rfl
  | ⟨1, _⟩ => rfl
  | ⟨2, _⟩ => rfl
  | ⟨3, _⟩ => rfl
  | ⟨4, _⟩ => rfl
theorem flds_ok : ∀ k : Fin 5, ∀ x ∈ flds.take k.val, PyData.strOk x = true := by decide +kernel
theorem flds_nd : ∀ k : Fin 5, (flds.take k.val).Nodup := by decide +kernel
theorem at8 {a b c d e f g h : D} : atI [a, b, c, d, e, f, g, h] 5 = some f ∧ atI [a, b, c, d, e, f, g, h] 6 = some g ∧ atI [a, b, c, d, e, f, g, h] 7 = some h := ⟨rfl, rfl, rfl⟩
theorem cut8 {a b c d e f g h : D} : cutD [a, b, c, d, e, f, g, h] (some 1) (some 5) = [b, c, d, e] := rfl
abbrev l8 (a b c d e f g h : Int) : D := .list [.int a, .int b, .int c, .int d, .int e, .int f, .int g, .int h]
/-- what a first object may be -/
def FirstOk (x : D) : Prop := x = .none ∨ ∃ h, x = hoD h ∧ HoOk h
theorem hoD_tup (h : Ho) : ∃ xs, hoD h = .tuple xs := by cases h <;> exact ⟨_, rfl⟩
theorem some_object (n : Nat) (S : Sto) {a b c d e f g h : Int} (hc : 0 ≤ c) (hd : 0 ≤ d) (he : 0 ≤ e) (hf : 0 ≤ f) (hg : 0 ≤ g) (hh : 0 ≤ h) {x : D} (hx : FirstOk x) :
    ∃ o, fnN T 100 (n + 2) 26 [l8 a b c d e f g h, x] S = some (hoD o, S) ∧ HoOk o := by
  have e0 : fnN T 100 (n + 2) 26 [l8 a b c d e f g h, x] S = callv (C (n + 1)) f__law_some_object [l8 a b c d e f g h, x] S := rfl
  rw [e0]
  have hs : 9 ≤ sizeLine ∧ 1 ≤ sizeLine ∧ 4 ≤ sizeLine := by rw [sizeLine_eq]; omega
  obtain ⟨q5, q6, q7⟩ := at8 (a := .int a) (b := .int b) (c := .int c) (d := .int d) (e := .int e) (f := .int f) (g := .int g) (h := .int h)
  by_cases h0 : a % 6 = 0
  · refine ⟨.pair, callv_rt rfl rfl (δ' := [some (l8 a b c d e f g h), some x, some (.int 0), none, none]) ?_, trivial⟩
    show evSs (C (n + 1)) f__law_some_object.body [some (l8 a b c d e f g h), some x, none, none, none] S = _
    unfold f__law_some_object
    simp -implicitDefEqProofs [e_var, e_cst, e_glo, e_op, e_neg, e_cmp, e_cmp2, e_bop, e_not, e_ife, e_tup, e_lst, e_sub, e_slc, e_rvs, e_call, e_bi, e_rgl, e_isi, e_meth, e_idx, eb_1, eb_2, et_val, et_not, et_bop, ets_1, ets_2, eo_g, eo_a, ea_n, ea_c, es_asg, es_par, es_aug, es_put, es_ex, es_ret, es_retN, es_ife, ess_n, ess_c, tgv, tgvs, callv, callv.fin, Option.bind_some, Option.map_some, List.getElem?_cons_zero, List.getElem?_cons_succ, List.set_cons_zero, List.set_cons_succ, asRf_rf, ixN, smallI, wipeD, h0, hs, hoD]
  · by_cases h1 : a % 6 = 1 ∧ ∃ o, x = hoD o ∧ HoOk o
    · obtain ⟨h1, o, rfl, ho⟩ := h1
      refine ⟨o, callv_rt rfl rfl (δ' := [some (l8 a b c d e f g h), some (hoD o), some (.int 1), none, none]) ?_, ho⟩
      show evSs (C (n + 1)) f__law_some_object.body [some (l8 a b c d e f g h), some (hoD o), none, none, none] S = _
      obtain ⟨xs, ex⟩ := hoD_tup o
      rw [ex]
      unfold f__law_some_object
      simp -implicitDefEqProofs [e_var, e_cst, e_glo, e_op, e_neg, e_cmp, e_cmp2, e_bop, e_not, e_ife, e_tup, e_lst, e_sub, e_slc, e_rvs, e_call, e_bi, e_rgl, e_isi, e_meth, e_idx, eb_1, eb_2, et_val, et_not, et_bop, ets_1, ets_2, eo_g, eo_a, ea_n, ea_c, es_asg, es_par, es_aug, es_put, es_ex, es_ret, es_retN, es_ife, ess_n, ess_c, tgv, tgvs, callv, callv.fin, Option.bind_some, Option.map_some, List.getElem?_cons_zero, List.getElem?_cons_succ, List.set_cons_zero, List.set_cons_succ, asRf_rf, ixN, smallI, wipeD, h1]
    · have sk : ∃ bb : Bool, evT (C (n + 1)) (.bop true (.cons (.val (.cmp .Eq (.var 2) (.cst (.int 1)))) (.cons (.val (.cmp .IsNot (.var 1) (.cst .none))) .nil))) [some (l8 a b c d e f g h), some x, some (.int (a % 6)), none, none] S = some (false, S) := by
        refine ⟨true, ?_⟩
        by_cases ha : a % 6 = 1
        · rcases hx with rfl | hx
          · simp -implicitDefEqProofs [e_var, e_cst, e_glo, e_op, e_neg, e_cmp, e_cmp2, e_bop, e_not, e_ife, e_tup, e_lst, e_sub, e_slc, e_rvs, e_call, e_bi, e_rgl, e_isi, e_meth, e_idx, eb_1, eb_2, et_val, et_not, et_bop, ets_1, ets_2, eo_g, eo_a, ea_n, ea_c, es_asg, es_par, es_aug, es_put, es_ex, es_ret, es_retN, es_ife, ess_n, ess_c, tgv, tgvs, callv, callv.fin, Option.bind_some, Option.map_some, List.getElem?_cons_zero, List.getElem?_cons_succ, List.set_cons_zero, List.set_cons_succ, asRf_rf, ixN, smallI, wipeD, ha]
          · exact absurd ⟨ha, hx⟩ h1
        · simp -implicitDefEqProofs [e_var, e_cst, e_glo, e_op, e_neg, e_cmp, e_cmp2, e_bop, e_not, e_ife, e_tup, e_lst, e_sub, e_slc, e_rvs, e_call, e_bi, e_rgl, e_isi, e_meth, e_idx, eb_1, eb_2, et_val, et_not, et_bop, ets_1, ets_2, eo_g, eo_a, ea_n, ea_c, es_asg, es_par, es_aug, es_put, es_ex, es_ret, es_retN, es_ife, ess_n, ess_c, tgv, tgvs, callv, callv.fin, Option.bind_some, Option.map_some, List.getElem?_cons_zero, List.getElem?_cons_succ, List.set_cons_zero, List.set_cons_succ, asRf_rf, ixN, smallI, wipeD, ha]
      obtain ⟨_, sk⟩ := sk
      obtain ⟨cs, ec, hcs, hcl⟩ := some_cells n S (a := b) (b := c) (c := d) (e := e) hc hd he (many := (f % 4).toNat) (by omega)
      have f4 : f % 4 = ((f % 4).toNat : Int) := by omega
      rw [← f4] at ec
      have g5 : g % 5 = ((g % 5).toNat : Int) := by omega
      have gl : (g % 5).toNat < 5 := by omega
      have ct := cut_flds ⟨(g % 5).toNat, gl⟩
      have ctn := flds_nd ⟨(g % 5).toNat, gl⟩
      have cto := flds_ok ⟨(g % 5).toNat, gl⟩
      simp only at cto
      simp only [← g5] at ct
      have ln : (flds.take (g % 5).toNat).length ≤ 4 := by rw [List.length_take]; exact Nat.min_le_right _ _
      generalize hF : flds.take (g % 5).toNat = F at ct ctn ln cto
      have size : ∃ z : Nat, (if (0 : Int) < ((F.map PyData.str).length : Nat) then some (PyData.int (1 + h % 8), S) else some (PyData.int 0, S)) = some (PyData.int (z : Nat), S) ∧ z ≤ 8 ∧ (F = [] → z = 0) := by
        rw [List.length_map]
        by_cases hF : F = []
        · subst hF
          exact ⟨0, rfl, by omega, fun _ => rfl⟩
        · have : 0 < F.length := List.length_pos_iff.mpr hF
          rw [if_pos (by omega)]
          refine ⟨(1 + h % 8).toNat, ?_, by omega, fun q => absurd q hF⟩
          rw [show (((1 + h % 8).toNat : Nat) : Int) = 1 + h % 8 by omega]
      obtain ⟨z, ez, hz, hz0⟩ := size
      have s1 : evS (C (n + 1)) (.asg (.nm 2) (.op .mod false (.bi .int false (.cons (.sub (.var 0) (.cst (.int 0))) .nil)) (.cst (.int 6)))) [some (l8 a b c d e f g h), some x, none, none, none] S = some (.nx, [some (l8 a b c d e f g h), some x, some (.int (a % 6)), none, none], S) := by
        simp -implicitDefEqProofs [e_var, e_cst, e_glo, e_op, e_neg, e_cmp, e_cmp2, e_bop, e_not, e_ife, e_tup, e_lst, e_sub, e_slc, e_rvs, e_call, e_bi, e_rgl, e_isi, e_meth, e_idx, eb_1, eb_2, et_val, et_not, et_bop, ets_1, ets_2, eo_g, eo_a, ea_n, ea_c, es_asg, es_par, es_aug, es_put, es_ex, es_ret, es_retN, es_ife, ess_n, ess_c, tgv, tgvs, callv, callv.fin, Option.bind_some, Option.map_some, List.getElem?_cons_zero, List.getElem?_cons_succ, List.set_cons_zero, List.set_cons_succ, asRf_rf, ixN, smallI, wipeD]
      have s2 : evS (C (n + 1)) (.asg (.nm 3) (.bi .tuple false (.cons (.slc false (.lst false (.cons (.cst (.str (Str.ofString "f"))) (.cons (.cst (.str (Str.ofString "n"))) (.cons (.cst (.str (Str.ofString "link"))) (.cons (.cst (.str (Str.ofString "s"))) .nil))))) .gap (.at (.op .mod false (.bi .int false (.cons (.sub (.var 0) (.cst (.int 6))) .nil)) (.cst (.int 5))))) .nil))) [some (l8 a b c d e f g h), some x, some (.int (a % 6)), none, none] S = some (.nx, [some (l8 a b c d e f g h), some x, some (.int (a % 6)), some (.tuple (F.map PyData.str)), none], S) := by
        simp -implicitDefEqProofs [e_var, e_cst, e_glo, e_op, e_neg, e_cmp, e_cmp2, e_bop, e_not, e_ife, e_tup, e_lst, e_sub, e_slc, e_rvs, e_call, e_bi, e_rgl, e_isi, e_meth, e_idx, eb_1, eb_2, et_val, et_not, et_bop, ets_1, ets_2, eo_g, eo_a, ea_n, ea_c, es_asg, es_par, es_aug, es_put, es_ex, es_ret, es_retN, es_ife, ess_n, ess_c, tgv, tgvs, callv, callv.fin, Option.bind_some, Option.map_some, List.getElem?_cons_zero, List.getElem?_cons_succ, List.set_cons_zero, List.set_cons_succ, asRf_rf, ixN, smallI, wipeD, hs, q6, ct]
      have s3 : evS (C (n + 1)) (.asg (.nm 4) (.ife (.val (.cmp .Gt (.bi .len false (.cons (.var 3) .nil)) (.cst (.int 0)))) (.op .add false (.cst (.int 1)) (.op .mod false (.bi .int false (.cons (.sub (.var 0) (.cst (.int 7))) .nil)) (.cst (.int 8)))) (.cst (.int 0)))) [some (l8 a b c d e f g h), some x, some (.int (a % 6)), some (.tuple (F.map PyData.str)), none] S = some (.nx, [some (l8 a b c d e f g h), some x, some (.int (a % 6)), some (.tuple (F.map PyData.str)), some (.int (z : Nat))], S) := by
        have : evE (C (n + 1)) (.ife (.val (.cmp .Gt (.bi .len false (.cons (.var 3) .nil)) (.cst (.int 0)))) (.op .add false (.cst (.int 1)) (.op .mod false (.bi .int false (.cons (.sub (.var 0) (.cst (.int 7))) .nil)) (.cst (.int 8)))) (.cst (.int 0))) [some (l8 a b c d e f g h), some x, some (.int (a % 6)), some (.tuple (F.map PyData.str)), none] S = some (.int (z : Nat), S) := by
          rw [← ez]
          simp -implicitDefEqProofs [e_var, e_cst, e_glo, e_op, e_neg, e_cmp, e_cmp2, e_bop, e_not, e_ife, e_tup, e_lst, e_sub, e_slc, e_rvs, e_call, e_bi, e_rgl, e_isi, e_meth, e_idx, eb_1, eb_2, et_val, et_not, et_bop, ets_1, ets_2, eo_g, eo_a, ea_n, ea_c, es_asg, es_par, es_aug, es_put, es_ex, es_ret, es_retN, es_ife, ess_n, ess_c, tgv, tgvs, callv, callv.fin, Option.bind_some, Option.map_some, List.getElem?_cons_zero, List.getElem?_cons_succ, List.set_cons_zero, List.set_cons_succ, asRf_rf, ixN, smallI, wipeD, q7]
        rw [es_asg, this]
        rfl
      refine ⟨.str F z cs, callv_rt rfl rfl (δ' := [some (l8 a b c d e f g h), some x, some (.int (a % 6)), some (.tuple (F.map PyData.str)), some (.int (z : Nat))]) ?_, ctn, ln, hz, hz0, hcs, cto⟩
      show evSs (C (n + 1)) f__law_some_object.body [some (l8 a b c d e f g h), some x, none, none, none] S = _
      unfold f__law_some_object
      rw [ess_c, s1, Option.bind_some]
      show evSs (C (n + 1)) _ [some (l8 a b c d e f g h), some x, some (.int (a % 6)), none, none] S = _
      have k1 : evS (C (n + 1)) (.ife (.val (.cmp .Eq (.var 2) (.cst (.int 0)))) (.cons (.ret (.tup (.cons (.cst (.str (Str.ofString "pair"))) .nil))) .nil) .nil) [some (l8 a b c d e f g h), some x, some (.int (a % 6)), none, none] S = some (.nx, [some (l8 a b c d e f g h), some x, some (.int (a % 6)), none, none], S) := by
        simp -implicitDefEqProofs [e_var, e_cst, e_glo, e_op, e_neg, e_cmp, e_cmp2, e_bop, e_not, e_ife, e_tup, e_lst, e_sub, e_slc, e_rvs, e_call, e_bi, e_rgl, e_isi, e_meth, e_idx, eb_1, eb_2, et_val, et_not, et_bop, ets_1, ets_2, eo_g, eo_a, ea_n, ea_c, es_asg, es_par, es_aug, es_put, es_ex, es_ret, es_retN, es_ife, ess_n, ess_c, tgv, tgvs, callv, callv.fin, Option.bind_some, Option.map_some, List.getElem?_cons_zero, List.getElem?_cons_succ, List.set_cons_zero, List.set_cons_succ, asRf_rf, ixN, smallI, wipeD, h0]
      rw [ess_c, k1, Option.bind_some]
      show evSs (C (n + 1)) _ [some (l8 a b c d e f g h), some x, some (.int (a % 6)), none, none] S = _
      rw [ess_c, es_ife, sk, Option.bind_some]
      show ((evSs (C (n + 1)) .nil _ _).bind _) = _
      rw [ess_n, Option.bind_some]
      show evSs (C (n + 1)) _ [some (l8 a b c d e f g h), some x, some (.int (a % 6)), none, none] S = _
      rw [ess_c, s2, Option.bind_some]
      show evSs (C (n + 1)) _ [some (l8 a b c d e f g h), some x, some (.int (a % 6)), some (.tuple (F.map PyData.str)), none] S = _
      rw [ess_c, s3, Option.bind_some]
      show evSs (C (n + 1)) _ [some (l8 a b c d e f g h), some x, some (.int (a % 6)), some (.tuple (F.map PyData.str)), some (.int (z : Nat))] S = _
      simp -implicitDefEqProofs [e_var, e_cst, e_glo, e_op, e_neg, e_cmp, e_cmp2, e_bop, e_not, e_ife, e_tup, e_lst, e_sub, e_slc, e_rvs, e_call, e_bi, e_rgl, e_isi, e_meth, e_idx, eb_1, eb_2, et_val, et_not, et_bop, ets_1, ets_2, eo_g, eo_a, ea_n, ea_c, es_asg, es_par, es_aug, es_put, es_ex, es_ret, es_retN, es_ife, ess_n, ess_c, tgv, tgvs, callv, callv.fin, Option.bind_some, Option.map_some, List.getElem?_cons_zero, List.getElem?_cons_succ, List.set_cons_zero, List.set_cons_succ, asRf_rf, ixN, smallI, wipeD, hs, C_fn, q5, cut8, ec, hoD, opsD]
end K00

namespace K00
open PySem PySem.Spec
open PyProof.Rows L2 Ev
/-! ### the plain law of rows and addresses -/
abbrev Cs := List (Str × List D)
inductive Ent where
  | cell (o : Int) (nm : Str) (k : Nat) | field (o : Int) (k : Nat) (nm : Str)
def entD : Ent → D
  | .cell o nm k => .tuple [.str (Str.ofString "cell"), .int o, .str nm, .int (k : Nat)]
  | .field o k nm => .tuple [.str (Str.ofString "field"), .int o, .int (k : Nat), .str nm]
def wc (cs : Cs) : Nat := (cs.map fun c => c.2.length).sum
def rowC (o : Int) : Cs → List Ent
  | [] => []
  | c :: r => (List.range c.2.length).map (fun k => Ent.cell o c.1 k) ++ rowC o r
def rowF (o : Int) (fs : List Str) : Nat → List Ent
  | 0 => []
  | n + 1 => rowF o fs n ++ fs.map fun nm => Ent.field o n nm
def rowH (o : Int) : Ho → List Ent
  | .pair => []
  | .str fs size cs => rowC o cs ++ rowF o fs size
def rowHs (o : Int) : List Ho → List Ent
  | [] => []
  | h :: r => rowH o h ++ rowHs (o + 1) r
def rowAll (G : Cs) (hs : List Ho) : List Ent := rowC (-1) G ++ rowHs 0 hs
def szH : Ho → Nat
  | .pair => 0
  | .str fs size cs => wc cs + size * fs.length
def basesFrom (b : Nat) : List Ho → List Nat
  | [] => []
  | h :: r => b :: basesFrom (b + szH h) r
theorem rowC_len (o : Int) : ∀ cs, (rowC o cs).length = wc cs
  | [] => rfl
  | c :: r => by
    rw [rowC, List.length_append, rowC_len o r]
    simp [wc]
theorem rowF_len (o : Int) (fs : List Str) : ∀ n, (rowF o fs n).length = n * fs.length
  | 0 => by rw [Nat.zero_mul]; rfl
  | n + 1 => by rw [rowF, List.length_append, rowF_len o fs n, List.length_map, Nat.succ_mul]
theorem rowH_len (o : Int) (h : Ho) : (rowH o h).length = szH h := by
  cases h with
  | pair => rfl
  | str fs size cs => rw [rowH, List.length_append, rowC_len, rowF_len]; rfl
/-- a cell by its place -/
def findC (o : Int) : Cs → Nat → Ent ⊕ Nat
  | [], i => .inr i
  | c :: r, i => if i < c.2.length then .inl (.cell o c.1 i) else findC o r (i - c.2.length)
theorem findC_in {o : Int} : ∀ {cs : Cs} {i : Nat}, i < wc cs → ∃ e, (rowC o cs)[i]? = some e ∧ findC o cs i = .inl e
  | [], i, h => absurd h (Nat.not_lt_zero _)
  | c :: r, i, h => by
    unfold findC rowC
    by_cases hi : i < c.2.length
    · rw [if_pos hi, List.getElem?_append_left (by simpa using hi)]
      exact ⟨_, by simp [hi], rfl⟩
    · rw [if_neg hi, List.getElem?_append_right (by simpa using hi)]
      have hw : wc (c :: r) = c.2.length + wc r := by simp [wc]
      obtain ⟨e, h1, h2⟩ := findC_in (o := o) (cs := r) (i := i - c.2.length) (by omega)
      exact ⟨e, by simpa using h1, h2⟩
theorem findC_out {o : Int} : ∀ {cs : Cs} {i : Nat}, wc cs ≤ i → findC o cs i = .inr (i - wc cs)
  | [], i, h => rfl
  | c :: r, i, h => by
    have hw : wc (c :: r) = c.2.length + wc r := by simp [wc]
    unfold findC
    rw [if_neg (by omega), findC_out (by omega), hw]
    congr 1
    omega
theorem rowF_get {o : Int} {fs : List Str} : ∀ {n i : Nat}, i < n * fs.length → ∃ nm, fs[i % fs.length]? = some nm ∧ (rowF o fs n)[i]? = some (.field o (i / fs.length) nm)
  | 0, i, h => by rw [Nat.zero_mul] at h; exact absurd h (Nat.not_lt_zero _)
  | n + 1, i, h => by
    unfold rowF
    by_cases hi : i < n * fs.length
    · obtain ⟨nm, h1, h2⟩ := rowF_get (o := o) hi
      exact ⟨nm, h1, by rw [List.getElem?_append_left (by rw [rowF_len]; exact hi)]; exact h2⟩
    · have hi : n * fs.length ≤ i := Nat.le_of_not_lt hi
      rw [Nat.succ_mul] at h
      have h0 : 0 < fs.length := by omega
      have hj : i - n * fs.length < fs.length := by omega
      have e1 : i = n * fs.length + (i - n * fs.length) := by omega
      have ed : i / fs.length = n := by
        rw [e1, Nat.add_comm, Nat.add_mul_div_right _ _ h0, Nat.div_eq_of_lt hj, Nat.zero_add]
      have em : i % fs.length = i - n * fs.length := by
        conv => lhs; rw [e1, Nat.add_comm, Nat.add_mul_mod_self_right]
        exact Nat.mod_eq_of_lt hj
      rw [List.getElem?_append_right (by rw [rowF_len]; exact hi), rowF_len, em, ed]
      exact ⟨fs[i - n * fs.length], List.getElem?_eq_getElem hj, by simp [List.getElem?_eq_getElem hj]⟩
/-! ### addresses -/
def offC : Cs → Str → Nat
  | [], _ => 0
  | c :: r, nm => if c.1 = nm then 0 else c.2.length + offC r nm
def lenC : Cs → Str → Nat
  | [], _ => 0
  | c :: r, nm => if c.1 = nm then c.2.length else lenC r nm
theorem rowC_mem {o : Int} {e : Ent} : ∀ {cs : Cs}, e ∈ rowC o cs → ∃ nm k, e = .cell o nm k ∧ nm ∈ cs.map (·.1)
  | [], h => by cases h
  | c :: r, h => by
    unfold rowC at h
    rcases List.mem_append.mp h with h | h
    · obtain ⟨k, _, rfl⟩ := List.mem_map.mp h
      exact ⟨_, _, rfl, List.mem_cons_self⟩
    · obtain ⟨nm, k, e, q⟩ := rowC_mem h
      exact ⟨nm, k, e, List.mem_cons_of_mem _ q⟩
theorem rowC_at {o : Int} : ∀ {cs : Cs} {i : Nat} {e : Ent}, (cs.map (·.1)).Nodup → (rowC o cs)[i]? = some e → ∃ nm k, e = .cell o nm k ∧ offC cs nm + k = i ∧ k < lenC cs nm ∧ nm ∈ cs.map (·.1)
  | [], i, e, _, h => by cases h
  | c :: r, i, e, nd, h => by
    obtain ⟨n1, n2⟩ := List.nodup_cons.mp (show (c.1 :: r.map (·.1)).Nodup from nd)
    unfold rowC at h
    by_cases hi : i < c.2.length
    · rw [List.getElem?_append_left (by simpa using hi)] at h
      have : e = .cell o c.1 i := by simpa [hi] using h.symm
      exact ⟨c.1, i, this, by simp [offC], by simpa [lenC] using hi, List.mem_cons_self⟩
    · rw [List.getElem?_append_right (by simpa using hi)] at h
      obtain ⟨nm, k, e1, e2, e3, e4⟩ := rowC_at n2 h
      have hne : c.1 ≠ nm := fun z => n1 (z ▸ e4)
      refine ⟨nm, k, e1, ?_, ?_, List.mem_cons_of_mem _ e4⟩
      · rw [offC, if_neg hne]
        simp at e2
        omega
      · rw [lenC, if_neg hne]
        exact e3
theorem rowC_has {o : Int} : ∀ {cs : Cs} {nm : Str} {k : Nat}, nm ∈ cs.map (·.1) → k < lenC cs nm → Ent.cell o nm k ∈ rowC o cs
  | [], _, _, h, _ => by cases h
  | c :: r, nm, k, h, hk => by
    unfold rowC
    unfold lenC at hk
    by_cases hc : c.1 = nm
    · rw [if_pos hc] at hk
      subst hc
      exact List.mem_append_left _ (List.mem_map.mpr ⟨k, List.mem_range.mpr hk, rfl⟩)
    · rw [if_neg hc] at hk
      rcases List.mem_cons.mp h with h | h
      · exact absurd h.symm hc
      · exact List.mem_append_right _ (rowC_has h hk)
def cellsOf : Ho → Cs
  | .pair => []
  | .str _ _ cs => cs
def fieldsOf : Ho → List Str
  | .pair => []
  | .str fs _ _ => fs
def sizeOf' : Ho → Nat
  | .pair => 0
  | .str _ n _ => n
theorem rowH_eq (o : Int) (h : Ho) : rowH o h = rowC o (cellsOf h) ++ rowF o (fieldsOf h) (sizeOf' h) := by cases h <;> rfl
theorem szH_eq (h : Ho) : szH h = wc (cellsOf h) + sizeOf' h * (fieldsOf h).length := by cases h <;> simp [szH, cellsOf, fieldsOf, sizeOf', wc]
def baseN (G : Cs) (hs : List Ho) (o : Nat) : Nat := wc G + ((hs.take o).map szH).sum
/-- place of the o-th object's first word among the objects' rows -/
def pre (hs : List Ho) (o : Nat) : Nat := ((hs.take o).map szH).sum
theorem pre_succ {hs : List Ho} {o : Nat} {h : Ho} (e : hs[o]? = some h) : pre hs (o + 1) = pre hs o + szH h := by
  unfold pre
  rw [List.take_add_one, e]
  simp
theorem rowHs_at : ∀ {hs : List Ho} {b : Int} {i : Nat} {e : Ent}, (rowHs b hs)[i]? = some e → ∃ (o : Nat) (h : Ho), hs[o]? = some h ∧ pre hs o ≤ i ∧ i < pre hs o + szH h ∧ (rowH (b + o) h)[i - pre hs o]? = some e
  | [], b, i, e, h => by cases h
  | h0 :: r, b, i, e, h => by
    unfold rowHs at h
    by_cases hi : i < (rowH b h0).length
    · rw [List.getElem?_append_left hi] at h
      rw [rowH_len] at hi
      exact ⟨0, h0, rfl, Nat.zero_le _, by simpa [pre] using hi, by simpa [pre] using h⟩
    · rw [List.getElem?_append_right (Nat.le_of_not_lt hi)] at h
      rw [rowH_len] at h hi
      obtain ⟨o, h1, e1, e2, e3, e4⟩ := rowHs_at h
      have ep : pre (h0 :: r) (o + 1) = szH h0 + pre r o := by simp [pre]
      refine ⟨o + 1, h1, e1, by omega, by omega, ?_⟩
      rw [ep, show b + ((o + 1 : Nat) : Int) = b + 1 + (o : Nat) by omega, show i - (szH h0 + pre r o) = i - szH h0 - pre r o by omega]
      exact e4
theorem rowHs_has : ∀ {hs : List Ho} {b : Int} {o : Nat} {h : Ho} {e : Ent}, hs[o]? = some h → e ∈ rowH (b + o) h → e ∈ rowHs b hs
  | [], _, _, _, _, h, _ => by cases h
  | h0 :: r, b, 0, h, e, hh, he => by
    cases hh
    unfold rowHs
    exact List.mem_append_left _ (by simpa using he)
  | h0 :: r, b, o + 1, h, e, hh, he => by
    unfold rowHs
    refine List.mem_append_right _ (rowHs_has (o := o) hh ?_)
    rw [show b + 1 + (o : Nat) = b + ((o + 1 : Nat) : Int) by omega]
    exact he
def idxOf (nm : Str) : List Str → Nat
  | [] => 0
  | x :: r => if x = nm then 0 else idxOf nm r + 1
theorem idxOf_at {nm : Str} : ∀ {fs : List Str} {i : Nat}, fs.Nodup → fs[i]? = some nm → idxOf nm fs = i
  | [], _, _, h => by cases h
  | x :: r, 0, _, h => by cases h; simp [idxOf]
  | x :: r, i + 1, nd, h => by
    obtain ⟨n1, n2⟩ := List.nodup_cons.mp nd
    have hm : nm ∈ r := List.mem_of_getElem? (i := i) h
    have hne : x ≠ nm := fun z => n1 (z ▸ hm)
    rw [idxOf, if_neg hne, idxOf_at n2 h]
/-- an entry's address -/
def addr (G : Cs) (hs : List Ho) : Ent → Nat
  | .cell o nm k => if o < 0 then offC G nm + k else match hs[o.toNat]? with
    | some h => wc G + pre hs o.toNat + offC (cellsOf h) nm + k
    | none => 0
  | .field o k nm => match hs[o.toNat]? with
    | some h => wc G + pre hs o.toNat + wc (cellsOf h) + k * (fieldsOf h).length + idxOf nm (fieldsOf h)
    | none => 0
structure SrcOk (G : Cs) (hs : List Ho) : Prop where
  g : CellsOk G
  h : ∀ h ∈ hs, HoOk h
theorem SrcOk.cells {G : Cs} {hs : List Ho} (s : SrcOk G hs) {h : Ho} (e : h ∈ hs) : (cellsOf h |>.map (·.1)).Nodup ∧ (fieldsOf h).Nodup := by
  have q := s.h h e
  cases h with
  | pair => exact ⟨List.nodup_nil, List.nodup_nil⟩
  | str fs n cs => exact ⟨q.2.2.2.2.1.nd, q.1⟩
/-- what stands at a place -/
theorem row_at {G : Cs} {hs : List Ho} (s : SrcOk G hs) {i : Nat} {e : Ent} (he : (rowAll G hs)[i]? = some e) :
    (i < wc G ∧ ∃ nm k, e = .cell (-1) nm k ∧ (rowC (-1) G)[i]? = some e ∧ offC G nm + k = i ∧ k < lenC G nm ∧ nm ∈ G.map (·.1)) ∨
    (∃ (o : Nat) (h : Ho), hs[o]? = some h ∧ wc G + pre hs o ≤ i ∧ i < wc G + pre hs o + szH h ∧
      ((∃ nm k, e = .cell o nm k ∧ (rowC o (cellsOf h))[i - (wc G + pre hs o)]? = some e ∧ i - (wc G + pre hs o) < wc (cellsOf h) ∧ offC (cellsOf h) nm + k = i - (wc G + pre hs o) ∧ k < lenC (cellsOf h) nm ∧ nm ∈ (cellsOf h).map (·.1)) ∨
       (wc (cellsOf h) ≤ i - (wc G + pre hs o) ∧ ∃ nm, i - (wc G + pre hs o) - wc (cellsOf h) < sizeOf' h * (fieldsOf h).length ∧ (fieldsOf h)[(i - (wc G + pre hs o) - wc (cellsOf h)) % (fieldsOf h).length]? = some nm ∧ e = .field o ((i - (wc G + pre hs o) - wc (cellsOf h)) / (fieldsOf h).length) nm))) := by
  unfold rowAll at he
  by_cases hi : i < wc G
  · rw [List.getElem?_append_left (by rw [rowC_len]; exact hi)] at he
    obtain ⟨nm, k, e1, e2, e3, e4⟩ := rowC_at s.g.nd he
    exact .inl ⟨hi, nm, k, e1, he, e2, e3, e4⟩
  · rw [List.getElem?_append_right (by rw [rowC_len]; omega), rowC_len] at he
    obtain ⟨o, h, e1, e2, e3, e4⟩ := rowHs_at he
    rw [Int.zero_add, show i - wc G - pre hs o = i - (wc G + pre hs o) by omega] at e4
    refine .inr ⟨o, h, e1, by omega, by omega, ?_⟩
    rw [rowH_eq] at e4
    rw [szH_eq] at e3
    by_cases hj : i - (wc G + pre hs o) < wc (cellsOf h)
    · rw [List.getElem?_append_left (by rw [rowC_len]; exact hj)] at e4
      obtain ⟨nm, k, f1, f2, f3, f4⟩ := rowC_at (s.cells (List.mem_of_getElem? e1)).1 e4
      exact .inl ⟨nm, k, f1, e4, hj, f2, f3, f4⟩
    · rw [List.getElem?_append_right (by rw [rowC_len]; omega), rowC_len] at e4
      have hl : i - (wc G + pre hs o) - wc (cellsOf h) < sizeOf' h * (fieldsOf h).length := by omega
      obtain ⟨nm, f1, f2⟩ := rowF_get (o := (o : Int)) hl
      rw [f2] at e4
      exact .inr ⟨by omega, nm, hl, f1, (Option.some.inj e4).symm⟩
theorem addr_at {G : Cs} {hs : List Ho} (s : SrcOk G hs) {i : Nat} {e : Ent} (he : (rowAll G hs)[i]? = some e) : addr G hs e = i := by
  rcases row_at s he with ⟨_, nm, k, rfl, _, e1, _⟩ | ⟨o, h, e1, e2, e3, ⟨nm, k, rfl, _, _, f2, _⟩ | ⟨f0, nm, fl, f1, rfl⟩⟩
  · rw [addr, if_pos (by decide), e1]
  · rw [addr, if_neg (by omega), Int.toNat_natCast, e1]
    show wc G + pre hs o + offC (cellsOf h) nm + k = i
    omega
  · rw [addr, Int.toNat_natCast, e1]
    show wc G + pre hs o + wc (cellsOf h) + _ * (fieldsOf h).length + idxOf nm (fieldsOf h) = i
    rw [idxOf_at (s.cells (List.mem_of_getElem? e1)).2 f1]
    have := Nat.div_add_mod (i - (wc G + pre hs o) - wc (cellsOf h)) (fieldsOf h).length
    rw [Nat.mul_comm] at this
    omega
/-! ### entries as data -/
theorem eqv_ent {e : Ent} {o : Int} {nm : Str} {j : Int} : PyData.eqv (entD e) (.tuple [.str (Str.ofString "field"), .int o, .int j, .str nm]) = true ↔ ∃ k : Nat, j = (k : Nat) ∧ e = .field o k nm := by
  have hne : ((Str.ofString "cell") == (Str.ofString "field")) = false := by decide +kernel
  cases e with
  | cell o' nm' k => simp [entD, PyData.eqv, PyData.eqvAll, hne]
  | field o' k nm' =>
    simp [entD, PyData.eqv, PyData.eqvAll]
    constructor
    · rintro ⟨rfl, rfl, rfl⟩; exact ⟨k, rfl, rfl, rfl, rfl⟩
    · rintro ⟨k', rfl, rfl, rfl, rfl⟩; exact ⟨rfl, rfl, rfl⟩
theorem eqv_entC {e : Ent} {o : Int} {nm : Str} {k : Nat} : PyData.eqv (entD e) (entD (.cell o nm k)) = true ↔ e = .cell o nm k := by
  have hne : ((Str.ofString "field") == (Str.ofString "cell")) = false := by decide +kernel
  cases e with
  | cell o' nm' k' => simp [entD, PyData.eqv, PyData.eqvAll]; omega
  | field o' k' nm' => simp [entD, PyData.eqv, PyData.eqvAll, hne]
theorem eqv_entE {e f : Ent} : PyData.eqv (entD e) (entD f) = true ↔ e = f := by
  cases f with
  | cell o nm k => exact eqv_entC
  | field o k nm =>
    refine (eqv_ent (e := e) (o := o) (nm := nm) (j := (k : Nat))).trans ⟨?_, fun h => ⟨k, rfl, h⟩⟩
    rintro ⟨k', e, rfl⟩
    rw [Int.ofNat_inj.mp e]
theorem firstIx_at {e : Ent} : ∀ {row : List Ent} {f : Ent → Nat} (b : Nat), (∀ i x, row[i]? = some x → f x = b + i) → e ∈ row → firstIx (entD e) (row.map entD) = some (f e - b)
  | [], _, _, _, h => by cases h
  | x :: r, f, b, hf, h => by
    rw [List.map_cons, firstIx]
    by_cases hx : x = e
    · rw [if_pos (eqv_entE.mpr hx), ← hx, hf 0 x rfl]
      congr 1; omega
    · rw [if_neg fun z => hx (eqv_entE.mp z)]
      have hm : e ∈ r := (List.mem_cons.mp h).resolve_left fun z => hx z.symm
      rw [firstIx_at (f := f) (b + 1) (fun i y hy => by rw [hf (i + 1) y hy]; omega) hm]
      obtain ⟨i, hi⟩ := List.mem_iff_getElem?.mp hm
      have := hf (i + 1) e hi
      simp
      omega
theorem index_of {G : Cs} {hs : List Ho} (s : SrcOk G hs) {e : Ent} (h : e ∈ rowAll G hs) : firstIx (entD e) ((rowAll G hs).map entD) = some (addr G hs e) := by
  have := firstIx_at (f := addr G hs) 0 (fun i x hx => by rw [addr_at s hx, Nat.zero_add]) h
  rwa [Nat.sub_zero] at this
end K00

namespace K00
open PySem PySem.Spec
open PyProof.Rows L2 Ev
def wayD : D := .tuple [.str (Str.ofString "program"), .tuple [], .tuple []]
def srcD (G : Cs) (hs : List Ho) : D := .tuple [cellsD G, .tuple (hs.map hoD), .tuple [wayD]]
def natsD (l : List Nat) : List D := l.map fun b => PyData.int (b : Nat)
def basesD (G : Cs) (hs : List Ho) : D := .tuple (natsD (basesFrom (wc G) hs))
def codeD : Ho → D
  | .pair => .tuple []
  | .str _ _ _ => .tuple [.tuple []]
def sysD (G : Cs) (hs : List Ho) : D := .tuple [srcD G hs, basesD G hs, .tuple (hs.map codeD), .tuple [.tuple []]]
@[simp] theorem ne1 : (Str.ofString "pair" = Str.ofString "structure") = False := by simp only [eq_iff_iff, iff_false]; decide +kernel
@[simp] theorem ne2 : (Str.ofString "program" = Str.ofString "menu") = False := by simp only [eq_iff_iff, iff_false]; decide +kernel
@[simp] theorem ne3 : (Str.ofString "cell" = Str.ofString "field") = False := by simp only [eq_iff_iff, iff_false]; decide +kernel
@[simp] theorem ne4 : (Str.ofString "field" = Str.ofString "cell") = False := by simp only [eq_iff_iff, iff_false]; decide +kernel
def isStr : Ho → Bool
  | .pair => false
  | .str _ _ _ => true
theorem at9 {a b c d e f g h i : D} : atI [a, b, c, d, e, f, g, h, i] 2 = some c ∧ atI [a, b, c, d, e, f, g, h, i] 3 = some d ∧ atI [a, b, c, d, e, f, g, h, i] 6 = some g ∧ atI [a, b, c, d, e, f, g, h, i] 8 = some i := ⟨rfl, rfl, rfl, rfl⟩
theorem big (n : Nat) (h : n ≤ 1000) : n ≤ sizeLine := by rw [sizeLine_eq]; omega
theorem natsD_ints (l : List Nat) : intsOf (natsD l) = some (l.map fun b : Nat => (b : Int)) := by
  induction l with
  | nil => rfl
  | cons x r ih => rw [natsD, List.map_cons, intsOf]; rw [natsD] at ih; rw [ih]; rfl
theorem natsD_sum (l : List Nat) : (l.map fun b : Nat => (b : Int)).sum = (l.sum : Nat) := by
  induction l with
  | nil => rfl
  | cons x r ih => rw [List.map_cons, List.sum_cons, List.sum_cons, ih]; omega
theorem count_words (n : Nat) (S : Sto) (cs : Cs) : fnN T 100 (n + 1) 6 [cellsD cs] S = some (.int (wc cs : Nat), S) := by
  have e0 : fnN T 100 (n + 1) 6 [cellsD cs] S = callv (C n) f_count_words [cellsD cs] S := rfl
  rw [e0]
  have hI : evI (C n) (.over (.var 0)) [some (cellsD cs), none, none] S = some ((cs.map cellD, true), S) := i_T (by simp -implicitDefEqProofs [e_var, e_cst, e_glo, e_op, e_neg, e_cmp, e_cmp2, e_bop, e_not, e_ife, e_tup, e_lst, e_sub, e_slc, e_rvs, e_call, e_bi, e_rgl, e_isi, e_meth, e_idx, eb_1, eb_2, et_val, et_not, et_bop, ets_1, ets_2, eo_g, eo_a, ea_n, ea_c, es_asg, es_par, es_aug, es_put, es_ex, es_ret, es_retN, es_ife, ess_n, ess_c, tgv, tgvs, callv, callv.fin, Option.bind_some, Option.map_some, List.getElem?_cons_zero, List.getElem?_cons_succ, List.set_cons_zero, List.set_cons_succ, asRf_rf, ixN, smallI, wipeD, cellsD])
  have el := e_lcmap (m := false) (elt := .bi .len false (.cons (.var 2) .nil)) (t := .tup (.cons (.nm 1) (.cons (.nm 2) .nil))) (own := [1, 2]) (fun x => match x with | .tuple [_, .tuple w] => .int (w.length : Nat) | _ => .none) hI (fun x hx => by
    obtain ⟨c, _, rfl⟩ := List.mem_map.mp hx
    simp -implicitDefEqProofs [e_var, e_cst, e_glo, e_op, e_neg, e_cmp, e_cmp2, e_bop, e_not, e_ife, e_tup, e_lst, e_sub, e_slc, e_rvs, e_call, e_bi, e_rgl, e_isi, e_meth, e_idx, eb_1, eb_2, et_val, et_not, et_bop, ets_1, ets_2, eo_g, eo_a, ea_n, ea_c, es_asg, es_par, es_aug, es_put, es_ex, es_ret, es_retN, es_ife, ess_n, ess_c, tgv, tgvs, callv, callv.fin, Option.bind_some, Option.map_some, List.getElem?_cons_zero, List.getElem?_cons_succ, List.set_cons_zero, List.set_cons_succ, asRf_rf, ixN, smallI, wipeD, cellD])
  have ef : ((cs.map cellD).map fun x => match x with | .tuple [_, .tuple w] => (.int (w.length : Nat) : D) | _ => .none) = natsD (cs.map fun c => c.2.length) := by
    unfold natsD
    rw [List.map_map, List.map_map]
    rfl
  refine callv_rt rfl rfl (δ' := [some (cellsD cs), none, none]) ?_
  show evSs (C n) f_count_words.body [some (cellsD cs), none, none] S = _
  unfold f_count_words
  rw [ess_c, es_ret, e_bi, ea_c, el, Option.bind_some, ea_n, Option.map_some, Option.bind_some, mkl_f, b_sumL, ef, natsD_ints]
  simp only [Option.map_some, Option.bind_some, natsD_sum]
  rfl
theorem is_structure (n : Nat) (S : Sto) (h : Ho) : fnN T 100 (n + 1) 5 [hoD h] S = some (.bool (isStr h), S) := by
  have e0 : fnN T 100 (n + 1) 5 [hoD h] S = callv (C n) f_is_structure [hoD h] S := rfl
  rw [e0]
  refine callv_rt rfl rfl (δ' := [some (hoD h)]) ?_
  show evSs (C n) f_is_structure.body [some (hoD h)] S = _
  unfold f_is_structure
  cases h <;> simp -implicitDefEqProofs [e_var, e_cst, e_glo, e_op, e_neg, e_cmp, e_cmp2, e_bop, e_not, e_ife, e_tup, e_lst, e_sub, e_slc, e_rvs, e_call, e_bi, e_rgl, e_isi, e_meth, e_idx, eb_1, eb_2, et_val, et_not, et_bop, ets_1, ets_2, eo_g, eo_a, ea_n, ea_c, es_asg, es_par, es_aug, es_put, es_ex, es_ret, es_retN, es_ife, ess_n, ess_c, tgv, tgvs, callv, callv.fin, Option.bind_some, Option.map_some, List.getElem?_cons_zero, List.getElem?_cons_succ, List.set_cons_zero, List.set_cons_succ, asRf_rf, ixN, smallI, wipeD, hoD, isStr]
theorem size_of_object (n : Nat) (S : Sto) {h : Ho} (ok : HoOk h) : fnN T 100 (n + 2) 7 [hoD h] S = some (.int (szH h : Nat), S) := by
  have e0 : fnN T 100 (n + 2) 7 [hoD h] S = callv (C (n + 1)) f_size_of_object [hoD h] S := rfl
  rw [e0]
  refine callv_rt rfl rfl (δ' := [some (hoD h)]) ?_
  show evSs (C (n + 1)) f_size_of_object.body [some (hoD h)] S = _
  have is := is_structure n S h
  cases h with
  | pair =>
    unfold f_size_of_object
    simp -implicitDefEqProofs [e_var, e_cst, e_glo, e_op, e_neg, e_cmp, e_cmp2, e_bop, e_not, e_ife, e_tup, e_lst, e_sub, e_slc, e_rvs, e_call, e_bi, e_rgl, e_isi, e_meth, e_idx, eb_1, eb_2, et_val, et_not, et_bop, ets_1, ets_2, eo_g, eo_a, ea_n, ea_c, es_asg, es_par, es_aug, es_put, es_ex, es_ret, es_retN, es_ife, ess_n, ess_c, tgv, tgvs, callv, callv.fin, Option.bind_some, Option.map_some, List.getElem?_cons_zero, List.getElem?_cons_succ, List.set_cons_zero, List.set_cons_succ, asRf_rf, ixN, smallI, wipeD, C_fn, is, isStr, szH]
  | str fs k cs =>
    have cw := count_words n S cs
    obtain ⟨a2, a3, a6, a8⟩ := at9 (a := PyData.str (Str.ofString "structure")) (b := .none) (c := .tuple (fs.map PyData.str)) (d := .int (k : Nat)) (e := .tuple []) (f := .int 0) (g := cellsD cs) (h := .tuple []) (i := opsD)
    have hk : -18446744073709551616 < (k : Int) ∧ (k : Int) < 18446744073709551616 := by have := ok.2.2.1; omega
    have s1 : evS (C (n + 1)) (.ife (.not (.val (.call 5 (.cons (.var 0) .nil)))) (.cons (.ret (.cst (.int 0))) .nil) .nil) [some (hoD (.str fs k cs))] S = some (.nx, [some (hoD (.str fs k cs))], S) := by
      simp -implicitDefEqProofs [e_var, e_cst, e_glo, e_op, e_neg, e_cmp, e_cmp2, e_bop, e_not, e_ife, e_tup, e_lst, e_sub, e_slc, e_rvs, e_call, e_bi, e_rgl, e_isi, e_meth, e_idx, eb_1, eb_2, et_val, et_not, et_bop, ets_1, ets_2, eo_g, eo_a, ea_n, ea_c, es_asg, es_par, es_aug, es_put, es_ex, es_ret, es_retN, es_ife, ess_n, ess_c, tgv, tgvs, callv, callv.fin, Option.bind_some, Option.map_some, List.getElem?_cons_zero, List.getElem?_cons_succ, List.set_cons_zero, List.set_cons_succ, asRf_rf, ixN, smallI, wipeD, C_fn, is, isStr]
    unfold f_size_of_object
    rw [ess_c, s1, Option.bind_some]
    show evSs (C (n + 1)) _ [some (hoD (.str fs k cs))] S = _
    simp -implicitDefEqProofs [e_var, e_cst, e_glo, e_op, e_neg, e_cmp, e_cmp2, e_bop, e_not, e_ife, e_tup, e_lst, e_sub, e_slc, e_rvs, e_call, e_bi, e_rgl, e_isi, e_meth, e_idx, eb_1, eb_2, et_val, et_not, et_bop, ets_1, ets_2, eo_g, eo_a, ea_n, ea_c, es_asg, es_par, es_aug, es_put, es_ex, es_ret, es_retN, es_ife, ess_n, ess_c, tgv, tgvs, callv, callv.fin, Option.bind_some, Option.map_some, List.getElem?_cons_zero, List.getElem?_cons_succ, List.set_cons_zero, List.set_cons_succ, asRf_rf, ixN, smallI, wipeD, C_fn, hoD, a2, a3, a6, cw, hk, szH]
/-! ### bases -/
theorem get_last {α : Type} (S : List α) (x : α) : (S ++ [x])[S.length]? = some x := by simp
theorem set_last {α : Type} (S : List α) (x y : α) : (S ++ [x]).set S.length y = S ++ [y] := by simp
theorem app_last {S : Sto} {ys : List D} {d : D} (h : ys.length < 1000) : mtv .append (rf S.length) [d] (S ++ [.lst ys]) = some (.none, S ++ [.lst (ys ++ [d])]) := by
  have hs : ys.length < sizeLine := by rw [sizeLine_eq]; omega
  unfold mtv
  simp -implicitDefEqProofs only [asRf_rf, Option.bind_some, get_last, set_last, if_pos hs]
theorem b_tupR {m : Bool} {S : Sto} {k : Nat} {xs : List D} (h : S[k]? = some (.lst xs)) : biv .tuple m [rf k] S = some (.tuple xs, S) := by
  show ((seqv (rf k) S).map fun xs => (PyData.tuple xs, S)) = _
  rw [sq_rf h]
  rfl
abbrev tBase (n : Nat) : D → DE → Sto → Option (Fl × DE × Sto) := fun x δ S => (tgv (.nm 3) x δ).bind fun δ' => evSs (C n) (.cons (.ex (.meth .append (.var 1) (.cons (.var 2) .nil))) (.cons (.aug 2 .add (.call 7 (.cons (.var 3) .nil))) .nil)) δ' S
theorem bases_loop (n : Nat) (S : Sto) (src : D) : ∀ (hs : List Ho) (b : Nat) (acc : List D) (z : Option D), (∀ h ∈ hs, HoOk h) → acc.length + hs.length ≤ 100 →
    ∃ z' b', forv (tBase (n + 2)) (hs.map hoD) [some src, some (rf S.length), some (.int (b : Nat)), z] (S ++ [.lst acc]) = some (.nx, [some src, some (rf S.length), some (.int (b' : Nat)), z'], S ++ [.lst (acc ++ natsD (basesFrom b hs))])
  | [], b, acc, z, _, _ => ⟨z, b, by simp [forv, basesFrom, natsD]⟩
  | h :: r, b, acc, z, ok, hl => by
    rw [List.length_cons] at hl
    obtain ⟨z', b', ih⟩ := bases_loop n S src r (b + szH h) (acc ++ [.int (b : Nat)]) (some (hoD h)) (fun x hx => ok x (List.mem_cons_of_mem _ hx)) (by rw [List.length_append, List.length_cons, List.length_nil]; omega)
    refine ⟨z', b', ?_⟩
    have sz := size_of_object n (S ++ [.lst (acc ++ [.int (b : Nat)])]) (ok h List.mem_cons_self)
    have sq : seqv (rf S.length) (S ++ [.lst acc]) = some acc := sq_rf (get_last S _)
    have turn : tBase (n + 2) (hoD h) [some src, some (rf S.length), some (.int (b : Nat)), z] (S ++ [.lst acc]) = some (.nx, [some src, some (rf S.length), some (.int ((b + szH h : Nat) : Int)), some (hoD h)], S ++ [.lst (acc ++ [.int (b : Nat)])]) := by
      simp -implicitDefEqProofs [tBase, e_var, e_cst, e_glo, e_op, e_neg, e_cmp, e_cmp2, e_bop, e_not, e_ife, e_tup, e_lst, e_sub, e_slc, e_rvs, e_call, e_bi, e_rgl, e_isi, e_meth, e_idx, eb_1, eb_2, et_val, et_not, et_bop, ets_1, ets_2, eo_g, eo_a, ea_n, ea_c, es_asg, es_par, es_aug, es_put, es_ex, es_ret, es_retN, es_ife, ess_n, ess_c, tgv, tgvs, callv, callv.fin, Option.bind_some, Option.map_some, List.getElem?_cons_zero, List.getElem?_cons_succ, List.set_cons_zero, List.set_cons_succ, asRf_rf, ixN, smallI, wipeD, C_fn, sq, app_last (S := S) (ys := acc) (d := .int (b : Nat)) (by omega), sz]
    show ((tBase (n + 2) (hoD h) _ _).bind _) = _
    rw [turn, Option.bind_some]
    show forv (tBase (n + 2)) (r.map hoD) _ _ = _
    rw [ih, basesFrom, natsD, natsD, List.map_cons, List.append_assoc]
    rfl
theorem bases_of (n : Nat) (S : Sto) {G : Cs} {hs : List Ho} (ok : ∀ h ∈ hs, HoOk h) (hl : hs.length ≤ 50) : ∃ S', fnN T 100 (n + 3) 8 [srcD G hs] S = some (basesD G hs, S') := by
  have e0 : fnN T 100 (n + 3) 8 [srcD G hs] S = callv (C (n + 2)) f_bases_of [srcD G hs] S := rfl
  rw [e0]
  obtain ⟨z', b', lp⟩ := bases_loop n S (srcD G hs) hs (wc G) [] none ok (by simpa using by omega)
  have hI : evI (C (n + 2)) (.over (.sub (.var 0) (.cst (.int 1)))) [some (srcD G hs), some (rf S.length), some (.int (wc G : Nat)), none] (S ++ [.lst []]) = some ((hs.map hoD, true), S ++ [.lst []]) := i_T (by simp -implicitDefEqProofs [e_var, e_cst, e_glo, e_op, e_neg, e_cmp, e_cmp2, e_bop, e_not, e_ife, e_tup, e_lst, e_sub, e_slc, e_rvs, e_call, e_bi, e_rgl, e_isi, e_meth, e_idx, eb_1, eb_2, et_val, et_not, et_bop, ets_1, ets_2, eo_g, eo_a, ea_n, ea_c, es_asg, es_par, es_aug, es_put, es_ex, es_ret, es_retN, es_ife, ess_n, ess_c, tgv, tgvs, callv, callv.fin, Option.bind_some, Option.map_some, List.getElem?_cons_zero, List.getElem?_cons_succ, List.set_cons_zero, List.set_cons_succ, asRf_rf, ixN, smallI, wipeD, srcD])
  have cw := count_words (n + 1) (S ++ [.lst []]) G
  have s1 : evS (C (n + 2)) (.asg (.nm 1) (.lst true .nil)) [some (srcD G hs), none, none, none] S = some (.nx, [some (srcD G hs), some (rf S.length), none, none], S ++ [.lst []]) := by
    simp -implicitDefEqProofs [e_var, e_cst, e_glo, e_op, e_neg, e_cmp, e_cmp2, e_bop, e_not, e_ife, e_tup, e_lst, e_sub, e_slc, e_rvs, e_call, e_bi, e_rgl, e_isi, e_meth, e_idx, eb_1, eb_2, et_val, et_not, et_bop, ets_1, ets_2, eo_g, eo_a, ea_n, ea_c, es_asg, es_par, es_aug, es_put, es_ex, es_ret, es_retN, es_ife, ess_n, ess_c, tgv, tgvs, callv, callv.fin, Option.bind_some, Option.map_some, List.getElem?_cons_zero, List.getElem?_cons_succ, List.set_cons_zero, List.set_cons_succ, asRf_rf, ixN, smallI, wipeD]
  have s2 : evS (C (n + 2)) (.asg (.nm 2) (.call 6 (.cons (.sub (.var 0) (.cst (.int 0))) .nil))) [some (srcD G hs), some (rf S.length), none, none] (S ++ [.lst []]) = some (.nx, [some (srcD G hs), some (rf S.length), some (.int (wc G : Nat)), none], S ++ [.lst []]) := by
    simp -implicitDefEqProofs [e_var, e_cst, e_glo, e_op, e_neg, e_cmp, e_cmp2, e_bop, e_not, e_ife, e_tup, e_lst, e_sub, e_slc, e_rvs, e_call, e_bi, e_rgl, e_isi, e_meth, e_idx, eb_1, eb_2, et_val, et_not, et_bop, ets_1, ets_2, eo_g, eo_a, ea_n, ea_c, es_asg, es_par, es_aug, es_put, es_ex, es_ret, es_retN, es_ife, ess_n, ess_c, tgv, tgvs, callv, callv.fin, Option.bind_some, Option.map_some, List.getElem?_cons_zero, List.getElem?_cons_succ, List.set_cons_zero, List.set_cons_succ, asRf_rf, ixN, smallI, wipeD, C_fn, srcD, cw]
  have s3 : evS (C (n + 2)) (.loop (.nm 3) (.over (.sub (.var 0) (.cst (.int 1)))) (.cons (.ex (.meth .append (.var 1) (.cons (.var 2) .nil))) (.cons (.aug 2 .add (.call 7 (.cons (.var 3) .nil))) .nil))) [some (srcD G hs), some (rf S.length), some (.int (wc G : Nat)), none] (S ++ [.lst []]) = some (.nx, [some (srcD G hs), some (rf S.length), some (.int (b' : Nat)), z'], S ++ [.lst (natsD (basesFrom (wc G) hs))]) := by
    rw [es_loop, hI, Option.bind_some]
    exact lp
  refine ⟨S ++ [.lst (natsD (basesFrom (wc G) hs))], callv_rt rfl rfl (δ' := [some (srcD G hs), some (rf S.length), some (.int (b' : Nat)), z']) ?_⟩
  show evSs (C (n + 2)) f_bases_of.body [some (srcD G hs), none, none, none] S = _
  unfold f_bases_of
  rw [ess_c, s1, Option.bind_some]
  show evSs (C (n + 2)) _ [some (srcD G hs), some (rf S.length), none, none] (S ++ [.lst []]) = _
  rw [ess_c, s2, Option.bind_some]
  show evSs (C (n + 2)) _ [some (srcD G hs), some (rf S.length), some (.int (wc G : Nat)), none] (S ++ [.lst []]) = _
  rw [ess_c, s3, Option.bind_some]
  show evSs (C (n + 2)) _ [some (srcD G hs), some (rf S.length), some (.int (b' : Nat)), z'] (S ++ [.lst (natsD (basesFrom (wc G) hs))]) = _
  simp -implicitDefEqProofs [e_var, e_cst, e_glo, e_op, e_neg, e_cmp, e_cmp2, e_bop, e_not, e_ife, e_tup, e_lst, e_sub, e_slc, e_rvs, e_call, e_bi, e_rgl, e_isi, e_meth, e_idx, eb_1, eb_2, et_val, et_not, et_bop, ets_1, ets_2, eo_g, eo_a, ea_n, ea_c, es_asg, es_par, es_aug, es_put, es_ex, es_ret, es_retN, es_ife, ess_n, ess_c, tgv, tgvs, callv, callv.fin, Option.bind_some, Option.map_some, List.getElem?_cons_zero, List.getElem?_cons_succ, List.set_cons_zero, List.set_cons_succ, asRf_rf, ixN, smallI, wipeD, b_tupR (get_last S _), basesD]
/-! ### codes -/
theorem add_nothing (n : Nat) (S : Sto) (x y : D) : fnN T 100 (n + 1) 1 [x, .tuple [], y] S = some (.none, S) := by
  have e0 : fnN T 100 (n + 1) 1 [x, .tuple [], y] S = callv (C n) f_add_body [x, .tuple [], y] S := rfl
  rw [e0]
  have hI : evI (C n) (.over (.var 1)) [some x, some (.tuple []), some y, none] S = some (([], true), S) := i_T (by simp -implicitDefEqProofs [e_var, e_cst, e_glo, e_op, e_neg, e_cmp, e_cmp2, e_bop, e_not, e_ife, e_tup, e_lst, e_sub, e_slc, e_rvs, e_call, e_bi, e_rgl, e_isi, e_meth, e_idx, eb_1, eb_2, et_val, et_not, et_bop, ets_1, ets_2, eo_g, eo_a, ea_n, ea_c, es_asg, es_par, es_aug, es_put, es_ex, es_ret, es_retN, es_ife, ess_n, ess_c, tgv, tgvs, callv, callv.fin, Option.bind_some, Option.map_some, List.getElem?_cons_zero, List.getElem?_cons_succ, List.set_cons_zero, List.set_cons_succ, asRf_rf, ixN, smallI, wipeD])
  unfold callv
  rw [if_pos (show [x, PyData.tuple [], y].length = f_add_body.many from rfl)]
  show ((evSs (C n) f_add_body.body [some x, some (.tuple []), some y, none] S).bind _) = _
  unfold f_add_body
  rw [ess_c, es_loop, hI]
  rw [Option.bind_some]
  show ((some ((Fl.nx, [some x, some (.tuple []), some y, none], S) : Fl × DE × Sto)).bind _ |>.bind _) = _
  rw [Option.bind_some]
  show ((evSs (C n) .nil _ S).bind _) = _
  rw [ess_n]
  rfl
theorem translated (n : Nat) (S : Sto) : ∃ S', fnN T 100 (n + 2) 4 [.tuple []] S = some (.tuple [], S') := by
  have e0 : fnN T 100 (n + 2) 4 [.tuple []] S = callv (C (n + 1)) f_translated [.tuple []] S := rfl
  rw [e0]
  have ad := add_nothing n (S ++ [.lst []] ++ [.lst []]) (rf S.length) (rf (S ++ [Ob.lst []]).length)
  have g : (S ++ [Ob.lst []] ++ [Ob.lst []])[S.length]? = some (.lst []) := by simp
  refine ⟨S ++ [.lst []] ++ [.lst []], callv_rt rfl rfl (δ' := [some (.tuple []), some (rf S.length)]) ?_⟩
  show evSs (C (n + 1)) f_translated.body [some (.tuple []), none] S = _
  unfold f_translated
  have s1 : evS (C (n + 1)) (.asg (.nm 1) (.lst true .nil)) [some (.tuple []), none] S = some (.nx, [some (.tuple []), some (rf S.length)], S ++ [.lst []]) := by
    simp -implicitDefEqProofs [e_var, e_cst, e_glo, e_op, e_neg, e_cmp, e_cmp2, e_bop, e_not, e_ife, e_tup, e_lst, e_sub, e_slc, e_rvs, e_call, e_bi, e_rgl, e_isi, e_meth, e_idx, eb_1, eb_2, et_val, et_not, et_bop, ets_1, ets_2, eo_g, eo_a, ea_n, ea_c, es_asg, es_par, es_aug, es_put, es_ex, es_ret, es_retN, es_ife, ess_n, ess_c, tgv, tgvs, callv, callv.fin, Option.bind_some, Option.map_some, List.getElem?_cons_zero, List.getElem?_cons_succ, List.set_cons_zero, List.set_cons_succ, asRf_rf, ixN, smallI, wipeD]
  have s2 : evS (C (n + 1)) (.ex (.call 1 (.cons (.var 1) (.cons (.var 0) (.cons (.lst true .nil) .nil))))) [some (.tuple []), some (rf S.length)] (S ++ [.lst []]) = some (.nx, [some (.tuple []), some (rf S.length)], S ++ [.lst []] ++ [.lst []]) := by
    rw [es_ex, e_call, ea_c, e_var]
    show ((some ((rf S.length, S ++ [.lst []]) : D × Sto)).bind _ |>.bind _ |>.map _) = _
    rw [Option.bind_some, ea_c, e_var]
    show ((some ((PyData.tuple [], S ++ [.lst []]) : D × Sto)).bind _ |>.map _ |>.bind _ |>.map _) = _
    rw [Option.bind_some, ea_c, e_lst, ea_n, Option.bind_some, if_pos (by exact Nat.zero_le _), mkl_t, Option.bind_some, ea_n, Option.map_some, Option.map_some, Option.map_some, Option.bind_some, C_fn, ad]
    rfl
  rw [ess_c, s1, Option.bind_some]
  show evSs (C (n + 1)) _ [some (.tuple []), some (rf S.length)] (S ++ [.lst []]) = _
  rw [ess_c, s2, Option.bind_some]
  show evSs (C (n + 1)) _ [some (.tuple []), some (rf S.length)] (S ++ [.lst []] ++ [.lst []]) = _
  rw [ess_c, es_ret, e_bi, ea_c, e_var]
  show (((some ((rf S.length, S ++ [.lst []] ++ [.lst []]) : D × Sto)).bind _ |>.bind _ |>.map _).bind _) = _
  rw [Option.bind_some, ea_n, Option.map_some, Option.bind_some, b_tupR g]
  rfl
theorem program_of (n : Nat) (S : Sto) : ∃ S', fnN T 100 (n + 3) 10 [wayD] S = some (.tuple [], S') := by
  have e0 : fnN T 100 (n + 3) 10 [wayD] S = callv (C (n + 2)) f_program_of [wayD] S := rfl
  rw [e0]
  obtain ⟨S', tr⟩ := translated n S
  refine ⟨S', callv_rt rfl rfl (δ' := [some wayD]) ?_⟩
  show evSs (C (n + 2)) f_program_of.body [some wayD] S = _
  unfold f_program_of
  simp -implicitDefEqProofs [e_var, e_cst, e_glo, e_op, e_neg, e_cmp, e_cmp2, e_bop, e_not, e_ife, e_tup, e_lst, e_sub, e_slc, e_rvs, e_call, e_bi, e_rgl, e_isi, e_meth, e_idx, eb_1, eb_2, et_val, et_not, et_bop, ets_1, ets_2, eo_g, eo_a, ea_n, ea_c, es_asg, es_par, es_aug, es_put, es_ex, es_ret, es_retN, es_ife, ess_n, ess_c, tgv, tgvs, callv, callv.fin, Option.bind_some, Option.map_some, List.getElem?_cons_zero, List.getElem?_cons_succ, List.set_cons_zero, List.set_cons_succ, asRf_rf, ixN, smallI, wipeD, wayD, C_fn, tr]
theorem codesOf (n : Nat) (S : Sto) (h : Ho) : ∃ S', fnN T 100 (n + 3) 9 [hoD h] S = some (codeD h, S') := by
  have e0 : fnN T 100 (n + 3) 9 [hoD h] S = callv (C (n + 2)) f_codes_of [hoD h] S := rfl
  rw [e0]
  have is := is_structure (n + 1) S h
  cases h with
  | pair =>
    refine ⟨S, callv_rt rfl rfl (δ' := [some (hoD .pair), none]) ?_⟩
    show evSs (C (n + 2)) f_codes_of.body [some (hoD .pair), none] S = _
    unfold f_codes_of
    simp -implicitDefEqProofs [e_var, e_cst, e_glo, e_op, e_neg, e_cmp, e_cmp2, e_bop, e_not, e_ife, e_tup, e_lst, e_sub, e_slc, e_rvs, e_call, e_bi, e_rgl, e_isi, e_meth, e_idx, eb_1, eb_2, et_val, et_not, et_bop, ets_1, ets_2, eo_g, eo_a, ea_n, ea_c, es_asg, es_par, es_aug, es_put, es_ex, es_ret, es_retN, es_ife, ess_n, ess_c, tgv, tgvs, callv, callv.fin, Option.bind_some, Option.map_some, List.getElem?_cons_zero, List.getElem?_cons_succ, List.set_cons_zero, List.set_cons_succ, asRf_rf, ixN, smallI, wipeD, C_fn, is, isStr, codeD]
  | str fs k cs =>
    obtain ⟨S', tr⟩ := translated n S
    obtain ⟨a2, a3, a6, a8⟩ := at9 (a := PyData.str (Str.ofString "structure")) (b := .none) (c := .tuple (fs.map PyData.str)) (d := .int (k : Nat)) (e := .tuple []) (f := .int 0) (g := cellsD cs) (h := .tuple []) (i := opsD)
    have hI : evI (C (n + 2)) (.over (.sub (.var 0) (.glo (Str.ofString "OPERATIONS") (.int 8)))) [some (hoD (.str fs k cs)), none] S = some (([.tuple [.str (Str.ofString "go"), .int 0, .tuple [], .tuple []]], true), S) := i_T (by simp -implicitDefEqProofs [e_var, e_cst, e_glo, e_op, e_neg, e_cmp, e_cmp2, e_bop, e_not, e_ife, e_tup, e_lst, e_sub, e_slc, e_rvs, e_call, e_bi, e_rgl, e_isi, e_meth, e_idx, eb_1, eb_2, et_val, et_not, et_bop, ets_1, ets_2, eo_g, eo_a, ea_n, ea_c, es_asg, es_par, es_aug, es_put, es_ex, es_ret, es_retN, es_ife, ess_n, ess_c, tgv, tgvs, callv, callv.fin, Option.bind_some, Option.map_some, List.getElem?_cons_zero, List.getElem?_cons_succ, List.set_cons_zero, List.set_cons_succ, asRf_rf, ixN, smallI, wipeD, hoD, a8]; rfl)
    have el : evE (C (n + 2)) (.lc false (.call 4 (.cons (.sub (.var 1) (.cst (.int 3))) .nil)) (.nm 1) (.over (.sub (.var 0) (.glo (Str.ofString "OPERATIONS") (.int 8)))) .nil [1]) [some (hoD (.str fs k cs)), none] S = some (.list [.tuple []], S') := by
      rw [e_lc hI]
      simp -implicitDefEqProofs [lcv, e_var, e_cst, e_glo, e_op, e_neg, e_cmp, e_cmp2, e_bop, e_not, e_ife, e_tup, e_lst, e_sub, e_slc, e_rvs, e_call, e_bi, e_rgl, e_isi, e_meth, e_idx, eb_1, eb_2, et_val, et_not, et_bop, ets_1, ets_2, eo_g, eo_a, ea_n, ea_c, es_asg, es_par, es_aug, es_put, es_ex, es_ret, es_retN, es_ife, ess_n, ess_c, tgv, tgvs, callv, callv.fin, Option.bind_some, Option.map_some, List.getElem?_cons_zero, List.getElem?_cons_succ, List.set_cons_zero, List.set_cons_succ, asRf_rf, ixN, smallI, wipeD, C_fn, tr, evB1]
    have s1 : evS (C (n + 2)) (.ife (.not (.val (.call 5 (.cons (.var 0) .nil)))) (.cons (.ret (.tup .nil)) .nil) .nil) [some (hoD (.str fs k cs)), none] S = some (.nx, [some (hoD (.str fs k cs)), none], S) := by
      simp -implicitDefEqProofs [e_var, e_cst, e_glo, e_op, e_neg, e_cmp, e_cmp2, e_bop, e_not, e_ife, e_tup, e_lst, e_sub, e_slc, e_rvs, e_call, e_bi, e_rgl, e_isi, e_meth, e_idx, eb_1, eb_2, et_val, et_not, et_bop, ets_1, ets_2, eo_g, eo_a, ea_n, ea_c, es_asg, es_par, es_aug, es_put, es_ex, es_ret, es_retN, es_ife, ess_n, ess_c, tgv, tgvs, callv, callv.fin, Option.bind_some, Option.map_some, List.getElem?_cons_zero, List.getElem?_cons_succ, List.set_cons_zero, List.set_cons_succ, asRf_rf, ixN, smallI, wipeD, C_fn, is, isStr]
    refine ⟨S', callv_rt rfl rfl (δ' := [some (hoD (.str fs k cs)), none]) ?_⟩
    show evSs (C (n + 2)) f_codes_of.body [some (hoD (.str fs k cs)), none] S = _
    unfold f_codes_of
    rw [ess_c, s1, Option.bind_some]
    show evSs (C (n + 2)) _ [some (hoD (.str fs k cs)), none] S = _
    rw [ess_c, es_ret, e_bi, ea_c, el, Option.bind_some, ea_n, Option.map_some, Option.bind_some, b_tupL]
    rfl
theorem system_of (n : Nat) (S : Sto) {G : Cs} {hs : List Ho} (ok : ∀ h ∈ hs, HoOk h) (hl : hs.length ≤ 50) : ∃ S', fnN T 100 (n + 4) 11 [srcD G hs] S = some (sysD G hs, S') := by
  have e0 : fnN T 100 (n + 4) 11 [srcD G hs] S = callv (C (n + 3)) f_system_of [srcD G hs] S := rfl
  rw [e0]
  have hI : evI (C (n + 3)) (.over (.sub (.var 0) (.cst (.int 1)))) [some (srcD G hs), none, none, none] S = some ((hs.map hoD, true), S) := i_T (by simp -implicitDefEqProofs [e_var, e_cst, e_glo, e_op, e_neg, e_cmp, e_cmp2, e_bop, e_not, e_ife, e_tup, e_lst, e_sub, e_slc, e_rvs, e_call, e_bi, e_rgl, e_isi, e_meth, e_idx, eb_1, eb_2, et_val, et_not, et_bop, ets_1, ets_2, eo_g, eo_a, ea_n, ea_c, es_asg, es_par, es_aug, es_put, es_ex, es_ret, es_retN, es_ife, ess_n, ess_c, tgv, tgvs, callv, callv.fin, Option.bind_some, Option.map_some, List.getElem?_cons_zero, List.getElem?_cons_succ, List.set_cons_zero, List.set_cons_succ, asRf_rf, ixN, smallI, wipeD, srcD])
  obtain ⟨ys, S2, el, ey⟩ := e_lcinv (m := false) (elt := .call 9 (.cons (.var 2) .nil)) (t := .nm 2) (own := [2]) (fun i ys _ => ys = (hs.take i).map codeD) hI (fun i x acc S hx hp => by
    rw [List.getElem?_map] at hx
    obtain ⟨h, hh, rfl⟩ := mapE hx
    obtain ⟨S', e⟩ := codesOf n S h
    refine ⟨codeD h, S', by simp -implicitDefEqProofs [e_var, e_cst, e_glo, e_op, e_neg, e_cmp, e_cmp2, e_bop, e_not, e_ife, e_tup, e_lst, e_sub, e_slc, e_rvs, e_call, e_bi, e_rgl, e_isi, e_meth, e_idx, eb_1, eb_2, et_val, et_not, et_bop, ets_1, ets_2, eo_g, eo_a, ea_n, ea_c, es_asg, es_par, es_aug, es_put, es_ex, es_ret, es_retN, es_ife, ess_n, ess_c, tgv, tgvs, callv, callv.fin, Option.bind_some, Option.map_some, List.getElem?_cons_zero, List.getElem?_cons_succ, List.set_cons_zero, List.set_cons_succ, asRf_rf, ixN, smallI, wipeD, C_fn, e], ?_⟩
    rw [hp, List.take_add_one, hh]
    simp) rfl
  rw [List.length_map, List.take_length] at ey
  subst ey
  have s1 : evS (C (n + 3)) (.asg (.nm 1) (.bi .tuple false (.cons (.lc false (.call 9 (.cons (.var 2) .nil)) (.nm 2) (.over (.sub (.var 0) (.cst (.int 1)))) .nil [2]) .nil))) [some (srcD G hs), none, none, none] S = some (.nx, [some (srcD G hs), some (.tuple (hs.map codeD)), none, none], S2) := by
    rw [es_asg, e_bi, ea_c, el, Option.bind_some, ea_n, Option.map_some, Option.bind_some, mkl_f, b_tupL]
    rfl
  obtain ⟨S3, eb⟩ := bases_of n S2 (G := G) ok hl
  have hI2 : evI (C (n + 3)) (.over (.sub (.var 0) (.cst (.int 2)))) [some (srcD G hs), some (.tuple (hs.map codeD)), none, none] S3 = some (([wayD], true), S3) := i_T (by simp -implicitDefEqProofs [e_var, e_cst, e_glo, e_op, e_neg, e_cmp, e_cmp2, e_bop, e_not, e_ife, e_tup, e_lst, e_sub, e_slc, e_rvs, e_call, e_bi, e_rgl, e_isi, e_meth, e_idx, eb_1, eb_2, et_val, et_not, et_bop, ets_1, ets_2, eo_g, eo_a, ea_n, ea_c, es_asg, es_par, es_aug, es_put, es_ex, es_ret, es_retN, es_ife, ess_n, ess_c, tgv, tgvs, callv, callv.fin, Option.bind_some, Option.map_some, List.getElem?_cons_zero, List.getElem?_cons_succ, List.set_cons_zero, List.set_cons_succ, asRf_rf, ixN, smallI, wipeD, srcD])
  obtain ⟨S4, ep⟩ := program_of n S3
  have el2 : evE (C (n + 3)) (.lc false (.call 10 (.cons (.var 3) .nil)) (.nm 3) (.over (.sub (.var 0) (.cst (.int 2)))) .nil [3]) [some (srcD G hs), some (.tuple (hs.map codeD)), none, none] S3 = some (.list [.tuple []], S4) := by
    rw [e_lc hI2]
    simp -implicitDefEqProofs [lcv, e_var, e_cst, e_glo, e_op, e_neg, e_cmp, e_cmp2, e_bop, e_not, e_ife, e_tup, e_lst, e_sub, e_slc, e_rvs, e_call, e_bi, e_rgl, e_isi, e_meth, e_idx, eb_1, eb_2, et_val, et_not, et_bop, ets_1, ets_2, eo_g, eo_a, ea_n, ea_c, es_asg, es_par, es_aug, es_put, es_ex, es_ret, es_retN, es_ife, ess_n, ess_c, tgv, tgvs, callv, callv.fin, Option.bind_some, Option.map_some, List.getElem?_cons_zero, List.getElem?_cons_succ, List.set_cons_zero, List.set_cons_succ, asRf_rf, ixN, smallI, wipeD, C_fn, ep, evB1]
  have hb := big 4 (by omega)
  refine ⟨S4, callv_rt rfl rfl (δ' := [some (srcD G hs), some (.tuple (hs.map codeD)), none, none]) ?_⟩
  show evSs (C (n + 3)) f_system_of.body [some (srcD G hs), none, none, none] S = _
  unfold f_system_of
  rw [ess_c, s1, Option.bind_some]
  show evSs (C (n + 3)) _ [some (srcD G hs), some (.tuple (hs.map codeD)), none, none] S2 = _
  simp -implicitDefEqProofs [e_var, e_cst, e_glo, e_op, e_neg, e_cmp, e_cmp2, e_bop, e_not, e_ife, e_tup, e_lst, e_sub, e_slc, e_rvs, e_call, e_bi, e_rgl, e_isi, e_meth, e_idx, eb_1, eb_2, et_val, et_not, et_bop, ets_1, ets_2, eo_g, eo_a, ea_n, ea_c, es_asg, es_par, es_aug, es_put, es_ex, es_ret, es_retN, es_ife, ess_n, ess_c, tgv, tgvs, callv, callv.fin, Option.bind_some, Option.map_some, List.getElem?_cons_zero, List.getElem?_cons_succ, List.set_cons_zero, List.set_cons_succ, asRf_rf, ixN, smallI, wipeD, C_fn, eb, el2, hb, sysD]
end K00

namespace K00
open PySem PySem.Spec
open PyProof.Rows L2 Ev
section
variable {G : Cs} {hs : List Ho} {S : Sto}
@[simp] theorem sx0 : ixv (sysD G hs) (.int 0) S = some (srcD G hs) := by unfold sysD; rw [x_T]; exact at_0
@[simp] theorem sx1 : ixv (sysD G hs) (.int 1) S = some (basesD G hs) := by unfold sysD; rw [x_T]; exact at_1
@[simp] theorem rx0 : ixv (srcD G hs) (.int 0) S = some (cellsD G) := by unfold srcD; rw [x_T]; exact at_0
@[simp] theorem rx1 : ixv (srcD G hs) (.int 1) S = some (.tuple (hs.map hoD)) := by unfold srcD; rw [x_T]; exact at_1
theorem hx {o : Nat} {h : Ho} (e : hs[o]? = some h) : ixv (.tuple (hs.map hoD)) (.int (o : Nat)) S = some (hoD h) := by
  rw [x_T]
  exact at_nat (by rw [List.getElem?_map, e]; rfl)
theorem bases_get : ∀ {hs : List Ho} {b o : Nat} {h : Ho}, hs[o]? = some h → (basesFrom b hs)[o]? = some (b + pre hs o)
  | [], _, _, _, e => by cases e
  | h0 :: r, b, 0, _, _ => by simp [basesFrom, pre]
  | h0 :: r, b, o + 1, h, e => by
    have q := bases_get (hs := r) (b := b + szH h0) (o := o) (h := h) e
    have : pre (h0 :: r) (o + 1) = szH h0 + pre r o := by simp [pre]
    rw [basesFrom, List.getElem?_cons_succ, q, this]
    congr 1
    omega
theorem bx {o : Nat} {h : Ho} (e : hs[o]? = some h) : ixv (basesD G hs) (.int (o : Nat)) S = some (.int ((wc G + pre hs o : Nat) : Int)) := by
  unfold basesD
  rw [x_T]
  exact at_nat (by unfold natsD; rw [List.getElem?_map, bases_get e]; rfl)
variable {fs : List Str} {k : Nat} {cs : Cs}
@[simp] theorem h6 : ixv (hoD (.str fs k cs)) (.int 6) S = some (cellsD cs) := rfl
@[simp] theorem h3 : ixv (hoD (.str fs k cs)) (.int 3) S = some (.int (k : Nat)) := rfl
@[simp] theorem h2 : ixv (hoD (.str fs k cs)) (.int 2) S = some (.tuple (fs.map PyData.str)) := rfl
theorem shared_neg (n : Nat) : fnN T 100 (n + 1) 12 [sysD G hs, .int (-1)] S = some (cellsD G, S) := by
  have e0 : fnN T 100 (n + 1) 12 [sysD G hs, .int (-1)] S = callv (C n) f_shared_of [sysD G hs, .int (-1)] S := rfl
  rw [e0]
  refine callv_rt rfl rfl (δ' := [some (sysD G hs), some (.int (-1))]) ?_
  show evSs (C n) f_shared_of.body [some (sysD G hs), some (.int (-1))] S = _
  unfold f_shared_of
  simp -implicitDefEqProofs [e_var, e_cst, e_glo, e_op, e_neg, e_cmp, e_cmp2, e_bop, e_not, e_ife, e_tup, e_lst, e_sub, e_slc, e_rvs, e_call, e_bi, e_rgl, e_isi, e_meth, e_idx, eb_1, eb_2, et_val, et_not, et_bop, ets_1, ets_2, eo_g, eo_a, ea_n, ea_c, es_asg, es_par, es_aug, es_put, es_ex, es_ret, es_retN, es_ife, ess_n, ess_c, tgv, tgvs, callv, callv.fin, Option.bind_some, Option.map_some, List.getElem?_cons_zero, List.getElem?_cons_succ, List.set_cons_zero, List.set_cons_succ, asRf_rf, ixN, smallI, wipeD]
theorem shared_pos (n : Nat) {o : Nat} (e : hs[o]? = some (.str fs k cs)) : fnN T 100 (n + 1) 12 [sysD G hs, .int (o : Nat)] S = some (cellsD cs, S) := by
  have e0 : fnN T 100 (n + 1) 12 [sysD G hs, .int (o : Nat)] S = callv (C n) f_shared_of [sysD G hs, .int (o : Nat)] S := rfl
  rw [e0]
  refine callv_rt rfl rfl (δ' := [some (sysD G hs), some (.int (o : Nat))]) ?_
  show evSs (C n) f_shared_of.body [some (sysD G hs), some (.int (o : Nat))] S = _
  unfold f_shared_of
  have ho : ¬ ((o : Int) < 0) := by omega
  simp -implicitDefEqProofs [e_var, e_cst, e_glo, e_op, e_neg, e_cmp, e_cmp2, e_bop, e_not, e_ife, e_tup, e_lst, e_sub, e_slc, e_rvs, e_call, e_bi, e_rgl, e_isi, e_meth, e_idx, eb_1, eb_2, et_val, et_not, et_bop, ets_1, ets_2, eo_g, eo_a, ea_n, ea_c, es_asg, es_par, es_aug, es_put, es_ex, es_ret, es_retN, es_ife, ess_n, ess_c, tgv, tgvs, callv, callv.fin, Option.bind_some, Option.map_some, List.getElem?_cons_zero, List.getElem?_cons_succ, List.set_cons_zero, List.set_cons_succ, asRf_rf, ixN, smallI, wipeD, ho, hx e]
theorem base_neg (n : Nat) : fnN T 100 (n + 1) 13 [sysD G hs, .int (-1)] S = some (.int 0, S) := by
  have e0 : fnN T 100 (n + 1) 13 [sysD G hs, .int (-1)] S = callv (C n) f_base_of [sysD G hs, .int (-1)] S := rfl
  rw [e0]
  refine callv_rt rfl rfl (δ' := [some (sysD G hs), some (.int (-1))]) ?_
  show evSs (C n) f_base_of.body [some (sysD G hs), some (.int (-1))] S = _
  unfold f_base_of
  simp -implicitDefEqProofs [e_var, e_cst, e_glo, e_op, e_neg, e_cmp, e_cmp2, e_bop, e_not, e_ife, e_tup, e_lst, e_sub, e_slc, e_rvs, e_call, e_bi, e_rgl, e_isi, e_meth, e_idx, eb_1, eb_2, et_val, et_not, et_bop, ets_1, ets_2, eo_g, eo_a, ea_n, ea_c, es_asg, es_par, es_aug, es_put, es_ex, es_ret, es_retN, es_ife, ess_n, ess_c, tgv, tgvs, callv, callv.fin, Option.bind_some, Option.map_some, List.getElem?_cons_zero, List.getElem?_cons_succ, List.set_cons_zero, List.set_cons_succ, asRf_rf, ixN, smallI, wipeD]
theorem base_pos (n : Nat) {o : Nat} {h : Ho} (e : hs[o]? = some h) : fnN T 100 (n + 1) 13 [sysD G hs, .int (o : Nat)] S = some (.int ((wc G + pre hs o : Nat) : Int), S) := by
  have e0 : fnN T 100 (n + 1) 13 [sysD G hs, .int (o : Nat)] S = callv (C n) f_base_of [sysD G hs, .int (o : Nat)] S := rfl
  rw [e0]
  refine callv_rt rfl rfl (δ' := [some (sysD G hs), some (.int (o : Nat))]) ?_
  show evSs (C n) f_base_of.body [some (sysD G hs), some (.int (o : Nat))] S = _
  unfold f_base_of
  have ho : ¬ ((o : Int) < 0) := by omega
  have b := bx (G := G) (S := S) e
  simp -implicitDefEqProofs only [Int.natCast_add] at b
  simp -implicitDefEqProofs [e_var, e_cst, e_glo, e_op, e_neg, e_cmp, e_cmp2, e_bop, e_not, e_ife, e_tup, e_lst, e_sub, e_slc, e_rvs, e_call, e_bi, e_rgl, e_isi, e_meth, e_idx, eb_1, eb_2, et_val, et_not, et_bop, ets_1, ets_2, eo_g, eo_a, ea_n, ea_c, es_asg, es_par, es_aug, es_put, es_ex, es_ret, es_retN, es_ife, ess_n, ess_c, tgv, tgvs, callv, callv.fin, Option.bind_some, Option.map_some, List.getElem?_cons_zero, List.getElem?_cons_succ, List.set_cons_zero, List.set_cons_succ, asRf_rf, ixN, smallI, wipeD, ho, b]
/-! ### a cell's address -/
abbrev tAdr (n : Nat) : D → DE → Sto → Option (Fl × DE × Sto) := fun x δ S => (tgv (.tup (.cons (.nm 5) (.cons (.nm 6) .nil))) x δ).bind fun δ' => evSs (C n) (.cons (.ife (.val (.cmp .Eq (.var 5) (.var 2))) (.cons (.ret (.op .add false (.var 4) (.op .mod false (.var 3) (.bi .len false (.cons (.var 6) .nil))))) .nil) .nil) (.cons (.aug 4 .add (.bi .len false (.cons (.var 6) .nil))) .nil)) δ' S
theorem adr_loop (n : Nat) (s o : D) (nm : Str) (w : Int) : ∀ (cs : Cs) (a : Int) (x y : Option D), nm ∈ cs.map (·.1) → (∀ c ∈ cs, 1 ≤ c.2.length) →
    ∃ δ', forv (tAdr n) (cs.map cellD) [some s, some o, some (.str nm), some (.int w), some (.int a), x, y] S = some (.rt (.int (a + (offC cs nm : Nat) + w % (lenC cs nm : Nat))), δ', S)
  | [], _, _, _, h, _ => by cases h
  | c :: r, a, x, y, h, hp => by
    have h1 := hp c List.mem_cons_self
    by_cases hc : c.1 = nm
    · have turn : tAdr n (cellD c) [some s, some o, some (.str nm), some (.int w), some (.int a), x, y] S = some (.rt (.int (a + w % (c.2.length : Nat))), [some s, some o, some (.str nm), some (.int w), some (.int a), some (.str c.1), some (.tuple c.2)], S) := by
        have hl : 0 < c.2.length := by omega
        simp -implicitDefEqProofs [tAdr, e_var, e_cst, e_glo, e_op, e_neg, e_cmp, e_cmp2, e_bop, e_not, e_ife, e_tup, e_lst, e_sub, e_slc, e_rvs, e_call, e_bi, e_rgl, e_isi, e_meth, e_idx, eb_1, eb_2, et_val, et_not, et_bop, ets_1, ets_2, eo_g, eo_a, ea_n, ea_c, es_asg, es_par, es_aug, es_put, es_ex, es_ret, es_retN, es_ife, ess_n, ess_c, tgv, tgvs, callv, callv.fin, Option.bind_some, Option.map_some, List.getElem?_cons_zero, List.getElem?_cons_succ, List.set_cons_zero, List.set_cons_succ, asRf_rf, ixN, smallI, wipeD, cellD, hc, hl]
      refine ⟨[some s, some o, some (.str nm), some (.int w), some (.int a), some (.str c.1), some (.tuple c.2)], ?_⟩
      show ((tAdr n (cellD c) _ _).bind _) = _
      rw [turn, Option.bind_some, offC, if_pos hc, lenC, if_pos hc]
      show some (Fl.rt (.int (a + w % (c.2.length : Nat))), _, S) = _
      rw [show a + ((0 : Nat) : Int) = a by omega]
    · have turn : tAdr n (cellD c) [some s, some o, some (.str nm), some (.int w), some (.int a), x, y] S = some (.nx, [some s, some o, some (.str nm), some (.int w), some (.int (a + (c.2.length : Nat))), some (.str c.1), some (.tuple c.2)], S) := by
        simp -implicitDefEqProofs [tAdr, e_var, e_cst, e_glo, e_op, e_neg, e_cmp, e_cmp2, e_bop, e_not, e_ife, e_tup, e_lst, e_sub, e_slc, e_rvs, e_call, e_bi, e_rgl, e_isi, e_meth, e_idx, eb_1, eb_2, et_val, et_not, et_bop, ets_1, ets_2, eo_g, eo_a, ea_n, ea_c, es_asg, es_par, es_aug, es_put, es_ex, es_ret, es_retN, es_ife, ess_n, ess_c, tgv, tgvs, callv, callv.fin, Option.bind_some, Option.map_some, List.getElem?_cons_zero, List.getElem?_cons_succ, List.set_cons_zero, List.set_cons_succ, asRf_rf, ixN, smallI, wipeD, cellD, hc]
      obtain ⟨δ', ih⟩ := adr_loop n s o nm w r (a + (c.2.length : Nat)) (some (.str c.1)) (some (.tuple c.2)) ((List.mem_cons.mp h).resolve_left fun z => hc z.symm) fun d hd => hp d (List.mem_cons_of_mem _ hd)
      refine ⟨δ', ?_⟩
      show ((tAdr n (cellD c) _ _).bind _) = _
      rw [turn, Option.bind_some, offC, if_neg hc, lenC, if_neg hc]
      show forv (tAdr n) (r.map cellD) _ _ = _
      rw [ih, show a + ((c.2.length + offC r nm : Nat) : Int) = a + (c.2.length : Nat) + (offC r nm : Nat) by omega]
theorem cell_address (n : Nat) {o : Int} {cs : Cs} {b : Int} (hsh : fnN T 100 (n + 1) 12 [sysD G hs, .int o] S = some (cellsD cs, S)) (hba : fnN T 100 (n + 1) 13 [sysD G hs, .int o] S = some (.int b, S)) {nm : Str} (hm : nm ∈ cs.map (·.1)) (hp : ∀ c ∈ cs, 1 ≤ c.2.length) (w : Int) :
    fnN T 100 (n + 2) 14 [sysD G hs, .int o, .str nm, .int w] S = some (.int (b + (offC cs nm : Nat) + w % (lenC cs nm : Nat)), S) := by
  have e0 : fnN T 100 (n + 2) 14 [sysD G hs, .int o, .str nm, .int w] S = callv (C (n + 1)) f_cell_address [sysD G hs, .int o, .str nm, .int w] S := rfl
  rw [e0]
  obtain ⟨δ', lp⟩ := adr_loop (S := S) (n + 1) (sysD G hs) (.int o) nm w cs b none none hm hp
  refine callv_rt rfl rfl (δ' := δ') ?_
  show evSs (C (n + 1)) f_cell_address.body [some (sysD G hs), some (.int o), some (.str nm), some (.int w), none, none, none] S = _
  have s1 : evS (C (n + 1)) (.asg (.nm 4) (.call 13 (.cons (.var 0) (.cons (.var 1) .nil)))) [some (sysD G hs), some (.int o), some (.str nm), some (.int w), none, none, none] S = some (.nx, [some (sysD G hs), some (.int o), some (.str nm), some (.int w), some (.int b), none, none], S) := by
    simp -implicitDefEqProofs [e_var, e_cst, e_glo, e_op, e_neg, e_cmp, e_cmp2, e_bop, e_not, e_ife, e_tup, e_lst, e_sub, e_slc, e_rvs, e_call, e_bi, e_rgl, e_isi, e_meth, e_idx, eb_1, eb_2, et_val, et_not, et_bop, ets_1, ets_2, eo_g, eo_a, ea_n, ea_c, es_asg, es_par, es_aug, es_put, es_ex, es_ret, es_retN, es_ife, ess_n, ess_c, tgv, tgvs, callv, callv.fin, Option.bind_some, Option.map_some, List.getElem?_cons_zero, List.getElem?_cons_succ, List.set_cons_zero, List.set_cons_succ, asRf_rf, ixN, smallI, wipeD, C_fn, hba]
  have hI : evI (C (n + 1)) (.over (.call 12 (.cons (.var 0) (.cons (.var 1) .nil)))) [some (sysD G hs), some (.int o), some (.str nm), some (.int w), some (.int b), none, none] S = some ((cs.map cellD, true), S) := i_T (by simp -implicitDefEqProofs [e_var, e_cst, e_glo, e_op, e_neg, e_cmp, e_cmp2, e_bop, e_not, e_ife, e_tup, e_lst, e_sub, e_slc, e_rvs, e_call, e_bi, e_rgl, e_isi, e_meth, e_idx, eb_1, eb_2, et_val, et_not, et_bop, ets_1, ets_2, eo_g, eo_a, ea_n, ea_c, es_asg, es_par, es_aug, es_put, es_ex, es_ret, es_retN, es_ife, ess_n, ess_c, tgv, tgvs, callv, callv.fin, Option.bind_some, Option.map_some, List.getElem?_cons_zero, List.getElem?_cons_succ, List.set_cons_zero, List.set_cons_succ, asRf_rf, ixN, smallI, wipeD, C_fn, hsh, cellsD])
  unfold f_cell_address
  rw [ess_c, s1, Option.bind_some]
  show evSs (C (n + 1)) _ [some (sysD G hs), some (.int o), some (.str nm), some (.int w), some (.int b), none, none] S = _
  rw [ess_c, es_loop, hI, Option.bind_some]
  show ((forv (tAdr (n + 1)) (cs.map cellD) _ S).bind _) = _
  rw [lp]
  rfl
/-! ### a field's address -/
theorem node_in (n : Nat) (w : Int) (room : Nat) : fnN T 100 (n + 1) 0 [.int w, .int (room : Nat)] S = some (.int (if 100 ≤ w ∧ w < 100 + (room : Nat) then w - 100 else -1), S) := by
  have e0 : fnN T 100 (n + 1) 0 [.int w, .int (room : Nat)] S = callv (C n) f_node_in [.int w, .int (room : Nat)] S := rfl
  rw [e0]
  refine callv_rt rfl rfl (δ' := [some (.int w), some (.int (room : Nat))]) ?_
  show evSs (C n) f_node_in.body [some (.int w), some (.int (room : Nat))] S = _
  unfold f_node_in
  by_cases h1 : 100 ≤ w
  · by_cases h2 : w < 100 + (room : Nat)
    · simp -implicitDefEqProofs [e_var, e_cst, e_glo, e_op, e_neg, e_cmp, e_cmp2, e_bop, e_not, e_ife, e_tup, e_lst, e_sub, e_slc, e_rvs, e_call, e_bi, e_rgl, e_isi, e_meth, e_idx, eb_1, eb_2, et_val, et_not, et_bop, ets_1, ets_2, eo_g, eo_a, ea_n, ea_c, es_asg, es_par, es_aug, es_put, es_ex, es_ret, es_retN, es_ife, ess_n, ess_c, tgv, tgvs, callv, callv.fin, Option.bind_some, Option.map_some, List.getElem?_cons_zero, List.getElem?_cons_succ, List.set_cons_zero, List.set_cons_succ, asRf_rf, ixN, smallI, wipeD, h1, h2]
    · simp -implicitDefEqProofs [e_var, e_cst, e_glo, e_op, e_neg, e_cmp, e_cmp2, e_bop, e_not, e_ife, e_tup, e_lst, e_sub, e_slc, e_rvs, e_call, e_bi, e_rgl, e_isi, e_meth, e_idx, eb_1, eb_2, et_val, et_not, et_bop, ets_1, ets_2, eo_g, eo_a, ea_n, ea_c, es_asg, es_par, es_aug, es_put, es_ex, es_ret, es_retN, es_ife, ess_n, ess_c, tgv, tgvs, callv, callv.fin, Option.bind_some, Option.map_some, List.getElem?_cons_zero, List.getElem?_cons_succ, List.set_cons_zero, List.set_cons_succ, asRf_rf, ixN, smallI, wipeD, h1, h2]
  · simp -implicitDefEqProofs [e_var, e_cst, e_glo, e_op, e_neg, e_cmp, e_cmp2, e_bop, e_not, e_ife, e_tup, e_lst, e_sub, e_slc, e_rvs, e_call, e_bi, e_rgl, e_isi, e_meth, e_idx, eb_1, eb_2, et_val, et_not, et_bop, ets_1, ets_2, eo_g, eo_a, ea_n, ea_c, es_asg, es_par, es_aug, es_put, es_ex, es_ret, es_retN, es_ife, ess_n, ess_c, tgv, tgvs, callv, callv.fin, Option.bind_some, Option.map_some, List.getElem?_cons_zero, List.getElem?_cons_succ, List.set_cons_zero, List.set_cons_succ, asRf_rf, ixN, smallI, wipeD, h1]
theorem first_field (n : Nat) {o : Nat} (e : hs[o]? = some (.str fs k cs)) {j : Nat} (hj : j ≤ 1000) : fnN T 100 (n + 2) 15 [sysD G hs, .int (o : Nat), .int (j : Nat)] S = some (.int ((wc G + pre hs o + wc cs + j * fs.length : Nat) : Int), S) := by
  have e0 : fnN T 100 (n + 2) 15 [sysD G hs, .int (o : Nat), .int (j : Nat)] S = callv (C (n + 1)) f_first_field [sysD G hs, .int (o : Nat), .int (j : Nat)] S := rfl
  rw [e0]
  refine callv_rt rfl rfl (δ' := [some (sysD G hs), some (.int (o : Nat)), some (.int (j : Nat)), some (hoD (.str fs k cs))]) ?_
  show evSs (C (n + 1)) f_first_field.body [some (sysD G hs), some (.int (o : Nat)), some (.int (j : Nat)), none] S = _
  have b := bx (G := G) (S := S) e
  simp -implicitDefEqProofs only [Int.natCast_add] at b
  have hk : -18446744073709551616 < (j : Int) ∧ (j : Int) < 18446744073709551616 := by omega
  have cw := count_words n S cs
  unfold f_first_field
  simp -implicitDefEqProofs [e_var, e_cst, e_glo, e_op, e_neg, e_cmp, e_cmp2, e_bop, e_not, e_ife, e_tup, e_lst, e_sub, e_slc, e_rvs, e_call, e_bi, e_rgl, e_isi, e_meth, e_idx, eb_1, eb_2, et_val, et_not, et_bop, ets_1, ets_2, eo_g, eo_a, ea_n, ea_c, es_asg, es_par, es_aug, es_put, es_ex, es_ret, es_retN, es_ife, ess_n, ess_c, tgv, tgvs, callv, callv.fin, Option.bind_some, Option.map_some, List.getElem?_cons_zero, List.getElem?_cons_succ, List.set_cons_zero, List.set_cons_succ, asRf_rf, ixN, smallI, wipeD, C_fn, hx e, b, hk, cw]
theorem fidx : ∀ {fs : List Str} {nm : Str}, nm ∈ fs → firstIx (.str nm) (fs.map PyData.str) = some (idxOf nm fs)
  | [], _, h => by cases h
  | x :: r, nm, h => by
    rw [List.map_cons, firstIx, idxOf]
    by_cases hx : x = nm
    · rw [if_pos hx, if_pos (by rw [hx]; simp [PyData.eqv])]
    · rw [if_neg hx, if_neg (by simp [PyData.eqv, hx]), fidx ((List.mem_cons.mp h).resolve_left fun z => hx z.symm)]
      rfl
theorem shaped_strs (fs : List Str) (ok : ∀ x ∈ fs, PyData.strOk x = true) : SeqAt.shaped (.tuple (fs.map PyData.str)) = true := by
  have h1 : ∀ l : List Str, (∀ x ∈ l, PyData.strOk x = true) → PyData.canLayAll0 (l.map PyData.str) = true := fun l hl => by
    induction l with
    | nil => rfl
    | cons x r ih => simp [PyData.canLayAll0, PyData.canLay0, ih fun y hy => hl y (List.mem_cons_of_mem _ hy), hl x List.mem_cons_self]
  have h2 : ∀ l : List Str, PyData.depthAll (l.map PyData.str) = 0 := fun l => by
    induction l with
    | nil => rfl
    | cons x r ih => simp [PyData.depthAll, PyData.depth, ih]
  simp [SeqAt.shaped, PyData.canLay0, h1 fs ok, PyData.depth, h2]
theorem field_address (n : Nat) {o : Nat} (e : hs[o]? = some (.str fs k cs)) (fok : ∀ x ∈ fs, PyData.strOk x = true) (hk : k ≤ 8) {nm : Str} (hm : nm ∈ fs) (w : Int) :
    fnN T 100 (n + 3) 16 [sysD G hs, .int (o : Nat), .int w, .str nm] S = some (.int (if 100 ≤ w ∧ w < 100 + (k : Nat) then ((wc G + pre hs o + wc cs + (w - 100).toNat * fs.length + idxOf nm fs : Nat) : Int) else -1), S) := by
  have e0 : fnN T 100 (n + 3) 16 [sysD G hs, .int (o : Nat), .int w, .str nm] S = callv (C (n + 2)) f_field_address [sysD G hs, .int (o : Nat), .int w, .str nm] S := rfl
  rw [e0]
  have ni := node_in (S := S) (n + 1) w k
  by_cases hw : 100 ≤ w ∧ w < 100 + (k : Nat)
  · rw [if_pos hw] at ni ⊢
    refine callv_rt rfl rfl (δ' := [some (sysD G hs), some (.int (o : Nat)), some (.int w), some (.str nm), some (hoD (.str fs k cs)), some (.int (w - 100))]) ?_
    show evSs (C (n + 2)) f_field_address.body [some (sysD G hs), some (.int (o : Nat)), some (.int w), some (.str nm), none, none] S = _
    have ff := first_field (S := S) (G := G) n e (j := (w - 100).toNat) (by omega)
    rw [show (((w - 100).toNat : Nat) : Int) = w - 100 by omega] at ff
    have hn : ¬ (w - 100 < 0) := by omega
    have ix : idxv (.tuple (fs.map PyData.str)) (.str nm) S = some (.int ((idxOf nm fs : Nat) : Int)) := by
      show (if SeqAt.shaped (.str nm) && SeqAt.shaped (.tuple (fs.map PyData.str)) then (firstIx (.str nm) (fs.map PyData.str)).map fun j => PyData.int (j : Nat) else none) = _
      have sn : SeqAt.shaped (.str nm) = true := by simp [SeqAt.shaped, PyData.canLay0, fok nm hm, PyData.depth]
      rw [shaped_strs fs fok, sn, fidx hm]
      rfl
    unfold f_field_address
    simp -implicitDefEqProofs [e_var, e_cst, e_glo, e_op, e_neg, e_cmp, e_cmp2, e_bop, e_not, e_ife, e_tup, e_lst, e_sub, e_slc, e_rvs, e_call, e_bi, e_rgl, e_isi, e_meth, e_idx, eb_1, eb_2, et_val, et_not, et_bop, ets_1, ets_2, eo_g, eo_a, ea_n, ea_c, es_asg, es_par, es_aug, es_put, es_ex, es_ret, es_retN, es_ife, ess_n, ess_c, tgv, tgvs, callv, callv.fin, Option.bind_some, Option.map_some, List.getElem?_cons_zero, List.getElem?_cons_succ, List.set_cons_zero, List.set_cons_succ, asRf_rf, ixN, smallI, wipeD, C_fn, hx e, ni, hn, ff, ix]
  · rw [if_neg hw] at ni ⊢
    refine callv_rt rfl rfl (δ' := [some (sysD G hs), some (.int (o : Nat)), some (.int w), some (.str nm), some (hoD (.str fs k cs)), some (.int (-1))]) ?_
    show evSs (C (n + 2)) f_field_address.body [some (sysD G hs), some (.int (o : Nat)), some (.int w), some (.str nm), none, none] S = _
    unfold f_field_address
    simp -implicitDefEqProofs [e_var, e_cst, e_glo, e_op, e_neg, e_cmp, e_cmp2, e_bop, e_not, e_ife, e_tup, e_lst, e_sub, e_slc, e_rvs, e_call, e_bi, e_rgl, e_isi, e_meth, e_idx, eb_1, eb_2, et_val, et_not, et_bop, ets_1, ets_2, eo_g, eo_a, ea_n, ea_c, es_asg, es_par, es_aug, es_put, es_ex, es_ret, es_retN, es_ife, ess_n, ess_c, tgv, tgvs, callv, callv.fin, Option.bind_some, Option.map_some, List.getElem?_cons_zero, List.getElem?_cons_succ, List.set_cons_zero, List.set_cons_succ, asRf_rf, ixN, smallI, wipeD, C_fn, hx e, ni]
/-! ### the other way -/
def ownF (b k : Nat) : List Ho → Nat → Int → Int
  | [], _, own => own
  | h :: r, a, own => ownF (b + szH h) (k + 1) r a (if b ≤ a then (k : Int) else own)
theorem ownF_lt : ∀ {hs : List Ho} {b k a : Nat} {own : Int}, a < b → ownF b k hs a own = own
  | [], _, _, _, _, _ => rfl
  | h :: r, b, k, a, own, hl => by
    rw [ownF, if_neg (by omega), ownF_lt (by omega)]
theorem ownF_at : ∀ {hs : List Ho} {b k a o : Nat} {own : Int} {h : Ho}, hs[o]? = some h → b + pre hs o ≤ a → a < b + pre hs o + szH h → ownF b k hs a own = (k + o : Nat)
  | [], _, _, _, _, _, _, e, _, _ => by cases e
  | h0 :: r, b, k, a, 0, own, h, e, h1, h2 => by
    cases e
    have : pre (h0 :: r) 0 = 0 := by simp [pre]
    rw [ownF, if_pos (by omega), ownF_lt (by omega)]
    rfl
  | h0 :: r, b, k, a, o + 1, own, h, e, h1, h2 => by
    have : pre (h0 :: r) (o + 1) = szH h0 + pre r o := by simp [pre]
    rw [ownF, ownF_at (hs := r) (o := o) (h := h) e (by omega) (by omega)]
    congr 1
    omega
abbrev tOwn (n : Nat) : D → DE → Sto → Option (Fl × DE × Sto) := fun x δ S => (tgv (.tup (.cons (.nm 3) (.cons (.nm 4) .nil))) x δ).bind fun δ' => evSs (C n) (.cons (.ife (.val (.cmp .LtE (.var 4) (.var 1))) (.cons (.asg (.nm 2) (.var 3)) .nil) .nil) .nil) δ' S
theorem own_loop (n : Nat) (s : D) (a : Nat) : ∀ (hs : List Ho) (b k : Nat) (own : Int) (x y : Option D), ∃ x' y', forv (tOwn n) (enumD k (natsD (basesFrom b hs))) [some s, some (.int (a : Nat)), some (.int own), x, y] S = some (.nx, [some s, some (.int (a : Nat)), some (.int (ownF b k hs a own)), x', y'], S)
  | [], _, _, _, x, y => ⟨x, y, rfl⟩
  | h :: r, b, k, own, x, y => by
    obtain ⟨x', y', ih⟩ := own_loop n s a r (b + szH h) (k + 1) (if b ≤ a then (k : Int) else own) (some (.int (k : Nat))) (some (.int (b : Nat)))
    refine ⟨x', y', ?_⟩
    have turn : tOwn n (.tuple [.int (k : Nat), .int (b : Nat)]) [some s, some (.int (a : Nat)), some (.int own), x, y] S = some (.nx, [some s, some (.int (a : Nat)), some (.int (if b ≤ a then (k : Int) else own)), some (.int (k : Nat)), some (.int (b : Nat))], S) := by
      by_cases hb : b ≤ a
      · have hb' : (b : Int) ≤ (a : Int) := by omega
        simp -implicitDefEqProofs [tOwn, e_var, e_cst, e_glo, e_op, e_neg, e_cmp, e_cmp2, e_bop, e_not, e_ife, e_tup, e_lst, e_sub, e_slc, e_rvs, e_call, e_bi, e_rgl, e_isi, e_meth, e_idx, eb_1, eb_2, et_val, et_not, et_bop, ets_1, ets_2, eo_g, eo_a, ea_n, ea_c, es_asg, es_par, es_aug, es_put, es_ex, es_ret, es_retN, es_ife, ess_n, ess_c, tgv, tgvs, callv, callv.fin, Option.bind_some, Option.map_some, List.getElem?_cons_zero, List.getElem?_cons_succ, List.set_cons_zero, List.set_cons_succ, asRf_rf, ixN, smallI, wipeD, hb]
      · simp -implicitDefEqProofs [tOwn, e_var, e_cst, e_glo, e_op, e_neg, e_cmp, e_cmp2, e_bop, e_not, e_ife, e_tup, e_lst, e_sub, e_slc, e_rvs, e_call, e_bi, e_rgl, e_isi, e_meth, e_idx, eb_1, eb_2, et_val, et_not, et_bop, ets_1, ets_2, eo_g, eo_a, ea_n, ea_c, es_asg, es_par, es_aug, es_put, es_ex, es_ret, es_retN, es_ife, ess_n, ess_c, tgv, tgvs, callv, callv.fin, Option.bind_some, Option.map_some, List.getElem?_cons_zero, List.getElem?_cons_succ, List.set_cons_zero, List.set_cons_succ, asRf_rf, ixN, smallI, wipeD, hb]
    show ((tOwn n (.tuple [.int (k : Nat), .int (b : Nat)]) _ _).bind _) = _
    rw [turn, Option.bind_some]
    show forv (tOwn n) (enumD (k + 1) (natsD (basesFrom (b + szH h) r))) _ _ = _
    rw [ih]
    rfl
theorem owner_of (n : Nat) (a : Nat) : fnN T 100 (n + 1) 17 [sysD G hs, .int (a : Nat)] S = some (.int (ownF (wc G) 0 hs a (-1)), S) := by
  have e0 : fnN T 100 (n + 1) 17 [sysD G hs, .int (a : Nat)] S = callv (C n) f_owner_of [sysD G hs, .int (a : Nat)] S := rfl
  rw [e0]
  obtain ⟨x', y', lp⟩ := own_loop (S := S) n (sysD G hs) a hs (wc G) 0 (-1) none none
  refine callv_rt rfl rfl (δ' := [some (sysD G hs), some (.int (a : Nat)), some (.int (ownF (wc G) 0 hs a (-1))), x', y']) ?_
  show evSs (C n) f_owner_of.body [some (sysD G hs), some (.int (a : Nat)), none, none, none] S = _
  have s1 : evS (C n) (.asg (.nm 2) (.neg (.cst (.int 1)))) [some (sysD G hs), some (.int (a : Nat)), none, none, none] S = some (.nx, [some (sysD G hs), some (.int (a : Nat)), some (.int (-1)), none, none], S) := by
    simp -implicitDefEqProofs [e_var, e_cst, e_glo, e_op, e_neg, e_cmp, e_cmp2, e_bop, e_not, e_ife, e_tup, e_lst, e_sub, e_slc, e_rvs, e_call, e_bi, e_rgl, e_isi, e_meth, e_idx, eb_1, eb_2, et_val, et_not, et_bop, ets_1, ets_2, eo_g, eo_a, ea_n, ea_c, es_asg, es_par, es_aug, es_put, es_ex, es_ret, es_retN, es_ife, ess_n, ess_c, tgv, tgvs, callv, callv.fin, Option.bind_some, Option.map_some, List.getElem?_cons_zero, List.getElem?_cons_succ, List.set_cons_zero, List.set_cons_succ, asRf_rf, ixN, smallI, wipeD]
  have hI : evI (C n) (.enum (.sub (.var 0) (.cst (.int 1)))) [some (sysD G hs), some (.int (a : Nat)), some (.int (-1)), none, none] S = some ((enumD 0 (natsD (basesFrom (wc G) hs)), true), S) := i_ET (by simp -implicitDefEqProofs [e_var, e_cst, e_glo, e_op, e_neg, e_cmp, e_cmp2, e_bop, e_not, e_ife, e_tup, e_lst, e_sub, e_slc, e_rvs, e_call, e_bi, e_rgl, e_isi, e_meth, e_idx, eb_1, eb_2, et_val, et_not, et_bop, ets_1, ets_2, eo_g, eo_a, ea_n, ea_c, es_asg, es_par, es_aug, es_put, es_ex, es_ret, es_retN, es_ife, ess_n, ess_c, tgv, tgvs, callv, callv.fin, Option.bind_some, Option.map_some, List.getElem?_cons_zero, List.getElem?_cons_succ, List.set_cons_zero, List.set_cons_succ, asRf_rf, ixN, smallI, wipeD, basesD])
  unfold f_owner_of
  rw [ess_c, s1, Option.bind_some]
  show evSs (C n) _ [some (sysD G hs), some (.int (a : Nat)), some (.int (-1)), none, none] S = _
  rw [ess_c, es_loop, hI, Option.bind_some]
  show ((forv (tOwn n) (enumD 0 (natsD (basesFrom (wc G) hs))) _ S).bind _) = _
  rw [lp, Option.bind_some]
  show evSs (C n) _ [some (sysD G hs), some (.int (a : Nat)), some (.int (ownF (wc G) 0 hs a (-1))), x', y'] S = _
  simp -implicitDefEqProofs [e_var, e_cst, e_glo, e_op, e_neg, e_cmp, e_cmp2, e_bop, e_not, e_ife, e_tup, e_lst, e_sub, e_slc, e_rvs, e_call, e_bi, e_rgl, e_isi, e_meth, e_idx, eb_1, eb_2, et_val, et_not, et_bop, ets_1, ets_2, eo_g, eo_a, ea_n, ea_c, es_asg, es_par, es_aug, es_put, es_ex, es_ret, es_retN, es_ife, ess_n, ess_c, tgv, tgvs, callv, callv.fin, Option.bind_some, Option.map_some, List.getElem?_cons_zero, List.getElem?_cons_succ, List.set_cons_zero, List.set_cons_succ, asRf_rf, ixN, smallI, wipeD]
abbrev tTold (n : Nat) : D → DE → Sto → Option (Fl × DE × Sto) := fun x δ S => (tgv (.tup (.cons (.nm 4) (.cons (.nm 5) .nil))) x δ).bind fun δ' => evSs (C n) (.cons (.ife (.val (.cmp .Lt (.var 3) (.bi .len false (.cons (.var 5) .nil)))) (.cons (.ret (.tup (.cons (.cst (.str (Str.ofString "cell"))) (.cons (.var 2) (.cons (.var 4) (.cons (.var 3) .nil)))))) .nil) .nil) (.cons (.aug 3 .sub (.bi .len false (.cons (.var 5) .nil))) .nil)) δ' S
theorem told_loop (n : Nat) (s a : D) (o : Int) (z : Option D) : ∀ (cs : Cs) (i : Nat) (x y : Option D), ∃ δ' x' y', forv (tTold n) (cs.map cellD) [some s, some a, some (.int o), some (.int (i : Nat)), x, y, z] S = match findC o cs i with
    | .inl e => some (.rt (entD e), δ', S)
    | .inr j => some (.nx, [some s, some a, some (.int o), some (.int (j : Nat)), x', y', z], S)
  | [], i, x, y => ⟨[], x, y, rfl⟩
  | c :: r, i, x, y => by
    have hb := big 4 (by omega)
    by_cases hi : i < c.2.length
    · have hi' : (i : Int) < (c.2.length : Nat) := by omega
      have turn : tTold n (cellD c) [some s, some a, some (.int o), some (.int (i : Nat)), x, y, z] S = some (.rt (entD (.cell o c.1 i)), [some s, some a, some (.int o), some (.int (i : Nat)), some (.str c.1), some (.tuple c.2), z], S) := by
        simp -implicitDefEqProofs [tTold, e_var, e_cst, e_glo, e_op, e_neg, e_cmp, e_cmp2, e_bop, e_not, e_ife, e_tup, e_lst, e_sub, e_slc, e_rvs, e_call, e_bi, e_rgl, e_isi, e_meth, e_idx, eb_1, eb_2, et_val, et_not, et_bop, ets_1, ets_2, eo_g, eo_a, ea_n, ea_c, es_asg, es_par, es_aug, es_put, es_ex, es_ret, es_retN, es_ife, ess_n, ess_c, tgv, tgvs, callv, callv.fin, Option.bind_some, Option.map_some, List.getElem?_cons_zero, List.getElem?_cons_succ, List.set_cons_zero, List.set_cons_succ, asRf_rf, ixN, smallI, wipeD, cellD, hi, hb, entD]
      refine ⟨[some s, some a, some (.int o), some (.int (i : Nat)), some (.str c.1), some (.tuple c.2), z], none, none, ?_⟩
      show ((tTold n (cellD c) _ _).bind _) = _
      rw [turn, Option.bind_some, findC, if_pos hi]
    · obtain ⟨δ', x', y', ih⟩ := told_loop n s a o z r (i - c.2.length) (some (.str c.1)) (some (.tuple c.2))
      have hi2 : (i : Int) - (c.2.length : Nat) = ((i - c.2.length : Nat) : Int) := by omega
      have turn : tTold n (cellD c) [some s, some a, some (.int o), some (.int (i : Nat)), x, y, z] S = some (.nx, [some s, some a, some (.int o), some (.int ((i - c.2.length : Nat) : Int)), some (.str c.1), some (.tuple c.2), z], S) := by
        rw [← hi2]
        simp -implicitDefEqProofs [tTold, e_var, e_cst, e_glo, e_op, e_neg, e_cmp, e_cmp2, e_bop, e_not, e_ife, e_tup, e_lst, e_sub, e_slc, e_rvs, e_call, e_bi, e_rgl, e_isi, e_meth, e_idx, eb_1, eb_2, et_val, et_not, et_bop, ets_1, ets_2, eo_g, eo_a, ea_n, ea_c, es_asg, es_par, es_aug, es_put, es_ex, es_ret, es_retN, es_ife, ess_n, ess_c, tgv, tgvs, callv, callv.fin, Option.bind_some, Option.map_some, List.getElem?_cons_zero, List.getElem?_cons_succ, List.set_cons_zero, List.set_cons_succ, asRf_rf, ixN, smallI, wipeD, cellD, hi]
      refine ⟨δ', x', y', ?_⟩
      show ((tTold n (cellD c) _ _).bind _) = _
      rw [turn, Option.bind_some, findC, if_neg hi]
      exact ih
theorem told_address (n : Nat) (ok : SrcOk G hs) {i : Nat} {e : Ent} (he : (rowAll G hs)[i]? = some e) : fnN T 100 (n + 2) 18 [sysD G hs, .int (i : Nat)] S = some (entD e, S) := by
  have e0 : fnN T 100 (n + 2) 18 [sysD G hs, .int (i : Nat)] S = callv (C (n + 1)) f_told_address [sysD G hs, .int (i : Nat)] S := rfl
  rw [e0]
  have ow := owner_of (S := S) (G := G) (hs := hs) n i
  have start : ∀ {o : Int} {b : Int} {cs : Cs} {j : Nat}, ownF (wc G) 0 hs i (-1) = o → fnN T 100 (n + 1) 13 [sysD G hs, .int o] S = some (.int b, S) → fnN T 100 (n + 1) 12 [sysD G hs, .int o] S = some (cellsD cs, S) → (i : Int) - b = (j : Nat) →
      evSs (C (n + 1)) f_told_address.body [some (sysD G hs), some (.int (i : Nat)), none, none, none, none, none] S = ((forv (tTold (n + 1)) (cs.map cellD) [some (sysD G hs), some (.int (i : Nat)), some (.int o), some (.int (j : Nat)), none, none, none] S).bind fun p => match p.1 with
        | .nx => evSs (C (n + 1)) (.cons (.asg (.nm 6) (.sub (.sub (.sub (.sub (.var 0) (.cst (.int 0))) (.cst (.int 1))) (.var 2)) (.glo (Str.ofString "FIELDS") (.int 2)))) (.cons (.ret (.tup (.cons (.cst (.str (Str.ofString "field"))) (.cons (.var 2) (.cons (.op .fdiv false (.var 3) (.bi .len false (.cons (.var 6) .nil))) (.cons (.sub (.var 6) (.op .mod false (.var 3) (.bi .len false (.cons (.var 6) .nil)))) .nil)))))) .nil)) p.2.1 p.2.2
        | f => some (f, p.2.1, p.2.2)) := fun {o b cs j} h1 h2 h3 h4 => by
    rw [h1] at ow
    have s1 : evS (C (n + 1)) (.asg (.nm 2) (.call 17 (.cons (.var 0) (.cons (.var 1) .nil)))) [some (sysD G hs), some (.int (i : Nat)), none, none, none, none, none] S = some (.nx, [some (sysD G hs), some (.int (i : Nat)), some (.int o), none, none, none, none], S) := by
      simp -implicitDefEqProofs [e_var, e_cst, e_glo, e_op, e_neg, e_cmp, e_cmp2, e_bop, e_not, e_ife, e_tup, e_lst, e_sub, e_slc, e_rvs, e_call, e_bi, e_rgl, e_isi, e_meth, e_idx, eb_1, eb_2, et_val, et_not, et_bop, ets_1, ets_2, eo_g, eo_a, ea_n, ea_c, es_asg, es_par, es_aug, es_put, es_ex, es_ret, es_retN, es_ife, ess_n, ess_c, tgv, tgvs, callv, callv.fin, Option.bind_some, Option.map_some, List.getElem?_cons_zero, List.getElem?_cons_succ, List.set_cons_zero, List.set_cons_succ, asRf_rf, ixN, smallI, wipeD, C_fn, ow]
    have s2 : evS (C (n + 1)) (.asg (.nm 3) (.op .sub false (.var 1) (.call 13 (.cons (.var 0) (.cons (.var 2) .nil))))) [some (sysD G hs), some (.int (i : Nat)), some (.int o), none, none, none, none] S = some (.nx, [some (sysD G hs), some (.int (i : Nat)), some (.int o), some (.int (j : Nat)), none, none, none], S) := by
      rw [← h4]
      simp -implicitDefEqProofs [e_var, e_cst, e_glo, e_op, e_neg, e_cmp, e_cmp2, e_bop, e_not, e_ife, e_tup, e_lst, e_sub, e_slc, e_rvs, e_call, e_bi, e_rgl, e_isi, e_meth, e_idx, eb_1, eb_2, et_val, et_not, et_bop, ets_1, ets_2, eo_g, eo_a, ea_n, ea_c, es_asg, es_par, es_aug, es_put, es_ex, es_ret, es_retN, es_ife, ess_n, ess_c, tgv, tgvs, callv, callv.fin, Option.bind_some, Option.map_some, List.getElem?_cons_zero, List.getElem?_cons_succ, List.set_cons_zero, List.set_cons_succ, asRf_rf, ixN, smallI, wipeD, C_fn, h2]
    have hI : evI (C (n + 1)) (.over (.call 12 (.cons (.var 0) (.cons (.var 2) .nil)))) [some (sysD G hs), some (.int (i : Nat)), some (.int o), some (.int (j : Nat)), none, none, none] S = some ((cs.map cellD, true), S) := i_T (by simp -implicitDefEqProofs [e_var, e_cst, e_glo, e_op, e_neg, e_cmp, e_cmp2, e_bop, e_not, e_ife, e_tup, e_lst, e_sub, e_slc, e_rvs, e_call, e_bi, e_rgl, e_isi, e_meth, e_idx, eb_1, eb_2, et_val, et_not, et_bop, ets_1, ets_2, eo_g, eo_a, ea_n, ea_c, es_asg, es_par, es_aug, es_put, es_ex, es_ret, es_retN, es_ife, ess_n, ess_c, tgv, tgvs, callv, callv.fin, Option.bind_some, Option.map_some, List.getElem?_cons_zero, List.getElem?_cons_succ, List.set_cons_zero, List.set_cons_succ, asRf_rf, ixN, smallI, wipeD, C_fn, h3, cellsD])
    unfold f_told_address
    rw [ess_c, s1, Option.bind_some]
    show evSs (C (n + 1)) _ [some (sysD G hs), some (.int (i : Nat)), some (.int o), none, none, none, none] S = _
    rw [ess_c, s2, Option.bind_some]
    show evSs (C (n + 1)) _ [some (sysD G hs), some (.int (i : Nat)), some (.int o), some (.int (j : Nat)), none, none, none] S = _
    rw [ess_c, es_loop, hI, Option.bind_some] <;> rfl
  rcases row_at ok he with ⟨hi, nm, k, rfl, hr, _⟩ | ⟨o, h, e1, e2, e3, hh⟩
  · obtain ⟨e', q1, q2⟩ := findC_in (o := -1) hi
    cases hr.symm.trans q1
    obtain ⟨δ', x', y', lp⟩ := told_loop (S := S) (n + 1) (sysD G hs) (.int (i : Nat)) (-1) none G i none none
    rw [q2] at lp
    refine callv_rt rfl rfl (δ' := δ') ?_
    show evSs (C (n + 1)) f_told_address.body [some (sysD G hs), some (.int (i : Nat)), none, none, none, none, none] S = _
    rw [start (ownF_lt hi) (base_neg n) (shared_neg n) (j := i) (by omega), lp]
    rfl
  · have sz : h ≠ .pair := fun z => by
      subst z
      simp only [szH] at e3
      omega
    obtain ⟨fs, kk, cs, rfl⟩ : ∃ fs kk cs, h = .str fs kk cs := by
      cases h with
      | pair => exact absurd rfl sz
      | str fs kk cs => exact ⟨fs, kk, cs, rfl⟩
    have ow2 : ownF (wc G) 0 hs i (-1) = ((o : Nat) : Int) := by
      rw [ownF_at e1 e2 e3, Nat.zero_add]
    have st := start ow2 (base_pos n e1) (shared_pos n e1) (j := i - (wc G + pre hs o)) (by omega)
    obtain ⟨δ', x', y', lp⟩ := told_loop (S := S) (n + 1) (sysD G hs) (.int (i : Nat)) (o : Nat) none cs (i - (wc G + pre hs o)) none none
    rcases hh with ⟨nm, k, rfl, hr, hj, _⟩ | ⟨hj, nm, hl, hf, rfl⟩
    · obtain ⟨e', q1, q2⟩ := findC_in (o := ((o : Nat) : Int)) (show i - (wc G + pre hs o) < wc cs from hj)
      cases hr.symm.trans q1
      rw [q2] at lp
      refine callv_rt rfl rfl (δ' := δ') ?_
      show evSs (C (n + 1)) f_told_address.body [some (sysD G hs), some (.int (i : Nat)), none, none, none, none, none] S = _
      rw [st, lp]
      rfl
    · have q2 := findC_out (o := ((o : Nat) : Int)) (show wc cs ≤ i - (wc G + pre hs o) from hj)
      rw [q2] at lp
      simp only [cellsOf, fieldsOf, sizeOf'] at hl hf ⊢
      refine callv_rt rfl rfl (δ' := [some (sysD G hs), some (.int (i : Nat)), some (.int (o : Nat)), some (.int ((i - (wc G + pre hs o) - wc cs : Nat) : Int)), x', y', some (.tuple (fs.map PyData.str))]) ?_
      show evSs (C (n + 1)) f_told_address.body [some (sysD G hs), some (.int (i : Nat)), none, none, none, none, none] S = _
      rw [st, lp, Option.bind_some]
      show evSs (C (n + 1)) _ [some (sysD G hs), some (.int (i : Nat)), some (.int (o : Nat)), some (.int ((i - (wc G + pre hs o) - wc cs : Nat) : Int)), x', y', none] S = _
      generalize i - (wc G + pre hs o) - wc cs = j at hl hf ⊢
      have hfl : 0 < fs.length := by
        rcases Nat.eq_zero_or_pos fs.length with z | z
        · rw [z, Nat.mul_zero] at hl
          exact absurd hl (Nat.not_lt_zero _)
        · exact z
      have hfl4 : fs.length ≤ 4 := (ok.h _ (List.mem_of_getElem? e1)).2.1
      have g0 : 0 < (fs.length : Int) := by omega
      have g1 : (fs.length : Int) < 1073741824 := by omega
      have ai : atI (fs.map PyData.str) ((j : Int) % (fs.length : Nat)) = some (.str nm) := by
        rw [show (j : Int) % (fs.length : Nat) = ((j % fs.length : Nat) : Int) by omega]
        exact at_nat (by rw [List.getElem?_map, hf]; rfl)
      have hb := big 4 (by omega)
      have s1 : evS (C (n + 1)) (.asg (.nm 6) (.sub (.sub (.sub (.sub (.var 0) (.cst (.int 0))) (.cst (.int 1))) (.var 2)) (.glo (Str.ofString "FIELDS") (.int 2)))) [some (sysD G hs), some (.int (i : Nat)), some (.int (o : Nat)), some (.int (j : Nat)), x', y', none] S = some (.nx, [some (sysD G hs), some (.int (i : Nat)), some (.int (o : Nat)), some (.int (j : Nat)), x', y', some (.tuple (fs.map PyData.str))], S) := by
        simp -implicitDefEqProofs [e_var, e_cst, e_glo, e_op, e_neg, e_cmp, e_cmp2, e_bop, e_not, e_ife, e_tup, e_lst, e_sub, e_slc, e_rvs, e_call, e_bi, e_rgl, e_isi, e_meth, e_idx, eb_1, eb_2, et_val, et_not, et_bop, ets_1, ets_2, eo_g, eo_a, ea_n, ea_c, es_asg, es_par, es_aug, es_put, es_ex, es_ret, es_retN, es_ife, ess_n, ess_c, tgv, tgvs, callv, callv.fin, Option.bind_some, Option.map_some, List.getElem?_cons_zero, List.getElem?_cons_succ, List.set_cons_zero, List.set_cons_succ, asRf_rf, ixN, smallI, wipeD, hx e1]
      rw [ess_c, s1, Option.bind_some]
      show evSs (C (n + 1)) _ [some (sysD G hs), some (.int (i : Nat)), some (.int (o : Nat)), some (.int (j : Nat)), x', y', some (.tuple (fs.map PyData.str))] S = _
      simp -implicitDefEqProofs [e_var, e_cst, e_glo, e_op, e_neg, e_cmp, e_cmp2, e_bop, e_not, e_ife, e_tup, e_lst, e_sub, e_slc, e_rvs, e_call, e_bi, e_rgl, e_isi, e_meth, e_idx, eb_1, eb_2, et_val, et_not, et_bop, ets_1, ets_2, eo_g, eo_a, ea_n, ea_c, es_asg, es_par, es_aug, es_put, es_ex, es_ret, es_retN, es_ife, ess_n, ess_c, tgv, tgvs, callv, callv.fin, Option.bind_some, Option.map_some, List.getElem?_cons_zero, List.getElem?_cons_succ, List.set_cons_zero, List.set_cons_succ, asRf_rf, ixN, smallI, wipeD, hfl, g1, ai, hb, entD]
end
end K00

namespace K00
open PySem PySem.Spec
open PyProof.Rows L2 Ev
/-! ### bounds -/
theorem wc_le : ∀ {cs : Cs}, (∀ c ∈ cs, 1 ≤ c.2.length ∧ c.2.length ≤ 8) → wc cs ≤ 8 * cs.length
  | [], _ => Nat.le_refl _
  | c :: r, h => by
    have h1 := (h c List.mem_cons_self).2
    have h2 := wc_le (cs := r) fun d hd => h d (List.mem_cons_of_mem _ hd)
    have : wc (c :: r) = c.2.length + wc r := by simp [wc]
    rw [List.length_cons]
    omega
theorem wc24 {cs : Cs} (h : CellsOk cs) : wc cs ≤ 24 := by
  have h1 := wc_le h.ne
  have h2 := h.few
  omega
theorem szH56 {h : Ho} (ok : HoOk h) : szH h ≤ 56 := by
  cases h with
  | pair => exact Nat.zero_le _
  | str fs k cs =>
    have h1 := wc24 ok.2.2.2.2.1
    have h2 : k * fs.length ≤ 8 * 4 := Nat.mul_le_mul ok.2.2.1 ok.2.1
    simp only [szH]
    omega
theorem pre_le {hs : List Ho} (ok : ∀ h ∈ hs, HoOk h) : ∀ o, pre hs o ≤ 56 * hs.length := fun o => by
  unfold pre
  have : ∀ l : List Ho, (∀ h ∈ l, HoOk h) → (l.map szH).sum ≤ 56 * l.length := fun l hl => by
    induction l with
    | nil => exact Nat.le_refl _
    | cons h r ih =>
      have h1 := szH56 (hl h List.mem_cons_self)
      have h2 := ih fun x hx => hl x (List.mem_cons_of_mem _ hx)
      rw [List.map_cons, List.sum_cons, List.length_cons]
      omega
  have h1 := this (hs.take o) fun h hh => ok h (List.mem_of_mem_take hh)
  have h2 : (hs.take o).length ≤ hs.length := by rw [List.length_take]; exact Nat.min_le_right _ _
  omega
theorem rowHs_snoc : ∀ {l : List Ho} {b : Int} {h : Ho}, rowHs b (l ++ [h]) = rowHs b l ++ rowH (b + (l.length : Nat)) h
  | [], b, h => by simp [rowHs]
  | h0 :: r, b, h => by
    show rowH b h0 ++ rowHs (b + 1) (r ++ [h]) = (rowH b h0 ++ rowHs (b + 1) r) ++ _
    rw [rowHs_snoc, List.append_assoc, List.length_cons, show b + 1 + (r.length : Nat) = b + ((r.length + 1 : Nat) : Int) by omega]
theorem rowHs_len : ∀ {l : List Ho} {b : Int}, (rowHs b l).length = (l.map szH).sum
  | [], b => rfl
  | h0 :: r, b => by rw [rowHs, List.length_append, rowHs_len, rowH_len, List.map_cons, List.sum_cons]
theorem rng_map (n : Nat) (f : D → D) : (rngD 0 n).map f = (List.range n).map fun k : Nat => f (.int (k : Nat)) := by
  unfold rngD
  rw [List.map_map]
  refine List.map_congr_left fun k _ => ?_
  show f (.int (0 + (k : Nat))) = _
  rw [Int.zero_add]
/-! ### all cells -/
abbrev listE (l : List Ent) : D := .list (l.map entD)
theorem addL {a b : List Ent} {S : Sto} (h : a.length + b.length ≤ 100000) : opv .add false (listE a) (.list (b.map entD)) S = some (listE (a ++ b), S) := by
  rw [v_addL, if_pos (by rw [sizeLine_eq, List.length_map, List.length_map]; omega), mkl_f, ← List.map_append]
abbrev bCell (oe : E) : Ss := .cons (.asg (.nm 1) (.op .add false (.var 1) (.lc false (.tup (.cons (.cst (.str (Str.ofString "cell"))) (.cons oe (.cons (.var 2) (.cons (.var 6) .nil))))) (.nm 6) (.rng (.cons (.bi .len false (.cons (.var 3) .nil)) .nil)) .nil [6]))) .nil
abbrev tCell (n : Nat) (oe : E) : D → DE → Sto → Option (Fl × DE × Sto) := fun x δ S => (tgv (.tup (.cons (.nm 2) (.cons (.nm 3) .nil))) x δ).bind fun δ' => evSs (C n) (bCell oe) δ' S
theorem cell_turn (n : Nat) (oe : E) (o : Int) (S : Sto) {s : D} {acc : List Ent} {x2 x3 x4 x5 x6 : Option D} (hoe : ∀ y2 y3 y6, evE (C n) oe [some s, some (listE acc), y2, y3, x4, x5, y6] S = some (.int o, S)) (c : Str × List D) (h8 : c.2.length ≤ 8) (ha : acc.length ≤ 1000) :
    tCell n oe (cellD c) [some s, some (listE acc), x2, x3, x4, x5, x6] S = some (.nx, [some s, some (listE (acc ++ (List.range c.2.length).map fun k => Ent.cell o c.1 k)), some (.str c.1), some (.tuple c.2), x4, x5, x6], S) := by
  have hI : evI (C n) (.rng (.cons (.bi .len false (.cons (.var 3) .nil)) .nil)) [some s, some (listE acc), some (.str c.1), some (.tuple c.2), x4, x5, x6] S = some ((rngD 0 c.2.length, true), S) := i_R (by simp -implicitDefEqProofs [e_var, e_cst, e_glo, e_op, e_neg, e_cmp, e_cmp2, e_bop, e_not, e_ife, e_tup, e_lst, e_sub, e_slc, e_rvs, e_call, e_bi, e_rgl, e_isi, e_meth, e_idx, eb_1, eb_2, et_val, et_not, et_bop, ets_1, ets_2, eo_g, eo_a, ea_n, ea_c, es_asg, es_par, es_aug, es_put, es_ex, es_ret, es_retN, es_ife, ess_n, ess_c, tgv, tgvs, callv, callv.fin, Option.bind_some, Option.map_some, List.getElem?_cons_zero, List.getElem?_cons_succ, List.set_cons_zero, List.set_cons_succ, asRf_rf, ixN, smallI, wipeD]) (by omega)
  have hb := big 4 (by omega)
  have el := e_lcmap (m := false) (elt := .tup (.cons (.cst (.str (Str.ofString "cell"))) (.cons oe (.cons (.var 2) (.cons (.var 6) .nil))))) (t := .nm 6) (own := [6]) (fun x => match x with | .int k => entD (.cell o c.1 k.toNat) | _ => .none) hI (fun x hx => by
    obtain ⟨k, hk, rfl⟩ := mem_rng0 hx
    have h1 := hoe (some (.str c.1)) (some (.tuple c.2)) (some (.int (k : Nat)))
    simp -implicitDefEqProofs [e_var, e_cst, e_glo, e_op, e_neg, e_cmp, e_cmp2, e_bop, e_not, e_ife, e_tup, e_lst, e_sub, e_slc, e_rvs, e_call, e_bi, e_rgl, e_isi, e_meth, e_idx, eb_1, eb_2, et_val, et_not, et_bop, ets_1, ets_2, eo_g, eo_a, ea_n, ea_c, es_asg, es_par, es_aug, es_put, es_ex, es_ret, es_retN, es_ife, ess_n, ess_c, tgv, tgvs, callv, callv.fin, Option.bind_some, Option.map_some, List.getElem?_cons_zero, List.getElem?_cons_succ, List.set_cons_zero, List.set_cons_succ, asRf_rf, ixN, smallI, wipeD, h1, hb, entD])
  have ef : ((rngD 0 c.2.length).map fun x => match x with | .int k => entD (.cell o c.1 k.toNat) | _ => .none) = ((List.range c.2.length).map fun k => Ent.cell o c.1 k).map entD := by
    rw [rng_map, List.map_map]
    refine List.map_congr_left fun k _ => ?_
    simp
  show ((some ([some s, some (listE acc), some (.str c.1), some (.tuple c.2), x4, x5, x6] : DE)).bind fun δ' => evSs (C n) (bCell oe) δ' S) = _
  rw [Option.bind_some, ess_c, es_asg, e_op, e_var]
  show (((((some ((listE acc, S) : D × Sto)).bind _).bind _)).bind _) = _
  rw [Option.bind_some, el, Option.bind_some, mkl_f, ef, addL (by rw [List.length_map, List.length_range]; omega), Option.bind_some]
  show ((some _).bind _) = _
  rw [Option.bind_some]
  exact ess_n
theorem cells_loop (n : Nat) (oe : E) (o : Int) (S : Sto) {s : D} {x4 x5 x6 : Option D} (hoe : ∀ acc y2 y3 y6, evE (C n) oe [some s, some (listE acc), y2, y3, x4, x5, y6] S = some (.int o, S)) : ∀ (cs : Cs) (acc : List Ent) (x2 x3 : Option D), (∀ c ∈ cs, c.2.length ≤ 8) → acc.length + wc cs ≤ 1000 →
    ∃ y2 y3, forv (tCell n oe) (cs.map cellD) [some s, some (listE acc), x2, x3, x4, x5, x6] S = some (.nx, [some s, some (listE (acc ++ rowC o cs)), y2, y3, x4, x5, x6], S)
  | [], acc, x2, x3, _, _ => ⟨x2, x3, by rw [rowC, List.append_nil]; rfl⟩
  | c :: r, acc, x2, x3, h, ha => by
    have hw : wc (c :: r) = c.2.length + wc r := by simp [wc]
    obtain ⟨y2, y3, ih⟩ := cells_loop n oe o S (x6 := x6) hoe r (acc ++ (List.range c.2.length).map fun k => Ent.cell o c.1 k) (some (.str c.1)) (some (.tuple c.2)) (fun d hd => h d (List.mem_cons_of_mem _ hd)) (by rw [List.length_append, List.length_map, List.length_range]; omega)
    refine ⟨y2, y3, ?_⟩
    show ((tCell n oe (cellD c) _ _).bind _) = _
    rw [cell_turn n oe o S (hoe acc) c (h c List.mem_cons_self) (by omega), Option.bind_some]
    show forv (tCell n oe) (r.map cellD) _ _ = _
    rw [ih, rowC, List.append_assoc]
abbrev bField : Ss := .cons (.asg (.nm 1) (.op .add false (.var 1) (.lc false (.tup (.cons (.cst (.str (Str.ofString "field"))) (.cons (.var 4) (.cons (.var 6) (.cons (.var 2) .nil))))) (.nm 2) (.over (.sub (.var 5) (.cst (.int 2)))) .nil [2]))) .nil
abbrev tField (n : Nat) : D → DE → Sto → Option (Fl × DE × Sto) := fun x δ S => (tgv (.nm 6) x δ).bind fun δ' => evSs (C n) bField δ' S
def ffld (o : Int) (k : Nat) (x : D) : D := match x with | .str nm => entD (.field o k nm) | _ => .none
theorem field_turn (n : Nat) (o : Int) (S : Sto) {s : D} {fs : List Str} {kk : Nat} {cs : Cs} {acc : List Ent} {x2 x3 x6 : Option D} (h4 : fs.length ≤ 4) (ha : acc.length ≤ 1000) (k : Nat) :
    tField n (.int (k : Nat)) [some s, some (listE acc), x2, x3, some (.int o), some (hoD (.str fs kk cs)), x6] S = some (.nx, [some s, some (listE (acc ++ fs.map fun nm => Ent.field o k nm)), x2, x3, some (.int o), some (hoD (.str fs kk cs)), some (.int (k : Nat))], S) := by
  have hI : evI (C n) (.over (.sub (.var 5) (.cst (.int 2)))) [some s, some (listE acc), x2, x3, some (.int o), some (hoD (.str fs kk cs)), some (.int (k : Nat))] S = some ((fs.map PyData.str, true), S) := i_T (by simp -implicitDefEqProofs [e_var, e_cst, e_glo, e_op, e_neg, e_cmp, e_cmp2, e_bop, e_not, e_ife, e_tup, e_lst, e_sub, e_slc, e_rvs, e_call, e_bi, e_rgl, e_isi, e_meth, e_idx, eb_1, eb_2, et_val, et_not, et_bop, ets_1, ets_2, eo_g, eo_a, ea_n, ea_c, es_asg, es_par, es_aug, es_put, es_ex, es_ret, es_retN, es_ife, ess_n, ess_c, tgv, tgvs, callv, callv.fin, Option.bind_some, Option.map_some, List.getElem?_cons_zero, List.getElem?_cons_succ, List.set_cons_zero, List.set_cons_succ, asRf_rf, ixN, smallI, wipeD])
  have hb := big 4 (by omega)
  have el := e_lcmap (m := false) (elt := .tup (.cons (.cst (.str (Str.ofString "field"))) (.cons (.var 4) (.cons (.var 6) (.cons (.var 2) .nil))))) (t := .nm 2) (own := [2]) (ffld o k) hI (fun x hx => by
    obtain ⟨nm, _, rfl⟩ := List.mem_map.mp hx
    simp -implicitDefEqProofs [e_var, e_cst, e_glo, e_op, e_neg, e_cmp, e_cmp2, e_bop, e_not, e_ife, e_tup, e_lst, e_sub, e_slc, e_rvs, e_call, e_bi, e_rgl, e_isi, e_meth, e_idx, eb_1, eb_2, et_val, et_not, et_bop, ets_1, ets_2, eo_g, eo_a, ea_n, ea_c, es_asg, es_par, es_aug, es_put, es_ex, es_ret, es_retN, es_ife, ess_n, ess_c, tgv, tgvs, callv, callv.fin, Option.bind_some, Option.map_some, List.getElem?_cons_zero, List.getElem?_cons_succ, List.set_cons_zero, List.set_cons_succ, asRf_rf, ixN, smallI, wipeD, hb, entD, ffld])
  have ef : (fs.map PyData.str).map (ffld o k) = (fs.map fun nm => Ent.field o k nm).map entD := by
    rw [List.map_map, List.map_map]
    rfl
  show ((some ([some s, some (listE acc), x2, x3, some (.int o), some (hoD (.str fs kk cs)), some (.int (k : Nat))] : DE)).bind fun δ' => evSs (C n) bField δ' S) = _
  rw [Option.bind_some, ess_c, es_asg, e_op, e_var]
  show (((((some ((listE acc, S) : D × Sto)).bind _).bind _)).bind _) = _
  rw [Option.bind_some, el, Option.bind_some, mkl_f, ef, addL (by rw [List.length_map]; omega), Option.bind_some]
  show ((some _).bind _) = _
  rw [Option.bind_some]
  exact ess_n
theorem fields_loop (n : Nat) (o : Int) (S : Sto) {s : D} {fs : List Str} {kk : Nat} {cs : Cs} {acc : List Ent} {x2 x3 x6 : Option D} (h4 : fs.length ≤ 4) {m : Nat} (hm : m ≤ 8) (ha : acc.length ≤ 900) :
    ∃ y6, forv (tField n) (rngD 0 m) [some s, some (listE acc), x2, x3, some (.int o), some (hoD (.str fs kk cs)), x6] S = some (.nx, [some s, some (listE (acc ++ rowF o fs m)), x2, x3, some (.int o), some (hoD (.str fs kk cs)), y6], S) := by
  obtain ⟨δ', S', e, y6, rfl, rfl⟩ := forv_nx (turn := tField n) (fun i δ S' => ∃ y6, δ = [some s, some (listE (acc ++ rowF o fs i)), x2, x3, some (.int o), some (hoD (.str fs kk cs)), y6] ∧ S' = S) (xs := rngD 0 m) 0 (fun i x δ S1 hx hp => by
    obtain ⟨y6, rfl, rfl⟩ := hp
    obtain ⟨rfl, hi⟩ := rngD_get hx
    rw [Int.zero_add, Nat.zero_add]
    have hl : i * fs.length ≤ 8 * 4 := Nat.mul_le_mul (by omega) h4
    refine ⟨.nx, _, _, field_turn n o S1 h4 (by rw [List.length_append, rowF_len]; omega) i, .inl rfl, some (.int (i : Nat)), ?_, rfl⟩
    rw [rowF, List.append_assoc]) ⟨x6, by rw [rowF, List.append_nil], rfl⟩
  rw [rngD_len, Nat.zero_add] at e
  exact ⟨y6, e⟩
abbrev bObj : Ss := .cons (.asg (.nm 5) (.sub (.sub (.var 0) (.cst (.int 1))) (.var 4))) (.cons (.ife (.val (.cmp .Eq (.sub (.var 5) (.cst (.int 0))) (.cst (.str (Str.ofString "structure"))))) (.cons (.loop (.tup (.cons (.nm 2) (.cons (.nm 3) .nil))) (.over (.sub (.var 5) (.cst (.int 6)))) (bCell (.var 4)))
    (.cons (.loop (.nm 6) (.rng (.cons (.sub (.var 5) (.cst (.int 3))) .nil)) bField) .nil)) .nil) .nil)
abbrev tObj (n : Nat) : D → DE → Sto → Option (Fl × DE × Sto) := fun x δ S => (tgv (.nm 4) x δ).bind fun δ' => evSs (C n) bObj δ' S
theorem obj_turn (n : Nat) (S : Sto) {G : Cs} {hs : List Ho} {i : Nat} {h : Ho} (e : hs[i]? = some h) (ok : HoOk h) {acc : List Ent} (ha : acc.length ≤ 800) {x2 x3 x4 x5 x6 : Option D} :
    ∃ y2 y3 y5 y6, tObj n (.int (i : Nat)) [some (srcD G hs), some (listE acc), x2, x3, x4, x5, x6] S = some (.nx, [some (srcD G hs), some (listE (acc ++ rowH (i : Nat) h)), y2, y3, some (.int (i : Nat)), y5, y6], S) := by
  have s1 : evS (C n) (.asg (.nm 5) (.sub (.sub (.var 0) (.cst (.int 1))) (.var 4))) [some (srcD G hs), some (listE acc), x2, x3, some (.int (i : Nat)), x5, x6] S = some (.nx, [some (srcD G hs), some (listE acc), x2, x3, some (.int (i : Nat)), some (hoD h), x6], S) := by
    simp -implicitDefEqProofs [e_var, e_cst, e_glo, e_op, e_neg, e_cmp, e_cmp2, e_bop, e_not, e_ife, e_tup, e_lst, e_sub, e_slc, e_rvs, e_call, e_bi, e_rgl, e_isi, e_meth, e_idx, eb_1, eb_2, et_val, et_not, et_bop, ets_1, ets_2, eo_g, eo_a, ea_n, ea_c, es_asg, es_par, es_aug, es_put, es_ex, es_ret, es_retN, es_ife, ess_n, ess_c, tgv, tgvs, callv, callv.fin, Option.bind_some, Option.map_some, List.getElem?_cons_zero, List.getElem?_cons_succ, List.set_cons_zero, List.set_cons_succ, asRf_rf, ixN, smallI, wipeD, hx e]
  have hd : tObj n (.int (i : Nat)) [some (srcD G hs), some (listE acc), x2, x3, x4, x5, x6] S = evSs (C n) bObj [some (srcD G hs), some (listE acc), x2, x3, some (.int (i : Nat)), x5, x6] S := rfl
  cases h with
  | pair =>
    refine ⟨x2, x3, some (hoD .pair), x6, ?_⟩
    rw [hd, rowH, List.append_nil, ess_c, s1, Option.bind_some]
    show evSs (C n) _ [some (srcD G hs), some (listE acc), x2, x3, some (.int (i : Nat)), some (hoD .pair), x6] S = _
    simp -implicitDefEqProofs [e_var, e_cst, e_glo, e_op, e_neg, e_cmp, e_cmp2, e_bop, e_not, e_ife, e_tup, e_lst, e_sub, e_slc, e_rvs, e_call, e_bi, e_rgl, e_isi, e_meth, e_idx, eb_1, eb_2, et_val, et_not, et_bop, ets_1, ets_2, eo_g, eo_a, ea_n, ea_c, es_asg, es_par, es_aug, es_put, es_ex, es_ret, es_retN, es_ife, ess_n, ess_c, tgv, tgvs, callv, callv.fin, Option.bind_some, Option.map_some, List.getElem?_cons_zero, List.getElem?_cons_succ, List.set_cons_zero, List.set_cons_succ, asRf_rf, ixN, smallI, wipeD, hoD]
  | str fs k cs =>
    have w24 := wc24 ok.2.2.2.2.1
    obtain ⟨y2, y3, l1⟩ := cells_loop n (.var 4) (i : Nat) S (s := srcD G hs) (x4 := some (.int (i : Nat))) (x5 := some (hoD (.str fs k cs))) (x6 := x6) (fun acc y2 y3 y6 => by simp -implicitDefEqProofs [e_var, e_cst, e_glo, e_op, e_neg, e_cmp, e_cmp2, e_bop, e_not, e_ife, e_tup, e_lst, e_sub, e_slc, e_rvs, e_call, e_bi, e_rgl, e_isi, e_meth, e_idx, eb_1, eb_2, et_val, et_not, et_bop, ets_1, ets_2, eo_g, eo_a, ea_n, ea_c, es_asg, es_par, es_aug, es_put, es_ex, es_ret, es_retN, es_ife, ess_n, ess_c, tgv, tgvs, callv, callv.fin, Option.bind_some, Option.map_some, List.getElem?_cons_zero, List.getElem?_cons_succ, List.set_cons_zero, List.set_cons_succ, asRf_rf, ixN, smallI, wipeD]) cs acc x2 x3 (fun c hc => (ok.2.2.2.2.1.ne c hc).2) (by omega)
    obtain ⟨y6, l2⟩ := fields_loop n (i : Nat) S (s := srcD G hs) (fs := fs) (kk := k) (cs := cs) (acc := acc ++ rowC (i : Nat) cs) (x2 := y2) (x3 := y3) (x6 := x6) ok.2.1 (m := k) ok.2.2.1 (by rw [List.length_append, rowC_len]; omega)
    have hI1 : evI (C n) (.over (.sub (.var 5) (.cst (.int 6)))) [some (srcD G hs), some (listE acc), x2, x3, some (.int (i : Nat)), some (hoD (.str fs k cs)), x6] S = some ((cs.map cellD, true), S) := i_T (by simp -implicitDefEqProofs [e_var, e_cst, e_glo, e_op, e_neg, e_cmp, e_cmp2, e_bop, e_not, e_ife, e_tup, e_lst, e_sub, e_slc, e_rvs, e_call, e_bi, e_rgl, e_isi, e_meth, e_idx, eb_1, eb_2, et_val, et_not, et_bop, ets_1, ets_2, eo_g, eo_a, ea_n, ea_c, es_asg, es_par, es_aug, es_put, es_ex, es_ret, es_retN, es_ife, ess_n, ess_c, tgv, tgvs, callv, callv.fin, Option.bind_some, Option.map_some, List.getElem?_cons_zero, List.getElem?_cons_succ, List.set_cons_zero, List.set_cons_succ, asRf_rf, ixN, smallI, wipeD, cellsD])
    have hI2 : evI (C n) (.rng (.cons (.sub (.var 5) (.cst (.int 3))) .nil)) [some (srcD G hs), some (listE (acc ++ rowC (i : Nat) cs)), y2, y3, some (.int (i : Nat)), some (hoD (.str fs k cs)), x6] S = some ((rngD 0 k, true), S) := i_R (by simp -implicitDefEqProofs [e_var, e_cst, e_glo, e_op, e_neg, e_cmp, e_cmp2, e_bop, e_not, e_ife, e_tup, e_lst, e_sub, e_slc, e_rvs, e_call, e_bi, e_rgl, e_isi, e_meth, e_idx, eb_1, eb_2, et_val, et_not, et_bop, ets_1, ets_2, eo_g, eo_a, ea_n, ea_c, es_asg, es_par, es_aug, es_put, es_ex, es_ret, es_retN, es_ife, ess_n, ess_c, tgv, tgvs, callv, callv.fin, Option.bind_some, Option.map_some, List.getElem?_cons_zero, List.getElem?_cons_succ, List.set_cons_zero, List.set_cons_succ, asRf_rf, ixN, smallI, wipeD]) (by have := ok.2.2.1; omega)
    have tt : evT (C n) (.val (.cmp .Eq (.sub (.var 5) (.cst (.int 0))) (.cst (.str (Str.ofString "structure"))))) [some (srcD G hs), some (listE acc), x2, x3, some (.int (i : Nat)), some (hoD (.str fs k cs)), x6] S = some (true, S) := by
      simp -implicitDefEqProofs [e_var, e_cst, e_glo, e_op, e_neg, e_cmp, e_cmp2, e_bop, e_not, e_ife, e_tup, e_lst, e_sub, e_slc, e_rvs, e_call, e_bi, e_rgl, e_isi, e_meth, e_idx, eb_1, eb_2, et_val, et_not, et_bop, ets_1, ets_2, eo_g, eo_a, ea_n, ea_c, es_asg, es_par, es_aug, es_put, es_ex, es_ret, es_retN, es_ife, ess_n, ess_c, tgv, tgvs, callv, callv.fin, Option.bind_some, Option.map_some, List.getElem?_cons_zero, List.getElem?_cons_succ, List.set_cons_zero, List.set_cons_succ, asRf_rf, ixN, smallI, wipeD, hoD]
    refine ⟨y2, y3, some (hoD (.str fs k cs)), y6, ?_⟩
    rw [hd, ess_c, s1, Option.bind_some]
    show evSs (C n) _ [some (srcD G hs), some (listE acc), x2, x3, some (.int (i : Nat)), some (hoD (.str fs k cs)), x6] S = _
    rw [ess_c, es_ife, tt, Option.bind_some, if_pos rfl, ess_c, es_loop, hI1, Option.bind_some]
    show (((forv (tCell n (.var 4)) (cs.map cellD) _ S).bind _).bind _) = _
    rw [l1, Option.bind_some]
    show ((evSs (C n) _ [some (srcD G hs), some (listE (acc ++ rowC (i : Nat) cs)), y2, y3, some (.int (i : Nat)), some (hoD (.str fs k cs)), x6] S).bind _) = _
    rw [ess_c, es_loop, hI2, Option.bind_some]
    show (((forv (tField n) (rngD 0 k) _ S).bind _).bind _) = _
    rw [l2, Option.bind_some]
    show ((evSs (C n) .nil _ S).bind _) = _
    rw [ess_n, Option.bind_some]
    show evSs (C n) .nil _ S = _
    rw [ess_n, rowH, List.append_assoc]
theorem all_cells (n : Nat) (S : Sto) {G : Cs} {hs : List Ho} (ok : SrcOk G hs) (hl : hs.length ≤ 10) : fnN T 100 (n + 1) 23 [srcD G hs] S = some (listE (rowAll G hs), S) := by
  have e0 : fnN T 100 (n + 1) 23 [srcD G hs] S = callv (C n) f__law_all_cells [srcD G hs] S := rfl
  rw [e0]
  have w24 := wc24 ok.g
  have s1 : evS (C n) (.asg (.nm 1) (.lst false .nil)) [some (srcD G hs), none, none, none, none, none, none] S = some (.nx, [some (srcD G hs), some (listE []), none, none, none, none, none], S) := by
    simp -implicitDefEqProofs [e_var, e_cst, e_glo, e_op, e_neg, e_cmp, e_cmp2, e_bop, e_not, e_ife, e_tup, e_lst, e_sub, e_slc, e_rvs, e_call, e_bi, e_rgl, e_isi, e_meth, e_idx, eb_1, eb_2, et_val, et_not, et_bop, ets_1, ets_2, eo_g, eo_a, ea_n, ea_c, es_asg, es_par, es_aug, es_put, es_ex, es_ret, es_retN, es_ife, ess_n, ess_c, tgv, tgvs, callv, callv.fin, Option.bind_some, Option.map_some, List.getElem?_cons_zero, List.getElem?_cons_succ, List.set_cons_zero, List.set_cons_succ, asRf_rf, ixN, smallI, wipeD]
  obtain ⟨y2, y3, l1⟩ := cells_loop n (.neg (.cst (.int 1))) (-1) S (s := srcD G hs) (x4 := none) (x5 := none) (x6 := none) (fun acc y2 y3 y6 => by simp -implicitDefEqProofs [e_var, e_cst, e_glo, e_op, e_neg, e_cmp, e_cmp2, e_bop, e_not, e_ife, e_tup, e_lst, e_sub, e_slc, e_rvs, e_call, e_bi, e_rgl, e_isi, e_meth, e_idx, eb_1, eb_2, et_val, et_not, et_bop, ets_1, ets_2, eo_g, eo_a, ea_n, ea_c, es_asg, es_par, es_aug, es_put, es_ex, es_ret, es_retN, es_ife, ess_n, ess_c, tgv, tgvs, callv, callv.fin, Option.bind_some, Option.map_some, List.getElem?_cons_zero, List.getElem?_cons_succ, List.set_cons_zero, List.set_cons_succ, asRf_rf, ixN, smallI, wipeD]) G [] none none (fun c hc => (ok.g.ne c hc).2) (by simp; omega)
  rw [List.nil_append] at l1
  have hI1 : evI (C n) (.over (.sub (.var 0) (.cst (.int 0)))) [some (srcD G hs), some (listE []), none, none, none, none, none] S = some ((G.map cellD, true), S) := i_T (by simp -implicitDefEqProofs [e_var, e_cst, e_glo, e_op, e_neg, e_cmp, e_cmp2, e_bop, e_not, e_ife, e_tup, e_lst, e_sub, e_slc, e_rvs, e_call, e_bi, e_rgl, e_isi, e_meth, e_idx, eb_1, eb_2, et_val, et_not, et_bop, ets_1, ets_2, eo_g, eo_a, ea_n, ea_c, es_asg, es_par, es_aug, es_put, es_ex, es_ret, es_retN, es_ife, ess_n, ess_c, tgv, tgvs, callv, callv.fin, Option.bind_some, Option.map_some, List.getElem?_cons_zero, List.getElem?_cons_succ, List.set_cons_zero, List.set_cons_succ, asRf_rf, ixN, smallI, wipeD, cellsD])
  have hI2 : evI (C n) (.rng (.cons (.bi .len false (.cons (.sub (.var 0) (.cst (.int 1))) .nil)) .nil)) [some (srcD G hs), some (listE (rowC (-1) G)), y2, y3, none, none, none] S = some ((rngD 0 hs.length, true), S) := i_R (by simp -implicitDefEqProofs [e_var, e_cst, e_glo, e_op, e_neg, e_cmp, e_cmp2, e_bop, e_not, e_ife, e_tup, e_lst, e_sub, e_slc, e_rvs, e_call, e_bi, e_rgl, e_isi, e_meth, e_idx, eb_1, eb_2, et_val, et_not, et_bop, ets_1, ets_2, eo_g, eo_a, ea_n, ea_c, es_asg, es_par, es_aug, es_put, es_ex, es_ret, es_retN, es_ife, ess_n, ess_c, tgv, tgvs, callv, callv.fin, Option.bind_some, Option.map_some, List.getElem?_cons_zero, List.getElem?_cons_succ, List.set_cons_zero, List.set_cons_succ, asRf_rf, ixN, smallI, wipeD]) (by omega)
  obtain ⟨δ', S', l2, z2, z3, z4, z5, z6, rfl, rfl⟩ := forv_nx (turn := tObj n) (fun i δ S' => ∃ x2 x3 x4 x5 x6, δ = [some (srcD G hs), some (listE (rowC (-1) G ++ rowHs 0 (hs.take i))), x2, x3, x4, x5, x6] ∧ S' = S) (xs := rngD 0 hs.length) 0 (fun i x δ S1 hx hp => by
    obtain ⟨x2, x3, x4, x5, x6, rfl, rfl⟩ := hp
    obtain ⟨rfl, hi⟩ := rngD_get hx
    have e := List.getElem?_eq_getElem hi
    have p := pre_le ok.h i
    obtain ⟨y2, y3, y5, y6, t⟩ := obj_turn n S1 (G := G) e (ok.h _ (List.getElem_mem hi)) (acc := rowC (-1) G ++ rowHs 0 (hs.take (0 + i))) (x2 := x2) (x3 := x3) (x4 := x4) (x5 := x5) (x6 := x6) (by
      rw [List.length_append, rowC_len, rowHs_len, Nat.zero_add]
      show wc G + pre hs i ≤ 800
      omega)
    rw [Int.zero_add]
    refine ⟨.nx, _, _, t, .inl rfl, y2, y3, some (.int (i : Nat)), y5, y6, ?_, rfl⟩
    rw [Nat.zero_add, List.take_add_one, e, Option.toList_some, rowHs_snoc, List.length_take, Nat.min_eq_left (Nat.le_of_lt hi), Int.zero_add, List.append_assoc]) (δ := [some (srcD G hs), some (listE (rowC (-1) G)), y2, y3, none, none, none]) (S := S) ⟨y2, y3, none, none, none, by simp [rowHs], rfl⟩
  rw [rngD_len, Nat.zero_add, List.take_length] at l2
  refine callv_rt rfl rfl (δ' := [some (srcD G hs), some (listE (rowAll G hs)), z2, z3, z4, z5, z6]) ?_
  show evSs (C n) f__law_all_cells.body [some (srcD G hs), none, none, none, none, none, none] S' = _
  unfold f__law_all_cells
  rw [ess_c, s1, Option.bind_some]
  show evSs (C n) _ [some (srcD G hs), some (listE []), none, none, none, none, none] S' = _
  rw [ess_c, es_loop, hI1, Option.bind_some]
  show ((forv (tCell n (.neg (.cst (.int 1)))) (G.map cellD) _ S').bind _) = _
  rw [l1, Option.bind_some]
  show evSs (C n) _ [some (srcD G hs), some (listE (rowC (-1) G)), y2, y3, none, none, none] S' = _
  rw [ess_c, es_loop, hI2, Option.bind_some]
  show ((forv (tObj n) (rngD 0 hs.length) _ S').bind _) = _
  rw [l2, Option.bind_some]
  show evSs (C n) _ [some (srcD G hs), some (listE (rowAll G hs)), z2, z3, z4, z5, z6] S' = _
  simp -implicitDefEqProofs [e_var, e_cst, e_glo, e_op, e_neg, e_cmp, e_cmp2, e_bop, e_not, e_ife, e_tup, e_lst, e_sub, e_slc, e_rvs, e_call, e_bi, e_rgl, e_isi, e_meth, e_idx, eb_1, eb_2, et_val, et_not, et_bop, ets_1, ets_2, eo_g, eo_a, ea_n, ea_c, es_asg, es_par, es_aug, es_put, es_ex, es_ret, es_retN, es_ife, ess_n, ess_c, tgv, tgvs, callv, callv.fin, Option.bind_some, Option.map_some, List.getElem?_cons_zero, List.getElem?_cons_succ, List.set_cons_zero, List.set_cons_succ, asRf_rf, ixN, smallI, wipeD]
end K00

namespace K00
open PySem PySem.Spec
open PyProof.Rows L2 Ev
/-! ### bases, the law's way -/
def ownE : Ent → Int
  | .cell o _ _ => o
  | .field o _ _ => o
def below' (k : Int) (e : Ent) : Bool := decide (ownE e < k)
theorem filter_const {α : Type} {p : α → Bool} : ∀ {l : List α} {b : Bool}, (∀ x ∈ l, p x = b) → (l.filter p).length = if b then l.length else 0
  | [], b, _ => by cases b <;> rfl
  | x :: r, b, h => by
    have ih := filter_const (l := r) (b := b) fun y hy => h y (List.mem_cons_of_mem _ hy)
    have hx := h x List.mem_cons_self
    cases b with
    | true => rw [List.filter_cons_of_pos hx, List.length_cons, ih]; rfl
    | false => rw [List.filter_cons_of_neg (by rw [hx]; exact Bool.false_ne_true), ih]; rfl
theorem rowF_mem {o : Int} {fs : List Str} {e : Ent} : ∀ {n : Nat}, e ∈ rowF o fs n → ∃ k nm, e = .field o k nm ∧ nm ∈ fs ∧ k < n
  | 0, h => by cases h
  | n + 1, h => by
    unfold rowF at h
    rcases List.mem_append.mp h with h | h
    · obtain ⟨k, nm, e, q, hk⟩ := rowF_mem h
      exact ⟨k, nm, e, q, by omega⟩
    · obtain ⟨nm, q, rfl⟩ := List.mem_map.mp h
      exact ⟨n, nm, rfl, q, by omega⟩
theorem rowF_has {o : Int} {fs : List Str} {nm : Str} (h : nm ∈ fs) : ∀ {n k : Nat}, k < n → Ent.field o k nm ∈ rowF o fs n
  | 0, k, hk => absurd hk (Nat.not_lt_zero _)
  | n + 1, k, hk => by
    unfold rowF
    by_cases e : k = n
    · subst e
      exact List.mem_append_right _ (List.mem_map.mpr ⟨nm, h, rfl⟩)
    · exact List.mem_append_left _ (rowF_has h (by omega))
theorem own_rowC {o : Int} {cs : Cs} {e : Ent} (h : e ∈ rowC o cs) : ownE e = o := by
  obtain ⟨nm, k, rfl, _⟩ := rowC_mem h
  rfl
theorem own_rowH {o : Int} {h : Ho} {e : Ent} (he : e ∈ rowH o h) : ownE e = o := by
  rw [rowH_eq] at he
  rcases List.mem_append.mp he with he | he
  · exact own_rowC he
  · obtain ⟨k, nm, rfl, _⟩ := rowF_mem he
    rfl
theorem cnt_rowHs {k : Nat} : ∀ {hs : List Ho} {b : Nat}, ((rowHs (b : Nat) hs).filter (below' (k : Nat))).length = pre hs (k - b)
  | [], b => by simp [rowHs, pre]
  | h :: r, b => by
    have ih := cnt_rowHs (k := k) (hs := r) (b := b + 1)
    have e1 : ∀ x ∈ rowH ((b : Nat) : Int) h, below' (k : Nat) x = decide (b < k) := fun x hx => by
      unfold below'
      rw [own_rowH hx]
      simp
    rw [rowHs, List.filter_append, List.length_append, filter_const e1, rowH_len]
    rw [show ((b + 1 : Nat) : Int) = (b : Int) + 1 by omega] at ih
    rw [ih]
    by_cases hb : b < k
    · obtain ⟨j, hj⟩ : ∃ j, k - b = j + 1 := ⟨k - b - 1, by omega⟩
      have : pre (h :: r) (j + 1) = szH h + pre r j := by simp [pre]
      rw [hj, this, show k - (b + 1) = j by omega, decide_eq_true hb]
      rfl
    · rw [show k - b = 0 by omega, show k - (b + 1) = 0 by omega, decide_eq_false hb]
      simp [pre]
theorem cnt_all {G : Cs} {hs : List Ho} (k : Nat) : ((rowAll G hs).filter (below' (k : Nat))).length = wc G + pre hs k := by
  have e1 : ∀ x ∈ rowC (-1) G, below' (k : Nat) x = true := fun x hx => by
    unfold below'
    rw [own_rowC hx]
    exact decide_eq_true (by omega)
  have e2 := cnt_rowHs (k := k) (hs := hs) (b := 0)
  rw [rowAll, List.filter_append, List.length_append, filter_const e1, if_pos rfl, rowC_len]
  rw [show ((0 : Nat) : Int) = 0 from rfl] at e2
  rw [e2, Nat.sub_zero]
theorem bases_map (b : Nat) (hs : List Ho) : basesFrom b hs = (List.range hs.length).map fun k => b + pre hs k := by
  refine List.ext_getElem? fun i => ?_
  have hl : ∀ (hs : List Ho) (b : Nat), (basesFrom b hs).length = hs.length := fun hs => by
    induction hs with
    | nil => intro b; rfl
    | cons h r ih => intro b; rw [basesFrom, List.length_cons, ih, List.length_cons]
  by_cases hi : i < hs.length
  · rw [bases_get (List.getElem?_eq_getElem hi)]
    simp [hi]
  · rw [List.getElem?_eq_none (by rw [hl]; omega), List.getElem?_eq_none (by simp; omega)]
def ownD (x : D) : D := match x with | .tuple [_, o, _, _] => o | _ => .none
theorem own_ent (e : Ent) : ownD (entD e) = .int (ownE e) := by cases e <;> rfl
def ltD (k : Int) (x : D) : Bool := match x with | .int o => decide (o < k) | _ => false
theorem rowAll_len {G : Cs} {hs : List Ho} (ok : SrcOk G hs) (hl : hs.length ≤ 10) : (rowAll G hs).length ≤ 1000 := by
  rw [rowAll, List.length_append, rowC_len, rowHs_len]
  have h1 := wc24 ok.g
  have h2 := pre_le ok.h hs.length
  unfold pre at h2
  rw [List.take_length] at h2
  omega
theorem law_bases (n : Nat) (S : Sto) {G : Cs} {hs : List Ho} (ok : SrcOk G hs) (hl : hs.length ≤ 10) : fnN T 100 (n + 2) 27 [srcD G hs] S = some (basesD G hs, S) := by
  have e0 : fnN T 100 (n + 2) 27 [srcD G hs] S = callv (C (n + 1)) f__law_bases [srcD G hs] S := rfl
  rw [e0]
  have ac := all_cells n S ok hl
  have hlen := rowAll_len ok hl
  have hI : evI (C (n + 1)) (.over (.call 23 (.cons (.var 0) .nil))) [some (srcD G hs), none, none, none, none] S = some (((rowAll G hs).map entD, true), S) := i_L (by simp -implicitDefEqProofs [e_var, e_cst, e_glo, e_op, e_neg, e_cmp, e_cmp2, e_bop, e_not, e_ife, e_tup, e_lst, e_sub, e_slc, e_rvs, e_call, e_bi, e_rgl, e_isi, e_meth, e_idx, eb_1, eb_2, et_val, et_not, et_bop, ets_1, ets_2, eo_g, eo_a, ea_n, ea_c, es_asg, es_par, es_aug, es_put, es_ex, es_ret, es_retN, es_ife, ess_n, ess_c, tgv, tgvs, callv, callv.fin, Option.bind_some, Option.map_some, List.getElem?_cons_zero, List.getElem?_cons_succ, List.set_cons_zero, List.set_cons_succ, asRf_rf, ixN, smallI, wipeD, C_fn, ac])
  have el := e_lcmap (m := false) (elt := .sub (.var 2) (.cst (.int 1))) (t := .nm 2) (own := [2]) ownD hI (fun x hx => by
    obtain ⟨e, _, rfl⟩ := List.mem_map.mp hx
    cases e <;> simp -implicitDefEqProofs [e_var, e_cst, e_glo, e_op, e_neg, e_cmp, e_cmp2, e_bop, e_not, e_ife, e_tup, e_lst, e_sub, e_slc, e_rvs, e_call, e_bi, e_rgl, e_isi, e_meth, e_idx, eb_1, eb_2, et_val, et_not, et_bop, ets_1, ets_2, eo_g, eo_a, ea_n, ea_c, es_asg, es_par, es_aug, es_put, es_ex, es_ret, es_retN, es_ife, ess_n, ess_c, tgv, tgvs, callv, callv.fin, Option.bind_some, Option.map_some, List.getElem?_cons_zero, List.getElem?_cons_succ, List.set_cons_zero, List.set_cons_succ, asRf_rf, ixN, smallI, wipeD, entD, ownD])
  have ef : ((rowAll G hs).map entD).map ownD = (rowAll G hs).map fun e => PyData.int (ownE e) := by
    rw [List.map_map]
    exact List.map_congr_left fun e _ => own_ent e
  rw [ef] at el
  have s1 : evS (C (n + 1)) (.asg (.nm 1) (.lc false (.sub (.var 2) (.cst (.int 1))) (.nm 2) (.over (.call 23 (.cons (.var 0) .nil))) .nil [2])) [some (srcD G hs), none, none, none, none] S = some (.nx, [some (srcD G hs), some (.list ((rowAll G hs).map fun e => PyData.int (ownE e))), none, none, none], S) := by
    rw [es_asg, el]
    rfl
  have hI2 : evI (C (n + 1)) (.rng (.cons (.bi .len false (.cons (.sub (.var 0) (.cst (.int 1))) .nil)) .nil)) [some (srcD G hs), some (.list ((rowAll G hs).map fun e => PyData.int (ownE e))), none, none, none] S = some ((rngD 0 hs.length, true), S) := i_R (by simp -implicitDefEqProofs [e_var, e_cst, e_glo, e_op, e_neg, e_cmp, e_cmp2, e_bop, e_not, e_ife, e_tup, e_lst, e_sub, e_slc, e_rvs, e_call, e_bi, e_rgl, e_isi, e_meth, e_idx, eb_1, eb_2, et_val, et_not, et_bop, ets_1, ets_2, eo_g, eo_a, ea_n, ea_c, es_asg, es_par, es_aug, es_put, es_ex, es_ret, es_retN, es_ife, ess_n, ess_c, tgv, tgvs, callv, callv.fin, Option.bind_some, Option.map_some, List.getElem?_cons_zero, List.getElem?_cons_succ, List.set_cons_zero, List.set_cons_succ, asRf_rf, ixN, smallI, wipeD]) (by omega)
  have el2 := e_lcmap (m := false) (elt := .bi .len false (.cons (.lc false (.var 4) (.nm 4) (.over (.var 1)) (.cons (.val (.cmp .Lt (.var 4) (.var 3))) .nil) [4]) .nil)) (t := .nm 3) (own := [3]) (fun x => match x with | .int k => .int ((wc G + pre hs k.toNat : Nat) : Int) | _ => .none) hI2 (fun x hx => by
    obtain ⟨k, hk, rfl⟩ := mem_rng0 hx
    have hI3 : evI (C (n + 1)) (.over (.var 1)) [some (srcD G hs), some (.list ((rowAll G hs).map fun e => PyData.int (ownE e))), none, some (.int (k : Nat)), none] S = some (((rowAll G hs).map fun e => PyData.int (ownE e), true), S) := i_L (by simp -implicitDefEqProofs [e_var, e_cst, e_glo, e_op, e_neg, e_cmp, e_cmp2, e_bop, e_not, e_ife, e_tup, e_lst, e_sub, e_slc, e_rvs, e_call, e_bi, e_rgl, e_isi, e_meth, e_idx, eb_1, eb_2, et_val, et_not, et_bop, ets_1, ets_2, eo_g, eo_a, ea_n, ea_c, es_asg, es_par, es_aug, es_put, es_ex, es_ret, es_retN, es_ife, ess_n, ess_c, tgv, tgvs, callv, callv.fin, Option.bind_some, Option.map_some, List.getElem?_cons_zero, List.getElem?_cons_succ, List.set_cons_zero, List.set_cons_succ, asRf_rf, ixN, smallI, wipeD])
    have el3 := e_lcflt (m := false) (elt := .var 4) (t := .nm 4) (own := [4]) (ltD (k : Nat)) id (tt := .val (.cmp .Lt (.var 4) (.var 3))) hI3 (fun x hx => by
      obtain ⟨e, _, rfl⟩ := List.mem_map.mp hx
      refine ⟨[some (srcD G hs), some (.list ((rowAll G hs).map fun e => PyData.int (ownE e))), none, some (.int (k : Nat)), some (.int (ownE e))], rfl, ?_, fun _ => ?_⟩
      · simp -implicitDefEqProofs [e_var, e_cst, e_glo, e_op, e_neg, e_cmp, e_cmp2, e_bop, e_not, e_ife, e_tup, e_lst, e_sub, e_slc, e_rvs, e_call, e_bi, e_rgl, e_isi, e_meth, e_idx, eb_1, eb_2, et_val, et_not, et_bop, ets_1, ets_2, eo_g, eo_a, ea_n, ea_c, es_asg, es_par, es_aug, es_put, es_ex, es_ret, es_retN, es_ife, ess_n, ess_c, tgv, tgvs, callv, callv.fin, Option.bind_some, Option.map_some, List.getElem?_cons_zero, List.getElem?_cons_succ, List.set_cons_zero, List.set_cons_succ, asRf_rf, ixN, smallI, wipeD, ltD]
      · simp -implicitDefEqProofs [e_var, e_cst, e_glo, e_op, e_neg, e_cmp, e_cmp2, e_bop, e_not, e_ife, e_tup, e_lst, e_sub, e_slc, e_rvs, e_call, e_bi, e_rgl, e_isi, e_meth, e_idx, eb_1, eb_2, et_val, et_not, et_bop, ets_1, ets_2, eo_g, eo_a, ea_n, ea_c, es_asg, es_par, es_aug, es_put, es_ex, es_ret, es_retN, es_ife, ess_n, ess_c, tgv, tgvs, callv, callv.fin, Option.bind_some, Option.map_some, List.getElem?_cons_zero, List.getElem?_cons_succ, List.set_cons_zero, List.set_cons_succ, asRf_rf, ixN, smallI, wipeD])
    have ec : (((rowAll G hs).map fun e => PyData.int (ownE e)).filter (ltD (k : Nat))).length = wc G + pre hs k := by
      rw [List.filter_map, List.length_map]
      exact cnt_all k
    rw [List.map_id] at el3
    show evE (C (n + 1)) _ [some (srcD G hs), some (.list ((rowAll G hs).map fun e => PyData.int (ownE e))), none, some (.int (k : Nat)), none] S = _
    rw [e_bi, ea_c, el3, Option.bind_some, ea_n, Option.map_some, Option.bind_some, mkl_f, l_L, ec]
    simp)
  have ef2 : ((rngD 0 hs.length).map fun x => match x with | .int k => PyData.int ((wc G + pre hs k.toNat : Nat) : Int) | _ => .none) = natsD (basesFrom (wc G) hs) := by
    rw [rng_map, bases_map, natsD, List.map_map]
    refine List.map_congr_left fun k _ => ?_
    simp
  rw [ef2] at el2
  refine callv_rt rfl rfl (δ' := [some (srcD G hs), some (.list ((rowAll G hs).map fun e => PyData.int (ownE e))), none, none, none]) ?_
  show evSs (C (n + 1)) f__law_bases.body [some (srcD G hs), none, none, none, none] S = _
  unfold f__law_bases
  rw [ess_c, s1, Option.bind_some]
  show evSs (C (n + 1)) _ [some (srcD G hs), some (.list ((rowAll G hs).map fun e => PyData.int (ownE e))), none, none, none] S = _
  rw [ess_c, es_ret, e_bi, ea_c, el2, Option.bind_some, ea_n, Option.map_some, Option.bind_some, mkl_f, b_tupL]
  rfl
/-! ### the same -/
def fl : Nat → D → Bool
  | _, .none => true
  | _, .int _ => true
  | _, .str _ => true
  | m + 1, .tuple xs => decide (xs.length ≤ 1000) && xs.all (fl m)
  | _, _ => false
abbrev bSame : Ss := .cons (.ife (.not (.val (.call 20 (.cons (.sub (.var 0) (.var 2)) (.cons (.sub (.var 1) (.var 2)) .nil))))) (.cons (.ret (.cst (.bool false))) .nil) .nil) .nil
theorem same (S : Sto) : ∀ (m : Nat) (x : D), fl m x = true → ∀ n, fnN T 100 (n + m + 1) 20 [x, x] S = some (.bool true, S) := by
  intro m
  induction m with
  | zero =>
    intro x h n
    have e0 : fnN T 100 (n + 0 + 1) 20 [x, x] S = callv (C n) f__law_same [x, x] S := rfl
    rw [e0]
    refine callv_rt rfl rfl (δ' := [some x, some x, none]) ?_
    show evSs (C n) f__law_same.body [some x, some x, none] S = _
    unfold f__law_same
    cases x with
    | none => simp -implicitDefEqProofs [e_var, e_cst, e_glo, e_op, e_neg, e_cmp, e_cmp2, e_bop, e_not, e_ife, e_tup, e_lst, e_sub, e_slc, e_rvs, e_call, e_bi, e_rgl, e_isi, e_meth, e_idx, eb_1, eb_2, et_val, et_not, et_bop, ets_1, ets_2, eo_g, eo_a, ea_n, ea_c, es_asg, es_par, es_aug, es_put, es_ex, es_ret, es_retN, es_ife, ess_n, ess_c, tgv, tgvs, callv, callv.fin, Option.bind_some, Option.map_some, List.getElem?_cons_zero, List.getElem?_cons_succ, List.set_cons_zero, List.set_cons_succ, asRf_rf, ixN, smallI, wipeD, isv]
    | int i => simp -implicitDefEqProofs [e_var, e_cst, e_glo, e_op, e_neg, e_cmp, e_cmp2, e_bop, e_not, e_ife, e_tup, e_lst, e_sub, e_slc, e_rvs, e_call, e_bi, e_rgl, e_isi, e_meth, e_idx, eb_1, eb_2, et_val, et_not, et_bop, ets_1, ets_2, eo_g, eo_a, ea_n, ea_c, es_asg, es_par, es_aug, es_put, es_ex, es_ret, es_retN, es_ife, ess_n, ess_c, tgv, tgvs, callv, callv.fin, Option.bind_some, Option.map_some, List.getElem?_cons_zero, List.getElem?_cons_succ, List.set_cons_zero, List.set_cons_succ, asRf_rf, ixN, smallI, wipeD, isv]
    | str s => simp -implicitDefEqProofs [e_var, e_cst, e_glo, e_op, e_neg, e_cmp, e_cmp2, e_bop, e_not, e_ife, e_tup, e_lst, e_sub, e_slc, e_rvs, e_call, e_bi, e_rgl, e_isi, e_meth, e_idx, eb_1, eb_2, et_val, et_not, et_bop, ets_1, ets_2, eo_g, eo_a, ea_n, ea_c, es_asg, es_par, es_aug, es_put, es_ex, es_ret, es_retN, es_ife, ess_n, ess_c, tgv, tgvs, callv, callv.fin, Option.bind_some, Option.map_some, List.getElem?_cons_zero, List.getElem?_cons_succ, List.set_cons_zero, List.set_cons_succ, asRf_rf, ixN, smallI, wipeD, isv]
    | _ => simp [fl] at h
  | succ m ih =>
    intro x h n
    have e0 : fnN T 100 (n + (m + 1) + 1) 20 [x, x] S = callv (C (n + m + 1)) f__law_same [x, x] S := rfl
    rw [e0]
    cases x with
    | none =>
      refine callv_rt rfl rfl (δ' := [some .none, some .none, none]) ?_
      show evSs (C (n + m + 1)) f__law_same.body [some .none, some .none, none] S = _
      unfold f__law_same
      simp -implicitDefEqProofs [e_var, e_cst, e_glo, e_op, e_neg, e_cmp, e_cmp2, e_bop, e_not, e_ife, e_tup, e_lst, e_sub, e_slc, e_rvs, e_call, e_bi, e_rgl, e_isi, e_meth, e_idx, eb_1, eb_2, et_val, et_not, et_bop, ets_1, ets_2, eo_g, eo_a, ea_n, ea_c, es_asg, es_par, es_aug, es_put, es_ex, es_ret, es_retN, es_ife, ess_n, ess_c, tgv, tgvs, callv, callv.fin, Option.bind_some, Option.map_some, List.getElem?_cons_zero, List.getElem?_cons_succ, List.set_cons_zero, List.set_cons_succ, asRf_rf, ixN, smallI, wipeD, isv]
    | int i =>
      refine callv_rt rfl rfl (δ' := [some (.int i), some (.int i), none]) ?_
      show evSs (C (n + m + 1)) f__law_same.body [some (.int i), some (.int i), none] S = _
      unfold f__law_same
      simp -implicitDefEqProofs [e_var, e_cst, e_glo, e_op, e_neg, e_cmp, e_cmp2, e_bop, e_not, e_ife, e_tup, e_lst, e_sub, e_slc, e_rvs, e_call, e_bi, e_rgl, e_isi, e_meth, e_idx, eb_1, eb_2, et_val, et_not, et_bop, ets_1, ets_2, eo_g, eo_a, ea_n, ea_c, es_asg, es_par, es_aug, es_put, es_ex, es_ret, es_retN, es_ife, ess_n, ess_c, tgv, tgvs, callv, callv.fin, Option.bind_some, Option.map_some, List.getElem?_cons_zero, List.getElem?_cons_succ, List.set_cons_zero, List.set_cons_succ, asRf_rf, ixN, smallI, wipeD, isv]
    | str s =>
      refine callv_rt rfl rfl (δ' := [some (.str s), some (.str s), none]) ?_
      show evSs (C (n + m + 1)) f__law_same.body [some (.str s), some (.str s), none] S = _
      unfold f__law_same
      simp -implicitDefEqProofs [e_var, e_cst, e_glo, e_op, e_neg, e_cmp, e_cmp2, e_bop, e_not, e_ife, e_tup, e_lst, e_sub, e_slc, e_rvs, e_call, e_bi, e_rgl, e_isi, e_meth, e_idx, eb_1, eb_2, et_val, et_not, et_bop, ets_1, ets_2, eo_g, eo_a, ea_n, ea_c, es_asg, es_par, es_aug, es_put, es_ex, es_ret, es_retN, es_ife, ess_n, ess_c, tgv, tgvs, callv, callv.fin, Option.bind_some, Option.map_some, List.getElem?_cons_zero, List.getElem?_cons_succ, List.set_cons_zero, List.set_cons_succ, asRf_rf, ixN, smallI, wipeD, isv]
    | tuple xs =>
      simp only [fl, Bool.and_eq_true, decide_eq_true_eq, List.all_eq_true] at h
      obtain ⟨δ', S', e, z, rfl, rfl⟩ := forv_nx (turn := fun x δ S => (tgv (.nm 2) x δ).bind fun δ' => evSs (C (n + m + 1)) bSame δ' S) (fun _ δ S' => ∃ z, δ = [some (.tuple xs), some (.tuple xs), z] ∧ S' = S) (xs := rngD 0 xs.length) 0 (δ := [some (.tuple xs), some (.tuple xs), none]) (S := S) (fun i x δ S1 hx hp => by
        obtain ⟨z, rfl, rfl⟩ := hp
        obtain ⟨rfl, hi⟩ := rngD_get hx
        have ai : atI xs (i : Nat) = some xs[i] := at_nat (List.getElem?_eq_getElem hi)
        have sm := ih xs[i] (h.2 _ (List.getElem_mem hi)) n
        refine ⟨.nx, [some (.tuple xs), some (.tuple xs), some (.int (i : Nat))], S1, ?_, .inl rfl, _, rfl, rfl⟩
        rw [Int.zero_add]
        simp -implicitDefEqProofs [e_var, e_cst, e_glo, e_op, e_neg, e_cmp, e_cmp2, e_bop, e_not, e_ife, e_tup, e_lst, e_sub, e_slc, e_rvs, e_call, e_bi, e_rgl, e_isi, e_meth, e_idx, eb_1, eb_2, et_val, et_not, et_bop, ets_1, ets_2, eo_g, eo_a, ea_n, ea_c, es_asg, es_par, es_aug, es_put, es_ex, es_ret, es_retN, es_ife, ess_n, ess_c, tgv, tgvs, callv, callv.fin, Option.bind_some, Option.map_some, List.getElem?_cons_zero, List.getElem?_cons_succ, List.set_cons_zero, List.set_cons_succ, asRf_rf, ixN, smallI, wipeD, C_fn, ai, sm]) ⟨none, rfl, rfl⟩
      have hI : evI (C (n + m + 1)) (.rng (.cons (.bi .len false (.cons (.var 1) .nil)) .nil)) [some (.tuple xs), some (.tuple xs), none] S' = some ((rngD 0 xs.length, true), S') := i_R (by simp -implicitDefEqProofs [e_var, e_cst, e_glo, e_op, e_neg, e_cmp, e_cmp2, e_bop, e_not, e_ife, e_tup, e_lst, e_sub, e_slc, e_rvs, e_call, e_bi, e_rgl, e_isi, e_meth, e_idx, eb_1, eb_2, et_val, et_not, et_bop, ets_1, ets_2, eo_g, eo_a, ea_n, ea_c, es_asg, es_par, es_aug, es_put, es_ex, es_ret, es_retN, es_ife, ess_n, ess_c, tgv, tgvs, callv, callv.fin, Option.bind_some, Option.map_some, List.getElem?_cons_zero, List.getElem?_cons_succ, List.set_cons_zero, List.set_cons_succ, asRf_rf, ixN, smallI, wipeD]) (by omega)
      have t1 : evT (C (n + m + 1)) (.val (.isi (.var 1) .tuple)) [some (.tuple xs), some (.tuple xs), none] S' = some (true, S') := by
        simp -implicitDefEqProofs [e_var, e_cst, e_glo, e_op, e_neg, e_cmp, e_cmp2, e_bop, e_not, e_ife, e_tup, e_lst, e_sub, e_slc, e_rvs, e_call, e_bi, e_rgl, e_isi, e_meth, e_idx, eb_1, eb_2, et_val, et_not, et_bop, ets_1, ets_2, eo_g, eo_a, ea_n, ea_c, es_asg, es_par, es_aug, es_put, es_ex, es_ret, es_retN, es_ife, ess_n, ess_c, tgv, tgvs, callv, callv.fin, Option.bind_some, Option.map_some, List.getElem?_cons_zero, List.getElem?_cons_succ, List.set_cons_zero, List.set_cons_succ, asRf_rf, ixN, smallI, wipeD, isv]
      have s1 : evS (C (n + m + 1)) (.ife (.bop false (.cons (.not (.val (.isi (.var 0) .tuple))) (.cons (.val (.cmp .NotEq (.bi .len false (.cons (.var 0) .nil)) (.bi .len false (.cons (.var 1) .nil)))) .nil))) (.cons (.ret (.cst (.bool false))) .nil) .nil) [some (.tuple xs), some (.tuple xs), none] S' = some (.nx, [some (.tuple xs), some (.tuple xs), none], S') := by
        simp -implicitDefEqProofs [e_var, e_cst, e_glo, e_op, e_neg, e_cmp, e_cmp2, e_bop, e_not, e_ife, e_tup, e_lst, e_sub, e_slc, e_rvs, e_call, e_bi, e_rgl, e_isi, e_meth, e_idx, eb_1, eb_2, et_val, et_not, et_bop, ets_1, ets_2, eo_g, eo_a, ea_n, ea_c, es_asg, es_par, es_aug, es_put, es_ex, es_ret, es_retN, es_ife, ess_n, ess_c, tgv, tgvs, callv, callv.fin, Option.bind_some, Option.map_some, List.getElem?_cons_zero, List.getElem?_cons_succ, List.set_cons_zero, List.set_cons_succ, asRf_rf, ixN, smallI, wipeD, isv]
      refine callv_rt rfl rfl (δ' := [some (.tuple xs), some (.tuple xs), z]) ?_
      show evSs (C (n + m + 1)) f__law_same.body [some (.tuple xs), some (.tuple xs), none] S' = _
      unfold f__law_same
      rw [ess_c, es_ife, t1, Option.bind_some, if_pos rfl, ess_c, s1, Option.bind_some]
      show ((evSs (C (n + m + 1)) _ [some (.tuple xs), some (.tuple xs), none] S').bind _) = _
      rw [ess_c, es_loop, hI, Option.bind_some]
      show (((forv _ (rngD 0 xs.length) _ S').bind _).bind _) = _
      rw [e, Option.bind_some]
      show ((evSs (C (n + m + 1)) _ [some (.tuple xs), some (.tuple xs), z] S').bind _) = _
      rw [ess_c, es_ret, e_cst]
      rfl
    | _ => simp [fl] at h
end K00

namespace K00
open PySem PySem.Spec
open PyProof.Rows L2 Ev
/-! ### the system is plain data -/
theorem fl_int (m : Nat) (i : Int) : fl m (.int i) = true := by cases m <;> rfl
theorem fl_str (m : Nat) (s : Str) : fl m (.str s) = true := by cases m <;> rfl
theorem fl_none (m : Nat) : fl m .none = true := by cases m <;> rfl
theorem fl_tup {m : Nat} {xs : List D} (h : xs.length ≤ 1000) (h2 : ∀ x ∈ xs, fl m x = true) : fl (m + 1) (.tuple xs) = true := by
  simp only [fl, Bool.and_eq_true, decide_eq_true_eq, List.all_eq_true]
  exact ⟨h, h2⟩
theorem fl_cells {cs : Cs} (ok : CellsOk cs) : fl 3 (cellsD cs) = true := by
  refine fl_tup (by rw [List.length_map]; have := ok.few; omega) fun x hx => ?_
  obtain ⟨c, hc, rfl⟩ := List.mem_map.mp hx
  refine fl_tup (by simp) fun y hy => ?_
  rcases List.mem_cons.mp hy with rfl | hy
  · exact fl_str _ _
  · rw [List.mem_singleton] at hy
    subst hy
    refine fl_tup (by have := (ok.ne c hc).2; omega) fun z hz => ?_
    obtain ⟨i, rfl⟩ := ok.iv c hc z hz
    exact fl_int _ _
theorem fl_up : ∀ {m : Nat} {x : D}, fl m x = true → fl (m + 1) x = true
  | 0, x, h => by cases x <;> first | rfl | cases h
  | m + 1, x, h => by
    cases x with
    | tuple xs =>
      simp only [fl, Bool.and_eq_true, decide_eq_true_eq, List.all_eq_true] at h
      exact fl_tup h.1 fun y hy => fl_up (h.2 y hy)
    | none => rfl
    | int i => rfl
    | str s => rfl
    | _ => cases h
theorem fl_ops : fl 4 opsD = true := by decide +kernel
theorem fl_ho {h : Ho} (ok : HoOk h) : fl 5 (hoD h) = true := by
  cases h with
  | pair => decide +kernel
  | str fs k cs =>
    refine fl_tup (by simp) fun x hx => ?_
    simp only [List.mem_cons, List.not_mem_nil, or_false] at hx
    rcases hx with rfl | rfl | rfl | rfl | rfl | rfl | rfl | rfl | rfl
    · exact fl_str _ _
    · exact fl_none _
    · refine fl_tup (by rw [List.length_map]; have := ok.2.1; omega) fun y hy => ?_
      obtain ⟨s, _, rfl⟩ := List.mem_map.mp hy
      exact fl_str _ _
    · exact fl_int _ _
    · rfl
    · exact fl_int _ _
    · exact fl_up (fl_cells ok.2.2.2.2.1)
    · rfl
    · exact fl_ops
theorem fl_sys {G : Cs} {hs : List Ho} (ok : SrcOk G hs) (hl : hs.length ≤ 10) : fl 8 (sysD G hs) = true := by
  refine fl_tup (by simp) fun x hx => ?_
  simp only [List.mem_cons, List.not_mem_nil, or_false] at hx
  rcases hx with rfl | rfl | rfl | rfl
  · refine fl_tup (by simp) fun y hy => ?_
    simp only [List.mem_cons, List.not_mem_nil, or_false] at hy
    rcases hy with rfl | rfl | rfl
    · exact fl_up (fl_up (fl_up (fl_cells ok.g)))
    · refine fl_tup (by rw [List.length_map]; omega) fun z hz => ?_
      obtain ⟨h, hh, rfl⟩ := List.mem_map.mp hz
      exact fl_ho (ok.h h hh)
    · decide +kernel
  · unfold basesD natsD
    refine fl_tup (by rw [List.length_map, bases_map, List.length_map, List.length_range]; omega) fun z hz => ?_
    obtain ⟨b, _, rfl⟩ := List.mem_map.mp hz
    exact fl_int _ _
  · refine fl_tup (by rw [List.length_map]; omega) fun z hz => ?_
    obtain ⟨h, _, rfl⟩ := List.mem_map.mp hz
    cases h <;> rfl
  · rfl
/-! ### what is asked -/
theorem all_words (n : Nat) (S : Sto) : ∃ ws, fnN T 100 (n + 1) 19 [] S = some (.list ws, S) ∧ allI ws ∧ ws.length = 50 := by
  have e0 : fnN T 100 (n + 1) 19 [] S = callv (C n) f__law_all_words [] S := rfl
  rw [e0]
  refine ⟨rngD 0 32 ++ [.int 99] ++ rngD 100 8 ++ [.int 199] ++ rngD 200 8, callv_rt rfl rfl (δ' := []) ?_, ?_, by simp [rngD]⟩
  · show evSs (C n) f__law_all_words.body [] S = _
    have r1 : rngv [.int 32] = some (0, 32) := by decide +kernel
    have r2 : rngv [.int 100, .int 108] = some (100, 8) := by decide +kernel
    have r3 : rngv [.int 200, .int 208] = some (200, 8) := by decide +kernel
    have b1 := big 1 (by omega)
    have b33 := big 33 (by omega)
    have b41 := big 41 (by omega)
    have b42 := big 42 (by omega)
    have b50 := big 50 (by omega)
    unfold f__law_all_words
    simp -implicitDefEqProofs [e_var, e_cst, e_glo, e_op, e_neg, e_cmp, e_cmp2, e_bop, e_not, e_ife, e_tup, e_lst, e_sub, e_slc, e_rvs, e_call, e_bi, e_rgl, e_isi, e_meth, e_idx, eb_1, eb_2, et_val, et_not, et_bop, ets_1, ets_2, eo_g, eo_a, ea_n, ea_c, es_asg, es_par, es_aug, es_put, es_ex, es_ret, es_retN, es_ife, ess_n, ess_c, tgv, tgvs, callv, callv.fin, Option.bind_some, Option.map_some, List.getElem?_cons_zero, List.getElem?_cons_succ, List.set_cons_zero, List.set_cons_succ, asRf_rf, ixN, smallI, wipeD, r1, r2, r3, rngD_len, b1, b33, b41, b42, b50]
  · intro d hd
    have hr : ∀ {lo : Int} {m : Nat}, d ∈ rngD lo m → ∃ i : Int, d = .int i := fun {lo m} h => by
      unfold rngD at h
      obtain ⟨k, _, rfl⟩ := List.mem_map.mp h
      exact ⟨_, rfl⟩
    simp only [List.mem_append, List.mem_singleton] at hd
    rcases hd with (((hd | hd) | hd) | hd) | hd
    · exact hr hd
    · exact ⟨99, hd⟩
    · exact hr hd
    · exact ⟨199, hd⟩
    · exact hr hd
def key (o : Int) (nm : Str) : Ent → Bool
  | .cell o' nm' _ => decide (o' = o) && decide (nm' = nm)
  | .field _ _ _ => false
theorem cnt_rowC {o : Int} {nm : Str} : ∀ {cs : Cs}, (cs.map (·.1)).Nodup → ((rowC o cs).filter (key o nm)).length = lenC cs nm
  | [], _ => rfl
  | c :: r, nd => by
    obtain ⟨n1, n2⟩ := List.nodup_cons.mp (show (c.1 :: r.map (·.1)).Nodup from nd)
    have e1 : ∀ x ∈ (List.range c.2.length).map (fun k => Ent.cell o c.1 k), key o nm x = decide (c.1 = nm) := fun x hx => by
      obtain ⟨k, _, rfl⟩ := List.mem_map.mp hx
      simp [key]
    rw [rowC, List.filter_append, List.length_append, filter_const e1, cnt_rowC n2, lenC, List.length_map, List.length_range]
    by_cases hc : c.1 = nm
    · rw [decide_eq_true hc, if_pos hc]
      have : lenC r nm = 0 := by
        have hz : ∀ l : Cs, nm ∉ l.map (·.1) → lenC l nm = 0 := fun l => by
          induction l with
          | nil => intro _; rfl
          | cons d l ih =>
            intro hm
            have hne : d.1 ≠ nm := fun z => hm (z ▸ List.mem_cons_self)
            rw [lenC, if_neg hne, ih fun z => hm (List.mem_cons_of_mem _ z)]
        exact hz r (hc ▸ n1)
      rw [this]
      rfl
    · rw [decide_eq_false hc, if_neg hc]
      simp
theorem cnt_other {o o' : Int} {nm : Str} (h : o' ≠ o) {l : List Ent} (hl : ∀ e ∈ l, ownE e = o') : (l.filter (key o nm)).length = 0 := by
  rw [filter_const (b := false)]
  · rfl
  · intro e he
    have := hl e he
    cases e with
    | cell o2 nm2 k =>
      have h2 : o2 = o' := this
      subst h2
      simp [key, h]
    | field o2 k nm2 => rfl
theorem cnt_rowH {o : Int} {nm : Str} {h : Ho} (nd : ((cellsOf h).map (·.1)).Nodup) : ((rowH o h).filter (key o nm)).length = lenC (cellsOf h) nm := by
  rw [rowH_eq, List.filter_append, List.length_append, cnt_rowC nd]
  have e1 : ∀ x ∈ rowF o (fieldsOf h) (sizeOf' h), key o nm x = false := fun x hx => by
    obtain ⟨k, nm', rfl, _⟩ := rowF_mem hx
    rfl
  rw [filter_const e1]
  simp
theorem cnt_rowHs_key {nm : Str} : ∀ {hs : List Ho} {b o : Int}, (∀ h ∈ hs, ((cellsOf h).map (·.1)).Nodup) → (o < b → ((rowHs b hs).filter (key o nm)).length = 0) ∧ (∀ (j : Nat) (h : Ho), hs[j]? = some h → o = b + (j : Nat) → ((rowHs b hs).filter (key o nm)).length = lenC (cellsOf h) nm)
  | [], b, o, _ => ⟨fun _ => rfl, fun j h e _ => by cases e⟩
  | h0 :: r, b, o, nd => by
    obtain ⟨i1, i2⟩ := cnt_rowHs_key (nm := nm) (hs := r) (b := b + 1) (o := o) fun h hh => nd h (List.mem_cons_of_mem _ hh)
    refine ⟨fun hlt => ?_, fun j h e ho => ?_⟩
    · rw [rowHs, List.filter_append, List.length_append, cnt_other (o' := b) (by omega) (fun e he => own_rowH he), i1 (by omega)]
    · cases j with
      | zero =>
        cases e
        have ho : o = b := by omega
        subst ho
        rw [rowHs, List.filter_append, List.length_append, cnt_rowH (nd h0 List.mem_cons_self), i1 (by omega), Nat.add_zero]
      | succ j =>
        rw [rowHs, List.filter_append, List.length_append, cnt_other (o' := b) (by omega) (fun e he => own_rowH he), i2 j h e (by omega), Nat.zero_add]
theorem cnt_neg {G : Cs} {hs : List Ho} (ok : SrcOk G hs) (nm : Str) : ((rowAll G hs).filter (key (-1) nm)).length = lenC G nm := by
  rw [rowAll, List.filter_append, List.length_append, cnt_rowC ok.g.nd, (cnt_rowHs_key (b := 0) (o := -1) fun h hh => (ok.cells hh).1).1 (by decide), Nat.add_zero]
theorem cnt_pos {G : Cs} {hs : List Ho} (ok : SrcOk G hs) (nm : Str) {o : Nat} {h : Ho} (e : hs[o]? = some h) : ((rowAll G hs).filter (key (o : Nat) nm)).length = lenC (cellsOf h) nm := by
  rw [rowAll, List.filter_append, List.length_append, cnt_other (o' := -1) (by omega) (fun e he => own_rowC he), (cnt_rowHs_key (b := 0) (o := (o : Nat)) fun h hh => (ok.cells hh).1).2 o h e (by omega), Nat.zero_add]
/-! ### shaped -/
def nmOf : Ent → Str
  | .cell _ nm _ => nm
  | .field _ _ nm => nm
theorem lenC_names {cs : Cs} {nm : Str} (h : nm ∈ cs.map (·.1)) : ∃ c ∈ cs, c.1 = nm := by
  obtain ⟨c, hc, e⟩ := List.mem_map.mp h
  exact ⟨c, hc, e⟩
theorem ent_ok {G : Cs} {hs : List Ho} (ok : SrcOk G hs) {e : Ent} (he : e ∈ rowAll G hs) : PyData.strOk (nmOf e) = true := by
  obtain ⟨i, hi⟩ := List.mem_iff_getElem?.mp he
  rcases row_at ok hi with ⟨_, nm, k, rfl, _, _, _, hm⟩ | ⟨o, h, e1, _, _, ⟨nm, k, rfl, _, _, _, _, hm⟩ | ⟨_, nm, _, hf, rfl⟩⟩
  · obtain ⟨c, hc, rfl⟩ := lenC_names hm
    exact ok.g.so c hc
  · obtain ⟨c, hc, rfl⟩ := lenC_names hm
    have hh := ok.h h (List.mem_of_getElem? e1)
    cases h with
    | pair => cases hc
    | str fs kk cs => exact hh.2.2.2.2.1.so c hc
  · have hh := ok.h h (List.mem_of_getElem? e1)
    cases h with
    | pair => cases hf
    | str fs kk cs => exact hh.2.2.2.2.2 nm (List.mem_of_getElem? hf)
theorem so_cell : PyData.strOk (Str.ofString "cell") = true := by decide +kernel
theorem so_field : PyData.strOk (Str.ofString "field") = true := by decide +kernel
theorem lay_ent {e : Ent} (h : PyData.strOk (nmOf e) = true) : (entD e).canLay0 = true ∧ (entD e).depth = 1 := by
  cases e <;> simp [entD, PyData.canLay0, PyData.canLayAll0, PyData.depth, PyData.depthAll, so_cell, so_field] <;> exact h
theorem shaped_row {G : Cs} {hs : List Ho} (ok : SrcOk G hs) : SeqAt.shaped (.list ((rowAll G hs).map entD)) = true := by
  have h1 : ∀ l : List Ent, (∀ e ∈ l, PyData.strOk (nmOf e) = true) → PyData.canLayAll0 (l.map entD) = true ∧ PyData.depthAll (l.map entD) ≤ 1 := fun l hl => by
    induction l with
    | nil => exact ⟨rfl, Nat.zero_le _⟩
    | cons e r ih =>
      obtain ⟨i1, i2⟩ := ih fun y hy => hl y (List.mem_cons_of_mem _ hy)
      obtain ⟨q1, q2⟩ := lay_ent (hl e List.mem_cons_self)
      rw [List.map_cons]
      simp [PyData.canLayAll0, PyData.depthAll, i1, q1, q2]
      omega
  obtain ⟨q1, q2⟩ := h1 (rowAll G hs) fun e he => ent_ok ok he
  unfold SeqAt.shaped
  rw [Bool.and_eq_true, decide_eq_true_eq]
  refine ⟨by simpa [PyData.canLay0] using q1, ?_⟩
  simp only [PyData.depth]
  omega
theorem shaped_ent {e : Ent} (h : PyData.strOk (nmOf e) = true) : SeqAt.shaped (entD e) = true := by
  obtain ⟨q1, q2⟩ := lay_ent h
  unfold SeqAt.shaped
  rw [q1, q2]
  rfl
theorem shaped_fld {o j : Int} {nm : Str} (h : PyData.strOk nm = true) : SeqAt.shaped (.tuple [.str (Str.ofString "field"), .int o, .int j, .str nm]) = true := by
  simp [SeqAt.shaped, PyData.canLay0, PyData.canLayAll0, PyData.depth, PyData.depthAll, so_field, h]
theorem idx_row {G : Cs} {hs : List Ho} (ok : SrcOk G hs) {e : Ent} (he : e ∈ rowAll G hs) (S : Sto) : idxv (listE (rowAll G hs)) (entD e) S = some (.int ((addr G hs e : Nat) : Int)) := by
  show ((seqv (listE (rowAll G hs)) S).bind fun ys => if SeqAt.shaped (entD e) && SeqAt.shaped (.list ys) then (firstIx (entD e) ys).map fun j => PyData.int (j : Nat) else none) = _
  rw [sq_L, Option.bind_some, shaped_row ok, shaped_ent (ent_ok ok he), index_of ok he]
  rfl
theorem any_fld {G : Cs} {hs : List Ho} (ok : SrcOk G hs) {o j : Int} {nm : Str} (hn : PyData.strOk nm = true) (S : Sto) {b : Bool} (hb : b = true ↔ ∃ k : Nat, j = (k : Nat) ∧ Ent.field o k nm ∈ rowAll G hs) :
    cmpv .In (.tuple [.str (Str.ofString "field"), .int o, .int j, .str nm]) (listE (rowAll G hs)) S = some b := by
  show ((seqv (listE (rowAll G hs)) S).bind fun ys => if SeqAt.shaped (.tuple [.str (Str.ofString "field"), .int o, .int j, .str nm]) && SeqAt.shaped (.list ys) then some (ys.any fun z => PyData.eqv z (.tuple [.str (Str.ofString "field"), .int o, .int j, .str nm])) else none) = _
  rw [sq_L, Option.bind_some, shaped_row ok, shaped_fld hn]
  show some (((rowAll G hs).map entD).any fun z => PyData.eqv z (.tuple [.str (Str.ofString "field"), .int o, .int j, .str nm])) = _
  congr 1
  rw [Bool.eq_iff_iff, hb]
  constructor
  · intro z
    obtain ⟨x, hx, q⟩ := List.any_eq_true.mp z
    obtain ⟨e, he, rfl⟩ := List.mem_map.mp hx
    obtain ⟨k, rfl, rfl⟩ := eqv_ent.mp q
    exact ⟨k, rfl, he⟩
  · rintro ⟨k, rfl, hm⟩
    exact List.any_eq_true.mpr ⟨_, List.mem_map.mpr ⟨_, hm, rfl⟩, eqv_ent.mpr ⟨k, rfl, rfl⟩⟩
end K00

namespace K00
open PySem PySem.Spec
open PyProof.Rows L2 Ev
theorem cell_info {G : Cs} {hs : List Ho} (ok : SrcOk G hs) {o : Int} {nm : Str} {k : Nat} (he : Ent.cell o nm k ∈ rowAll G hs) : ∃ (cs : Cs) (b : Nat), (∀ n S, fnN T 100 (n + 1) 12 [sysD G hs, .int o] S = some (cellsD cs, S)) ∧ (∀ n S, fnN T 100 (n + 1) 13 [sysD G hs, .int o] S = some (.int (b : Nat), S)) ∧
    nm ∈ cs.map (·.1) ∧ (∀ c ∈ cs, 1 ≤ c.2.length) ∧ 0 < lenC cs nm ∧ ((rowAll G hs).filter (key o nm)).length = lenC cs nm ∧ ∀ j, j < lenC cs nm → Ent.cell o nm j ∈ rowAll G hs ∧ addr G hs (.cell o nm j) = b + offC cs nm + j := by
  obtain ⟨i, hi⟩ := List.mem_iff_getElem?.mp he
  rcases row_at ok hi with ⟨_, nm', k', e, _, _, hk, hm⟩ | ⟨o', h, e1, _, e3, ⟨nm', k', e, _, hw, _, hk, hm⟩ | ⟨_, nm', _, _, e⟩⟩
  · cases e
    refine ⟨G, 0, fun n S => shared_neg n, fun n S => base_neg n, hm, fun c hc => (ok.g.ne c hc).1, by omega, cnt_neg ok nm, fun j hj => ⟨List.mem_append_left _ (rowC_has hm hj), ?_⟩⟩
    rw [addr, if_pos (by decide), Nat.zero_add]
  · cases e
    obtain ⟨fs, kk, cs, rfl⟩ : ∃ fs kk cs, h = .str fs kk cs := by
      cases h with
      | pair => cases hm
      | str fs kk cs => exact ⟨fs, kk, cs, rfl⟩
    have hh := ok.h _ (List.mem_of_getElem? e1)
    refine ⟨cs, wc G + pre hs o', fun n S => shared_pos n e1, fun n S => base_pos n e1, hm, fun c hc => (hh.2.2.2.2.1.ne c hc).1, by simp only [cellsOf] at hk; omega, cnt_pos ok nm e1, fun j hj => ⟨List.mem_append_right _ (rowHs_has e1 ?_), ?_⟩⟩
    · rw [Int.zero_add, rowH]
      exact List.mem_append_left _ (rowC_has hm hj)
    · rw [addr, if_neg (by omega), Int.toNat_natCast, e1]
      rfl
  · cases e
theorem field_info {G : Cs} {hs : List Ho} (ok : SrcOk G hs) {o : Int} {nm : Str} {k : Nat} (he : Ent.field o k nm ∈ rowAll G hs) : ∃ (o' : Nat) (fs : List Str) (kk : Nat) (cs : Cs), o = (o' : Nat) ∧ hs[o']? = some (.str fs kk cs) ∧ nm ∈ fs ∧ kk ≤ 8 ∧ (∀ x ∈ fs, PyData.strOk x = true) ∧ (∀ j, Ent.field o j nm ∈ rowAll G hs ↔ j < kk) ∧
    ∀ j, addr G hs (.field o j nm) = wc G + pre hs o' + wc cs + j * fs.length + idxOf nm fs := by
  have look : ∀ {j : Nat}, Ent.field o j nm ∈ rowAll G hs → ∃ (o' : Nat) (h : Ho), o = (o' : Nat) ∧ hs[o']? = some h ∧ nm ∈ fieldsOf h ∧ j < sizeOf' h := fun {j} hj => by
    obtain ⟨i, hi⟩ := List.mem_iff_getElem?.mp hj
    rcases row_at ok hi with ⟨_, nm', k', e, _⟩ | ⟨o', h, e1, _, e3, ⟨nm', k', e, _⟩ | ⟨_, nm', hl, hf, e⟩⟩
    · cases e
    · cases e
    · cases e
      refine ⟨o', h, rfl, e1, List.mem_of_getElem? hf, ?_⟩
      exact Nat.div_lt_of_lt_mul (by rw [Nat.mul_comm]; exact hl)
  obtain ⟨o', h, rfl, e1, hm, _⟩ := look he
  obtain ⟨fs, kk, cs, rfl⟩ : ∃ fs kk cs, h = .str fs kk cs := by
    cases h with
    | pair => cases hm
    | str fs kk cs => exact ⟨fs, kk, cs, rfl⟩
  have hh := ok.h _ (List.mem_of_getElem? e1)
  refine ⟨o', fs, kk, cs, rfl, e1, hm, hh.2.2.1, hh.2.2.2.2.2, fun j => ⟨fun hj => ?_, fun hj => ?_⟩, fun j => ?_⟩
  · obtain ⟨o2, h2, eo, e2, _, hj2⟩ := look hj
    have : o2 = o' := by omega
    subst this
    cases e1.symm.trans e2
    exact hj2
  · refine List.mem_append_right _ (rowHs_has e1 ?_)
    rw [Int.zero_add, rowH]
    exact List.mem_append_right _ (rowF_has hm hj)
  · rw [addr, Int.toNat_natCast, e1]
    rfl
/-! ### asked -/
def t3D (x : D) : D := match x with | .tuple [a, b, c, _] => .tuple [a, b, c] | _ => .none
theorem cut3 {a b c d : D} : cutD [a, b, c, d] none (some 3) = [a, b, c] := rfl
theorem cut_ent (e : Ent) (S : Sto) {m : Bool} : slcv m (entD e) none (some 3) S = some (t3D (entD e), S) := by
  cases e <;> rfl
theorem eq_t3 {e : Ent} {o : Int} {nm : Str} {k : Nat} (h1 : PyData.strOk (nmOf e) = true) (h2 : PyData.strOk nm = true) (S : Sto) : cmpv .Eq (t3D (entD e)) (t3D (entD (.cell o nm k))) S = some (key o nm e) := by
  have hne : ((Str.ofString "field") == (Str.ofString "cell")) = false := by decide +kernel
  have sh : SeqAt.shaped (t3D (entD e)) = true ∧ SeqAt.shaped (t3D (entD (.cell o nm k))) = true := by
    refine ⟨?_, by simp [t3D, entD, SeqAt.shaped, PyData.canLay0, PyData.canLayAll0, PyData.depth, PyData.depthAll, so_cell, h2]⟩
    cases e with
    | cell o' nm' k' =>
      have h1 : PyData.strOk nm' = true := h1
      simp [t3D, entD, SeqAt.shaped, PyData.canLay0, PyData.canLayAll0, PyData.depth, PyData.depthAll, so_cell, h1]
    | field o' k' nm' => simp [t3D, entD, SeqAt.shaped, PyData.canLay0, PyData.canLayAll0, PyData.depth, PyData.depthAll, so_field]
  have e1 : cmpv .Eq (t3D (entD e)) (t3D (entD (.cell o nm k))) S = if SeqAt.shaped (t3D (entD e)) && SeqAt.shaped (t3D (entD (.cell o nm k))) then some (PyData.eqv (t3D (entD e)) (t3D (entD (.cell o nm k)))) else none := by
    cases e <;> rfl
  rw [e1, sh.1, sh.2]
  show some _ = _
  congr 1
  cases e with
  | cell o' nm' k' =>
    simp only [t3D, entD, PyData.eqv, PyData.eqvAll, key, Bool.and_true]
    rw [show (Str.ofString "cell" == Str.ofString "cell") = true by simp, Bool.true_and]
    rfl
  | field o' k' nm' =>
    simp only [t3D, entD, PyData.eqv, PyData.eqvAll, key, hne, Bool.false_and]
theorem ix_row {l : List Ent} {i : Nat} {e : Ent} (h : l[i]? = some e) {S : Sto} : ixv (listE l) (.int (i : Nat)) S = some (entD e) := by
  rw [x_L]
  exact at_nat (by rw [List.getElem?_map, h]; rfl)
theorem asked (n : Nat) (S : Sto) {G : Cs} {hs : List Ho} (ok : SrcOk G hs) (hG : 0 < (rowAll G hs).length) (a b c : Int) : ∃ (e : Ent) (w due : Int), fnN T 100 (n + 2) 28 [listE (rowAll G hs), .list [.int a, .int b, .int c]] S = some (.tuple [entD e, .int w, .int due], S) ∧
    ((∃ o nm k, e = .cell o nm k ∧ ∀ m S, fnN T 100 (m + 2) 14 [sysD G hs, .int o, .str nm, .int w] S = some (.int due, S)) ∨ (∃ o k nm, e = .field o k nm ∧ ∀ m S, fnN T 100 (m + 3) 16 [sysD G hs, .int o, .int w, .str nm] S = some (.int due, S))) := by
  have e0 : fnN T 100 (n + 2) 28 [listE (rowAll G hs), .list [.int a, .int b, .int c]] S = callv (C (n + 1)) f__law_asked [listE (rowAll G hs), .list [.int a, .int b, .int c]] S := rfl
  rw [e0]
  have b3 := big 3 (by omega)
  have b4 := big 4 (by omega)
  have b1 := big 1 (by omega)
  obtain ⟨ws, ew, wi, wl⟩ := all_words n S
  have hlen : 0 < ((rowAll G hs).length : Int) := by omega
  have r0 := Int.emod_nonneg a (show ((rowAll G hs).length : Int) ≠ 0 by omega)
  have r1 := Int.emod_lt_of_pos a hlen
  obtain ⟨e, he⟩ : ∃ e, (rowAll G hs)[(a % ((rowAll G hs).length : Int)).toNat]? = some e := ⟨_, List.getElem?_eq_getElem (by omega)⟩
  have hm : e ∈ rowAll G hs := List.mem_of_getElem? he
  have ixe : ixv (listE (rowAll G hs)) (.int (a % ((rowAll G hs).length : Int))) S = some (entD e) := by
    rw [show a % ((rowAll G hs).length : Int) = ((a % ((rowAll G hs).length : Int)).toNat : Nat) by omega]
    exact ix_row he
  obtain ⟨w, hw⟩ : ∃ w : Int, atI ws (b % 50) = some (.int w) := get_at wi (Int.emod_nonneg b (by decide)) (by rw [wl]; exact Int.emod_lt_of_pos b (by decide))
  have q3 : biv .len false [listE (rowAll G hs)] S = some (.int ((rowAll G hs).length : Nat), S) := by rw [l_L, List.length_map]
  have s1 : evS (C (n + 1)) (.asg (.nm 2) (.sub (.var 0) (.op .mod false (.bi .int false (.cons (.sub (.var 1) (.cst (.int 0))) .nil)) (.bi .len false (.cons (.var 0) .nil))))) [some (listE (rowAll G hs)), some (.list [.int a, .int b, .int c]), none, none, none, none, none] S = some (.nx, [some (listE (rowAll G hs)), some (.list [.int a, .int b, .int c]), some (entD e), none, none, none, none], S) := by
    generalize listE (rowAll G hs) = L at ixe q3
    simp -implicitDefEqProofs [e_var, e_cst, e_glo, e_op, e_neg, e_cmp, e_cmp2, e_bop, e_not, e_ife, e_tup, e_lst, e_sub, e_slc, e_rvs, e_call, e_bi, e_rgl, e_isi, e_meth, e_idx, eb_1, eb_2, et_val, et_not, et_bop, ets_1, ets_2, eo_g, eo_a, ea_n, ea_c, es_asg, es_par, es_aug, es_put, es_ex, es_ret, es_retN, es_ife, ess_n, ess_c, tgv, tgvs, callv, callv.fin, Option.bind_some, Option.map_some, List.getElem?_cons_zero, List.getElem?_cons_succ, List.set_cons_zero, List.set_cons_succ, asRf_rf, ixN, smallI, wipeD, q3, hG, ixe]
  have s2 : evS (C (n + 1)) (.asg (.nm 3) (.sub (.call 19 .nil) (.op .mod false (.bi .int false (.cons (.sub (.var 1) (.cst (.int 1))) .nil)) (.cst (.int 50))))) [some (listE (rowAll G hs)), some (.list [.int a, .int b, .int c]), some (entD e), none, none, none, none] S = some (.nx, [some (listE (rowAll G hs)), some (.list [.int a, .int b, .int c]), some (entD e), some (.int w), none, none, none], S) := by
    simp -implicitDefEqProofs [e_var, e_cst, e_glo, e_op, e_neg, e_cmp, e_cmp2, e_bop, e_not, e_ife, e_tup, e_lst, e_sub, e_slc, e_rvs, e_call, e_bi, e_rgl, e_isi, e_meth, e_idx, eb_1, eb_2, et_val, et_not, et_bop, ets_1, ets_2, eo_g, eo_a, ea_n, ea_c, es_asg, es_par, es_aug, es_put, es_ex, es_ret, es_retN, es_ife, ess_n, ess_c, tgv, tgvs, callv, callv.fin, Option.bind_some, Option.map_some, List.getElem?_cons_zero, List.getElem?_cons_succ, List.set_cons_zero, List.set_cons_succ, asRf_rf, ixN, smallI, wipeD, C_fn, ew, hw]
  cases e with
  | cell o nm k =>
    obtain ⟨cs, bs, i1, i2, i3, i4, i5, i6, i7⟩ := cell_info ok hm
    have wm0 := Int.emod_nonneg w (show (lenC cs nm : Int) ≠ 0 by omega)
    have wm1 := Int.emod_lt_of_pos w (show 0 < (lenC cs nm : Int) by omega)
    obtain ⟨j1, j2⟩ := i7 (w % (lenC cs nm : Nat)).toNat (by omega)
    have hI : evI (C (n + 1)) (.over (.var 0)) [some (listE (rowAll G hs)), some (.list [.int a, .int b, .int c]), some (entD (.cell o nm k)), some (.int w), none, none, none] S = some (((rowAll G hs).map entD, true), S) := i_L (by simp -implicitDefEqProofs [e_var, e_cst, e_glo, e_op, e_neg, e_cmp, e_cmp2, e_bop, e_not, e_ife, e_tup, e_lst, e_sub, e_slc, e_rvs, e_call, e_bi, e_rgl, e_isi, e_meth, e_idx, eb_1, eb_2, et_val, et_not, et_bop, ets_1, ets_2, eo_g, eo_a, ea_n, ea_c, es_asg, es_par, es_aug, es_put, es_ex, es_ret, es_retN, es_ife, ess_n, ess_c, tgv, tgvs, callv, callv.fin, Option.bind_some, Option.map_some, List.getElem?_cons_zero, List.getElem?_cons_succ, List.set_cons_zero, List.set_cons_succ, asRf_rf, ixN, smallI, wipeD])
    have el := e_lcflt (m := false) (elt := .var 6) (t := .nm 6) (own := [6]) (fun x => PyData.eqv (t3D x) (t3D (entD (.cell o nm k)))) id (tt := .val (.cmp .Eq (.slc false (.var 6) .gap (.at (.cst (.int 3)))) (.slc false (.var 2) .gap (.at (.cst (.int 3)))))) hI (fun x hx => by
      obtain ⟨e1, h1, rfl⟩ := List.mem_map.mp hx
      refine ⟨[some (listE (rowAll G hs)), some (.list [.int a, .int b, .int c]), some (entD (.cell o nm k)), some (.int w), none, none, some (entD e1)], rfl, ?_, fun _ => ?_⟩
      · have q := eq_t3 (e := e1) (o := o) (nm := nm) (k := k) (ent_ok ok h1) (ent_ok ok hm) S
        have q2 : PyData.eqv (t3D (entD e1)) (t3D (entD (.cell o nm k))) = key o nm e1 := by
          have e1' : cmpv .Eq (t3D (entD e1)) (t3D (entD (.cell o nm k))) S = if SeqAt.shaped (t3D (entD e1)) && SeqAt.shaped (t3D (entD (.cell o nm k))) then some (PyData.eqv (t3D (entD e1)) (t3D (entD (.cell o nm k)))) else none := by
            cases e1 <;> rfl
          rw [e1'] at q
          split at q
          · exact Option.some.inj q
          · cases q
        rw [q2]
        simp -implicitDefEqProofs [e_var, e_cst, e_glo, e_op, e_neg, e_cmp, e_cmp2, e_bop, e_not, e_ife, e_tup, e_lst, e_sub, e_slc, e_rvs, e_call, e_bi, e_rgl, e_isi, e_meth, e_idx, eb_1, eb_2, et_val, et_not, et_bop, ets_1, ets_2, eo_g, eo_a, ea_n, ea_c, es_asg, es_par, es_aug, es_put, es_ex, es_ret, es_retN, es_ife, ess_n, ess_c, tgv, tgvs, callv, callv.fin, Option.bind_some, Option.map_some, List.getElem?_cons_zero, List.getElem?_cons_succ, List.set_cons_zero, List.set_cons_succ, asRf_rf, ixN, smallI, wipeD, cut_ent, q]
      · simp -implicitDefEqProofs [e_var, e_cst, e_glo, e_op, e_neg, e_cmp, e_cmp2, e_bop, e_not, e_ife, e_tup, e_lst, e_sub, e_slc, e_rvs, e_call, e_bi, e_rgl, e_isi, e_meth, e_idx, eb_1, eb_2, et_val, et_not, et_bop, ets_1, ets_2, eo_g, eo_a, ea_n, ea_c, es_asg, es_par, es_aug, es_put, es_ex, es_ret, es_retN, es_ife, ess_n, ess_c, tgv, tgvs, callv, callv.fin, Option.bind_some, Option.map_some, List.getElem?_cons_zero, List.getElem?_cons_succ, List.set_cons_zero, List.set_cons_succ, asRf_rf, ixN, smallI, wipeD])
    have ec : (((rowAll G hs).map entD).filter fun x => PyData.eqv (t3D x) (t3D (entD (.cell o nm k)))).length = lenC cs nm := by
      rw [List.filter_map, List.length_map, ← i6]
      congr 1
      refine List.filter_congr fun e1 h1 => ?_
      have q := eq_t3 (e := e1) (o := o) (nm := nm) (k := k) (ent_ok ok h1) (ent_ok ok hm) S
      have e1' : cmpv .Eq (t3D (entD e1)) (t3D (entD (.cell o nm k))) S = if SeqAt.shaped (t3D (entD e1)) && SeqAt.shaped (t3D (entD (.cell o nm k))) then some (PyData.eqv (t3D (entD e1)) (t3D (entD (.cell o nm k)))) else none := by
        cases e1 <;> rfl
      rw [e1'] at q
      split at q
      · exact Option.some.inj q
      · cases q
    rw [List.map_id] at el
    have s3 : evS (C (n + 1)) (.asg (.nm 5) (.bi .len false (.cons (.lc false (.var 6) (.nm 6) (.over (.var 0)) (.cons (.val (.cmp .Eq (.slc false (.var 6) .gap (.at (.cst (.int 3)))) (.slc false (.var 2) .gap (.at (.cst (.int 3)))))) .nil) [6]) .nil))) [some (listE (rowAll G hs)), some (.list [.int a, .int b, .int c]), some (entD (.cell o nm k)), some (.int w), none, none, none] S = some (.nx, [some (listE (rowAll G hs)), some (.list [.int a, .int b, .int c]), some (entD (.cell o nm k)), some (.int w), none, some (.int (lenC cs nm : Nat)), none], S) := by
      rw [es_asg, e_bi, ea_c, el, Option.bind_some, ea_n, Option.map_some, Option.bind_some, mkl_f, l_L, ec]
      rfl
    have ix := idx_row ok j1 S
    have l3 : opv .add false (t3D (entD (.cell o nm k))) (.tuple [.int (w % (lenC cs nm : Nat))]) S = some (entD (.cell o nm (w % (lenC cs nm : Nat)).toNat), S) := by
      show (if 3 + 1 ≤ sizeLine then some (PyData.tuple [.str (Str.ofString "cell"), .int o, .str nm, .int (w % (lenC cs nm : Nat))], S) else none) = _
      rw [if_pos b4]
      show _ = some (PyData.tuple [.str (Str.ofString "cell"), .int o, .str nm, .int ((w % (lenC cs nm : Nat)).toNat : Nat)], S)
      rw [show (((w % (lenC cs nm : Nat)).toNat : Nat) : Int) = w % (lenC cs nm : Nat) by omega]
    refine ⟨.cell o nm k, w, ((addr G hs (.cell o nm (w % (lenC cs nm : Nat)).toNat) : Nat) : Int), callv_rt rfl rfl (δ' := [some (listE (rowAll G hs)), some (.list [.int a, .int b, .int c]), some (entD (.cell o nm k)), some (.int w), none, some (.int (lenC cs nm : Nat)), none]) ?_, .inl ⟨o, nm, k, rfl, fun m S => ?_⟩⟩
    · show evSs (C (n + 1)) f__law_asked.body [some (listE (rowAll G hs)), some (.list [.int a, .int b, .int c]), none, none, none, none, none] S = _
      have tt : evT (C (n + 1)) (.val (.cmp .Eq (.sub (.var 2) (.cst (.int 0))) (.cst (.str (Str.ofString "cell"))))) [some (listE (rowAll G hs)), some (.list [.int a, .int b, .int c]), some (entD (.cell o nm k)), some (.int w), none, none, none] S = some (true, S) := by
        simp -implicitDefEqProofs [e_var, e_cst, e_glo, e_op, e_neg, e_cmp, e_cmp2, e_bop, e_not, e_ife, e_tup, e_lst, e_sub, e_slc, e_rvs, e_call, e_bi, e_rgl, e_isi, e_meth, e_idx, eb_1, eb_2, et_val, et_not, et_bop, ets_1, ets_2, eo_g, eo_a, ea_n, ea_c, es_asg, es_par, es_aug, es_put, es_ex, es_ret, es_retN, es_ife, ess_n, ess_c, tgv, tgvs, callv, callv.fin, Option.bind_some, Option.map_some, List.getElem?_cons_zero, List.getElem?_cons_succ, List.set_cons_zero, List.set_cons_succ, asRf_rf, ixN, smallI, wipeD, entD]
      have rr : evE (C (n + 1)) (.tup (.cons (.var 2) (.cons (.var 3) (.cons (.idx (.var 0) (.op .add false (.slc false (.var 2) .gap (.at (.cst (.int 3)))) (.tup (.cons (.op .mod false (.bi .int false (.cons (.var 3) .nil)) (.var 5)) .nil)))) .nil)))) [some (listE (rowAll G hs)), some (.list [.int a, .int b, .int c]), some (entD (.cell o nm k)), some (.int w), none, some (.int (lenC cs nm : Nat)), none] S = some (.tuple [entD (.cell o nm k), .int w, .int ((addr G hs (.cell o nm (w % (lenC cs nm : Nat)).toNat) : Nat) : Int)], S) := by
        have rc : rcvT (listE (rowAll G hs)) S = true := rfl
        generalize listE (rowAll G hs) = L at ix rc
        simp -implicitDefEqProofs [e_var, e_cst, e_glo, e_op, e_neg, e_cmp, e_cmp2, e_bop, e_not, e_ife, e_tup, e_lst, e_sub, e_slc, e_rvs, e_call, e_bi, e_rgl, e_isi, e_meth, e_idx, eb_1, eb_2, et_val, et_not, et_bop, ets_1, ets_2, eo_g, eo_a, ea_n, ea_c, es_asg, es_par, es_aug, es_put, es_ex, es_ret, es_retN, es_ife, ess_n, ess_c, tgv, tgvs, callv, callv.fin, Option.bind_some, Option.map_some, List.getElem?_cons_zero, List.getElem?_cons_succ, List.set_cons_zero, List.set_cons_succ, asRf_rf, ixN, smallI, wipeD, cut_ent, i5, b1, b3, l3, ix, rc]
      unfold f__law_asked
      rw [ess_c, s1, Option.bind_some]
      show evSs (C (n + 1)) _ [some (listE (rowAll G hs)), some (.list [.int a, .int b, .int c]), some (entD (.cell o nm k)), none, none, none, none] S = _
      rw [ess_c, s2, Option.bind_some]
      show evSs (C (n + 1)) _ [some (listE (rowAll G hs)), some (.list [.int a, .int b, .int c]), some (entD (.cell o nm k)), some (.int w), none, none, none] S = _
      rw [ess_c, es_ife, tt, Option.bind_some, if_pos rfl, ess_c, s3, Option.bind_some]
      show ((evSs (C (n + 1)) _ [some (listE (rowAll G hs)), some (.list [.int a, .int b, .int c]), some (entD (.cell o nm k)), some (.int w), none, some (.int (lenC cs nm : Nat)), none] S).bind _) = _
      rw [ess_c, es_ret, rr]
      rfl
    · rw [cell_address m (i1 m S) (i2 m S) i3 i4 w, j2]
      congr 3
      omega
  | field o k nm =>
    obtain ⟨o', fs, kk, cs, rfl, e1, i1, i2, i3, i4, i5⟩ := field_info ok hm
    have c0 := Int.emod_nonneg c (show (4 : Int) ≠ 0 by decide)
    have c1 := Int.emod_lt_of_pos c (show (0 : Int) < 4 by decide)
    obtain ⟨w2, hw2⟩ : ∃ w2 : Int, atI [PyData.int (100 + (k : Nat)), .int (200 + (k : Nat)), .int w, .int w] (c % 4) = some (.int w2) := get_at (sc := [PyData.int (100 + (k : Nat)), .int (200 + (k : Nat)), .int w, .int w]) (fun d hd => by
      simp only [List.mem_cons, List.not_mem_nil, or_false] at hd
      rcases hd with rfl | rfl | rfl | rfl <;> exact ⟨_, rfl⟩) c0 (by simpa using c1)
    have sok : PyData.strOk nm = true := i3 nm i1
    have hb : decide (100 ≤ w2 ∧ w2 < 100 + (kk : Nat)) = true ↔ ∃ j : Nat, w2 - 100 = (j : Nat) ∧ Ent.field (o' : Nat) j nm ∈ rowAll G hs := by
      rw [decide_eq_true_iff]
      constructor
      · intro h
        exact ⟨(w2 - 100).toNat, by omega, (i4 _).mpr (by omega)⟩
      · rintro ⟨j, hj, hm2⟩
        have := (i4 j).mp hm2
        omega
    have inn := any_fld ok (o := (o' : Nat)) (j := w2 - 100) sok S hb
    have s3 : evS (C (n + 1)) (.ife (.val (.cmp .Eq (.sub (.var 2) (.cst (.int 0))) (.cst (.str (Str.ofString "cell"))))) (.cons (.asg (.nm 5) (.bi .len false (.cons (.lc false (.var 6) (.nm 6) (.over (.var 0)) (.cons (.val (.cmp .Eq (.slc false (.var 6) .gap (.at (.cst (.int 3)))) (.slc false (.var 2) .gap (.at (.cst (.int 3)))))) .nil) [6]) .nil)))
        (.cons (.ret (.tup (.cons (.var 2) (.cons (.var 3) (.cons (.idx (.var 0) (.op .add false (.slc false (.var 2) .gap (.at (.cst (.int 3)))) (.tup (.cons (.op .mod false (.bi .int false (.cons (.var 3) .nil)) (.var 5)) .nil)))) .nil))))) .nil)) .nil) [some (listE (rowAll G hs)), some (.list [.int a, .int b, .int c]), some (entD (.field (o' : Nat) k nm)), some (.int w), none, none, none] S = some (.nx, [some (listE (rowAll G hs)), some (.list [.int a, .int b, .int c]), some (entD (.field (o' : Nat) k nm)), some (.int w), none, none, none], S) := by
      simp -implicitDefEqProofs [e_var, e_cst, e_glo, e_op, e_neg, e_cmp, e_cmp2, e_bop, e_not, e_ife, e_tup, e_lst, e_sub, e_slc, e_rvs, e_call, e_bi, e_rgl, e_isi, e_meth, e_idx, eb_1, eb_2, et_val, et_not, et_bop, ets_1, ets_2, eo_g, eo_a, ea_n, ea_c, es_asg, es_par, es_aug, es_put, es_ex, es_ret, es_retN, es_ife, ess_n, ess_c, tgv, tgvs, callv, callv.fin, Option.bind_some, Option.map_some, List.getElem?_cons_zero, List.getElem?_cons_succ, List.set_cons_zero, List.set_cons_succ, asRf_rf, ixN, smallI, wipeD, entD]
    have s4 : evS (C (n + 1)) (.asg (.nm 3) (.sub (.lst false (.cons (.op .add false (.cst (.int 100)) (.sub (.var 2) (.cst (.int 2)))) (.cons (.op .add false (.cst (.int 200)) (.sub (.var 2) (.cst (.int 2)))) (.cons (.var 3) (.cons (.var 3) .nil))))) (.op .mod false (.bi .int false (.cons (.sub (.var 1) (.cst (.int 2))) .nil)) (.cst (.int 4))))) [some (listE (rowAll G hs)), some (.list [.int a, .int b, .int c]), some (entD (.field (o' : Nat) k nm)), some (.int w), none, none, none] S = some (.nx, [some (listE (rowAll G hs)), some (.list [.int a, .int b, .int c]), some (entD (.field (o' : Nat) k nm)), some (.int w2), none, none, none], S) := by
      simp -implicitDefEqProofs [e_var, e_cst, e_glo, e_op, e_neg, e_cmp, e_cmp2, e_bop, e_not, e_ife, e_tup, e_lst, e_sub, e_slc, e_rvs, e_call, e_bi, e_rgl, e_isi, e_meth, e_idx, eb_1, eb_2, et_val, et_not, et_bop, ets_1, ets_2, eo_g, eo_a, ea_n, ea_c, es_asg, es_par, es_aug, es_put, es_ex, es_ret, es_retN, es_ife, ess_n, ess_c, tgv, tgvs, callv, callv.fin, Option.bind_some, Option.map_some, List.getElem?_cons_zero, List.getElem?_cons_succ, List.set_cons_zero, List.set_cons_succ, asRf_rf, ixN, smallI, wipeD, entD, b4, hw2]
    have s5 : evS (C (n + 1)) (.asg (.nm 4) (.neg (.cst (.int 1)))) [some (listE (rowAll G hs)), some (.list [.int a, .int b, .int c]), some (entD (.field (o' : Nat) k nm)), some (.int w2), none, none, none] S = some (.nx, [some (listE (rowAll G hs)), some (.list [.int a, .int b, .int c]), some (entD (.field (o' : Nat) k nm)), some (.int w2), some (.int (-1)), none, none], S) := by
      simp -implicitDefEqProofs [e_var, e_cst, e_glo, e_op, e_neg, e_cmp, e_cmp2, e_bop, e_not, e_ife, e_tup, e_lst, e_sub, e_slc, e_rvs, e_call, e_bi, e_rgl, e_isi, e_meth, e_idx, eb_1, eb_2, et_val, et_not, et_bop, ets_1, ets_2, eo_g, eo_a, ea_n, ea_c, es_asg, es_par, es_aug, es_put, es_ex, es_ret, es_retN, es_ife, ess_n, ess_c, tgv, tgvs, callv, callv.fin, Option.bind_some, Option.map_some, List.getElem?_cons_zero, List.getElem?_cons_succ, List.set_cons_zero, List.set_cons_succ, asRf_rf, ixN, smallI, wipeD]
    have te : evE (C (n + 1)) (.tup (.cons (.cst (.str (Str.ofString "field"))) (.cons (.sub (.var 2) (.cst (.int 1))) (.cons (.op .sub false (.var 3) (.cst (.int 100))) (.cons (.sub (.var 2) (.cst (.int 3))) .nil))))) [some (listE (rowAll G hs)), some (.list [.int a, .int b, .int c]), some (entD (.field (o' : Nat) k nm)), some (.int w2), some (.int (-1)), none, none] S = some (.tuple [.str (Str.ofString "field"), .int (o' : Nat), .int (w2 - 100), .str nm], S) := by
      simp -implicitDefEqProofs [e_var, e_cst, e_glo, e_op, e_neg, e_cmp, e_cmp2, e_bop, e_not, e_ife, e_tup, e_lst, e_sub, e_slc, e_rvs, e_call, e_bi, e_rgl, e_isi, e_meth, e_idx, eb_1, eb_2, et_val, et_not, et_bop, ets_1, ets_2, eo_g, eo_a, ea_n, ea_c, es_asg, es_par, es_aug, es_put, es_ex, es_ret, es_retN, es_ife, ess_n, ess_c, tgv, tgvs, callv, callv.fin, Option.bind_some, Option.map_some, List.getElem?_cons_zero, List.getElem?_cons_succ, List.set_cons_zero, List.set_cons_succ, asRf_rf, ixN, smallI, wipeD, entD, b4]
    have v0 : evE (C (n + 1)) (.var 0) [some (listE (rowAll G hs)), some (.list [.int a, .int b, .int c]), some (entD (.field (o' : Nat) k nm)), some (.int w2), some (.int (-1)), none, none] S = some (listE (rowAll G hs), S) := by
      rw [e_var]; rfl
    have tt : evT (C (n + 1)) (.val (.cmp .In (.tup (.cons (.cst (.str (Str.ofString "field"))) (.cons (.sub (.var 2) (.cst (.int 1))) (.cons (.op .sub false (.var 3) (.cst (.int 100))) (.cons (.sub (.var 2) (.cst (.int 3))) .nil))))) (.var 0))) [some (listE (rowAll G hs)), some (.list [.int a, .int b, .int c]), some (entD (.field (o' : Nat) k nm)), some (.int w2), some (.int (-1)), none, none] S = some (decide (100 ≤ w2 ∧ w2 < 100 + (kk : Nat)), S) := by
      rw [et_val, e_cmp, te, Option.bind_some, v0, Option.bind_some, inn]
      rfl
    have fin : ∀ due : Int, evSs (C (n + 1)) (.cons (.ret (.tup (.cons (.var 2) (.cons (.var 3) (.cons (.var 4) .nil))))) .nil) [some (listE (rowAll G hs)), some (.list [.int a, .int b, .int c]), some (entD (.field (o' : Nat) k nm)), some (.int w2), some (.int due), none, none] S = some (.rt (.tuple [entD (.field (o' : Nat) k nm), .int w2, .int due]), [some (listE (rowAll G hs)), some (.list [.int a, .int b, .int c]), some (entD (.field (o' : Nat) k nm)), some (.int w2), some (.int due), none, none], S) := fun due => by
      simp -implicitDefEqProofs [e_var, e_cst, e_glo, e_op, e_neg, e_cmp, e_cmp2, e_bop, e_not, e_ife, e_tup, e_lst, e_sub, e_slc, e_rvs, e_call, e_bi, e_rgl, e_isi, e_meth, e_idx, eb_1, eb_2, et_val, et_not, et_bop, ets_1, ets_2, eo_g, eo_a, ea_n, ea_c, es_asg, es_par, es_aug, es_put, es_ex, es_ret, es_retN, es_ife, ess_n, ess_c, tgv, tgvs, callv, callv.fin, Option.bind_some, Option.map_some, List.getElem?_cons_zero, List.getElem?_cons_succ, List.set_cons_zero, List.set_cons_succ, asRf_rf, ixN, smallI, wipeD, b3]
    have upto : ∀ {R : Option (Fl × DE × Sto)}, evSs (C (n + 1)) (.cons (.ife (.val (.cmp .In (.tup (.cons (.cst (.str (Str.ofString "field"))) (.cons (.sub (.var 2) (.cst (.int 1))) (.cons (.op .sub false (.var 3) (.cst (.int 100))) (.cons (.sub (.var 2) (.cst (.int 3))) .nil))))) (.var 0))) (.cons (.asg (.nm 4) (.idx (.var 0) (.tup (.cons (.cst (.str (Str.ofString "field"))) (.cons (.sub (.var 2) (.cst (.int 1))) (.cons (.op .sub false (.var 3) (.cst (.int 100))) (.cons (.sub (.var 2) (.cst (.int 3))) .nil))))))) .nil) .nil)
        (.cons (.ret (.tup (.cons (.var 2) (.cons (.var 3) (.cons (.var 4) .nil))))) .nil)) [some (listE (rowAll G hs)), some (.list [.int a, .int b, .int c]), some (entD (.field (o' : Nat) k nm)), some (.int w2), some (.int (-1)), none, none] S = R → evSs (C (n + 1)) f__law_asked.body [some (listE (rowAll G hs)), some (.list [.int a, .int b, .int c]), none, none, none, none, none] S = R := fun {R} h => by
      unfold f__law_asked
      rw [ess_c, s1, Option.bind_some]
      show evSs (C (n + 1)) _ [some (listE (rowAll G hs)), some (.list [.int a, .int b, .int c]), some (entD (.field (o' : Nat) k nm)), none, none, none, none] S = _
      rw [ess_c, s2, Option.bind_some]
      show evSs (C (n + 1)) _ [some (listE (rowAll G hs)), some (.list [.int a, .int b, .int c]), some (entD (.field (o' : Nat) k nm)), some (.int w), none, none, none] S = _
      rw [ess_c, s3, Option.bind_some]
      show evSs (C (n + 1)) _ [some (listE (rowAll G hs)), some (.list [.int a, .int b, .int c]), some (entD (.field (o' : Nat) k nm)), some (.int w), none, none, none] S = _
      rw [ess_c, s4, Option.bind_some]
      show evSs (C (n + 1)) _ [some (listE (rowAll G hs)), some (.list [.int a, .int b, .int c]), some (entD (.field (o' : Nat) k nm)), some (.int w2), none, none, none] S = _
      rw [ess_c, s5, Option.bind_some]
      exact h
    by_cases hin : 100 ≤ w2 ∧ w2 < 100 + (kk : Nat)
    · have hj : (w2 - 100).toNat < kk := by omega
      have ix := idx_row ok ((i4 _).mpr hj) S
      have ee : entD (.field (o' : Nat) (w2 - 100).toNat nm) = .tuple [.str (Str.ofString "field"), .int (o' : Nat), .int (w2 - 100), .str nm] := by
        show PyData.tuple [.str (Str.ofString "field"), .int (o' : Nat), .int (((w2 - 100).toNat : Nat) : Int), .str nm] = _
        rw [show (((w2 - 100).toNat : Nat) : Int) = w2 - 100 by omega]
      rw [ee] at ix
      refine ⟨.field (o' : Nat) k nm, w2, ((addr G hs (.field (o' : Nat) (w2 - 100).toNat nm) : Nat) : Int), callv_rt rfl rfl (δ' := [some (listE (rowAll G hs)), some (.list [.int a, .int b, .int c]), some (entD (.field (o' : Nat) k nm)), some (.int w2), some (.int ((addr G hs (.field (o' : Nat) (w2 - 100).toNat nm) : Nat) : Int)), none, none]) ?_, .inr ⟨_, k, nm, rfl, fun m S => ?_⟩⟩
      · refine upto ?_
        rw [decide_eq_true hin] at tt
        rw [ess_c, es_ife, tt, Option.bind_some, if_pos rfl, ess_c, es_asg, e_idx, v0, Option.bind_some]
        show (((((if rcvT (listE (rowAll G hs)) S then _ else _ : Option (D × Sto))).bind _).bind _).bind _) = _
        rw [if_pos (show rcvT (listE (rowAll G hs)) S = true from rfl)]
        show ((((((evE (C (n + 1)) _ _ S).bind _ : Option (D × Sto))).bind _).bind _).bind _) = _
        rw [te, Option.bind_some]
        show ((((((idxv (listE (rowAll G hs)) _ S).map _ : Option (D × Sto))).bind _).bind _).bind _) = _
        rw [ix]
        show ((evSs (C (n + 1)) .nil _ S).bind _) = _
        rw [ess_n, Option.bind_some]
        exact fin _
      · rw [field_address m e1 i3 i2 i1 w2, if_pos hin, i5]
    · refine ⟨.field (o' : Nat) k nm, w2, -1, callv_rt rfl rfl (δ' := [some (listE (rowAll G hs)), some (.list [.int a, .int b, .int c]), some (entD (.field (o' : Nat) k nm)), some (.int w2), some (.int (-1)), none, none]) ?_, .inr ⟨_, k, nm, rfl, fun m S => ?_⟩⟩
      · refine upto ?_
        rw [decide_eq_false hin] at tt
        rw [ess_c, es_ife, tt, Option.bind_some, if_neg (show ¬ (false = true) from Bool.false_ne_true)]
        show ((evSs (C (n + 1)) .nil _ S).bind _) = _
        rw [ess_n, Option.bind_some]
        exact fin _
      · rw [field_address m e1 i3 i2 i1 w2, if_neg hin]
end K00

namespace K00
open PySem PySem.Spec
open PyProof.Rows L2 Ev
abbrev askD (l : List Int) : D := .list (l.map PyData.int)
theorem int3 {l : List Int} (h : l.length = 3) : ∃ a b c, l = [a, b, c] := by
  match l, h with
  | [a, b, c], _ => exact ⟨a, b, c, rfl⟩
abbrev bAsk : Ss := .cons (.asg (.tup (.cons (.nm 7) (.cons (.nm 8) (.cons (.nm 9) .nil)))) (.call 28 (.cons (.var 2) (.cons (.var 5) .nil))))
    (.cons (.ife (.bop true (.cons (.val (.cmp .Eq (.sub (.var 7) (.cst (.int 0))) (.cst (.str (Str.ofString "cell"))))) (.cons (.not (.val (.call 20 (.cons (.call 14 (.cons (.var 3) (.cons (.sub (.var 7) (.cst (.int 1))) (.cons (.sub (.var 7) (.cst (.int 2))) (.cons (.var 8) .nil))))) (.cons (.var 9) .nil))))) .nil))) (.cons (.ret (.cst (.bool false)))
    .nil) .nil)
    (.cons (.ife (.bop true (.cons (.val (.cmp .Eq (.sub (.var 7) (.cst (.int 0))) (.cst (.str (Str.ofString "field"))))) (.cons (.not (.val (.call 20 (.cons (.call 16 (.cons (.var 3) (.cons (.sub (.var 7) (.cst (.int 1))) (.cons (.var 8) (.cons (.sub (.var 7) (.cst (.int 3))) .nil))))) (.cons (.var 9) .nil))))) .nil))) (.cons (.ret (.cst (.bool false)))
    .nil) .nil)
    .nil))
abbrev tAsk (n : Nat) : D → DE → Sto → Option (Fl × DE × Sto) := fun x δ S => (tgv (.nm 5) x δ).bind fun δ' => evSs (C n) bAsk δ' S
theorem ask_turn (n : Nat) (S : Sto) {G : Cs} {hs : List Ho} (ok : SrcOk G hs) (hG : 0 < (rowAll G hs).length) (l : List Int) (hl : l.length = 3) {x0 x1 x4 x5 x6 x7 x8 x9 x10 : Option D} :
    ∃ y5 y7 y8 y9, tAsk (n + 9) (askD l) [x0, x1, some (listE (rowAll G hs)), some (sysD G hs), x4, x5, x6, x7, x8, x9, x10] S = some (.nx, [x0, x1, some (listE (rowAll G hs)), some (sysD G hs), x4, y5, x6, y7, y8, y9, x10], S) := by
  obtain ⟨a, b, c, rfl⟩ := int3 hl
  obtain ⟨e, w, due, h1, h2⟩ := asked (n + 7) S ok hG a b c
  have h1 : fnN T 100 (n + 9) 28 [listE (rowAll G hs), askD [a, b, c]] S = some (.tuple [entD e, .int w, .int due], S) := h1
  have sm : fnN T 100 (n + 9) 20 [.int due, .int due] S = some (.bool true, S) := same S 0 (.int due) rfl (n + 8)
  refine ⟨some (askD [a, b, c]), some (entD e), some (.int w), some (.int due), ?_⟩
  have s1 : evS (C (n + 9)) (.asg (.tup (.cons (.nm 7) (.cons (.nm 8) (.cons (.nm 9) .nil)))) (.call 28 (.cons (.var 2) (.cons (.var 5) .nil)))) [x0, x1, some (listE (rowAll G hs)), some (sysD G hs), x4, some (askD [a, b, c]), x6, x7, x8, x9, x10] S = some (.nx, [x0, x1, some (listE (rowAll G hs)), some (sysD G hs), x4, some (askD [a, b, c]), x6, some (entD e), some (.int w), some (.int due), x10], S) := by
    generalize listE (rowAll G hs) = L at h1
    generalize askD [a, b, c] = A at h1
    simp -implicitDefEqProofs [e_var, e_cst, e_glo, e_op, e_neg, e_cmp, e_cmp2, e_bop, e_not, e_ife, e_tup, e_lst, e_sub, e_slc, e_rvs, e_call, e_bi, e_rgl, e_isi, e_meth, e_idx, eb_1, eb_2, et_val, et_not, et_bop, ets_1, ets_2, eo_g, eo_a, ea_n, ea_c, es_asg, es_par, es_aug, es_put, es_ex, es_ret, es_retN, es_ife, ess_n, ess_c, tgv, tgvs, callv, callv.fin, Option.bind_some, Option.map_some, List.getElem?_cons_zero, List.getElem?_cons_succ, List.set_cons_zero, List.set_cons_succ, asRf_rf, ixN, smallI, wipeD, C_fn, h1]
  show evSs (C (n + 9)) bAsk [x0, x1, some (listE (rowAll G hs)), some (sysD G hs), x4, some (askD [a, b, c]), x6, x7, x8, x9, x10] S = _
  rw [ess_c, s1, Option.bind_some]
  show evSs (C (n + 9)) _ [x0, x1, some (listE (rowAll G hs)), some (sysD G hs), x4, some (askD [a, b, c]), x6, some (entD e), some (.int w), some (.int due), x10] S = _
  generalize listE (rowAll G hs) = L
  generalize askD [a, b, c] = A
  rcases h2 with ⟨o, nm, k, rfl, h3⟩ | ⟨o, k, nm, rfl, h3⟩
  · have h3 : fnN T 100 (n + 9) 14 [sysD G hs, .int o, .str nm, .int w] S = some (.int due, S) := h3 (n + 7) S
    simp -implicitDefEqProofs [e_var, e_cst, e_glo, e_op, e_neg, e_cmp, e_cmp2, e_bop, e_not, e_ife, e_tup, e_lst, e_sub, e_slc, e_rvs, e_call, e_bi, e_rgl, e_isi, e_meth, e_idx, eb_1, eb_2, et_val, et_not, et_bop, ets_1, ets_2, eo_g, eo_a, ea_n, ea_c, es_asg, es_par, es_aug, es_put, es_ex, es_ret, es_retN, es_ife, ess_n, ess_c, tgv, tgvs, callv, callv.fin, Option.bind_some, Option.map_some, List.getElem?_cons_zero, List.getElem?_cons_succ, List.set_cons_zero, List.set_cons_succ, asRf_rf, ixN, smallI, wipeD, C_fn, entD, h3, sm]
  · have h3 : fnN T 100 (n + 9) 16 [sysD G hs, .int o, .int w, .str nm] S = some (.int due, S) := h3 (n + 6) S
    simp -implicitDefEqProofs [e_var, e_cst, e_glo, e_op, e_neg, e_cmp, e_cmp2, e_bop, e_not, e_ife, e_tup, e_lst, e_sub, e_slc, e_rvs, e_call, e_bi, e_rgl, e_isi, e_meth, e_idx, eb_1, eb_2, et_val, et_not, et_bop, ets_1, ets_2, eo_g, eo_a, ea_n, ea_c, es_asg, es_par, es_aug, es_put, es_ex, es_ret, es_retN, es_ife, ess_n, ess_c, tgv, tgvs, callv, callv.fin, Option.bind_some, Option.map_some, List.getElem?_cons_zero, List.getElem?_cons_succ, List.set_cons_zero, List.set_cons_succ, asRf_rf, ixN, smallI, wipeD, C_fn, entD, h3, sm]
abbrev bTold : Ss := .cons (.ife (.not (.val (.call 20 (.cons (.call 18 (.cons (.var 3) (.cons (.var 6) .nil))) (.cons (.sub (.var 2) (.var 6)) .nil))))) (.cons (.ret (.cst (.bool false))) .nil) .nil) .nil
abbrev tTold2 (n : Nat) : D → DE → Sto → Option (Fl × DE × Sto) := fun x δ S => (tgv (.nm 6) x δ).bind fun δ' => evSs (C n) bTold δ' S
theorem fl_ent (e : Ent) : fl 1 (entD e) = true := by cases e <;> rfl
theorem told_turn (n : Nat) (S : Sto) {G : Cs} {hs : List Ho} (ok : SrcOk G hs) {i : Nat} {e : Ent} (he : (rowAll G hs)[i]? = some e) {x0 x1 x4 x5 x6 x7 x8 x9 x10 : Option D} :
    tTold2 (n + 9) (.int (i : Nat)) [x0, x1, some (listE (rowAll G hs)), some (sysD G hs), x4, x5, x6, x7, x8, x9, x10] S = some (.nx, [x0, x1, some (listE (rowAll G hs)), some (sysD G hs), x4, x5, some (.int (i : Nat)), x7, x8, x9, x10], S) := by
  have h1 : fnN T 100 (n + 9) 18 [sysD G hs, .int (i : Nat)] S = some (entD e, S) := told_address (n + 7) ok he
  have sm : fnN T 100 (n + 9) 20 [entD e, entD e] S = some (.bool true, S) := same S 1 (entD e) (fl_ent e) (n + 7)
  have ix := ix_row he (S := S)
  show evSs (C (n + 9)) bTold [x0, x1, some (listE (rowAll G hs)), some (sysD G hs), x4, x5, some (.int (i : Nat)), x7, x8, x9, x10] S = _
  generalize listE (rowAll G hs) = L at ix ⊢
  simp -implicitDefEqProofs [e_var, e_cst, e_glo, e_op, e_neg, e_cmp, e_cmp2, e_bop, e_not, e_ife, e_tup, e_lst, e_sub, e_slc, e_rvs, e_call, e_bi, e_rgl, e_isi, e_meth, e_idx, eb_1, eb_2, et_val, et_not, et_bop, ets_1, ets_2, eo_g, eo_a, ea_n, ea_c, es_asg, es_par, es_aug, es_put, es_ex, es_ret, es_retN, es_ife, ess_n, ess_c, tgv, tgvs, callv, callv.fin, Option.bind_some, Option.map_some, List.getElem?_cons_zero, List.getElem?_cons_succ, List.set_cons_zero, List.set_cons_succ, asRf_rf, ixN, smallI, wipeD, C_fn, h1, ix, sm]
theorem right (n : Nat) (S : Sto) {G : Cs} {hs : List Ho} (ok : SrcOk G hs) (hl : hs.length ≤ 10) (hG : 0 < (rowAll G hs).length) (ls : List (List Int)) (h3 : ∀ l ∈ ls, l.length = 3) : ∃ S', fnN T 100 (n + 10) 29 [srcD G hs, .list (ls.map askD)] S = some (.bool true, S') := by
  have e0 : fnN T 100 (n + 10) 29 [srcD G hs, .list (ls.map askD)] S = callv (C (n + 9)) f__law_right [srcD G hs, .list (ls.map askD)] S := rfl
  rw [e0]
  have b4 := big 4 (by omega)
  have b1 := big 1 (by omega)
  have b0 := big 0 (by omega)
  have ac : fnN T 100 (n + 9) 23 [srcD G hs] S = some (listE (rowAll G hs), S) := all_cells (n + 8) S ok hl
  obtain ⟨S1, sy⟩ := system_of (n + 5) S (G := G) ok.h (by omega)
  have sy : fnN T 100 (n + 9) 11 [srcD G hs] S = some (sysD G hs, S1) := sy
  have lb : fnN T 100 (n + 9) 27 [srcD G hs] S1 = some (basesD G hs, S1) := law_bases (n + 7) S1 ok hl
  have sm : fnN T 100 (n + 9) 20 [sysD G hs, sysD G hs] S1 = some (.bool true, S1) := same S1 8 (sysD G hs) (fl_sys ok hl) n
  have hlen := rowAll_len ok hl
  refine ⟨S1, ?_⟩
  have s1 : evS (C (n + 9)) (.asg (.nm 2) (.call 23 (.cons (.var 0) .nil))) [some (srcD G hs), some (.list (ls.map askD)), none, none, none, none, none, none, none, none, none] S = some (.nx, [some (srcD G hs), some (.list (ls.map askD)), some (listE (rowAll G hs)), none, none, none, none, none, none, none, none], S) := by
    generalize listE (rowAll G hs) = L at ac
    simp -implicitDefEqProofs [e_var, e_cst, e_glo, e_op, e_neg, e_cmp, e_cmp2, e_bop, e_not, e_ife, e_tup, e_lst, e_sub, e_slc, e_rvs, e_call, e_bi, e_rgl, e_isi, e_meth, e_idx, eb_1, eb_2, et_val, et_not, et_bop, ets_1, ets_2, eo_g, eo_a, ea_n, ea_c, es_asg, es_par, es_aug, es_put, es_ex, es_ret, es_retN, es_ife, ess_n, ess_c, tgv, tgvs, callv, callv.fin, Option.bind_some, Option.map_some, List.getElem?_cons_zero, List.getElem?_cons_succ, List.set_cons_zero, List.set_cons_succ, asRf_rf, ixN, smallI, wipeD, C_fn, ac]
  have s2 : evS (C (n + 9)) (.asg (.nm 3) (.call 11 (.cons (.var 0) .nil))) [some (srcD G hs), some (.list (ls.map askD)), some (listE (rowAll G hs)), none, none, none, none, none, none, none, none] S = some (.nx, [some (srcD G hs), some (.list (ls.map askD)), some (listE (rowAll G hs)), some (sysD G hs), none, none, none, none, none, none, none], S1) := by
    generalize listE (rowAll G hs) = L
    simp -implicitDefEqProofs [e_var, e_cst, e_glo, e_op, e_neg, e_cmp, e_cmp2, e_bop, e_not, e_ife, e_tup, e_lst, e_sub, e_slc, e_rvs, e_call, e_bi, e_rgl, e_isi, e_meth, e_idx, eb_1, eb_2, et_val, et_not, et_bop, ets_1, ets_2, eo_g, eo_a, ea_n, ea_c, es_asg, es_par, es_aug, es_put, es_ex, es_ret, es_retN, es_ife, ess_n, ess_c, tgv, tgvs, callv, callv.fin, Option.bind_some, Option.map_some, List.getElem?_cons_zero, List.getElem?_cons_succ, List.set_cons_zero, List.set_cons_succ, asRf_rf, ixN, smallI, wipeD, C_fn, sy]
  have hI : evI (C (n + 9)) (.over (.sub (.var 0) (.cst (.int 1)))) [some (srcD G hs), some (.list (ls.map askD)), some (listE (rowAll G hs)), some (sysD G hs), none, none, none, none, none, none, none] S1 = some ((hs.map hoD, true), S1) := i_T (by simp -implicitDefEqProofs [e_var, e_cst, e_glo, e_op, e_neg, e_cmp, e_cmp2, e_bop, e_not, e_ife, e_tup, e_lst, e_sub, e_slc, e_rvs, e_call, e_bi, e_rgl, e_isi, e_meth, e_idx, eb_1, eb_2, et_val, et_not, et_bop, ets_1, ets_2, eo_g, eo_a, ea_n, ea_c, es_asg, es_par, es_aug, es_put, es_ex, es_ret, es_retN, es_ife, ess_n, ess_c, tgv, tgvs, callv, callv.fin, Option.bind_some, Option.map_some, List.getElem?_cons_zero, List.getElem?_cons_succ, List.set_cons_zero, List.set_cons_succ, asRf_rf, ixN, smallI, wipeD])
  obtain ⟨ys, S2, el, ey, eS⟩ := e_lcinv (m := false) (elt := .ife (.val (.cmp .Eq (.sub (.var 10) (.cst (.int 0))) (.cst (.str (Str.ofString "structure"))))) (.tup (.cons (.tup .nil) .nil)) (.tup .nil)) (t := .nm 10) (own := [10]) (fun i ys S' => ys = (hs.take i).map codeD ∧ S' = S1) hI (fun i x acc S' hx hp => by
    obtain ⟨rfl, rfl⟩ := hp
    rw [List.getElem?_map] at hx
    obtain ⟨h, hh, rfl⟩ := mapE hx
    refine ⟨codeD h, S', ?_, ?_, rfl⟩
    · show evE (C (n + 9)) _ [some (srcD G hs), some (.list (ls.map askD)), some (listE (rowAll G hs)), some (sysD G hs), none, none, none, none, none, none, some (hoD h)] S' = _
      cases h <;> simp -implicitDefEqProofs [e_var, e_cst, e_glo, e_op, e_neg, e_cmp, e_cmp2, e_bop, e_not, e_ife, e_tup, e_lst, e_sub, e_slc, e_rvs, e_call, e_bi, e_rgl, e_isi, e_meth, e_idx, eb_1, eb_2, et_val, et_not, et_bop, ets_1, ets_2, eo_g, eo_a, ea_n, ea_c, es_asg, es_par, es_aug, es_put, es_ex, es_ret, es_retN, es_ife, ess_n, ess_c, tgv, tgvs, callv, callv.fin, Option.bind_some, Option.map_some, List.getElem?_cons_zero, List.getElem?_cons_succ, List.set_cons_zero, List.set_cons_succ, asRf_rf, ixN, smallI, wipeD, hoD, codeD, b1]
    · rw [List.take_add_one, hh]
      simp) ⟨rfl, rfl⟩
  rw [List.length_map, List.take_length] at ey
  subst ey eS
  have s3 : evS (C (n + 9)) (.asg (.nm 4) (.bi .tuple false (.cons (.lc false (.ife (.val (.cmp .Eq (.sub (.var 10) (.cst (.int 0))) (.cst (.str (Str.ofString "structure"))))) (.tup (.cons (.tup .nil) .nil)) (.tup .nil)) (.nm 10) (.over (.sub (.var 0) (.cst (.int 1)))) .nil [10]) .nil))) [some (srcD G hs), some (.list (ls.map askD)), some (listE (rowAll G hs)), some (sysD G hs), none, none, none, none, none, none, none] S2 = some (.nx, [some (srcD G hs), some (.list (ls.map askD)), some (listE (rowAll G hs)), some (sysD G hs), some (.tuple (hs.map codeD)), none, none, none, none, none, none], S2) := by
    rw [es_asg, e_bi, ea_c, el, Option.bind_some, ea_n, Option.map_some, Option.bind_some, mkl_f, b_tupL]
    rfl
  have s4 : evS (C (n + 9)) (.ife (.not (.val (.call 20 (.cons (.var 3) (.cons (.tup (.cons (.var 0) (.cons (.call 27 (.cons (.var 0) .nil)) (.cons (.var 4) (.cons (.tup (.cons (.tup .nil) .nil)) .nil))))) .nil))))) (.cons (.ret (.cst (.bool false))) .nil) .nil) [some (srcD G hs), some (.list (ls.map askD)), some (listE (rowAll G hs)), some (sysD G hs), some (.tuple (hs.map codeD)), none, none, none, none, none, none] S2 = some (.nx, [some (srcD G hs), some (.list (ls.map askD)), some (listE (rowAll G hs)), some (sysD G hs), some (.tuple (hs.map codeD)), none, none, none, none, none, none], S2) := by
    have ee : PyData.tuple [srcD G hs, basesD G hs, .tuple (hs.map codeD), .tuple [.tuple []]] = sysD G hs := rfl
    generalize listE (rowAll G hs) = L
    simp -implicitDefEqProofs [e_var, e_cst, e_glo, e_op, e_neg, e_cmp, e_cmp2, e_bop, e_not, e_ife, e_tup, e_lst, e_sub, e_slc, e_rvs, e_call, e_bi, e_rgl, e_isi, e_meth, e_idx, eb_1, eb_2, et_val, et_not, et_bop, ets_1, ets_2, eo_g, eo_a, ea_n, ea_c, es_asg, es_par, es_aug, es_put, es_ex, es_ret, es_retN, es_ife, ess_n, ess_c, tgv, tgvs, callv, callv.fin, Option.bind_some, Option.map_some, List.getElem?_cons_zero, List.getElem?_cons_succ, List.set_cons_zero, List.set_cons_succ, asRf_rf, ixN, smallI, wipeD, C_fn, lb, b4, b1, ee, sm]
  have hI5 : evI (C (n + 9)) (.over (.var 1)) [some (srcD G hs), some (.list (ls.map askD)), some (listE (rowAll G hs)), some (sysD G hs), some (.tuple (hs.map codeD)), none, none, none, none, none, none] S2 = some ((ls.map askD, true), S2) := i_L (by rw [e_var]; rfl)
  obtain ⟨δ5, S5, l5, y5, y7, y8, y9, rfl, rfl⟩ := forv_nx (turn := tAsk (n + 9)) (fun _ δ S' => ∃ y5 y7 y8 y9, δ = [some (srcD G hs), some (.list (ls.map askD)), some (listE (rowAll G hs)), some (sysD G hs), some (.tuple (hs.map codeD)), y5, none, y7, y8, y9, none] ∧ S' = S2) (xs := ls.map askD) 0 (fun i x δ S' hx hp => by
    obtain ⟨y5, y7, y8, y9, rfl, rfl⟩ := hp
    obtain ⟨l, hm, rfl⟩ := List.mem_map.mp (List.mem_of_getElem? hx)
    obtain ⟨z5, z7, z8, z9, t⟩ := ask_turn n S' ok hG l (h3 l hm) (x0 := some (srcD G hs)) (x1 := some (.list (ls.map askD))) (x4 := some (.tuple (hs.map codeD))) (x5 := y5) (x6 := none) (x7 := y7) (x8 := y8) (x9 := y9) (x10 := none)
    exact ⟨.nx, _, _, t, .inl rfl, z5, z7, z8, z9, rfl, rfl⟩) ⟨none, none, none, none, rfl, rfl⟩
  have hI6 : evI (C (n + 9)) (.rng (.cons (.bi .len false (.cons (.var 2) .nil)) .nil)) [some (srcD G hs), some (.list (ls.map askD)), some (listE (rowAll G hs)), some (sysD G hs), some (.tuple (hs.map codeD)), y5, none, y7, y8, y9, none] S5 = some ((rngD 0 (rowAll G hs).length, true), S5) := i_R (by
    have q3 : biv .len false [listE (rowAll G hs)] S5 = some (.int ((rowAll G hs).length : Nat), S5) := by rw [l_L, List.length_map]
    generalize listE (rowAll G hs) = L at q3
    simp -implicitDefEqProofs [e_var, e_cst, e_glo, e_op, e_neg, e_cmp, e_cmp2, e_bop, e_not, e_ife, e_tup, e_lst, e_sub, e_slc, e_rvs, e_call, e_bi, e_rgl, e_isi, e_meth, e_idx, eb_1, eb_2, et_val, et_not, et_bop, ets_1, ets_2, eo_g, eo_a, ea_n, ea_c, es_asg, es_par, es_aug, es_put, es_ex, es_ret, es_retN, es_ife, ess_n, ess_c, tgv, tgvs, callv, callv.fin, Option.bind_some, Option.map_some, List.getElem?_cons_zero, List.getElem?_cons_succ, List.set_cons_zero, List.set_cons_succ, asRf_rf, ixN, smallI, wipeD, q3]) (by omega)
  obtain ⟨δ6, S6, l6, y6, rfl, rfl⟩ := forv_nx (turn := tTold2 (n + 9)) (fun _ δ S' => ∃ y6, δ = [some (srcD G hs), some (.list (ls.map askD)), some (listE (rowAll G hs)), some (sysD G hs), some (.tuple (hs.map codeD)), y5, y6, y7, y8, y9, none] ∧ S' = S5) (xs := rngD 0 (rowAll G hs).length) 0 (fun i x δ S' hx hp => by
    obtain ⟨y6, rfl, rfl⟩ := hp
    obtain ⟨rfl, hi⟩ := rngD_get hx
    rw [Int.zero_add]
    exact ⟨.nx, _, _, told_turn n S' ok (List.getElem?_eq_getElem hi), .inl rfl, _, rfl, rfl⟩) (δ := [some (srcD G hs), some (.list (ls.map askD)), some (listE (rowAll G hs)), some (sysD G hs), some (.tuple (hs.map codeD)), y5, none, y7, y8, y9, none]) (S := S5) ⟨none, rfl, rfl⟩
  refine callv_rt rfl rfl (δ' := [some (srcD G hs), some (.list (ls.map askD)), some (listE (rowAll G hs)), some (sysD G hs), some (.tuple (hs.map codeD)), y5, y6, y7, y8, y9, none]) ?_
  show evSs (C (n + 9)) f__law_right.body [some (srcD G hs), some (.list (ls.map askD)), none, none, none, none, none, none, none, none, none] S = _
  unfold f__law_right
  rw [ess_c, s1, Option.bind_some]
  show evSs (C (n + 9)) _ [some (srcD G hs), some (.list (ls.map askD)), some (listE (rowAll G hs)), none, none, none, none, none, none, none, none] S = _
  rw [ess_c, s2, Option.bind_some]
  show evSs (C (n + 9)) _ [some (srcD G hs), some (.list (ls.map askD)), some (listE (rowAll G hs)), some (sysD G hs), none, none, none, none, none, none, none] S6 = _
  rw [ess_c, s3, Option.bind_some]
  show evSs (C (n + 9)) _ [some (srcD G hs), some (.list (ls.map askD)), some (listE (rowAll G hs)), some (sysD G hs), some (.tuple (hs.map codeD)), none, none, none, none, none, none] S6 = _
  rw [ess_c, s4, Option.bind_some]
  show evSs (C (n + 9)) _ [some (srcD G hs), some (.list (ls.map askD)), some (listE (rowAll G hs)), some (sysD G hs), some (.tuple (hs.map codeD)), none, none, none, none, none, none] S6 = _
  rw [ess_c, es_loop, hI5, Option.bind_some]
  show ((forv (tAsk (n + 9)) (ls.map askD) _ S6).bind _) = _
  rw [l5, Option.bind_some]
  show evSs (C (n + 9)) _ [some (srcD G hs), some (.list (ls.map askD)), some (listE (rowAll G hs)), some (sysD G hs), some (.tuple (hs.map codeD)), y5, none, y7, y8, y9, none] S6 = _
  rw [ess_c, es_loop, hI6, Option.bind_some]
  show ((forv (tTold2 (n + 9)) (rngD 0 (rowAll G hs).length) _ S6).bind _) = _
  rw [l6, Option.bind_some]
  show evSs (C (n + 9)) _ [some (srcD G hs), some (.list (ls.map askD)), some (listE (rowAll G hs)), some (sysD G hs), some (.tuple (hs.map codeD)), y5, y6, y7, y8, y9, none] S6 = _
  rw [ess_c, es_ret, e_cst]
  rfl
end K00

namespace K00
open PySem PySem.Spec
open PyProof.Rows L2 Ev
def turns : Nat := 100
def depth : Nat := 30
theorem int8 {l : List Int} (h : l.length = 8) : ∃ a b c d e f g h, l = [a, b, c, d, e, f, g, h] := by
  match l, h with
  | [a, b, c, d, e, f, g, h], _ => exact ⟨a, b, c, d, e, f, g, h, rfl⟩
abbrev bLaw : Ss := .cons (.ex (.meth .append (.var 3) (.cons (.call 26 (.cons (.call 24 (.cons (.var 1) (.cons (.cst (.int 8)) .nil))) (.cons (.ife (.val (.var 3)) (.sub (.var 3) (.cst (.int 0))) (.cst .none)) .nil))) .nil))) .nil
abbrev tLaw (n : Nat) : D → DE → Sto → Option (Fl × DE × Sto) := fun x δ S => (tgv (.nm 4) x δ).bind fun δ' => evSs (C n) bLaw δ' S
theorem law_turn (n : Nat) {sc : List D} (hi : allI sc) {o : Ob} (t : Tape sc o) {hs : List Ho} (ok : ∀ h ∈ hs, HoOk h) (hl : hs.length ≤ 20) (x : D) {x0 x2 x4 x5 x6 x7 x8 : Option D} :
    ∃ h o', tLaw (n + 2) x [x0, some (rf 0), x2, some (rf 1), x4, x5, x6, x7, x8] [o, .lst (hs.map hoD)] = some (.nx, [x0, some (rf 0), x2, some (rf 1), some x, x5, x6, x7, x8], [o', .lst ((hs ++ [h]).map hoD)]) ∧ HoOk h ∧ Tape sc o' := by
  obtain ⟨l, o', e1, hl8, lb, t'⟩ := row hi t n [.lst (hs.map hoD)] (k := 8) (by omega)
  obtain ⟨a, b, c, d, e, f, g, h, rfl⟩ := int8 hl8
  have pos : ∀ z ∈ [a, b, c, d, e, f, g, h], 0 ≤ z := fun z hz => (lb z hz).1
  have sq : seqv (rf 1) [o, .lst (hs.map hoD)] = some (hs.map hoD) := sq_rf rfl
  have sq' : seqv (rf 1) [o', .lst (hs.map hoD)] = some (hs.map hoD) := sq_rf rfl
  have tr : truv (rf 1) [o', .lst (hs.map hoD)] = some (!(hs.map hoD).isEmpty) := by
    show ((seqv (rf 1) [o', .lst (hs.map hoD)]).map fun xs => !xs.isEmpty) = _
    rw [sq']
    rfl
  have fo : ∃ y, FirstOk y ∧ evE (C (n + 2)) (.ife (.val (.var 3)) (.sub (.var 3) (.cst (.int 0))) (.cst .none)) [x0, some (rf 0), x2, some (rf 1), some x, x5, x6, x7, x8] [o', .lst (hs.map hoD)] = some (y, [o', .lst (hs.map hoD)]) := by
    cases hs with
    | nil =>
      refine ⟨.none, .inl rfl, ?_⟩
      simp only [List.map_nil] at tr ⊢
      simp -implicitDefEqProofs [e_var, e_cst, e_glo, e_op, e_neg, e_cmp, e_cmp2, e_bop, e_not, e_ife, e_tup, e_lst, e_sub, e_slc, e_rvs, e_call, e_bi, e_rgl, e_isi, e_meth, e_idx, eb_1, eb_2, et_val, et_not, et_bop, ets_1, ets_2, eo_g, eo_a, ea_n, ea_c, es_asg, es_par, es_aug, es_put, es_ex, es_ret, es_retN, es_ife, ess_n, ess_c, tgv, tgvs, callv, callv.fin, Option.bind_some, Option.map_some, List.getElem?_cons_zero, List.getElem?_cons_succ, List.set_cons_zero, List.set_cons_succ, asRf_rf, ixN, smallI, wipeD, tr]
    | cons h0 r =>
      refine ⟨hoD h0, .inr ⟨h0, rfl, ok h0 List.mem_cons_self⟩, ?_⟩
      have ix : ixv (rf 1) (.int 0) [o', .lst ((h0 :: r).map hoD)] = some (hoD h0) := by
        rw [x_rf (xs := (h0 :: r).map hoD) rfl]
        exact at_0
      simp only [List.map_cons] at tr ix ⊢
      simp -implicitDefEqProofs [e_var, e_cst, e_glo, e_op, e_neg, e_cmp, e_cmp2, e_bop, e_not, e_ife, e_tup, e_lst, e_sub, e_slc, e_rvs, e_call, e_bi, e_rgl, e_isi, e_meth, e_idx, eb_1, eb_2, et_val, et_not, et_bop, ets_1, ets_2, eo_g, eo_a, ea_n, ea_c, es_asg, es_par, es_aug, es_put, es_ex, es_ret, es_retN, es_ife, ess_n, ess_c, tgv, tgvs, callv, callv.fin, Option.bind_some, Option.map_some, List.getElem?_cons_zero, List.getElem?_cons_succ, List.set_cons_zero, List.set_cons_succ, asRf_rf, ixN, smallI, wipeD, tr, ix]
  obtain ⟨y, hy, ey⟩ := fo
  obtain ⟨h9, e9, ok9⟩ := some_object n [o', .lst (hs.map hoD)] (a := a) (b := b) (c := c) (d := d) (e := e) (f := f) (g := g) (h := h) (pos c (by simp)) (pos d (by simp)) (pos e (by simp)) (pos f (by simp)) (pos g (by simp)) (pos h (by simp)) hy
  have e1 : fnN T 100 (n + 2) 24 [rf 0, .int 8] [o, .lst (hs.map hoD)] = some (l8 a b c d e f g h, [o', .lst (hs.map hoD)]) := e1
  have ap : mtv .append (rf 1) [hoD h9] [o', .lst (hs.map hoD)] = some (.none, [o', .lst (hs.map hoD ++ [hoD h9])]) := app_last (S := [o']) (ys := hs.map hoD) (d := hoD h9) (by rw [List.length_map]; omega)
  refine ⟨h9, o', ?_, ok9, t'⟩
  show evSs (C (n + 2)) bLaw [x0, some (rf 0), x2, some (rf 1), some x, x5, x6, x7, x8] [o, .lst (hs.map hoD)] = _
  have ag : evE (C (n + 2)) (.call 26 (.cons (.call 24 (.cons (.var 1) (.cons (.cst (.int 8)) .nil))) (.cons (.ife (.val (.var 3)) (.sub (.var 3) (.cst (.int 0))) (.cst .none)) .nil))) [x0, some (rf 0), x2, some (rf 1), some x, x5, x6, x7, x8] [o, .lst (hs.map hoD)] = some (hoD h9, [o', .lst (hs.map hoD)]) := by
    have g1 : evE (C (n + 2)) (.call 24 (.cons (.var 1) (.cons (.cst (.int 8)) .nil))) [x0, some (rf 0), x2, some (rf 1), some x, x5, x6, x7, x8] [o, .lst (hs.map hoD)] = some (l8 a b c d e f g h, [o', .lst (hs.map hoD)]) := by
      simp -implicitDefEqProofs [e_var, e_cst, e_glo, e_op, e_neg, e_cmp, e_cmp2, e_bop, e_not, e_ife, e_tup, e_lst, e_sub, e_slc, e_rvs, e_call, e_bi, e_rgl, e_isi, e_meth, e_idx, eb_1, eb_2, et_val, et_not, et_bop, ets_1, ets_2, eo_g, eo_a, ea_n, ea_c, es_asg, es_par, es_aug, es_put, es_ex, es_ret, es_retN, es_ife, ess_n, ess_c, tgv, tgvs, callv, callv.fin, Option.bind_some, Option.map_some, List.getElem?_cons_zero, List.getElem?_cons_succ, List.set_cons_zero, List.set_cons_succ, asRf_rf, ixN, smallI, wipeD, C_fn, e1]
    rw [e_call, ea_c, g1, Option.bind_some, ea_c, ey, Option.bind_some, ea_n, Option.map_some, Option.map_some, Option.bind_some, C_fn, e9]
  rw [List.map_append, ess_c, es_ex, e_meth, e_var]
  show (((((some ((rf 1, [o, .lst (hs.map hoD)]) : D × Sto)).bind _ : Option (D × Sto))).map _).bind _) = _
  rw [Option.bind_some]
  show (((((if (seqv (rf 1) [o, .lst (hs.map hoD)]).isSome = true then _ else _ : Option (D × Sto)))).map _).bind _) = _
  rw [sq, if_pos (show (some (hs.map hoD)).isSome = true from rfl)]
  show (((((evA (C (n + 2)) _ _ [o, .lst (hs.map hoD)]).bind _ : Option (D × Sto))).map _).bind _) = _
  rw [ea_c, ag, Option.bind_some, ea_n, Option.map_some, Option.bind_some, ap]
  show ((some _).bind _) = _
  rw [Option.bind_some]
  exact ess_n
abbrev thrD : D := .tuple [wayD]
theorem law_true (ns : List Int) (_hl : ns.length ≤ 63) : ∃ S', fnN T turns depth 30 [frn (ns.map PyData.int)] [] = some (.bool true, S') := by
  have hi : allI (ns.map PyData.int) := fun d hd => by
    obtain ⟨i, _, rfl⟩ := List.mem_map.mp hd
    exact ⟨i, rfl⟩
  generalize ns.map PyData.int = sc at hi
  have e0 : fnN T turns depth 30 [frn sc] [] = callv (C 29) f_law [frn sc] [] := rfl
  rw [e0]
  have b3 := big 3 (by omega)
  have b1 := big 1 (by omega)
  -- tape
  obtain ⟨o1, et, t1⟩ := tape 28 hi
  have s1 : evS (C 29) (.asg (.nm 1) (.call 22 (.cons (.var 0) .nil))) [some (frn sc), none, none, none, none, none, none, none, none] [] = some (.nx, [some (frn sc), some (rf 0), none, none, none, none, none, none, none], [o1]) := by
    simp -implicitDefEqProofs [e_var, e_cst, e_glo, e_op, e_neg, e_cmp, e_cmp2, e_bop, e_not, e_ife, e_tup, e_lst, e_sub, e_slc, e_rvs, e_call, e_bi, e_rgl, e_isi, e_meth, e_idx, eb_1, eb_2, et_val, et_not, et_bop, ets_1, ets_2, eo_g, eo_a, ea_n, ea_c, es_asg, es_par, es_aug, es_put, es_ex, es_ret, es_retN, es_ife, ess_n, ess_c, tgv, tgvs, callv, callv.fin, Option.bind_some, Option.map_some, List.getElem?_cons_zero, List.getElem?_cons_succ, List.set_cons_zero, List.set_cons_succ, asRf_rf, ixN, smallI, wipeD, C_fn, et]
  -- cells
  obtain ⟨l4, o2, e4, h4, p4, t2⟩ := row hi t1 27 [] (k := 4) (by omega)
  obtain ⟨a, b, c, e, rfl⟩ := int4 h4
  have e4 : fnN T 100 29 24 [rf 0, .int 4] [o1] = some (.list [.int a, .int b, .int c, .int e], [o2]) := e4
  obtain ⟨r, o3, e5, r0, r1, t3⟩ := draw hi t2 28 [] (c := 3) (by decide) (by decide)
  have e5 : fnN T 100 29 21 [rf 0, .int 3] [o2] = some (.int r, [o3]) := e5
  have pos : ∀ z ∈ [a, b, c, e], 0 ≤ z := fun z hz => (p4 z hz).1
  obtain ⟨G, e6, okG, lG⟩ := some_cells 28 [o3] (a := a) (b := b) (c := c) (e := e) (pos b (by simp)) (pos c (by simp)) (pos e (by simp)) (many := (1 + r).toNat) (by omega)
  rw [show (((1 + r).toNat : Nat) : Int) = 1 + r by omega] at e6
  have s2 : evS (C 29) (.asg (.nm 2) (.call 25 (.cons (.call 24 (.cons (.var 1) (.cons (.cst (.int 4)) .nil))) (.cons (.op .add false (.cst (.int 1)) (.call 21 (.cons (.var 1) (.cons (.cst (.int 3)) .nil)))) .nil)))) [some (frn sc), some (rf 0), none, none, none, none, none, none, none] [o1] = some (.nx, [some (frn sc), some (rf 0), some (cellsD G), none, none, none, none, none, none], [o3]) := by
    simp -implicitDefEqProofs [e_var, e_cst, e_glo, e_op, e_neg, e_cmp, e_cmp2, e_bop, e_not, e_ife, e_tup, e_lst, e_sub, e_slc, e_rvs, e_call, e_bi, e_rgl, e_isi, e_meth, e_idx, eb_1, eb_2, et_val, et_not, et_bop, ets_1, ets_2, eo_g, eo_a, ea_n, ea_c, es_asg, es_par, es_aug, es_put, es_ex, es_ret, es_retN, es_ife, ess_n, ess_c, tgv, tgvs, callv, callv.fin, Option.bind_some, Option.map_some, List.getElem?_cons_zero, List.getElem?_cons_succ, List.set_cons_zero, List.set_cons_succ, asRf_rf, ixN, smallI, wipeD, C_fn, e4, e5, e6]
  have s3 : evS (C 29) (.asg (.nm 3) (.lst true .nil)) [some (frn sc), some (rf 0), some (cellsD G), none, none, none, none, none, none] [o3] = some (.nx, [some (frn sc), some (rf 0), some (cellsD G), some (rf 1), none, none, none, none, none], [o3, .lst []]) := by
    simp -implicitDefEqProofs [e_var, e_cst, e_glo, e_op, e_neg, e_cmp, e_cmp2, e_bop, e_not, e_ife, e_tup, e_lst, e_sub, e_slc, e_rvs, e_call, e_bi, e_rgl, e_isi, e_meth, e_idx, eb_1, eb_2, et_val, et_not, et_bop, ets_1, ets_2, eo_g, eo_a, ea_n, ea_c, es_asg, es_par, es_aug, es_put, es_ex, es_ret, es_retN, es_ife, ess_n, ess_c, tgv, tgvs, callv, callv.fin, Option.bind_some, Option.map_some, List.getElem?_cons_zero, List.getElem?_cons_succ, List.set_cons_zero, List.set_cons_succ, asRf_rf, ixN, smallI, wipeD]
  -- objects
  obtain ⟨r', o4, e7, q0, q1, t4⟩ := draw hi t3 28 [.lst []] (c := 2) (by decide) (by decide)
  have e7 : fnN T 100 29 21 [rf 0, .int 2] [o3, .lst []] = some (.int r', [o4, .lst []]) := e7
  obtain ⟨m, hm⟩ : ∃ m : Nat, 2 + r' = (m : Nat) ∧ m ≤ 3 := ⟨(2 + r').toNat, by omega, by omega⟩
  have hI : evI (C 29) (.rng (.cons (.op .add false (.cst (.int 2)) (.call 21 (.cons (.var 1) (.cons (.cst (.int 2)) .nil)))) .nil)) [some (frn sc), some (rf 0), some (cellsD G), some (rf 1), none, none, none, none, none] [o3, .lst []] = some ((rngD 0 m, true), [o4, .lst []]) := i_R (by
    rw [← hm.1]
    simp -implicitDefEqProofs [e_var, e_cst, e_glo, e_op, e_neg, e_cmp, e_cmp2, e_bop, e_not, e_ife, e_tup, e_lst, e_sub, e_slc, e_rvs, e_call, e_bi, e_rgl, e_isi, e_meth, e_idx, eb_1, eb_2, et_val, et_not, et_bop, ets_1, ets_2, eo_g, eo_a, ea_n, ea_c, es_asg, es_par, es_aug, es_put, es_ex, es_ret, es_retN, es_ife, ess_n, ess_c, tgv, tgvs, callv, callv.fin, Option.bind_some, Option.map_some, List.getElem?_cons_zero, List.getElem?_cons_succ, List.set_cons_zero, List.set_cons_succ, asRf_rf, ixN, smallI, wipeD, C_fn, e7]) (by omega)
  obtain ⟨δ5, S5, l5, x4, hs, o5, rfl, rfl, hsl, hok, t5⟩ := forv_nx (turn := tLaw 29) (fun i δ S' => ∃ x4 hs o, δ = [some (frn sc), some (rf 0), some (cellsD G), some (rf 1), x4, none, none, none, none] ∧ S' = [o, Ob.lst (hs.map hoD)] ∧ hs.length = i ∧ (∀ h ∈ hs, HoOk h) ∧ Tape sc o) (xs := rngD 0 m) 0 (fun i x δ S' hx hp => by
    obtain ⟨x4, hs, o, rfl, rfl, hl, ok, t⟩ := hp
    obtain ⟨_, hi2⟩ := rngD_get hx
    obtain ⟨h, o', e, okh, t'⟩ := law_turn 27 hi t ok (by omega) x (x0 := some (frn sc)) (x2 := some (cellsD G)) (x4 := x4) (x5 := none) (x6 := none) (x7 := none) (x8 := none)
    exact ⟨.nx, _, _, e, .inl rfl, some x, hs ++ [h], o', rfl, rfl, by rw [List.length_append, hl]; rfl, fun y hy => (List.mem_append.mp hy).elim (ok y) fun z => by rw [List.mem_singleton.mp z]; exact okh, t'⟩) (δ := [some (frn sc), some (rf 0), some (cellsD G), some (rf 1), none, none, none, none, none]) (S := [o4, .lst []]) ⟨none, [], o4, rfl, rfl, rfl, by simp, t4⟩
  rw [rngD_len, Nat.zero_add] at hsl
  -- asks
  have hI6 : evI (C 29) (.rng (.cons (.cst (.int 8)) .nil)) [some (frn sc), some (rf 0), some (cellsD G), some (rf 1), x4, none, none, none, none] [o5, .lst (hs.map hoD)] = some ((rngD 0 8, true), [o5, .lst (hs.map hoD)]) := i_R (n := 8) (by simp -implicitDefEqProofs [e_var, e_cst, e_glo, e_op, e_neg, e_cmp, e_cmp2, e_bop, e_not, e_ife, e_tup, e_lst, e_sub, e_slc, e_rvs, e_call, e_bi, e_rgl, e_isi, e_meth, e_idx, eb_1, eb_2, et_val, et_not, et_bop, ets_1, ets_2, eo_g, eo_a, ea_n, ea_c, es_asg, es_par, es_aug, es_put, es_ex, es_ret, es_retN, es_ife, ess_n, ess_c, tgv, tgvs, callv, callv.fin, Option.bind_some, Option.map_some, List.getElem?_cons_zero, List.getElem?_cons_succ, List.set_cons_zero, List.set_cons_succ, asRf_rf, ixN, smallI, wipeD]) (by omega)
  obtain ⟨ys, S6, e8, ls, o6, rfl, rfl, l3, t6⟩ := e_lcinv (m := false) (elt := .call 24 (.cons (.var 1) (.cons (.cst (.int 3)) .nil))) (t := .nm 4) (own := [4]) (fun i ys S' => ∃ (ls : List (List Int)) (o : Ob), ys = ls.map askD ∧ S' = [o, Ob.lst (hs.map hoD)] ∧ (∀ l ∈ ls, l.length = 3) ∧ Tape sc o) hI6 (fun i x acc S' hx hp => by
    obtain ⟨ls, o, rfl, rfl, l3, t⟩ := hp
    obtain ⟨l, o', e, hl3, _, t'⟩ := row hi t 27 [.lst (hs.map hoD)] (k := 3) (by omega)
    have e : fnN T 100 29 24 [rf 0, .int 3] [o, .lst (hs.map hoD)] = some (askD l, [o', .lst (hs.map hoD)]) := e
    refine ⟨askD l, [o', .lst (hs.map hoD)], ?_, ls ++ [l], o', by rw [List.map_append]; rfl, rfl, fun z hz => (List.mem_append.mp hz).elim (l3 z) fun q => by rw [List.mem_singleton.mp q]; exact hl3, t'⟩
    generalize askD l = A at e
    simp -implicitDefEqProofs [e_var, e_cst, e_glo, e_op, e_neg, e_cmp, e_cmp2, e_bop, e_not, e_ife, e_tup, e_lst, e_sub, e_slc, e_rvs, e_call, e_bi, e_rgl, e_isi, e_meth, e_idx, eb_1, eb_2, et_val, et_not, et_bop, ets_1, ets_2, eo_g, eo_a, ea_n, ea_c, es_asg, es_par, es_aug, es_put, es_ex, es_ret, es_retN, es_ife, ess_n, ess_c, tgv, tgvs, callv, callv.fin, Option.bind_some, Option.map_some, List.getElem?_cons_zero, List.getElem?_cons_succ, List.set_cons_zero, List.set_cons_succ, asRf_rf, ixN, smallI, wipeD, C_fn, e]) ⟨[], o5, rfl, rfl, by simp, t5⟩
  have s5 : evS (C 29) (.asg (.nm 5) (.lc false (.call 24 (.cons (.var 1) (.cons (.cst (.int 3)) .nil))) (.nm 4) (.rng (.cons (.cst (.int 8)) .nil)) .nil [4])) [some (frn sc), some (rf 0), some (cellsD G), some (rf 1), x4, none, none, none, none] [o5, .lst (hs.map hoD)] = some (.nx, [some (frn sc), some (rf 0), some (cellsD G), some (rf 1), x4, some (.list (ls.map askD)), none, none, none], [o6, .lst (hs.map hoD)]) := by
    rw [es_asg, e8]
    rfl
  have s6 : evS (C 29) (.asg (.nm 6) (.tup (.cons (.tup (.cons (.cst (.str (Str.ofString "program"))) (.cons (.tup .nil) (.cons (.tup .nil) .nil)))) .nil))) [some (frn sc), some (rf 0), some (cellsD G), some (rf 1), x4, some (.list (ls.map askD)), none, none, none] [o6, .lst (hs.map hoD)] = some (.nx, [some (frn sc), some (rf 0), some (cellsD G), some (rf 1), x4, some (.list (ls.map askD)), some thrD, none, none], [o6, .lst (hs.map hoD)]) := by
    generalize ls.map askD = A
    simp -implicitDefEqProofs [e_var, e_cst, e_glo, e_op, e_neg, e_cmp, e_cmp2, e_bop, e_not, e_ife, e_tup, e_lst, e_sub, e_slc, e_rvs, e_call, e_bi, e_rgl, e_isi, e_meth, e_idx, eb_1, eb_2, et_val, et_not, et_bop, ets_1, ets_2, eo_g, eo_a, ea_n, ea_c, es_asg, es_par, es_aug, es_put, es_ex, es_ret, es_retN, es_ife, ess_n, ess_c, tgv, tgvs, callv, callv.fin, Option.bind_some, Option.map_some, List.getElem?_cons_zero, List.getElem?_cons_succ, List.set_cons_zero, List.set_cons_succ, asRf_rf, ixN, smallI, wipeD, b3, b1, wayD]
  have bt : biv .tuple false [rf 1] [o6, .lst (hs.map hoD)] = some (.tuple (hs.map hoD), [o6, .lst (hs.map hoD)]) := b_tupR rfl
  have sq : seqv (rf 1) [o6, .lst (hs.map hoD)] = some (hs.map hoD) := sq_rf rfl
  have s7 : evS (C 29) (.par 7 8 (.tup (.cons (.var 2) (.cons (.bi .tuple false (.cons (.var 3) .nil)) (.cons (.var 6) .nil)))) (.tup (.cons (.var 2) (.cons (.bi .tuple false (.cons (.rvs false (.var 3)) .nil)) (.cons (.var 6) .nil))))) [some (frn sc), some (rf 0), some (cellsD G), some (rf 1), x4, some (.list (ls.map askD)), some thrD, none, none] [o6, .lst (hs.map hoD)] = some (.nx, [some (frn sc), some (rf 0), some (cellsD G), some (rf 1), x4, some (.list (ls.map askD)), some thrD, some (srcD G hs), some (srcD G hs.reverse)], [o6, .lst (hs.map hoD)]) := by
    have er : PyData.tuple [cellsD G, .tuple (hs.map hoD).reverse, thrD] = srcD G hs.reverse := by
      rw [srcD, List.map_reverse]
    have eo : PyData.tuple [cellsD G, .tuple (hs.map hoD), thrD] = srcD G hs := rfl
    generalize ls.map askD = A
    rw [← er, ← eo]
    generalize thrD = W
    simp -implicitDefEqProofs [e_var, e_cst, e_glo, e_op, e_neg, e_cmp, e_cmp2, e_bop, e_not, e_ife, e_tup, e_lst, e_sub, e_slc, e_rvs, e_call, e_bi, e_rgl, e_isi, e_meth, e_idx, eb_1, eb_2, et_val, et_not, et_bop, ets_1, ets_2, eo_g, eo_a, ea_n, ea_c, es_asg, es_par, es_aug, es_put, es_ex, es_ret, es_retN, es_ife, ess_n, ess_c, tgv, tgvs, callv, callv.fin, Option.bind_some, Option.map_some, List.getElem?_cons_zero, List.getElem?_cons_succ, List.set_cons_zero, List.set_cons_succ, asRf_rf, ixN, smallI, wipeD, bt, sq, b3]
  -- the three looks
  have okS : SrcOk G hs := ⟨okG, hok⟩
  have okR : SrcOk G hs.reverse := ⟨okG, fun h hh => hok h (List.mem_reverse.mp hh)⟩
  have rne : ∀ l : List Ho, 0 < (rowAll G l).length := fun l => by
    rw [rowAll, List.length_append, rowC_len]
    have : 0 < wc G := by
      cases G with
      | nil => simp at lG; omega
      | cons g gs =>
        have h1 := (okG.ne g List.mem_cons_self).1
        have hw : wc (g :: gs) = g.2.length + wc gs := by simp [wc]
        omega
    omega
  obtain ⟨S7, w1⟩ := right 19 [o6, .lst (hs.map hoD)] okS (by omega) (rne hs) ls l3
  obtain ⟨S8, w2⟩ := right 19 S7 okR (by rw [List.length_reverse]; omega) (rne _) ls l3
  obtain ⟨S9, w3⟩ := right 19 S8 okS (by omega) (rne hs) ls l3
  have w1 : fnN T 100 29 29 [srcD G hs, .list (ls.map askD)] [o6, .lst (hs.map hoD)] = some (.bool true, S7) := w1
  have w2 : fnN T 100 29 29 [srcD G hs.reverse, .list (ls.map askD)] S7 = some (.bool true, S8) := w2
  have w3 : fnN T 100 29 29 [srcD G hs, .list (ls.map askD)] S8 = some (.bool true, S9) := w3
  refine ⟨S9, callv_rt rfl rfl (δ' := [some (frn sc), some (rf 0), some (cellsD G), some (rf 1), x4, some (.list (ls.map askD)), some thrD, some (srcD G hs), some (srcD G hs.reverse)]) ?_⟩
  show evSs (C 29) f_law.body [some (frn sc), none, none, none, none, none, none, none, none] [] = _
  unfold f_law
  rw [ess_c, s1, Option.bind_some]
  show evSs (C 29) _ [some (frn sc), some (rf 0), none, none, none, none, none, none, none] [o1] = _
  rw [ess_c, s2, Option.bind_some]
  show evSs (C 29) _ [some (frn sc), some (rf 0), some (cellsD G), none, none, none, none, none, none] [o3] = _
  rw [ess_c, s3, Option.bind_some]
  show evSs (C 29) _ [some (frn sc), some (rf 0), some (cellsD G), some (rf 1), none, none, none, none, none] [o3, .lst []] = _
  rw [ess_c, es_loop, hI, Option.bind_some]
  show ((forv (tLaw 29) (rngD 0 m) _ [o4, .lst []]).bind _) = _
  rw [l5, Option.bind_some]
  show evSs (C 29) _ [some (frn sc), some (rf 0), some (cellsD G), some (rf 1), x4, none, none, none, none] [o5, .lst (hs.map hoD)] = _
  rw [ess_c, s5, Option.bind_some]
  show evSs (C 29) _ [some (frn sc), some (rf 0), some (cellsD G), some (rf 1), x4, some (.list (ls.map askD)), none, none, none] [o6, .lst (hs.map hoD)] = _
  rw [ess_c, s6, Option.bind_some]
  show evSs (C 29) _ [some (frn sc), some (rf 0), some (cellsD G), some (rf 1), x4, some (.list (ls.map askD)), some thrD, none, none] [o6, .lst (hs.map hoD)] = _
  rw [ess_c, s7, Option.bind_some]
  show evSs (C 29) _ [some (frn sc), some (rf 0), some (cellsD G), some (rf 1), x4, some (.list (ls.map askD)), some thrD, some (srcD G hs), some (srcD G hs.reverse)] [o6, .lst (hs.map hoD)] = _
  generalize ls.map askD = A at w1 w2 w3
  generalize thrD = W
  simp -implicitDefEqProofs [e_var, e_cst, e_glo, e_op, e_neg, e_cmp, e_cmp2, e_bop, e_not, e_ife, e_tup, e_lst, e_sub, e_slc, e_rvs, e_call, e_bi, e_rgl, e_isi, e_meth, e_idx, eb_1, eb_2, et_val, et_not, et_bop, ets_1, ets_2, eo_g, eo_a, ea_n, ea_c, es_asg, es_par, es_aug, es_put, es_ex, es_ret, es_retN, es_ife, ess_n, ess_c, tgv, tgvs, callv, callv.fin, Option.bind_some, Option.map_some, List.getElem?_cons_zero, List.getElem?_cons_succ, List.set_cons_zero, List.set_cons_succ, asRf_rf, ixN, smallI, wipeD, C_fn, w1, w2, w3]
end K00

namespace K00
open PySem PySem.Spec
open PyProof.Rows L2 Ev
theorem all_mk {P : Program} {w : World} {K : PySem.W.Frag} {h : Heap} {mg : Str → Option Value} {fa : Addr} {f0 : Addr} {oc0 kV0 dc0 pm0 cd0 ct0 : Value} {od0 an0 : Option Addr} {sl0 : Array (Option Value)} {f1 : Addr} {oc1 kV1 dc1 pm1 cd1 ct1 : Value} {od1 an1 : Option Addr} {sl1 : Array (Option Value)} {f2 : Addr} {oc2 kV2 dc2 pm2 cd2 ct2 : Value} {od2 an2 : Option Addr} {sl2 : Array (Option Value)} {f3 : Addr} {oc3 kV3 dc3 pm3 cd3 ct3 : Value} {od3 an3 : Option Addr} {sl3 : Array (Option Value)} {f4 : Addr} {oc4 kV4 dc4 pm4 cd4 ct4 : Value} {od4 an4 : Option Addr} {sl4 : Array (Option Value)} {f5 : Addr} {oc5 kV5 dc5 pm5 cd5 ct5 : Value} {od5 an5 : Option Addr} {sl5 : Array (Option Value)} {f6 : Addr} {oc6 kV6 dc6 pm6 cd6 ct6 : Value} {od6 an6 : Option Addr} {sl6 : Array (Option Value)} {f7 : Addr} {oc7 kV7 dc7 pm7 cd7 ct7 : Value} {od7 an7 : Option Addr} {sl7 : Array (Option Value)} {f8 : Addr} {oc8 kV8 dc8 pm8 cd8 ct8 : Value} {od8 an8 : Option Addr} {sl8 : Array (Option Value)} {f9 : Addr} {oc9 kV9 dc9 pm9 cd9 ct9 : Value} {od9 an9 : Option Addr} {sl9 : Array (Option Value)} {f10 : Addr} {oc10 kV10 dc10 pm10 cd10 ct10 : Value} {od10 an10 : Option Addr} {sl10 : Array (Option Value)} {f11 : Addr} {oc11 kV11 dc11 pm11 cd11 ct11 : Value} {od11 an11 : Option Addr} {sl11 : Array (Option Value)} {f12 : Addr} {oc12 kV12 dc12 pm12 cd12 ct12 : Value} {od12 an12 : Option Addr} {sl12 : Array (Option Value)} {f13 : Addr} {oc13 kV13 dc13 pm13 cd13 ct13 : Value} {od13 an13 : Option Addr} {sl13 : Array (Option Value)} {f14 : Addr} {oc14 kV14 dc14 pm14 cd14 ct14 : Value} {od14 an14 : Option Addr} {sl14 : Array (Option Value)} {f15 : Addr} {oc15 kV15 dc15 pm15 cd15 ct15 : Value} {od15 an15 : Option Addr} {sl15 : Array (Option Value)} {f16 : Addr} {oc16 kV16 dc16 pm16 cd16 ct16 : Value} {od16 an16 : Option Addr} {sl16 : Array (Option Value)} {f17 : Addr} {oc17 kV17 dc17 pm17 cd17 ct17 : Value} {od17 an17 : Option Addr} {sl17 : Array (Option Value)} {f18 : Addr} {oc18 kV18 dc18 pm18 cd18 ct18 : Value} {od18 an18 : Option Addr} {sl18 : Array (Option Value)} {f19 : Addr} {oc19 kV19 dc19 pm19 cd19 ct19 : Value} {od19 an19 : Option Addr} {sl19 : Array (Option Value)} {f20 : Addr} {oc20 kV20 dc20 pm20 cd20 ct20 : Value} {od20 an20 : Option Addr} {sl20 : Array (Option Value)} {f21 : Addr} {oc21 kV21 dc21 pm21 cd21 ct21 : Value} {od21 an21 : Option Addr} {sl21 : Array (Option Value)} {f22 : Addr} {oc22 kV22 dc22 pm22 cd22 ct22 : Value} {od22 an22 : Option Addr} {sl22 : Array (Option Value)} {f23 : Addr} {oc23 kV23 dc23 pm23 cd23 ct23 : Value} {od23 an23 : Option Addr} {sl23 : Array (Option Value)} {f24 : Addr} {oc24 kV24 dc24 pm24 cd24 ct24 : Value} {od24 an24 : Option Addr} {sl24 : Array (Option Value)} {f25 : Addr} {oc25 kV25 dc25 pm25 cd25 ct25 : Value} {od25 an25 : Option Addr} {sl25 : Array (Option Value)} {f26 : Addr} {oc26 kV26 dc26 pm26 cd26 ct26 : Value} {od26 an26 : Option Addr} {sl26 : Array (Option Value)} {f27 : Addr} {oc27 kV27 dc27 pm27 cd27 ct27 : Value} {od27 an27 : Option Addr} {sl27 : Array (Option Value)} {f28 : Addr} {oc28 kV28 dc28 pm28 cd28 ct28 : Value} {od28 an28 : Option Addr} {sl28 : Array (Option Value)} {f29 : Addr} {oc29 kV29 dc29 pm29 cd29 ct29 : Value} {od29 an29 : Option Addr} {sl29 : Array (Option Value)} {f30 : Addr} {oc30 kV30 dc30 pm30 cd30 ct30 : Value} {od30 an30 : Option Addr} {sl30 : Array (Option Value)} {t0 : Addr} {t1 : Addr} {t2 : Addr} {t3 : Addr} {t4 : Addr} (X : K.In h) (G : h.Ns mainGlobals mg) (hfa : mg "law" = some (.ref fa))
    (a0 : PySem.W.nsIn K mainGlobals "node_in" = some (some (.ref f0))) (l0 : K.lookup f0 = some ⟨oc0, od0, .func (PySem.W.fnOf "node_in" "node_in" (defArgs (topS 2)) (defBody (topS 2)) (defScope (topS 2)) .none kV0 dc0 pm0 an0 cd0 ct0), sl0⟩) (c0 : PySem.W.codeIn K cd0 "node_in" = true) (k0 : PySem.W.keepIn K (.ref f0) = true)
    (a1 : PySem.W.nsIn K mainGlobals "add_body" = some (some (.ref f1))) (l1 : K.lookup f1 = some ⟨oc1, od1, .func (PySem.W.fnOf "add_body" "add_body" (defArgs (topS 4)) (defBody (topS 4)) (defScope (topS 4)) .none kV1 dc1 pm1 an1 cd1 ct1), sl1⟩) (c1 : PySem.W.codeIn K cd1 "add_body" = true) (k1 : PySem.W.keepIn K (.ref f1) = true)
    (a2 : PySem.W.nsIn K mainGlobals "add_choice" = some (some (.ref f2))) (l2 : K.lookup f2 = some ⟨oc2, od2, .func (PySem.W.fnOf "add_choice" "add_choice" (defArgs (topS 5)) (defBody (topS 5)) (defScope (topS 5)) .none kV2 dc2 pm2 an2 cd2 ct2), sl2⟩) (c2 : PySem.W.codeIn K cd2 "add_choice" = true) (k2 : PySem.W.keepIn K (.ref f2) = true)
    (a3 : PySem.W.nsIn K mainGlobals "add_loop" = some (some (.ref f3))) (l3 : K.lookup f3 = some ⟨oc3, od3, .func (PySem.W.fnOf "add_loop" "add_loop" (defArgs (topS 6)) (defBody (topS 6)) (defScope (topS 6)) .none kV3 dc3 pm3 an3 cd3 ct3), sl3⟩) (c3 : PySem.W.codeIn K cd3 "add_loop" = true) (k3 : PySem.W.keepIn K (.ref f3) = true)
    (a4 : PySem.W.nsIn K mainGlobals "translated" = some (some (.ref f4))) (l4 : K.lookup f4 = some ⟨oc4, od4, .func (PySem.W.fnOf "translated" "translated" (defArgs (topS 7)) (defBody (topS 7)) (defScope (topS 7)) .none kV4 dc4 pm4 an4 cd4 ct4), sl4⟩) (c4 : PySem.W.codeIn K cd4 "translated" = true) (k4 : PySem.W.keepIn K (.ref f4) = true)
    (a5 : PySem.W.nsIn K mainGlobals "is_structure" = some (some (.ref f5))) (l5 : K.lookup f5 = some ⟨oc5, od5, .func (PySem.W.fnOf "is_structure" "is_structure" (defArgs (topS 13)) (defBody (topS 13)) (defScope (topS 13)) .none kV5 dc5 pm5 an5 cd5 ct5), sl5⟩) (c5 : PySem.W.codeIn K cd5 "is_structure" = true) (k5 : PySem.W.keepIn K (.ref f5) = true)
    (a6 : PySem.W.nsIn K mainGlobals "count_words" = some (some (.ref f6))) (l6 : K.lookup f6 = some ⟨oc6, od6, .func (PySem.W.fnOf "count_words" "count_words" (defArgs (topS 15)) (defBody (topS 15)) (defScope (topS 15)) .none kV6 dc6 pm6 an6 cd6 ct6), sl6⟩) (c6 : PySem.W.codeIn K cd6 "count_words" = true) (k6 : PySem.W.keepIn K (.ref f6) = true)
    (a7 : PySem.W.nsIn K mainGlobals "size_of_object" = some (some (.ref f7))) (l7 : K.lookup f7 = some ⟨oc7, od7, .func (PySem.W.fnOf "size_of_object" "size_of_object" (defArgs (topS 16)) (defBody (topS 16)) (defScope (topS 16)) .none kV7 dc7 pm7 an7 cd7 ct7), sl7⟩) (c7 : PySem.W.codeIn K cd7 "size_of_object" = true) (k7 : PySem.W.keepIn K (.ref f7) = true)
    (a8 : PySem.W.nsIn K mainGlobals "bases_of" = some (some (.ref f8))) (l8 : K.lookup f8 = some ⟨oc8, od8, .func (PySem.W.fnOf "bases_of" "bases_of" (defArgs (topS 17)) (defBody (topS 17)) (defScope (topS 17)) .none kV8 dc8 pm8 an8 cd8 ct8), sl8⟩) (c8 : PySem.W.codeIn K cd8 "bases_of" = true) (k8 : PySem.W.keepIn K (.ref f8) = true)
    (a9 : PySem.W.nsIn K mainGlobals "codes_of" = some (some (.ref f9))) (l9 : K.lookup f9 = some ⟨oc9, od9, .func (PySem.W.fnOf "codes_of" "codes_of" (defArgs (topS 18)) (defBody (topS 18)) (defScope (topS 18)) .none kV9 dc9 pm9 an9 cd9 ct9), sl9⟩) (c9 : PySem.W.codeIn K cd9 "codes_of" = true) (k9 : PySem.W.keepIn K (.ref f9) = true)
    (a10 : PySem.W.nsIn K mainGlobals "program_of" = some (some (.ref f10))) (l10 : K.lookup f10 = some ⟨oc10, od10, .func (PySem.W.fnOf "program_of" "program_of" (defArgs (topS 19)) (defBody (topS 19)) (defScope (topS 19)) .none kV10 dc10 pm10 an10 cd10 ct10), sl10⟩) (c10 : PySem.W.codeIn K cd10 "program_of" = true) (k10 : PySem.W.keepIn K (.ref f10) = true)
    (a11 : PySem.W.nsIn K mainGlobals "system_of" = some (some (.ref f11))) (l11 : K.lookup f11 = some ⟨oc11, od11, .func (PySem.W.fnOf "system_of" "system_of" (defArgs (topS 20)) (defBody (topS 20)) (defScope (topS 20)) .none kV11 dc11 pm11 an11 cd11 ct11), sl11⟩) (c11 : PySem.W.codeIn K cd11 "system_of" = true) (k11 : PySem.W.keepIn K (.ref f11) = true)
    (a12 : PySem.W.nsIn K mainGlobals "shared_of" = some (some (.ref f12))) (l12 : K.lookup f12 = some ⟨oc12, od12, .func (PySem.W.fnOf "shared_of" "shared_of" (defArgs (topS 21)) (defBody (topS 21)) (defScope (topS 21)) .none kV12 dc12 pm12 an12 cd12 ct12), sl12⟩) (c12 : PySem.W.codeIn K cd12 "shared_of" = true) (k12 : PySem.W.keepIn K (.ref f12) = true)
    (a13 : PySem.W.nsIn K mainGlobals "base_of" = some (some (.ref f13))) (l13 : K.lookup f13 = some ⟨oc13, od13, .func (PySem.W.fnOf "base_of" "base_of" (defArgs (topS 22)) (defBody (topS 22)) (defScope (topS 22)) .none kV13 dc13 pm13 an13 cd13 ct13), sl13⟩) (c13 : PySem.W.codeIn K cd13 "base_of" = true) (k13 : PySem.W.keepIn K (.ref f13) = true)
    (a14 : PySem.W.nsIn K mainGlobals "cell_address" = some (some (.ref f14))) (l14 : K.lookup f14 = some ⟨oc14, od14, .func (PySem.W.fnOf "cell_address" "cell_address" (defArgs (topS 23)) (defBody (topS 23)) (defScope (topS 23)) .none kV14 dc14 pm14 an14 cd14 ct14), sl14⟩) (c14 : PySem.W.codeIn K cd14 "cell_address" = true) (k14 : PySem.W.keepIn K (.ref f14) = true)
    (a15 : PySem.W.nsIn K mainGlobals "first_field" = some (some (.ref f15))) (l15 : K.lookup f15 = some ⟨oc15, od15, .func (PySem.W.fnOf "first_field" "first_field" (defArgs (topS 24)) (defBody (topS 24)) (defScope (topS 24)) .none kV15 dc15 pm15 an15 cd15 ct15), sl15⟩) (c15 : PySem.W.codeIn K cd15 "first_field" = true) (k15 : PySem.W.keepIn K (.ref f15) = true)
    (a16 : PySem.W.nsIn K mainGlobals "field_address" = some (some (.ref f16))) (l16 : K.lookup f16 = some ⟨oc16, od16, .func (PySem.W.fnOf "field_address" "field_address" (defArgs (topS 25)) (defBody (topS 25)) (defScope (topS 25)) .none kV16 dc16 pm16 an16 cd16 ct16), sl16⟩) (c16 : PySem.W.codeIn K cd16 "field_address" = true) (k16 : PySem.W.keepIn K (.ref f16) = true)
    (a17 : PySem.W.nsIn K mainGlobals "owner_of" = some (some (.ref f17))) (l17 : K.lookup f17 = some ⟨oc17, od17, .func (PySem.W.fnOf "owner_of" "owner_of" (defArgs (topS 26)) (defBody (topS 26)) (defScope (topS 26)) .none kV17 dc17 pm17 an17 cd17 ct17), sl17⟩) (c17 : PySem.W.codeIn K cd17 "owner_of" = true) (k17 : PySem.W.keepIn K (.ref f17) = true)
    (a18 : PySem.W.nsIn K mainGlobals "told_address" = some (some (.ref f18))) (l18 : K.lookup f18 = some ⟨oc18, od18, .func (PySem.W.fnOf "told_address" "told_address" (defArgs (topS 27)) (defBody (topS 27)) (defScope (topS 27)) .none kV18 dc18 pm18 an18 cd18 ct18), sl18⟩) (c18 : PySem.W.codeIn K cd18 "told_address" = true) (k18 : PySem.W.keepIn K (.ref f18) = true)
    (a19 : PySem.W.nsIn K mainGlobals "_law_all_words" = some (some (.ref f19))) (l19 : K.lookup f19 = some ⟨oc19, od19, .func (PySem.W.fnOf "_law_all_words" "_law_all_words" (defArgs (topS 29)) (defBody (topS 29)) (defScope (topS 29)) .none kV19 dc19 pm19 an19 cd19 ct19), sl19⟩) (c19 : PySem.W.codeIn K cd19 "_law_all_words" = true) (k19 : PySem.W.keepIn K (.ref f19) = true)
    (a20 : PySem.W.nsIn K mainGlobals "_law_same" = some (some (.ref f20))) (l20 : K.lookup f20 = some ⟨oc20, od20, .func (PySem.W.fnOf "_law_same" "_law_same" (defArgs (topS 30)) (defBody (topS 30)) (defScope (topS 30)) .none kV20 dc20 pm20 an20 cd20 ct20), sl20⟩) (c20 : PySem.W.codeIn K cd20 "_law_same" = true) (k20 : PySem.W.keepIn K (.ref f20) = true)
    (a21 : PySem.W.nsIn K mainGlobals "_law_draw" = some (some (.ref f21))) (l21 : K.lookup f21 = some ⟨oc21, od21, .func (PySem.W.fnOf "_law_draw" "_law_draw" (defArgs (topS 31)) (defBody (topS 31)) (defScope (topS 31)) .none kV21 dc21 pm21 an21 cd21 ct21), sl21⟩) (c21 : PySem.W.codeIn K cd21 "_law_draw" = true) (k21 : PySem.W.keepIn K (.ref f21) = true)
    (a22 : PySem.W.nsIn K mainGlobals "_law_tape" = some (some (.ref f22))) (l22 : K.lookup f22 = some ⟨oc22, od22, .func (PySem.W.fnOf "_law_tape" "_law_tape" (defArgs (topS 32)) (defBody (topS 32)) (defScope (topS 32)) .none kV22 dc22 pm22 an22 cd22 ct22), sl22⟩) (c22 : PySem.W.codeIn K cd22 "_law_tape" = true) (k22 : PySem.W.keepIn K (.ref f22) = true)
    (a23 : PySem.W.nsIn K mainGlobals "_law_all_cells" = some (some (.ref f23))) (l23 : K.lookup f23 = some ⟨oc23, od23, .func (PySem.W.fnOf "_law_all_cells" "_law_all_cells" (defArgs (topS 33)) (defBody (topS 33)) (defScope (topS 33)) .none kV23 dc23 pm23 an23 cd23 ct23), sl23⟩) (c23 : PySem.W.codeIn K cd23 "_law_all_cells" = true) (k23 : PySem.W.keepIn K (.ref f23) = true)
    (a24 : PySem.W.nsIn K mainGlobals "_law_row" = some (some (.ref f24))) (l24 : K.lookup f24 = some ⟨oc24, od24, .func (PySem.W.fnOf "_law_row" "_law_row" (defArgs (topS 34)) (defBody (topS 34)) (defScope (topS 34)) .none kV24 dc24 pm24 an24 cd24 ct24), sl24⟩) (c24 : PySem.W.codeIn K cd24 "_law_row" = true) (k24 : PySem.W.keepIn K (.ref f24) = true)
    (a25 : PySem.W.nsIn K mainGlobals "_law_some_cells" = some (some (.ref f25))) (l25 : K.lookup f25 = some ⟨oc25, od25, .func (PySem.W.fnOf "_law_some_cells" "_law_some_cells" (defArgs (topS 35)) (defBody (topS 35)) (defScope (topS 35)) .none kV25 dc25 pm25 an25 cd25 ct25), sl25⟩) (c25 : PySem.W.codeIn K cd25 "_law_some_cells" = true) (k25 : PySem.W.keepIn K (.ref f25) = true)
    (a26 : PySem.W.nsIn K mainGlobals "_law_some_object" = some (some (.ref f26))) (l26 : K.lookup f26 = some ⟨oc26, od26, .func (PySem.W.fnOf "_law_some_object" "_law_some_object" (defArgs (topS 36)) (defBody (topS 36)) (defScope (topS 36)) .none kV26 dc26 pm26 an26 cd26 ct26), sl26⟩) (c26 : PySem.W.codeIn K cd26 "_law_some_object" = true) (k26 : PySem.W.keepIn K (.ref f26) = true)
    (a27 : PySem.W.nsIn K mainGlobals "_law_bases" = some (some (.ref f27))) (l27 : K.lookup f27 = some ⟨oc27, od27, .func (PySem.W.fnOf "_law_bases" "_law_bases" (defArgs (topS 37)) (defBody (topS 37)) (defScope (topS 37)) .none kV27 dc27 pm27 an27 cd27 ct27), sl27⟩) (c27 : PySem.W.codeIn K cd27 "_law_bases" = true) (k27 : PySem.W.keepIn K (.ref f27) = true)
    (a28 : PySem.W.nsIn K mainGlobals "_law_asked" = some (some (.ref f28))) (l28 : K.lookup f28 = some ⟨oc28, od28, .func (PySem.W.fnOf "_law_asked" "_law_asked" (defArgs (topS 38)) (defBody (topS 38)) (defScope (topS 38)) .none kV28 dc28 pm28 an28 cd28 ct28), sl28⟩) (c28 : PySem.W.codeIn K cd28 "_law_asked" = true) (k28 : PySem.W.keepIn K (.ref f28) = true)
    (a29 : PySem.W.nsIn K mainGlobals "_law_right" = some (some (.ref f29))) (l29 : K.lookup f29 = some ⟨oc29, od29, .func (PySem.W.fnOf "_law_right" "_law_right" (defArgs (topS 39)) (defBody (topS 39)) (defScope (topS 39)) .none kV29 dc29 pm29 an29 cd29 ct29), sl29⟩) (c29 : PySem.W.codeIn K cd29 "_law_right" = true) (k29 : PySem.W.keepIn K (.ref f29) = true)
    (a30 : PySem.W.nsIn K mainGlobals "law" = some (some (.ref f30))) (l30 : K.lookup f30 = some ⟨oc30, od30, .func (PySem.W.fnOf "law" "law" (defArgs (topS 40)) (defBody (topS 40)) (defScope (topS 40)) .none kV30 dc30 pm30 an30 cd30 ct30), sl30⟩) (c30 : PySem.W.codeIn K cd30 "law" = true) (k30 : PySem.W.keepIn K (.ref f30) = true)
    (z0 : PySem.W.nsIn K mainGlobals "len" = some none)
    (z1 : PySem.W.nsIn K mainGlobals "abs" = some none)
    (z2 : PySem.W.nsIn K mainGlobals "int" = some none)
    (z3 : PySem.W.nsIn K mainGlobals "max" = some none)
    (z4 : PySem.W.nsIn K mainGlobals "tuple" = some none)
    (z5 : PySem.W.nsIn K mainGlobals "list" = some none)
    (z6 : PySem.W.nsIn K mainGlobals "sum" = some none)
    (z7 : PySem.W.nsIn K mainGlobals "isinstance" = some none)
    (z8 : PySem.W.nsIn K mainGlobals "range" = some none)
    (z9 : PySem.W.nsIn K mainGlobals "enumerate" = some none)
    (z10 : PySem.W.nsIn K mainGlobals "str" = some none)
    (z11 : PySem.W.nsIn K mainGlobals "bool" = some none)
    (z12 : PySem.W.nsIn K mainGlobals "dict" = some none)
    (vg0 : PySem.W.nsIn K mainGlobals "FIRST_NODE" = some (some (.int 100 t0)))
    (vg1 : PySem.W.nsIn K mainGlobals "SHARED" = some (some (.int 6 t1)))
    (vg2 : PySem.W.nsIn K mainGlobals "ROOM" = some (some (.int 3 t2)))
    (vg3 : PySem.W.nsIn K mainGlobals "FIELDS" = some (some (.int 2 t3)))
    (vg4 : PySem.W.nsIn K mainGlobals "OPERATIONS" = some (some (.int 8 t4))) :
    ∃ fd : FuncData, (∀ (s : Shared) (v : Value), BindsTo s fd ⟨[v], []⟩ [("script", v)]) ∧ ∀ base : Heap, K.In base → base.Ns mainGlobals mg → FnOk P w K mg base CX0 depth fa fd ["script"] (spF K (fnN T turns depth 30)) := by
  have R0 : RowK K r_node_in := row_mk a0 l0 c0 k0 fun _ _ _ _ _ _ us hl => match us, hl with | [_, _], _ => rfl
  have R1 : RowK K r_add_body := row_mk a1 l1 c1 k1 fun _ _ _ _ _ _ us hl => match us, hl with | [_, _, _], _ => rfl
  have R2 : RowK K r_add_choice := row_mk a2 l2 c2 k2 fun _ _ _ _ _ _ us hl => match us, hl with | [_, _, _], _ => rfl
  have R3 : RowK K r_add_loop := row_mk a3 l3 c3 k3 fun _ _ _ _ _ _ us hl => match us, hl with | [_, _], _ => rfl
  have R4 : RowK K r_translated := row_mk a4 l4 c4 k4 fun _ _ _ _ _ _ us hl => match us, hl with | [_], _ => rfl
  have R5 : RowK K r_is_structure := row_mk a5 l5 c5 k5 fun _ _ _ _ _ _ us hl => match us, hl with | [_], _ => rfl
  have R6 : RowK K r_count_words := row_mk a6 l6 c6 k6 fun _ _ _ _ _ _ us hl => match us, hl with | [_], _ => rfl
  have R7 : RowK K r_size_of_object := row_mk a7 l7 c7 k7 fun _ _ _ _ _ _ us hl => match us, hl with | [_], _ => rfl
  have R8 : RowK K r_bases_of := row_mk a8 l8 c8 k8 fun _ _ _ _ _ _ us hl => match us, hl with | [_], _ => rfl
  have R9 : RowK K r_codes_of := row_mk a9 l9 c9 k9 fun _ _ _ _ _ _ us hl => match us, hl with | [_], _ => rfl
  have R10 : RowK K r_program_of := row_mk a10 l10 c10 k10 fun _ _ _ _ _ _ us hl => match us, hl with | [_], _ => rfl
  have R11 : RowK K r_system_of := row_mk a11 l11 c11 k11 fun _ _ _ _ _ _ us hl => match us, hl with | [_], _ => rfl
  have R12 : RowK K r_shared_of := row_mk a12 l12 c12 k12 fun _ _ _ _ _ _ us hl => match us, hl with | [_, _], _ => rfl
  have R13 : RowK K r_base_of := row_mk a13 l13 c13 k13 fun _ _ _ _ _ _ us hl => match us, hl with | [_, _], _ => rfl
  have R14 : RowK K r_cell_address := row_mk a14 l14 c14 k14 fun _ _ _ _ _ _ us hl => match us, hl with | [_, _, _, _], _ => rfl
  have R15 : RowK K r_first_field := row_mk a15 l15 c15 k15 fun _ _ _ _ _ _ us hl => match us, hl with | [_, _, _], _ => rfl
  have R16 : RowK K r_field_address := row_mk a16 l16 c16 k16 fun _ _ _ _ _ _ us hl => match us, hl with | [_, _, _, _], _ => rfl
  have R17 : RowK K r_owner_of := row_mk a17 l17 c17 k17 fun _ _ _ _ _ _ us hl => match us, hl with | [_, _], _ => rfl
  have R18 : RowK K r_told_address := row_mk a18 l18 c18 k18 fun _ _ _ _ _ _ us hl => match us, hl with | [_, _], _ => rfl
  have R19 : RowK K r__law_all_words := row_mk a19 l19 c19 k19 fun _ _ _ _ _ _ us hl => match us, hl with | [], _ => rfl
  have R20 : RowK K r__law_same := row_mk a20 l20 c20 k20 fun _ _ _ _ _ _ us hl => match us, hl with | [_, _], _ => rfl
  have R21 : RowK K r__law_draw := row_mk a21 l21 c21 k21 fun _ _ _ _ _ _ us hl => match us, hl with | [_, _], _ => rfl
  have R22 : RowK K r__law_tape := row_mk a22 l22 c22 k22 fun _ _ _ _ _ _ us hl => match us, hl with | [_], _ => rfl
  have R23 : RowK K r__law_all_cells := row_mk a23 l23 c23 k23 fun _ _ _ _ _ _ us hl => match us, hl with | [_], _ => rfl
  have R24 : RowK K r__law_row := row_mk a24 l24 c24 k24 fun _ _ _ _ _ _ us hl => match us, hl with | [_, _], _ => rfl
  have R25 : RowK K r__law_some_cells := row_mk a25 l25 c25 k25 fun _ _ _ _ _ _ us hl => match us, hl with | [_, _], _ => rfl
  have R26 : RowK K r__law_some_object := row_mk a26 l26 c26 k26 fun _ _ _ _ _ _ us hl => match us, hl with | [_, _], _ => rfl
  have R27 : RowK K r__law_bases := row_mk a27 l27 c27 k27 fun _ _ _ _ _ _ us hl => match us, hl with | [_], _ => rfl
  have R28 : RowK K r__law_asked := row_mk a28 l28 c28 k28 fun _ _ _ _ _ _ us hl => match us, hl with | [_, _], _ => rfl
  have R29 : RowK K r__law_right := row_mk a29 l29 c29 k29 fun _ _ _ _ _ _ us hl => match us, hl with | [_, _], _ => rfl
  have R30 : RowK K r_law := row_mk a30 l30 c30 k30 fun _ _ _ _ _ _ us hl => match us, hl with | [_], _ => rfl
  have hK : ∀ r ∈ rows, RowK K r := by
    intro r hr
    simp only [rows, List.mem_cons, List.not_mem_nil, or_false] at hr
    rcases hr with rfl | rfl | rfl | rfl | rfl | rfl | rfl | rfl | rfl | rfl | rfl | rfl | rfl | rfl | rfl | rfl | rfl | rfl | rfl | rfl | rfl | rfl | rfl | rfl | rfl | rfl | rfl | rfl | rfl | rfl | rfl
    · exact R0
    · exact R1
    · exact R2
    · exact R3
    · exact R4
    · exact R5
    · exact R6
    · exact R7
    · exact R8
    · exact R9
    · exact R10
    · exact R11
    · exact R12
    · exact R13
    · exact R14
    · exact R15
    · exact R16
    · exact R17
    · exact R18
    · exact R19
    · exact R20
    · exact R21
    · exact R22
    · exact R23
    · exact R24
    · exact R25
    · exact R26
    · exact R27
    · exact R28
    · exact R29
    · exact R30
  have hz : ∀ x ∈ blts, PySem.W.nsIn K mainGlobals x = some none := by
    intro x hx
    simp only [blts, List.mem_cons, List.not_mem_nil, or_false] at hx
    rcases hx with rfl | rfl | rfl | rfl | rfl | rfl | rfl | rfl | rfl | rfl | rfl | rfl | rfl
    · exact z0
    · exact z1
    · exact z2
    · exact z3
    · exact z4
    · exact z5
    · exact z6
    · exact z7
    · exact z8
    · exact z9
    · exact z10
    · exact z11
    · exact z12
  have hg : ∀ x d, glbs.lookup x = some d → ∃ u v, PySem.W.nsIn K mainGlobals x = some (some u) ∧ RelV v u ∧ ∀ μ F, R K μ F v d := by
    intro x d hd
    unfold glbs at hd
    rw [List.lookup_cons] at hd; split at hd
    · rename_i e; cases hd; cases eq_of_beq e; exact ⟨_, V.int 100, vg0, ⟨_, rfl⟩, fun μ F => .int _⟩
    rw [List.lookup_cons] at hd; split at hd
    · rename_i e; cases hd; cases eq_of_beq e; exact ⟨_, V.int 6, vg1, ⟨_, rfl⟩, fun μ F => .int _⟩
    rw [List.lookup_cons] at hd; split at hd
    · rename_i e; cases hd; cases eq_of_beq e; exact ⟨_, V.int 3, vg2, ⟨_, rfl⟩, fun μ F => .int _⟩
    rw [List.lookup_cons] at hd; split at hd
    · rename_i e; cases hd; cases eq_of_beq e; exact ⟨_, V.int 2, vg3, ⟨_, rfl⟩, fun μ F => .int _⟩
    rw [List.lookup_cons] at hd; split at hd
    · rename_i e; cases hd; cases eq_of_beq e; exact ⟨_, V.int 8, vg4, ⟨_, rfl⟩, fun μ F => .int _⟩
    cases hd
  obtain ⟨a, fd, q1, q2, q3, q4⟩ := all_fn (P := P) (w := w) turns X G hK rows_ok hz hg depth 30 r_law rfl
  cases hfa.symm.trans q1
  exact ⟨fd, fun s v => .of_eq (q3 [v] rfl), fun base _ _ => q4 base⟩
end K00
open PySem PySem.W PyProof.Rows
set_option maxHeartbeats 0 in
theorem PySem.Challenge.cw_lockfree_k00_cells_of_any_number_holds : PySem.Challenge.rw_lockfree_k00_cells_of_any_number.Holds := by
  w_on; o_law; k_head; (case hw => w_witness2)
  k_fill
  refine L2.walk_of (l := PySem.Challenge.rw_lockfree_k00_cells_of_any_number) (n := 63) (k := K00.depth) (x := "script") (CX := fun _ => L2.CX0) (sp := fun w => Ev.spF _ (Ev.fnN K00.T K00.turns K00.depth 30)) rfl (by decide) rfl ⟨rfl, by decide +kernel, by decide +kernel⟩ (fun w h Y => PySem.W.kIn_of Y) ?F (fun _ _ a ns hl _ hS => (K00.law_true ns hl).elim fun S h => Ev.law_start hl hS h _) (fun _ _ _ _ _ h => h)
  case F =>
    intro w mg fa h KX G hmg
    refine' K00.all_mk KX G hmg ?a0 ?l0 ?c0 ?k0 ?a1 ?l1 ?c1 ?k1 ?a2 ?l2 ?c2 ?k2 ?a3 ?l3 ?c3 ?k3 ?a4 ?l4 ?c4 ?k4 ?a5 ?l5 ?c5 ?k5 ?a6 ?l6 ?c6 ?k6 ?a7 ?l7 ?c7 ?k7 ?a8 ?l8 ?c8 ?k8 ?a9 ?l9 ?c9 ?k9 ?a10 ?l10 ?c10 ?k10 ?a11 ?l11 ?c11 ?k11 ?a12 ?l12 ?c12 ?k12 ?a13 ?l13 ?c13 ?k13 ?a14 ?l14 ?c14 ?k14 ?a15 ?l15 ?c15 ?k15 ?a16 ?l16 ?c16 ?k16 ?a17 ?l17 ?c17 ?k17 ?a18 ?l18 ?c18 ?k18 ?a19 ?l19 ?c19 ?k19 ?a20 ?l20 ?c20 ?k20 ?a21 ?l21 ?c21 ?k21 ?a22 ?l22 ?c22 ?k22 ?a23 ?l23 ?c23 ?k23 ?a24 ?l24 ?c24 ?k24 ?a25 ?l25 ?c25 ?k25 ?a26 ?l26 ?c26 ?k26 ?a27 ?l27 ?c27 ?k27 ?a28 ?l28 ?c28 ?k28 ?a29 ?l29 ?c29 ?k29 ?a30 ?l30 ?c30 ?k30 ?z0 ?z1 ?z2 ?z3 ?z4 ?z5 ?z6 ?z7 ?z8 ?z9 ?z10 ?z11 ?z12 ?vg0 ?vg1 ?vg2 ?vg3 ?vg4
    (case a0 => k_is); (case l0 => k_is); (case c0 => k_is); (case k0 => k_is); (case a1 => k_is); (case l1 => k_is); (case c1 => k_is); (case k1 => k_is); (case a2 => k_is); (case l2 => k_is); (case c2 => k_is); (case k2 => k_is); (case a3 => k_is); (case l3 => k_is); (case c3 => k_is); (case k3 => k_is); (case a4 => k_is); (case l4 => k_is); (case c4 => k_is); (case k4 => k_is); (case a5 => k_is); (case l5 => k_is); (case c5 => k_is); (case k5 => k_is); (case a6 => k_is); (case l6 => k_is); (case c6 => k_is); (case k6 => k_is); (case a7 => k_is); (case l7 => k_is); (case c7 => k_is); (case k7 => k_is); (case a8 => k_is); (case l8 => k_is); (case c8 => k_is); (case k8 => k_is); (case a9 => k_is); (case l9 => k_is); (case c9 => k_is); (case k9 => k_is); (case a10 => k_is); (case l10 => k_is); (case c10 => k_is); (case k10 => k_is); (case a11 => k_is); (case l11 => k_is); (case c11 => k_is); (case k11 => k_is); (case a12 => k_is); (case l12 => k_is); (case c12 => k_is); (case k12 => k_is); (case a13 => k_is); (case l13 => k_is); (case c13 => k_is); (case k13 => k_is); (case a14 => k_is); (case l14 => k_is); (case c14 => k_is); (case k14 => k_is); (case a15 => k_is); (case l15 => k_is); (case c15 => k_is); (case k15 => k_is); (case a16 => k_is); (case l16 => k_is); (case c16 => k_is); (case k16 => k_is); (case a17 => k_is); (case l17 => k_is); (case c17 => k_is); (case k17 => k_is); (case a18 => k_is); (case l18 => k_is); (case c18 => k_is); (case k18 => k_is); (case a19 => k_is); (case l19 => k_is); (case c19 => k_is); (case k19 => k_is); (case a20 => k_is); (case l20 => k_is); (case c20 => k_is); (case k20 => k_is); (case a21 => k_is); (case l21 => k_is); (case c21 => k_is); (case k21 => k_is); (case a22 => k_is); (case l22 => k_is); (case c22 => k_is); (case k22 => k_is); (case a23 => k_is); (case l23 => k_is); (case c23 => k_is); (case k23 => k_is); (case a24 => k_is); (case l24 => k_is); (case c24 => k_is); (case k24 => k_is); (case a25 => k_is); (case l25 => k_is); (case c25 => k_is); (case k25 => k_is); (case a26 => k_is); (case l26 => k_is); (case c26 => k_is); (case k26 => k_is); (case a27 => k_is); (case l27 => k_is); (case c27 => k_is); (case k27 => k_is); (case a28 => k_is); (case l28 => k_is); (case c28 => k_is); (case k28 => k_is); (case a29 => k_is); (case l29 => k_is); (case c29 => k_is); (case k29 => k_is); (case a30 => k_is); (case l30 => k_is); (case c30 => k_is); (case k30 => k_is); (case z0 => k_is); (case z1 => k_is); (case z2 => k_is); (case z3 => k_is); (case z4 => k_is); (case z5 => k_is); (case z6 => k_is); (case z7 => k_is); (case z8 => k_is); (case z9 => k_is); (case z10 => k_is); (case z11 => k_is); (case z12 => k_is); (case vg0 => k_is); (case vg1 => k_is); (case vg2 => k_is); (case vg3 => k_is); (case vg4 => k_is)

